import Derived.Test.YthjppoincojfkaaGreatDoorRAMD
import Derived.RangeFuncNested
set_option linter.all false
namespace Go.Abs
open Go Go.RowKit
def Xz(o:Oper):Pa:=(o.after.toList.filter fun e=>Region.binds .any e).map (·.on)
def wA(ops:Array Oper)(i j:Nat):Bool:=
 match ops[i]? with
 |some o=>(Xz o).contains j
 |none=>false
def CD(ops:Array Oper)(i:Nat):Bool:=(List.range i).all fun j=>(List.range (i-j)).any fun d=>wA ops (i-d) j
def wB(ops:Array Oper):Nat->Nat
 |0=>0
 |k+1=>if CD ops k then wB ops k else k+1
def Se(ops:Array Oper):Nat:=wB ops ops.size
def Vk(ops:Array Oper)(i:Nat):Option Nat:=(ops[i]?).bind (·.dst)
def uy(ops:Array Oper)(p:Nat):Bool:=
 decide (p<=ops.size)&&(List.range ops.size).all fun i=>
  match ops[i]? with
  |none=>false
  |some o=>(Xz o).all (fun j=>decide (j<i))&&
   (
    if i<p then
    ((o.looksAt ops).all fun t=>(List.range p).all fun j=>!(Vk ops j==some t)||j==i||(decide (j<i)&&(Xz o).contains j))&&
    ((List.range i).all fun j=>(Vk ops j).isNone||!(Vk ops j==o.dst))
   else CD ops i)
section
variable (P:Program) (gl:Nat->AV) (orc:UV)
def dop(o:SO)(T:P2)(m:AM)(nb:T5):Prop×AV×T5:=
 match o.guard with
 |none=>match o.op with
  |.alloc zs=>(zs.all Qx=true,.ptr (m.boxes.length+nb.length) 0,nb++[zs])
  |.box x=>(bare (ev gl T x)=true/\(cellsOf (ev gl T x)).all Qx=true,.ptr (m.boxes.length+nb.length) 0,nb++[cellsOf (ev gl T x)])
  |.mks sz bytes zs l c=>(match ev gl T l,ev gl T c with
   |.int _ l,.int _ c=>((0<=l/\l<=c/\bytes*c<=281474976710656/\c<=9223372036854775807)/\zs.length=sz/\zs.all Qx=true,.bs (m.boxes.length+nb.length) 0 l.toNat sz,nb++[bF c.toNat zs])
   |_,_=>(False,.junk,nb))
  |op=>((rop P gl orc (ev gl T) m o.dst op).1,(rop P gl orc (ev gl T) m o.dst op).2,nb)
 |some (some t,want)=>match D9 want (T.getD t .junk)with
  |some gw=>(gok gl T gw (gxs o.op o.xs)/\(gw=true->(rop P gl orc (evG gl T o.op) m o.dst o.op).1),.gd gw (rop P gl orc (evG gl T o.op) m o.dst o.op).2,nb)
  |none=>(False,.junk,nb)
 |some (none,_)=>(False,.junk,nb)
def Sf(Y:YT)(l2:List SO)(K:AS->Prop):List SO->P2->AM->T5->Prop
 |[],T,m,nb=>Zn P gl orc Y l2 ⟨T,{m with boxes:=m.boxes++nb}⟩ K
 |o::r,T,m,nb=>(dop P gl orc o T m nb).1/\Sf Y l2 K r (put T o.dst (dop P gl orc o T m nb).2.1) m (dop P gl orc o T m nb).2.2
def Xg(ops:Array Oper)(T0:P2)(m:AM):Nat->P2×T5
 |0=>(T0,[])
 |k+1=>match ops[k]? with
  |some o=>(put (Xg ops T0 m k).1 o.dst (dop P gl orc (Xd P ops o) (Xg ops T0 m k).1 m (Xg ops T0 m k).2).2.1,(dop P gl orc (Xd P ops o) (Xg ops T0 m k).1 m (Xg ops T0 m k).2).2.2)
  |none=>Xg ops T0 m k
end
section
variable {N:Nat} {w0:eT} {r:Option Nat} {an:Nat->Nat->Prop} {S:G×World} {Y:YT} {P:Program} {gl:Nat->AV} {orc:UV} {ops:Array Oper} {T0:P2} {m:AM} {p:Nat}
def Wl{k:Nat}{o:Oper}(h:ops[k]?=some o):Xg P gl orc ops T0 m (k+1)=
  (put (Xg P gl orc ops T0 m k).1 o.dst (dop P gl orc (Xd P ops o) (Xg P gl orc ops T0 m k).1 m (Xg P gl orc ops T0 m k).2).2.1,(dop P gl orc (Xd P ops o) (Xg P gl orc ops T0 m k).1 m (Xg P gl orc ops T0 m k).2).2.2):=by
 simp only[Xg,h]
def Nr(l2:List SO)(K:AS->Prop)(hp:p<=ops.size):∀(n k:Nat),k+n=p->Sf P gl orc Y l2 K (((ops.toList.take p).drop k).map (Xd P ops)) (Xg P gl orc ops T0 m k).1 m (Xg P gl orc ops T0 m k).2->
  (∀i o,k<=i->i<p->ops[i]?=some o->(dop P gl orc (Xd P ops o) (Xg P gl orc ops T0 m i).1 m (Xg P gl orc ops T0 m i).2).1)/\
  Zn P gl orc Y l2 ⟨(Xg P gl orc ops T0 m p).1,{m with boxes:=m.boxes++(Xg P gl orc ops T0 m p).2}⟩ K
 |0,k,hk,h=>by
  obtain rfl:k=p:=zE
  have:(ops.toList.take k).drop k=[]:=zzal (by simp;omega);rw[this]at h;exact⟨fun i o h1 h2=>zE,h⟩
 |n+1,k,hk,h=>by
  have ai:k<ops.size:=zE
  have ho:ops[k]?=some ops[k]:=zzah ai
  have hd:(ops.toList.take p).drop k=ops[k]::(ops.toList.take p).drop (k+1):=by
   rw[zzag (by simp;omega)];simp
  rw[hd,zzaz]at h;obtain⟨h1,h2⟩:=h;have EZ:=Wl (P:=P) (gl:=gl) (orc:=orc) (T0:=T0) (m:=m) ho;have:=Nr l2 K hp n (k+1) zE (by rw[EZ];exact h2);refine⟨fun i o hi dg CE=>?_,this.2⟩;rcases zzaa k i with fq|fq
  ·exact this.1 i o fq dg CE
  obtain rfl:i=k:=zE
  rw[ho]at CE;cases CE;exact h1
def wC(T:P2)(d:Option Nat)(x:AV):(put T d x).length=T.length:=by cases d<;>simp[put]
def jc:∀k,(Xg P gl orc ops T0 m k).1.length=T0.length
 |0=>rfl
 |k+1=>by
  cases h:ops[k]? with
  |none=>simp only[Xg,h];exact jc k
  |some o=>rw[Wl h,wC];exact jc k
def Qch{T:P2}{d:Option Nat}{x:AV}{t:Nat}(h:d≠some t):(put T d x).getD t .junk=T.getD t .junk:=by
 cases d with
 |none=>rfl
 |some d=>simp only[put,List.getD];rw[zzbn (by rintro rfl;exact h rfl)]
def Ws{T:P2}{t:Nat}{x:AV}(h:t<T.length):(put T (some t) x).getD t .junk=x:=by
 simp[put,List.getD,h]
def Qen{t:Nat}:∀k,(∀j,j<k->Vk ops j≠some t)->(Xg P gl orc ops T0 m k).1.getD t .junk=T0.getD t .junk
 |0,_=>rfl
 |k+1,h=>by
  cases ho:ops[k]? with
  |none=>simp only[Xg,ho];exact Qen k fun j hj=>h j zE
  |some o=>
   rw[Wl ho,Qch (by have:=h k zE;simpa[Vk,ho]using this)];exact Qen k fun j hj=>h j zE
def kN{t k:Nat}:∀n,(∀j,k<=j->j<k+n->Vk ops j≠some t)->(Xg P gl orc ops T0 m (k+n)).1.getD t .junk=(Xg P gl orc ops T0 m k).1.getD t .junk
 |0,_=>rfl
 |n+1,h=>by
  rw[<- zzan];cases ho:ops[k+n]? with
  |none=>simp only[Xg,ho];exact kN n fun j h1 h2=>h j h1 zE
  |some o=>
   rw[Wl ho,Qch (by have:=h (k+n) zE zE;simpa[Vk,ho]using this)];exact kN n fun j h1 h2=>h j h1 zE
def akR{o:Oper}{T:P2}{nb:T5}:
  ((dop P gl orc (Xd P ops o) T m nb).2.2=nb)\/(∃cells,(dop P gl orc (Xd P ops o) T m nb).2.2=nb++[cells]):=by
 unfold dop;split
 ·split
  ·exact .inr ⟨_,rfl⟩
  ·exact .inr ⟨_,rfl⟩
  ·split
   ·exact .inr ⟨_,rfl⟩
   exact .inl rfl
  exact .inl rfl
 ·split
  ·exact .inl rfl
  exact .inl rfl
 exact .inl rfl
def kP(P:Program)(gl:Nat->AV)(orc:UV)(ops:Array Oper)(T0:P2)(m:AM)(k:Nat):Nat:=(Xg P gl orc ops T0 m k).2.length
def Ns(k:Nat):(Xg P gl orc ops T0 m (k+1)).2=(Xg P gl orc ops T0 m k).2\/∃cells,(Xg P gl orc ops T0 m (k+1)).2=(Xg P gl orc ops T0 m k).2++[cells]:=by
 cases ho:ops[k]? with
 |none=>exact .inl (by simp only[Xg,ho])
 |some o=>rw[Wl ho];exact akR
def E3(k:Nat):kP P gl orc ops T0 m (k+1)=kP P gl orc ops T0 m k\/kP P gl orc ops T0 m (k+1)=kP P gl orc ops T0 m k+1:=by
 unfold kP;rcases Ns (P:=P) (gl:=gl) (orc:=orc) (ops:=ops) (T0:=T0) (m:=m) k with h|⟨c,h⟩
 ·rw[h];exact .inl rfl
 rw[h];exact .inr zd
def E4{j:Nat}:∀n,kP P gl orc ops T0 m j<=kP P gl orc ops T0 m (j+n)
 |0=>zzab _
 |n+1=>by
  have:=E4 (j:=j) n;rcases E3 (P:=P) (gl:=gl) (orc:=orc) (ops:=ops) (T0:=T0) (m:=m) (j+n)with h|h<;>rw[<- zzan]<;>omega
def VI{i j:Nat}(h:i<=j):kP P gl orc ops T0 m i<=kP P gl orc ops T0 m j:=by
 have:=E4 (P:=P) (gl:=gl) (orc:=orc) (ops:=ops) (T0:=T0) (m:=m) (j:=i) (j-i);rwa [show i+(j-i)=j by omega]at this
def VJ{i:Nat}:∀n{q:Nat}{c:P2},(Xg P gl orc ops T0 m i).2[q]?=some c->(Xg P gl orc ops T0 m (i+n)).2[q]?=some c
 |0,_,_,h=>h
 |n+1,q,c,h=>by
  have ih:=VJ n h;rw[<- zzan];rcases Ns (P:=P) (gl:=gl) (orc:=orc) (ops:=ops) (T0:=T0) (m:=m) (i+n)with e|⟨c',e⟩
  ·rw[e];exact ih
  rw[e,zzaj (zza.1 ih).1];exact ih
def Io(P:Program)(gl:Nat->AV)(orc:UV)(ops:Array Oper)(T0:P2)(m:AM)(i:Nat):Bool:=kP P gl orc ops T0 m (i+1)==kP P gl orc ops T0 m i+1
def E5{q:Nat}:∀k,q<kP P gl orc ops T0 m k->∃i,i<k/\Io P gl orc ops T0 m i=true/\kP P gl orc ops T0 m i=q
 |0,h=>by simp[kP,Xg]at h
 |k+1,h=>by
  rcases zzaa q (kP P gl orc ops T0 m k)with h'|h'
  ·obtain⟨i,h1,h2,h3⟩:=E5 k h';exact⟨i,zE,h2,h3⟩
  rcases E3 (P:=P) (gl:=gl) (orc:=orc) (ops:=ops) (T0:=T0) (m:=m) k with e|e
  ·omega
  exact⟨k,zE,by simp[Io,e],zE⟩
def AO(P:Program)(gl:Nat->AV)(orc:UV)(ops:Array Oper)(T0:P2)(m:AM)(p:Nat)(listed:Array Bool)(id:Nat):PH:=
 if id<m.boxes.length then m.boxes[id]?
 else if(List.range p).any fun i=>listed.getD i false&&(Io P gl orc ops T0 m i&&decide (m.boxes.length+kP P gl orc ops T0 m i=id))then(Xg P gl orc ops T0 m p).2[id-m.boxes.length]? else none
def wr(ops:Array Oper)(p:Nat)(listed:Array Bool)(t:Nat):Bool:=(List.range p).any fun i=>listed.getD i false&&(Vk ops i==some t)
def At(P:Program)(gl:Nat->AV)(orc:UV)(ops:Array Oper)(T0:P2)(m:AM)(p:Nat)(listed:Array Bool)(t:Nat):AV:=
 if wr ops p listed t then(Xg P gl orc ops T0 m p).1.getD t .junk else T0.getD t .junk
structure PI (N:Nat) (w0:eT) (r:Option Nat) (an:Nat->Nat->Prop) (S:G×World) (Y:YT) (P:Program) (gl:Nat->AV) (orc:UV) (ops:Array Oper) (T0:P2) (m:AM) (p:Nat) (listed:Array Bool) (γ:G) (w:World) (a:Act):Prop where
 size:listed.size=ops.size
 tail:∀i,p<=i->i<ops.size->listed.getD i true=false
 clo:∀i o,listed.getD i false=true->ops[i]?=some o->∀j∈Xz o,listed.getD j false=true
 mm:au N w0 an γ w (AO P gl orc ops T0 m p listed) m.L
 ls:cT γ w m
 rd:Rdr r γ w
 tl:a.tmps.size=T0.length
 tt:∀t,aA w γ (At P gl orc ops T0 m p listed t) (a.tmps.getD t undef)
 d:Dfr S.2.heap.size γ w a.defers
 g:∀g,aA w γ.cV (gl g) (.pointer (some ⟨g,0,none⟩))
 y:YOK N w0 an P Y γ w
 e:ez S.2 S.1 w γ
def Xu{listed:Array Bool}{i:Nat}{b:Bool}(h:i<listed.size):(listed.setIfInBounds i true).getD i b=true:=by
 simp[h]
def Qw{listed:Array Bool}{i j:Nat}{b:Bool}(h:j≠i):(listed.setIfInBounds i true).getD j b=listed.getD j b:=by
 simp[zzcp (Ne.symm h)]
def adz{listed:Array Bool}{id:Nat}{cells:P2}(h:m.boxes[id]?=some cells):AO P gl orc ops T0 m p listed id=some cells:=by
 unfold AO;rw[if_pos (zza.1 h).1];exact h
def VK{listed:Array Bool}{i:Nat}(hn:Io P gl orc ops T0 m i=false):AO P gl orc ops T0 m p (listed.setIfInBounds i true)=AO P gl orc ops T0 m p listed:=by
 funext id;unfold AO;congr 1
 have:((List.range p).any fun j=>(listed.setIfInBounds i true).getD j false&&(Io P gl orc ops T0 m j&&decide (m.boxes.length+kP P gl orc ops T0 m j=id)))=
   ((List.range p).any fun j=>listed.getD j false&&(Io P gl orc ops T0 m j&&decide (m.boxes.length+kP P gl orc ops T0 m j=id))):=by
  congr 1;funext j;by_cases hj:j=i
  ·subst hj;simp[hn]
  rw[Qw hj]
 rw[this]
def adA{i j:Nat}(hi:Io P gl orc ops T0 m i=true)(hj:Io P gl orc ops T0 m j=true)(h:kP P gl orc ops T0 m i=kP P gl orc ops T0 m j):i=j:=by
 simp only[Io,beq_iff_eq]at hi hj;rcases zzdq i j with h'|h'|h'
 ·have:=VI (P:=P) (gl:=gl) (orc:=orc) (ops:=ops) (T0:=T0) (m:=m) (i:=i+1) (j:=j) h';omega
 ·exact h'
 have:=VI (P:=P) (gl:=gl) (orc:=orc) (ops:=ops) (T0:=T0) (m:=m) (i:=j+1) (j:=i) h';omega
def AP{listed:Array Bool}{i:Nat}(hn:Io P gl orc ops T0 m i=true)(hl:listed.getD i false=false):AO P gl orc ops T0 m p listed (m.boxes.length+kP P gl orc ops T0 m i)=none:=by
 unfold AO;rw[if_neg zE,if_neg];intro h;obtain⟨j,_,h⟩:=zzbr.1 h;simp only[zzac,decide_eq_true_eq]at h;obtain⟨h1,h2,h3⟩:=h;have:=adA h2 hn zE;subst this;rw[hl]at h1;cases h1
def Nt{listed:Array Bool}{i:Nat}{cells:P2}(dg:i<p)(hsz:i<listed.size)(hn:Io P gl orc ops T0 m i=true)(hc:(Xg P gl orc ops T0 m p).2[kP P gl orc ops T0 m i]?=some cells):
  AO P gl orc ops T0 m p (listed.setIfInBounds i true)=fun id=>if id=m.boxes.length+kP P gl orc ops T0 m i then some cells else AO P gl orc ops T0 m p listed id:=by
 funext id;by_cases aL:id=m.boxes.length+kP P gl orc ops T0 m i
 ·rw[if_pos aL];unfold AO;rw[if_neg zE,if_pos]
  ·rw[aL,zzdu];exact hc
  rw[zzbr];exact⟨i,zzav.2 dg,by rw[Xu hsz,hn];simp[aL]⟩
 rw[if_neg aL];unfold AO;congr 1
 have:((List.range p).any fun j=>(listed.setIfInBounds i true).getD j false&&(Io P gl orc ops T0 m j&&decide (m.boxes.length+kP P gl orc ops T0 m j=id)))=
   ((List.range p).any fun j=>listed.getD j false&&(Io P gl orc ops T0 m j&&decide (m.boxes.length+kP P gl orc ops T0 m j=id))):=by
  congr 1;funext j;by_cases hj:j=i
  ·subst hj;have:decide (m.boxes.length+kP P gl orc ops T0 m j=id)=false:=by simp;omega
   simp[this]
  rw[Qw hj]
 rw[this]
def adB{listed:Array Bool}(bD:∀i,i<p->listed.getD i false=true):AO P gl orc ops T0 m p listed=({m with boxes:=m.boxes++(Xg P gl orc ops T0 m p).2}:AM).B:=by
 funext id;unfold AO;simp only[AM.B];split
 ·rename_i h;rw[zzaj h]
 rename_i h;rw[zzap zE];split
 ·rfl
 rename_i hn;rcases zzaa (id-m.boxes.length) (Xg P gl orc ops T0 m p).2.length with hq|hq
 ·obtain⟨i,h1,h2,h3⟩:=E5 (P:=P) (gl:=gl) (orc:=orc) (ops:=ops) (T0:=T0) (m:=m) (q:=id-m.boxes.length) p hq;exfalso;apply hn;rw[zzbr];exact⟨i,zzav.2 h1,by rw[bD i h1,h2];simp;omega⟩
 rw[zzat hq]
def AQ{α:Type}{f g:α->Bool}:∀{l:List α}{x:α},(∀y,f y=true->g y=true)->x∈l->g x=true->f x=false->l.countP f<l.countP g
 |y::l,x,hfg,hx,hg,hf=>by
  have cB:l.countP f<=l.countP g:=List.countP_mono_left fun y _=>hfg y;rw[List.countP_cons,List.countP_cons];rcases zzao.1 hx with rfl|hx
  ·rw[hg,hf];simp;omega
  have:=AQ hfg hx hg hf;by_cases h1:f y=true
  ·rw[h1,hfg y h1];simp;omega
  have mX:f y=false:=by simpa using h1
  rw[mX];simp only[zzbh,if_false,zzcn];exact zzay this (Nat.le_add_right _ _)
def uc(ops:Array Oper)(listed:Array Bool):Nat:=(List.range ops.size).countP fun i=>!listed.getD i true
def jd{listed:Array Bool}{i:Nat}(hsz:listed.size=ops.size)(hi:i<ops.size)(hl:listed.getD i true=false):uc ops (listed.setIfInBounds i true)<uc ops listed:=by
 unfold uc;refine AQ (x:=i) (fun j hj=>?_) (zzav.2 hi) (by rw[hl];rfl) (by rw[Xu zE];rfl);by_cases Av:j=i
 ·subst Av;rw[hl];rfl
 rw[Qw Av]at hj;exact hj
def Qdx{listed:Array Bool}(h:uc ops listed=0){i:Nat}(hi:i<ops.size):listed.getD i true=true:=by
 unfold uc at h;have:=List.countP_eq_zero.1 h i (zzav.2 hi);simpa using this
def Xb{listed:Array Bool}{i:Nat}(hi:i<listed.size)(b b':Bool):listed.getD i b=listed.getD i b':=by simp[hi]
def Zc(h:uy ops p=true):p<=ops.size/\∀i o,ops[i]?=some o->(∀j∈Xz o,j<i)/\
  (i<p->(∀t∈o.looksAt ops,∀j,j<p->Vk ops j=some t->j≠i->j<i/\j∈Xz o)/\(∀j,j<i->∀t,Vk ops j=some t->o.dst≠some t))/\
  (p<=i->CD ops i=true):=by
 unfold uy at h;simp only[zzac,decide_eq_true_eq,zzas]at h;obtain⟨hp,h⟩:=h;refine⟨hp,fun i o ho=>?_⟩;have hi:i<ops.size:=(zzbw.1 ho).1;have:=h i (zzav.2 hi);simp only[ho,zzac,zzas,decide_eq_true_eq]at this;obtain⟨h1,h2⟩:=this;refine⟨h1,fun dg=>?_,fun dg=>?_⟩
 ·rw[if_pos dg]at h2;simp only[zzac,zzas]at h2;obtain⟨h3,h4⟩:=h2;refine⟨fun t ht j hj hd aO=>?_,fun j hj t hd cQ=>?_⟩
  ·have:=h3 t ht j (zzav.2 hj);simp[hd,aO]at this;exact⟨this.1,this.2⟩
  have:=h4 j (zzav.2 hj);simp[hd,cQ]at this
 rw[if_neg zE]at h2;exact h2
def E6(ops:Array Oper)(listed:Array Bool):Prop:=∀i o,listed.getD i false=true->ops[i]?=some o->∀j∈Xz o,listed.getD j false=true
def E6.set{listed:Array Bool}(h:E6 ops listed){i:Nat}{o:Oper}(ho:ops[i]?=some o)(hsz:i<listed.size)(bT:∀j∈Xz o,listed.getD j false=true):E6 ops (listed.setIfInBounds i true):=by
 have ah3:∀k,listed.getD k false=true->(listed.setIfInBounds i true).getD k false=true:=fun k hk=>by
  by_cases qQ:i=k
  ·subst qQ;exact Xu hsz
  rw[Qw (Ne.symm qQ)];exact hk
 intro k o' hk cQ j hj;by_cases qQ:i=k
 ·subst qQ;rw[ho]at cQ;cases cQ;exact ah3 j (bT j hj)
 rw[Qw (Ne.symm qQ)]at hk;exact ah3 j (h k o' hk cQ j hj)
def Qbl{listed:Array Bool}(zG:E6 ops listed){i:Nat}{o:Oper}(ho:ops[i]?=some o)(ht:CD ops i=true)(bT:∀j∈Xz o,listed.getD j false=true):∀(n j:Nat),j<i->i-j<=n->listed.getD j false=true
 |0,j,h1,h2=>zE
 |n+1,j,h1,h2=>by
  obtain⟨d,hd,hw⟩:=zzbr.1 (zzas.1 ht j (zzav.2 h1));have hdl:=zzav.1 hd;unfold wA at hw;split at hw
  ·rename_i o' cQ;have hm:j∈Xz o':=by simpa using hw
   by_cases h0:d=0
   ·subst h0;rw[zzfc,ho]at cQ;cases cQ;exact bT j hm
   exact zG (i-d) o' (Qbl zG ho ht bT n (i-d) zE zE) cQ j hm
  cases hw
def nj{o:Oper}{j:Nat}:j∈Xz o<->∃e∈o.after,Region.binds .any e=true/\e.on=j:=by
 simp[Xz];constructor
 ·rintro⟨e,⟨h1,h2⟩,rfl⟩;exact⟨e,h1,h2,rfl⟩
 rintro⟨e,h1,h2,rfl⟩;exact⟨e,⟨h1,h2⟩,rfl⟩
def Un(hc:uy ops p=true){listed:Array Bool}(hsz:listed.size=ops.size):∀(n i:Nat),i<=n->i<ops.size->listed.getD i true=false->∃j,j∈Region.ready .any ops listed
 |0,i,bQ,hi,hl=>by
  obtain rfl:i=0:=zE
  have ho:ops[0]?=some ops[0]:=zzah hi;refine⟨0,mem_ready.2 ⟨hl,ops[0],ho,fun e he hb=>?_⟩⟩;have:=((Zc hc).2 0 _ ho).1 e.on (nj.2 ⟨e,he,hb,rfl⟩);omega
 |n+1,i,bQ,hi,hl=>by
  by_cases hex:∃j,j<i/\listed.getD j true=false
  ·obtain⟨j,hj,JP⟩:=hex;exact Un hc hsz n j zE zE JP
  have ho:ops[i]?=some ops[i]:=zzah hi;refine⟨i,mem_ready.2 ⟨hl,ops[i],ho,fun e he hb=>?_⟩⟩;have ai:=((Zc hc).2 i _ ho).1 e.on (nj.2 ⟨e,he,hb,rfl⟩)
  have:listed.getD e.on true=true:=by
   cases h:listed.getD e.on true with
   |true=>rfl
   |false=>exact absurd ⟨e.on,ai,h⟩ hex
  rw[Xb zE false true];exact this
def Uo(hc:uy ops p=true){listed:Array Bool}{i:Nat}(hr:i∈Region.ready .any ops listed):i<ops.size/\listed.getD i true=false/\∃o,ops[i]?=some o/\∀j∈Xz o,listed.getD j false=true:=by
 obtain⟨h1,o,ho,h2⟩:=mem_ready.1 hr;refine⟨(zzbw.1 ho).1,h1,o,ho,fun j hj=>?_⟩;obtain⟨e,he,hb,rfl⟩:=nj.1 hj;exact h2 e he hb
def Qdz{Q:PP}{K:AS->Prop}(hQ:∀γ w s a,K s->ek N w0 r an S P gl Y γ w s a->Q .normal a w)(hc:uy ops p=true):
  ∀(aT k:Nat)(listed:Array Bool)(γ:G)(w:World)(s:AS)(a:Act),p<=k->k<=ops.size->listed.size=ops.size->(∀j,j<k->listed.getD j false=true)->(∀j,k<=j->j<ops.size->listed.getD j true=false)->
   uc ops listed<=aT->Zn P gl orc Y ((ops.toList.drop k).map (Xd P ops)) s K->ek N w0 r an S P gl Y γ w s a->wpAnyIn (FW r) 0 P .any ops Q aT listed a w:=by
 intro aT;induction aT with
 |zero=>
  intro k listed γ w s a E7 hk hsz hlo hhi je h hs
  have D8:k=ops.size:=by
   rcases zzaa k ops.size with h'|h'
   ·have:=Qdx (zzex.1 je) h';rw[hhi k (zzab _) h']at this;cases this
   omega
  have hd:ops.toList.drop k=[]:=zzal (by simp;omega);rw[hd]at h;refine⟨?_,hQ γ w s a h hs⟩;rw[List.eq_nil_iff_forall_not_mem];intro i hi;obtain⟨ai,hu,_⟩:=Uo hc hi;have:=Qdx (zzex.1 je) ai;rw[hu]at this;cases this
 |succ aT ih=>
  intro k listed γ w s a E7 hk hsz hlo hhi je h hs;refine⟨fun hr=>?_,fun i hi=>?_⟩
  ·have D8:k=ops.size:=by
    rcases zzaa k ops.size with h'|h'
    ·obtain⟨j,hj⟩:=Un hc hsz k k (zzab _) h' (hhi k (zzab _) h');rw[hr]at hj;cases hj
    omega
   have hd:ops.toList.drop k=[]:=zzal (by simp;omega);rw[hd]at h;exact hQ γ w s a h hs
  obtain⟨ai,hu,o,ho,bT⟩:=Uo hc hi
  have fq:k<=i:=by
   rcases zzaa i k with h'|h'
   ·have:=hlo i h';rw[Xb zE false true,hu]at this;cases this
   exact h'
  have qQ:i=k:=by
   rcases zzaa k i with h'|h'
   ·have zG:E6 ops listed:=fun x ox hx hox j hj=>by
     have hxk:x<k:=by
      rcases zzaa x k with h1|h1
      ·exact h1
      have hxs:x<ops.size:=(zzbw.1 hox).1;rw[Xb zE false true,hhi x h1 hxs]at hx;cases hx
     have:=((Zc hc).2 x ox hox).1 j hj;exact hlo j zE
    have:=Qbl zG ho (((Zc hc).2 i o ho).2.2 zE) bT i k h' zE;rw[Xb zE false true,hhi k (zzab _) zE]at this;cases this
   omega
  subst qQ;refine wpOpIn_mono ?_ (wz ai hs h);rintro a' w' ⟨γ',s',dK,h'⟩;refine ih (i+1) _ γ' w' s' a' zE ai (by simp[hsz]) (fun j hj=>?_) (fun j dW ou=>?_) ?_ h' dK
  ·rcases zzaa j i with h'|h'
   ·rw[Qw zE];exact hlo j h'
   obtain rfl:j=i:=zE
   exact Xu zE
  ·rw[Qw zE];exact hhi j zE ou
  have:=jd hsz ai hu;omega
def adC{P:Program}{w:World}{γ:G}{te:TypeId}{zs:P2}{i:TypeInfo}{z:Value}{n:Nat}(JD:ak w γ zs z.cells.toList)(g5:zs.all Qx=true)(g4:zs.length=i.size):
  cw w γ (bF n zs) (madeCells z.cells (n*i.size)).toList/\∀v∈(madeCells z.cells (n*i.size)).toList,v.oneCell'=true:=by
 have gC:=Yp JD g5;have EV:z.cells.size=zs.length:=by have:=JD.1;simp at this;omega
 refine⟨⟨by simp[Km,size_madeCells,g4],fun k c v j1 j2=>?_⟩,fun v hv=>?_⟩
 ·obtain⟨q1,q2⟩:=kM j1
  have h0:0<zs.length:=by
   rcases zzci zs.length with h0|h0
   ·simp[h0]at q1
   exact h0
  have ai:k%zs.length<z.cells.size:=by rw[EV];exact zze _ h0
  have ER:v=z.cells[k%zs.length]:=by
   simp only[madeCells,zzc,zzfz]at j2;rw[zzah (by simp;rw[<- g4];exact q1)]at j2;simp[EV]at j2;rw[<- j2,getElem!_pos z.cells _ ai]
  subst ER;exact JD.2 _ c _ q2 (by simp[ai])
 simp[madeCells]at hv;obtain⟨k,hk,rfl⟩:=hv
 have h0:0<z.cells.size:=by
  rcases zzci z.cells.size with h0|h0
  ·rw[h0]at EV;rw[<- g4,<- EV]at hk;simp at hk
  exact h0
 have ai:k%z.cells.size<z.cells.size:=zze _ h0;rw[getElem!_pos z.cells _ ai];exact gC _ zd
def akS{o:Oper}{sz bytes:Nat}{zs:P2}{x y:bE}(h:tr P o=.mks sz bytes zs x y):∃t l c te i,o.op=.makeSlice t l c/\x=aC l/\y=aC c/\P.underlying t=some (.slice te)/\P.info? te=some i/\sz=i.size/\bytes=i.bytes/\zc P te=some zs:=by
 obtain⟨dst,op,ty,pos,after,guard⟩:=o;cases op
 case makeSlice t l c=>
  simp only[tr]at h;split at h
  ·rename_i te hu;split at h
   ·split at h<;>cases h
   ·rename_i i hi _;split at h
    ·rename_i zs' hz;cases h;exact⟨t,_,_,te,i,rfl,rfl,rfl,hu,hi,rfl,rfl,hz⟩
    cases h
   cases h
  cases h
 case call c=>
  simp only[tr,Zt]at h;repeat' split at h
  all_goals cases h
 case build t parts=>
  simp only[tr,Wo]at h;repeat' split at h
  all_goals cases h
 case slice t x lo hi mx=>cases mx<;>simp only[tr]at h<;>(repeat' split at h)<;>cases h
 case makeFunc fn a b=>cases fn<;>cases h
 case next x s=>cases s<;>cases h
 case makeMap t r=>cases r<;>simp only[tr]at h<;>(repeat' split at h)<;>cases h
 case binOp op t x y t'=>
  simp only[tr,lV,Qco,zw]at h;repeat' split at h
  all_goals cases h
 all_goals first|(cases h;done)|(
  simp only[tr]at h;repeat' split at h
  all_goals cases h)
def wD(c:Call)(zs:P2):Zt P c≠.alloc zs:=by
 intro h;obtain⟨callee,args,ts⟩:=c;cases callee with
 |builtin b=>cases b<;>simp only[Zt]at h<;>(repeat' split at h)<;>cases h
 |_=>cases h
def CF(c:Call)(x:bE):Zt P c≠.box x:=by
 intro h;obtain⟨callee,args,ts⟩:=c;cases callee with
 |builtin b=>cases b<;>simp only[Zt]at h<;>(repeat' split at h)<;>cases h
 |_=>cases h
def VL{o:Oper}{zs:P2}(h:tr P o=.alloc zs):∃t,o.op=.alloc t/\zc P t=some zs:=by
 obtain⟨dst,op,ty,pos,after,guard⟩:=o;cases op
 case alloc t=>
  simp only[tr]at h;split at h
  ·rename_i zs' hz;cases h;exact⟨t,rfl,hz⟩
  cases h
 case call c=>exact absurd h (wD c zs)
 case build t parts=>
  simp only[tr,Wo]at h;repeat' split at h
  all_goals cases h
 case slice t x lo hi mx=>cases mx<;>simp only[tr]at h<;>(repeat' split at h)<;>cases h
 case makeFunc fn a b=>cases fn<;>cases h
 case next x s=>cases s<;>cases h
 case makeMap t r=>cases r<;>simp only[tr]at h<;>(repeat' split at h)<;>cases h
 case binOp op t x y t'=>
  simp only[tr,lV,Qco,zw]at h;repeat' split at h
  all_goals cases h
 all_goals first|(cases h;done)|(
  simp only[tr]at h;repeat' split at h
  all_goals cases h)
def akT{o:Oper}{x:bE}(h:tr P o=.box x):∃t y,o.op=.box t y/\x=aC y:=by
 obtain⟨dst,op,ty,pos,after,guard⟩:=o;cases op
 case box t y=>cases h;exact⟨t,y,rfl,rfl⟩
 case call c=>exact absurd h (CF c x)
 case build t parts=>
  simp only[tr,Wo]at h;repeat' split at h
  all_goals cases h
 case slice t x lo hi mx=>cases mx<;>simp only[tr]at h<;>(repeat' split at h)<;>cases h
 case makeFunc fn a b=>cases fn<;>cases h
 case next x s=>cases s<;>cases h
 case makeMap t r=>cases r<;>simp only[tr]at h<;>(repeat' split at h)<;>cases h
 case binOp op t x y t'=>
  simp only[tr,lV,Qco,zw]at h;repeat' split at h
  all_goals cases h
 all_goals first|(cases h;done)|(
  simp only[tr]at h;repeat' split at h
  all_goals cases h)
def awf(hc:uy ops p=true){listed:Array Bool}(hsz:listed.size=ops.size){i:Nat}{o:Oper}(ho:ops[i]?=some o)(dg:i<p)(hu:listed.getD i true=false)(bT:∀j∈Xz o,listed.getD j false=true)
  {t:Nat}(ht:t∈o.looksAt ops):(Xg P gl orc ops T0 m i).1.getD t .junk=At P gl orc ops T0 m p listed t:=by
 have hi:i<ops.size:=(zzbw.1 ho).1;obtain⟨hp,cZ⟩:=Zc hc;unfold At;by_cases hex:∃j,j<p/\Vk ops j=some t/\j≠i
 ·obtain⟨j,hj,hd,aO⟩:=hex;obtain⟨Av,hja⟩:=((cZ i o ho).2.1 dg).1 t ht j hj hd aO
  have hw:wr ops p listed t=true:=by
   unfold wr;rw[zzbr];exact⟨j,zzav.2 hj,by rw[bT j hja,hd];simp⟩
  rw[if_pos hw]
  have:=kN (P:=P) (gl:=gl) (orc:=orc) (ops:=ops) (T0:=T0) (m:=m) (t:=t) (k:=i) (p-i) fun k dD ee E8=>by
   have hk:k<ops.size:=zE
   have E9:ops[k]?=some ops[k]:=zzah hk;have:=((cZ k _ E9).2.1 zE).2 j zE t hd;simp[Vk,E9]at E8;exact this E8
  rw[show i+(p-i)=p by omega]at this;exact this.symm
 have hw:wr ops p listed t=false:=by
  unfold wr;rw[zzdj];intro j hj;simp only[zzac,beq_iff_eq,not_and];intro hl hd;by_cases Av:j=i
  ·subst Av;rw[Xb zE false true,hu]at hl;cases hl
  exact hex ⟨j,zzav.1 hj,hd,Av⟩
 rw[hw];simp only[zzbh,if_false];exact Qen i fun j hj hd=>hex ⟨j,zE,hd,zE⟩
def akU(hc:uy ops p=true){listed:Array Bool}(hsz:listed.size=ops.size){i:Nat}{o:Oper}(ho:ops[i]?=some o)(dg:i<p){t:Nat}:
  At P gl orc ops T0 m p (listed.setIfInBounds i true) t=if o.dst=some t/\t<T0.length then(dop P gl orc (Xd P ops o) (Xg P gl orc ops T0 m i).1 m (Xg P gl orc ops T0 m i).2).2.1 else At P gl orc ops T0 m p listed t:=by
 have hi:i<ops.size:=(zzbw.1 ho).1;obtain⟨hp,cZ⟩:=Zc hc;by_cases hd:o.dst=some t
 ·have hw:wr ops p (listed.setIfInBounds i true) t=true:=by
   unfold wr;rw[zzbr];exact⟨i,zzav.2 dg,by rw[Xu zE];simp[Vk,ho,hd]⟩
  have hl:=kN (P:=P) (gl:=gl) (orc:=orc) (ops:=ops) (T0:=T0) (m:=m) (t:=t) (k:=i+1) (p-(i+1)) fun k dD ee E8=>by
   have hk:k<ops.size:=zE
   have E9:ops[k]?=some ops[k]:=zzah hk;have:=((cZ k _ E9).2.1 zE).2 i zE t (by simp[Vk,ho,hd]);simp[Vk,E9]at E8;exact this E8
  rw[show i+1+(p-(i+1))=p by omega]at hl;by_cases ht:t<T0.length
  ·rw[if_pos ⟨hd,ht⟩];unfold At;rw[if_pos hw,hl,Wl ho,hd];exact Ws (by rw[jc];exact ht)
  rw[if_neg (by simp[ht])]
  have h1:∀k,(Xg P gl orc ops T0 m k).1.getD t .junk=.junk:=fun k=>by
   have:=jc (P:=P) (gl:=gl) (orc:=orc) (ops:=ops) (T0:=T0) (m:=m) k;simp only[List.getD];rw[zzat zE];rfl
  have h2:T0.getD t .junk=.junk:=h1 0;unfold At;rw[h1 p,h2];simp
 rw[if_neg (by simp[hd])]
 have hw:wr ops p (listed.setIfInBounds i true) t=wr ops p listed t:=by
  unfold wr;congr 1;funext j;by_cases hj:j=i
  ·subst hj;have hb:(o.dst==some t)=false:=by simpa using hd
   simp[Vk,ho,hb]
  rw[Qw hj]
 unfold At;rw[hw]
def JQ(hc:uy ops p=true){Q:PP}{listed:Array Bool}{γ:G}{w:World}{a:Act}(hI:PI N w0 r an S Y P gl orc ops T0 m p listed γ w a){i:Nat}{o:Oper}(ho:ops[i]?=some o)(dg:i<p)
  (hu:listed.getD i true=false)(bT:∀j∈Xz o,listed.getD j false=true)(bR:(dop P gl orc (Xd P ops o) (Xg P gl orc ops T0 m i).1 m (Xg P gl orc ops T0 m i).2).1):
  wpOpIn (FW r) 0 P ops Q i (fun a' w'=>∃γ',PI N w0 r an S Y P gl orc ops T0 m p (listed.setIfInBounds i true) γ' w' a') a w:=by
 have hi:i<ops.size:=(zzbw.1 ho).1
 have zH:∀t∈o.looksAt ops,aA w γ ((Xg P gl orc ops T0 m i).1.getD t .junk) (a.tmps.getD t undef):=fun t ht=>by
  rw[awf (P:=P) (gl:=gl) (orc:=orc) (T0:=T0) (m:=m) hc hI.size ho dg hu bT ht];exact hI.tt t
 have dn:∀x∈o.op.operands,aA w γ (ev gl (Xg P gl orc ops T0 m i).1 (aC x)) (a.eval x):=fun x hx=>by
  cases x with
  |tmp t=>exact zH t (by simp only[Oper.looksAt,zzam,zzfd];exact .inl ⟨.tmp t,Nm hx,rfl⟩)
  |const v=>exact Kc w γ v
  |func f=>exact .fn rfl (fun i c v h=>by simp at h) rfl fun i c v h=>by simp at h
  |global g=>exact(hI.g g).gq
 have hB:∀id cells,m.boxes[id]?=some cells->AO P gl orc ops T0 m p listed id=some cells:=fun id cells h=>adz h
 have fin:∀{v:Value}{w':World}{γ':G},Ev w γ w' γ'->au N w0 an γ' w' (AO P gl orc ops T0 m p (listed.setIfInBounds i true)) m.L->
   aA w' γ' (dop P gl orc (Xd P ops o) (Xg P gl orc ops T0 m i).1 m (Xg P gl orc ops T0 m i).2).2.1 v->∃γ',PI N w0 r an S Y P gl orc ops T0 m p (listed.setIfInBounds i true) γ' w' (a.put o.dst v):=fun{v w' γ'}he hm hr=>by
  refine⟨γ',by simp[hI.size],fun j dW ou=>by rw[Qw zE];exact hI.tail j dW ou,E6.set hI.clo ho (by rw[hI.size];exact hi) bT,hm,hI.ls.mono he,hI.rd.aU he.cI,?_,fun t=>?_,?_,fun g=>(hI.g g).mono he.cV,hI.y.mono he.cI,hI.e.trans he.cI⟩
  ·cases hd:o.dst<;>simp[Act.put,hI.tl]
  ·rw[akU hc hI.size ho dg];by_cases hd:o.dst=some t
   ·by_cases ht:t<T0.length
    ·rw[if_pos ⟨hd,ht⟩,hd];have:(a.put (some t) v).tmps.getD t undef=v:=by simp[Act.put,hI.tl,ht]
     rw[this];exact hr
    rw[if_neg (by simp[ht]),hd];have:(a.put (some t) v).tmps.getD t undef=a.tmps.getD t undef:=by simp[Act.put,hI.tl,ht]
    rw[this];exact(hI.tt t).mono he
   rw[if_neg (by simp[hd])]
   have:(a.put o.dst v).tmps.getD t undef=a.tmps.getD t undef:=by
    cases zz:o.dst with
    |none=>rfl
    |some d=>simp only[Act.put];simp;rw[zzcp (by rintro rfl;exact hd zz)]
   rw[this];exact(hI.tt t).mono he
  cases hd:o.dst<;>exact hI.d.aU he.cI
 have dO:=Wl (P:=P) (gl:=gl) (orc:=orc) (T0:=T0) (m:=m) ho
 have PJ:∀cells,(dop P gl orc (Xd P ops o) (Xg P gl orc ops T0 m i).1 m (Xg P gl orc ops T0 m i).2).2.2=(Xg P gl orc ops T0 m i).2++[cells]->Io P gl orc ops T0 m i=true/\(Xg P gl orc ops T0 m p).2[kP P gl orc ops T0 m i]?=some cells:=fun cells h=>by
  refine⟨by simp only[Io,kP,dO,h];simp,?_⟩;have:=VJ (P:=P) (gl:=gl) (orc:=orc) (ops:=ops) (T0:=T0) (m:=m) (i:=i+1) (p-(i+1)) (q:=kP P gl orc ops T0 m i) (c:=cells) (by rw[dO];simp only[h,kP];simp);rwa [show i+1+(p-(i+1))=p by omega]at this
 have oP:(dop P gl orc (Xd P ops o) (Xg P gl orc ops T0 m i).1 m (Xg P gl orc ops T0 m i).2).2.2=(Xg P gl orc ops T0 m i).2->AO P gl orc ops T0 m p (listed.setIfInBounds i true)=AO P gl orc ops T0 m p listed:=fun h=>
  VK (by simp only[Io,kP,dO,h];simp)
 have tP:listed.getD i false=false:=by rw[Xb (by rw[hI.size];exact hi) false true];exact hu
 have box:∀{cells:P2}{arr:P1}{te:TypeId},ak w γ cells arr.toList->cells.all Qx=true->
   (dop P gl orc (Xd P ops o) (Xg P gl orc ops T0 m i).1 m (Xg P gl orc ops T0 m i).2).2=(.ptr (m.boxes.length+(Xg P gl orc ops T0 m i).2.length) 0,(Xg P gl orc ops T0 m i).2++[cells])->
   (execOp a.eval o).run P w=.ok (.value (.pointer (some ⟨w.heap.size,0,none⟩))) (w.alloc (.cells arr te))->
   o.wpIn (FW r) 0 P a w (fun a' w'=>∃γ',PI N w0 r an S Y P gl orc ops T0 m p (listed.setIfInBounds i true) γ' w' a') Q:=fun{cells arr te}hr bL hd aZ=>by
  obtain⟨qI,zy⟩:=PJ cells (by rw[hd]);have aL:=AP (p:=p) qI tP;refine Zj aZ (fin (hI.mm.dx _ aL _) ?_ ?_)
  ·rw[Nt dg (by rw[hI.size];exact hi) qI zy];exact hI.mm.fc _ aL hr.toP (Yp hr bL)
  rw[hd];exact .ptr (by simp[G.box,kP])
 simp only[wpOpIn,ho];cases hg:o.guard with
 |none=>
  have hw:Region.wanted o (yielded ops a.tmps)=true:=by simp[Region.wanted,hg]
  rw[if_pos hw];have e1:(Xd P ops o).guard=none:=by simp[Xd,hg]
  cases PK:tr P o with
  |alloc zs=>
   have hd:dop P gl orc (Xd P ops o) (Xg P gl orc ops T0 m i).1 m (Xg P gl orc ops T0 m i).2=(zs.all Qx=true,.ptr (m.boxes.length+(Xg P gl orc ops T0 m i).2.length) 0,(Xg P gl orc ops T0 m i).2++[zs]):=by
    have e2:(Xd P ops o).op=.alloc zs:=PK;simp only[dop,e1,e2]
   rw[hd]at bR;obtain⟨t,VM,hz⟩:=VL PK;obtain⟨i',z,dm,iY,hr⟩:=iX (w:=w) (γ:=γ) hz;refine box (te:=t) hr bR (by rw[hd]) ?_;obtain⟨d',op',ty',aqH,af',gu'⟩:=o;simp only at VM;subst VM;simp[execOp,Instr.alloc,zeroValue,typeInfo,dm,iY,newVar,newRow]
  |box x=>
   have hd:dop P gl orc (Xd P ops o) (Xg P gl orc ops T0 m i).1 m (Xg P gl orc ops T0 m i).2=(bare (ev gl (Xg P gl orc ops T0 m i).1 x)=true/\(cellsOf (ev gl (Xg P gl orc ops T0 m i).1 x)).all Qx=true,
     .ptr (m.boxes.length+(Xg P gl orc ops T0 m i).2.length) 0,(Xg P gl orc ops T0 m i).2++[cellsOf (ev gl (Xg P gl orc ops T0 m i).1 x)]):=by
    have e2:(Xd P ops o).op=.box x:=PK;simp only[dop,e1,e2]
   rw[hd]at bR;obtain⟨t,y,VM,rfl⟩:=akT PK;have hry:=dn y (by rw[VM];simp[Op.operands]);refine box (te:=t) (kK hry bR.1) bR.2 (by rw[hd]) ?_;obtain⟨d',op',ty',aqH,af',gu'⟩:=o;simp only at VM;subst VM;simp[execOp,Instr.box,newVar,newRow]
  |mks sz bytes zs x y=>
   obtain⟨t,l,c,te,i',VM,rfl,rfl,hu,dm,rfl,rfl,Cs⟩:=akS PK;have e2:(Xd P ops o).op=.mks i'.size i'.bytes zs (aC l) (aC c):=PK;simp only[dop,e1,e2]at bR PJ;have hl:=dn l (by rw[VM];simp[Op.operands]);have hc:=dn c (by rw[VM];simp[Op.operands]);split at bR
   case h_2=>exact bR.elim
   rename_i k1 n1 k2 n2 q1 q2;rw[q1]at hl;rw[q2]at hc;obtain⟨⟨g0,g1,g2,g3⟩,g4,g5⟩:=bR;obtain⟨i2,z,hi2,hz,JD⟩:=iX (w:=w) (γ:=γ) Cs;rw[dm]at hi2;cases hi2
   have hd:dop P gl orc (Xd P ops o) (Xg P gl orc ops T0 m i).1 m (Xg P gl orc ops T0 m i).2=((0<=n1/\n1<=n2/\i'.bytes*n2<=281474976710656/\n2<=9223372036854775807)/\zs.length=i'.size/\zs.all Qx=true,.bs (m.boxes.length+(Xg P gl orc ops T0 m i).2.length) 0 n1.toNat i'.size,(Xg P gl orc ops T0 m i).2++[bF n2.toNat zs]):=by
    simp only[dop,e1,e2,q1,q2]
   have aZ:=run_make (P:=P) w t te i' z hu dm hz k1 k2 n1 n2 g0 zE g2 g3;obtain⟨Sd,oI⟩:=adC (P:=P) (te:=te) (n:=n2.toNat) JD g5 g4;obtain⟨qI,zy⟩:=PJ (bF n2.toNat zs) (by simp only[q1,q2]);have aL:=AP (p:=p) qI tP
   have aqI:(execOp a.eval o).run P w=.ok (.value (.slice (some ⟨w.heap.size,0,none⟩) n1.toNat n2.toNat)) (w.alloc (.cells (madeCells z.cells (n2.toNat*i'.size)) te)):=by
    obtain⟨d',op',ty',aqH,af',gu'⟩:=o;simp only at VM;subst VM;simp[execOp,hl.aI,hc.aI,aZ]
   refine Zj aqI (fin (hI.mm.dx _ aL _) ?_ ?_)
   ·rw[Nt dg (by rw[hI.size];exact hi) qI zy];exact hI.mm.fc _ aL Sd oI
   rw[hd];exact .bs (arr:=madeCells z.cells (n2.toNat*i'.size)) (e:=te) (by simp[G.box,kP]) zE (by show(w.heap.push _)[w.heap.size]?=_;simp) (by rw[zzbs,size_madeCells];exact zzab _)
  |_=>
   have hd:dop P gl orc (Xd P ops o) (Xg P gl orc ops T0 m i).1 m (Xg P gl orc ops T0 m i).2=((rop P gl orc (ev gl (Xg P gl orc ops T0 m i).1) m o.dst (tr P o)).1,(rop P gl orc (ev gl (Xg P gl orc ops T0 m i).1) m o.dst (tr P o)).2,(Xg P gl orc ops T0 m i).2):=by
    have e2:(Xd P ops o).op=tr P o:=rfl;rw[PK]at e2;simp only[dop,e1,e2,PK];rfl
   rw[hd]at bR;have eP:=oP (by rw[hd]);rw[hd,eP]at fin;exact Qcy hI.mm hB hI.g dn bR r _ Q fun v w' γ' h1 h2 h3=>fin h1 h2 h3
 |some q=>
  obtain⟨j,want⟩:=q;have e1:(Xd P ops o).guard=some ((ops[j]?).bind (·.dst),want):=by simp[Xd,hg]
  cases hj:(ops[j]?).bind (·.dst)with
  |none=>
   rw[hj]at e1;simp only[dop,e1]at bR
  |some t=>
   rw[hj]at e1;have lZ:t∈o.looksAt ops:=by simp[Oper.looksAt,hg,hj]
   have aX:=zH t lZ;cases lF:D9 want ((Xg P gl orc ops T0 m i).1.getD t .junk)with
   |none=>simp only[dop,e1,lF]at bR
   |some gw=>
    have hd:dop P gl orc (Xd P ops o) (Xg P gl orc ops T0 m i).1 m (Xg P gl orc ops T0 m i).2=(gok gl (Xg P gl orc ops T0 m i).1 gw (gxs (tr P o) (Xd P ops o).xs)/\(gw=true->(rop P gl orc (evG gl (Xg P gl orc ops T0 m i).1 (tr P o)) m o.dst (tr P o)).1),
      .gd gw (rop P gl orc (evG gl (Xg P gl orc ops T0 m i).1 (tr P o)) m o.dst (tr P o)).2,(Xg P gl orc ops T0 m i).2):=by
     simp only[dop,e1,lF];rfl
    rw[hd]at bR;have eP:=oP (by rw[hd]);rw[hd,eP]at fin
    have VG:Region.wanted o (yielded ops a.tmps)=gw:=by
     have hyv:∀b,a.tmps.getD t undef=.bool b->yielded ops a.tmps j=some b:=fun b hb=>by
      have b9:t<a.tmps.size:=by
       rcases zzaa t a.tmps.size with h|h
       ·exact h
       simp[zzbo h,undef]at hb
      simp[b9]at hb;simp only[yielded,hj,zzcw,zzah b9,hb]
     have hyu:a.tmps.getD t undef=undef->yielded ops a.tmps j=none:=fun hb=>by
      rcases zzaa t a.tmps.size with b9|h
      ·simp[b9]at hb;simp only[yielded,hj,zzcw,zzah b9,hb];rfl
      simp only[yielded,hj,zzcw,zzbo h]
     generalize(Xg P gl orc ops T0 m i).1.getD t .junk=gv at lF aX;cases gv with
     |bool g=>
      simp only[D9,Option.some.injEq]at lF;subst lF;simp only[Region.wanted,hg,hyv g aX.bu];cases g<;>cases want<;>rfl
     |gd d x=>
      cases d with
      |false=>
       simp only[Region.wanted,hg,hyu aX.Nj];cases x<;>simp[D9]at lF<;>subst lF<;>cases want<;>rfl
      |true=>
       cases x<;>simp[D9]at lF;rename_i b;subst lF;simp only[Region.wanted,hg,hyv b (aX.Co rfl).bu];cases b<;>cases want<;>rfl
     |_=>simp[D9]at lF
    rw[VG];obtain⟨h1,h2⟩:=bR;cases AN:gw with
    |true=>
     rw[AN]at h1 h2 fin;simp only[if_true];refine Qcy (e:=evG gl (Xg P gl orc ops T0 m i).1 (tr P o)) hI.mm hB hI.g (fun x hx=>?_) (h2 rfl) r _ Q fun v w' γ' q1 q2 q3=>fin q1 q2 (.gd (fun _=>q3) (fun h=>by cases h));unfold evG;cases ic:rawOp (tr P o)with
     |true=>exact dn x hx
     |false=>
      refine AL (dn x hx) fun g' b hgb=>CB h1 (aC x) ?_ g' b hgb rfl;simp only[gxs,ic,cond_false];simp[Xd,hg];exact⟨x,Nm hx,rfl⟩
    |false=>
     rw[AN]at fin;simp only[zzbh,if_false];exact⟨fun _ _=>trivial,fin (Ev.refl _ _) hI.mm (.gd (fun h=>by cases h) (fun _=>rfl))⟩
def Fa{Q:PP}{K:AS->Prop}(hQ:∀γ w s a,K s->ek N w0 r an S P gl Y γ w s a->Q .normal a w)(hc:uy ops p=true)
  (akV:∀i o,i<p->ops[i]?=some o->(dop P gl orc (Xd P ops o) (Xg P gl orc ops T0 m i).1 m (Xg P gl orc ops T0 m i).2).1)
  (aqJ:Zn P gl orc Y ((ops.toList.drop p).map (Xd P ops)) ⟨(Xg P gl orc ops T0 m p).1,{m with boxes:=m.boxes++(Xg P gl orc ops T0 m p).2}⟩ K):
  ∀(aT:Nat)(listed:Array Bool)(γ:G)(w:World)(a:Act),PI N w0 r an S Y P gl orc ops T0 m p listed γ w a->uc ops listed<=aT->wpAnyIn (FW r) 0 P .any ops Q aT listed a w:=by
 obtain⟨hp,cZ⟩:=Zc hc
 have full:∀(aT:Nat)(listed:Array Bool)(γ:G)(w:World)(a:Act),PI N w0 r an S Y P gl orc ops T0 m p listed γ w a->uc ops listed<=aT->(∀i,i<p->listed.getD i false=true)->wpAnyIn (FW r) 0 P .any ops Q aT listed a w:=by
  intro aT listed γ w a hI je bD;refine Qdz hQ hc aT p listed γ w _ a (zzab _) hp hI.size bD hI.tail je aqJ ⟨?_,hI.ls,hI.rd,⟨?_,fun t x v hx hv=>?_⟩,hI.d,hI.g,hI.y,hI.e⟩
  ·have:=hI.mm;rw[adB bD]at this;exact this
  ·simp[jc,hI.tl]
  have h1:=hI.tt t
  have hAt:At P gl orc ops T0 m p listed t=x:=by
   have iG:(Xg P gl orc ops T0 m p).1.getD t .junk=x:=by simp only at hx;simp[List.getD,hx]
   unfold At;split
   ·exact iG
   rename_i hw;rw[<- iG];refine(Qen p fun j hj hd=>hw ?_).symm;unfold wr;rw[zzbr];exact⟨j,zzav.2 hj,by rw[bD j hj,hd];simp⟩
  rw[hAt]at h1;have:a.tmps.getD t undef=v:=by simp at hv;simp[hv]
  rwa [this]at h1
 intro aT;induction aT with
 |zero=>
  intro listed γ w a hI je
  exact full 0 listed γ w a hI je fun i hi=>by
   rw[Xb (by rw[hI.size];omega) false true];exact Qdx (zzex.1 je) zE
 |succ aT ih=>
  intro listed γ w a hI je;by_cases bD:∀i,i<p->listed.getD i false=true
  ·exact full (aT+1) listed γ w a hI je bD
  have hex:∃k,k<p/\listed.getD k true=false:=by
   refine Classical.byContradiction fun hn=>bD fun i hi=>?_;rw[Xb (by rw[hI.size];omega) false true];cases hl:listed.getD i true with
   |true=>rfl
   |false=>exact absurd ⟨i,hi,hl⟩ hn
  obtain⟨k,hk,VN⟩:=hex;refine⟨fun hr=>?_,fun i hi=>?_⟩
  ·obtain⟨j,hj⟩:=Un hc hI.size k k (zzab _) zE VN;rw[hr]at hj;cases hj
  obtain⟨ai,hu,o,ho,bT⟩:=Uo hc hi
  have dg:i<p:=by
   rcases zzaa i p with h|h
   ·exact h
   have:=Qbl hI.clo ho ((cZ i o ho).2.2 h) bT i k zE zE;rw[Xb (by rw[hI.size];omega) false true,VN]at this;cases this
  refine wpOpIn_mono ?_ (JQ hc hI ho dg hu bT (akV i o dg ho));rintro a' w' ⟨γ',lG⟩;refine ih _ γ' w' a' lG ?_;have:=jd hI.size ai hu;omega
def wE{Q:PP}{K:AS->Prop}{γ:G}{w:World}{s:AS}{a:Act}(hQ:∀γ w s a,K s->ek N w0 r an S P gl Y γ w s a->Q .normal a w)(hc:uy ops p=true)
  (h:Sf P gl orc Y ((ops.toList.drop p).map (Xd P ops)) K ((ops.toList.take p).map (Xd P ops)) s.T s.m [])(hs:ek N w0 r an S P gl Y γ w s a):
  wpAnyIn (FW r) 0 P .any ops Q ops.size (Array.replicate ops.size false) a {w with drawn:=w.drawn+1}:=by
 have hp:=(Zc hc).1;obtain⟨h1,h2⟩:=Nr (P:=P) (gl:=gl) (orc:=orc) (T0:=s.T) (m:=s.m) ((ops.toList.drop p).map (Xd P ops)) K hp p 0 zd (by rw[zzdb];exact h);refine Fa (T0:=s.T) (m:=s.m) hQ hc (fun i o hi ho=>h1 i o (zzbp _) hi ho) h2 ops.size _ γ w.drew a ⟨zd,fun i _ hi=>by simp[hi],fun i o h=>(by rcases zzaa i ops.size with h'|h'<;>simp[h']at h),?_,hs.ls.mono (Ev.drew w γ),hs.rd.aU (Ev.drew w γ).cI,?_,fun t=>?_,hs.d.aU (Ev.drew w γ).cI,fun g=>(hs.g g).mono (Ev.drew w γ).cV,hs.y.mono (Ev.drew w γ).cI,hs.e.trans (Ev.drew w γ).cI⟩ ?_
 ·have hB:AO P gl orc ops s.T s.m p (Array.replicate ops.size false)=s.m.B:=by
   funext id;unfold AO;simp only[AM.B];split
   ·rfl
   rename_i aL;rw[if_neg,zzat zE];rw[zzbr];rintro⟨j,_,hj⟩
   have:(Array.replicate ops.size false).getD j false=false:=by
    rcases zzaa j ops.size with h|h<;>simp[h]
   rw[this]at hj;cases hj
  rw[hB];exact hs.m.drew
 ·have:=hs.t.1;simp at this;omega
 ·have hw:wr ops p (Array.replicate ops.size false) t=false:=by
   unfold wr;rw[zzdj];intro j _
   have:(Array.replicate ops.size false).getD j false=false:=by
    rcases zzaa j ops.size with h|h<;>simp[h]
   rw[this];simp
  unfold At;rw[hw];simp only[zzbh,if_false];have:=(hs.t.mono (Ev.drew w γ)).get t;simpa[List.getD]using this
 unfold uc;exact zzba (zzeq) zd
end
open Go Go.RowKit
def VO(o:Oper):Bool:=o.guard.isNone
def aqK(f:FuncId):Bool:=f==229||f==169||f==114||f==43||f==44
def ah4(o:Oper):Bool:=match o.op with
 |.call ⟨.value (.tmp _),_,_⟩=>o.dst.isSome
 |.call ⟨.value (.func f),_,_⟩=>o.dst.isSome&&aqK f
 |.call ⟨.builtin .copy,_,_⟩=>true
 |.call ⟨.builtin .append,_,_⟩=>o.dst.isSome
 |.store _ _ _=>true
 |.mapUpdate _ _ _ _=>true
 |.mapEntry _ _ _=>true
 |.entryStore _ _ _ _=>true
 |_=>false
def wG(o:Oper):Bool:=ah4 o||(match o.op with
 |.alloc _|.box _ _|.makeMap _ _|.range _ _=>true
 |_=>false)
def aqL(f:FuncId):Bool:=f==0
def aqM(o:Oper):Bool:=match o.op with
 |.call ⟨.value (.func f),_,_⟩=>aqL f
 |_=>false
def dF(ops:Array Oper)(p:Oper->Bool)(i:Nat):Bool:=match ops[i]? with
 |some o=>p o
 |none=>false
def PL(ops:Array Oper):Pa->Bool
 |j::j'::r=>(match ops[j']? with|some o=>(Xz o).contains j|none=>false)&&PL ops (j'::r)
 |_=>true
def Qel(ops:Array Oper)(p:Nat):Option (Pa):=
 let js:=(List.range p).filter (dF ops wG)
 if(List.range p).any (dF ops ah4)&&PL ops js&&((List.range p).all (dF ops VO)||(List.range p).any (dF ops aqM))&&(List.range p).all (fun i=>ops[i]?.isSome)then some js else none
inductive Fg
 |eff
 |pre
 |oth
def Fb(ops:Array Oper):Nat->Pa->Pa
 |0,s=>s
 |k+1,s=>bif s.any fun i=>wA ops i k then Fb ops k (k::s)else Fb ops k s
def uz{ops:Array Oper}{listed:Array Bool}(h:E6 ops listed):∀(k:Nat)(s:Pa),(∀i∈s,listed.getD i false=true)->∀i∈Fb ops k s,listed.getD i false=true
 |0,_,hs,i,hi=>hs i hi
 |k+1,s,hs,i,hi=>by
  simp only[Fb]at hi;cases hc:s.any fun i=>wA ops i k with
  |false=>rw[hc]at hi;exact uz h k s hs i hi
  |true=>
   rw[hc]at hi;refine uz h k (k::s) (fun j hj=>?_) i hi;rcases zzao.1 hj with rfl|hj
   ·obtain⟨x,hx,hw⟩:=zzbr.1 hc;unfold wA at hw;split at hw
    ·rename_i o ho;exact h x o (hs x hx) ho j (Nm hw)
    cases hw
   exact hs j hj
def jf(ops:Array Oper)(js:Pa)(i:Nat):Bool:=match js with
 |j::_=>(Fb ops j [j]).contains i
 |[]=>false
def Vr(ops:Array Oper)(js:Pa)(i:Nat):Fg:=bif js.contains i then .eff else bif jf ops js i then .pre else .oth
def flags(ops:Array Oper)(p:Nat)(js:Pa):List Fg:=(List.range p).map (Vr ops js)
section
variable (P:Program) (gl:Nat->AV) (orc:UV) (Y:YT)
def memEff:aF->Bool
 |.store _ _ _|.cpy _ _ _|.mupd _ _ _ _|.ment _ _ _ _|.esto _ _ _|.alloc _|.box _|.mkmap _|.rng _|.app _ _ _ _=>true
 |_=>false
def effV(v:AV):aF->AV
 |.alloc _|.box _|.mkmap _|.rng _|.ment _ _ _ _|.app _ _ _ _=>v
 |_=>.junk
def effC(e:bE->AV)(m:AM)(dst:Option Nat)(av:AV)(m1:AM):aF->Prop
 |.call f args=>(match e f with
  |.fn g first cap=>aB P gl Y g (first++args.map e++cap) m (fun x m2=>x=av/\m2=m1)
  |_=>False)
 |so=>memEff so=true/\(sop P gl orc e m dst so).1/\av=effV (sop P gl orc e m dst so).2.1 so/\m1=(sop P gl orc e m dst so).2.2
def Zz(T:P2)(o:SO):Prop:=match o.guard with
 |none=>True
 |some (some t,b)=>T.getD t .junk=.bool b
 |some (none,_)=>False
def nk(l2:List SO)(K:AS->Prop)(m:AM)(ms:QP):List SO->List Fg->QP->AM->P2->Prop
 |[],_,q,mc,T=>q=[]/\Zn P gl orc Y l2 ⟨T,mc⟩ K
 |_::_,[],_,_,_=>False
 |o::r,.eff::fl,q,mc,T=>(match q with
  |[]=>False
  |x::q=>Zz T o/\effC P gl orc Y (ev gl T) mc o.dst x.1 x.2 o.op/\nk l2 K m ms r fl q x.2 (put T o.dst x.1))
 |o::r,.pre::fl,q,mc,T=>Zz T o/\(rop P gl orc (ev gl T) m o.dst o.op).1/\nk l2 K m ms r fl q mc (put T o.dst (rop P gl orc (ev gl T) m o.dst o.op).2)
 |o::r,.oth::fl,q,mc,T=>Zz T o/\(rop P gl orc (ev gl T) m o.dst o.op).1/\(∀x∈ms,rop P gl orc (ev gl T) x.2 o.dst o.op=rop P gl orc (ev gl T) m o.dst o.op)/\nk l2 K m ms r fl q mc (put T o.dst (rop P gl orc (ev gl T) m o.dst o.op).2)
def rdC(e:bE->AV)(m:AM)(dst:Option Nat)(x:AM):aF->Prop
 |.call f args=>(match e f with
  |.fn g first cap=>aB P gl Y g (first++args.map e++cap) x (fun y m2=>y=(rop P gl orc e m dst (.call f args)).2/\m2=x)
  |_=>False)
 |_=>False
def aqN(m:AM)(ms:QP)(e:bE->AV)(dst:Option Nat)(so:aF):Prop:=
 ((rop P gl orc e m dst so).1/\∀x∈ms,rop P gl orc e x.2 dst so=rop P gl orc e m dst so)\/(rdC P gl orc Y e m dst m so/\∀x∈ms,rdC P gl orc Y e m dst x.2 so)
def ig(l2:List SO)(K:AS->Prop)(m:AM)(ms:QP):List SO->List Fg->QP->AM->P2->Prop
 |[],_,q,mc,T=>q=[]/\Zn P gl orc Y l2 ⟨T,mc⟩ K
 |_::_,[],_,_,_=>False
 |o::r,.eff::fl,q,mc,T=>(match q with
  |[]=>False
  |x::q=>Zz T o/\effC P gl orc Y (ev gl T) mc o.dst x.1 x.2 o.op/\ig l2 K m ms r fl q x.2 (put T o.dst x.1))
 |o::r,.pre::fl,q,mc,T=>Zz T o/\(rop P gl orc (ev gl T) m o.dst o.op).1/\ig l2 K m ms r fl q mc (put T o.dst (rop P gl orc (ev gl T) m o.dst o.op).2)
 |o::r,.oth::fl,q,mc,T=>Zz T o/\aqN P gl orc Y m ms (ev gl T) o.dst o.op/\ig l2 K m ms r fl q mc (put T o.dst (rop P gl orc (ev gl T) m o.dst o.op).2)
def Nu{l2:List SO}{K:AS->Prop}{m:AM}{ms:QP}:∀{l:List SO}{fl:List Fg}{q:QP}{mc:AM}{T:P2},nk P gl orc Y l2 K m ms l fl q mc T->ig P gl orc Y l2 K m ms l fl q mc T
 |[],fl,q,mc,T,h=>by simp only[nk]at h;simp only[ig];exact h
 |_::_,[],_,_,_,h=>by simp only[nk]at h
 |o::r,.eff::fl,[],mc,T,h=>by simp only[nk]at h
 |o::r,.eff::fl,x::q,mc,T,h=>by
  simp only[nk]at h;simp only[ig];exact⟨h.1,h.2.1,Nu h.2.2⟩
 |o::r,.pre::fl,q,mc,T,h=>by
  simp only[nk]at h;simp only[ig];exact⟨h.1,h.2.1,Nu h.2.2⟩
 |o::r,.oth::fl,q,mc,T,h=>by
  simp only[nk]at h;simp only[ig];exact⟨h.1,.inl ⟨h.2.1,h.2.2.1⟩,Nu h.2.2.2⟩
end
def Fc:QQ->Nat->Option AV
 |[],_=>none
 |(k,a)::r,d=>if k=d then some a else Fc r d
def Qz:Pa->QP->QQ
 |j::js,x::q=>(j,x.1)::Qz js q
 |_,_=>[]
def Ud(listed:Array Bool):AM->Pa->QP->AM
 |m,j::js,x::q=>if listed.getD j false then Ud listed x.2 js q else m
 |m,_,_=>m
def Ya(m:AM)(ms:QP):Nat->AM
 |0=>m
 |a+1=>(ms.getD a (.junk,m)).2
def chn(listed:Array Bool):Pa->Prop
 |j::j'::r=>(listed.getD j' false=true->listed.getD j false=true)/\chn listed (j'::r)
 |_=>True
section
variable {N:Nat} {w0:eT} {r:Option Nat} {an:Nat->Nat->Prop} {S:G×World} {Y:YT} {P:Program} {gl:Nat->AV} {orc:UV} {ops:Array Oper} {T0:P2} {m:AM} {p:Nat}
def wH(listed:Array Bool):∀(js:Pa)(ms:QP)(m:AM),Ud listed m js ms=m\/∃x∈ms,Ud listed m js ms=x.2
 |[],ms,m=>.inl (by cases ms<;>rfl)
 |j::js,[],m=>.inl rfl
 |j::js,x::q,m=>by
  simp only[Ud];split
  ·rcases wH listed js q x.2 with h|⟨y,hy,h⟩
   ·exact .inr ⟨x,zd,h⟩
   exact .inr ⟨y,by simp[hy],h⟩
  exact .inl rfl
def Uz{listed:Array Bool}:∀{js:Pa}{ms:QP}{m:AM}{a:Nat},js.length=ms.length->a<=js.length->(∀b j,b<a->js[b]?=some j->listed.getD j false=true)->(∀j,js[a]?=some j->listed.getD j false=false)->
  Ud listed m js ms=Ya m ms a
 |[],[],m,a,_,ha,_,_=>by
  have:a=0:=by simpa using ha
  subst this;rfl
 |[],_::_,_,_,h,_,_,_=>by simp at h
 |_::_,[],_,_,h,_,_,_=>by simp at h
 |j::js,x::q,m,0,_,_,_,h=>by
  simp only[Ud,Ya];rw[h j rfl];rfl
 |j::js,x::q,m,a+1,hl,ha,h1,h2=>by
  simp only[Ud];rw[h1 0 j zE rfl,if_pos rfl];rw[Uz (a:=a) (Nm hl) (Nm ha) (fun b j hb hj=>h1 (b+1) j zE (Nm hj)) (fun j hj=>h2 j (Nm hj))];cases a with
  |zero=>rfl
  |succ a=>
   simp only[Ya,List.getD_cons_succ];have:a<q.length:=by simp at ha hl;omega
   simp[List.getD,this]
def qR{listed Nv:Array Bool}:∀{js:Pa}{ms:QP}{m:AM},(∀j∈js,Nv.getD j false=listed.getD j false)->Ud Nv m js ms=Ud listed m js ms
 |[],_,_,_=>rfl
 |_::_,[],_,_=>rfl
 |j::js,x::q,m,h=>by
  simp only[Ud];rw[h j zd,qR fun j hj=>h j (by simp[hj])]
def Qbw{listed:Array Bool}:∀{js:Pa},chn listed js->∀{a b j j':Nat},a<b->js[a]?=some j->js[b]?=some j'->listed.getD j' false=true->listed.getD j false=true
 |[],_,a,b,j,j',_,h,_,_=>by simp at h
 |[x],_,a,b,j,j',hab,h,h',_=>by
  have:=(zza.1 h').1;simp at this;omega
 |x::y::r,hc,0,1,j,j',_,h,h',hl=>by
  simp at h h';subst h;subst h';exact hc.1 hl
 |x::y::r,hc,0,b+2,j,j',_,h,h',hl=>by
  simp at h;subst h;exact hc.1 (Qbw hc.2 (a:=0) (b:=b+1) zE rfl (Nm h') hl)
 |x::y::r,hc,a+1,b+1,j,j',hab,h,h',hl=>Qbw hc.2 (a:=a) (b:=b) zE (Nm h) (Nm h') hl
def uA{listed:Array Bool}{i:Nat}:∀{js:Pa},chn listed js->(∀a j,js[a]?=some j->js[a+1]?=some i->listed.getD j false=true)->chn (listed.setIfInBounds i true) js
 |[],_,_=>trivial
 |[_],_,_=>trivial
 |j::j'::r,hc,h=>by
  refine⟨fun hl=>?_,uA hc.2 fun a x hx iG=>h (a+1) x (Nm hx) (Nm iG)⟩
  have mono:∀k,listed.getD k false=true->(listed.setIfInBounds i true).getD k false=true:=fun k hk=>by
   by_cases qQ:i=k
   ·subst qQ
    have:i<listed.size:=by
     rcases zzaa i listed.size with h|h
     ·exact h
     simp[zzbk.2 h]at hk
    exact Xu this
   rw[Qw (Ne.symm qQ)];exact hk
  by_cases eH:i=j'
  ·subst eH;exact mono j (h 0 j rfl rfl)
  rw[Qw (Ne.symm eH)]at hl;exact mono j (hc.1 hl)
def Uf{l:Pa}(h:l.Nodup){a b i:Nat}(h1:l[a]?=some i)(h2:l[b]?=some i):a=b:=by
 obtain⟨ha,ea⟩:=zza.1 h1;obtain⟨hb,eb⟩:=zza.1 h2;rcases zzdq a b with h'|h'|h'
 ·exact absurd (ea.trans eb.symm) (zzdn.1 h a b ha hb h')
 ·exact h'
 exact absurd (eb.trans ea.symm) (zzdn.1 h b a hb ha h')
def tQ(P:Program)(gl:Nat->AV)(orc:UV)(ops:Array Oper)(m:AM)(L:QQ)(i:Nat)(T:P2):AV:=match Fc L i with
 |some av=>av
 |none=>match ops[i]? with
  |some o=>(rop P gl orc (ev gl T) m o.dst (tr P o)).2
  |none=>.junk
def bI(P:Program)(gl:Nat->AV)(orc:UV)(ops:Array Oper)(T0:P2)(m:AM)(L:QQ):Nat->P2
 |0=>T0
 |k+1=>match ops[k]? with
  |some o=>put (bI P gl orc ops T0 m L k) o.dst (tQ P gl orc ops m L k (bI P gl orc ops T0 m L k))
  |none=>bI P gl orc ops T0 m L k
def Ko{L:QQ}{k:Nat}{o:Oper}(h:ops[k]?=some o):bI P gl orc ops T0 m L (k+1)=put (bI P gl orc ops T0 m L k) o.dst (tQ P gl orc ops m L k (bI P gl orc ops T0 m L k)):=by
 simp only[bI,h]
def Qbc{L:QQ}:∀k,(bI P gl orc ops T0 m L k).length=T0.length
 |0=>rfl
 |k+1=>by
  cases h:ops[k]? with
  |none=>simp only[bI,h];exact Qbc k
  |some o=>rw[Ko h,wC];exact Qbc k
def Qbj{L:QQ}{t:Nat}:∀k,(∀j,j<k->Vk ops j≠some t)->(bI P gl orc ops T0 m L (k)).getD t .junk=T0.getD t .junk
 |0,_=>rfl
 |k+1,h=>by
  cases ho:ops[k]? with
  |none=>simp only[bI,ho];exact Qbj k fun j hj=>h j zE
  |some o=>
   rw[Ko ho,Qch (by have:=h k zE;simpa[Vk,ho]using this)];exact Qbj k fun j hj=>h j zE
def Qdj{L:QQ}{t k:Nat}:∀n,(∀j,k<=j->j<k+n->Vk ops j≠some t)->(bI P gl orc ops T0 m L (k+n)).getD t .junk=(bI P gl orc ops T0 m L (k)).getD t .junk
 |0,_=>rfl
 |n+1,h=>by
  rw[<- zzan];cases ho:ops[k+n]? with
  |none=>simp only[bI,ho];exact Qdj n fun j h1 h2=>h j h1 zE
  |some o=>
   rw[Ko ho,Qch (by have:=h (k+n) zE zE;simpa[Vk,ho]using this)];exact Qdj n fun j h1 h2=>h j h1 zE
def me(P:Program)(gl:Nat->AV)(orc:UV)(ops:Array Oper)(T0:P2)(m:AM)(L:QQ)(p:Nat)(listed:Array Bool)(t:Nat):AV:=
 if wr ops p listed t then(bI P gl orc ops T0 m L (p)).getD t .junk else T0.getD t .junk
def ah5{L:QQ}(hc:uy ops p=true){listed:Array Bool}(hsz:listed.size=ops.size){i:Nat}{o:Oper}(ho:ops[i]?=some o)(dg:i<p)(hu:listed.getD i true=false)(bT:∀j∈Xz o,listed.getD j false=true)
  {t:Nat}(ht:t∈o.looksAt ops):(bI P gl orc ops T0 m L (i)).getD t .junk=me P gl orc ops T0 m L p listed t:=by
 have hi:i<ops.size:=(zzbw.1 ho).1;obtain⟨hp,cZ⟩:=Zc hc;unfold me;by_cases hex:∃j,j<p/\Vk ops j=some t/\j≠i
 ·obtain⟨j,hj,hd,aO⟩:=hex;obtain⟨Av,hja⟩:=((cZ i o ho).2.1 dg).1 t ht j hj hd aO
  have hw:wr ops p listed t=true:=by
   unfold wr;rw[zzbr];exact⟨j,zzav.2 hj,by rw[bT j hja,hd];simp⟩
  rw[if_pos hw]
  have:=Qdj (P:=P) (gl:=gl) (orc:=orc) (ops:=ops) (T0:=T0) (m:=m) (L:=L) (t:=t) (k:=i) (p-i) fun k dD ee E8=>by
   have hk:k<ops.size:=zE
   have E9:ops[k]?=some ops[k]:=zzah hk;have:=((cZ k _ E9).2.1 zE).2 j zE t hd;simp[Vk,E9]at E8;exact this E8
  rw[show i+(p-i)=p by omega]at this;exact this.symm
 have hw:wr ops p listed t=false:=by
  unfold wr;rw[zzdj];intro j hj;simp only[zzac,beq_iff_eq,not_and];intro hl hd;by_cases Av:j=i
  ·subst Av;rw[Xb zE false true,hu]at hl;cases hl
  exact hex ⟨j,zzav.1 hj,hd,Av⟩
 rw[hw];simp only[zzbh,if_false];exact Qbj i fun j hj hd=>hex ⟨j,zE,hd,zE⟩
def CG{L:QQ}(hc:uy ops p=true){listed:Array Bool}(hsz:listed.size=ops.size){i:Nat}{o:Oper}(ho:ops[i]?=some o)(dg:i<p){t:Nat}:
  me P gl orc ops T0 m L p (listed.setIfInBounds i true) t=if o.dst=some t/\t<T0.length then tQ P gl orc ops m L i (bI P gl orc ops T0 m L i)else me P gl orc ops T0 m L p listed t:=by
 have hi:i<ops.size:=(zzbw.1 ho).1;obtain⟨hp,cZ⟩:=Zc hc;by_cases hd:o.dst=some t
 ·have hw:wr ops p (listed.setIfInBounds i true) t=true:=by
   unfold wr;rw[zzbr];exact⟨i,zzav.2 dg,by rw[Xu zE];simp[Vk,ho,hd]⟩
  have hl:=Qdj (P:=P) (gl:=gl) (orc:=orc) (ops:=ops) (T0:=T0) (m:=m) (L:=L) (t:=t) (k:=i+1) (p-(i+1)) fun k dD ee E8=>by
   have hk:k<ops.size:=zE
   have E9:ops[k]?=some ops[k]:=zzah hk;have:=((cZ k _ E9).2.1 zE).2 i zE t (by simp[Vk,ho,hd]);simp[Vk,E9]at E8;exact this E8
  rw[show i+1+(p-(i+1))=p by omega]at hl;by_cases ht:t<T0.length
  ·rw[if_pos ⟨hd,ht⟩];unfold me;rw[if_pos hw,hl,Ko ho,hd];exact Ws (by rw[Qbc];exact ht)
  rw[if_neg (by simp[ht])]
  have h1:∀k,(bI P gl orc ops T0 m L (k)).getD t .junk=.junk:=fun k=>by
   have:=Qbc (P:=P) (gl:=gl) (orc:=orc) (ops:=ops) (T0:=T0) (m:=m) (L:=L) k;simp only[List.getD];rw[zzat zE];rfl
  have h2:T0.getD t .junk=.junk:=h1 0;unfold me;rw[h1 p,h2];simp
 rw[if_neg (by simp[hd])]
 have hw:wr ops p (listed.setIfInBounds i true) t=wr ops p listed t:=by
  unfold wr;congr 1;funext j;by_cases hj:j=i
  ·subst hj;have hb:(o.dst==some t)=false:=by simpa using hd
   simp[Vk,ho,hb]
  rw[Qw hj]
 unfold me;rw[hw]
structure qS (N:Nat) (w0:eT) (r:Option Nat) (an:Nat->Nat->Prop) (S:G×World) (Y:YT) (P:Program) (gl:Nat->AV) (orc:UV) (ops:Array Oper) (T0:P2) (m:AM) (ms:QP) (js:Pa) (L:QQ) (p:Nat) (listed:Array Bool) (γ:G) (w:World) (a:Act):Prop where
 size:listed.size=ops.size
 tail:∀i,p<=i->i<ops.size->listed.getD i true=false
 ch:chn listed js
 clo:∀i o,listed.getD i false=true->ops[i]?=some o->∀j∈Xz o,listed.getD j false=true
 mm:au N w0 an γ w (Ud listed m js ms).B (Ud listed m js ms).L
 ls:cT γ w (Ud listed m js ms)
 rd:Rdr r γ w
 tl:a.tmps.size=T0.length
 tt:∀t,aA w γ (me P gl orc ops T0 m L p listed t) (a.tmps.getD t undef)
 d:Dfr S.2.heap.size γ w a.defers
 g:∀g,aA w γ.cV (gl g) (.pointer (some ⟨g,0,none⟩))
 y:YOK N w0 an P Y γ w
 e:ez S.2 S.1 w γ
def Fe:∀(js:Pa)(ms:QP)(d:Nat),d ∉ js->Fc (Qz js ms) d=none
 |[],_,_,_=>rfl
 |_::_,[],_,_=>rfl
 |j::js,x::q,d,h=>by
  simp only[Qz,Fc];rw[if_neg (by rintro rfl;exact h zd)];exact Fe js q d fun h'=>h (by simp[h'])
def Ff:∀(js:Pa)(ms:QP)(a i:Nat)(x:AV×AM),js.Nodup->js[a]?=some i->ms[a]?=some x->Fc (Qz js ms) i=some x.1
 |[],_,_,_,_,_,h,_=>by simp at h
 |_::_,[],_,_,_,_,_,h=>by simp at h
 |j::js,y::q,0,i,x,_,h,hx=>by
  simp at h hx;subst h;subst hx;simp only[Qz,Fc,if_true]
 |j::js,y::q,a+1,i,x,hn,h,hx=>by
  have qt:=List.nodup_cons.1 hn;have h':js[a]?=some i:=by simpa using h
  simp only[Qz,Fc];rw[if_neg (by rintro rfl;exact qt.1 (zzae h'))];exact Ff js q a i x qt.2 h' (Nm hx)
def Qcx{js:Pa}{ms:QP}{a i:Nat}{x:AV×AM}(hn:js.Nodup)(h:js[a]?=some i)(hx:ms[a]?=some x)(T:P2):tQ P gl orc ops m (Qz js ms) i T=x.1:=by
 unfold tQ;rw[Ff js ms a i x hn h hx]
def jg{js:Pa}{ms:QP}{i:Nat}{o:Oper}(h:i ∉ js)(ho:ops[i]?=some o)(T:P2):tQ P gl orc ops m (Qz js ms) i T=(rop P gl orc (ev gl T) m o.dst (tr P o)).2:=by
 unfold tQ;rw[Fe js ms i h,ho]
def wI{γ:G}{w:World}{a:Act}{o:Oper}{T:P2}(wJ:Zz T (Xd P ops o))(zH:∀t∈o.looksAt ops,aA w γ (T.getD t .junk) (a.tmps.getD t undef)):Region.wanted o (yielded ops a.tmps)=true:=by
 cases hg:o.guard with
 |none=>simp[Region.wanted,hg]
 |some jw=>
  obtain⟨j,want⟩:=jw;have e1:(Xd P ops o).guard=some ((ops[j]?).bind (·.dst),want):=by simp[Xd,hg]
  unfold Zz at wJ;rw[e1]at wJ;cases hj:(ops[j]?).bind (·.dst)with
  |none=>rw[hj]at wJ;exact wJ.elim
  |some t=>
   rw[hj]at wJ;simp only at wJ;have lZ:t∈o.looksAt ops:=by simp[Oper.looksAt,hg,hj]
   have aX:=zH t lZ;rw[wJ]at aX;have hb:=aX.bu
   have b9:t<a.tmps.size:=by
    rcases zzaa t a.tmps.size with h|h
    ·exact h
    simp[zzbo h,undef]at hb
   simp[b9]at hb;have hy:yielded ops a.tmps j=some want:=by simp only[yielded,hj,zzcw,zzah b9,hb]
   simp only[Region.wanted,hg,hy];cases want<;>rfl
def Qck{ms:QP}{js:Pa}(hc:uy ops p=true){Q:PP}{listed:Array Bool}{γ:G}{w:World}{a:Act}
  (hI:qS N w0 r an S Y P gl orc ops T0 m ms js (Qz js ms) p listed γ w a){i:Nat}{o:Oper}(ho:ops[i]?=some o)(dg:i<p)(wJ:Zz (bI P gl orc ops T0 m (Qz js ms) i) (Xd P ops o))(aH:js.length=ms.length)(nc:js.Nodup)
  (hu:listed.getD i true=false)(bT:∀j∈Xz o,listed.getD j false=true)(nq:∀a j,js[a]?=some j->js[a+1]?=some i->listed.getD j false=true)
  (aO:i ∉ js->((rop P gl orc (ev gl (bI P gl orc ops T0 m (Qz js ms) i)) m o.dst (tr P o)).1/\(jf ops js i=false->∀x∈ms,rop P gl orc (ev gl (bI P gl orc ops T0 m (Qz js ms) i)) x.2 o.dst (tr P o)=rop P gl orc (ev gl (bI P gl orc ops T0 m (Qz js ms) i)) m o.dst (tr P o)))\/(rdC P gl orc Y (ev gl (bI P gl orc ops T0 m (Qz js ms) i)) m o.dst m (tr P o)/\∀x∈ms,rdC P gl orc Y (ev gl (bI P gl orc ops T0 m (Qz js ms) i)) m o.dst x.2 (tr P o)))
  (D7:∀k x,js[k]?=some i->ms[k]?=some x->effC P gl orc Y (ev gl (bI P gl orc ops T0 m (Qz js ms) i)) (Ya m ms k) o.dst x.1 x.2 (tr P o)):
  wpOpIn (FW r) 0 P ops Q i (fun a' w'=>∃γ',qS N w0 r an S Y P gl orc ops T0 m ms js (Qz js ms) p (listed.setIfInBounds i true) γ' w' a'/\∀t,o.dst≠some t->a'.tmps.getD t undef=a.tmps.getD t undef) a w:=by
 have hi:i<ops.size:=(zzbw.1 ho).1;have jb:i<listed.size:=by rw[hI.size];exact hi
 have zH:∀t∈o.looksAt ops,aA w γ ((bI P gl orc ops T0 m (Qz js ms) i).getD t .junk) (a.tmps.getD t undef):=fun t ht=>by
  rw[ah5 (P:=P) (gl:=gl) (orc:=orc) (T0:=T0) (m:=m) (L:=Qz js ms) hc hI.size ho dg hu bT ht];exact hI.tt t
 have dn:∀x∈o.op.operands,aA w γ (ev gl (bI P gl orc ops T0 m (Qz js ms) i) (aC x)) (a.eval x):=fun x hx=>by
  cases x with
  |tmp t=>exact zH t (by simp only[Oper.looksAt,zzam,zzfd];exact .inl ⟨.tmp t,Nm hx,rfl⟩)
  |const v=>exact Kc w γ v
  |func f=>exact .fn rfl (fun i c v h=>by simp at h) rfl fun i c v h=>by simp at h
  |global g=>exact(hI.g g).gq
 have fE:chn (listed.setIfInBounds i true) js:=uA hI.ch fun a j h1 h2=>nq a j h1 h2;have hpr:E6 ops (listed.setIfInBounds i true):=E6.set hI.clo ho jb bT
 have fin:∀{v:Value}{w':World}{γ':G},ez w γ w' γ'->au N w0 an γ' w' (Ud (listed.setIfInBounds i true) m js ms).B (Ud (listed.setIfInBounds i true) m js ms).L->cT γ' w' (Ud (listed.setIfInBounds i true) m js ms)->
   aA w' γ' (tQ P gl orc ops m (Qz js ms) i (bI P gl orc ops T0 m (Qz js ms) i)) v->∃γ',qS N w0 r an S Y P gl orc ops T0 m ms js (Qz js ms) p (listed.setIfInBounds i true) γ' w' (a.put o.dst v)/\∀t,o.dst≠some t->(a.put o.dst v).tmps.getD t undef=a.tmps.getD t undef:=fun{v w' γ'}he hm hl hr=>by
  have awg:∀t,o.dst≠some t->(a.put o.dst v).tmps.getD t undef=a.tmps.getD t undef:=fun t hd=>by
   cases zz:o.dst with
   |none=>rfl
   |some d=>simp only[Act.put];simp;rw[zzcp (by rintro rfl;exact hd zz)]
  refine⟨γ',⟨by simp[hI.size],fun j dW ou=>by rw[Qw zE];exact hI.tail j dW ou,fE,hpr,hm,hl,hI.rd.aU he,?_,fun t=>?_,?_,fun g=>(hI.g g).aU he.cV,hI.y.mono he,hI.e.trans he⟩,awg⟩
  ·cases hd:o.dst<;>simp[Act.put,hI.tl]
  ·rw[CG hc hI.size ho dg];by_cases hd:o.dst=some t
   ·by_cases ht:t<T0.length
    ·rw[if_pos ⟨hd,ht⟩,hd];have:(a.put (some t) v).tmps.getD t undef=v:=by simp[Act.put,hI.tl,ht]
     rw[this];exact hr
    rw[if_neg (by simp[ht]),hd];have:(a.put (some t) v).tmps.getD t undef=a.tmps.getD t undef:=by simp[Act.put,hI.tl,ht]
    rw[this];exact(hI.tt t).aU he
   rw[if_neg (by simp[hd])]
   have:(a.put o.dst v).tmps.getD t undef=a.tmps.getD t undef:=by
    cases zz:o.dst with
    |none=>rfl
    |some d=>simp only[Act.put];simp;rw[zzcp (by rintro rfl;exact hd zz)]
   rw[this];exact(hI.tt t).aU he
  cases hd:o.dst<;>exact hI.d.aU he
 simp only[wpOpIn,ho];have hw:Region.wanted o (yielded ops a.tmps)=true:=wI wJ zH;rw[if_pos hw];by_cases eH:i∈js
 ·obtain⟨k,hk⟩:=zzcr.1 eH;have oQ:k<ms.length:=by rw[<- aH];exact(zza.1 hk).1
  obtain⟨x,hx⟩:∃x,ms[k]?=some x:=⟨ms[k],zzaf oQ⟩;have h1:=D7 k x hk hx;have h2:=Qcx (P:=P) (gl:=gl) (orc:=orc) (ops:=ops) (m:=m) nc hk hx (bI P gl orc ops T0 m (Qz js ms) i);have JP:listed.getD i false=false:=by rw[Xb jb false true];exact hu
  have CH:∀b j,b<k->js[b]?=some j->listed.getD j false=true:=fun b j hb hj=>by
   have dz:k-1<js.length:=by have:=(zza.1 hk).1;omega
   obtain⟨j1,dW⟩:∃j1,js[k-1]?=some j1:=⟨js[k-1],zzaf dz⟩;have gO:=nq (k-1) j1 dW (by rw[show k-1+1=k by omega];exact hk);rcases zzaa b (k-1)with h|h
   ·exact Qbw hI.ch h hj dW gO
   obtain rfl:b=k-1:=zE
   rw[hj]at dW;cases dW;exact gO
  have JR:Ud listed m js ms=Ya m ms k:=Uz aH (by have:=(zza.1 hk).1;omega) CH (fun j hj=>by rw[hk]at hj;cases hj;exact JP)
  have tO:Ud (listed.setIfInBounds i true) m js ms=x.2:=by
   have:=Uz (listed:=listed.setIfInBounds i true) (m:=m) (a:=k+1) aH (by have:=(zza.1 hk).1;omega) (fun b j hb hj=>?_) (fun j hj=>?_)
   ·rw[this];simp[Ya,List.getD,hx]
   ·rcases zzaa b k with h|h
    ·have fJ:j≠i:=by
      rintro rfl;have:=Uf nc hj hk;omega
     rw[Qw fJ];exact CH b j h hj
    obtain rfl:b=k:=zE
    rw[hk]at hj;cases hj;exact Xu jb
   have fJ:j≠i:=by
    rintro rfl;have:=Uf nc hj hk;omega
   rw[Qw fJ];cases hl:listed.getD j false with
   |false=>rfl
   |true=>rw[Qbw hI.ch (zzev k) hk hj hl]at JP;cases JP
  rw[tO,h2]at fin;have gP:=hI.mm;have lW:=hI.ls;rw[JR]at gP lW
  have zI:ek N w0 r an S P gl Y γ w ⟨(List.range T0.length).map fun t=>me P gl orc ops T0 m (Qz js ms) p listed t,Ya m ms k⟩ a:=by
   refine⟨gP,lW,hI.rd,⟨by simp[hI.tl],fun t x v hx hv=>?_⟩,hI.d,hI.g,hI.y,hI.e⟩
   ·have ai:t<T0.length:=by
     rcases zzaa t T0.length with h|h
     ·exact h
     simp[zzbk.2 h]at hx
    simp[ai]at hx;have:=hI.tt t;rw[hx]at this;have ER:a.tmps.getD t undef=v:=by simp at hv;simp[hv]
    rwa [ER]at this
  have mem:∀so,tr P o=so->memEff so=true->((sop P gl orc (ev gl (bI P gl orc ops T0 m (Qz js ms) i)) (Ya m ms k) o.dst so).1/\x.1=effV (sop P gl orc (ev gl (bI P gl orc ops T0 m (Qz js ms) i)) (Ya m ms k) o.dst so).2.1 so/\x.2=(sop P gl orc (ev gl (bI P gl orc ops T0 m (Qz js ms) i)) (Ya m ms k) o.dst so).2.2)->
    o.wpIn (FW r) 0 P a w (fun a' w'=>∃γ',qS N w0 r an S Y P gl orc ops T0 m ms js (Qz js ms) p (listed.setIfInBounds i true) γ' w' a'/\∀t,o.dst≠some t->a'.tmps.getD t undef=a.tmps.getD t undef) Q:=fun so PK _⟨k1,k2,k3⟩=>by
   refine AK (orc:=orc) (K:=fun av' m'=>x.1=effV av' so/\m'=x.2) gP hI.g dn ⟨by rw[PK];exact k1,by rw[PK];exact⟨k2,k3.symm⟩⟩ r _ Q fun v w' γ' av' m' hK h3 h4 h5 h6=>?_;obtain⟨VE,rfl⟩:=hK;refine fin h4.cI h5 (lW.mono' h4 h3) ?_;rw[VE];unfold effV;split<;>first|exact h6|exact .junk _
  cases Ip:tr P o with
  |call f args=>
   rw[Ip]at h1
   have mX:Qam P gl Y (ev gl (bI P gl orc ops T0 m (Qz js ms) i)) (Ya m ms k) (fun y m2=>y=x.1/\m2=x.2) (tr P o):=by
    rw[Ip];simp only[effC]at h1;simp only[Qam];split at h1
    ·rename_i g first cap bV;simp only[bV];exact h1
    exact h1.elim
   refine Qdi zI dn mX fun v w' γ' av' m' hK h3 h4 h5 h6=>?_;obtain⟨rfl,rfl⟩:=hK;exact fin h3 h4 h5 h6
  |_=>rw[Ip]at h1;first|exact mem _ Ip h1.1 h1.2|exact absurd h1.1 (by simp[memEff])
 rcases aO eH with⟨h1,h2⟩|iI
 ·have bS:Ud (listed.setIfInBounds i true) m js ms=Ud listed m js ms:=qR fun j hj=>Qw (by rintro rfl;exact eH hj);rw[bS]at fin;have gP:=hI.mm;have lW:=hI.ls
  have aqO:rop P gl orc (ev gl (bI P gl orc ops T0 m (Qz js ms) i)) (Ud listed m js ms) o.dst (tr P o)=rop P gl orc (ev gl (bI P gl orc ops T0 m (Qz js ms) i)) m o.dst (tr P o):=by
   cases kJ:jf ops js i with
   |false=>
    rcases wH listed js ms m with h|⟨x,hx,h⟩
    ·rw[h]
    rw[h];exact h2 kJ x hx
   |true=>
    have JR:Ud listed m js ms=m:=by
     cases js with
     |nil=>cases ms<;>rfl
     |cons j0 js=>
      simp only[jf]at kJ
      have hn:listed.getD j0 false=false:=by
       cases hl:listed.getD j0 false with
       |false=>rfl
       |true=>
        have:=uz (ops:=ops) (listed:=listed) hI.clo j0 [j0] (fun k hk=>by rw[zzcq.1 hk];exact hl) i (Nm kJ);rw[Xb jb false true,hu]at this;cases this
      cases ms with
      |nil=>rfl
      |cons x q=>simp only[Ud,hn];rfl
    rw[JR]
  generalize Ud listed m js ms=mL at*
  refine Qcy (m:=mL) gP (fun _ _ h=>h) hI.g dn (by rw[aqO];exact h1) r _ Q fun v w' γ' q1 q2 q3=>?_;rw[aqO]at q3;exact fin q1.cI q2 (lW.mono q1) (by rw[jg eH ho];exact q3)
 have bS:Ud (listed.setIfInBounds i true) m js ms=Ud listed m js ms:=qR fun j hj=>Qw (by rintro rfl;exact eH hj);rw[bS]at fin;have gP:=hI.mm;have lW:=hI.ls
 have hL:rdC P gl orc Y (ev gl (bI P gl orc ops T0 m (Qz js ms) i)) m o.dst (Ud listed m js ms) (tr P o):=by
  rcases wH listed js ms m with h|⟨x,hx,h⟩
  ·rw[h];exact iI.1
  rw[h];exact iI.2 x hx
 generalize Ud listed m js ms=mL at*
 have zI:ek N w0 r an S P gl Y γ w ⟨(List.range T0.length).map fun t=>me P gl orc ops T0 m (Qz js ms) p listed t,mL⟩ a:=by
  refine⟨gP,lW,hI.rd,⟨by simp[hI.tl],fun t x v hx hv=>?_⟩,hI.d,hI.g,hI.y,hI.e⟩
  ·have ai:t<T0.length:=by
    rcases zzaa t T0.length with h|h
    ·exact h
    simp[zzbk.2 h]at hx
   simp[ai]at hx;have:=hI.tt t;rw[hx]at this;have ER:a.tmps.getD t undef=v:=by simp at hv;simp[hv]
   rwa [ER]at this
 cases Ip:tr P o with
 |call f args=>
  rw[Ip]at hL
  have mX:Qam P gl Y (ev gl (bI P gl orc ops T0 m (Qz js ms) i)) mL (fun y m2=>y=(rop P gl orc (ev gl (bI P gl orc ops T0 m (Qz js ms) i)) m o.dst (.call f args)).2/\m2=mL) (tr P o):=by
   rw[Ip];simp only[rdC]at hL;simp only[Qam];split at hL
   ·rename_i g first cap bV;simp only[bV];exact hL
   exact hL.elim
  refine Qdi zI dn mX fun v w' γ' av' m' hK h3 h4 h5 h6=>?_;obtain⟨rfl,rfl⟩:=hK;exact fin h3 h4 h5 (by rw[jg eH ho,Ip];exact h6)
 |_=>rw[Ip]at hL;exact(show False from hL).elim
def uB:∀{js:Pa},PL ops js=true->∀a j j' o,js[a]?=some j->js[a+1]?=some j'->ops[j']?=some o->j∈Xz o
 |[],_,a,j,j',o,h,_,_=>by simp at h
 |[x],_,a,j,j',o,h,h',_=>by
  have:=(zza.1 h').1;simp at this
 |x::y::r,hc,0,j,j',o,h,h',ho=>by
  simp at h h';subst h;subst h';simp only[PL,zzac,ho]at hc;simpa using hc.1
 |x::y::r,hc,a+1,j,j',o,h,h',ho=>by
  simp only[PL,zzac]at hc;exact uB hc.2 a j j' o (Nm h) (Nm h') ho
def Kg{js:Pa}(h:Qel ops p=some js):js=(List.range p).filter (dF ops wG)/\PL ops js=true/\∀i,i<p->∃o,ops[i]?=some o:=by
 unfold Qel at h;simp only at h;split at h
 case isFalse=>cases h
 rename_i bD;cases h;simp only[zzac]at bD;refine⟨rfl,bD.1.1.2,fun i hi=>?_⟩;have h1:=zzas.1 bD.2 i (zzav.2 hi);exact zzcd.1 h1
def cS(ops:Array Oper)(k:Nat):Nat:=((List.range k).filter (dF ops wG)).length
def jh(k:Nat):cS ops (k+1)=cS ops k+(if dF ops wG k=true then 1 else 0):=by
 simp only[cS,zzez,zzdi,zzak];cases h:dF ops wG k<;>simp[h]
def JS{i:Nat}(hi:i<p)(hd:dF ops wG i=true):((List.range p).filter (dF ops wG))[cS ops i]?=some i:=by
 obtain⟨n,rfl⟩:∃n,p=i+(n+1):=⟨p-i-1,zE⟩;rw[List.range_add,zzdi];have hl:cS ops i=((List.range i).filter (dF ops wG)).length:=rfl;rw[hl,zzap (zzab _),zzgw,zzaz,zzcn,zzdv hd];simp
def Nw{ms:QP}{js:Pa}(l2:List SO)(K:AS->Prop)(hp:p<=ops.size)(fU:js=(List.range p).filter (dF ops wG)):∀(n k:Nat)(mc:AM),k+n=p->cS ops k<=ms.length->mc=Ya m ms (cS ops k)->
  ig P gl orc Y l2 K m ms (((ops.toList.take p).drop k).map (Xd P ops)) ((flags ops p js).drop k) (ms.drop (cS ops k)) mc (bI P gl orc ops T0 m (Qz js ms) k)->
  js.length=ms.length/\
  (
   ∀i o,k<=i->i<p->ops[i]?=some o->
   (i ∉ js->((rop P gl orc (ev gl (bI P gl orc ops T0 m (Qz js ms) i)) m o.dst (tr P o)).1/\(jf ops js i=false->∀x∈ms,rop P gl orc (ev gl (bI P gl orc ops T0 m (Qz js ms) i)) x.2 o.dst (tr P o)=rop P gl orc (ev gl (bI P gl orc ops T0 m (Qz js ms) i)) m o.dst (tr P o)))\/(rdC P gl orc Y (ev gl (bI P gl orc ops T0 m (Qz js ms) i)) m o.dst m (tr P o)/\∀x∈ms,rdC P gl orc Y (ev gl (bI P gl orc ops T0 m (Qz js ms) i)) m o.dst x.2 (tr P o)))/\
   (∀b x,js[b]?=some i->ms[b]?=some x->effC P gl orc Y (ev gl (bI P gl orc ops T0 m (Qz js ms) i)) (Ya m ms b) o.dst x.1 x.2 (tr P o))/\Zz (bI P gl orc ops T0 m (Qz js ms) i) (Xd P ops o))/\
  Zn P gl orc Y l2 ⟨(bI P gl orc ops T0 m (Qz js ms) p),Ya m ms ms.length⟩ K:=by
 have dB:∀j,j∈js<->j<p/\dF ops wG j=true:=fun j=>by rw[fU,zzce,zzav]
 have nc:js.Nodup:=by rw[fU];exact(zzdh).filter _
 have Ik:∀i,i<p->dF ops wG i=true->js[cS ops i]?=some i:=fun i h1 h2=>by rw[fU];exact JS h1 h2
 have VQ:∀{a b i:Nat},js[a]?=some i->js[b]?=some i->a=b:=fun{a b i}h1 h2=>Uf nc h1 h2;intro n;induction n with
 |zero=>
  intro k mc hk qu VD h;obtain rfl:k=p:=zE
  have e0:(ops.toList.take k).drop k=[]:=zzal (by simp;omega);rw[e0]at h;simp only[zzcv,ig]at h;have fD:ms.length<=cS ops k:=zzfk.1 h.1;have zb:cS ops k=js.length:=by rw[fU];rfl
  have hcc:cS ops k=ms.length:=zE
  refine⟨zE,fun i o h1 h2=>zE,?_⟩;rw[<- hcc,<- VD];exact h.2
 |succ n ih=>
  intro k mc hk qu VD h;have b9:k<ops.size:=zE
  have ho:ops[k]?=some ops[k]:=zzah b9
  have hd:(ops.toList.take p).drop k=ops[k]::(ops.toList.take p).drop (k+1):=by
   rw[zzag (by simp;omega)];simp
  have fM:(flags ops p js).drop k=Vr ops js k::(flags ops p js).drop (k+1):=by
   rw[zzag (by simp[flags];omega)];simp[flags]
  rw[hd,fM,zzaz]at h;have EZ:=Ko (P:=P) (gl:=gl) (orc:=orc) (T0:=T0) (m:=m) (L:=Qz js ms) ho;have e2:(Xd P ops ops[k]).op=tr P ops[k]:=rfl;have e3:(Xd P ops ops[k]).dst=ops[k].dst:=rfl;have fC:=jh (ops:=ops) k;cases eC:js.contains k with
  |true=>
   have AR:k∈js:=by simpa using eC
   have oR:=((dB k).1 AR).2;rw[oR,if_pos rfl]at fC;rw[show Vr ops js k=.eff by simp only[Vr,eC,cond_true]]at h;simp only[ig,e2,e3]at h;split at h
   ·exact h.elim
   rename_i x q hq
   have JT:cS ops k<ms.length:=by
    rcases zzaa (cS ops k) ms.length with h'|h'
    ·exact h'
    rw[zzal h']at hq;cases hq
   have hx:ms[cS ops k]?=some x:=by
    have:(ms.drop (cS ops k))[0]?=some x:=by rw[hq];rfl
    simpa using this
   have hq':ms.drop (cS ops (k+1))=q:=by
    rw[fC,<- zzdw,hq];rfl
   obtain⟨hgr,h1,h2⟩:=h;have tN:=Ik k zE oR;have bM:=Qcx (P:=P) (gl:=gl) (orc:=orc) (ops:=ops) (m:=m) nc tN hx (bI P gl orc ops T0 m (Qz js ms) k);rw[bM]at EZ
   obtain⟨r1,r2,r3⟩:=ih (k+1) x.2 zE zE (by rw[fC];simp[Ya,List.getD,hx]) (by
    rw[EZ,hq'];exact h2)
   refine⟨r1,fun i o hi dg CE=>?_,r3⟩;rcases zzaa k i with fq|fq
   ·exact r2 i o fq dg CE
   obtain rfl:i=k:=zE
   rw[ho]at CE;cases CE;refine⟨fun h=>absurd AR h,fun b y hb hy=>?_,hgr⟩;obtain rfl:=VQ hb tN;rw[hx]at hy;cases hy;rw[<- VD];exact h1
  |false=>
   have AR:k ∉ js:=by simpa using eC
   have oR:dF ops wG k=false:=by
    cases CI:dF ops wG k with
    |false=>rfl
    |true=>exact absurd ((dB k).2 ⟨zE,CI⟩) AR
   rw[oR,if_neg zd,zzcn]at fC
   obtain⟨hgr,h1,h3⟩:Zz (bI P gl orc ops T0 m (Qz js ms) k) (Xd P ops ops[k])/\(((rop P gl orc (ev gl (bI P gl orc ops T0 m (Qz js ms) k)) m ops[k].dst (tr P ops[k])).1/\(jf ops js k=false->∀x∈ms,rop P gl orc (ev gl (bI P gl orc ops T0 m (Qz js ms) k)) x.2 ops[k].dst (tr P ops[k])=rop P gl orc (ev gl (bI P gl orc ops T0 m (Qz js ms) k)) m ops[k].dst (tr P ops[k])))\/(rdC P gl orc Y (ev gl (bI P gl orc ops T0 m (Qz js ms) k)) m ops[k].dst m (tr P ops[k])/\∀x∈ms,rdC P gl orc Y (ev gl (bI P gl orc ops T0 m (Qz js ms) k)) m ops[k].dst x.2 (tr P ops[k])))/\
     ig P gl orc Y l2 K m ms (((ops.toList.take p).drop (k+1)).map (Xd P ops)) ((flags ops p js).drop (k+1)) (ms.drop (cS ops k)) mc (put (bI P gl orc ops T0 m (Qz js ms) k) ops[k].dst (rop P gl orc (ev gl (bI P gl orc ops T0 m (Qz js ms) k)) m ops[k].dst (tr P ops[k])).2):=by
    cases kJ:jf ops js k with
    |true=>
     rw[show Vr ops js k=.pre by simp only[Vr,eC,kJ,cond_true,cond_false]]at h;simp only[ig,e2,e3]at h;exact⟨h.1,.inl ⟨h.2.1,fun h=>(by cases h)⟩,h.2.2⟩
    |false=>
     rw[show Vr ops js k=.oth by simp only[Vr,eC,kJ,cond_false]]at h;simp only[ig,e2,e3]at h;exact⟨h.1,h.2.1.imp_left fun h=>⟨h.1,fun _=>h.2⟩,h.2.2⟩
   rw[jg AR ho]at EZ;obtain⟨r1,r2,r3⟩:=ih (k+1) mc zE zE (by rw[fC];exact VD) (by rw[EZ,fC];exact h3);refine⟨r1,fun i o hi dg CE=>?_,r3⟩;rcases zzaa k i with fq|fq
   ·exact r2 i o fq dg CE
   obtain rfl:i=k:=zE
   rw[ho]at CE;cases CE;refine⟨fun _=>h1,fun b y hb=>absurd (zzae hb) AR,hgr⟩
def sA{Q:PP}{K:AS->Prop}{γ:G}{w:World}{s:AS}{a:Act}{js:Pa}(hQ:∀γ w s a,K s->ek N w0 r an S P gl Y γ w s a->Q .normal a w)(hc:uy ops p=true)(hj:Qel ops p=some js)
  {ms:QP}(h:ig P gl orc Y ((ops.toList.drop p).map (Xd P ops)) K s.m ms ((ops.toList.take p).map (Xd P ops)) (flags ops p js) ms s.m s.T)(hs:ek N w0 r an S P gl Y γ w s a):
  wpAnyIn (FW r) 0 P .any ops Q ops.size (Array.replicate ops.size false) a {w with drawn:=w.drawn+1}:=by
 obtain⟨hp,cZ⟩:=Zc hc;obtain⟨fU,hjc,gE⟩:=Kg hj;have nc:js.Nodup:=by rw[fU];exact(zzdh).filter _
 have wK:∀j∈js,j<p:=fun j h=>by rw[fU,zzce]at h;exact zzav.1 h.1
 obtain⟨aH,h1,h2⟩:=Nw (P:=P) (gl:=gl) (orc:=orc) (T0:=s.T) (m:=s.m) ((ops.toList.drop p).map (Xd P ops)) K hp fU p 0 s.m zd (by simp[cS]) (by simp[cS,Ya]) (by simpa[bI,cS]using h)
 have full:∀(aT:Nat)(listed:Array Bool)(γ:G)(w:World)(a:Act),qS N w0 r an S Y P gl orc ops s.T s.m ms js (Qz js ms) p listed γ w a->uc ops listed<=aT->(∀i,i<p->listed.getD i false=true)->wpAnyIn (FW r) 0 P .any ops Q aT listed a w:=by
  intro aT listed γ w a hI je bD;have hml:Ud listed s.m js ms=Ya s.m ms ms.length:=Uz aH zE (fun b j _ hb=>bD j (wK j (zzae hb))) (fun j hj=>by rw[zzat zE]at hj;cases hj);have gP:=hI.mm;have lW:=hI.ls;rw[hml]at gP lW;refine Qdz hQ hc aT p listed γ w _ a (zzab _) hp hI.size bD hI.tail je h2 ⟨gP,lW,hI.rd,⟨?_,fun t x v hx hv=>?_⟩,hI.d,hI.g,hI.y,hI.e⟩
  ·simp[Qbc,hI.tl]
  have h1:=hI.tt t
  have hAt:me P gl orc ops s.T s.m (Qz js ms) p listed t=x:=by
   have iG:(bI P gl orc ops s.T s.m (Qz js ms) p).getD t .junk=x:=by simp only at hx;simp[List.getD,hx]
   unfold me;split
   ·exact iG
   rename_i hw;rw[<- iG];refine(Qbj p fun j hj hd=>hw ?_).symm;unfold wr;rw[zzbr];exact⟨j,zzav.2 hj,by rw[bD j hj,hd];simp⟩
  rw[hAt]at h1;have:a.tmps.getD t undef=v:=by simp at hv;simp[hv]
  rwa [this]at h1
 have main:∀(aT:Nat)(listed:Array Bool)(γ:G)(w:World)(a:Act),qS N w0 r an S Y P gl orc ops s.T s.m ms js (Qz js ms) p listed γ w a->uc ops listed<=aT->wpAnyIn (FW r) 0 P .any ops Q aT listed a w:=by
  intro aT;induction aT with
  |zero=>
   intro listed γ w a hI je
   exact full 0 listed γ w a hI je fun i hi=>by
    rw[Xb (by rw[hI.size];omega) false true];exact Qdx (zzex.1 je) zE
  |succ aT ih=>
   intro listed γ w a hI je;by_cases bD:∀i,i<p->listed.getD i false=true
   ·exact full (aT+1) listed γ w a hI je bD
   have hex:∃k,k<p/\listed.getD k true=false:=by
    refine Classical.byContradiction fun hn=>bD fun i hi=>?_;rw[Xb (by rw[hI.size];omega) false true];cases hl:listed.getD i true with
    |true=>rfl
    |false=>exact absurd ⟨i,hi,hl⟩ hn
   obtain⟨k,hk,VN⟩:=hex;refine⟨fun hr=>?_,fun i hi=>?_⟩
   ·obtain⟨j,hj⟩:=Un hc hI.size k k (zzab _) zE VN;rw[hr]at hj;cases hj
   obtain⟨ai,hu,o,ho,bT⟩:=Uo hc hi
   have dg:i<p:=by
    rcases zzaa i p with h|h
    ·exact h
    have:=Qbl hI.clo ho ((cZ i o ho).2.2 h) bT i k zE zE;rw[Xb (by rw[hI.size];omega) false true,VN]at this;cases this
   refine wpOpIn_mono ?_ (Qck hc hI ho dg (h1 i o (zzbp _) dg ho).2.2 aH nc hu bT (fun a j e1 e2=>bT j (uB hjc a j i o e1 e2 ho)) (h1 i o (zzbp _) dg ho).1 (h1 i o (zzbp _) dg ho).2.1);rintro a' w' ⟨γ',lG,_⟩;refine ih _ γ' w' a' lG ?_;have:=jd hI.size ai hu;omega
 have tP:∀j,(Array.replicate ops.size false).getD j false=false:=fun j=>by
  rcases zzaa j ops.size with h|h<;>simp[h]
 have nq:∀VR:Pa,chn (Array.replicate ops.size false) VR:=fun VR=>by
  induction VR with
  |nil=>trivial
  |cons j r ih=>
   cases r with
   |nil=>trivial
   |cons j' r=>exact⟨fun h=>(by rw[tP]at h;cases h),ih⟩
 have JR:Ud (Array.replicate ops.size false) s.m js ms=s.m:=Uz (a:=0) aH zE (fun b j hb=>zE) (fun j _=>tP j);refine main ops.size _ γ w.drew a ⟨zd,fun i _ hi=>by simp[hi],nq js,fun j o h=>(by rw[tP]at h;cases h),?_,?_,hs.rd.aU (Ev.drew w γ).cI,?_,fun t=>?_,hs.d.aU (Ev.drew w γ).cI,fun g=>(hs.g g).mono (Ev.drew w γ).cV,hs.y.mono (Ev.drew w γ).cI,hs.e.trans (Ev.drew w γ).cI⟩ ?_
 ·rw[JR];exact hs.m.drew
 ·rw[JR];exact hs.ls.mono (Ev.drew w γ)
 ·have:=hs.t.1;simp at this;omega
 ·have hw:wr ops p (Array.replicate ops.size false) t=false:=by
   unfold wr;rw[zzdj];intro j _;rw[tP j];simp
  unfold me;rw[hw];simp only[zzbh,if_false];have:=(hs.t.mono (Ev.drew w γ)).get t;simpa[List.getD]using this
 unfold uc;exact zzba (zzeq) zd
end
open Go
def wL(ops:Array Oper)(p:Nat)(js:Pa):Bool:=match js.getLast? with
 |some j=>(List.range p).all fun i=>decide (i<=j)||(Fb ops i [i]).contains j
 |none=>false
def bkF(ops:Array Oper)(p:Nat)(js:Pa):List Fg:=bif wL ops p js then[.eff]else[]
def adD(fl:List Fg)(l:List SO):Bool:=!(fl.drop l.length).isEmpty
section
variable (P:Program) (gl:Nat->AV) (orc:UV) (Y:YT)
def effR(e:bE->AV)(m:AM)(R:So):aF->Prop
 |.call f args=>(match e f with
  |.fn g first cap=>aB P gl Y g (first++args.map e++cap) m R
  |_=>False)
 |_=>False
def iJ(R:So)(l2:List SO)(K:AS->Prop)(m:AM)(ms:QP):List SO->List Fg->QP->AM->P2->Prop
 |[],_,q,mc,T=>q=[]/\Zn P gl orc Y l2 ⟨T,mc⟩ K
 |_::_,[],_,_,_=>False
 |o::r,.eff::fl,q,mc,T=>(match q with
  |[]=>False
  |x::q=>Zz T o/\((q=[]->effR P gl Y (ev gl T) mc R o.op)/\(q≠[]->effC P gl orc Y (ev gl T) mc o.dst x.1 x.2 o.op))/\iJ R l2 K m ms r fl q x.2 (put T o.dst x.1))
 |o::r,.pre::fl,q,mc,T=>Zz T o/\(rop P gl orc (ev gl T) m o.dst o.op).1/\iJ R l2 K m ms r fl q mc (put T o.dst (rop P gl orc (ev gl T) m o.dst o.op).2)
 |o::r,.oth::fl,q,mc,T=>Zz T o/\(rop P gl orc (ev gl T) m o.dst o.op).1/\(∀x∈ms,rop P gl orc (ev gl T) x.2 o.dst o.op=rop P gl orc (ev gl T) m o.dst o.op)/\iJ R l2 K m ms r fl q mc (put T o.dst (rop P gl orc (ev gl T) m o.dst o.op).2)
def Zk(m:AM):List SO->List Fg->QP->P2->P2
 |o::r,.eff::fl,x::q,T=>Zk m r fl q (put T o.dst x.1)
 |o::r,_::fl,[],T=>(rop P gl orc (ev gl T) m o.dst o.op).2::Zk m r fl [] (put T o.dst (rop P gl orc (ev gl T) m o.dst o.op).2)
 |o::r,_::fl,x::q,T=>Zk m r fl (x::q) (put T o.dst (rop P gl orc (ev gl T) m o.dst o.op).2)
 |_,_,_,_=>[]
def ji{l2:List SO}{K:AS->Prop}{m:AM}{ms:QP}{ex:List Fg}:∀{l:List SO}{fl:List Fg}{q:QP}{mc:AM}{T:P2},fl.length=l.length->ig P gl orc Y l2 K m ms l (fl++ex) q mc T->ig P gl orc Y l2 K m ms l fl q mc T
 |[],[],q,mc,T,_,h=>by simpa only[ig]using h
 |[],_::_,_,_,_,hl,_=>by simp at hl
 |_::_,[],_,_,_,hl,_=>by simp at hl
 |o::r,.eff::fl,[],mc,T,hl,h=>by simp only[zzad,ig]at h
 |o::r,.eff::fl,x::q,mc,T,hl,h=>by
  simp only[zzad,ig]at h |-
  exact⟨h.1,h.2.1,ji (Nm hl) h.2.2⟩
 |o::r,.pre::fl,q,mc,T,hl,h=>by
  simp only[zzad,ig]at h |-
  exact⟨h.1,h.2.1,ji (Nm hl) h.2.2⟩
 |o::r,.oth::fl,q,mc,T,hl,h=>by
  simp only[zzad,ig]at h |-
  exact⟨h.1,h.2.1,ji (Nm hl) h.2.2⟩
def Jq{m:AM}{ex:List Fg}:∀{l:List SO}{fl:List Fg}{q:QP}{T:P2},fl.length=l.length->Zk P gl orc m l (fl++ex) q T=Zk P gl orc m l fl q T
 |[],[],q,T,_=>by simp only[Zk]
 |[],_::_,_,_,hl=>by simp at hl
 |_::_,[],_,_,hl=>by simp at hl
 |o::r,.eff::fl,[],T,hl=>by
  simp only[zzad,Zk];rw[Jq (Nm hl)]
 |o::r,.eff::fl,x::q,T,hl=>by
  simp only[zzad,Zk];rw[Jq (Nm hl)]
 |o::r,.pre::fl,[],T,hl=>by
  simp only[zzad,Zk];rw[Jq (Nm hl)]
 |o::r,.pre::fl,x::q,T,hl=>by
  simp only[zzad,Zk];rw[Jq (Nm hl)]
 |o::r,.oth::fl,[],T,hl=>by
  simp only[zzad,Zk];rw[Jq (Nm hl)]
 |o::r,.oth::fl,x::q,T,hl=>by
  simp only[zzad,Zk];rw[Jq (Nm hl)]
def jj{R:So}{l2:List SO}{K:AS->Prop}{m:AM}{ms:QP}{ex:List Fg}:∀{l:List SO}{fl:List Fg}{q:QP}{mc:AM}{T:P2},fl.length=l.length->iJ P gl orc Y R l2 K m ms l (fl++ex) q mc T->iJ P gl orc Y R l2 K m ms l fl q mc T
 |[],[],q,mc,T,_,h=>by simpa only[iJ]using h
 |[],_::_,_,_,_,hl,_=>by simp at hl
 |_::_,[],_,_,_,hl,_=>by simp at hl
 |o::r,.eff::fl,[],mc,T,hl,h=>by simp only[zzad,iJ]at h
 |o::r,.eff::fl,x::q,mc,T,hl,h=>by
  simp only[zzad,iJ]at h |-
  exact⟨h.1,h.2.1,jj (Nm hl) h.2.2⟩
 |o::r,.pre::fl,q,mc,T,hl,h=>by
  simp only[zzad,iJ]at h |-
  exact⟨h.1,h.2.1,jj (Nm hl) h.2.2⟩
 |o::r,.oth::fl,q,mc,T,hl,h=>by
  simp only[zzad,iJ]at h |-
  exact⟨h.1,h.2.1,h.2.2.1,jj (Nm hl) h.2.2.2⟩
end
section
variable {N:Nat} {w0:eT} {r:Option Nat} {an:Nat->Nat->Prop} {S:G×World} {Y:YT} {P:Program} {gl:Nat->AV} {orc:UV} {ops:Array Oper} {T0:P2} {m:AM} {p:Nat}
def nr{x x':AV×AM}{i:Nat}:∀{js:Pa}{ms:QP}{jl:Nat},js[ms.length]?=some jl->i≠jl->Fc (Qz js (ms++[x])) i=Fc (Qz js (ms++[x'])) i
 |[],_,_,h,_=>by simp at h
 |j::js,[],jl,h,hi=>by
  simp at h;subst h;simp only[zzai,Qz,Fc];rw[if_neg (Ne.symm hi),if_neg (Ne.symm hi)]
 |j::js,y::ms,jl,h,hi=>by
  simp only[zzad,Qz,Fc];rw[nr (ms:=ms) (Nm h) hi]
def wM{L L':QQ}{jl:Nat}(h:∀i,i<jl->Fc L i=Fc L' i):∀k,k<=jl->bI P gl orc ops T0 m L k=bI P gl orc ops T0 m L' k
 |0,_=>rfl
 |k+1,hk=>by
  have ih:=wM h k zE;simp only[bI];rw[ih];cases ho:ops[k]? with
  |none=>rfl
  |some o=>
   simp only;congr 1;simp only[tQ];rw[h k zE]
def JU{L L':QQ}(hc:uy ops p=true){listed:Array Bool}{jl:Nat}(qu:E6 ops listed)(iH:listed.getD jl false=false)(hL:∀i,i<jl->Fc L i=Fc L' i)
  (VT:∀k,jl<k->k<p->(Fb ops k [k]).contains jl=true)(hjp:jl<p)(t:Nat):me P gl orc ops T0 m L p listed t=me P gl orc ops T0 m L' p listed t:=by
 obtain⟨hp,cZ⟩:=Zc hc;unfold me;cases hw:wr ops p listed t with
 |false=>simp
 |true=>
  simp only[if_true];unfold wr at hw;obtain⟨j,hj,hjd⟩:=zzbr.1 hw;simp only[zzac,beq_iff_eq]at hjd;obtain⟨hl,hd⟩:=hjd;have akW:=zzav.1 hj
  have ai:j<jl:=by
   rcases zzdq j jl with h|h|h
   ·exact h
   ·subst h;rw[hl]at iH;cases iH
   have:=uz qu j [j] (fun k hk=>by rw[zzcq.1 hk];exact hl) jl (by simpa using VT j h akW);rw[this]at iH;cases iH
  have sB:∀(L:QQ),(bI P gl orc ops T0 m L p).getD t .junk=(bI P gl orc ops T0 m L jl).getD t .junk:=fun L=>by
   have:=Qdj (P:=P) (gl:=gl) (orc:=orc) (ops:=ops) (T0:=T0) (m:=m) (L:=L) (t:=t) (k:=jl) (p-jl) fun k dD ee E8=>by
    have hk:k<ops.size:=zE
    have E9:ops[k]?=some ops[k]:=zzah hk;have:=((cZ k _ E9).2.1 zE).2 j zE t hd;simp[Vk,E9]at E8;exact this E8
   rwa [show jl+(p-jl)=p by omega]at this
  rw[sB L,sB L',wM hL jl (zzab _)]
def JV{ms:QP}{x:AV×AM}{js:Pa}{R:So}(hc:uy ops p=true){Q:PP}{listed:Array Bool}{γ:G}{w:World}{a:Act}
  (hI:qS N w0 r an S Y P gl orc ops T0 m (ms++[x]) js (Qz js (ms++[x])) p listed γ w a){i:Nat}{o:Oper}(ho:ops[i]?=some o)(dg:i<p)(wJ:Zz (bI P gl orc ops T0 m (Qz js (ms++[x])) i) (Xd P ops o))(aH:js.length=(ms++[x]).length)(nc:js.Nodup)
  (hk:js[ms.length]?=some i)(hu:listed.getD i true=false)(bT:∀j∈Xz o,listed.getD j false=true)(nq:∀a j,js[a]?=some j->js[a+1]?=some i->j∈Xz o)
  (awh:∀x':AV×AM,R x'.1 x'.2->∀t,me P gl orc ops T0 m (Qz js (ms++[x'])) p listed t=me P gl orc ops T0 m (Qz js (ms++[x])) p listed t)
  (D7:effR P gl Y (ev gl (bI P gl orc ops T0 m (Qz js (ms++[x])) i)) (Ya m (ms++[x]) ms.length) R (tr P o)):
  wpOpIn (FW r) 0 P ops Q i (fun a' w'=>∃γ' x',R x'.1 x'.2/\qS N w0 r an S Y P gl orc ops T0 m (ms++[x']) js (Qz js (ms++[x'])) p (listed.setIfInBounds i true) γ' w' a') a w:=by
 have hi:i<ops.size:=(zzbw.1 ho).1;have jb:i<listed.size:=by rw[hI.size];exact hi
 have zH:∀t∈o.looksAt ops,aA w γ ((bI P gl orc ops T0 m (Qz js (ms++[x])) i).getD t .junk) (a.tmps.getD t undef):=fun t ht=>by
  rw[ah5 (P:=P) (gl:=gl) (orc:=orc) (T0:=T0) (m:=m) (L:=Qz js (ms++[x])) hc hI.size ho dg hu bT ht];exact hI.tt t
 have dn:∀y∈o.op.operands,aA w γ (ev gl (bI P gl orc ops T0 m (Qz js (ms++[x])) i) (aC y)) (a.eval y):=fun y hy=>by
  cases y with
  |tmp t=>exact zH t (by simp only[Oper.looksAt,zzam,zzfd];exact .inl ⟨.tmp t,Nm hy,rfl⟩)
  |const v=>exact Kc w γ v
  |func f=>exact .fn rfl (fun i c v h=>by simp at h) rfl fun i c v h=>by simp at h
  |global g=>exact(hI.g g).gq
 have fE:chn (listed.setIfInBounds i true) js:=uA hI.ch fun a j h1 h2=>bT j (nq a j h1 h2);have hpr:E6 ops (listed.setIfInBounds i true):=E6.set hI.clo ho jb bT;have JP:listed.getD i false=false:=by rw[Xb jb false true];exact hu
 have CH:∀b j,b<ms.length->js[b]?=some j->listed.getD j false=true:=fun b j hb hj=>by
  have dz:ms.length-1<js.length:=by simp at aH;omega
  obtain⟨j1,dW⟩:∃j1,js[ms.length-1]?=some j1:=⟨js[ms.length-1],zzaf dz⟩;have gO:=bT j1 (nq (ms.length-1) j1 dW (by rw[show ms.length-1+1=ms.length by omega];exact hk));rcases zzaa b (ms.length-1)with h|h
  ·exact Qbw hI.ch h hj dW gO
  obtain rfl:b=ms.length-1:=zE
  rw[hj]at dW;cases dW;exact gO
 have JR:Ud listed m js (ms++[x])=Ya m (ms++[x]) ms.length:=Uz aH (by simp at aH;omega) CH (fun j hj=>by rw[hk]at hj;cases hj;exact JP)
 have tO:∀x':AV×AM,Ud (listed.setIfInBounds i true) m js (ms++[x'])=x'.2:=fun x'=>by
  have:=Uz (listed:=listed.setIfInBounds i true) (m:=m) (ms:=ms++[x']) (js:=js) (a:=ms.length+1) (by simp at aH |-;omega) (by simp at aH;omega) (fun b j hb hj=>?_) (fun j hj=>by rw[zzat (by simp at aH;omega)]at hj;cases hj)
  ·rw[this];simp[Ya,List.getD]
  rcases zzaa b ms.length with h|h
  ·have fJ:j≠i:=by
    rintro rfl;have:=Uf nc hj hk;omega
   rw[Qw fJ];exact CH b j h hj
  obtain rfl:b=ms.length:=zE
  rw[hk]at hj;cases hj;exact Xu jb
 simp only[wpOpIn,ho];have hw:Region.wanted o (yielded ops a.tmps)=true:=wI wJ zH;rw[if_pos hw];have gP:=hI.mm;have lW:=hI.ls;rw[JR]at gP lW
 have zI:ek N w0 r an S P gl Y γ w ⟨(List.range T0.length).map fun t=>me P gl orc ops T0 m (Qz js (ms++[x])) p listed t,Ya m (ms++[x]) ms.length⟩ a:=by
  refine⟨gP,lW,hI.rd,⟨by simp[hI.tl],fun t x v hx hv=>?_⟩,hI.d,hI.g,hI.y,hI.e⟩
  have ai:t<T0.length:=by
   rcases zzaa t T0.length with h|h
   ·exact h
   simp[zzbk.2 h]at hx
  simp[ai]at hx;have:=hI.tt t;rw[hx]at this;have ER:a.tmps.getD t undef=v:=by simp at hv;simp[hv]
  rwa [ER]at this
 have mX:Qam P gl Y (ev gl (bI P gl orc ops T0 m (Qz js (ms++[x])) i)) (Ya m (ms++[x]) ms.length) R (tr P o):=by
  cases Ip:tr P o with
  |call f args=>
   rw[Ip]at D7;simp only[effR]at D7;simp only[Qam];split at D7
   ·rename_i g first cap bV;simp only[bV];exact D7
   exact D7.elim
  |_=>rw[Ip]at D7;exact D7.elim
 refine Qdi zI dn mX fun v w' γ' av' m' hK he hm hl hr=>?_;have bM:=Qcx (P:=P) (gl:=gl) (orc:=orc) (ops:=ops) (m:=m) (ms:=ms++[(av',m')]) (x:=(av',m')) nc hk zd (bI P gl orc ops T0 m (Qz js (ms++[(av',m')])) i);have hsw:=awh (av',m') hK;refine⟨γ',(av',m'),hK,by simp[hI.size],fun j dW ou=>by rw[Qw zE];exact hI.tail j dW ou,fE,hpr,by rw[tO];exact hm,by rw[tO];exact hl,hI.rd.aU he,?_,fun t=>?_,?_,fun g=>(hI.g g).aU he.cV,hI.y.mono he,hI.e.trans he⟩
 ·cases hd:o.dst<;>simp[Act.put,hI.tl]
 ·rw[CG hc hI.size ho dg,hsw];by_cases hd:o.dst=some t
  ·by_cases ht:t<T0.length
   ·rw[if_pos ⟨hd,ht⟩,hd];have:(a.put (some t) v).tmps.getD t undef=v:=by simp[Act.put,hI.tl,ht]
    rw[this,bM];exact hr
   rw[if_neg (by simp[ht]),hd];have:(a.put (some t) v).tmps.getD t undef=a.tmps.getD t undef:=by simp[Act.put,hI.tl,ht]
   rw[this];exact(hI.tt t).aU he
  rw[if_neg (by simp[hd])]
  have:(a.put o.dst v).tmps.getD t undef=a.tmps.getD t undef:=by
   cases zz:o.dst with
   |none=>rfl
   |some d=>simp only[Act.put];simp;rw[zzcp (by rintro rfl;exact hd zz)]
  rw[this];exact(hI.tt t).aU he
 cases hd:o.dst<;>exact hI.d.aU he
def CJ{R:So}{ms:QP}{js:Pa}(l2:List SO)(K:AS->Prop)(hp:p<=ops.size)(hj:Qel ops p=some js):∀(n k:Nat)(mc:AM),k+n=p->cS ops k<=ms.length->mc=Ya m ms (cS ops k)->
  iJ P gl orc Y R l2 K m ms (((ops.toList.take p).drop k).map (Xd P ops)) ((flags ops p js).drop k) (ms.drop (cS ops k)) mc (bI P gl orc ops T0 m (Qz js ms) k)->
  js.length=ms.length/\
  (
   ∀i o,k<=i->i<p->ops[i]?=some o->
   (i ∉ js->(rop P gl orc (ev gl (bI P gl orc ops T0 m (Qz js ms) i)) m o.dst (tr P o)).1/\(jf ops js i=false->∀x∈ms,rop P gl orc (ev gl (bI P gl orc ops T0 m (Qz js ms) i)) x.2 o.dst (tr P o)=rop P gl orc (ev gl (bI P gl orc ops T0 m (Qz js ms) i)) m o.dst (tr P o)))/\
   (∀b x,js[b]?=some i->ms[b]?=some x->(b+1=ms.length->effR P gl Y (ev gl (bI P gl orc ops T0 m (Qz js ms) i)) (Ya m ms b) R (tr P o))/\(b+1≠ms.length->effC P gl orc Y (ev gl (bI P gl orc ops T0 m (Qz js ms) i)) (Ya m ms b) o.dst x.1 x.2 (tr P o)))/\Zz (bI P gl orc ops T0 m (Qz js ms) i) (Xd P ops o))/\
  Zn P gl orc Y l2 ⟨(bI P gl orc ops T0 m (Qz js ms) p),Ya m ms ms.length⟩ K:=by
 obtain⟨fU,_,gE⟩:=Kg hj;have dB:∀j,j∈js<->j<p/\dF ops wG j=true:=fun j=>by rw[fU,zzce,zzav]
 have nc:js.Nodup:=by rw[fU];exact(zzdh).filter _
 have Ik:∀i,i<p->dF ops wG i=true->js[cS ops i]?=some i:=fun i h1 h2=>by rw[fU];exact JS h1 h2
 have VQ:∀{a b i:Nat},js[a]?=some i->js[b]?=some i->a=b:=fun{a b i}h1 h2=>Uf nc h1 h2;intro n;induction n with
 |zero=>
  intro k mc hk qu VD h;obtain rfl:k=p:=zE
  have e0:(ops.toList.take k).drop k=[]:=zzal (by simp;omega);rw[e0]at h;simp only[zzcv,iJ]at h;have fD:ms.length<=cS ops k:=zzfk.1 h.1;have zb:cS ops k=js.length:=by rw[fU];rfl
  have hcc:cS ops k=ms.length:=zE
  refine⟨zE,fun i o h1 h2=>zE,?_⟩;rw[<- hcc,<- VD];exact h.2
 |succ n ih=>
  intro k mc hk qu VD h;have b9:k<ops.size:=zE
  have ho:ops[k]?=some ops[k]:=zzah b9
  have hd:(ops.toList.take p).drop k=ops[k]::(ops.toList.take p).drop (k+1):=by
   rw[zzag (by simp;omega)];simp
  have fM:(flags ops p js).drop k=Vr ops js k::(flags ops p js).drop (k+1):=by
   rw[zzag (by simp[flags];omega)];simp[flags]
  rw[hd,fM,zzaz]at h;have EZ:=Ko (P:=P) (gl:=gl) (orc:=orc) (T0:=T0) (m:=m) (L:=Qz js ms) ho;have e2:(Xd P ops ops[k]).op=tr P ops[k]:=rfl;have e3:(Xd P ops ops[k]).dst=ops[k].dst:=rfl;have fC:=jh (ops:=ops) k;cases eC:js.contains k with
  |true=>
   have AR:k∈js:=by simpa using eC
   have oR:=((dB k).1 AR).2;rw[oR,if_pos rfl]at fC;rw[show Vr ops js k=.eff by simp only[Vr,eC,cond_true]]at h;simp only[iJ,e2,e3]at h;split at h
   ·exact h.elim
   rename_i x q hq
   have JT:cS ops k<ms.length:=by
    rcases zzaa (cS ops k) ms.length with h'|h'
    ·exact h'
    rw[zzal h']at hq;cases hq
   have hx:ms[cS ops k]?=some x:=by
    have:(ms.drop (cS ops k))[0]?=some x:=by rw[hq];rfl
    simpa using this
   have hq':ms.drop (cS ops (k+1))=q:=by
    rw[fC,<- zzdw,hq];rfl
   obtain⟨hgr,h1,h2⟩:=h;have tN:=Ik k zE oR;have bM:=Qcx (P:=P) (gl:=gl) (orc:=orc) (ops:=ops) (m:=m) nc tN hx (bI P gl orc ops T0 m (Qz js ms) k);rw[bM]at EZ
   obtain⟨r1,r2,r3⟩:=ih (k+1) x.2 zE zE (by rw[fC];simp[Ya,List.getD,hx]) (by
    rw[EZ,hq'];exact h2)
   refine⟨r1,fun i o hi dg CE=>?_,r3⟩;rcases zzaa k i with fq|fq
   ·exact r2 i o fq dg CE
   obtain rfl:i=k:=zE
   rw[ho]at CE;cases CE;refine⟨fun h=>absurd AR h,fun b y hb hy=>?_,hgr⟩;obtain rfl:=VQ hb tN;rw[hx]at hy;cases hy;rw[<- VD]
   have hqe:q=[]<->cS ops i+1=ms.length:=by
    rw[<- hq',fC,zzfk];omega
   exact⟨fun h=>h1.1 (hqe.2 h),fun h=>h1.2 fun e=>h (hqe.1 e)⟩
  |false=>
   have AR:k ∉ js:=by simpa using eC
   have oR:dF ops wG k=false:=by
    cases CI:dF ops wG k with
    |false=>rfl
    |true=>exact absurd ((dB k).2 ⟨zE,CI⟩) AR
   rw[oR,if_neg zd,zzcn]at fC
   obtain⟨hgr,h1,h2,h3⟩:Zz (bI P gl orc ops T0 m (Qz js ms) k) (Xd P ops ops[k])/\(rop P gl orc (ev gl (bI P gl orc ops T0 m (Qz js ms) k)) m ops[k].dst (tr P ops[k])).1/\(jf ops js k=false->∀x∈ms,rop P gl orc (ev gl (bI P gl orc ops T0 m (Qz js ms) k)) x.2 ops[k].dst (tr P ops[k])=rop P gl orc (ev gl (bI P gl orc ops T0 m (Qz js ms) k)) m ops[k].dst (tr P ops[k]))/\
     iJ P gl orc Y R l2 K m ms (((ops.toList.take p).drop (k+1)).map (Xd P ops)) ((flags ops p js).drop (k+1)) (ms.drop (cS ops k)) mc (put (bI P gl orc ops T0 m (Qz js ms) k) ops[k].dst (rop P gl orc (ev gl (bI P gl orc ops T0 m (Qz js ms) k)) m ops[k].dst (tr P ops[k])).2):=by
    cases kJ:jf ops js k with
    |true=>
     rw[show Vr ops js k=.pre by simp only[Vr,eC,kJ,cond_true,cond_false]]at h;simp only[iJ,e2,e3]at h;exact⟨h.1,h.2.1,fun h=>(by cases h),h.2.2⟩
    |false=>
     rw[show Vr ops js k=.oth by simp only[Vr,eC,kJ,cond_false]]at h;simp only[iJ,e2,e3]at h;exact⟨h.1,h.2.1,fun _=>h.2.2.1,h.2.2.2⟩
   rw[jg AR ho]at EZ;obtain⟨r1,r2,r3⟩:=ih (k+1) mc zE zE (by rw[fC];exact VD) (by rw[EZ,fC];exact h3);refine⟨r1,fun i o hi dg CE=>?_,r3⟩;rcases zzaa k i with fq|fq
   ·exact r2 i o fq dg CE
   obtain rfl:i=k:=zE
   rw[ho]at CE;cases CE;refine⟨fun _=>⟨h1,h2⟩,fun b y hb=>absurd (zzae hb) AR,hgr⟩
def sC{Q:PP}{K:AS->Prop}{γ:G}{w:World}{s:AS}{a:Act}{js:Pa}(hQ:∀γ w s a,K s->ek N w0 r an S P gl Y γ w s a->Q .normal a w)(hc:uy ops p=true)(hj:Qel ops p=some js)
  {R:So}{ms:QP}(zJ:∀(jl:Nat),js[ms.length]?=some jl->∀(x x':AV×AM),R x.1 x.2->R x'.1 x'.2->∀listed:Array Bool,E6 ops listed->listed.getD jl false=false->∀t,me P gl orc ops s.T s.m (Qz js (ms++[x'])) p listed t=me P gl orc ops s.T s.m (Qz js (ms++[x])) p listed t)(hR:∃x:AV×AM,R x.1 x.2)(h:∀x:AV×AM,R x.1 x.2->iJ P gl orc Y R ((ops.toList.drop p).map (Xd P ops)) K s.m (ms++[x]) ((ops.toList.take p).map (Xd P ops)) (flags ops p js) (ms++[x]) s.m s.T)(hs:ek N w0 r an S P gl Y γ w s a):
  wpAnyIn (FW r) 0 P .any ops Q ops.size (Array.replicate ops.size false) a {w with drawn:=w.drawn+1}:=by
 obtain⟨hp,cZ⟩:=Zc hc;obtain⟨fU,hjc,gE⟩:=Kg hj;have nc:js.Nodup:=by rw[fU];exact(zzdh).filter _
 have wK:∀j∈js,j<p:=fun j h=>by rw[fU,zzce]at h;exact zzav.1 h.1
 have bD:=fun(x:AV×AM)(hx:R x.1 x.2)=>CJ (P:=P) (gl:=gl) (orc:=orc) (T0:=s.T) (m:=s.m) ((ops.toList.drop p).map (Xd P ops)) K hp hj p 0 s.m zd (by simp[cS]) (by simp[cS,Ya]) (by simpa[bI,cS]using h x hx);obtain⟨x0,hx0⟩:=hR;have dG:js.length=ms.length+1:=by have:=(bD x0 hx0).1;simpa using this
 obtain⟨jl,iH⟩:∃jl,js[ms.length]?=some jl:=⟨_,zzaf zE⟩
 have full:∀(x:AV×AM),R x.1 x.2->∀(aT:Nat)(listed:Array Bool)(γ:G)(w:World)(a:Act),qS N w0 r an S Y P gl orc ops s.T s.m (ms++[x]) js (Qz js (ms++[x])) p listed γ w a->uc ops listed<=aT->(∀i,i<p->listed.getD i false=true)->wpAnyIn (FW r) 0 P .any ops Q aT listed a w:=by
  intro x hx aT listed γ w a hI je aqP;obtain⟨aH,h1,h2⟩:=bD x hx;have bD:=aqP;have hml:Ud listed s.m js (ms++[x])=Ya s.m (ms++[x]) (ms++[x]).length:=Uz aH zE (fun b j _ hb=>bD j (wK j (zzae hb))) (fun j hj=>by rw[zzat zE]at hj;cases hj);have gP:=hI.mm;have lW:=hI.ls;rw[hml]at gP lW;refine Qdz hQ hc aT p listed γ w _ a (zzab _) hp hI.size bD hI.tail je h2 ⟨gP,lW,hI.rd,⟨?_,fun t y v hy hv=>?_⟩,hI.d,hI.g,hI.y,hI.e⟩
  ·simp[Qbc,hI.tl]
  have h1:=hI.tt t
  have hAt:me P gl orc ops s.T s.m (Qz js (ms++[x])) p listed t=y:=by
   have iG:(bI P gl orc ops s.T s.m (Qz js (ms++[x])) p).getD t .junk=y:=by simp only at hy;simp[List.getD,hy]
   unfold me;split
   ·exact iG
   rename_i hw;rw[<- iG];refine(Qbj p fun j hj hd=>hw ?_).symm;unfold wr;rw[zzbr];exact⟨j,zzav.2 hj,by rw[bD j hj,hd];simp⟩
  rw[hAt]at h1;have:a.tmps.getD t undef=v:=by simp at hv;simp[hv]
  rwa [this]at h1
 have main:∀(aT:Nat)(x:AV×AM),R x.1 x.2->∀(listed:Array Bool)(γ:G)(w:World)(a:Act),qS N w0 r an S Y P gl orc ops s.T s.m (ms++[x]) js (Qz js (ms++[x])) p listed γ w a->uc ops listed<=aT->wpAnyIn (FW r) 0 P .any ops Q aT listed a w:=by
  intro aT;induction aT with
  |zero=>
   intro x hx listed γ w a hI je
   exact full x hx 0 listed γ w a hI je fun i hi=>by
    rw[Xb (by rw[hI.size];omega) false true];exact Qdx (zzex.1 je) zE
  |succ aT ih=>
   intro x hx listed γ w a hI je;by_cases hall2:∀i,i<p->listed.getD i false=true
   ·exact full x hx (aT+1) listed γ w a hI je hall2
   have hex:∃k,k<p/\listed.getD k true=false:=by
    refine Classical.byContradiction fun hn=>hall2 fun i hi=>?_;rw[Xb (by rw[hI.size];omega) false true];cases hl:listed.getD i true with
    |true=>rfl
    |false=>exact absurd ⟨i,hi,hl⟩ hn
   obtain⟨k,hk,VN⟩:=hex;refine⟨fun hr=>?_,fun i hi=>?_⟩
   ·obtain⟨j,hj⟩:=Un hc hI.size k k (zzab _) zE VN;rw[hr]at hj;cases hj
   obtain⟨ai,hu,o,ho,bT⟩:=Uo hc hi
   have dg:i<p:=by
    rcases zzaa i p with h|h
    ·exact h
    have:=Qbl hI.clo ho ((cZ i o ho).2.2 h) bT i k zE zE;rw[Xb (by rw[hI.size];omega) false true,VN]at this;cases this
   obtain⟨aH,h1,_⟩:=bD x hx;obtain⟨h1a,h1b,h1g⟩:=h1 i o (zzbp _) dg ho;by_cases eH:i=jl
   ·subst eH;refine wpOpIn_mono ?_ (JV hc hI ho dg h1g aH nc iH hu bT (fun a j e1 e2=>uB hjc a j i o e1 e2 ho) (fun x' iG=>zJ i iH x x' hx iG listed hI.clo (by rw[Xb (by rw[hI.size];exact ai) false true];exact hu)) ((h1b ms.length x iH zd).1 zd));rintro a' w' ⟨γ',x',iG,lG⟩;refine ih x' iG _ γ' w' a' lG ?_;have:=jd hI.size ai hu;omega
   refine wpOpIn_mono ?_ (Qck hc hI ho dg h1g aH nc hu bT (fun a j e1 e2=>bT j (uB hjc a j i o e1 e2 ho)) (fun h=>.inl (h1a h)) (fun k y e1 e2=>(h1b k y e1 e2).2 fun e=>eH (by
    have hk:k=ms.length:=by simpa using e
    subst hk;rw[iH]at e1;exact(Option.some.inj e1).symm)))
   rintro a' w' ⟨γ',lG,_⟩;refine ih x hx _ γ' w' a' lG ?_;have:=jd hI.size ai hu;omega
 have tP:∀j,(Array.replicate ops.size false).getD j false=false:=fun j=>by
  rcases zzaa j ops.size with h|h<;>simp[h]
 have nq:∀VR:Pa,chn (Array.replicate ops.size false) VR:=fun VR=>by
  induction VR with
  |nil=>trivial
  |cons j r ih=>
   cases r with
   |nil=>trivial
   |cons j' r=>exact⟨fun h=>(by rw[tP]at h;cases h),ih⟩
 have JR:Ud (Array.replicate ops.size false) s.m js (ms++[x0])=s.m:=Uz (a:=0) (bD x0 hx0).1 zE (fun b j hb=>zE) (fun j _=>tP j);refine main ops.size x0 hx0 _ γ w.drew a ⟨zd,fun i _ hi=>by simp[hi],nq js,fun j o h=>(by rw[tP]at h;cases h),?_,?_,hs.rd.aU (Ev.drew w γ).cI,?_,fun t=>?_,hs.d.aU (Ev.drew w γ).cI,fun g=>(hs.g g).mono (Ev.drew w γ).cV,hs.y.mono (Ev.drew w γ).cI,hs.e.trans (Ev.drew w γ).cI⟩ ?_
 ·rw[JR];exact hs.m.drew
 ·rw[JR];exact hs.ls.mono (Ev.drew w γ)
 ·have:=hs.t.1;simp at this;omega
 ·have hw:wr ops p (Array.replicate ops.size false) t=false:=by
   unfold wr;rw[zzdj];intro j _;rw[tP j];simp
  unfold me;rw[hw];simp only[zzbh,if_false];have:=(hs.t.mono (Ev.drew w γ)).get t;simpa[List.getD]using this
 unfold uc;exact zzba (zzeq) zd
def VU{L L':QQ}(hc:uy ops p=true){listed:Array Bool}{jl:Nat}(iH:listed.getD jl false=false)(hL:∀i,i<jl->Fc L i=Fc L' i)
  (iT:∀k,jl<k->k<p->tQ P gl orc ops m L k (bI P gl orc ops T0 m L k)=tQ P gl orc ops m L' k (bI P gl orc ops T0 m L' k))(hjp:jl<p)(t:Nat):me P gl orc ops T0 m L p listed t=me P gl orc ops T0 m L' p listed t:=by
 obtain⟨hp,cZ⟩:=Zc hc;unfold me;cases hw:wr ops p listed t with
 |false=>simp
 |true=>
  simp only[if_true];unfold wr at hw;obtain⟨j,hj,hjd⟩:=zzbr.1 hw;simp only[zzac,beq_iff_eq]at hjd;obtain⟨hl,hd⟩:=hjd;have akW:=zzav.1 hj;have fU:j<ops.size:=zE
  have hjo:ops[j]?=some ops[j]:=zzah fU
  have sB:∀(L:QQ),(bI P gl orc ops T0 m L p).getD t .junk=(bI P gl orc ops T0 m L (j+1)).getD t .junk:=fun L=>by
   have:=Qdj (P:=P) (gl:=gl) (orc:=orc) (ops:=ops) (T0:=T0) (m:=m) (L:=L) (t:=t) (k:=j+1) (p-(j+1)) fun k dD ee E8=>by
    have hk:k<ops.size:=zE
    have E9:ops[k]?=some ops[k]:=zzah hk;have:=((cZ k _ E9).2.1 zE).2 j zE t hd;simp[Vk,E9]at E8;exact this E8
   rwa [show j+1+(p-(j+1))=p by omega]at this
  rw[sB L,sB L'];rcases zzdq j jl with h|h|h
  ·rw[wM hL (j+1) zE]
  ·subst h;rw[hl]at iH;cases iH
  have hv:=iT j h akW;have sD:ops[j].dst=some t:=by simpa[Vk,hjo]using hd
  rw[Ko hjo,Ko hjo,hv,sD];have aH:(bI P gl orc ops T0 m L j).length=(bI P gl orc ops T0 m L' j).length:=by rw[Qbc,Qbc]
  by_cases ht:t<(bI P gl orc ops T0 m L j).length
  ·rw[Ws ht,Ws zE]
  simp only[put,List.getD];rw[zzat (by rw[zzcf];omega),zzat (by rw[zzcf];omega)]
def Fh{Q:PP}{K:AS->Prop}{γ:G}{w:World}{s:AS}{a:Act}{js:Pa}(hQ:∀γ w s a,K s->ek N w0 r an S P gl Y γ w s a->Q .normal a w)(hc:uy ops p=true)(hj:Qel ops p=some js)
  (zq:wL ops p js=true){R:So}{ms:QP}(hR:∃x:AV×AM,R x.1 x.2)(h:∀x:AV×AM,R x.1 x.2->iJ P gl orc Y R ((ops.toList.drop p).map (Xd P ops)) K s.m (ms++[x]) ((ops.toList.take p).map (Xd P ops)) (flags ops p js) (ms++[x]) s.m s.T)(hs:ek N w0 r an S P gl Y γ w s a):
  wpAnyIn (FW r) 0 P .any ops Q ops.size (Array.replicate ops.size false) a {w with drawn:=w.drawn+1}:=by
 obtain⟨hp,cZ⟩:=Zc hc;obtain⟨fU,hjc,gE⟩:=Kg hj;have wK:∀j∈js,j<p:=fun j h=>by rw[fU,zzce]at h;exact zzav.1 h.1
 have bD:=fun(x:AV×AM)(hx:R x.1 x.2)=>CJ (P:=P) (gl:=gl) (orc:=orc) (T0:=s.T) (m:=s.m) ((ops.toList.drop p).map (Xd P ops)) K hp hj p 0 s.m zd (by simp[cS]) (by simp[cS,Ya]) (by simpa[bI,cS]using h x hx);obtain⟨x0,hx0⟩:=hR;have dG:js.length=ms.length+1:=by have:=(bD x0 hx0).1;simpa using this
 refine sC hQ hc hj (fun jl iH x x' _ _ listed zG JP t=>?_) ⟨x0,hx0⟩ h hs
 have VT:∀k,jl<k->k<p->(Fb ops k [k]).contains jl=true:=fun k dD ee=>by
  unfold wL at zq;have hg:js.getLast?=some jl:=by rw[List.getLast?_eq_getElem?,dG];simpa using iH
  rw[hg]at zq;have:=zzas.1 zq k (zzav.2 ee);simp only[zzfl,decide_eq_true_eq]at this;obtain h|h:=this
  ·omega
  exact h
 exact JU hc zG JP (fun j hj=>nr iH zE) VT (wK _ (zzae iH)) t
def CK{k k':Nat}(h:k<=k'):cS ops k<=cS ops k':=by
 induction k' with
 |zero=>
  obtain rfl:k=0:=zE
  exact zzab _
 |succ n ih=>
  rcases zzaa k (n+1)with h'|h'
  ·have:=ih zE;have:=jh (ops:=ops) n;split at this<;>omega
  obtain rfl:k=n+1:=zE
  exact zzab _
def Fi{ms:QP}{x:AV×AM}{js:Pa}{jl:Nat}(hp:p<=ops.size)(hj:Qel ops p=some js)(dG:js.length=ms.length+1)(iH:js[ms.length]?=some jl):∀(n k:Nat),k+n=p->∀i,k<=i->i<p->jl<i->
  (Zk P gl orc m (((ops.toList.take p).drop k).map (Xd P ops)) ((flags ops p js).drop k) ((ms++[x]).drop (cS ops k)) (bI P gl orc ops T0 m (Qz js (ms++[x])) k))[i-max k (jl+1)]?=some (tQ P gl orc ops m (Qz js (ms++[x])) i (bI P gl orc ops T0 m (Qz js (ms++[x])) i)):=by
 obtain⟨fU,_,gE⟩:=Kg hj;have dB:∀j,j∈js<->j<p/\dF ops wG j=true:=fun j=>by rw[fU,zzce,zzav]
 have nc:js.Nodup:=by rw[fU];exact(zzdh).filter _
 have Ik:∀i,i<p->dF ops wG i=true->js[cS ops i]?=some i:=fun i h1 h2=>by rw[fU];exact JS h1 h2
 have hjm:=(dB jl).1 (zzae iH);have hcj:cS ops jl=ms.length:=Uf nc (Ik jl hjm.1 hjm.2) iH;have ayG:cS ops (jl+1)=ms.length+1:=by rw[jh,if_pos hjm.2,hcj]
 have sB:∀k,k∈js->k<=jl:=fun k hk=>by
  obtain⟨h1,h2⟩:=(dB k).1 hk;rcases zzaa jl k with h|h
  ·have:=CK (ops:=ops) (show jl+1<=k by omega);have h3:=(zza.1 (Ik k h1 h2)).1;omega
  exact h
 intro n;induction n with
 |zero=>intro k hk i hi dg;omega
 |succ n ih=>
  intro k hk i hi dg eH;have b9:k<ops.size:=zE
  have ho:ops[k]?=some ops[k]:=zzah b9
  have hd:(ops.toList.take p).drop k=ops[k]::(ops.toList.take p).drop (k+1):=by
   rw[zzag (by simp;omega)];simp
  have fM:(flags ops p js).drop k=Vr ops js k::(flags ops p js).drop (k+1):=by
   rw[zzag (by simp[flags];omega)];simp[flags]
  have EZ:=Ko (P:=P) (gl:=gl) (orc:=orc) (T0:=T0) (m:=m) (L:=Qz js (ms++[x])) ho;have fC:=jh (ops:=ops) k;have e2:(Xd P ops ops[k]).op=tr P ops[k]:=rfl;have e3:(Xd P ops ops[k]).dst=ops[k].dst:=rfl;rw[hd,fM,zzaz];cases eC:js.contains k with
  |true=>
   have AR:k∈js:=by simpa using eC
   have oQ:=sB k AR;have oR:=((dB k).1 AR).2;rw[oR,if_pos rfl]at fC;rw[show Vr ops js k=.eff by simp only[Vr,eC,cond_true]];have JT:cS ops k<(ms++[x]).length:=by have:=CK (ops:=ops) oQ;simp;omega
   obtain⟨y,hy⟩:∃y,(ms++[x])[cS ops k]?=some y:=⟨_,zzaf JT⟩
   have hq:(ms++[x]).drop (cS ops k)=y::(ms++[x]).drop (cS ops (k+1)):=by
    rw[zzag JT,fC,(zza.1 hy).2]
   rw[hq];simp only[Zk,e3];have bM:=Qcx (P:=P) (gl:=gl) (orc:=orc) (ops:=ops) (m:=m) nc (Ik k zE oR) hy (bI P gl orc ops T0 m (Qz js (ms++[x])) k);rw[bM]at EZ;rw[<- EZ,show max k (jl+1)=max (k+1) (jl+1) by omega];exact ih (k+1) zE i zE dg eH
  |false=>
   have AR:k ∉ js:=by simpa using eC
   have oR:dF ops wG k=false:=by
    cases CI:dF ops wG k with
    |false=>rfl
    |true=>exact absurd ((dB k).2 ⟨zE,CI⟩) AR
   rw[oR,if_neg zd]at fC;have fC:cS ops (k+1)=cS ops k:=fC;have bM:=jg (P:=P) (gl:=gl) (orc:=orc) (m:=m) (ms:=ms++[x]) AR ho (bI P gl orc ops T0 m (Qz js (ms++[x])) k)
   have hfg:Vr ops js k≠.eff:=by
    simp only[Vr,eC,cond_false];cases jf ops js k<;>simp
   rw[bM]at EZ;rcases zzaa jl k with tN|tN
   ·have hq:(ms++[x]).drop (cS ops k)=[]:=zzal (by have:=CK (ops:=ops) (show jl+1<=k by omega);simp;omega);rw[hq]
    have VV:Zk P gl orc m (Xd P ops ops[k]::((ops.toList.take p).drop (k+1)).map (Xd P ops)) (Vr ops js k::(flags ops p js).drop (k+1)) [] (bI P gl orc ops T0 m (Qz js (ms++[x])) k)=
      (rop P gl orc (ev gl (bI P gl orc ops T0 m (Qz js (ms++[x])) k)) m ops[k].dst (tr P ops[k])).2::Zk P gl orc m (((ops.toList.take p).drop (k+1)).map (Xd P ops)) ((flags ops p js).drop (k+1)) [] (put (bI P gl orc ops T0 m (Qz js (ms++[x])) k) ops[k].dst (rop P gl orc (ev gl (bI P gl orc ops T0 m (Qz js (ms++[x])) k)) m ops[k].dst (tr P ops[k])).2):=by
     cases hf:Vr ops js k<;>first|exact absurd hf hfg|(simp only[Zk];rfl)
    rw[VV];rcases zzaa k i with fq|fq
    ·rw[show i-max k (jl+1)=(i-max (k+1) (jl+1))+1 by omega,zzcm,<- EZ];have:=ih (k+1) zE i zE dg eH;rw[fC,hq]at this;exact this
    obtain rfl:i=k:=zE
    rw[show i-max i (jl+1)=0 by omega,zzgr,bM]
   have ayH:k≠jl:=fun e=>AR (by rw[e];exact zzae iH);have JT:cS ops k<(ms++[x]).length:=by have:=CK (ops:=ops) tN;simp;omega
   obtain⟨y,hy⟩:∃y,(ms++[x])[cS ops k]?=some y:=⟨_,zzaf JT⟩
   have hq:(ms++[x]).drop (cS ops k)=y::(ms++[x]).drop (cS ops k+1):=by
    rw[zzag JT,(zza.1 hy).2]
   have ih':=ih (k+1) zE i zE dg eH;rw[fC,hq,EZ]at ih';rw[hq,show max k (jl+1)=max (k+1) (jl+1) by omega]
   have VV:Zk P gl orc m (Xd P ops ops[k]::((ops.toList.take p).drop (k+1)).map (Xd P ops)) (Vr ops js k::(flags ops p js).drop (k+1)) (y::(ms++[x]).drop (cS ops k+1)) (bI P gl orc ops T0 m (Qz js (ms++[x])) k)=
     Zk P gl orc m (((ops.toList.take p).drop (k+1)).map (Xd P ops)) ((flags ops p js).drop (k+1)) (y::(ms++[x]).drop (cS ops k+1)) (put (bI P gl orc ops T0 m (Qz js (ms++[x])) k) ops[k].dst (rop P gl orc (ev gl (bI P gl orc ops T0 m (Qz js (ms++[x])) k)) m ops[k].dst (tr P ops[k])).2):=by
    cases hf:Vr ops js k<;>first|exact absurd hf hfg|(simp only[Zk];rfl)
   rw[VV];exact ih'
def Fj{Q:PP}{K:AS->Prop}{γ:G}{w:World}{s:AS}{a:Act}{js:Pa}(hQ:∀γ w s a,K s->ek N w0 r an S P gl Y γ w s a->Q .normal a w)(hc:uy ops p=true)(hj:Qel ops p=some js)
  {R:So}{ms:QP}{Vs:P2}(hR:∃x:AV×AM,R x.1 x.2)(h:∀x:AV×AM,R x.1 x.2->iJ P gl orc Y R ((ops.toList.drop p).map (Xd P ops)) K s.m (ms++[x]) ((ops.toList.take p).map (Xd P ops)) (flags ops p js) (ms++[x]) s.m s.T)
  (hv:∀x:AV×AM,R x.1 x.2->Zk P gl orc s.m ((ops.toList.take p).map (Xd P ops)) (flags ops p js) (ms++[x]) s.T=Vs)(hs:ek N w0 r an S P gl Y γ w s a):
  wpAnyIn (FW r) 0 P .any ops Q ops.size (Array.replicate ops.size false) a {w with drawn:=w.drawn+1}:=by
 obtain⟨hp,cZ⟩:=Zc hc;obtain⟨fU,hjc,gE⟩:=Kg hj;have wK:∀j∈js,j<p:=fun j h=>by rw[fU,zzce]at h;exact zzav.1 h.1
 have bD:=fun(x:AV×AM)(hx:R x.1 x.2)=>CJ (P:=P) (gl:=gl) (orc:=orc) (T0:=s.T) (m:=s.m) ((ops.toList.drop p).map (Xd P ops)) K hp hj p 0 s.m zd (by simp[cS]) (by simp[cS,Ya]) (by simpa[bI,cS]using h x hx);obtain⟨x0,hx0⟩:=hR;have dG:js.length=ms.length+1:=by have:=(bD x0 hx0).1;simpa using this
 refine sC hQ hc hj (fun jl iH x x' hx iG listed zG JP t=>?_) ⟨x0,hx0⟩ h hs;refine VU hc JP (fun j hj=>nr iH zE) (fun k dD ee=>?_) (wK _ (zzae iH)) t;have g1:=Fi (P:=P) (gl:=gl) (orc:=orc) (T0:=s.T) (m:=s.m) (x:=x) hp hj dG iH p 0 zd k (zzbp _) ee dD;have g2:=Fi (P:=P) (gl:=gl) (orc:=orc) (T0:=s.T) (m:=s.m) (x:=x') hp hj dG iH p 0 zd k (zzbp _) ee dD;have v1:=hv x hx;have v2:=hv x' iG;simp only[zzdb,bI,show cS ops 0=0 from rfl]at g1 g2;rw[v1]at g1;rw[v2]at g2;rw[g1]at g2;exact(Option.some.inj g2).symm
end
open Go Go.RowKit
def aqQ(f:FuncId):Bool:=f==43
def aqR(o:Oper):Bool:=match o.op with
 |.call ⟨.value (.func f),_,_⟩=>aqQ f
 |_=>false
def akX(ops:Array Oper)(j j':Nat):Bool:=match ops[j']? with
 |some o=>(Xz o).contains j
 |none=>false
def CL(ops:Array Oper):Pa->List (Nat×Nat)
 |j::j'::r=>(if akX ops j j'=true then[]else[(j,j')])++CL ops (j'::r)
 |_=>[]
def aqS(o:Oper):Bool:=match o.op with
 |.alloc _=>true
 |_=>false
def Nx(ops:Array Oper)(p:Nat):Option (Pa×Nat×Nat×Nat):=
 let js:=(List.range p).filter (dF ops wG)
 match CL ops js with
 |[(j,z)]=>(match ops[z]? with
  |some o=>(match o.dst with
   |some t=>if aqS o&&o.guard.isNone&&(List.range p).any (dF ops aqR)&&(List.range p).all (dF ops VO)&&(List.range p).all (fun i=>match ops[i]? with
    |some o'=>!(Xz o').contains z||(Xz o').contains j
    |none=>false)then some (js,j,z,t)else none
   |none=>none)
  |none=>none)
 |_=>none
def Fk{ops:Array Oper}:∀{js:Pa}(a j j':Nat)(o:Oper),js[a]?=some j->js[a+1]?=some j'->ops[j']?=some o->j∈Xz o\/(j,j')∈CL ops js
 |[],a,j,j',o,h,_,_=>by simp at h
 |[x],a,j,j',o,h,h',_=>by
  have:=(zza.1 h').1;simp at this
 |x::y::r,0,j,j',o,h,h',ho=>by
  simp at h h';subst h;subst h';rw[CL];by_cases hl:akX ops x y=true
  ·left;unfold akX at hl;rw[ho]at hl;simpa using hl
  right;rw[if_neg hl];simp
 |x::y::r,a+1,j,j',o,h,h',ho=>by
  rcases Fk (js:=y::r) a j j' o (Nm h) (Nm h') ho with h1|h1
  ·exact .inl h1
  right;rw[CL];exact List.mem_append_right _ h1
def Ny{ops:Array Oper}:∀{js:Pa}{j j':Nat},(j,j')∈CL ops js->∃a,js[a]?=some j/\js[a+1]?=some j'
 |[],_,_,h=>by simp[CL]at h
 |[x],_,_,h=>by simp[CL]at h
 |x::y::r,j,j',h=>by
  rw[CL]at h;rcases zzam.1 h with h|h
  ·split at h
   ·cases h
   simp at h;obtain⟨rfl,rfl⟩:=h;exact⟨0,rfl,rfl⟩
  obtain⟨a,h1,h2⟩:=Ny h;exact⟨a+1,Nm h1,Nm h2⟩
def JW{ops:Array Oper}{p:Nat}{js:Pa}{jp z t:Nat}(h:Nx ops p=some (js,jp,z,t)):
  js=(List.range p).filter (dF ops wG)/\(∀i,i<p->∃o,ops[i]?=some o)/\(∃oz te,ops[z]?=some oz/\oz.op=.alloc te/\oz.dst=some t/\oz.guard=none)/\(∀i o,i<p->ops[i]?=some o->z∈Xz o->jp∈Xz o)/\
  (∀a j j' o,js[a]?=some j->js[a+1]?=some j'->ops[j']?=some o->j∈Xz o\/(j=jp/\j'=z))/\∃a,js[a]?=some jp/\js[a+1]?=some z:=by
 unfold Nx at h;simp only at h;split at h
 case h_2=>cases h
 rename_i j z' hof;split at h
 case h_2=>cases h
 rename_i oz VW;split at h
 case h_2=>cases h
 rename_i t' ht;split at h
 case isFalse=>cases h
 rename_i bD;simp only[Option.some.injEq,Prod.mk.injEq]at h;obtain⟨rfl,rfl,rfl,rfl⟩:=h;simp only[zzac]at bD;obtain⟨⟨⟨⟨h1,h2⟩,_⟩,_⟩,h5⟩:=bD
 have gC:∀i,i<p->∃o,ops[i]?=some o/\(!(Xz o).contains z'||(Xz o).contains j)=true:=fun i hi=>by
  have:=zzas.1 h5 i (zzav.2 hi);split at this
  ·rename_i o ho;exact⟨o,ho,this⟩
  cases this
 refine⟨rfl,fun i hi=>let⟨o,ho,_⟩:=gC i hi;⟨o,ho⟩,?_,fun i o hi ho hz=>?_,fun a x y o hx hy ho=>?_,Ny (by rw[hof];simp)⟩
 ·unfold aqS at h1;split at h1
  ·rename_i te dn;exact⟨oz,te,VW,dn,ht,Nm h2⟩
  cases h1
 ·obtain⟨o',cQ,hc⟩:=gC i hi;rw[ho]at cQ;cases cQ;have hz':(Xz o).contains z'=true:=by simpa using hz
  rw[hz']at hc;simpa using hc
 rcases Fk a x y o hx hy ho with h|h
 ·exact .inl h
 rw[hof]at h;simp at h;exact .inr h
section
variable {N:Nat} {w0:eT} {r:Option Nat} {an:Nat->Nat->Prop} {S:G×World} {Y:YT} {P:Program} {gl:Nat->AV} {orc:UV} {ops:Array Oper} {T0:P2} {m:AM} {p:Nat} {γ:G} {w:World} {B:Nat->PH} {L:Nat->Option Nat}
def Chg.trans{γ' D6:G}{w' qG:World}(h:Chg γ w γ' w')(k:Chg γ' w' D6 qG):Chg γ w D6 qG where
 os:=k.os.trans h.os
 tape:=k.tape.trans h.tape
 output:=k.output.trans h.output
 size:=zzba h.size k.size
 same b hb hn:=by
  have qt:¬OI γ' b:=fun ho=>by
   rcases h.oi b ho with ho|ho
   ·exact hn ho
   omega
  rw[k.same b (zzay hb h.size) qt,h.same b hb hn]
 ro b o hb hr:=by
  obtain⟨h1,h2⟩:=h.ro b o hb hr;obtain⟨k1,k2⟩:=k.ro b o (zzay hb h.size) h1;exact⟨k1,k2.trans h2⟩
 oi b hb:=by
  rcases k.oi b hb with hb|hb
  ·exact h.oi b hb
  exact .inr (zzba h.size hb)
 ron b o hr:=by
  rcases k.ron b o hr with hr|hr|hr
  ·exact h.ron b o hr
  ·rcases h.oi b hr with hr|hr
   ·exact .inr (.inl hr)
   exact .inr (.inr hr)
  exact .inr (.inr (zzba h.size hr))
def aqT(γs:G)(ws:World)(arr:P1)(te:TypeId):eT where
 p γ w:=Chg γs ws γ w/\ws.heap.size<w.heap.size/\w.heap[ws.heap.size]?=some (.cells arr te (0,0))/\¬OI γ ws.heap.size/\∀o,¬γ.ro ws.heap.size o
 st γ w γ' w':=by
  rintro⟨h1,h2,h3,h4,h5⟩ c;refine⟨h1.trans c,zzay h2 c.size,?_,?_,?_⟩
  ·rw[c.same _ h2 h4];exact h3
  ·intro h;rcases c.oi _ h with h|h
   ·exact h4 h
   omega
  intro o h;rcases c.ron _ _ h with h|h|h
  ·exact h5 o h
  ·exact h4 h
  omega
def au.wN(hm:au N w0 an γ w B L)(o:Obj):Ev w γ (w.alloc o) γ:=
 ⟨zd,fun b o' hb hr=>⟨hr,cell_of_heap (Below.heap_alloc w o b hb)⟩,fun _ _ h=>h,fun _=>zzab _,fun _ _ h=>h,rfl,
  fun i b _ ho=>⟨ho,fun arr e he=>⟨arr,by rw[Below.heap_alloc w o b (hm.own i b ho).2.1];exact he,zzab _⟩,fun _ h=>h⟩,
  fun b hb=>⟨hb,Below.heap_alloc w o b (hm.sp b hb).2.1⟩,Sz.of_same (Below.heap_alloc w o)⟩
def au.awi(hm:au N w0 an γ w B L)(o:Obj)(w1:eT)(h1:w1.p γ (w.alloc o)):au N w1 an γ (w.alloc o) B L where
 bs:=h1
 hN:=by have:=hm.hN;simp;omega
 an:=hm.an
 robd b o h:=by have:=hm.robd b o h;simp;omega
 box id cells b hb h1:=by
  obtain⟨arr,e,h2,h3,h4⟩:=hm.box id cells b hb h1;exact⟨arr,e,by rw[Below.heap_alloc w o b (aR h2)];exact h2,h3.mono (hm.wN o),h4⟩
 β id b hb:=by
  obtain⟨h1,h2,h3⟩:=hm.β id b hb;exact⟨h1,by simp;omega,h3⟩
 inj:=hm.inj
 own id b hb:=by
  obtain⟨h1,h2,h3⟩:=hm.own id b hb;exact⟨h1,by simp;omega,h3⟩
 oinj:=hm.oinj
 sp b hb:=by
  obtain⟨h1,h2,h3⟩:=hm.sp b hb;exact⟨h1,by simp;omega,h3⟩
 mm id b hb:=by
  obtain⟨h1,h2,h3,h4,h5,h6,h8,h7⟩:=hm.mm id b hb;exact⟨h1,by simp;omega,h3,h4,h5,h6,h8,h7.mono (hm.wN o).cI.Au (Below.heap_alloc w o b h2)⟩
 minj:=hm.minj
 len:=hm.len
 cur0:=hm.cur0
def au.oS(hm:au N w0 an γ w B L)(id:Nat)(aL:B id=none)(D:Nat):Ev w γ w (γ.box id D) where
 size:=zzab _
 ro b o' hb hr:=⟨hr,rfl⟩
 β i b hb:=by
  have:i≠id:=by rintro rfl;obtain⟨_,_,_,_,c,hc⟩:=hm.β i b hb;rw[aL]at hc;cases hc
  simp[G.box,this,hb]
 cur _:=zzab _
 mm _ _ h:=h
 lp:=rfl
 own i b _ ho:=⟨ho,fun arr e he=>⟨arr,he,zzab _⟩,fun _ h=>h⟩
 sp b hb:=⟨hb,rfl⟩
 ss:=Sz.refl w
def au.aqU(hm:au N w0 an γ w B L)(w1:eT){D id:Nat}(aL:B id=none){cells:P2}{arr:P1}{te:TypeId}(hN:N<=D)(hh:w.heap[D]?=some (.cells arr te (0,0)))(iF:¬OI γ D)(gj:∀o,¬γ.ro D o)
  (hr:cw w γ cells arr.toList)(Ij:∀v∈arr.toList,v.oneCell'=true)(hp:w1.p (γ.box id D) w):au N w1 an (γ.box id D) w (fun i=>if i=id then some cells else B i) L where
 bs:=hp
 hN:=hm.hN
 an:=hm.an
 robd:=hm.robd
 box i cs b hb h1:=by
  by_cases hi:i=id
  ·subst hi;simp at hb;subst hb;simp[G.box]at h1;subst h1;exact⟨arr,te,hh,hr.mono (hm.oS i aL D),Ij⟩
  simp[hi]at hb;simp[G.box,hi]at h1;obtain⟨bP,e',h2,h3,h4⟩:=hm.box i cs b hb h1;exact⟨bP,e',h2,h3.mono (hm.oS id aL D),h4⟩
 β i b hb:=by
  by_cases hi:i=id
  ·subst hi;simp[G.box]at hb;subst hb;exact⟨hN,aR hh,gj,fun i' h=>iF (.inr (.inl ⟨i',h⟩)),cells,zd⟩
  simp[G.box,hi]at hb;obtain⟨h1,h2,h3,h4,c,hc⟩:=hm.β i b hb;exact⟨h1,h2,h3,h4,c,by simp[hi,hc]⟩
 inj i i' b h h':=by
  by_cases hi:i=id<;>by_cases dm:i'=id
  ·exact .inr (.inr (by rw[hi,dm]))
  ·simp[G.box,hi]at h;simp[G.box,dm]at h';subst h;exact absurd (.inl ⟨i',h'⟩) iF
  ·simp[G.box,dm]at h';simp[G.box,hi]at h;subst h';exact absurd (.inl ⟨i,h⟩) iF
  simp[G.box,hi]at h;simp[G.box,dm]at h';simp only[if_neg hi,if_neg dm];exact hm.inj i i' b h h'
 own:=hm.own
 oinj:=hm.oinj
 sp b hb:=by
  obtain⟨h1,h2,h3,h4,h5⟩:=hm.sp b hb;refine⟨h1,h2,h3,fun i hi=>?_,h5⟩;by_cases aL:i=id
  ·simp[G.box,aL]at hi;subst hi;exact iF (.inr (.inr (.inl hb)))
  simp[G.box,aL]at hi;exact h4 i hi
 mm i' b hb:=by
  obtain⟨h1,h2,h3,h4,h5,h6,h8,h7⟩:=hm.mm i' b hb
  have aO:i'≠id:=by
   rintro rfl;obtain⟨_,_,hx,_⟩:=h7;rw[aL]at hx;cases hx
  refine⟨h1,h2,h3,fun i hi=>?_,h5,h6,by simp[G.box,aO,h8],?_⟩
  ·by_cases aL:i=id
   ·simp[G.box,aL]at hi;subst hi;exact iF (.inr (.inr (.inr ⟨i',hb⟩)))
   simp[G.box,aL]at hi;exact h4 i hi
  simp only[aO,if_false];exact h7.mono (hm.oS id aL D).cI.Au rfl
 minj:=hm.minj
 len:=hm.len
 cur0:=hm.cur0
def CM{l:Array Bool}{i j:Nat}:(l.setIfInBounds i true).setIfInBounds j true=(l.setIfInBounds j true).setIfInBounds i true:=by
 by_cases h:i=j
 ·rw[h]
 exact Array.setIfInBounds_comm _ _ h
structure awj (N:Nat) (w0:eT) (r:Option Nat) (an:Nat->Nat->Prop) (S:G×World) (Y:YT) (P:Program) (gl:Nat->AV) (orc:UV) (ops:Array Oper) (T0:P2) (m:AM) (ms:QP) (js:Pa) (L:QQ) (p jp z t:Nat) (zs:P2) (listed l0:Array Bool) (γs:G) (ws:World) (arr:P1) (te:TypeId) (γ:G) (w:World) (a:Act):Prop where
 eq:listed=l0.setIfInBounds z true
 zl:l0.getD z false=false
 pl:l0.getD jp false=false
 clo:E6 ops listed
 inv:qS N (aqT γs ws arr te) r an S Y P gl orc ops T0 m ms js L p l0 γ w a
 st:w0.p γs ws
 hN:N<=ws.heap.size
 slot:t<T0.length->a.tmps.getD t undef=.pointer (some ⟨ws.heap.size,0,none⟩)
 zr:∀w γ,ak w γ zs arr.toList
 zc:zs.all Qx=true
def Fl{Q:PP}{K:AS->Prop}{γ:G}{w:World}{s:AS}{a:Act}{js:Pa}{jp z t:Nat}(hQ:∀γ w s a,K s->ek N w0 r an S P gl Y γ w s a->Q .normal a w)(hc:uy ops p=true)(heZ:Nx ops p=some (js,jp,z,t))
  (hY:∀i as m K,¬Y i as m K){ms:QP}(h:ig P gl orc Y ((ops.toList.drop p).map (Xd P ops)) K s.m ms ((ops.toList.take p).map (Xd P ops)) (flags ops p js) ms s.m s.T)(hT:s.T.getD t .junk=.junk)(hs:ek N w0 r an S P gl Y γ w s a):
  wpAnyIn (FW r) 0 P .any ops Q ops.size (Array.replicate ops.size false) a {w with drawn:=w.drawn+1}:=by
 obtain⟨hp,cZ⟩:=Zc hc;obtain⟨fU,gE,⟨oz,te,VW,dn,hdz,hgz⟩,hzp,ah6,az,haz,tT⟩:=JW heZ;have nc:js.Nodup:=by rw[fU];exact(zzdh).filter _
 have wK:∀j∈js,j<p:=fun j h=>by rw[fU,zzce]at h;exact zzav.1 h.1
 have awk:=zzae tT;have awl:=zzae haz;have adG:=wK z awk;have ayI:=wK jp awl
 have hpz:jp≠z:=by
  rintro rfl;have:=Uf nc haz tT;omega
 obtain⟨aH,h1,h2⟩:=Nw (P:=P) (gl:=gl) (orc:=orc) (T0:=s.T) (m:=s.m) ((ops.toList.drop p).map (Xd P ops)) K hp fU p 0 s.m zd (by simp[cS]) (by simp[cS,Ya]) (by simpa[bI,cS]using h);have hyk:∀(w0:eT)(γ:G)(w:World),YOK N w0 an P Y γ w:=fun _ _ _ _ _ _ i as m K _ _ _ _ hyy=>(hY i as m K hyy).elim;obtain⟨xz,hxz⟩:∃xz,ms[az+1]?=some xz:=⟨ms[az+1]'(by have:=(zza.1 tT).1;omega),zzaf _⟩;have VX:=(h1 z oz (zzbp _) adG VW).2.1 (az+1) xz tT hxz
 have Ip:∃zs,zc P te=some zs/\tr P oz=.alloc zs:=by
  obtain⟨dst,op,ty,pos,after,guard⟩:=oz;simp only at dn;subst dn;simp only[tr]at VX |-
  cases hzc:zc P te with
  |none=>rw[hzc]at VX;exact absurd VX.1 (by simp[memEff])
  |some zs=>exact⟨zs,rfl,rfl⟩
 obtain⟨zs,hzc,Ip⟩:=Ip;rw[Ip]at VX;obtain⟨_,e1,e2,e3⟩:=VX;have e1:zs.all Qx=true:=e1;have e2:xz.1=.ptr (Ya s.m ms (az+1)).boxes.length 0:=e2;have e3:xz.2={Ya s.m ms (az+1)with boxes:=(Ya s.m ms (az+1)).boxes++[zs]}:=e3
 have full:∀(aT:Nat)(listed:Array Bool)(γ:G)(w:World)(a:Act),qS N w0 r an S Y P gl orc ops s.T s.m ms js (Qz js ms) p listed γ w a->uc ops listed<=aT->(∀i,i<p->listed.getD i false=true)->wpAnyIn (FW r) 0 P .any ops Q aT listed a w:=by
  intro aT listed γ w a hI je bD;have hml:Ud listed s.m js ms=Ya s.m ms ms.length:=Uz aH zE (fun b j _ hb=>bD j (wK j (zzae hb))) (fun j hj=>by rw[zzat zE]at hj;cases hj);have gP:=hI.mm;have lW:=hI.ls;rw[hml]at gP lW;refine Qdz hQ hc aT p listed γ w _ a (zzab _) hp hI.size bD hI.tail je h2 ⟨gP,lW,hI.rd,⟨?_,fun t x v hx hv=>?_⟩,hI.d,hI.g,hI.y,hI.e⟩
  ·simp[Qbc,hI.tl]
  have h1:=hI.tt t
  have hAt:me P gl orc ops s.T s.m (Qz js ms) p listed t=x:=by
   have iG:(bI P gl orc ops s.T s.m (Qz js ms) p).getD t .junk=x:=by simp only at hx;simp[List.getD,hx]
   unfold me;split
   ·exact iG
   rename_i hw;rw[<- iG];refine(Qbj p fun j hj hd=>hw ?_).symm;unfold wr;rw[zzbr];exact⟨j,zzav.2 hj,by rw[bD j hj,hd];simp⟩
  rw[hAt]at h1;have:a.tmps.getD t undef=v:=by simp at hv;simp[hv]
  rwa [this]at h1
 have main:∀(aT:Nat)(listed:Array Bool)(γ:G)(w:World)(a:Act),(qS N w0 r an S Y P gl orc ops s.T s.m ms js (Qz js ms) p listed γ w a\/∃l0 γs ws arr ze,awj N w0 r an S Y P gl orc ops s.T s.m ms js (Qz js ms) p jp z t zs listed l0 γs ws arr ze γ w a)->
   uc ops listed<=aT->wpAnyIn (FW r) 0 P .any ops Q aT listed a w:=by
  intro aT;induction aT with
  |zero=>
   intro listed γ w a hI je;obtain hI|⟨l0,γs,ws,arr,ze,hH⟩:=hI
   ·exact full 0 listed γ w a hI je fun i hi=>by
     rw[Xb (by rw[hI.size];omega) false true];exact Qdx (zzex.1 je) zE
   exfalso;have hsz:listed.size=ops.size:=by rw[hH.eq];simp[hH.inv.size]
   have:=Qdx (ops:=ops) (listed:=listed) (zzex.1 je) (i:=jp) zE;rw[<- Xb (by rw[hsz];omega) false true,hH.eq,Qw hpz,hH.pl]at this;cases this
  |succ aT ih=>
   intro listed γ w a hI je;obtain hI|⟨l0,γs,ws,arr,ze,hH⟩:=hI
   ·by_cases bD:∀i,i<p->listed.getD i false=true
    ·exact full (aT+1) listed γ w a hI je bD
    have hex:∃k,k<p/\listed.getD k true=false:=by
     refine Classical.byContradiction fun hn=>bD fun i hi=>?_;rw[Xb (by rw[hI.size];omega) false true];cases hl:listed.getD i true with
     |true=>rfl
     |false=>exact absurd ⟨i,hi,hl⟩ hn
    obtain⟨k,hk,VN⟩:=hex;refine⟨fun hr=>?_,fun i hi=>?_⟩
    ·obtain⟨j,hj⟩:=Un hc hI.size k k (zzab _) zE VN;rw[hr]at hj;cases hj
    obtain⟨ai,hu,o,ho,bT⟩:=Uo hc hi
    have dg:i<p:=by
     rcases zzaa i p with h|h
     ·exact h
     have:=Qbl hI.clo ho ((cZ i o ho).2.2 h) bT i k zE zE;rw[Xb (by rw[hI.size];omega) false true,VN]at this;cases this
    have huf:listed.getD i false=false:=by rw[Xb (by rw[hI.size];exact ai) false true];exact hu
    by_cases hear:i=z/\listed.getD jp false=false
    ·
     obtain⟨rfl,hjp⟩:=hear;rw[VW]at ho;cases ho;obtain⟨iz,zv,hi1,hi2,hi3⟩:=iX (P:=P) (w:=w) (γ:=γ) hzc
     have aqV:∀w γ,ak w γ zs zv.cells.toList:=fun w γ=>by
      obtain⟨i',z',q1,q2,q3⟩:=iX (P:=P) (w:=w) (γ:=γ) hzc;rw[hi1]at q1;cases q1;rw[hi2]at q2;cases q2;exact q3
     have aZ:(execOp a.eval oz).run P w=.ok (.value (.pointer (some ⟨w.heap.size,0,none⟩))) (w.alloc (.cells zv.cells te)):=by
      obtain⟨dst,op,ty,pos,after,guard⟩:=oz;simp only at dn;subst dn;simp[execOp,Instr.alloc,zeroValue,typeInfo,hi1,hi2,newVar,newRow]
     simp only[wpOpIn,VW];rw[if_pos (by simp[Region.wanted,hgz])];refine Zj aZ (ih _ γ _ _ (.inr ⟨listed,γ,w,zv.cells,te,⟨rfl,huf,hjp,E6.set hI.clo VW (by rw[hI.size];exact ai) bT,?_,hI.mm.bs,hI.mm.hN,?_,aqV,e1⟩⟩) ?_)
     ·have bV:=hI.mm.wN (.cells zv.cells te);refine⟨hI.size,hI.tail,hI.ch,hI.clo,hI.mm.awi _ _ ?_,hI.ls.mono bV,hI.rd.aU bV.cI,by simp[Act.put,hdz,hI.tl],fun t'=>?_,?_,fun g=>(hI.g g).aU bV.cI.cV,hyk _ _ _,hI.e.trans bV.cI⟩
      ·refine⟨⟨rfl,rfl,rfl,zd,fun b hb _=>Below.heap_alloc w _ b hb,bV.ro,fun _ h=>.inl h,fun _ _ h=>.inl h⟩,zd,heap_alloc_new w _,?_,fun o' cQ=>?_⟩
       ·rintro(⟨id,h⟩|⟨id,h⟩|h|⟨id,h⟩)
        ·have:=(hI.mm.β id _ h).2.1;omega
        ·have:=(hI.mm.own id _ h).2.1;omega
        ·have:=(hI.mm.sp _ h).2.1;omega
        have:=(hI.mm.mm id _ h).2.1;omega
       have:=hI.mm.robd _ _ cQ;omega
      ·rw[hdz];by_cases htt:t'=t
       ·subst htt
        have hA:me P gl orc ops s.T s.m (Qz js ms) p listed t'=.junk:=by
         unfold me;rw[if_neg,hT];intro hw;unfold wr at hw;obtain⟨j,hj,hjw⟩:=zzbr.1 hw;simp only[zzac,beq_iff_eq]at hjw
         have hjz:j=i:=by
          rcases zzdq j i with b9|D7|lF
          ·exact absurd hdz (((cZ i oz VW).2.1 adG).2 j b9 t' hjw.2)
          ·exact D7
          obtain⟨oj,hoj⟩:=gE j (zzav.1 hj);have:=((cZ j oj hoj).2.1 (zzav.1 hj)).2 i lF t' (by simp[Vk,VW,hdz]);have h2:=hjw.2;simp[Vk,hoj]at h2;exact absurd h2 this
         rw[hjz,huf]at hjw;exact absurd hjw.1 zd
        rw[hA];exact .junk _
       have:(a.put (some t) (.pointer (some ⟨w.heap.size,0,none⟩))).tmps.getD t' undef=a.tmps.getD t' undef:=by
        simp only[Act.put];simp;rw[zzcp (Ne.symm htt)]
       rw[this];exact(hI.tt t').aU bV.cI
      rw[hdz];exact hI.d.aU bV.cI
     ·intro lZ;rw[hdz];have:t<a.tmps.size:=by rw[hI.tl];exact lZ
      simp[Act.put,this]
     have:=jd hI.size ai hu;omega
    have nq:∀a j,js[a]?=some j->js[a+1]?=some i->listed.getD j false=true:=fun a j e1 e2=>by
     rcases ah6 a j i o e1 e2 ho with h|⟨rfl,rfl⟩
     ·exact bT j h
     cases hl:listed.getD j false with
     |true=>rfl
     |false=>exact absurd ⟨rfl,hl⟩ hear
    refine wpOpIn_mono ?_ (Qck hc hI ho dg (h1 i o (zzbp _) dg ho).2.2 aH nc hu bT nq (h1 i o (zzbp _) dg ho).1 (h1 i o (zzbp _) dg ho).2.1);rintro a' w' ⟨γ',lG,_⟩;refine ih _ γ' w' a' (.inl lG) ?_;have:=jd hI.size ai hu;omega
   have hsz:listed.size=ops.size:=by rw[hH.eq];simp[hH.inv.size]
   have qq:∀k d,k≠z->listed.getD k d=l0.getD k d:=fun k d hk=>by rw[hH.eq,Qw hk]
   have akY:listed.getD jp false=false:=by rw[qq jp false hpz];exact hH.pl
   have aqW:jp<listed.size:=by rw[hsz];omega
   have aqX:z<l0.size:=by rw[hH.inv.size];omega
   refine⟨fun hr=>?_,fun i hi=>?_⟩
   ·obtain⟨j,hj⟩:=Un hc hsz jp jp (zzab _) zE (by rw[Xb aqW true false];exact akY);rw[hr]at hj;cases hj
   obtain⟨ai,hu,o,ho,bT⟩:=Uo hc hi
   have dg:i<p:=by
    rcases zzaa i p with h|h
    ·exact h
    have:=Qbl hH.clo ho ((cZ i o ho).2.2 h) bT i jp zE zE;rw[akY]at this;cases this
   have hiz:i≠z:=by
    rintro rfl;rw[hH.eq,Xu aqX]at hu;cases hu
   have ah7:∀j∈Xz o,l0.getD j false=true:=fun j hj=>by
    have hjz:j≠z:=by
     rintro rfl;have:=bT jp (hzp i o dg ho hj);rw[akY]at this;cases this
    rw[<- qq j false hjz];exact bT j hj
   have hu0:l0.getD i true=false:=by rw[<- qq i true hiz];exact hu
   have nq:∀a j,js[a]?=some j->js[a+1]?=some i->l0.getD j false=true:=fun a j e1 e2=>by
    rcases ah6 a j i o e1 e2 ho with h|⟨_,h⟩
    ·exact ah7 j h
    exact absurd h hiz
   refine wpOpIn_mono ?_ (Qck (w0:=aqT γs ws arr ze) hc hH.inv ho dg (h1 i o (zzbp _) dg ho).2.2 aH nc hu0 ah7 nq (h1 i o (zzbp _) dg ho).1 (h1 i o (zzbp _) dg ho).2.1);rintro a' w' ⟨γ',lG,zJ⟩;have aqY:listed.setIfInBounds i true=(l0.setIfInBounds i true).setIfInBounds z true:=by rw[hH.eq];exact CM
   have hdt:o.dst≠some t:=by
    rcases zzdq i z with b9|D7|lF
    ·intro hd;exact((cZ z oz VW).2.1 adG).2 i b9 t (by simp[Vk,ho,hd]) hdz
    ·exact absurd D7 hiz
    exact((cZ i o ho).2.1 dg).2 z lF t (by simp[Vk,VW,hdz])
   have ah8:t<s.T.length->a'.tmps.getD t undef=.pointer (some ⟨ws.heap.size,0,none⟩):=fun lZ=>by rw[zJ t hdt];exact hH.slot lZ
   have je:uc ops (listed.setIfInBounds i true)<=aT:=by
    have:=jd hsz ai hu;omega
   by_cases eH:i=jp
   ·subst eH;have zG:=E6.set hH.clo ho (by rw[hsz];exact ai) bT;refine ih _ (γ'.box (Ya s.m ms (az+1)).boxes.length ws.heap.size) w' a' (.inl ?_) je;rw[aqY]at zG |-
    obtain⟨c1,c2,c3,c4,c5⟩:=lG.mm.bs;have akZ:i<l0.size:=by rw[hH.inv.size];exact ai
    have hz0:(l0.setIfInBounds i true).getD z false=false:=by rw[Qw (Ne.symm hiz)];exact hH.zl
    have CH:∀b j,b<az+1->js[b]?=some j->(l0.setIfInBounds i true).getD j false=true:=fun b j hb hj=>by
     rcases zzaa b az with b9|bn
     ·exact Qbw lG.ch b9 hj haz (Xu akZ)
     obtain rfl:b=az:=zE
     rw[haz]at hj;cases hj;exact Xu akZ
    have ayJ:az+1<js.length:=(zza.1 tT).1;have tO:Ud (l0.setIfInBounds i true) s.m js ms=Ya s.m ms (az+1):=Uz aH zE CH (fun j hj=>by rw[tT]at hj;cases hj;exact hz0)
    have zg:Ud ((l0.setIfInBounds i true).setIfInBounds z true) s.m js ms=xz.2:=by
     have:=Uz (listed:=(l0.setIfInBounds i true).setIfInBounds z true) (m:=s.m) (a:=az+2) aH zE (fun b j hb hj=>?_) (fun j hj=>?_)
     ·rw[this];simp[Ya,List.getD,hxz]
     ·rcases zzaa b (az+1)with h|h
      ·have hjz:j≠z:=by
        rintro rfl;have:=Uf nc hj tT;omega
       rw[Qw hjz];exact CH b j h hj
      obtain rfl:b=az+1:=zE
      rw[tT]at hj;cases hj;exact Xu (Nm aqX)
     have hjz:j≠z:=by
      rintro rfl;have:=Uf nc hj tT;omega
     rw[Qw hjz];cases hl:(l0.setIfInBounds i true).getD j false with
     |false=>rfl
     |true=>
      have:=Qbw lG.ch (zzev (az+1)) tT hj hl;rw[hz0]at this;cases this
    have gP:=lG.mm;have lW:=lG.ls;rw[tO]at gP lW;have aL:(Ya s.m ms (az+1)).B (Ya s.m ms (az+1)).boxes.length=none:=by simp[AM.B]
    have bV:=gP.oS _ aL ws.heap.size;refine⟨by simp[hH.inv.size],fun j dW ou=>by rw[Qw zE];exact lG.tail j dW ou,uA lG.ch (fun b j g1 g2=>?_),zG,?_,?_,lG.rd.aU bV.cI,lG.tl,fun t'=>?_,lG.d.aU bV.cI,fun g=>(lG.g g).aU bV.cI.cV,hyk _ _ _,lG.e.trans bV.cI⟩
    ·have:b+1=az+1:=Uf nc g2 tT;obtain rfl:b=az:=zE
     exact CH _ j (zzev _) g1
    ·rw[zg,e3];have hmA:=gP.aqU w0 (te:=ze) aL hH.hN c3 c4 c5 (hH.zr w' γ').toP (Yp (hH.zr w' γ') hH.zc) (w0.st γs ws _ w' hH.st ⟨c1.os,c1.tape,c1.output,c1.size,c1.same,c1.ro,fun b hb=>?_,c1.ron⟩)
     ·have hB:({Ya s.m ms (az+1)with boxes:=(Ya s.m ms (az+1)).boxes++[zs]}:AM).B=fun i=>if i=(Ya s.m ms (az+1)).boxes.length then some zs else(Ya s.m ms (az+1)).B i:=Sc _ _;rw[hB];exact hmA
     obtain⟨i',dm⟩|hb|hb:=hb
     ·by_cases h:i'=(Ya s.m ms (az+1)).boxes.length
      ·simp[G.box,h]at dm;exact .inr zE
      simp[G.box,h]at dm;exact c1.oi b (.inl ⟨i',dm⟩)
     ·exact c1.oi b (.inr (.inl hb))
     exact c1.oi b (.inr (.inr hb))
    ·rw[zg,e3];exact lW.mono' bV rfl
    rw[CG hc (by simp[hH.inv.size]) VW adG];by_cases CI:oz.dst=some t'/\t'<s.T.length
    ·rw[if_pos CI];rw[hdz]at CI;obtain⟨awm,JX⟩:=CI;cases awm;rw[Qcx (P:=P) (gl:=gl) (orc:=orc) (ops:=ops) (m:=s.m) nc tT hxz,e2,ah8 JX];exact .ptr (by simp[G.box])
    rw[if_neg CI];exact(lG.tt t').mono bV
   exact ih _ γ' w' a' (.inr ⟨l0.setIfInBounds i true,γs,ws,arr,ze,aqY,by rw[Qw (Ne.symm hiz)];exact hH.zl,by rw[Qw (Ne.symm eH)];exact hH.pl,E6.set hH.clo ho (by rw[hsz];exact ai) bT,lG,hH.st,hH.hN,ah8,hH.zr,hH.zc⟩) je
 have tP:∀j,(Array.replicate ops.size false).getD j false=false:=fun j=>by
  rcases zzaa j ops.size with h|h<;>simp[h]
 have nq:∀VR:Pa,chn (Array.replicate ops.size false) VR:=fun VR=>by
  induction VR with
  |nil=>trivial
  |cons j r ih=>
   cases r with
   |nil=>trivial
   |cons j' r=>exact⟨fun h=>(by rw[tP]at h;cases h),ih⟩
 have JR:Ud (Array.replicate ops.size false) s.m js ms=s.m:=Uz (a:=0) aH zE (fun b j hb=>zE) (fun j _=>tP j);refine main ops.size _ γ w.drew a (.inl ⟨zd,fun i _ hi=>by simp[hi],nq js,fun j o h=>(by rw[tP]at h;cases h),?_,?_,hs.rd.aU (Ev.drew w γ).cI,?_,fun t=>?_,hs.d.aU (Ev.drew w γ).cI,fun g=>(hs.g g).mono (Ev.drew w γ).cV,hs.y.mono (Ev.drew w γ).cI,hs.e.trans (Ev.drew w γ).cI⟩) ?_
 ·rw[JR];exact hs.m.drew
 ·rw[JR];exact hs.ls.mono (Ev.drew w γ)
 ·have:=hs.t.1;simp at this;omega
 ·have hw:wr ops p (Array.replicate ops.size false) t=false:=by
   unfold wr;rw[zzdj];intro j _;rw[tP j];simp
  unfold me;rw[hw];simp only[zzbh,if_false];have:=(hs.t.mono (Ev.drew w γ)).get t;simpa[List.getD]using this
 unfold uc;exact zzba (zzeq) zd
end
open Go Go.RowKit
inductive SC where
 |skip
 |ops (l:List SO)
 |draw (l l2:List SO)
 |drawE (fl:List Fg) (l l2:List SO)
 |drawZ (z:Nat) (fl:List Fg) (l l2:List SO)
 |seq (a b:SC)
 |cond (x:bE) (a b:SC)
 |block (id:Nat) (c:SC)
 |loop (c:SC)
 |exit (id:Nat)
 |scope (c:SC)
 |rfunc (g:bE) (ps:Pa) (ij body:SC)
 |ret
 |bad
def oT:Pa->SC->SC
 |[],c=>c
 |0::p,.seq x _=>oT p x
 |_::p,.seq _ x=>oT p x
 |0::p,.cond _ x _=>oT p x
 |_::p,.cond _ _ x=>oT p x
 |_::p,.block _ x=>oT p x
 |_::p,.loop x=>oT p x
 |_::p,.scope x=>oT p x
 |0::p,.rfunc _ _ x _=>oT p x
 |_::p,.rfunc _ _ _ x=>oT p x
 |_,c=>c
def zK:Pa->SC->SC->SC
 |[],_,t=>t
 |0::p,.seq x y,t=>.seq (zK p x t) y
 |_::p,.seq y x,t=>.seq y (zK p x t)
 |0::p,.cond c x y,t=>.cond c (zK p x t) y
 |_::p,.cond c y x,t=>.cond c y (zK p x t)
 |_::p,.block n x,t=>.block n (zK p x t)
 |_::p,.loop x,t=>.loop (zK p x t)
 |_::p,.scope x,t=>.scope (zK p x t)
 |0::p,.rfunc g l x y,t=>.rfunc g l (zK p x t) y
 |_::p,.rfunc g l y x,t=>.rfunc g l y (zK p x t)
 |_,c,_=>c
def ak0(n:Nat):Pa->Pa
 |[]=>[n]
 |k::l=>bif n.ble k then(bif n.beq k then k::l else n::k::l)else k::ak0 n l
def CN(r:Pa):List SO->Pa
 |[]=>r
 |o::l=>match o.dst with|some n=>ak0 n (CN r l)|none=>CN r l
def aqZ(r:Pa):Pa->Pa
 |[]=>r
 |n::l=>ak0 n (aqZ r l)
def rW(r:Pa):SC->Pa
 |.ops l=>CN r l
 |.draw l k=>CN (CN r k) l
 |.drawE _ l k=>CN (CN r k) l
 |.drawZ _ _ l k=>CN (CN r k) l
 |.seq x y=>rW (rW r y) x
 |.cond _ x y=>rW (rW r y) x
 |.block _ x=>rW r x
 |.loop x=>rW r x
 |.scope x=>rW r x
 |.rfunc _ l x y=>rW (rW (aqZ r l) y) x
 |_=>r
abbrev JY(p:Pa)(c:SC):={x:SC // x=oT p c}
abbrev Fm(p:Pa)(c:SC):={x:SC->SC // ∀t,x t=zK p c t}
abbrev wT(p:Pa)(c:SC):={x:Pa // x=rW [] (oT p c)}
def Qbi{P:Program}{ops:Array Oper}{p:Nat}{js:Pa}(hc:uy ops p=true):(flags ops p js).length=((ops.toList.take p).map (Xd P ops)).length:=by
 have:=(Zc hc).1;simp[flags];omega
def ak1{P:Program}{ops:Array Oper}{p:Nat}{js:Pa}(hc:uy ops p=true)(h:adD (flags ops p js++bkF ops p js) ((ops.toList.take p).map (Xd P ops))=true):wL ops p js=true:=by
 unfold adD at h;rw[<- Qbi (js:=js) hc,zzfy]at h;unfold bkF at h;cases hb:wL ops p js with
 |true=>rfl
 |false=>rw[hb]at h;simp at h
def Yn(P:Program):Code->SC
 |.skip=>.skip
 |.region _ ops false=>.ops (ops.toList.map (Xd P ops))
 |.region _ ops true=>if P.follows .mixedOrders&&uy ops (Se ops)then(match Qel ops (Se ops)with
  |some js=>.drawE (flags ops (Se ops) js++bkF ops (Se ops) js) ((ops.toList.take (Se ops)).map (Xd P ops)) ((ops.toList.drop (Se ops)).map (Xd P ops))
  |none=>(match Nx ops (Se ops)with
   |some (js,_,_,t)=>.drawZ t (flags ops (Se ops) js) ((ops.toList.take (Se ops)).map (Xd P ops)) ((ops.toList.drop (Se ops)).map (Xd P ops))
   |none=>.draw ((ops.toList.take (Se ops)).map (Xd P ops)) ((ops.toList.drop (Se ops)).map (Xd P ops))))else .bad
 |.seq a b=>.seq (Yn P a) (Yn P b)
 |.cond c a b=>.cond (aC c) (Yn P a) (Yn P b)
 |.block id c=>.block id (Yn P c)
 |.loop c=>.loop (Yn P c)
 |.exit id=>.exit id
 |.label _=>.skip
 |.scope c=>.scope (Yn P c)
 |.rangeFunc g ps ij body=>.rfunc (aC g) ps.toList (Yn P ij) (Yn P body)
 |.ret=>.ret
 |_=>.bad
def uC(st:Nat->LS)(l:Nat)(x:LS):Nat->LS:=fun i=>if i=l then x else st i
def AM.at_(m:AM)(l:Nat)(x:LS):AM:={m with st:=uC m.st l x}
def AM.bK(m:AM):AM:={m with st:=uC m.st m.ln .ready,ln:=m.ln+1}
def Qao(T:P2):Pa->P2->P2
 |p::ps,x::xs=>Qao (T.set p x) ps xs
 |_,_=>T
section vc
variable (P:Program) (gl:Nat->AV) (orc:UV) (Y:YT)
def VY(k:AS->(R0)->Prop)(Q:R0):R0
 |.normal,s=>k s Q
 |ex,s=>Q ex s
def nt(id:Nat)(Q:R0):R0
 |.exit id',s=>if id'=id then Q .normal s else Q (.exit id') s
 |ex,s=>Q ex s
def wO(Q:R0):R0
 |.goto _,_=>False
 |ex,s=>Q ex s
def nx(I:AS->Prop)(μ:AS->Nat)(s:AS)(Q:R0):R0
 |.normal,s'=>I s'/\μ s'<μ s
 |ex,s'=>Q ex s'
def PM(l:Nat)(K:Bool->AM->Prop):R0
 |.normal,s=>K true (s.m.at_ l .ready)
 |.ret,s=>K false (s.m.at_ l (.done .ret))
 |.exit id,s=>K false (s.m.at_ l (.done (.exit id)))
 |_,_=>False
def JZ(l:Nat)(k:AS->Prop):R0
 |.normal,s=>s.m.st l=.ready/\k ⟨s.T,s.m.at_ l .busy⟩
 |_,_=>False
def CO(l:Nat)(T:P2)(m:AM)(Q:R0):LS->Prop
 |.ready=>Q .normal ⟨T,m.at_ l .gone⟩
 |.done ex=>Q ex ⟨T,m.at_ l .gone⟩
 |_=>False
def Yin(l n:Nat)(k:P2->AM->(Bool->AM->Prop)->Prop):YT:=fun l' args m K=>if l'=l then m.st l=.ready/\args.length=n/\k args m K else Y l' args m K
def vc:SC->AS->(R0)->Prop
 |.skip,s,Q=>Q .normal s
 |.ops l,s,Q=>Zn P gl orc Y l s (Q .normal)
 |.draw l l2,s,Q=>Sf P gl orc Y l2 (Q .normal) l s.T s.m []
 |.drawE fl l l2,s,Q=>Sf P gl orc Y l2 (Q .normal) l s.T s.m []\/(∃ms,nk P gl orc Y l2 (Q .normal) s.m ms l fl ms s.m s.T)\/(adD fl l=true/\∃(ms:QP)(R:So),(∃x:AV×AM,R x.1 x.2)/\∀x:AV×AM,R x.1 x.2->iJ P gl orc Y R l2 (Q .normal) s.m (ms++[x]) l fl (ms++[x]) s.m s.T)\/(∃(ms:QP)(R:So)(Vs:P2),(∃x:AV×AM,R x.1 x.2)/\∀x:AV×AM,R x.1 x.2->iJ P gl orc Y R l2 (Q .normal) s.m (ms++[x]) l fl (ms++[x]) s.m s.T/\Zk P gl orc s.m l fl (ms++[x]) s.T=Vs)\/∃ms,ig P gl orc Y l2 (Q .normal) s.m ms l fl ms s.m s.T
 |.drawZ z fl l l2,s,Q=>(∀i as m K,¬Y i as m K)/\s.T.getD z .junk=.junk/\∃ms,ig P gl orc Y l2 (Q .normal) s.m ms l fl ms s.m s.T
 |.seq a b,s,Q=>vc a s (VY (vc b) Q)
 |.cond x a b,s,Q=>match ev gl s.T x with
  |.bool t=>(t=true->vc a s Q)/\(t=false->vc b s Q)
  |_=>False
 |.block id c,s,Q=>vc c s (nt id Q)
 |.loop c,s,Q=>∃(I:AS->Prop)(μ:AS->Nat),I s/\∀s',I s'->vc c s' (nx I μ s' Q)
 |.exit id,s,Q=>Q (.exit id) s
 |.scope c,s,Q=>vc c s (wO Q)
 |.rfunc g ps ij body,s,Q=>match ev gl s.T g with
  |.fn f first cap=>s.m.st s.m.ln=.gone->aB P gl (Yin Y s.m.ln ps.length fun args m K=>vc ij ⟨Qao s.T ps args,m⟩ (JZ s.m.ln fun s'=>vc body s' (PM s.m.ln K))) f (first++[.yld s.m.ln]++cap) (s.m.bK)
    fun _ m'=>CO s.m.ln s.T m' Q (m'.st s.m.ln)
  |_=>False
 |.ret,s,Q=>Q .ret s
 |.bad,_,_=>False
end vc
section
variable {N:Nat} {w0:eT} {r:Option Nat} {an:Nat->Nat->Prop} {S:G×World} {Y:YT} {P:Program} {gl:Nat->AV} {orc:UV} {γ:G} {w:World}
def lift(N:Nat)(w0:eT)(r:Option Nat)(an:Nat->Nat->Prop)(S:G×World)(P:Program)(gl:Nat->AV)(Y:YT)(Q:R0):PP:=fun ex a w=>∃γ s,ek N w0 r an S P gl Y γ w s a/\Q ex s
def au.VZ{B:Nat->PH}{L:Nat->Option Nat}(hm:au N w0 an γ w B L)(o:Obj):
  au N w0 an {γ with sp:=fun b=>γ.sp b\/b=w.heap.size} (w.alloc o) B L/\Ev w γ (w.alloc o) {γ with sp:=fun b=>γ.sp b\/b=w.heap.size}:=by
 have bV:Ev w γ (w.alloc o) {γ with sp:=fun b=>γ.sp b\/b=w.heap.size}:=
  ⟨zd,fun b o' hb hr=>⟨hr,cell_of_heap (Below.heap_alloc w o b hb)⟩,fun _ _ h=>h,fun _=>zzab _,fun _ _ h=>h,rfl,
   fun i b _ ho=>⟨ho,fun arr e he=>⟨arr,by rw[Below.heap_alloc w o b (hm.own i b ho).2.1];exact he,zzab _⟩,fun _ h=>h⟩,
   fun b hb=>⟨.inl hb,Below.heap_alloc w o b (hm.sp b hb).2.1⟩,Sz.of_same (Below.heap_alloc w o)⟩
 refine⟨⟨w0.st _ _ _ _ hm.bs ⟨rfl,rfl,rfl,zd,fun b hb _=>Below.heap_alloc w _ b hb,bV.ro,fun b hb=>?_,fun _ _ h=>.inl h⟩,by have:=hm.hN;simp;omega,hm.an,fun b o h=>by have:=hm.robd b o h;simp;omega,
  fun id cells b hb h1=>?_,fun id b hb=>?_,hm.inj,fun id b hb=>?_,hm.oinj,fun b hb=>?_,fun id b hb=>?_,hm.minj,hm.len,hm.cur0⟩,bV⟩
 ·obtain hb|hb|(hb|rfl)|hb:=hb
  ·exact .inl (.inl hb)
  ·exact .inl (.inr (.inl hb))
  ·exact .inl (.inr (.inr (.inl hb)))
  ·exact .inr (zzab _)
  exact .inl (.inr (.inr (.inr hb)))
 ·obtain⟨arr,e,h2,h3,h4⟩:=hm.box id cells b hb h1;exact⟨arr,e,by rw[Below.heap_alloc w _ b (aR h2)];exact h2,h3.mono bV,h4⟩
 ·obtain⟨h1,h2,h3⟩:=hm.β id b hb;exact⟨h1,by simp;omega,h3⟩
 ·obtain⟨h1,h2,h3⟩:=hm.own id b hb;exact⟨h1,by simp;omega,h3⟩
 ·obtain hb|rfl:=hb
  ·obtain⟨h1,h2,h3⟩:=hm.sp b hb;exact⟨h1,by simp;omega,h3⟩
  refine⟨hm.hN,zd,fun o' h=>?_,fun id h=>?_,fun id h=>?_⟩
  ·have:=hm.robd _ _ h;omega
  ·have:=(hm.β id _ h).2.1;omega
  have:=(hm.own id _ h).2.1;omega
 obtain⟨h1,h2,h3,h4,h5,h6,h8,h7⟩:=hm.mm id b hb;refine⟨h1,by simp;omega,h3,h4,h5,?_,h8,h7.mono bV.cI.Au (Below.heap_alloc w o b h2)⟩;rintro(h|rfl)
 ·exact h6 h
 omega
def au.ah9{B:Nat->PH}{L:Nat->Option Nat}(hm:au N w0 an γ w B L){D:Nat}(hD:γ.sp D){o o0:Obj}(h0:w.heap[D]?=some o0)(hnc:∀c e f,o0≠.cells c e f)(awn:∀c e f,o≠.cells c e f)
  {γ':G}(hγ:γ'=γ\/γ'={γ with sp:=fun b=>γ.sp b/\b≠D})(UB:γ'=γ->qF (some o0) (some o)):
  au N w0 an γ' (w.putObj D o) B L/\Nh w γ (w.putObj D o) γ'/\(∀wS γS,ez wS γS w γ->(γ'=γ\/¬γS.sp D)->ez wS γS (w.putObj D o) γ'):=by
 have ai:D<w.heap.size:=aR h0;have cR:∀b,b≠D->(w.putObj D o).heap[b]?=w.heap[b]?:=fun b hb=>World.putObj_heap_other hb;have EX:(w.putObj D o).heap[D]?=some o:=World.putObj_heap_same ai
 have bL:∀b o',(w.putObj D o).cell? ⟨b,o',none⟩=w.cell? ⟨b,o',none⟩:=fun b o'=>by
  by_cases hb:b=D
  ·subst hb;simp only[World.cell?,EX,h0];cases o<;>cases o0<;>first|rfl|exact absurd rfl (hnc _ _ _)|exact absurd rfl (awn _ _ _)
  exact cell_of_heap (cR b hb)
 have hβ:γ'.β=γ.β:=by rcases hγ with rfl|rfl<;>rfl
 have ct:γ'.own=γ.own:=by rcases hγ with rfl|rfl<;>rfl
 have cE:γ'.cur=γ.cur:=by rcases hγ with rfl|rfl<;>rfl
 have gj:γ'.ro=γ.ro:=by rcases hγ with rfl|rfl<;>rfl
 have gP:γ'.mm=γ.mm:=by rcases hγ with rfl|rfl<;>rfl
 have hlp:γ'.lp=γ.lp:=by rcases hγ with rfl|rfl<;>rfl
 have cZ:∀b,γ'.sp b->γ.sp b:=by obtain rfl|rfl:=hγ;exact fun _ h=>h;exact fun _ h=>h.1
 have ak2:∀b,γ.sp b->b≠D->γ'.sp b:=fun b hb h=>by
  obtain rfl|rfl:=hγ
  ·exact hb
  exact⟨hb,h⟩
 have hsz:Sz w (w.putObj D o):=fun b' arr e f h=>⟨arr,by rw[cR b' (by rintro rfl;rw[h0]at h;cases h;exact hnc _ _ _ rfl)];exact h,rfl⟩
 have adH:Nh w γ (w.putObj D o) γ':=by
  refine⟨zd,fun b o' _ hr=>⟨by rw[gj];exact hr,bL b o'⟩,fun _ _ h=>by rw[hβ];exact h,fun _=>by rw[cE];exact zzab _,fun _ _ h=>by rw[gP];exact h,fun _ _ h=>by rw[hlp];exact h,fun id b _ ho=>⟨by rw[ct];exact ho,fun arr e he=>⟨arr,?_,zzab _⟩,fun _ h=>by rw[gj]at h;exact h⟩,hsz⟩;rw[cR b (by rintro rfl;exact(hm.sp b hD).2.2.2.2 id ho)];exact he
 refine⟨⟨w0.st _ _ _ _ hm.bs ⟨rfl,rfl,rfl,zd,fun b _ iF=>cR b (by rintro rfl;exact iF (.inr (.inr (.inl hD)))),adH.ro,fun b hb=>.inl ?_,fun b o' h=>.inl (by rw[gj]at h;exact h)⟩,Nm hm.hN,
  fun b o' h=>hm.an b o' (by rw[gj]at h;exact h),fun b o' h=>by rw[gj]at h;simpa using hm.robd b o' h,fun id cells b hb h1=>?_,fun id b hb=>?_,fun id id' b h h'=>hm.inj id id' b (by rw[hβ]at h;exact h) (by rw[hβ]at h';exact h'),
  fun id b hb=>?_,fun id id' b h h'=>hm.oinj id id' b (by rw[ct]at h;exact h) (by rw[ct]at h';exact h'),fun b hb=>?_,fun id b hb=>?_,fun id id' b h h'=>hm.minj id id' b (by rw[gP]at h;exact h) (by rw[gP]at h';exact h'),fun id n h=>by rw[cE];exact hm.len id n h,fun id h=>by rw[cE];exact hm.cur0 id h⟩,adH,fun wS γS e hc=>?_⟩
 ·obtain⟨id,hb⟩|⟨id,hb⟩|hb|⟨F,hb⟩:=hb
  ·rw[hβ]at hb;exact .inl ⟨id,hb⟩
  ·rw[ct]at hb;exact .inr (.inl ⟨id,hb⟩)
  ·exact .inr (.inr (.inl (cZ b hb)))
  rw[gP]at hb;exact .inr (.inr (.inr ⟨F,hb⟩))
 ·rw[hβ]at h1;obtain⟨arr,e,h2,h3,h4⟩:=hm.box id cells b hb h1;exact⟨arr,e,by rw[cR b (by rintro rfl;exact(hm.sp b hD).2.2.2.1 id h1)];exact h2,h3.eS adH,h4⟩
 ·rw[hβ]at hb;obtain⟨h1,h2,h3,h4,h5⟩:=hm.β id b hb;exact⟨h1,Nm h2,by rw[gj];exact h3,by rw[ct];exact h4,h5⟩
 ·rw[ct]at hb;simpa using hm.own id b hb
 ·obtain⟨h1,h2,h3,h4,h5⟩:=hm.sp b (cZ b hb);exact⟨h1,Nm h2,by rw[gj];exact h3,by rw[hβ];exact h4,by rw[ct];exact h5⟩
 ·rw[gP]at hb;obtain⟨h1,h2,h3,h4,h5,h6,h8,h7⟩:=hm.mm id b hb;exact⟨h1,Nm h2,by rw[gj];exact h3,by rw[hβ];exact h4,by rw[ct];exact h5,fun h=>h6 (cZ b h),by rw[hβ];exact h8,h7.mono adH (cR b (by rintro rfl;exact h6 hD))⟩
 refine⟨Nm e.size,fun b o' hb hr=>⟨by rw[gj];exact(e.ro b o' hb hr).1,(bL b o').trans (e.ro b o' hb hr).2⟩,fun id b h=>by rw[hβ];exact e.β id b h,fun id=>by rw[cE];exact e.cur id,fun b F h=>by rw[gP];exact e.mm b F h,fun i l h=>by rw[hlp];exact e.lp i l h,fun id b uv ho=>?_,fun b hb=>?_,e.ss.trans hsz⟩
 ·rw[cE]at uv;obtain⟨g1,g2,g3⟩:=e.own id b uv ho;refine⟨by rw[ct];exact g1,fun arr te he=>?_,fun o' h=>g3 o' (by rw[gj]at h;exact h)⟩;obtain⟨bP,k1,k2⟩:=g2 arr te he;exact⟨bP,by rw[cR b (by rintro rfl;exact(hm.sp b hD).2.2.2.2 id g1)];exact k1,k2⟩
 obtain⟨g1,g2⟩:=e.sp b hb;by_cases hbD:b=D
 ·subst hbD;obtain rfl|hc:=hc
  ·refine⟨g1,g2.trans ?_⟩;rw[h0,EX];exact UB rfl
  exact absurd hb hc
 exact⟨ak2 b g1 hbD,by rw[cR b hbD];exact g2⟩
def Jz{b:Frame}{a:Act}{k:List Item}{cs:List Frame}{w:World}{c:Code}:step P (lone (b.atR a (.code (.scope c)::k)) cs w)=.next (lone (b.atR a (.code c::.inScope c::k)) cs w):=
 step_lone_go (by simp[stepG,stepG.exec,Frame.atR])
def zL{b:Frame}{a:Act}{k:List Item}{cs:List Frame}{w:World}{c:Code}:step P (lone (b.atR a (.inScope c::k)) cs w)=.next (lone (b.atR a k) cs w):=
 step_lone_go (by simp[stepG,stepG.exec,Frame.atR])
def lH{c:Code}{Q:PP}{a:Act}{w:World}(h:c.wpIn (FW r) 0 P (Exit.noGoto Q) a w):(Code.scope c).wpIn (FW r) 0 P Q a w:=by
 intro b k cs gj hb hr;obtain⟨e,a₁,w₁,hq,fh⟩:=h b (.inScope c::k) cs gj hb hr;have h0:(lone (b.atR a (.code (.scope c)::k)) cs w).fenced P (FW r):=fenced_calm hb hr rfl;cases e with
 |normal=>exact⟨.normal,a₁,w₁,hq,.head h0 Jz (StepsIn.trans fh (.one (fenced_calm hb hr rfl) zL))⟩
 |exit id=>
  refine⟨.exit id,a₁,w₁,hq,fun k' hk=>.head h0 Jz (fh.1 k' (by simp[exitTo,hk])),fun zB hk=>?_⟩;obtain⟨k₁,h1,h2⟩:=fh.2 zB (by simp[exitTo,hk]);exact⟨k₁,h1,.head h0 Jz h2⟩
 |goto l=>exact hq.elim
 |ret=>exact⟨_,a₁,w₁,hq,.of_steps (.one h0 Jz) fh⟩
 |panic ch=>exact⟨_,a₁,w₁,hq,.of_steps (.one h0 Jz) fh⟩
 |outgrown=>exact⟨_,a₁,w₁,hq,.of_steps (.one h0 Jz) fh⟩
def Fo{γ:G}{w:World}:∀(ps:Pa)(args:P2)(vs:PQ)(T:P2)(arr:P1),args.length=ps.length->ak w γ args vs->ak w γ T arr.toList->
  ak w γ (Qao T ps args) ((ps.toArray.zip vs.toArray).foldl (fun(tmps:P1)(p:Nat×Value)=>tmps.setIfInBounds p.1 p.2) arr).toList:=by
 intro ps args vs T arr hl hr ht
 have e:(ps.toArray.zip vs.toArray).foldl (fun(tmps:P1)(p:Nat×Value)=>tmps.setIfInBounds p.1 p.2) arr=(ps.zip vs).foldl (fun(tmps:P1)(p:Nat×Value)=>tmps.setIfInBounds p.1 p.2) arr:=by
  rw[<- Array.foldl_toList];simp
 rw[e];clear e;induction ps generalizing args vs T arr with
 |nil=>
  cases args with
  |nil=>simpa[Qao]using ht
  |cons x xs=>simp at hl
 |cons p ps ih=>
  cases args with
  |nil=>simp at hl
  |cons x xs=>
   cases vs with
   |nil=>have:=hr.1;simp at this
   |cons v vs=>
    have h0:aA w γ x v:=hr.2 0 x v rfl rfl;have hs:ak w γ xs vs:=⟨by have:=hr.1;simpa using this,fun i x y h1 h2=>hr.2 (i+1) x y (Nm h1) (Nm h2)⟩;simp only[zzdg,zzcy,Qao];refine ih xs vs _ _ (Nm hl) hs ?_;rw[zzdk];exact ht.set p h0
def cT.put{m:AM}{i l:Nat}{rc:Loop}{x:LS}(h:cT γ w m)(hi:γ.lp i=some l)(cZ:γ.sp l)(hl:l<w.heap.size)(hx:JO x rc):cT γ (w.putObj l (.loop rc)) (m.at_ i x):=by
 refine⟨fun i'=>?_,h.2.1,h.2.2.1,fun i' l' eZ=>?_⟩
 rotate_left
 ·obtain⟨q1,r,q2⟩:=h.2.2.2 i' l' eZ;by_cases Ea:l'=l
  ·subst Ea;exact⟨q1,rc,World.putObj_heap_same hl⟩
  exact⟨q1,r,(World.putObj_heap_other Ea).trans q2⟩
 by_cases dm:i'=i
 ·subst dm;exact .inr ⟨l,hi,cZ,rc,World.putObj_heap_same hl,by simpa[AM.at_,uC]using hx⟩
 rcases h.1 i' with h'|⟨l',h0,h1,r,h2,h3⟩
 ·exact .inl (by simp[AM.at_,uC,dm,h'])
 have eZ:l'≠l:=by rintro rfl;exact dm (h.2.2.1 _ _ _ h0 hi)
 exact .inr ⟨l',h0,h1,r,(World.putObj_heap_other eZ).trans h2,by simpa[AM.at_,uC,dm]using h3⟩
def G.dP(γ:G)(i l:Nat):G:={γ with lp:=fun j=>if j=i then some l else γ.lp j}
def Fp(w:World){γ:G}{i l:Nat}(h:γ.lp i=none):ez w γ w (γ.dP i l):=
 ⟨zzab _,fun _ _ _ h=>⟨h,rfl⟩,fun _ _ h=>h,fun _=>zzab _,fun _ _ h=>h,fun j l' hj=>by
  have:j≠i:=by rintro rfl;rw[h]at hj;cases hj
  simp[G.dP,this,hj],fun _ _ _ h=>⟨h,fun arr _ h=>⟨arr,h,zzab _⟩,fun _ h=>h⟩,fun _ h=>⟨h,.inl rfl⟩,Sz.refl w⟩
def au.dP{B:Nat->PH}{L:Nat->Option Nat}(hm:au N w0 an γ w B L){i l:Nat}(h:γ.lp i=none):au N w0 an (γ.dP i l) w B L:=by
 have bV:=(Fp w h (l:=l)).Au;refine⟨w0.st _ _ _ _ hm.bs ⟨rfl,rfl,rfl,zzab _,fun _ _ _=>rfl,fun _ _ _ h=>⟨h,rfl⟩,fun _ hb=>.inl hb,fun _ _ h=>.inl h⟩,hm.hN,hm.an,hm.robd,fun id cells b hb h1=>?_,hm.β,hm.inj,hm.own,hm.oinj,hm.sp,fun id b hb=>?_,hm.minj,hm.len,hm.cur0⟩
 ·obtain⟨arr,e,h2,h3,h4⟩:=hm.box id cells b hb h1;exact⟨arr,e,h2,h3.eS bV,h4⟩
 obtain⟨h1,h2,h3,h4,h5,h6,h8,h7⟩:=hm.mm id b hb;exact⟨h1,h2,h3,h4,h5,h6,h8,h7.mono bV rfl⟩
def oU{B:Nat->PH}{L:Nat->Option Nat}(hm:au N w0 an γ w B L){l:Nat}(hl:γ.sp l){rc:Loop}(h0:w.heap[l]?=some (.loop rc))(st:LoopState)(pd:Option Code):
  au N w0 an γ (w.putObj l (.loop {rc with state:=st,pending:=pd})) B L/\ez w γ (w.putObj l (.loop {rc with state:=st,pending:=pd})) γ:=by
 obtain⟨h1,_,h3⟩:=hm.ah9 hl (o:=.loop {rc with state:=st,pending:=pd}) h0 (fun _ _ _ h=>by cases h) (fun _ _ _ h=>by cases h) (.inl rfl) (fun _=>.inr ⟨rc,st,pd,rfl,rfl⟩);exact⟨h1,h3 w γ (Ev.refl w γ).cI (.inl rfl)⟩
def Fq{g:Operand}{ps:Array Tmp}{ij body:Code}
  (ihA:∀(l:Nat)(S:G×World)(γ:G)(w:World)(s:AS)(a:Act)(Q:R0),vc P gl orc Y (Yn P ij) s Q->ek N w0 (some l) an S P gl Y γ w s a->ij.wpIn (FW (some l)) 0 P (lift N w0 (some l) an S P gl Y Q) a w)
  (ihB:∀(l:Nat)(S:G×World)(γ:G)(w:World)(s:AS)(a:Act)(Q:R0),vc P gl orc Y (Yn P body) s Q->ek N w0 (some l) an S P gl Y γ w s a->body.wpIn (FW (some l)) 0 P (lift N w0 (some l) an S P gl Y Q) a w)
  {s:AS}{a:Act}{Q:R0}(h:vc P gl orc Y (Yn P (.rangeFunc g ps ij body)) s Q)(hs:ek N w0 r an S P gl Y γ w s a):
  (Code.rangeFunc g ps ij body).wpIn (FW r) 0 P (lift N w0 r an S P gl Y Q) a w:=by
 simp only[Yn,vc]at h;have hg:=hs.ev g;split at h
 case h_2=>exact h.elim
 rename_i f first cap e1
 rw[e1]at hg;obtain⟨fa,ca,hv,r1,r2⟩:=hg.qH;refine wpIn_rangeFunc fun fn _=>?_
 obtain⟨l,mark,w1,γ1',rc,he,ov,hsp1',hm1',hev1',hd1',UI⟩:∃(l:Nat)(mark:List Deferred)(w1:World)(γ1:G)(df:Nat),
   (Instr.enterLoop fn a.tmps ps ij body (FW r).round).run P w=.ok (l,mark) w1/\w1.heap[l]?=some (.loop {state:=.ready,pending:=none,fn,tmps:=a.tmps,params:=ps,assign:=ij,body,defers:=df})/\γ1.sp l/\
   au N w0 an γ1 w1 s.m.B s.m.L/\Ev w γ w1 γ1/\Dfr S.2.heap.size γ1 w1 (mark++a.defers)/\w.heap.size<=l:=by
  cases r with
  |none=>
   obtain⟨tO,fk⟩:=hs.m.VZ (.deferred (some []));obtain⟨zg,aq0⟩:=tO.VZ (.loop {state:=.ready,pending:=none,fn,tmps:=a.tmps,params:=ps,assign:=ij,body,defers:=w.heap.size});refine⟨w.heap.size+1,_,_,_,w.heap.size,run_enterLoop_outer fn a.tmps ps ij body,?_,Or.inr zd,zg,fk.trans aq0,?_,zE⟩
   ·have:=World.alloc_heap_new (w.alloc (.deferred (some []))) (.loop {state:=.ready,pending:=none,fn,tmps:=a.tmps,params:=ps,assign:=ij,body,defers:=w.heap.size});simpa using this
   have hd:=hs.d.aU (fk.trans aq0).cI
   have oP:∀x∈a.defers,∀D,x.target=.collected D->D<w.heap.size:=fun x hx D hD=>by
    obtain⟨D',q1,_,_,q4⟩:=hs.d.2.1 x hx;rw[hD]at q1;cases q1;exact aR q4
   refine⟨hd.1,fun x hx=>?_,?_⟩
   ·simp only[zzad,zzai,zzao]at hx;obtain rfl|hx:=hx
    ·refine⟨w.heap.size,rfl,hs.d.1,.inl (.inr rfl),?_⟩;rw[Below.heap_alloc _ _ _ zd];exact World.alloc_heap_new w _
    exact hd.2.1 x hx
   simp only[zzad,zzai,zzcb];refine⟨fun x hx D hD iG=>?_,hd.2.2⟩;simp at hD;have:=oP x hx D iG;omega
  |some l0=>
   obtain⟨qq,aq1,aq2⟩:=hs.rd l0 rfl;obtain⟨tO,fk⟩:=hs.m.VZ (.loop {state:=.ready,pending:=none,fn,tmps:=a.tmps,params:=ps,assign:=ij,body,defers:=aq1.defers});exact⟨w.heap.size,[],_,_,aq1.defers,run_enterLoop_inner aq2 fn a.tmps ps ij body,World.alloc_heap_new w _,Or.inr rfl,tO,fk,hs.d.aU fk.cI,zzab _⟩
 have gO:l<w1.heap.size:=aR ov;generalize dG:s.m.ln=i at h;have V0:=hs.ls.mono hev1';have aia:γ1'.lp i=none:=V0.2.1 i zE
 have PJ:∀j,γ1'.lp j≠some l:=fun j hj=>by
  rw[hev1'.lp]at hj;have:=(hs.m.sp l (hs.ls.2.2.2 j l hj).1).2.1;omega
 let γ1:=γ1'.dP i l
 have aq3:ez w1 γ1' w1 γ1:=Fp w1 aia;have fk:ez w γ w1 γ1:=hev1'.cI.trans aq3;have tO:au N w0 an γ1 w1 s.m.B s.m.L:=hm1'.dP aia;have V1:γ1.sp l:=hsp1';have V2:γ1.lp i=some l:=by simp[γ1,G.dP]
 have Sg:=hd1'.aU aq3
 have hE:=h (by
  rcases hs.ls.1 i with h|⟨l',h0,_⟩
  ·exact h
  rw[hs.ls.2.1 i zE]at h0;cases h0)
 have oG:ak w1 γ1 (first++[.yld i]++cap) (fa.toList++[.func (.yield l) #[] #[]]++ca.toList):=((r1.aU fk).append (ak.cons (.yld V2) ak.nil)).append (r2.aU fk)
 have awo:cT γ1 w1 s.m.bK:=by
  refine⟨fun j=>?_,fun j hj=>?_,fun j j' l' h1 h2=>?_,fun j l' h1=>?_⟩
  ·by_cases hj:j=i
   ·subst hj;exact .inr ⟨l,V2,V1,_,ov,by simp[AM.bK,uC,dG,JO]⟩
   rcases V0.1 j with h|⟨l',h0,h1,r',h2,h3⟩
   ·exact .inl (by simp[AM.bK,uC,dG,hj,h])
   exact .inr ⟨l',by simp[γ1,G.dP,hj,h0],h1,r',h2,by simpa[AM.bK,uC,dG,hj]using h3⟩
  ·have Nk:i+1<=j:=by simpa[AM.bK,dG]using hj
   have:j≠i:=zE
   simp[γ1,G.dP,this,V0.2.1 j zE]
  ·by_cases hj:j=i<;>by_cases Nk:j'=i
   ·rw[hj,Nk]
   ·simp[γ1,G.dP,hj]at h1;simp[γ1,G.dP,Nk]at h2;subst h1;exact absurd h2 (PJ j')
   ·simp[γ1,G.dP,hj]at h1;simp[γ1,G.dP,Nk]at h2;subst h2;exact absurd h1 (PJ j)
   simp[γ1,G.dP,hj]at h1;simp[γ1,G.dP,Nk]at h2;exact V0.2.2.1 j j' l' h1 h2
  by_cases hj:j=i
  ·simp[γ1,G.dP,hj]at h1;subst h1;exact⟨V1,_,ov⟩
  simp[γ1,G.dP,hj]at h1;exact V0.2.2.2 j l' h1
 refine⟨l,mark,w1,{target:=.fn (.func f) ca,args:=fa++#[.func (.yield l) #[] #[]]},w1,f,(fa.toList++[Value.func (.yield l) #[] #[]]++ca.toList).toArray,w1,he,?_,fun _ _=>trivial,?_,fun h=>by simp[FW,Fence.wide]at h,?_⟩
 ·have hc:a.eval (.const (.func (.yield l) #[] #[]))=.func (.yield l) #[] #[]:=rfl;simp[resolve,hv,hc,Deferred.ofValue,rangeCall]
 ·simp[invoke,Qec hE.1]
 have V3:=hE.2 N w0 an γ1 w1 _ tO awo (fun g=>(hs.g g).aU fk.cV) ?_ oG
 ·refine CallsIn.mono (F:=FW r) (n:=0) (show CallsIn (FW r) 0 P f _ w1 _ from V3) ?_;rintro en w3 ⟨v,γ3,r',m',rfl,g1,g2,g3,g4,g5⟩;have awp:=(g1.sp l V1).1
  have fin:∀(PN:Loop)(pd:Option Code),w3.heap[l]?=some (.loop PN)->(∀ex,ex=Exit.normal/\pd=none\/pd=qP ex/\pd.isSome=true->PN.state≠.busy->PN.pending=pd->Q ex ⟨s.T,m'.at_ i .gone⟩->rangePost (FW r) 0 P l (lift N w0 r an S P gl Y Q) {a with defers:=mark++a.defers} (.returned v) w3):=by
   intro PN pd aq4 ex hex Ng hpd hQ;obtain⟨hm4,aq5⟩:=oU g2 awp aq4 .exhausted PN.pending;refine⟨PN.pending,_,run_endLoop aq4 Ng,?_⟩;have bV:ez w γ (w3.putObj l (.loop {PN with state:=.exhausted})) γ3:=(fk.trans g1).trans aq5
   have zI:ek N w0 r an S P gl Y γ3 (w3.putObj l (.loop {PN with state:=.exhausted})) ⟨s.T,m'.at_ i .gone⟩ {a with defers:=mark++a.defers}:=by
    have adI:=g1.lp i l V2;refine⟨hm4,?_,hs.rd.aU bV,hs.t.aU bV,Sg.aU (g1.trans aq5),fun g=>(hs.g g).aU bV.cV,hs.y.mono bV,hs.e.trans bV⟩;refine⟨fun j=>?_,g3.2.1,g3.2.2.1,fun j l' eZ=>?_⟩
    rotate_left
    ·obtain⟨q1,r,q2⟩:=g3.2.2.2 j l' eZ;by_cases Ea:l'=l
     ·subst Ea;exact⟨q1,_,World.putObj_heap_same (aR q2)⟩
     exact⟨q1,r,(World.putObj_heap_other Ea).trans q2⟩
    by_cases hj:j=i
    ·exact .inl (by simp[AM.at_,uC,hj])
    rcases g3.1 j with h|⟨l',h0,h1,r',h2,h3⟩
    ·exact .inl (by simp[AM.at_,uC,hj,h])
    have eZ:l'≠l:=by rintro rfl;exact hj (g3.2.2.1 _ _ _ h0 adI)
    exact .inr ⟨l',h0,h1,r',(World.putObj_heap_other eZ).trans h2,by simpa[AM.at_,uC,hj]using h3⟩
   generalize w3.putObj l (.loop {PN with state:=.exhausted})=w4 at zI;rw[hpd];obtain⟨rfl,rfl⟩|⟨hex,V4⟩:=hex
   ·exact⟨γ3,_,zI,hQ⟩
   cases ex with
   |ret=>simp only[qP]at hex;subst hex;exact wpIn_ret ⟨γ3,_,zI,hQ⟩
   |exit id=>simp only[qP]at hex;subst hex;exact wpIn_exit ⟨γ3,_,zI,hQ⟩
   |_=>simp only[qP]at hex;subst hex;cases V4
  have hl3:=g3.1 i;have adI:=g1.lp i l V2;cases bZ:m'.st i with
  |gone=>rw[bZ]at g5;exact g5.elim
  |busy=>rw[bZ]at g5;exact g5.elim
  |ready=>
   rw[bZ]at g5 hl3;obtain hl3|⟨l',q0,_,PN,q1,q2⟩:=hl3
   ·cases hl3
   obtain rfl:l'=l:=Option.some.inj (q0.symm.trans adI);exact fin PN none q1 .normal (.inl ⟨rfl,rfl⟩) (by rw[q2.1];simp) q2.2 g5
  |done ex=>
   rw[bZ]at g5 hl3;obtain hl3|⟨l',q0,_,PN,q1,q2⟩:=hl3
   ·cases hl3
   obtain rfl:l'=l:=Option.some.inj (q0.symm.trans adI);exact fin PN _ q1 ex (.inr ⟨rfl,q2.2.2⟩) (by rw[q2.1];simp) q2.2.1 g5
 intro γ' w' V5 i' args m K vs fK aq6 zB hY l' adJ;unfold Yin at hY;split at hY
 case isFalse=>exact hs.y γ' w' (fk.trans V5) i' args m K vs fK aq6 zB hY l' adJ
 rename_i dm;subst dm;obtain rfl:l'=l:=Option.some.inj (adJ.symm.trans (V5.lp _ _ V2));obtain⟨iI,aH,hY⟩:=hY
 have Nz:∃st pd,w'.heap[l']?=some (.loop {state:=st,pending:=pd,fn,tmps:=a.tmps,params:=ps,assign:=ij,body,defers:=rc}):=by
  rcases(V5.sp l' V1).2 with h|⟨r0,st,pd,h,h'⟩
  ·rw[ov]at h;exact⟨_,_,h⟩
  rw[ov]at h;cases h;exact⟨st,pd,h'⟩
 obtain⟨st,pd,Nz⟩:=Nz;have ak2:=(V5.sp l' V1).1;have ak3:=fk.trans V5;have hps:vs.toArray.size=ps.size:=by have:=zB.1;simp at this aH |-;omega
 refine⟨fn,_,ij,body,run_yield Nz hps,roundIn_of_wpIn (F:=FW none) trivial ?_⟩
 have aq7:ek N w0 (some l') an (γ',w') P gl Y γ' w' ⟨Qao s.T ps.toList args,m⟩ {tmps:=(ps.zip vs.toArray).foldl (fun(tmps:P1)(p:Nat×Value)=>tmps.setIfInBounds p.1 p.2) a.tmps,defers:=[]}:=by
  refine⟨fK,aq6,fun l hl=>?_,?_,⟨zzab _,fun x hx=>(by cases hx),List.Pairwise.nil⟩,fun g=>(hs.g g).aU ak3.cV,hs.y.mono ak3,(Ev.refl w' γ').cI⟩
  ·cases hl;exact⟨ak2,_,Nz⟩
  have:=Fo ps.toList args vs s.T a.tmps aH zB (hs.t.aU ak3);simpa using this
 refine wpIn_mono (ihA l' (γ',w') γ' w' _ _ _ hY aq7) ?_;rintro ex a2 w2 ⟨γ2,s2,PO,hq2⟩;cases ex with
 |normal=>
  obtain⟨awq,hq2⟩:=hq2;have CP:=PO.ls.1 i';rw[awq]at CP;have aq8:=PO.e.lp _ _ adJ;obtain CP|⟨l2,q0,hsp2,rc2,q1,q2⟩:=CP
  ·cases CP
  obtain rfl:l'=l2:=Option.some.inj (aq8.symm.trans q0);obtain⟨hm3,PR⟩:=oU PO.m hsp2 q1 .busy rc2.pending;refine⟨_,run_beginRound q1 q2.1,?_⟩
  have aq9:ek N w0 (some l') an (γ',w') P gl Y γ2 (w2.putObj l' (.loop {rc2 with state:=.busy})) ⟨s2.T,s2.m.at_ i' .busy⟩ a2:=
   ⟨hm3,PO.ls.put aq8 hsp2 (aR q1) rfl,PO.rd.aU PR,PO.t.aU PR,PO.d.aU PR,fun g=>(PO.g g).aU PR.cV,PO.y.mono PR,PO.e.trans PR⟩
  refine wpIn_mono (ihB l' (γ',w') γ2 _ _ _ _ hq2 aq9) ?_;rintro ex a4 w4 ⟨γ4,s4,hs4,hq4⟩;obtain⟨PS,rc4,q4⟩:=hs4.rd _ rfl;have ak4:=hs4.e.lp _ _ adJ;cases ex with
  |normal=>
   obtain⟨hm5,V6⟩:=oU hs4.m PS q4 .ready none;exact⟨_,_,run_endRound none q4,true,γ4,s4.m.at_ i' .ready,rfl,hs4.e.trans V6,hm5,hs4.ls.put ak4 PS (aR q4) ⟨rfl,rfl⟩,hq4⟩
  |ret=>
   obtain⟨hm5,V6⟩:=oU hs4.m PS q4 .done (some .ret);exact⟨_,_,run_endRound (some .ret) q4,false,γ4,s4.m.at_ i' (.done .ret),rfl,hs4.e.trans V6,hm5,hs4.ls.put ak4 PS (aR q4) ⟨rfl,rfl,rfl⟩,hq4⟩
  |exit id=>
   obtain⟨hm5,V6⟩:=oU hs4.m PS q4 .done (some (.exit id));exact⟨_,_,run_endRound (some (.exit id)) q4,false,γ4,s4.m.at_ i' (.done (.exit id)),rfl,hs4.e.trans V6,hm5,hs4.ls.put ak4 PS (aR q4) ⟨rfl,rfl,rfl⟩,hq4⟩
  |_=>exact hq4.elim
 |_=>exact hq2.elim
def Ji:∀(c:Code)(r:Option Nat)(S:G×World)(γ:G)(w:World)(s:AS)(a:Act)(Q:R0),vc P gl orc Y (Yn P c) s Q->ek N w0 r an S P gl Y γ w s a->c.wpIn (FW r) 0 P (lift N w0 r an S P gl Y Q) a w
 |.skip,r,S,γ,w,s,a,Q,h,hs=>wpIn_skip ⟨γ,s,hs,h⟩
 |.label _,r,S,γ,w,s,a,Q,h,hs=>wpIn_label ⟨γ,s,hs,h⟩
 |.region id ops false,r,S,γ,w,s,a,Q,h,hs=>by
  refine wpIn_region ?_;have:=sy (P:=P) (orc:=orc) (ops:=ops) (Q:=lift N w0 r an S P gl Y Q) (K:=Q .normal) (fun γ w s a hK hs=>⟨γ,s,hs,hK⟩) ops.size 0 γ w s a zd (by simpa[Yn,vc]using h) hs;rwa [zzfm]
 |.region id ops true,r,S,γ,w,s,a,Q,h,hs=>by
  simp only[Yn]at h;split at h
  case isFalse=>exact h.elim
  rename_i hc;simp only[zzac]at hc;split at h
  ·rename_i j hj;obtain h|⟨ms,h⟩|⟨hb,ms,R,hR,h⟩|⟨ms,R,Vs,hR,h⟩|⟨ms,h⟩:=h
   ·exact wpIn_region_any hc.1 (wE (Q:=lift N w0 r an S P gl Y Q) (K:=Q .normal) (fun γ w s a hK hs=>⟨γ,s,hs,hK⟩) hc.2 h hs)
   ·exact wpIn_region_any hc.1 (sA (Q:=lift N w0 r an S P gl Y Q) (K:=Q .normal) (fun γ w s a hK hs=>⟨γ,s,hs,hK⟩) hc.2 hj (ji _ _ _ _ (Qbi hc.2) (Nu _ _ _ _ h)) hs)
   ·exact wpIn_region_any hc.1 (Fh (Q:=lift N w0 r an S P gl Y Q) (K:=Q .normal) (fun γ w s a hK hs=>⟨γ,s,hs,hK⟩) hc.2 hj (ak1 hc.2 hb) hR (fun x hx=>jj _ _ _ _ (Qbi hc.2) (h x hx)) hs)
   ·exact wpIn_region_any hc.1 (Fj (Q:=lift N w0 r an S P gl Y Q) (K:=Q .normal) (fun γ w s a hK hs=>⟨γ,s,hs,hK⟩) hc.2 hj hR (fun x hx=>jj _ _ _ _ (Qbi hc.2) (h x hx).1) (fun x hx=>(Jq P gl orc (Qbi hc.2)).symm.trans (h x hx).2) hs)
   exact wpIn_region_any hc.1 (sA (Q:=lift N w0 r an S P gl Y Q) (K:=Q .normal) (fun γ w s a hK hs=>⟨γ,s,hs,hK⟩) hc.2 hj (ji _ _ _ _ (Qbi hc.2) h) hs)
  split at h
  ·rename_i js jp z t hz;obtain⟨hY,hT,ms,h⟩:=h;exact wpIn_region_any hc.1 (Fl (Q:=lift N w0 r an S P gl Y Q) (K:=Q .normal) (fun γ w s a hK hs=>⟨γ,s,hs,hK⟩) hc.2 hz hY h hT hs)
  exact wpIn_region_any hc.1 (wE (Q:=lift N w0 r an S P gl Y Q) (K:=Q .normal) (fun γ w s a hK hs=>⟨γ,s,hs,hK⟩) hc.2 h hs)
 |.seq x y,r,S,γ,w,s,a,Q,h,hs=>by
  refine wpIn_seq (wpIn_mono (Ji x r S γ w s a _ h hs) ?_);rintro ex a' w' ⟨γ',s',dK,h'⟩;cases ex with
  |normal=>exact Ji y r S γ' w' s' a' Q h' dK
  |_=>exact⟨γ',s',dK,h'⟩
 |.cond c x y,r,S,γ,w,s,a,Q,h,hs=>by
  simp only[Yn,vc]at h;have hr:=hs.ev c;split at h
  case h_2=>exact h.elim
  rename_i t ht;rw[ht]at hr;exact wpIn_cond_split hr.bu (fun e=>Ji x r S γ w s a Q (h.1 e) hs) fun e=>Ji y r S γ w s a Q (h.2 e) hs
 |.block id c,r,S,γ,w,s,a,Q,h,hs=>by
  refine wpIn_block (wpIn_mono (Ji c r S γ w s a _ h hs) ?_);rintro ex a' w' ⟨γ',s',dK,h'⟩;cases ex with
  |exit id'=>
   simp only[Exit.inBlock,nt]at h' |-
   split
   ·rename_i aL;rw[if_pos aL]at h';exact⟨γ',s',dK,h'⟩
   rename_i aL;rw[if_neg aL]at h';exact⟨γ',s',dK,h'⟩
  |_=>exact⟨γ',s',dK,h'⟩
 |.loop c,r,S,γ,w,s,a,Q,h,hs=>by
  obtain⟨I,μ,h0,zB⟩:=h;intro b k cs gj hb hr
  have key:∀j γ w s a,μ s=j->I s->ek N w0 r an S P gl Y γ w s a->∃e a' w',lift N w0 r an S P gl Y Q e a' w'/\ArrivesIn (Machine.fenced P (FW r)) P (lone (b.atR a (.code c::.inLoop c::k)) cs w) b k cs e a' w':=by
   intro j;induction j using Nat.strongRecOn with
   |_ j ih=>
    intro γ w s a hn hI hs;obtain⟨e,a₁,w₁,⟨γ₁,s₁,hs₁,hq⟩,fh⟩:=Ji c r S γ w s a _ (zB s hI) hs b (.inLoop c::k) cs gj hb hr;cases e with
    |normal=>
     obtain⟨hI₁,ai⟩:=hq;obtain⟨e₂,a₂,w₂,hq₂,ara⟩:=ih (μ s₁) (hn ▸ ai) γ₁ w₁ s₁ a₁ rfl hI₁ hs₁;exact⟨e₂,a₂,w₂,hq₂,.of_steps (StepsIn.trans fh (.one (fenced_calm hb hr rfl) stepR_inLoop)) ara⟩
    |exit id=>exact⟨_,a₁,w₁,⟨γ₁,s₁,hs₁,hq⟩,.pass (x:=.inLoop c) rfl (fun _ _=>.inl zd) fh⟩
    |goto l=>exact⟨_,a₁,w₁,⟨γ₁,s₁,hs₁,hq⟩,.pass (x:=.inLoop c) rfl (fun _ _=>.inl zd) fh⟩
    |ret=>exact⟨_,a₁,w₁,⟨γ₁,s₁,hs₁,hq⟩,.pass (x:=.inLoop c) rfl (fun _ _=>.inl zd) fh⟩
    |panic ch=>exact⟨_,a₁,w₁,⟨γ₁,s₁,hs₁,hq⟩,.pass (x:=.inLoop c) rfl (fun _ _=>.inl zd) fh⟩
    |outgrown=>exact⟨_,a₁,w₁,⟨γ₁,s₁,hs₁,hq⟩,.pass (x:=.inLoop c) rfl (fun _ _=>.inl zd) fh⟩
  obtain⟨e,a',w',hq,fh⟩:=key _ γ w s a rfl h0 hs;exact⟨e,a',w',hq,.of_steps (.one (fenced_calm hb hr rfl) stepR_loop) fh⟩
 |.exit id,r,S,γ,w,s,a,Q,h,hs=>wpIn_exit ⟨γ,s,hs,h⟩
 |.ret,r,S,γ,w,s,a,Q,h,hs=>wpIn_ret ⟨γ,s,hs,h⟩
 |.scope c,r,S,γ,w,s,a,Q,h,hs=>by
  refine lH (wpIn_mono (Ji c r S γ w s a _ h hs) ?_);rintro ex a' w' ⟨γ',s',dK,h'⟩;cases ex with
  |goto l=>exact h'.elim
  |_=>exact⟨γ',s',dK,h'⟩
 |.rangeFunc g ps ij body,r,S,γ,w,s,a,Q,h,hs=>Fq (fun l S γ w s a Q h hs=>Ji ij (some l) S γ w s a Q h hs) (fun l S γ w s a Q h hs=>Ji body (some l) S γ w s a Q h hs) h hs
 |.goto l,r,S,γ,w,s,a,Q,h,hs=>h.elim
 |.refuse why,r,S,γ,w,s,a,Q,h,hs=>h.elim
end
open Go Go.RowKit
section
variable {N:Nat} {w0:eT} {an:Nat->Nat->Prop} {γ:G} {w:World} {B:Nat->PH} {L:Nat->Option Nat} {P:Program} {gl:Nat->AV} {orc:UV} {e:bE->AV} {m:AM}
def V7(P:Program)(t:TypeId)(x:bE):aF:=
 (match P.info? t,P.underlying t with|some i,some _=>if Jn P t then .load true i.size x else .load false 1 x|_,_=>.bad)
def V9(hm:au N w0 an γ w B L)(hB:∀id cells,m.boxes[id]?=some cells->B id=some cells){t:TypeId}{x:bE}{v0:Value}(h1:aA w γ (e x) v0)
  (hc:(rop P gl orc e m none (V7 P t x)).1):∃b o v,v0=.pointer (some ⟨b,o,none⟩)/\(loadVar t ⟨b,o,none⟩).run P w=.ok v w/\aA w γ (rop P gl orc e m none (V7 P t x)).2 v:=by
 unfold V7 at hc |-
 split at hc
 case h_2=>exact hc.elim
 rename_i i d hi hd
 have main:∀(agg:Bool)(n:Nat),Jn P t=agg->(agg=true->n=i.size)->(rop P gl orc e m none (.load agg n x)).1->
   ∃b o v,v0=.pointer (some ⟨b,o,none⟩)/\(loadVar t ⟨b,o,none⟩).run P w=.ok v w/\aA w γ (rop P gl orc e m none (.load agg n x)).2 v:=by
  intro agg n bH hn hc
  have conv:∀b o v,(Instr.loadAt t (.pointer (some ⟨b,o,none⟩))).run P w=.ok v w->(loadVar t ⟨b,o,none⟩).run P w=.ok v w:=fun b o v h=>by
   simpa[Instr.loadAt,Instr.sureAddr]using h
  simp only[rop]at hc |-
  split at hc
  ·rename_i id o' he;try simp only[he]
   rw[he]at h1;obtain⟨b,hb,hv⟩:=h1.dL;cases gN:m.boxes[id]? with
   |none=>
    have e0:m.boxes.getD id []=[]:=by simp[List.getD,gN]
    rw[e0]at hc |-
    obtain⟨v,h2,h3⟩:=Qdk (P:=P) (w:=w) (γ:=γ) (b:=b) (o:=o') (cv:=fun _=>undef) hi hd bH hn (fun j c hj=>by simp at hj) (fun j c hj=>by simp at hj) hc;exact⟨b,o',v,hv,conv _ _ _ h2,h3⟩
   |some cells=>
    have e0:m.boxes.getD id []=cells:=by simp[List.getD,gN]
    rw[e0]at hc |-
    obtain⟨arr,te,g2,g3,g4⟩:=hm.box id cells b (hB id cells gN) hb
    have cq:∀(j:Nat)(c:AV),(cells.drop o')[j]?=some c->arr[o'+j]?=some (arr.getD (o'+j) undef)/\aA w γ c (arr.getD (o'+j) undef):=fun j c hj=>by
     rw[zzbl]at hj
     have ai:o'+j<arr.size:=by
      have:=(zza.1 hj).1;have h0:=g3.1;simp at h0;omega
     have hu:arr[o'+j]?=some (arr.getD (o'+j) undef):=by simp[ai]
     exact⟨hu,g3.2 _ _ _ hj (Nm hu)⟩
    obtain⟨v,h2,h3⟩:=Qdk (P:=P) (w:=w) (γ:=γ) (b:=b) (o:=o') (cv:=fun j=>arr.getD (o'+j) undef) hi hd bH hn (fun j c hj=>by rw[aM g2];exact(cq j c hj).1) (fun j c hj=>(cq j c hj).2) hc;exact⟨b,o',v,hv,conv _ _ _ h2,h3⟩
  ·rename_i row o' he;try simp only[he]
   rw[he]at h1;obtain⟨b,off,cv,hv,hb,bL,zx⟩:=h1.iV;have cq:∀(j:Nat)(c:AV),(row.drop o')[j]?=some c->row[o'+j]?=some c:=fun j c hj=>by rw[zzbl]at hj;exact hj
   obtain⟨v,h2,h3⟩:=Qdk (P:=P) (w:=w) (γ:=γ) (b:=b) (o:=off+o') (cv:=fun j=>cv (o'+j)) hi hd bH hn
    (fun j c hj=>by rw[zzan];exact(bL _ _ (cq j c hj)).1) (fun j c hj=>(zx _ _ (cq j c hj)).gq) hc
   exact⟨b,off+o',v,hv,conv _ _ _ h2,h3⟩
  exact hc.elim
 cases bH:Jn P t with
 |true=>simp only[bH,if_true]at hc |-;exact main true _ bH (fun _=>rfl) hc
 |false=>simp only[bH]at hc |-;exact main false 1 bH (fun h=>by cases h) hc
end
def fO(P:Program)(rs:List ResultVar):List aF:=rs.map fun
 |.tmp t=>.mv (.tmp t)
 |.cell a t=>V7 P t (.tmp a)
def Jr(P:Program)(gl:Nat->AV)(orc:UV)(s:AS):List aF->Prop×P2
 |[]=>(True,[])
 |o::r=>((rop P gl orc (ev gl s.T) s.m none o).1/\(Jr P gl orc s r).1,(rop P gl orc (ev gl s.T) s.m none o).2::(Jr P gl orc s r).2)
def oneOf:P2->AV
 |[a]=>a
 |l=>.aS l
section
variable {N:Nat} {w0:eT} {r:Option Nat} {an:Nat->Nat->Prop} {S:G×World} {Y:YT} {γ:G} {w:World} {P:Program} {gl:Nat->AV} {orc:UV} {s:AS} {a:Act}
def NA(hs:ek N w0 r an S P gl Y γ w s a):∀(rs:List ResultVar),(Jr P gl orc s (fO P rs)).1->
  ∃vs:PQ,(rs.mapM fun(r:ResultVar)=>(match r with|.tmp t=>pure (a.tmps.getD t undef)|.cell x t=>do loadVar t (<- asAddr (a.tmps.getD x undef)):Sem Value)).run P w=.ok vs w/\
   ak w γ (Jr P gl orc s (fO P rs)).2 vs
 |[],_=>⟨[],zd,ak.nil⟩
 |r::rs,hc=>by
  obtain⟨h1,h2⟩:=hc;obtain⟨vs,g1,g2⟩:=NA hs rs h2
  have key:∃v,(match r with|.tmp t=>pure (a.tmps.getD t undef)|.cell x t=>do loadVar t (<- asAddr (a.tmps.getD x undef)):Sem Value).run P w=.ok v w/\
    aA w γ (rop P gl orc (ev gl s.T) s.m none ((fun(r:ResultVar)=>match r with|.tmp t=>aF.mv (.tmp t)|.cell a t=>V7 P t (.tmp a)) r)).2 v:=by
   cases r with
   |tmp t=>exact⟨a.tmps.getD t undef,zd,hs.ev (.tmp t)⟩
   |cell x t=>
    obtain⟨b,o,v,e1,e2,e3⟩:=V9 (P:=P) (gl:=gl) (orc:=orc) (e:=ev gl s.T) (m:=s.m) hs.m (fun _ _ h=>h) (t:=t) (x:=.tmp x) (v0:=a.tmps.getD x undef) (hs.ev (.tmp x)) h1;refine⟨v,?_,e3⟩;simp only[e1,Sem.run_bind,asAddr,Sem.run_pure,Result.andThen_ok,e2]
  obtain⟨v,k1,k2⟩:=key;refine⟨v::vs,?_,ak.cons k2 g2⟩;simp only[zzh,Sem.run_bind,k1,Result.andThen_ok,g1,Sem.run_pure]
def Fs(hs:ek N w0 r an S P gl Y γ w s a){fn:Func}(hc:(Jr P gl orc s (fO P fn.results.toList)).1):∃v,(results fn a.tmps).run P w=.ok v w/\aA w γ (oneOf (Jr P gl orc s (fO P fn.results.toList)).2) v:=by
 obtain⟨vs,h1,h2⟩:=NA (P:=P) (orc:=orc) hs fn.results.toList hc
 have aZ:(results fn a.tmps).run P w=.ok (if h:vs.toArray.size=1 then vs.toArray[0]else .tuple vs.toArray) w:=by
  simp only[results,Sem.run_bind,Array.mapM_eq_mapM_toList,Sem.run_map];exact congrArg (fun(z:Result (PQ))=>(z.andThen fun a w'=>Result.ok a.toArray w').andThen fun(a:P1)w'=>Sem.run P (pure (if h:a.size=1 then a[0]else Value.tuple a):Sem Value) w') h1
 refine⟨_,aZ,?_⟩;generalize(Jr P gl orc s (fO P fn.results.toList)).2=as at h2
 match as,vs,h2 with
 |[],[],h2=>exact .aS rfl fun i c v h=>by simp at h
 |[],_::_,h2=>have:=h2.1;simp at this
 |_::_,[],h2=>have:=h2.1;simp at this
 |[x],[v],h2=>exact h2.2 0 x v rfl rfl
 |[x],_::_::_,h2=>have:=h2.1;simp at this
 |_::_::_,[v],h2=>have:=h2.1;simp at this
 |x::y::as,v::u::vs,h2=>
  simp only[oneOf];rw[dif_neg zd];exact .aS (Nm h2.1) fun i c v' g1 g2=>h2.2 i c v' g1 (Nm g2)
def post(P:Program)(gl:Nat->AV)(orc:UV)(rs:List aF)(r:AV):R0
 |.normal,s=>(Jr P gl orc s rs).1/\bz s.m 6 (oneOf (Jr P gl orc s rs).2)=r
 |.ret,s=>(Jr P gl orc s rs).1/\bz s.m 6 (oneOf (Jr P gl orc s rs).2)=r
 |_,_=>False
def wP(P:Program)(gl:Nat->AV)(orc:UV)(rs:List aF)(K:So):R0
 |.normal,s=>(Jr P gl orc s rs).1/\K (oneOf (Jr P gl orc s rs).2) s.m
 |.ret,s=>(Jr P gl orc s rs).1/\K (oneOf (Jr P gl orc s rs).2) s.m
 |_,_=>False
def Y0:YT:=fun _ _ _ _=>False
def ek.y0(h:ek N w0 r an S P gl Y γ w s a):ek N w0 r an S P gl Y0 γ w s a:=⟨h.m,h.ls,h.rd,h.t,h.d,h.g,fun _ _ _ _ _ _ _ _ _ _ _ hY _ _=>hY.elim,h.e⟩
def sE{fn:Func}{R:Ending->World->Prop}(hS:∀b,S.1.sp b->b<S.2.heap.size):∀(ds:List Deferred)(γ:G)(w:World)(s:AS)(a:Act),a.defers=ds->ek N w0 none an S P gl Y0 γ w s a->
  (Jr P gl orc s (fO P fn.results.toList)).1->
  (∀v w' γ',ez S.2 S.1 w' γ'->au N w0 an γ' w' s.m.B s.m.L->cT γ' w' s.m->aA w' γ' (oneOf (Jr P gl orc s (fO P fn.results.toList)).2) v->R (.returned v) w')->LeavesInM (FW none) 0 P fn a.tmps R ds .returning w
 |[],γ,w,s,a,_,hs,h1,hR=>by
  obtain⟨v,g1,g2⟩:=Fs (P:=P) (orc:=orc) hs h1;exact⟨v,g1,hR v w γ hs.e hs.m hs.ls g2⟩
 |d::ds,γ,w,s,a,hd,hs,hc,hR=>by
  obtain⟨D,e1,e0,e2,e3⟩:=hs.d.2.1 d (by rw[hd];simp);refine⟨zd,.inl ⟨D,w.putObj D (.deferred none),e1,run_takeDeferred e3,?_⟩⟩;have hDS:¬S.1.sp D:=fun h=>by have:=hS D h;omega
  obtain⟨fK,bV,awr⟩:=hs.m.ah9 e2 (o:=.deferred none) e3 (fun _ _ _ h=>by cases h) (fun _ _ _ h=>by cases h) (γ':={γ with sp:=fun b=>γ.sp b/\b≠D}) (.inr rfl) (fun h=>by
   have:=congrFun (congrArg G.sp h) D;simp[e2]at this)
  have hpw:=hs.d.2.2;rw[hd,zzcb]at hpw;refine sE hS ds {γ with sp:=fun b=>γ.sp b/\b≠D} (w.putObj D (.deferred none)) s {a with defers:=ds} rfl ⟨fK,⟨fun i=>?_,hs.ls.2.1,hs.ls.2.2.1,fun i l hl=>?_⟩,fun l h=>(by cases h),hs.t.eS bV,⟨Nm hs.d.1,fun x hx=>?_,hpw.2⟩,fun g=>(hs.g g).eS bV.cV,fun _ _ _ _ _ _ _ _ _ _ _ hY _ _=>hY.elim,awr _ _ hs.e (.inr hDS)⟩ hc hR
  ·rcases hs.ls.1 i with h|⟨l,h0,h1,rc,h2,h3⟩
   ·exact .inl h
   have aO:l≠D:=by rintro rfl;rw[e3]at h2;cases h2
   exact .inr ⟨l,h0,⟨h1,aO⟩,rc,(World.putObj_heap_other aO).trans h2,h3⟩
  ·obtain⟨h1,rc,h2⟩:=hs.ls.2.2.2 i l hl;have aO:l≠D:=by rintro rfl;rw[e3]at h2;cases h2
   exact⟨⟨h1,aO⟩,rc,(World.putObj_heap_other aO).trans h2⟩
  obtain⟨D',q1,q0,q2,q3⟩:=hs.d.2.1 x (by rw[hd];simp[hx]);have aO:D'≠D:=by rintro rfl;exact hpw.1 x hx D' e1 q1
  exact⟨D',q1,q0,⟨q2,aO⟩,(World.putObj_heap_other aO).trans q3⟩
def adK(w0:World):eT where
 p γ w:=Below w0.heap.size w0 w/\∀b,OI γ b->w0.heap.size<=b
 st γ w γ' w' h hc:=by
  refine⟨h.1.trans ⟨hc.os,hc.tape,hc.output,hc.size,fun b hb=>hc.same b (zzay hb h.1.size) fun ho=>?_⟩,fun b hb=>?_⟩
  ·have:=h.2 b ho;omega
  rcases hc.oi b hb with hb|hb
  ·exact h.2 b hb
  exact zzba h.1.size hb
def PT{as:P2}{vs:PQ}{k:Nat}(h:ak w γ as vs):ak w γ (as++List.replicate (k-as.length) .junk) (vs.toArray++Array.replicate (k-vs.toArray.size) undef).toList:=by
 have aH:=h.1
 have h2:ak w γ (List.replicate (k-as.length) .junk) (List.replicate (k-vs.length) undef):=⟨by simp[aH],fun i x v hx _=>by
  rw[zzcl]at hx;split at hx
  ·cases hx;exact .junk _
  cases hx⟩
 simpa using h.append h2
def c9(P:Program)(f:FuncId)(sc:SC)(rs:List aF)(n:Nat):Prop:=
 ∃fn c,P.funcs[f]?=some fn/\fn.body=some c/\(fn.name== "runtime.NumGoroutine")=false/\Yn P c=sc/\fO P fn.results.toList=rs/\fn.ntmps=n
def fco{P:Program}{f:FuncId}{fn:Func}{c:Code}{sc:SC}{rs:List aF}{n:Nat}(h:P.funcs[f]?=some fn)(hb:fn.body=some c)(hk:((fn.name== "runtime.NumGoroutine"),Yn P c,fO P fn.results.toList,fn.ntmps)=(false,sc,rs,n)):c9 P f sc rs n:=by
 obtain⟨h1,h2⟩:=Prod.mk.inj hk;obtain⟨h2,h3⟩:=Prod.mk.inj h2;obtain⟨h3,h4⟩:=Prod.mk.inj h3;exact⟨fn,c,h,hb,h1,h2,h3,h4⟩
def aK{P:Program}{f:FuncId}{fn:Func}{c:Code}{sc:SC}{rs:List aF}{n:Nat}(h:P.funcs[f]?=some fn)(hb:fn.body=some c:=by rfl)(hk:((fn.name== "runtime.NumGoroutine"),Yn P c,fO P fn.results.toList,fn.ntmps)=(false,sc,rs,n):=by kernel_rfl):c9 P f sc rs n:=fco h hb hk
def ak5{f:FuncId}{sc:SC}{rs:List aF}{n:Nat}(hc:c9 P f sc rs n)(orc:UV){as:P2}{m:AM}{K:So}
  (h:vc P gl orc Y sc ⟨as++List.replicate (n-as.length) .junk,m⟩ (wP P gl orc rs K)){vs:PQ}(hm:au N w0 an γ w m.B m.L)(hl:cT γ w m)(hg:∀g,aA w γ.cV (gl g) (.pointer (some ⟨g,0,none⟩)))
  (hy:YOK N w0 an P Y γ w)(hr:ak w γ as vs):
  CallsIn (FW none) 0 P f vs.toArray w fun e w'=>∃v γ' r m',e=.returned v/\ez w γ w' γ'/\au N w0 an γ' w' m'.B m'.L/\cT γ' w' m'/\aA w' γ' r v/\K r m':=by
 obtain⟨fn,c,hf,hb,aib,rfl,rfl,rfl⟩:=hc;refine callsIn_of_wp_marks (F:=FW none) hf hb trivial ?_
 have hs:ek N w0 none an (γ,w) P gl Y γ w ⟨as++List.replicate (fn.ntmps-as.length) .junk,m⟩ {tmps:=vs.toArray++Array.replicate (fn.ntmps-vs.toArray.size) undef,defers:=[]}:=
  ⟨hm,hl,fun l h=>(by cases h),PT hr,⟨zzab _,fun x hx=>(by cases hx),List.Pairwise.nil⟩,hg,hy,(Ev.refl w γ).cI⟩
 refine wpIn_mono (Ji c none (γ,w) γ w _ _ _ h hs) ?_
 have fin:∀γ' w' s a,ek N w0 none an (γ,w) P gl Y γ' w' s a->(Jr P gl orc s (fO P fn.results.toList)).1/\K (oneOf (Jr P gl orc s (fO P fn.results.toList)).2) s.m->
   LeavesInM (FW none) 0 P fn a.tmps (fun e w'=>∃v γ' r m',e=.returned v/\ez w γ w' γ'/\au N w0 an γ' w' m'.B m'.L/\cT γ' w' m'/\aA w' γ' r v/\K r m') a.defers .returning w':=
  fun γ' w' s a dK hc=>sE (S:=(γ,w)) (fun b hb=>(hm.sp b hb).2.1) a.defers γ' w' s a rfl dK.y0 hc.1 fun v qG D6 q1 q2 q3 q4=>⟨v,D6,_,_,rfl,q1,q2,q3,q4,hc.2⟩
 rintro ex a w' ⟨γ',s,dK,h'⟩;cases ex with
 |normal=>exact fin γ' w' s a dK h'
 |ret=>exact fin γ' w' s a dK h'
 |_=>exact h'.elim
def c9.bw{f:FuncId}{sc:SC}{rs:List aF}{n:Nat}(hc:c9 P f sc rs n):bw P f:=by
 obtain⟨fn,c,hf,hb,aib,_⟩:=hc;exact⟨fn,hf,by simp[hb],aib⟩
def J1{f:FuncId}{sc:SC}{rs:List aF}{n:Nat}(hc:c9 P f sc rs n)(orc:UV){as:P2}{m:AM}{K:So}
  (h:vc P gl orc Y sc ⟨as++List.replicate (n-as.length) .junk,m⟩ (wP P gl orc rs K)):aB P gl Y f as m K:=
 ⟨hc.bw,fun _ _ _ _ _ _ hm hl hg hy hr=>ak5 hc orc h hm hl hg hy hr⟩
def AM.none:AM:=⟨[],[],fun _=>.gone,0⟩
def sF{f:FuncId}{as:P2}{r:AV}(h:aB P gl Y0 f as ⟨[],[],fun _=>.gone,0⟩ fun x m'=>bz m' 6 x=r):Pure P gl f as r:=by
 refine⟨h.1,fun ro w vs gr hr=>?_⟩;refine(callsIn_wide (n:=0)).1 ?_
 let γ0:G:=G0 fun b o=>ro b o/\b<w.heap.size
 have bV:Ev w (G0 ro) w γ0:=⟨zzab _,fun b o hb h=>⟨⟨h,hb⟩,rfl⟩,fun _ _ h=>(by cases h),fun _=>zzab _,fun _ _ h=>(by cases h),rfl,fun _ _ _ h=>(by cases h),fun _ h=>h.elim,Sz.refl w⟩
 have hm:au w.heap.size (adK w) ro γ0 w (⟨[],[],fun _=>.gone,0⟩:AM).B (⟨[],[],fun _=>.gone,0⟩:AM).L:=by
  refine⟨⟨Below.refl _ _,fun b hb=>?_⟩,zzab _,fun b o h=>.inl h.1,fun b o h=>h.2,fun id cells b h=>by simp[AM.B]at h,fun id b h=>(by cases h),fun id id' b h=>(by cases h),fun id b h=>(by cases h),fun id id' b h=>(by cases h),fun b h=>h.elim,fun id b h=>(by cases h),fun id id' b h=>(by cases h),fun id n h=>by simp[AM.L]at h,fun _ _=>rfl⟩;obtain⟨_,hb⟩|⟨_,hb⟩|hb|⟨_,hb⟩:=hb
  ·cases hb
  ·cases hb
  ·exact hb.elim
  cases hb
 refine CallsIn.mono (h.2 _ _ _ _ _ _ hm ⟨fun _=>.inl rfl,fun _ _=>rfl,fun _ _ _ h=>(by cases h),fun _ _ h=>(by cases h)⟩ (fun g=>(gr g).mono bV) (fun _ _ _ _ _ _ _ _ _ _ _ hY _ _=>hY.elim) (hr.mono bV)) ?_;rintro e w' ⟨v,γ',x,m',rfl,_,h2,_,h4,h5⟩;refine⟨v,rfl,h2.bs.1,?_⟩;rw[<- h5];exact kH h2 (fun _ _ h=>h) h2.an 6 _ v h4 fun _ id b hb o=>.inr (h2.β id b hb).1
def adL{f:FuncId}{sc:SC}{rs:List aF}{n:Nat}(hc:c9 P f sc rs n)(orc:UV){as:P2}{r:AV}
  (h:vc P gl orc Y0 sc ⟨as++List.replicate (n-as.length) .junk,⟨[],[],fun _=>.gone,0⟩⟩ (post P gl orc rs r)):Pure P gl f as r:=by
 have arb:post P gl orc rs r=wP P gl orc rs fun x m'=>bz m' 6 x=r:=by
  funext ex s;cases ex<;>rfl
 rw[arb]at h;exact sF (J1 hc orc h)
end
end Go.Abs
