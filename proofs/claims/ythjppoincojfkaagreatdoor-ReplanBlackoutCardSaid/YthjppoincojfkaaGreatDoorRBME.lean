import Derived.Test.YthjppoincojfkaaGreatDoorRBMD
import Derived.RangeFuncNested
set_option linter.all false
namespace Go.Abs
open Go Go.RowKit
def Zb(o:Oper):Pa:=(o.after.toList.filter fun e=>Region.binds .any e).map (·.on)
def vZ(ops:Array Oper)(i j:Nat):Bool:=
 match ops[i]? with
 |some o=>(Zb o).contains j
 |none=>false
def Cx(ops:Array Oper)(i:Nat):Bool:=(List.range i).all fun j=>(List.range (i-j)).any fun d=>vZ ops (i-d) j
def v7(ops:Array Oper):Nat->Nat
 |0=>0
 |k+1=>if Cx ops k then v7 ops k else k+1
def Se(ops:Array Oper):Nat:=v7 ops ops.size
def Vf(ops:Array Oper)(i:Nat):Option Nat:=(ops[i]?).bind (·.dst)
def uq(ops:Array Oper)(p:Nat):Bool:=
 decide (p<=ops.size)&&(List.range ops.size).all fun i=>
  match ops[i]? with
  |none=>false
  |some o=>(Zb o).all (fun j=>decide (j<i))&&
   (
    if i<p then
    ((o.looksAt ops).all fun t=>(List.range p).all fun j=>!(Vf ops j==some t)||j==i||(decide (j<i)&&(Zb o).contains j))&&
    ((List.range i).all fun j=>(Vf ops j).isNone||!(Vf ops j==o.dst))
   else Cx ops i)
section
variable (P:Program) (gl:Nat->AV) (orc:UV)
def dop(o:SO)(T:P2)(m:AM)(nb:T5):Prop×AV×T5:=
 match o.guard with
 |none=>match o.op with
  |.alloc zs=>(zs.all Qx=true,.ptr (m.boxes.length+nb.length) 0,nb++[zs])
  |.box x=>(bare (ev gl T x)=true/\(cellsOf (ev gl T x)).all Qx=true,.ptr (m.boxes.length+nb.length) 0,nb++[cellsOf (ev gl T x)])
  |.mks sz bytes zs l c=>(match ev gl T l,ev gl T c with
   |.int _ l,.int _ c=>((0<=l/\l<=c/\bytes*c<=281474976710656/\c<=9223372036854775807)/\zs.length=sz/\zs.all Qx=true,.bs (m.boxes.length+nb.length) 0 l.toNat sz,nb++[bE c.toNat zs])
   |_,_=>(False,.junk,nb))
  |op=>((rop P gl orc (ev gl T) m o.dst op).1,(rop P gl orc (ev gl T) m o.dst op).2,nb)
 |some (some t,want)=>match D3 want (T.getD t .junk)with
  |some gw=>(gok gl T gw (gxs o.op o.xs)/\(gw=true->(rop P gl orc (evG gl T o.op) m o.dst o.op).1),.gd gw (rop P gl orc (evG gl T o.op) m o.dst o.op).2,nb)
  |none=>(False,.junk,nb)
 |some (none,_)=>(False,.junk,nb)
def Sf(Y:YT)(l2:List SO)(K:AS->Prop):List SO->P2->AM->T5->Prop
 |[],T,m,nb=>Zn P gl orc Y l2 ⟨T,{m with boxes:=m.boxes++nb}⟩ K
 |o::r,T,m,nb=>(dop P gl orc o T m nb).1/\Sf Y l2 K r (put T o.dst (dop P gl orc o T m nb).2.1) m (dop P gl orc o T m nb).2.2
def Xh(ops:Array Oper)(T0:P2)(m:AM):Nat->P2×T5
 |0=>(T0,[])
 |k+1=>match ops[k]? with
  |some o=>(put (Xh ops T0 m k).1 o.dst (dop P gl orc (Xd P ops o) (Xh ops T0 m k).1 m (Xh ops T0 m k).2).2.1,(dop P gl orc (Xd P ops o) (Xh ops T0 m k).1 m (Xh ops T0 m k).2).2.2)
  |none=>Xh ops T0 m k
end
section
variable {N:Nat} {w0:eS} {r:Option Nat} {an:Nat->Nat->Prop} {S:G×World} {Y:YT} {P:Program} {gl:Nat->AV} {orc:UV} {ops:Array Oper} {T0:P2} {m:AM} {p:Nat}
def Wl{k:Nat}{o:Oper}(h:ops[k]?=some o):Xh P gl orc ops T0 m (k+1)=
  (put (Xh P gl orc ops T0 m k).1 o.dst (dop P gl orc (Xd P ops o) (Xh P gl orc ops T0 m k).1 m (Xh P gl orc ops T0 m k).2).2.1,(dop P gl orc (Xd P ops o) (Xh P gl orc ops T0 m k).1 m (Xh P gl orc ops T0 m k).2).2.2):=by
 simp only[Xh,h]
def Nr(l2:List SO)(K:AS->Prop)(hp:p<=ops.size):∀(n k:Nat),k+n=p->Sf P gl orc Y l2 K (((ops.toList.take p).drop k).map (Xd P ops)) (Xh P gl orc ops T0 m k).1 m (Xh P gl orc ops T0 m k).2->
  (∀i o,k<=i->i<p->ops[i]?=some o->(dop P gl orc (Xd P ops o) (Xh P gl orc ops T0 m i).1 m (Xh P gl orc ops T0 m i).2).1)/\
  Zn P gl orc Y l2 ⟨(Xh P gl orc ops T0 m p).1,{m with boxes:=m.boxes++(Xh P gl orc ops T0 m p).2}⟩ K
 |0,k,hk,h=>by
  obtain rfl:k=p:=zE
  have:(ops.toList.take k).drop k=[]:=zzal (by simp;omega);rw[this]at h;exact⟨fun i o h1 h2=>zE,h⟩
 |n+1,k,hk,h=>by
  have ai:k<ops.size:=zE
  have ho:ops[k]?=some ops[k]:=zzag ai
  have hd:(ops.toList.take p).drop k=ops[k]::(ops.toList.take p).drop (k+1):=by
   rw[zzah (by simp;omega)];simp
  rw[hd,zzaz]at h;obtain⟨h1,h2⟩:=h;have ES:=Wl (P:=P) (gl:=gl) (orc:=orc) (T0:=T0) (m:=m) ho;have:=Nr l2 K hp n (k+1) zE (by rw[ES];exact h2);refine⟨fun i o hi c9 Cy=>?_,this.2⟩;rcases zzaa k i with eM|eM
  ·exact this.1 i o eM c9 Cy
  obtain rfl:i=k:=zE
  rw[ho]at Cy;cases Cy;exact h1
def v8(T:P2)(d:Option Nat)(x:AV):(put T d x).length=T.length:=by cases d<;>simp[put]
def ja:∀k,(Xh P gl orc ops T0 m k).1.length=T0.length
 |0=>rfl
 |k+1=>by
  cases h:ops[k]? with
  |none=>simp only[Xh,h];exact ja k
  |some o=>rw[Wl h,v8];exact ja k
def Qch{T:P2}{d:Option Nat}{x:AV}{t:Nat}(h:d≠some t):(put T d x).getD t .junk=T.getD t .junk:=by
 cases d with
 |none=>rfl
 |some d=>simp only[put,List.getD];rw[zzbn (by rintro rfl;exact h rfl)]
def Wq{T:P2}{t:Nat}{x:AV}(h:t<T.length):(put T (some t) x).getD t .junk=x:=by
 simp[put,List.getD,h]
def Qek{t:Nat}:∀k,(∀j,j<k->Vf ops j≠some t)->(Xh P gl orc ops T0 m k).1.getD t .junk=T0.getD t .junk
 |0,_=>rfl
 |k+1,h=>by
  cases ho:ops[k]? with
  |none=>simp only[Xh,ho];exact Qek k fun j hj=>h j zE
  |some o=>
   rw[Wl ho,Qch (by have:=h k zE;simpa[Vf,ho]using this)];exact Qek k fun j hj=>h j zE
def kN{t k:Nat}:∀n,(∀j,k<=j->j<k+n->Vf ops j≠some t)->(Xh P gl orc ops T0 m (k+n)).1.getD t .junk=(Xh P gl orc ops T0 m k).1.getD t .junk
 |0,_=>rfl
 |n+1,h=>by
  rw[<- zzan];cases ho:ops[k+n]? with
  |none=>simp only[Xh,ho];exact kN n fun j h1 h2=>h j h1 zE
  |some o=>
   rw[Wl ho,Qch (by have:=h (k+n) zE zE;simpa[Vf,ho]using this)];exact kN n fun j h1 h2=>h j h1 zE
def akQ{o:Oper}{T:P2}{nb:T5}:
  ((dop P gl orc (Xd P ops o) T m nb).2.2=nb)\/(∃cells,(dop P gl orc (Xd P ops o) T m nb).2.2=nb++[cells]):=by
 unfold dop;split
 ·split
  ·exact .inr ⟨_,rfl⟩
  ·exact .inr ⟨_,rfl⟩
  ·split
   ·exact .inr ⟨_,rfl⟩
   exact .inl rfl
  exact .inl rfl
 ·split
  ·exact .inl rfl
  exact .inl rfl
 exact .inl rfl
def kP(P:Program)(gl:Nat->AV)(orc:UV)(ops:Array Oper)(T0:P2)(m:AM)(k:Nat):Nat:=(Xh P gl orc ops T0 m k).2.length
def Ns(k:Nat):(Xh P gl orc ops T0 m (k+1)).2=(Xh P gl orc ops T0 m k).2\/∃cells,(Xh P gl orc ops T0 m (k+1)).2=(Xh P gl orc ops T0 m k).2++[cells]:=by
 cases ho:ops[k]? with
 |none=>exact .inl (by simp only[Xh,ho])
 |some o=>rw[Wl ho];exact akQ
def ET(k:Nat):kP P gl orc ops T0 m (k+1)=kP P gl orc ops T0 m k\/kP P gl orc ops T0 m (k+1)=kP P gl orc ops T0 m k+1:=by
 unfold kP;rcases Ns (P:=P) (gl:=gl) (orc:=orc) (ops:=ops) (T0:=T0) (m:=m) k with h|⟨c,h⟩
 ·rw[h];exact .inl rfl
 rw[h];exact .inr zd
def EU{j:Nat}:∀n,kP P gl orc ops T0 m j<=kP P gl orc ops T0 m (j+n)
 |0=>zzab _
 |n+1=>by
  have:=EU (j:=j) n;rcases ET (P:=P) (gl:=gl) (orc:=orc) (ops:=ops) (T0:=T0) (m:=m) (j+n)with h|h<;>rw[<- zzan]<;>omega
def VI{i j:Nat}(h:i<=j):kP P gl orc ops T0 m i<=kP P gl orc ops T0 m j:=by
 have:=EU (P:=P) (gl:=gl) (orc:=orc) (ops:=ops) (T0:=T0) (m:=m) (j:=i) (j-i);rwa [show i+(j-i)=j by omega]at this
def VJ{i:Nat}:∀n{q:Nat}{c:P2},(Xh P gl orc ops T0 m i).2[q]?=some c->(Xh P gl orc ops T0 m (i+n)).2[q]?=some c
 |0,_,_,h=>h
 |n+1,q,c,h=>by
  have ih:=VJ n h;rw[<- zzan];rcases Ns (P:=P) (gl:=gl) (orc:=orc) (ops:=ops) (T0:=T0) (m:=m) (i+n)with e|⟨c',e⟩
  ·rw[e];exact ih
  rw[e,zzaj (zza.1 ih).1];exact ih
def Ii(P:Program)(gl:Nat->AV)(orc:UV)(ops:Array Oper)(T0:P2)(m:AM)(i:Nat):Bool:=kP P gl orc ops T0 m (i+1)==kP P gl orc ops T0 m i+1
def EV{q:Nat}:∀k,q<kP P gl orc ops T0 m k->∃i,i<k/\Ii P gl orc ops T0 m i=true/\kP P gl orc ops T0 m i=q
 |0,h=>by simp[kP,Xh]at h
 |k+1,h=>by
  rcases zzaa q (kP P gl orc ops T0 m k)with h'|h'
  ·obtain⟨i,h1,h2,h3⟩:=EV k h';exact⟨i,zE,h2,h3⟩
  rcases ET (P:=P) (gl:=gl) (orc:=orc) (ops:=ops) (T0:=T0) (m:=m) k with e|e
  ·omega
  exact⟨k,zE,by simp[Ii,e],zE⟩
def AK(P:Program)(gl:Nat->AV)(orc:UV)(ops:Array Oper)(T0:P2)(m:AM)(p:Nat)(listed:Array Bool)(id:Nat):PH:=
 if id<m.boxes.length then m.boxes[id]?
 else if(List.range p).any fun i=>listed.getD i false&&(Ii P gl orc ops T0 m i&&decide (m.boxes.length+kP P gl orc ops T0 m i=id))then(Xh P gl orc ops T0 m p).2[id-m.boxes.length]? else none
def wr(ops:Array Oper)(p:Nat)(listed:Array Bool)(t:Nat):Bool:=(List.range p).any fun i=>listed.getD i false&&(Vf ops i==some t)
def At(P:Program)(gl:Nat->AV)(orc:UV)(ops:Array Oper)(T0:P2)(m:AM)(p:Nat)(listed:Array Bool)(t:Nat):AV:=
 if wr ops p listed t then(Xh P gl orc ops T0 m p).1.getD t .junk else T0.getD t .junk
structure PM (N:Nat) (w0:eS) (r:Option Nat) (an:Nat->Nat->Prop) (S:G×World) (Y:YT) (P:Program) (gl:Nat->AV) (orc:UV) (ops:Array Oper) (T0:P2) (m:AM) (p:Nat) (listed:Array Bool) (γ:G) (w:World) (a:Act):Prop where
 size:listed.size=ops.size
 tail:∀i,p<=i->i<ops.size->listed.getD i true=false
 clo:∀i o,listed.getD i false=true->ops[i]?=some o->∀j∈Zb o,listed.getD j false=true
 mm:au N w0 an γ w (AK P gl orc ops T0 m p listed) m.L
 ls:cS γ w m
 rd:Rdr r γ w
 tl:a.tmps.size=T0.length
 tt:∀t,aA w γ (At P gl orc ops T0 m p listed t) (a.tmps.getD t undef)
 d:Dfr S.2.heap.size γ w a.defers
 g:∀g,aA w γ.cU (gl g) (.pointer (some ⟨g,0,none⟩))
 y:YOK N w0 an P Y γ w
 e:eD S.2 S.1 w γ
def Xt{listed:Array Bool}{i:Nat}{b:Bool}(h:i<listed.size):(listed.setIfInBounds i true).getD i b=true:=by
 simp[h]
def Qw{listed:Array Bool}{i j:Nat}{b:Bool}(h:j≠i):(listed.setIfInBounds i true).getD j b=listed.getD j b:=by
 simp[zzco (Ne.symm h)]
def adD{listed:Array Bool}{id:Nat}{cells:P2}(h:m.boxes[id]?=some cells):AK P gl orc ops T0 m p listed id=some cells:=by
 unfold AK;rw[if_pos (zza.1 h).1];exact h
def VK{listed:Array Bool}{i:Nat}(hn:Ii P gl orc ops T0 m i=false):AK P gl orc ops T0 m p (listed.setIfInBounds i true)=AK P gl orc ops T0 m p listed:=by
 funext id;unfold AK;congr 1
 have:((List.range p).any fun j=>(listed.setIfInBounds i true).getD j false&&(Ii P gl orc ops T0 m j&&decide (m.boxes.length+kP P gl orc ops T0 m j=id)))=
   ((List.range p).any fun j=>listed.getD j false&&(Ii P gl orc ops T0 m j&&decide (m.boxes.length+kP P gl orc ops T0 m j=id))):=by
  congr 1;funext j;by_cases hj:j=i
  ·subst hj;simp[hn]
  rw[Qw hj]
 rw[this]
def adG{i j:Nat}(hi:Ii P gl orc ops T0 m i=true)(hj:Ii P gl orc ops T0 m j=true)(h:kP P gl orc ops T0 m i=kP P gl orc ops T0 m j):i=j:=by
 simp only[Ii,beq_iff_eq]at hi hj;rcases zzds i j with h'|h'|h'
 ·have:=VI (P:=P) (gl:=gl) (orc:=orc) (ops:=ops) (T0:=T0) (m:=m) (i:=i+1) (j:=j) h';omega
 ·exact h'
 have:=VI (P:=P) (gl:=gl) (orc:=orc) (ops:=ops) (T0:=T0) (m:=m) (i:=j+1) (j:=i) h';omega
def AL{listed:Array Bool}{i:Nat}(hn:Ii P gl orc ops T0 m i=true)(hl:listed.getD i false=false):AK P gl orc ops T0 m p listed (m.boxes.length+kP P gl orc ops T0 m i)=none:=by
 unfold AK;rw[if_neg zE,if_neg];intro h;obtain⟨j,_,h⟩:=zzbr.1 h;simp only[zzac,decide_eq_true_eq]at h;obtain⟨h1,h2,h3⟩:=h;have:=adG h2 hn zE;subst this;rw[hl]at h1;cases h1
def Nt{listed:Array Bool}{i:Nat}{cells:P2}(c9:i<p)(hsz:i<listed.size)(hn:Ii P gl orc ops T0 m i=true)(hc:(Xh P gl orc ops T0 m p).2[kP P gl orc ops T0 m i]?=some cells):
  AK P gl orc ops T0 m p (listed.setIfInBounds i true)=fun id=>if id=m.boxes.length+kP P gl orc ops T0 m i then some cells else AK P gl orc ops T0 m p listed id:=by
 funext id;by_cases aL:id=m.boxes.length+kP P gl orc ops T0 m i
 ·rw[if_pos aL];unfold AK;rw[if_neg zE,if_pos]
  ·rw[aL,zzdv];exact hc
  rw[zzbr];exact⟨i,zzau.2 c9,by rw[Xt hsz,hn];simp[aL]⟩
 rw[if_neg aL];unfold AK;congr 1
 have:((List.range p).any fun j=>(listed.setIfInBounds i true).getD j false&&(Ii P gl orc ops T0 m j&&decide (m.boxes.length+kP P gl orc ops T0 m j=id)))=
   ((List.range p).any fun j=>listed.getD j false&&(Ii P gl orc ops T0 m j&&decide (m.boxes.length+kP P gl orc ops T0 m j=id))):=by
  congr 1;funext j;by_cases hj:j=i
  ·subst hj;have:decide (m.boxes.length+kP P gl orc ops T0 m j=id)=false:=by simp;omega
   simp[this]
  rw[Qw hj]
 rw[this]
def adH{listed:Array Bool}(bC:∀i,i<p->listed.getD i false=true):AK P gl orc ops T0 m p listed=({m with boxes:=m.boxes++(Xh P gl orc ops T0 m p).2}:AM).B:=by
 funext id;unfold AK;simp only[AM.B];split
 ·rename_i h;rw[zzaj h]
 rename_i h;rw[zzao zE];split
 ·rfl
 rename_i hn;rcases zzaa (id-m.boxes.length) (Xh P gl orc ops T0 m p).2.length with hq|hq
 ·obtain⟨i,h1,h2,h3⟩:=EV (P:=P) (gl:=gl) (orc:=orc) (ops:=ops) (T0:=T0) (m:=m) (q:=id-m.boxes.length) p hq;exfalso;apply hn;rw[zzbr];exact⟨i,zzau.2 h1,by rw[bC i h1,h2];simp;omega⟩
 rw[zzar hq]
def AN{α:Type}{f g:α->Bool}:∀{l:List α}{x:α},(∀y,f y=true->g y=true)->x∈l->g x=true->f x=false->l.countP f<l.countP g
 |y::l,x,hfg,hx,hg,hf=>by
  have cm:l.countP f<=l.countP g:=List.countP_mono_left fun y _=>hfg y;rw[List.countP_cons,List.countP_cons];rcases zzaq.1 hx with rfl|hx
  ·rw[hg,hf];simp;omega
  have:=AN hfg hx hg hf;by_cases h1:f y=true
  ·rw[h1,hfg y h1];simp;omega
  have mV:f y=false:=by simpa using h1
  rw[mV];simp only[zzbh,if_false,zzcm];exact zzay this (Nat.le_add_right _ _)
def uc(ops:Array Oper)(listed:Array Bool):Nat:=(List.range ops.size).countP fun i=>!listed.getD i true
def jb{listed:Array Bool}{i:Nat}(hsz:listed.size=ops.size)(hi:i<ops.size)(hl:listed.getD i true=false):uc ops (listed.setIfInBounds i true)<uc ops listed:=by
 unfold uc;refine AN (x:=i) (fun j hj=>?_) (zzau.2 hi) (by rw[hl];rfl) (by rw[Xt zE];rfl);by_cases Ar:j=i
 ·subst Ar;rw[hl];rfl
 rw[Qw Ar]at hj;exact hj
def Qdw{listed:Array Bool}(h:uc ops listed=0){i:Nat}(hi:i<ops.size):listed.getD i true=true:=by
 unfold uc at h;have:=List.countP_eq_zero.1 h i (zzau.2 hi);simpa using this
def Xa{listed:Array Bool}{i:Nat}(hi:i<listed.size)(b b':Bool):listed.getD i b=listed.getD i b':=by simp[hi]
def Zf(h:uq ops p=true):p<=ops.size/\∀i o,ops[i]?=some o->(∀j∈Zb o,j<i)/\
  (i<p->(∀t∈o.looksAt ops,∀j,j<p->Vf ops j=some t->j≠i->j<i/\j∈Zb o)/\(∀j,j<i->∀t,Vf ops j=some t->o.dst≠some t))/\
  (p<=i->Cx ops i=true):=by
 unfold uq at h;simp only[zzac,decide_eq_true_eq,zzaw]at h;obtain⟨hp,h⟩:=h;refine⟨hp,fun i o ho=>?_⟩;have hi:i<ops.size:=(zzbv.1 ho).1;have:=h i (zzau.2 hi);simp only[ho,zzac,zzaw,decide_eq_true_eq]at this;obtain⟨h1,h2⟩:=this;refine⟨h1,fun c9=>?_,fun c9=>?_⟩
 ·rw[if_pos c9]at h2;simp only[zzac,zzaw]at h2;obtain⟨h3,h4⟩:=h2;refine⟨fun t ht j hj hd aN=>?_,fun j hj t hd cO=>?_⟩
  ·have:=h3 t ht j (zzau.2 hj);simp[hd,aN]at this;exact⟨this.1,this.2⟩
  have:=h4 j (zzau.2 hj);simp[hd,cO]at this
 rw[if_neg zE]at h2;exact h2
def EW(ops:Array Oper)(listed:Array Bool):Prop:=∀i o,listed.getD i false=true->ops[i]?=some o->∀j∈Zb o,listed.getD j false=true
def EW.set{listed:Array Bool}(h:EW ops listed){i:Nat}{o:Oper}(ho:ops[i]?=some o)(hsz:i<listed.size)(bS:∀j∈Zb o,listed.getD j false=true):EW ops (listed.setIfInBounds i true):=by
 have ah7:∀k,listed.getD k false=true->(listed.setIfInBounds i true).getD k false=true:=fun k hk=>by
  by_cases qJ:i=k
  ·subst qJ;exact Xt hsz
  rw[Qw (Ne.symm qJ)];exact hk
 intro k o' hk cO j hj;by_cases qJ:i=k
 ·subst qJ;rw[ho]at cO;cases cO;exact ah7 j (bS j hj)
 rw[Qw (Ne.symm qJ)]at hk;exact ah7 j (h k o' hk cO j hj)
def Qbg{listed:Array Bool}(zz:EW ops listed){i:Nat}{o:Oper}(ho:ops[i]?=some o)(ht:Cx ops i=true)(bS:∀j∈Zb o,listed.getD j false=true):∀(n j:Nat),j<i->i-j<=n->listed.getD j false=true
 |0,j,h1,h2=>zE
 |n+1,j,h1,h2=>by
  obtain⟨d,hd,hw⟩:=zzbr.1 (zzaw.1 ht j (zzau.2 h1));have hdl:=zzau.1 hd;unfold vZ at hw;split at hw
  ·rename_i o' cO;have hm:j∈Zb o':=by simpa using hw
   by_cases h0:d=0
   ·subst h0;rw[zzet,ho]at cO;cases cO;exact bS j hm
   exact zz (i-d) o' (Qbg zz ho ht bS n (i-d) zE zE) cO j hm
  cases hw
def ng{o:Oper}{j:Nat}:j∈Zb o<->∃e∈o.after,Region.binds .any e=true/\e.on=j:=by
 simp[Zb];constructor
 ·rintro⟨e,⟨h1,h2⟩,rfl⟩;exact⟨e,h1,h2,rfl⟩
 rintro⟨e,h1,h2,rfl⟩;exact⟨e,⟨h1,h2⟩,rfl⟩
def Uj(hc:uq ops p=true){listed:Array Bool}(hsz:listed.size=ops.size):∀(n i:Nat),i<=n->i<ops.size->listed.getD i true=false->∃j,j∈Region.ready .any ops listed
 |0,i,bP,hi,hl=>by
  obtain rfl:i=0:=zE
  have ho:ops[0]?=some ops[0]:=zzag hi;refine⟨0,mem_ready.2 ⟨hl,ops[0],ho,fun e he hb=>?_⟩⟩;have:=((Zf hc).2 0 _ ho).1 e.on (ng.2 ⟨e,he,hb,rfl⟩);omega
 |n+1,i,bP,hi,hl=>by
  by_cases hex:∃j,j<i/\listed.getD j true=false
  ·obtain⟨j,hj,JK⟩:=hex;exact Uj hc hsz n j zE zE JK
  have ho:ops[i]?=some ops[i]:=zzag hi;refine⟨i,mem_ready.2 ⟨hl,ops[i],ho,fun e he hb=>?_⟩⟩;have ai:=((Zf hc).2 i _ ho).1 e.on (ng.2 ⟨e,he,hb,rfl⟩)
  have:listed.getD e.on true=true:=by
   cases h:listed.getD e.on true with
   |true=>rfl
   |false=>exact absurd ⟨e.on,ai,h⟩ hex
  rw[Xa zE false true];exact this
def Uk(hc:uq ops p=true){listed:Array Bool}{i:Nat}(hr:i∈Region.ready .any ops listed):i<ops.size/\listed.getD i true=false/\∃o,ops[i]?=some o/\∀j∈Zb o,listed.getD j false=true:=by
 obtain⟨h1,o,ho,h2⟩:=mem_ready.1 hr;refine⟨(zzbv.1 ho).1,h1,o,ho,fun j hj=>?_⟩;obtain⟨e,he,hb,rfl⟩:=ng.1 hj;exact h2 e he hb
def Qdy{Q:PP}{K:AS->Prop}(hQ:∀γ w s a,K s->ew N w0 r an S P gl Y γ w s a->Q .normal a w)(hc:uq ops p=true):
  ∀(aT k:Nat)(listed:Array Bool)(γ:G)(w:World)(s:AS)(a:Act),p<=k->k<=ops.size->listed.size=ops.size->(∀j,j<k->listed.getD j false=true)->(∀j,k<=j->j<ops.size->listed.getD j true=false)->
   uc ops listed<=aT->Zn P gl orc Y ((ops.toList.drop k).map (Xd P ops)) s K->ew N w0 r an S P gl Y γ w s a->wpAnyIn (FW r) 0 P .any ops Q aT listed a w:=by
 intro aT;induction aT with
 |zero=>
  intro k listed γ w s a EX hk hsz hlo hhi jc h hs
  have D2:k=ops.size:=by
   rcases zzaa k ops.size with h'|h'
   ·have:=Qdw (zzfc.1 jc) h';rw[hhi k (zzab _) h']at this;cases this
   omega
  have hd:ops.toList.drop k=[]:=zzal (by simp;omega);rw[hd]at h;refine⟨?_,hQ γ w s a h hs⟩;rw[List.eq_nil_iff_forall_not_mem];intro i hi;obtain⟨ai,hu,_⟩:=Uk hc hi;have:=Qdw (zzfc.1 jc) ai;rw[hu]at this;cases this
 |succ aT ih=>
  intro k listed γ w s a EX hk hsz hlo hhi jc h hs;refine⟨fun hr=>?_,fun i hi=>?_⟩
  ·have D2:k=ops.size:=by
    rcases zzaa k ops.size with h'|h'
    ·obtain⟨j,hj⟩:=Uj hc hsz k k (zzab _) h' (hhi k (zzab _) h');rw[hr]at hj;cases hj
    omega
   have hd:ops.toList.drop k=[]:=zzal (by simp;omega);rw[hd]at h;exact hQ γ w s a h hs
  obtain⟨ai,hu,o,ho,bS⟩:=Uk hc hi
  have eM:k<=i:=by
   rcases zzaa i k with h'|h'
   ·have:=hlo i h';rw[Xa zE false true,hu]at this;cases this
   exact h'
  have qJ:i=k:=by
   rcases zzaa k i with h'|h'
   ·have zz:EW ops listed:=fun x ox hx hox j hj=>by
     have hxk:x<k:=by
      rcases zzaa x k with h1|h1
      ·exact h1
      have hxs:x<ops.size:=(zzbv.1 hox).1;rw[Xa zE false true,hhi x h1 hxs]at hx;cases hx
     have:=((Zf hc).2 x ox hox).1 j hj;exact hlo j zE
    have:=Qbg zz ho (((Zf hc).2 i o ho).2.2 zE) bS i k h' zE;rw[Xa zE false true,hhi k (zzab _) zE]at this;cases this
   omega
  subst qJ;refine wpOpIn_mono ?_ (vY ai hs h);rintro a' w' ⟨γ',s',dK,h'⟩;refine ih (i+1) _ γ' w' s' a' zE ai (by simp[hsz]) (fun j hj=>?_) (fun j dX om=>?_) ?_ h' dK
  ·rcases zzaa j i with h'|h'
   ·rw[Qw zE];exact hlo j h'
   obtain rfl:j=i:=zE
   exact Xt zE
  ·rw[Qw zE];exact hhi j zE om
  have:=jb hsz ai hu;omega
def adI{P:Program}{w:World}{γ:G}{te:TypeId}{zs:P2}{i:TypeInfo}{z:Value}{n:Nat}(I9:ak w γ zs z.cells.toList)(g5:zs.all Qx=true)(g4:zs.length=i.size):
  ct w γ (bE n zs) (madeCells z.cells (n*i.size)).toList/\∀v∈(madeCells z.cells (n*i.size)).toList,v.oneCell'=true:=by
 have gA:=Yo I9 g5;have EN:z.cells.size=zs.length:=by have:=I9.1;simp at this;omega
 refine⟨⟨by simp[Kn,size_madeCells,g4],fun k c v j1 j2=>?_⟩,fun v hv=>?_⟩
 ·obtain⟨q1,q2⟩:=kM j1
  have h0:0<zs.length:=by
   rcases zzcj zs.length with h0|h0
   ·simp[h0]at q1
   exact h0
  have ai:k%zs.length<z.cells.size:=by rw[EN];exact zzeb _ h0
  have EJ:v=z.cells[k%zs.length]:=by
   simp only[madeCells,zzca,zzga]at j2;rw[zzag (by simp;rw[<- g4];exact q1)]at j2;simp[EN]at j2;rw[<- j2,getElem!_pos z.cells _ ai]
  subst EJ;exact I9.2 _ c _ q2 (by simp[ai])
 simp[madeCells]at hv;obtain⟨k,hk,rfl⟩:=hv
 have h0:0<z.cells.size:=by
  rcases zzcj z.cells.size with h0|h0
  ·rw[h0]at EN;rw[<- g4,<- EN]at hk;simp at hk
  exact h0
 have ai:k%z.cells.size<z.cells.size:=zzeb _ h0;rw[getElem!_pos z.cells _ ai];exact gA _ zd
def akR{o:Oper}{sz bytes:Nat}{zs:P2}{x y:bD}(h:tr P o=.mks sz bytes zs x y):∃t l c te i,o.op=.makeSlice t l c/\x=aC l/\y=aC c/\P.underlying t=some (.slice te)/\P.info? te=some i/\sz=i.size/\bytes=i.bytes/\zc P te=some zs:=by
 obtain⟨dst,op,ty,pos,after,guard⟩:=o;cases op
 case makeSlice t l c=>
  simp only[tr]at h;split at h
  ·rename_i te hu;split at h
   ·split at h<;>cases h
   ·rename_i i hi _;split at h
    ·rename_i zs' hz;cases h;exact⟨t,_,_,te,i,rfl,rfl,rfl,hu,hi,rfl,rfl,hz⟩
    cases h
   cases h
  cases h
 case call c=>
  simp only[tr,Zq]at h;repeat' split at h
  all_goals cases h
 case build t parts=>
  simp only[tr,Wn]at h;repeat' split at h
  all_goals cases h
 case slice t x lo hi mx=>cases mx<;>simp only[tr]at h<;>(repeat' split at h)<;>cases h
 case makeFunc fn a b=>cases fn<;>cases h
 case next x s=>cases s<;>cases h
 case makeMap t r=>cases r<;>simp only[tr]at h<;>(repeat' split at h)<;>cases h
 case binOp op t x y t'=>
  simp only[tr,lV,Qco,zj]at h;repeat' split at h
  all_goals cases h
 all_goals first|(cases h;done)|(
  simp only[tr]at h;repeat' split at h
  all_goals cases h)
def we(c:Call)(zs:P2):Zq P c≠.alloc zs:=by
 intro h;obtain⟨callee,args,ts⟩:=c;cases callee with
 |builtin b=>cases b<;>simp only[Zq]at h<;>(repeat' split at h)<;>cases h
 |_=>cases h
def Cz(c:Call)(x:bD):Zq P c≠.box x:=by
 intro h;obtain⟨callee,args,ts⟩:=c;cases callee with
 |builtin b=>cases b<;>simp only[Zq]at h<;>(repeat' split at h)<;>cases h
 |_=>cases h
def VL{o:Oper}{zs:P2}(h:tr P o=.alloc zs):∃t,o.op=.alloc t/\zc P t=some zs:=by
 obtain⟨dst,op,ty,pos,after,guard⟩:=o;cases op
 case alloc t=>
  simp only[tr]at h;split at h
  ·rename_i zs' hz;cases h;exact⟨t,rfl,hz⟩
  cases h
 case call c=>exact absurd h (we c zs)
 case build t parts=>
  simp only[tr,Wn]at h;repeat' split at h
  all_goals cases h
 case slice t x lo hi mx=>cases mx<;>simp only[tr]at h<;>(repeat' split at h)<;>cases h
 case makeFunc fn a b=>cases fn<;>cases h
 case next x s=>cases s<;>cases h
 case makeMap t r=>cases r<;>simp only[tr]at h<;>(repeat' split at h)<;>cases h
 case binOp op t x y t'=>
  simp only[tr,lV,Qco,zj]at h;repeat' split at h
  all_goals cases h
 all_goals first|(cases h;done)|(
  simp only[tr]at h;repeat' split at h
  all_goals cases h)
def akS{o:Oper}{x:bD}(h:tr P o=.box x):∃t y,o.op=.box t y/\x=aC y:=by
 obtain⟨dst,op,ty,pos,after,guard⟩:=o;cases op
 case box t y=>cases h;exact⟨t,y,rfl,rfl⟩
 case call c=>exact absurd h (Cz c x)
 case build t parts=>
  simp only[tr,Wn]at h;repeat' split at h
  all_goals cases h
 case slice t x lo hi mx=>cases mx<;>simp only[tr]at h<;>(repeat' split at h)<;>cases h
 case makeFunc fn a b=>cases fn<;>cases h
 case next x s=>cases s<;>cases h
 case makeMap t r=>cases r<;>simp only[tr]at h<;>(repeat' split at h)<;>cases h
 case binOp op t x y t'=>
  simp only[tr,lV,Qco,zj]at h;repeat' split at h
  all_goals cases h
 all_goals first|(cases h;done)|(
  simp only[tr]at h;repeat' split at h
  all_goals cases h)
def awk(hc:uq ops p=true){listed:Array Bool}(hsz:listed.size=ops.size){i:Nat}{o:Oper}(ho:ops[i]?=some o)(c9:i<p)(hu:listed.getD i true=false)(bS:∀j∈Zb o,listed.getD j false=true)
  {t:Nat}(ht:t∈o.looksAt ops):(Xh P gl orc ops T0 m i).1.getD t .junk=At P gl orc ops T0 m p listed t:=by
 have hi:i<ops.size:=(zzbv.1 ho).1;obtain⟨hp,cW⟩:=Zf hc;unfold At;by_cases hex:∃j,j<p/\Vf ops j=some t/\j≠i
 ·obtain⟨j,hj,hd,aN⟩:=hex;obtain⟨Ar,hja⟩:=((cW i o ho).2.1 c9).1 t ht j hj hd aN
  have hw:wr ops p listed t=true:=by
   unfold wr;rw[zzbr];exact⟨j,zzau.2 hj,by rw[bS j hja,hd];simp⟩
  rw[if_pos hw]
  have:=kN (P:=P) (gl:=gl) (orc:=orc) (ops:=ops) (T0:=T0) (m:=m) (t:=t) (k:=i) (p-i) fun k dB ef EY=>by
   have hk:k<ops.size:=zE
   have EZ:ops[k]?=some ops[k]:=zzag hk;have:=((cW k _ EZ).2.1 zE).2 j zE t hd;simp[Vf,EZ]at EY;exact this EY
  rw[show i+(p-i)=p by omega]at this;exact this.symm
 have hw:wr ops p listed t=false:=by
  unfold wr;rw[zzdj];intro j hj;simp only[zzac,beq_iff_eq,not_and];intro hl hd;by_cases Ar:j=i
  ·subst Ar;rw[Xa zE false true,hu]at hl;cases hl
  exact hex ⟨j,zzau.1 hj,hd,Ar⟩
 rw[hw];simp only[zzbh,if_false];exact Qek i fun j hj hd=>hex ⟨j,zE,hd,zE⟩
def akT(hc:uq ops p=true){listed:Array Bool}(hsz:listed.size=ops.size){i:Nat}{o:Oper}(ho:ops[i]?=some o)(c9:i<p){t:Nat}:
  At P gl orc ops T0 m p (listed.setIfInBounds i true) t=if o.dst=some t/\t<T0.length then(dop P gl orc (Xd P ops o) (Xh P gl orc ops T0 m i).1 m (Xh P gl orc ops T0 m i).2).2.1 else At P gl orc ops T0 m p listed t:=by
 have hi:i<ops.size:=(zzbv.1 ho).1;obtain⟨hp,cW⟩:=Zf hc;by_cases hd:o.dst=some t
 ·have hw:wr ops p (listed.setIfInBounds i true) t=true:=by
   unfold wr;rw[zzbr];exact⟨i,zzau.2 c9,by rw[Xt zE];simp[Vf,ho,hd]⟩
  have hl:=kN (P:=P) (gl:=gl) (orc:=orc) (ops:=ops) (T0:=T0) (m:=m) (t:=t) (k:=i+1) (p-(i+1)) fun k dB ef EY=>by
   have hk:k<ops.size:=zE
   have EZ:ops[k]?=some ops[k]:=zzag hk;have:=((cW k _ EZ).2.1 zE).2 i zE t (by simp[Vf,ho,hd]);simp[Vf,EZ]at EY;exact this EY
  rw[show i+1+(p-(i+1))=p by omega]at hl;by_cases ht:t<T0.length
  ·rw[if_pos ⟨hd,ht⟩];unfold At;rw[if_pos hw,hl,Wl ho,hd];exact Wq (by rw[ja];exact ht)
  rw[if_neg (by simp[ht])]
  have h1:∀k,(Xh P gl orc ops T0 m k).1.getD t .junk=.junk:=fun k=>by
   have:=ja (P:=P) (gl:=gl) (orc:=orc) (ops:=ops) (T0:=T0) (m:=m) k;simp only[List.getD];rw[zzar zE];rfl
  have h2:T0.getD t .junk=.junk:=h1 0;unfold At;rw[h1 p,h2];simp
 rw[if_neg (by simp[hd])]
 have hw:wr ops p (listed.setIfInBounds i true) t=wr ops p listed t:=by
  unfold wr;congr 1;funext j;by_cases hj:j=i
  ·subst hj;have hb:(o.dst==some t)=false:=by simpa using hd
   simp[Vf,ho,hb]
  rw[Qw hj]
 unfold At;rw[hw]
def JL(hc:uq ops p=true){Q:PP}{listed:Array Bool}{γ:G}{w:World}{a:Act}(hI:PM N w0 r an S Y P gl orc ops T0 m p listed γ w a){i:Nat}{o:Oper}(ho:ops[i]?=some o)(c9:i<p)
  (hu:listed.getD i true=false)(bS:∀j∈Zb o,listed.getD j false=true)(bQ:(dop P gl orc (Xd P ops o) (Xh P gl orc ops T0 m i).1 m (Xh P gl orc ops T0 m i).2).1):
  wpOpIn (FW r) 0 P ops Q i (fun a' w'=>∃γ',PM N w0 r an S Y P gl orc ops T0 m p (listed.setIfInBounds i true) γ' w' a') a w:=by
 have hi:i<ops.size:=(zzbv.1 ho).1
 have zA:∀t∈o.looksAt ops,aA w γ ((Xh P gl orc ops T0 m i).1.getD t .junk) (a.tmps.getD t undef):=fun t ht=>by
  rw[awk (P:=P) (gl:=gl) (orc:=orc) (T0:=T0) (m:=m) hc hI.size ho c9 hu bS ht];exact hI.tt t
 have dm:∀x∈o.op.operands,aA w γ (ev gl (Xh P gl orc ops T0 m i).1 (aC x)) (a.eval x):=fun x hx=>by
  cases x with
  |tmp t=>exact zA t (by simp only[Oper.looksAt,zzam,zzfh];exact .inl ⟨.tmp t,Nm hx,rfl⟩)
  |const v=>exact Jz w γ v
  |func f=>exact .fn rfl (fun i c v h=>by simp at h) rfl fun i c v h=>by simp at h
  |global g=>exact(hI.g g).gp
 have hB:∀id cells,m.boxes[id]?=some cells->AK P gl orc ops T0 m p listed id=some cells:=fun id cells h=>adD h
 have fin:∀{v:Value}{w':World}{γ':G},Ev w γ w' γ'->au N w0 an γ' w' (AK P gl orc ops T0 m p (listed.setIfInBounds i true)) m.L->
   aA w' γ' (dop P gl orc (Xd P ops o) (Xh P gl orc ops T0 m i).1 m (Xh P gl orc ops T0 m i).2).2.1 v->∃γ',PM N w0 r an S Y P gl orc ops T0 m p (listed.setIfInBounds i true) γ' w' (a.put o.dst v):=fun{v w' γ'}he hm hr=>by
  refine⟨γ',by simp[hI.size],fun j dX om=>by rw[Qw zE];exact hI.tail j dX om,EW.set hI.clo ho (by rw[hI.size];exact hi) bS,hm,hI.ls.mono he,hI.rd.aU he.cH,?_,fun t=>?_,?_,fun g=>(hI.g g).mono he.cU,hI.y.mono he.cH,hI.e.trans he.cH⟩
  ·cases hd:o.dst<;>simp[Act.put,hI.tl]
  ·rw[akT hc hI.size ho c9];by_cases hd:o.dst=some t
   ·by_cases ht:t<T0.length
    ·rw[if_pos ⟨hd,ht⟩,hd];have:(a.put (some t) v).tmps.getD t undef=v:=by simp[Act.put,hI.tl,ht]
     rw[this];exact hr
    rw[if_neg (by simp[ht]),hd];have:(a.put (some t) v).tmps.getD t undef=a.tmps.getD t undef:=by simp[Act.put,hI.tl,ht]
    rw[this];exact(hI.tt t).mono he
   rw[if_neg (by simp[hd])]
   have:(a.put o.dst v).tmps.getD t undef=a.tmps.getD t undef:=by
    cases zo:o.dst with
    |none=>rfl
    |some d=>simp only[Act.put];simp;rw[zzco (by rintro rfl;exact hd zo)]
   rw[this];exact(hI.tt t).mono he
  cases hd:o.dst<;>exact hI.d.aU he.cH
 have dO:=Wl (P:=P) (gl:=gl) (orc:=orc) (T0:=T0) (m:=m) ho
 have PN:∀cells,(dop P gl orc (Xd P ops o) (Xh P gl orc ops T0 m i).1 m (Xh P gl orc ops T0 m i).2).2.2=(Xh P gl orc ops T0 m i).2++[cells]->Ii P gl orc ops T0 m i=true/\(Xh P gl orc ops T0 m p).2[kP P gl orc ops T0 m i]?=some cells:=fun cells h=>by
  refine⟨by simp only[Ii,kP,dO,h];simp,?_⟩;have:=VJ (P:=P) (gl:=gl) (orc:=orc) (ops:=ops) (T0:=T0) (m:=m) (i:=i+1) (p-(i+1)) (q:=kP P gl orc ops T0 m i) (c:=cells) (by rw[dO];simp only[h,kP];simp);rwa [show i+1+(p-(i+1))=p by omega]at this
 have oM:(dop P gl orc (Xd P ops o) (Xh P gl orc ops T0 m i).1 m (Xh P gl orc ops T0 m i).2).2.2=(Xh P gl orc ops T0 m i).2->AK P gl orc ops T0 m p (listed.setIfInBounds i true)=AK P gl orc ops T0 m p listed:=fun h=>
  VK (by simp only[Ii,kP,dO,h];simp)
 have tL:listed.getD i false=false:=by rw[Xa (by rw[hI.size];exact hi) false true];exact hu
 have box:∀{cells:P2}{arr:P1}{te:TypeId},ak w γ cells arr.toList->cells.all Qx=true->
   (dop P gl orc (Xd P ops o) (Xh P gl orc ops T0 m i).1 m (Xh P gl orc ops T0 m i).2).2=(.ptr (m.boxes.length+(Xh P gl orc ops T0 m i).2.length) 0,(Xh P gl orc ops T0 m i).2++[cells])->
   (execOp a.eval o).run P w=.ok (.value (.pointer (some ⟨w.heap.size,0,none⟩))) (w.alloc (.cells arr te))->
   o.wpIn (FW r) 0 P a w (fun a' w'=>∃γ',PM N w0 r an S Y P gl orc ops T0 m p (listed.setIfInBounds i true) γ' w' a') Q:=fun{cells arr te}hr bL hd aZ=>by
  obtain⟨qB,zn⟩:=PN cells (by rw[hd]);have aL:=AL (p:=p) qB tL;refine Zi aZ (fin (hI.mm.dw _ aL _) ?_ ?_)
  ·rw[Nt c9 (by rw[hI.size];exact hi) qB zn];exact hI.mm.eZ _ aL hr.toP (Yo hr bL)
  rw[hd];exact .ptr (by simp[G.box,kP])
 simp only[wpOpIn,ho];cases hg:o.guard with
 |none=>
  have hw:Region.wanted o (yielded ops a.tmps)=true:=by simp[Region.wanted,hg]
  rw[if_pos hw];have e1:(Xd P ops o).guard=none:=by simp[Xd,hg]
  cases PO:tr P o with
  |alloc zs=>
   have hd:dop P gl orc (Xd P ops o) (Xh P gl orc ops T0 m i).1 m (Xh P gl orc ops T0 m i).2=(zs.all Qx=true,.ptr (m.boxes.length+(Xh P gl orc ops T0 m i).2.length) 0,(Xh P gl orc ops T0 m i).2++[zs]):=by
    have e2:(Xd P ops o).op=.alloc zs:=PO;simp only[dop,e1,e2]
   rw[hd]at bQ;obtain⟨t,VM,hz⟩:=VL PO;obtain⟨i',z,di,iW,hr⟩:=iV (w:=w) (γ:=γ) hz;refine box (te:=t) hr bQ (by rw[hd]) ?_;obtain⟨d',op',ty',aqP,af',gu'⟩:=o;simp only at VM;subst VM;simp[execOp,Instr.alloc,zeroValue,typeInfo,di,iW,newVar,newRow]
  |box x=>
   have hd:dop P gl orc (Xd P ops o) (Xh P gl orc ops T0 m i).1 m (Xh P gl orc ops T0 m i).2=(bare (ev gl (Xh P gl orc ops T0 m i).1 x)=true/\(cellsOf (ev gl (Xh P gl orc ops T0 m i).1 x)).all Qx=true,
     .ptr (m.boxes.length+(Xh P gl orc ops T0 m i).2.length) 0,(Xh P gl orc ops T0 m i).2++[cellsOf (ev gl (Xh P gl orc ops T0 m i).1 x)]):=by
    have e2:(Xd P ops o).op=.box x:=PO;simp only[dop,e1,e2]
   rw[hd]at bQ;obtain⟨t,y,VM,rfl⟩:=akS PO;have hry:=dm y (by rw[VM];simp[Op.operands]);refine box (te:=t) (kK hry bQ.1) bQ.2 (by rw[hd]) ?_;obtain⟨d',op',ty',aqP,af',gu'⟩:=o;simp only at VM;subst VM;simp[execOp,Instr.box,newVar,newRow]
  |mks sz bytes zs x y=>
   obtain⟨t,l,c,te,i',VM,rfl,rfl,hu,di,rfl,rfl,Cn⟩:=akR PO;have e2:(Xd P ops o).op=.mks i'.size i'.bytes zs (aC l) (aC c):=PO;simp only[dop,e1,e2]at bQ PN;have hl:=dm l (by rw[VM];simp[Op.operands]);have hc:=dm c (by rw[VM];simp[Op.operands]);split at bQ
   case h_2=>exact bQ.elim
   rename_i k1 n1 k2 n2 q1 q2;rw[q1]at hl;rw[q2]at hc;obtain⟨⟨g0,g1,g2,g3⟩,g4,g5⟩:=bQ;obtain⟨i2,z,hi2,hz,I9⟩:=iV (w:=w) (γ:=γ) Cn;rw[di]at hi2;cases hi2
   have hd:dop P gl orc (Xd P ops o) (Xh P gl orc ops T0 m i).1 m (Xh P gl orc ops T0 m i).2=((0<=n1/\n1<=n2/\i'.bytes*n2<=281474976710656/\n2<=9223372036854775807)/\zs.length=i'.size/\zs.all Qx=true,.bs (m.boxes.length+(Xh P gl orc ops T0 m i).2.length) 0 n1.toNat i'.size,(Xh P gl orc ops T0 m i).2++[bE n2.toNat zs]):=by
    simp only[dop,e1,e2,q1,q2]
   have aZ:=run_make (P:=P) w t te i' z hu di hz k1 k2 n1 n2 g0 zE g2 g3;obtain⟨Sd,oF⟩:=adI (P:=P) (te:=te) (n:=n2.toNat) I9 g5 g4;obtain⟨qB,zn⟩:=PN (bE n2.toNat zs) (by simp only[q1,q2]);have aL:=AL (p:=p) qB tL
   have aqQ:(execOp a.eval o).run P w=.ok (.value (.slice (some ⟨w.heap.size,0,none⟩) n1.toNat n2.toNat)) (w.alloc (.cells (madeCells z.cells (n2.toNat*i'.size)) te)):=by
    obtain⟨d',op',ty',aqP,af',gu'⟩:=o;simp only at VM;subst VM;simp[execOp,hl.aI,hc.aI,aZ]
   refine Zi aqQ (fin (hI.mm.dw _ aL _) ?_ ?_)
   ·rw[Nt c9 (by rw[hI.size];exact hi) qB zn];exact hI.mm.eZ _ aL Sd oF
   rw[hd];exact .bs (arr:=madeCells z.cells (n2.toNat*i'.size)) (e:=te) (by simp[G.box,kP]) zE (by show(w.heap.push _)[w.heap.size]?=_;simp) (by rw[zzbs,size_madeCells];exact zzab _)
  |_=>
   have hd:dop P gl orc (Xd P ops o) (Xh P gl orc ops T0 m i).1 m (Xh P gl orc ops T0 m i).2=((rop P gl orc (ev gl (Xh P gl orc ops T0 m i).1) m o.dst (tr P o)).1,(rop P gl orc (ev gl (Xh P gl orc ops T0 m i).1) m o.dst (tr P o)).2,(Xh P gl orc ops T0 m i).2):=by
    have e2:(Xd P ops o).op=tr P o:=rfl;rw[PO]at e2;simp only[dop,e1,e2,PO];rfl
   rw[hd]at bQ;have eP:=oM (by rw[hd]);rw[hd,eP]at fin;exact Qcw hI.mm hB hI.g dm bQ r _ Q fun v w' γ' h1 h2 h3=>fin h1 h2 h3
 |some q=>
  obtain⟨j,want⟩:=q;have e1:(Xd P ops o).guard=some ((ops[j]?).bind (·.dst),want):=by simp[Xd,hg]
  cases hj:(ops[j]?).bind (·.dst)with
  |none=>
   rw[hj]at e1;simp only[dop,e1]at bQ
  |some t=>
   rw[hj]at e1;have lZ:t∈o.looksAt ops:=by simp[Oper.looksAt,hg,hj]
   have aX:=zA t lZ;cases lH:D3 want ((Xh P gl orc ops T0 m i).1.getD t .junk)with
   |none=>simp only[dop,e1,lH]at bQ
   |some gw=>
    have hd:dop P gl orc (Xd P ops o) (Xh P gl orc ops T0 m i).1 m (Xh P gl orc ops T0 m i).2=(gok gl (Xh P gl orc ops T0 m i).1 gw (gxs (tr P o) (Xd P ops o).xs)/\(gw=true->(rop P gl orc (evG gl (Xh P gl orc ops T0 m i).1 (tr P o)) m o.dst (tr P o)).1),
      .gd gw (rop P gl orc (evG gl (Xh P gl orc ops T0 m i).1 (tr P o)) m o.dst (tr P o)).2,(Xh P gl orc ops T0 m i).2):=by
     simp only[dop,e1,lH];rfl
    rw[hd]at bQ;have eP:=oM (by rw[hd]);rw[hd,eP]at fin
    have VG:Region.wanted o (yielded ops a.tmps)=gw:=by
     have hyv:∀b,a.tmps.getD t undef=.bool b->yielded ops a.tmps j=some b:=fun b hb=>by
      have bZ:t<a.tmps.size:=by
       rcases zzaa t a.tmps.size with h|h
       ·exact h
       simp[zzbo h,undef]at hb
      simp[bZ]at hb;simp only[yielded,hj,zzcu,zzag bZ,hb]
     have hyu:a.tmps.getD t undef=undef->yielded ops a.tmps j=none:=fun hb=>by
      rcases zzaa t a.tmps.size with bZ|h
      ·simp[bZ]at hb;simp only[yielded,hj,zzcu,zzag bZ,hb];rfl
      simp only[yielded,hj,zzcu,zzbo h]
     generalize(Xh P gl orc ops T0 m i).1.getD t .junk=gv at lH aX;cases gv with
     |bool g=>
      simp only[D3,Option.some.injEq]at lH;subst lH;simp only[Region.wanted,hg,hyv g aX.bu];cases g<;>cases want<;>rfl
     |gd d x=>
      cases d with
      |false=>
       simp only[Region.wanted,hg,hyu aX.Ni];cases x<;>simp[D3]at lH<;>subst lH<;>cases want<;>rfl
      |true=>
       cases x<;>simp[D3]at lH;rename_i b;subst lH;simp only[Region.wanted,hg,hyv b (aX.Ci rfl).bu];cases b<;>cases want<;>rfl
     |_=>simp[D3]at lH
    rw[VG];obtain⟨h1,h2⟩:=bQ;cases AJ:gw with
    |true=>
     rw[AJ]at h1 h2 fin;simp only[if_true];refine Qcw (e:=evG gl (Xh P gl orc ops T0 m i).1 (tr P o)) hI.mm hB hI.g (fun x hx=>?_) (h2 rfl) r _ Q fun v w' γ' q1 q2 q3=>fin q1 q2 (.gd (fun _=>q3) (fun h=>by cases h));unfold evG;cases gY:rawOp (tr P o)with
     |true=>exact dm x hx
     |false=>
      refine AI (dm x hx) fun g' b hgb=>Cw h1 (aC x) ?_ g' b hgb rfl;simp only[gxs,gY,cond_false];simp[Xd,hg];exact⟨x,Nm hx,rfl⟩
    |false=>
     rw[AJ]at fin;simp only[zzbh,if_false];exact⟨fun _ _=>trivial,fin (Ev.refl _ _) hI.mm (.gd (fun h=>by cases h) (fun _=>rfl))⟩
def E3{Q:PP}{K:AS->Prop}(hQ:∀γ w s a,K s->ew N w0 r an S P gl Y γ w s a->Q .normal a w)(hc:uq ops p=true)
  (akU:∀i o,i<p->ops[i]?=some o->(dop P gl orc (Xd P ops o) (Xh P gl orc ops T0 m i).1 m (Xh P gl orc ops T0 m i).2).1)
  (aqR:Zn P gl orc Y ((ops.toList.drop p).map (Xd P ops)) ⟨(Xh P gl orc ops T0 m p).1,{m with boxes:=m.boxes++(Xh P gl orc ops T0 m p).2}⟩ K):
  ∀(aT:Nat)(listed:Array Bool)(γ:G)(w:World)(a:Act),PM N w0 r an S Y P gl orc ops T0 m p listed γ w a->uc ops listed<=aT->wpAnyIn (FW r) 0 P .any ops Q aT listed a w:=by
 obtain⟨hp,cW⟩:=Zf hc
 have full:∀(aT:Nat)(listed:Array Bool)(γ:G)(w:World)(a:Act),PM N w0 r an S Y P gl orc ops T0 m p listed γ w a->uc ops listed<=aT->(∀i,i<p->listed.getD i false=true)->wpAnyIn (FW r) 0 P .any ops Q aT listed a w:=by
  intro aT listed γ w a hI jc bC;refine Qdy hQ hc aT p listed γ w _ a (zzab _) hp hI.size bC hI.tail jc aqR ⟨?_,hI.ls,hI.rd,⟨?_,fun t x v hx hv=>?_⟩,hI.d,hI.g,hI.y,hI.e⟩
  ·have:=hI.mm;rw[adH bC]at this;exact this
  ·simp[ja,hI.tl]
  have h1:=hI.tt t
  have hAt:At P gl orc ops T0 m p listed t=x:=by
   have iD:(Xh P gl orc ops T0 m p).1.getD t .junk=x:=by simp only at hx;simp[List.getD,hx]
   unfold At;split
   ·exact iD
   rename_i hw;rw[<- iD];refine(Qek p fun j hj hd=>hw ?_).symm;unfold wr;rw[zzbr];exact⟨j,zzau.2 hj,by rw[bC j hj,hd];simp⟩
  rw[hAt]at h1;have:a.tmps.getD t undef=v:=by simp at hv;simp[hv]
  rwa [this]at h1
 intro aT;induction aT with
 |zero=>
  intro listed γ w a hI jc
  exact full 0 listed γ w a hI jc fun i hi=>by
   rw[Xa (by rw[hI.size];omega) false true];exact Qdw (zzfc.1 jc) zE
 |succ aT ih=>
  intro listed γ w a hI jc;by_cases bC:∀i,i<p->listed.getD i false=true
  ·exact full (aT+1) listed γ w a hI jc bC
  have hex:∃k,k<p/\listed.getD k true=false:=by
   refine Classical.byContradiction fun hn=>bC fun i hi=>?_;rw[Xa (by rw[hI.size];omega) false true];cases hl:listed.getD i true with
   |true=>rfl
   |false=>exact absurd ⟨i,hi,hl⟩ hn
  obtain⟨k,hk,VN⟩:=hex;refine⟨fun hr=>?_,fun i hi=>?_⟩
  ·obtain⟨j,hj⟩:=Uj hc hI.size k k (zzab _) zE VN;rw[hr]at hj;cases hj
  obtain⟨ai,hu,o,ho,bS⟩:=Uk hc hi
  have c9:i<p:=by
   rcases zzaa i p with h|h
   ·exact h
   have:=Qbg hI.clo ho ((cW i o ho).2.2 h) bS i k zE zE;rw[Xa (by rw[hI.size];omega) false true,VN]at this;cases this
  refine wpOpIn_mono ?_ (JL hc hI ho c9 hu bS (akU i o c9 ho));rintro a' w' ⟨γ',lI⟩;refine ih _ γ' w' a' lI ?_;have:=jb hI.size ai hu;omega
def wg{Q:PP}{K:AS->Prop}{γ:G}{w:World}{s:AS}{a:Act}(hQ:∀γ w s a,K s->ew N w0 r an S P gl Y γ w s a->Q .normal a w)(hc:uq ops p=true)
  (h:Sf P gl orc Y ((ops.toList.drop p).map (Xd P ops)) K ((ops.toList.take p).map (Xd P ops)) s.T s.m [])(hs:ew N w0 r an S P gl Y γ w s a):
  wpAnyIn (FW r) 0 P .any ops Q ops.size (Array.replicate ops.size false) a {w with drawn:=w.drawn+1}:=by
 have hp:=(Zf hc).1;obtain⟨h1,h2⟩:=Nr (P:=P) (gl:=gl) (orc:=orc) (T0:=s.T) (m:=s.m) ((ops.toList.drop p).map (Xd P ops)) K hp p 0 zd (by rw[zzd];exact h);refine E3 (T0:=s.T) (m:=s.m) hQ hc (fun i o hi ho=>h1 i o (zzbp _) hi ho) h2 ops.size _ γ w.drew a ⟨zd,fun i _ hi=>by simp[hi],fun i o h=>(by rcases zzaa i ops.size with h'|h'<;>simp[h']at h),?_,hs.ls.mono (Ev.drew w γ),hs.rd.aU (Ev.drew w γ).cH,?_,fun t=>?_,hs.d.aU (Ev.drew w γ).cH,fun g=>(hs.g g).mono (Ev.drew w γ).cU,hs.y.mono (Ev.drew w γ).cH,hs.e.trans (Ev.drew w γ).cH⟩ ?_
 ·have hB:AK P gl orc ops s.T s.m p (Array.replicate ops.size false)=s.m.B:=by
   funext id;unfold AK;simp only[AM.B];split
   ·rfl
   rename_i aL;rw[if_neg,zzar zE];rw[zzbr];rintro⟨j,_,hj⟩
   have:(Array.replicate ops.size false).getD j false=false:=by
    rcases zzaa j ops.size with h|h<;>simp[h]
   rw[this]at hj;cases hj
  rw[hB];exact hs.m.drew
 ·have:=hs.t.1;simp at this;omega
 ·have hw:wr ops p (Array.replicate ops.size false) t=false:=by
   unfold wr;rw[zzdj];intro j _
   have:(Array.replicate ops.size false).getD j false=false:=by
    rcases zzaa j ops.size with h|h<;>simp[h]
   rw[this];simp
  unfold At;rw[hw];simp only[zzbh,if_false];have:=(hs.t.mono (Ev.drew w γ)).get t;simpa[List.getD]using this
 unfold uc;exact zzbb (zzeu) zd
end
open Go Go.RowKit
def VO(o:Oper):Bool:=o.guard.isNone
def aqS(f:FuncId):Bool:=f==229||f==169||f==114||f==43||f==44
def ah8(o:Oper):Bool:=match o.op with
 |.call ⟨.value (.tmp _),_,_⟩=>o.dst.isSome
 |.call ⟨.value (.func f),_,_⟩=>o.dst.isSome&&aqS f
 |.call ⟨.builtin .copy,_,_⟩=>true
 |.call ⟨.builtin .append,_,_⟩=>o.dst.isSome
 |.store _ _ _=>true
 |.mapUpdate _ _ _ _=>true
 |.mapEntry _ _ _=>true
 |.entryStore _ _ _ _=>true
 |_=>false
def wj(o:Oper):Bool:=ah8 o||(match o.op with
 |.alloc _|.box _ _|.makeMap _ _|.range _ _=>true
 |_=>false)
def aqT(f:FuncId):Bool:=f==0
def aqU(o:Oper):Bool:=match o.op with
 |.call ⟨.value (.func f),_,_⟩=>aqT f
 |_=>false
def dD(ops:Array Oper)(p:Oper->Bool)(i:Nat):Bool:=match ops[i]? with
 |some o=>p o
 |none=>false
def PR(ops:Array Oper):Pa->Bool
 |j::j'::r=>(match ops[j']? with|some o=>(Zb o).contains j|none=>false)&&PR ops (j'::r)
 |_=>true
def Qei(ops:Array Oper)(p:Nat):Option (Pa):=
 let js:=(List.range p).filter (dD ops wj)
 if(List.range p).any (dD ops ah8)&&PR ops js&&((List.range p).all (dD ops VO)||(List.range p).any (dD ops aqU))&&(List.range p).all (fun i=>ops[i]?.isSome)then some js else none
inductive Fg
 |eff
 |pre
 |oth
def E4(ops:Array Oper):Nat->Pa->Pa
 |0,s=>s
 |k+1,s=>bif s.any fun i=>vZ ops i k then E4 ops k (k::s)else E4 ops k s
def ur{ops:Array Oper}{listed:Array Bool}(h:EW ops listed):∀(k:Nat)(s:Pa),(∀i∈s,listed.getD i false=true)->∀i∈E4 ops k s,listed.getD i false=true
 |0,_,hs,i,hi=>hs i hi
 |k+1,s,hs,i,hi=>by
  simp only[E4]at hi;cases hc:s.any fun i=>vZ ops i k with
  |false=>rw[hc]at hi;exact ur h k s hs i hi
  |true=>
   rw[hc]at hi;refine ur h k (k::s) (fun j hj=>?_) i hi;rcases zzaq.1 hj with rfl|hj
   ·obtain⟨x,hx,hw⟩:=zzbr.1 hc;unfold vZ at hw;split at hw
    ·rename_i o ho;exact h x o (hs x hx) ho j (Nm hw)
    cases hw
   exact hs j hj
def jd(ops:Array Oper)(js:Pa)(i:Nat):Bool:=match js with
 |j::_=>(E4 ops j [j]).contains i
 |[]=>false
def Vo(ops:Array Oper)(js:Pa)(i:Nat):Fg:=bif js.contains i then .eff else bif jd ops js i then .pre else .oth
def flags(ops:Array Oper)(p:Nat)(js:Pa):List Fg:=(List.range p).map (Vo ops js)
section
variable (P:Program) (gl:Nat->AV) (orc:UV) (Y:YT)
def memEff:aF->Bool
 |.store _ _ _|.cpy _ _ _|.mupd _ _ _ _|.ment _ _ _ _|.esto _ _ _|.alloc _|.box _|.mkmap _|.rng _|.app _ _ _ _=>true
 |_=>false
def effV(v:AV):aF->AV
 |.alloc _|.box _|.mkmap _|.rng _|.ment _ _ _ _|.app _ _ _ _=>v
 |_=>.junk
def effC(e:bD->AV)(m:AM)(dst:Option Nat)(av:AV)(m1:AM):aF->Prop
 |.call f args=>(match e f with
  |.fn g first cap=>aB P gl Y g (first++args.map e++cap) m (fun x m2=>x=av/\m2=m1)
  |_=>False)
 |so=>memEff so=true/\(sop P gl orc e m dst so).1/\av=effV (sop P gl orc e m dst so).2.1 so/\m1=(sop P gl orc e m dst so).2.2
def Zx(T:P2)(o:SO):Prop:=match o.guard with
 |none=>True
 |some (some t,b)=>T.getD t .junk=.bool b
 |some (none,_)=>False
def nh(l2:List SO)(K:AS->Prop)(m:AM)(ms:QP):List SO->List Fg->QP->AM->P2->Prop
 |[],_,q,mc,T=>q=[]/\Zn P gl orc Y l2 ⟨T,mc⟩ K
 |_::_,[],_,_,_=>False
 |o::r,.eff::fl,q,mc,T=>(match q with
  |[]=>False
  |x::q=>Zx T o/\effC P gl orc Y (ev gl T) mc o.dst x.1 x.2 o.op/\nh l2 K m ms r fl q x.2 (put T o.dst x.1))
 |o::r,.pre::fl,q,mc,T=>Zx T o/\(rop P gl orc (ev gl T) m o.dst o.op).1/\nh l2 K m ms r fl q mc (put T o.dst (rop P gl orc (ev gl T) m o.dst o.op).2)
 |o::r,.oth::fl,q,mc,T=>Zx T o/\(rop P gl orc (ev gl T) m o.dst o.op).1/\(∀x∈ms,rop P gl orc (ev gl T) x.2 o.dst o.op=rop P gl orc (ev gl T) m o.dst o.op)/\nh l2 K m ms r fl q mc (put T o.dst (rop P gl orc (ev gl T) m o.dst o.op).2)
def rdC(e:bD->AV)(m:AM)(dst:Option Nat)(x:AM):aF->Prop
 |.call f args=>(match e f with
  |.fn g first cap=>aB P gl Y g (first++args.map e++cap) x (fun y m2=>y=(rop P gl orc e m dst (.call f args)).2/\m2=x)
  |_=>False)
 |_=>False
def aqV(m:AM)(ms:QP)(e:bD->AV)(dst:Option Nat)(so:aF):Prop:=
 ((rop P gl orc e m dst so).1/\∀x∈ms,rop P gl orc e x.2 dst so=rop P gl orc e m dst so)\/(rdC P gl orc Y e m dst m so/\∀x∈ms,rdC P gl orc Y e m dst x.2 so)
def gZ(l2:List SO)(K:AS->Prop)(m:AM)(ms:QP):List SO->List Fg->QP->AM->P2->Prop
 |[],_,q,mc,T=>q=[]/\Zn P gl orc Y l2 ⟨T,mc⟩ K
 |_::_,[],_,_,_=>False
 |o::r,.eff::fl,q,mc,T=>(match q with
  |[]=>False
  |x::q=>Zx T o/\effC P gl orc Y (ev gl T) mc o.dst x.1 x.2 o.op/\gZ l2 K m ms r fl q x.2 (put T o.dst x.1))
 |o::r,.pre::fl,q,mc,T=>Zx T o/\(rop P gl orc (ev gl T) m o.dst o.op).1/\gZ l2 K m ms r fl q mc (put T o.dst (rop P gl orc (ev gl T) m o.dst o.op).2)
 |o::r,.oth::fl,q,mc,T=>Zx T o/\aqV P gl orc Y m ms (ev gl T) o.dst o.op/\gZ l2 K m ms r fl q mc (put T o.dst (rop P gl orc (ev gl T) m o.dst o.op).2)
def Nu{l2:List SO}{K:AS->Prop}{m:AM}{ms:QP}:∀{l:List SO}{fl:List Fg}{q:QP}{mc:AM}{T:P2},nh P gl orc Y l2 K m ms l fl q mc T->gZ P gl orc Y l2 K m ms l fl q mc T
 |[],fl,q,mc,T,h=>by simp only[nh]at h;simp only[gZ];exact h
 |_::_,[],_,_,_,h=>by simp only[nh]at h
 |o::r,.eff::fl,[],mc,T,h=>by simp only[nh]at h
 |o::r,.eff::fl,x::q,mc,T,h=>by
  simp only[nh]at h;simp only[gZ];exact⟨h.1,h.2.1,Nu h.2.2⟩
 |o::r,.pre::fl,q,mc,T,h=>by
  simp only[nh]at h;simp only[gZ];exact⟨h.1,h.2.1,Nu h.2.2⟩
 |o::r,.oth::fl,q,mc,T,h=>by
  simp only[nh]at h;simp only[gZ];exact⟨h.1,.inl ⟨h.2.1,h.2.2.1⟩,Nu h.2.2.2⟩
end
def E5:QQ->Nat->Option AV
 |[],_=>none
 |(k,a)::r,d=>if k=d then some a else E5 r d
def Qz:Pa->QP->QQ
 |j::js,x::q=>(j,x.1)::Qz js q
 |_,_=>[]
def Yz(listed:Array Bool):AM->Pa->QP->AM
 |m,j::js,x::q=>if listed.getD j false then Yz listed x.2 js q else m
 |m,_,_=>m
def Vy(m:AM)(ms:QP):Nat->AM
 |0=>m
 |a+1=>(ms.getD a (.junk,m)).2
def chn(listed:Array Bool):Pa->Prop
 |j::j'::r=>(listed.getD j' false=true->listed.getD j false=true)/\chn listed (j'::r)
 |_=>True
section
variable {N:Nat} {w0:eS} {r:Option Nat} {an:Nat->Nat->Prop} {S:G×World} {Y:YT} {P:Program} {gl:Nat->AV} {orc:UV} {ops:Array Oper} {T0:P2} {m:AM} {p:Nat}
def wk(listed:Array Bool):∀(js:Pa)(ms:QP)(m:AM),Yz listed m js ms=m\/∃x∈ms,Yz listed m js ms=x.2
 |[],ms,m=>.inl (by cases ms<;>rfl)
 |j::js,[],m=>.inl rfl
 |j::js,x::q,m=>by
  simp only[Yz];split
  ·rcases wk listed js q x.2 with h|⟨y,hy,h⟩
   ·exact .inr ⟨x,zd,h⟩
   exact .inr ⟨y,by simp[hy],h⟩
  exact .inl rfl
def Ux{listed:Array Bool}:∀{js:Pa}{ms:QP}{m:AM}{a:Nat},js.length=ms.length->a<=js.length->(∀b j,b<a->js[b]?=some j->listed.getD j false=true)->(∀j,js[a]?=some j->listed.getD j false=false)->
  Yz listed m js ms=Vy m ms a
 |[],[],m,a,_,ha,_,_=>by
  have:a=0:=by simpa using ha
  subst this;rfl
 |[],_::_,_,_,h,_,_,_=>by simp at h
 |_::_,[],_,_,h,_,_,_=>by simp at h
 |j::js,x::q,m,0,_,_,_,h=>by
  simp only[Yz,Vy];rw[h j rfl];rfl
 |j::js,x::q,m,a+1,hl,ha,h1,h2=>by
  simp only[Yz];rw[h1 0 j zE rfl,if_pos rfl];rw[Ux (a:=a) (Nm hl) (Nm ha) (fun b j hb hj=>h1 (b+1) j zE (Nm hj)) (fun j hj=>h2 j (Nm hj))];cases a with
  |zero=>rfl
  |succ a=>
   simp only[Vy,List.getD_cons_succ];have:a<q.length:=by simp at ha hl;omega
   simp[List.getD,this]
def qK{listed Nv:Array Bool}:∀{js:Pa}{ms:QP}{m:AM},(∀j∈js,Nv.getD j false=listed.getD j false)->Yz Nv m js ms=Yz listed m js ms
 |[],_,_,_=>rfl
 |_::_,[],_,_=>rfl
 |j::js,x::q,m,h=>by
  simp only[Yz];rw[h j zd,qK fun j hj=>h j (by simp[hj])]
def Qbt{listed:Array Bool}:∀{js:Pa},chn listed js->∀{a b j j':Nat},a<b->js[a]?=some j->js[b]?=some j'->listed.getD j' false=true->listed.getD j false=true
 |[],_,a,b,j,j',_,h,_,_=>by simp at h
 |[x],_,a,b,j,j',hab,h,h',_=>by
  have:=(zza.1 h').1;simp at this;omega
 |x::y::r,hc,0,1,j,j',_,h,h',hl=>by
  simp at h h';subst h;subst h';exact hc.1 hl
 |x::y::r,hc,0,b+2,j,j',_,h,h',hl=>by
  simp at h;subst h;exact hc.1 (Qbt hc.2 (a:=0) (b:=b+1) zE rfl (Nm h') hl)
 |x::y::r,hc,a+1,b+1,j,j',hab,h,h',hl=>Qbt hc.2 (a:=a) (b:=b) zE (Nm h) (Nm h') hl
def uu{listed:Array Bool}{i:Nat}:∀{js:Pa},chn listed js->(∀a j,js[a]?=some j->js[a+1]?=some i->listed.getD j false=true)->chn (listed.setIfInBounds i true) js
 |[],_,_=>trivial
 |[_],_,_=>trivial
 |j::j'::r,hc,h=>by
  refine⟨fun hl=>?_,uu hc.2 fun a x hx iD=>h (a+1) x (Nm hx) (Nm iD)⟩
  have mono:∀k,listed.getD k false=true->(listed.setIfInBounds i true).getD k false=true:=fun k hk=>by
   by_cases qJ:i=k
   ·subst qJ
    have:i<listed.size:=by
     rcases zzaa i listed.size with h|h
     ·exact h
     simp[zzbk.2 h]at hk
    exact Xt this
   rw[Qw (Ne.symm qJ)];exact hk
  by_cases eH:i=j'
  ·subst eH;exact mono j (h 0 j rfl rfl)
  rw[Qw (Ne.symm eH)]at hl;exact mono j (hc.1 hl)
def Uc{l:Pa}(h:l.Nodup){a b i:Nat}(h1:l[a]?=some i)(h2:l[b]?=some i):a=b:=by
 obtain⟨ha,ea⟩:=zza.1 h1;obtain⟨hb,eb⟩:=zza.1 h2;rcases zzds a b with h'|h'|h'
 ·exact absurd (ea.trans eb.symm) (zzdp.1 h a b ha hb h')
 ·exact h'
 exact absurd (eb.trans ea.symm) (zzdp.1 h b a hb ha h')
def tM(P:Program)(gl:Nat->AV)(orc:UV)(ops:Array Oper)(m:AM)(L:QQ)(i:Nat)(T:P2):AV:=match E5 L i with
 |some av=>av
 |none=>match ops[i]? with
  |some o=>(rop P gl orc (ev gl T) m o.dst (tr P o)).2
  |none=>.junk
def bI(P:Program)(gl:Nat->AV)(orc:UV)(ops:Array Oper)(T0:P2)(m:AM)(L:QQ):Nat->P2
 |0=>T0
 |k+1=>match ops[k]? with
  |some o=>put (bI P gl orc ops T0 m L k) o.dst (tM P gl orc ops m L k (bI P gl orc ops T0 m L k))
  |none=>bI P gl orc ops T0 m L k
def Kq{L:QQ}{k:Nat}{o:Oper}(h:ops[k]?=some o):bI P gl orc ops T0 m L (k+1)=put (bI P gl orc ops T0 m L k) o.dst (tM P gl orc ops m L k (bI P gl orc ops T0 m L k)):=by
 simp only[bI,h]
def Qaz{L:QQ}:∀k,(bI P gl orc ops T0 m L k).length=T0.length
 |0=>rfl
 |k+1=>by
  cases h:ops[k]? with
  |none=>simp only[bI,h];exact Qaz k
  |some o=>rw[Kq h,v8];exact Qaz k
def Qbe{L:QQ}{t:Nat}:∀k,(∀j,j<k->Vf ops j≠some t)->(bI P gl orc ops T0 m L (k)).getD t .junk=T0.getD t .junk
 |0,_=>rfl
 |k+1,h=>by
  cases ho:ops[k]? with
  |none=>simp only[bI,ho];exact Qbe k fun j hj=>h j zE
  |some o=>
   rw[Kq ho,Qch (by have:=h k zE;simpa[Vf,ho]using this)];exact Qbe k fun j hj=>h j zE
def Qdj{L:QQ}{t k:Nat}:∀n,(∀j,k<=j->j<k+n->Vf ops j≠some t)->(bI P gl orc ops T0 m L (k+n)).getD t .junk=(bI P gl orc ops T0 m L (k)).getD t .junk
 |0,_=>rfl
 |n+1,h=>by
  rw[<- zzan];cases ho:ops[k+n]? with
  |none=>simp only[bI,ho];exact Qdj n fun j h1 h2=>h j h1 zE
  |some o=>
   rw[Kq ho,Qch (by have:=h (k+n) zE zE;simpa[Vf,ho]using this)];exact Qdj n fun j h1 h2=>h j h1 zE
def me(P:Program)(gl:Nat->AV)(orc:UV)(ops:Array Oper)(T0:P2)(m:AM)(L:QQ)(p:Nat)(listed:Array Bool)(t:Nat):AV:=
 if wr ops p listed t then(bI P gl orc ops T0 m L (p)).getD t .junk else T0.getD t .junk
def ah9{L:QQ}(hc:uq ops p=true){listed:Array Bool}(hsz:listed.size=ops.size){i:Nat}{o:Oper}(ho:ops[i]?=some o)(c9:i<p)(hu:listed.getD i true=false)(bS:∀j∈Zb o,listed.getD j false=true)
  {t:Nat}(ht:t∈o.looksAt ops):(bI P gl orc ops T0 m L (i)).getD t .junk=me P gl orc ops T0 m L p listed t:=by
 have hi:i<ops.size:=(zzbv.1 ho).1;obtain⟨hp,cW⟩:=Zf hc;unfold me;by_cases hex:∃j,j<p/\Vf ops j=some t/\j≠i
 ·obtain⟨j,hj,hd,aN⟩:=hex;obtain⟨Ar,hja⟩:=((cW i o ho).2.1 c9).1 t ht j hj hd aN
  have hw:wr ops p listed t=true:=by
   unfold wr;rw[zzbr];exact⟨j,zzau.2 hj,by rw[bS j hja,hd];simp⟩
  rw[if_pos hw]
  have:=Qdj (P:=P) (gl:=gl) (orc:=orc) (ops:=ops) (T0:=T0) (m:=m) (L:=L) (t:=t) (k:=i) (p-i) fun k dB ef EY=>by
   have hk:k<ops.size:=zE
   have EZ:ops[k]?=some ops[k]:=zzag hk;have:=((cW k _ EZ).2.1 zE).2 j zE t hd;simp[Vf,EZ]at EY;exact this EY
  rw[show i+(p-i)=p by omega]at this;exact this.symm
 have hw:wr ops p listed t=false:=by
  unfold wr;rw[zzdj];intro j hj;simp only[zzac,beq_iff_eq,not_and];intro hl hd;by_cases Ar:j=i
  ·subst Ar;rw[Xa zE false true,hu]at hl;cases hl
  exact hex ⟨j,zzau.1 hj,hd,Ar⟩
 rw[hw];simp only[zzbh,if_false];exact Qbe i fun j hj hd=>hex ⟨j,zE,hd,zE⟩
def CA{L:QQ}(hc:uq ops p=true){listed:Array Bool}(hsz:listed.size=ops.size){i:Nat}{o:Oper}(ho:ops[i]?=some o)(c9:i<p){t:Nat}:
  me P gl orc ops T0 m L p (listed.setIfInBounds i true) t=if o.dst=some t/\t<T0.length then tM P gl orc ops m L i (bI P gl orc ops T0 m L i)else me P gl orc ops T0 m L p listed t:=by
 have hi:i<ops.size:=(zzbv.1 ho).1;obtain⟨hp,cW⟩:=Zf hc;by_cases hd:o.dst=some t
 ·have hw:wr ops p (listed.setIfInBounds i true) t=true:=by
   unfold wr;rw[zzbr];exact⟨i,zzau.2 c9,by rw[Xt zE];simp[Vf,ho,hd]⟩
  have hl:=Qdj (P:=P) (gl:=gl) (orc:=orc) (ops:=ops) (T0:=T0) (m:=m) (L:=L) (t:=t) (k:=i+1) (p-(i+1)) fun k dB ef EY=>by
   have hk:k<ops.size:=zE
   have EZ:ops[k]?=some ops[k]:=zzag hk;have:=((cW k _ EZ).2.1 zE).2 i zE t (by simp[Vf,ho,hd]);simp[Vf,EZ]at EY;exact this EY
  rw[show i+1+(p-(i+1))=p by omega]at hl;by_cases ht:t<T0.length
  ·rw[if_pos ⟨hd,ht⟩];unfold me;rw[if_pos hw,hl,Kq ho,hd];exact Wq (by rw[Qaz];exact ht)
  rw[if_neg (by simp[ht])]
  have h1:∀k,(bI P gl orc ops T0 m L (k)).getD t .junk=.junk:=fun k=>by
   have:=Qaz (P:=P) (gl:=gl) (orc:=orc) (ops:=ops) (T0:=T0) (m:=m) (L:=L) k;simp only[List.getD];rw[zzar zE];rfl
  have h2:T0.getD t .junk=.junk:=h1 0;unfold me;rw[h1 p,h2];simp
 rw[if_neg (by simp[hd])]
 have hw:wr ops p (listed.setIfInBounds i true) t=wr ops p listed t:=by
  unfold wr;congr 1;funext j;by_cases hj:j=i
  ·subst hj;have hb:(o.dst==some t)=false:=by simpa using hd
   simp[Vf,ho,hb]
  rw[Qw hj]
 unfold me;rw[hw]
structure qL (N:Nat) (w0:eS) (r:Option Nat) (an:Nat->Nat->Prop) (S:G×World) (Y:YT) (P:Program) (gl:Nat->AV) (orc:UV) (ops:Array Oper) (T0:P2) (m:AM) (ms:QP) (js:Pa) (L:QQ) (p:Nat) (listed:Array Bool) (γ:G) (w:World) (a:Act):Prop where
 size:listed.size=ops.size
 tail:∀i,p<=i->i<ops.size->listed.getD i true=false
 ch:chn listed js
 clo:∀i o,listed.getD i false=true->ops[i]?=some o->∀j∈Zb o,listed.getD j false=true
 mm:au N w0 an γ w (Yz listed m js ms).B (Yz listed m js ms).L
 ls:cS γ w (Yz listed m js ms)
 rd:Rdr r γ w
 tl:a.tmps.size=T0.length
 tt:∀t,aA w γ (me P gl orc ops T0 m L p listed t) (a.tmps.getD t undef)
 d:Dfr S.2.heap.size γ w a.defers
 g:∀g,aA w γ.cU (gl g) (.pointer (some ⟨g,0,none⟩))
 y:YOK N w0 an P Y γ w
 e:eD S.2 S.1 w γ
def E6:∀(js:Pa)(ms:QP)(d:Nat),d ∉ js->E5 (Qz js ms) d=none
 |[],_,_,_=>rfl
 |_::_,[],_,_=>rfl
 |j::js,x::q,d,h=>by
  simp only[Qz,E5];rw[if_neg (by rintro rfl;exact h zd)];exact E6 js q d fun h'=>h (by simp[h'])
def E7:∀(js:Pa)(ms:QP)(a i:Nat)(x:AV×AM),js.Nodup->js[a]?=some i->ms[a]?=some x->E5 (Qz js ms) i=some x.1
 |[],_,_,_,_,_,h,_=>by simp at h
 |_::_,[],_,_,_,_,_,h=>by simp at h
 |j::js,y::q,0,i,x,_,h,hx=>by
  simp at h hx;subst h;subst hx;simp only[Qz,E5,if_true]
 |j::js,y::q,a+1,i,x,hn,h,hx=>by
  have qi:=List.nodup_cons.1 hn;have h':js[a]?=some i:=by simpa using h
  simp only[Qz,E5];rw[if_neg (by rintro rfl;exact qi.1 (zzad h'))];exact E7 js q a i x qi.2 h' (Nm hx)
def Qcv{js:Pa}{ms:QP}{a i:Nat}{x:AV×AM}(hn:js.Nodup)(h:js[a]?=some i)(hx:ms[a]?=some x)(T:P2):tM P gl orc ops m (Qz js ms) i T=x.1:=by
 unfold tM;rw[E7 js ms a i x hn h hx]
def je{js:Pa}{ms:QP}{i:Nat}{o:Oper}(h:i ∉ js)(ho:ops[i]?=some o)(T:P2):tM P gl orc ops m (Qz js ms) i T=(rop P gl orc (ev gl T) m o.dst (tr P o)).2:=by
 unfold tM;rw[E6 js ms i h,ho]
def wm{γ:G}{w:World}{a:Act}{o:Oper}{T:P2}(wq:Zx T (Xd P ops o))(zA:∀t∈o.looksAt ops,aA w γ (T.getD t .junk) (a.tmps.getD t undef)):Region.wanted o (yielded ops a.tmps)=true:=by
 cases hg:o.guard with
 |none=>simp[Region.wanted,hg]
 |some jw=>
  obtain⟨j,want⟩:=jw;have e1:(Xd P ops o).guard=some ((ops[j]?).bind (·.dst),want):=by simp[Xd,hg]
  unfold Zx at wq;rw[e1]at wq;cases hj:(ops[j]?).bind (·.dst)with
  |none=>rw[hj]at wq;exact wq.elim
  |some t=>
   rw[hj]at wq;simp only at wq;have lZ:t∈o.looksAt ops:=by simp[Oper.looksAt,hg,hj]
   have aX:=zA t lZ;rw[wq]at aX;have hb:=aX.bu
   have bZ:t<a.tmps.size:=by
    rcases zzaa t a.tmps.size with h|h
    ·exact h
    simp[zzbo h,undef]at hb
   simp[bZ]at hb;have hy:yielded ops a.tmps j=some want:=by simp only[yielded,hj,zzcu,zzag bZ,hb]
   simp only[Region.wanted,hg,hy];cases want<;>rfl
def Qck{ms:QP}{js:Pa}(hc:uq ops p=true){Q:PP}{listed:Array Bool}{γ:G}{w:World}{a:Act}
  (hI:qL N w0 r an S Y P gl orc ops T0 m ms js (Qz js ms) p listed γ w a){i:Nat}{o:Oper}(ho:ops[i]?=some o)(c9:i<p)(wq:Zx (bI P gl orc ops T0 m (Qz js ms) i) (Xd P ops o))(aH:js.length=ms.length)(mY:js.Nodup)
  (hu:listed.getD i true=false)(bS:∀j∈Zb o,listed.getD j false=true)(nj:∀a j,js[a]?=some j->js[a+1]?=some i->listed.getD j false=true)
  (aN:i ∉ js->((rop P gl orc (ev gl (bI P gl orc ops T0 m (Qz js ms) i)) m o.dst (tr P o)).1/\(jd ops js i=false->∀x∈ms,rop P gl orc (ev gl (bI P gl orc ops T0 m (Qz js ms) i)) x.2 o.dst (tr P o)=rop P gl orc (ev gl (bI P gl orc ops T0 m (Qz js ms) i)) m o.dst (tr P o)))\/(rdC P gl orc Y (ev gl (bI P gl orc ops T0 m (Qz js ms) i)) m o.dst m (tr P o)/\∀x∈ms,rdC P gl orc Y (ev gl (bI P gl orc ops T0 m (Qz js ms) i)) m o.dst x.2 (tr P o)))
  (D1:∀k x,js[k]?=some i->ms[k]?=some x->effC P gl orc Y (ev gl (bI P gl orc ops T0 m (Qz js ms) i)) (Vy m ms k) o.dst x.1 x.2 (tr P o)):
  wpOpIn (FW r) 0 P ops Q i (fun a' w'=>∃γ',qL N w0 r an S Y P gl orc ops T0 m ms js (Qz js ms) p (listed.setIfInBounds i true) γ' w' a'/\∀t,o.dst≠some t->a'.tmps.getD t undef=a.tmps.getD t undef) a w:=by
 have hi:i<ops.size:=(zzbv.1 ho).1;have iZ:i<listed.size:=by rw[hI.size];exact hi
 have zA:∀t∈o.looksAt ops,aA w γ ((bI P gl orc ops T0 m (Qz js ms) i).getD t .junk) (a.tmps.getD t undef):=fun t ht=>by
  rw[ah9 (P:=P) (gl:=gl) (orc:=orc) (T0:=T0) (m:=m) (L:=Qz js ms) hc hI.size ho c9 hu bS ht];exact hI.tt t
 have dm:∀x∈o.op.operands,aA w γ (ev gl (bI P gl orc ops T0 m (Qz js ms) i) (aC x)) (a.eval x):=fun x hx=>by
  cases x with
  |tmp t=>exact zA t (by simp only[Oper.looksAt,zzam,zzfh];exact .inl ⟨.tmp t,Nm hx,rfl⟩)
  |const v=>exact Jz w γ v
  |func f=>exact .fn rfl (fun i c v h=>by simp at h) rfl fun i c v h=>by simp at h
  |global g=>exact(hI.g g).gp
 have ic:chn (listed.setIfInBounds i true) js:=uu hI.ch fun a j h1 h2=>nj a j h1 h2;have hpr:EW ops (listed.setIfInBounds i true):=EW.set hI.clo ho iZ bS
 have fin:∀{v:Value}{w':World}{γ':G},eD w γ w' γ'->au N w0 an γ' w' (Yz (listed.setIfInBounds i true) m js ms).B (Yz (listed.setIfInBounds i true) m js ms).L->cS γ' w' (Yz (listed.setIfInBounds i true) m js ms)->
   aA w' γ' (tM P gl orc ops m (Qz js ms) i (bI P gl orc ops T0 m (Qz js ms) i)) v->∃γ',qL N w0 r an S Y P gl orc ops T0 m ms js (Qz js ms) p (listed.setIfInBounds i true) γ' w' (a.put o.dst v)/\∀t,o.dst≠some t->(a.put o.dst v).tmps.getD t undef=a.tmps.getD t undef:=fun{v w' γ'}he hm hl hr=>by
  have awl:∀t,o.dst≠some t->(a.put o.dst v).tmps.getD t undef=a.tmps.getD t undef:=fun t hd=>by
   cases zo:o.dst with
   |none=>rfl
   |some d=>simp only[Act.put];simp;rw[zzco (by rintro rfl;exact hd zo)]
  refine⟨γ',⟨by simp[hI.size],fun j dX om=>by rw[Qw zE];exact hI.tail j dX om,ic,hpr,hm,hl,hI.rd.aU he,?_,fun t=>?_,?_,fun g=>(hI.g g).aU he.cU,hI.y.mono he,hI.e.trans he⟩,awl⟩
  ·cases hd:o.dst<;>simp[Act.put,hI.tl]
  ·rw[CA hc hI.size ho c9];by_cases hd:o.dst=some t
   ·by_cases ht:t<T0.length
    ·rw[if_pos ⟨hd,ht⟩,hd];have:(a.put (some t) v).tmps.getD t undef=v:=by simp[Act.put,hI.tl,ht]
     rw[this];exact hr
    rw[if_neg (by simp[ht]),hd];have:(a.put (some t) v).tmps.getD t undef=a.tmps.getD t undef:=by simp[Act.put,hI.tl,ht]
    rw[this];exact(hI.tt t).aU he
   rw[if_neg (by simp[hd])]
   have:(a.put o.dst v).tmps.getD t undef=a.tmps.getD t undef:=by
    cases zo:o.dst with
    |none=>rfl
    |some d=>simp only[Act.put];simp;rw[zzco (by rintro rfl;exact hd zo)]
   rw[this];exact(hI.tt t).aU he
  cases hd:o.dst<;>exact hI.d.aU he
 simp only[wpOpIn,ho];have hw:Region.wanted o (yielded ops a.tmps)=true:=wm wq zA;rw[if_pos hw];by_cases eH:i∈js
 ·obtain⟨k,hk⟩:=zzcp.1 eH;have sj:k<ms.length:=by rw[<- aH];exact(zza.1 hk).1
  obtain⟨x,hx⟩:∃x,ms[k]?=some x:=⟨ms[k],zzaf sj⟩;have h1:=D1 k x hk hx;have h2:=Qcv (P:=P) (gl:=gl) (orc:=orc) (ops:=ops) (m:=m) mY hk hx (bI P gl orc ops T0 m (Qz js ms) i);have JK:listed.getD i false=false:=by rw[Xa iZ false true];exact hu
  have CB:∀b j,b<k->js[b]?=some j->listed.getD j false=true:=fun b j hb hj=>by
   have dy:k-1<js.length:=by have:=(zza.1 hk).1;omega
   obtain⟨j1,dX⟩:∃j1,js[k-1]?=some j1:=⟨js[k-1],zzaf dy⟩;have gM:=nj (k-1) j1 dX (by rw[show k-1+1=k by omega];exact hk);rcases zzaa b (k-1)with h|h
   ·exact Qbt hI.ch h hj dX gM
   obtain rfl:b=k-1:=zE
   rw[hj]at dX;cases dX;exact gM
  have JM:Yz listed m js ms=Vy m ms k:=Ux aH (by have:=(zza.1 hk).1;omega) CB (fun j hj=>by rw[hk]at hj;cases hj;exact JK)
  have tK:Yz (listed.setIfInBounds i true) m js ms=x.2:=by
   have:=Ux (listed:=listed.setIfInBounds i true) (m:=m) (a:=k+1) aH (by have:=(zza.1 hk).1;omega) (fun b j hb hj=>?_) (fun j hj=>?_)
   ·rw[this];simp[Vy,List.getD,hx]
   ·rcases zzaa b k with h|h
    ·have fI:j≠i:=by
      rintro rfl;have:=Uc mY hj hk;omega
     rw[Qw fI];exact CB b j h hj
    obtain rfl:b=k:=zE
    rw[hk]at hj;cases hj;exact Xt iZ
   have fI:j≠i:=by
    rintro rfl;have:=Uc mY hj hk;omega
   rw[Qw fI];cases hl:listed.getD j false with
   |false=>rfl
   |true=>rw[Qbt hI.ch (zzez k) hk hj hl]at JK;cases JK
  rw[tK,h2]at fin;have gN:=hI.mm;have lW:=hI.ls;rw[JM]at gN lW
  have zB:ew N w0 r an S P gl Y γ w ⟨(List.range T0.length).map fun t=>me P gl orc ops T0 m (Qz js ms) p listed t,Vy m ms k⟩ a:=by
   refine⟨gN,lW,hI.rd,⟨by simp[hI.tl],fun t x v hx hv=>?_⟩,hI.d,hI.g,hI.y,hI.e⟩
   ·have ai:t<T0.length:=by
     rcases zzaa t T0.length with h|h
     ·exact h
     simp[zzbk.2 h]at hx
    simp[ai]at hx;have:=hI.tt t;rw[hx]at this;have EJ:a.tmps.getD t undef=v:=by simp at hv;simp[hv]
    rwa [EJ]at this
  have mem:∀so,tr P o=so->memEff so=true->((sop P gl orc (ev gl (bI P gl orc ops T0 m (Qz js ms) i)) (Vy m ms k) o.dst so).1/\x.1=effV (sop P gl orc (ev gl (bI P gl orc ops T0 m (Qz js ms) i)) (Vy m ms k) o.dst so).2.1 so/\x.2=(sop P gl orc (ev gl (bI P gl orc ops T0 m (Qz js ms) i)) (Vy m ms k) o.dst so).2.2)->
    o.wpIn (FW r) 0 P a w (fun a' w'=>∃γ',qL N w0 r an S Y P gl orc ops T0 m ms js (Qz js ms) p (listed.setIfInBounds i true) γ' w' a'/\∀t,o.dst≠some t->a'.tmps.getD t undef=a.tmps.getD t undef) Q:=fun so PO _⟨k1,k2,k3⟩=>by
   refine AH (orc:=orc) (K:=fun av' m'=>x.1=effV av' so/\m'=x.2) gN hI.g dm ⟨by rw[PO];exact k1,by rw[PO];exact⟨k2,k3.symm⟩⟩ r _ Q fun v w' γ' av' m' hK h3 h4 h5 h6=>?_;obtain⟨VE,rfl⟩:=hK;refine fin h4.cH h5 (lW.mono' h4 h3) ?_;rw[VE];unfold effV;split<;>first|exact h6|exact .junk _
  cases Ij:tr P o with
  |call f args=>
   rw[Ij]at h1
   have mV:Qaj P gl Y (ev gl (bI P gl orc ops T0 m (Qz js ms) i)) (Vy m ms k) (fun y m2=>y=x.1/\m2=x.2) (tr P o):=by
    rw[Ij];simp only[effC]at h1;simp only[Qaj];split at h1
    ·rename_i g first cap bT;simp only[bT];exact h1
    exact h1.elim
   refine Qdi zB dm mV fun v w' γ' av' m' hK h3 h4 h5 h6=>?_;obtain⟨rfl,rfl⟩:=hK;exact fin h3 h4 h5 h6
  |_=>rw[Ij]at h1;first|exact mem _ Ij h1.1 h1.2|exact absurd h1.1 (by simp[memEff])
 rcases aN eH with⟨h1,h2⟩|iE
 ·have bR:Yz (listed.setIfInBounds i true) m js ms=Yz listed m js ms:=qK fun j hj=>Qw (by rintro rfl;exact eH hj);rw[bR]at fin;have gN:=hI.mm;have lW:=hI.ls
  have aqW:rop P gl orc (ev gl (bI P gl orc ops T0 m (Qz js ms) i)) (Yz listed m js ms) o.dst (tr P o)=rop P gl orc (ev gl (bI P gl orc ops T0 m (Qz js ms) i)) m o.dst (tr P o):=by
   cases kJ:jd ops js i with
   |false=>
    rcases wk listed js ms m with h|⟨x,hx,h⟩
    ·rw[h]
    rw[h];exact h2 kJ x hx
   |true=>
    have JM:Yz listed m js ms=m:=by
     cases js with
     |nil=>cases ms<;>rfl
     |cons j0 js=>
      simp only[jd]at kJ
      have hn:listed.getD j0 false=false:=by
       cases hl:listed.getD j0 false with
       |false=>rfl
       |true=>
        have:=ur (ops:=ops) (listed:=listed) hI.clo j0 [j0] (fun k hk=>by rw[zzcf.1 hk];exact hl) i (Nm kJ);rw[Xa iZ false true,hu]at this;cases this
      cases ms with
      |nil=>rfl
      |cons x q=>simp only[Yz,hn];rfl
    rw[JM]
  generalize Yz listed m js ms=mL at*
  refine Qcw (m:=mL) gN (fun _ _ h=>h) hI.g dm (by rw[aqW];exact h1) r _ Q fun v w' γ' q1 q2 q3=>?_;rw[aqW]at q3;exact fin q1.cH q2 (lW.mono q1) (by rw[je eH ho];exact q3)
 have bR:Yz (listed.setIfInBounds i true) m js ms=Yz listed m js ms:=qK fun j hj=>Qw (by rintro rfl;exact eH hj);rw[bR]at fin;have gN:=hI.mm;have lW:=hI.ls
 have hL:rdC P gl orc Y (ev gl (bI P gl orc ops T0 m (Qz js ms) i)) m o.dst (Yz listed m js ms) (tr P o):=by
  rcases wk listed js ms m with h|⟨x,hx,h⟩
  ·rw[h];exact iE.1
  rw[h];exact iE.2 x hx
 generalize Yz listed m js ms=mL at*
 have zB:ew N w0 r an S P gl Y γ w ⟨(List.range T0.length).map fun t=>me P gl orc ops T0 m (Qz js ms) p listed t,mL⟩ a:=by
  refine⟨gN,lW,hI.rd,⟨by simp[hI.tl],fun t x v hx hv=>?_⟩,hI.d,hI.g,hI.y,hI.e⟩
  ·have ai:t<T0.length:=by
    rcases zzaa t T0.length with h|h
    ·exact h
    simp[zzbk.2 h]at hx
   simp[ai]at hx;have:=hI.tt t;rw[hx]at this;have EJ:a.tmps.getD t undef=v:=by simp at hv;simp[hv]
   rwa [EJ]at this
 cases Ij:tr P o with
 |call f args=>
  rw[Ij]at hL
  have mV:Qaj P gl Y (ev gl (bI P gl orc ops T0 m (Qz js ms) i)) mL (fun y m2=>y=(rop P gl orc (ev gl (bI P gl orc ops T0 m (Qz js ms) i)) m o.dst (.call f args)).2/\m2=mL) (tr P o):=by
   rw[Ij];simp only[rdC]at hL;simp only[Qaj];split at hL
   ·rename_i g first cap bT;simp only[bT];exact hL
   exact hL.elim
  refine Qdi zB dm mV fun v w' γ' av' m' hK h3 h4 h5 h6=>?_;obtain⟨rfl,rfl⟩:=hK;exact fin h3 h4 h5 (by rw[je eH ho,Ij];exact h6)
 |_=>rw[Ij]at hL;exact(show False from hL).elim
def uv:∀{js:Pa},PR ops js=true->∀a j j' o,js[a]?=some j->js[a+1]?=some j'->ops[j']?=some o->j∈Zb o
 |[],_,a,j,j',o,h,_,_=>by simp at h
 |[x],_,a,j,j',o,h,h',_=>by
  have:=(zza.1 h').1;simp at this
 |x::y::r,hc,0,j,j',o,h,h',ho=>by
  simp at h h';subst h;subst h';simp only[PR,zzac,ho]at hc;simpa using hc.1
 |x::y::r,hc,a+1,j,j',o,h,h',ho=>by
  simp only[PR,zzac]at hc;exact uv hc.2 a j j' o (Nm h) (Nm h') ho
def Ke{js:Pa}(h:Qei ops p=some js):js=(List.range p).filter (dD ops wj)/\PR ops js=true/\∀i,i<p->∃o,ops[i]?=some o:=by
 unfold Qei at h;simp only at h;split at h
 case isFalse=>cases h
 rename_i bC;cases h;simp only[zzac]at bC;refine⟨rfl,bC.1.1.2,fun i hi=>?_⟩;have h1:=zzaw.1 bC.2 i (zzau.2 hi);exact zzcd.1 h1
def cR(ops:Array Oper)(k:Nat):Nat:=((List.range k).filter (dD ops wj)).length
def jf(k:Nat):cR ops (k+1)=cR ops k+(if dD ops wj k=true then 1 else 0):=by
 simp only[cR,zzfe,zzdb,zzak];cases h:dD ops wj k<;>simp[h]
def JN{i:Nat}(hi:i<p)(hd:dD ops wj i=true):((List.range p).filter (dD ops wj))[cR ops i]?=some i:=by
 obtain⟨n,rfl⟩:∃n,p=i+(n+1):=⟨p-i-1,zE⟩;rw[List.range_add,zzdb];have hl:cR ops i=((List.range i).filter (dD ops wj)).length:=rfl;rw[hl,zzao (zzab _),zzgy,zzaz,zzcm,zzdi hd];simp
def Nw{ms:QP}{js:Pa}(l2:List SO)(K:AS->Prop)(hp:p<=ops.size)(fS:js=(List.range p).filter (dD ops wj)):∀(n k:Nat)(mc:AM),k+n=p->cR ops k<=ms.length->mc=Vy m ms (cR ops k)->
  gZ P gl orc Y l2 K m ms (((ops.toList.take p).drop k).map (Xd P ops)) ((flags ops p js).drop k) (ms.drop (cR ops k)) mc (bI P gl orc ops T0 m (Qz js ms) k)->
  js.length=ms.length/\
  (
   ∀i o,k<=i->i<p->ops[i]?=some o->
   (i ∉ js->((rop P gl orc (ev gl (bI P gl orc ops T0 m (Qz js ms) i)) m o.dst (tr P o)).1/\(jd ops js i=false->∀x∈ms,rop P gl orc (ev gl (bI P gl orc ops T0 m (Qz js ms) i)) x.2 o.dst (tr P o)=rop P gl orc (ev gl (bI P gl orc ops T0 m (Qz js ms) i)) m o.dst (tr P o)))\/(rdC P gl orc Y (ev gl (bI P gl orc ops T0 m (Qz js ms) i)) m o.dst m (tr P o)/\∀x∈ms,rdC P gl orc Y (ev gl (bI P gl orc ops T0 m (Qz js ms) i)) m o.dst x.2 (tr P o)))/\
   (∀b x,js[b]?=some i->ms[b]?=some x->effC P gl orc Y (ev gl (bI P gl orc ops T0 m (Qz js ms) i)) (Vy m ms b) o.dst x.1 x.2 (tr P o))/\Zx (bI P gl orc ops T0 m (Qz js ms) i) (Xd P ops o))/\
  Zn P gl orc Y l2 ⟨(bI P gl orc ops T0 m (Qz js ms) p),Vy m ms ms.length⟩ K:=by
 have dA:∀j,j∈js<->j<p/\dD ops wj j=true:=fun j=>by rw[fS,zzbz,zzau]
 have mY:js.Nodup:=by rw[fS];exact(zzdg).filter _
 have Ig:∀i,i<p->dD ops wj i=true->js[cR ops i]?=some i:=fun i h1 h2=>by rw[fS];exact JN h1 h2
 have VQ:∀{a b i:Nat},js[a]?=some i->js[b]?=some i->a=b:=fun{a b i}h1 h2=>Uc mY h1 h2;intro n;induction n with
 |zero=>
  intro k mc hk qj VD h;obtain rfl:k=p:=zE
  have e0:(ops.toList.take k).drop k=[]:=zzal (by simp;omega);rw[e0]at h;simp only[zzcr,gZ]at h;have fC:ms.length<=cR ops k:=zzfn.1 h.1;have zm:cR ops k=js.length:=by rw[fS];rfl
  have hcc:cR ops k=ms.length:=zE
  refine⟨zE,fun i o h1 h2=>zE,?_⟩;rw[<- hcc,<- VD];exact h.2
 |succ n ih=>
  intro k mc hk qj VD h;have bZ:k<ops.size:=zE
  have ho:ops[k]?=some ops[k]:=zzag bZ
  have hd:(ops.toList.take p).drop k=ops[k]::(ops.toList.take p).drop (k+1):=by
   rw[zzah (by simp;omega)];simp
  have fB:(flags ops p js).drop k=Vo ops js k::(flags ops p js).drop (k+1):=by
   rw[zzah (by simp[flags];omega)];simp[flags]
  rw[hd,fB,zzaz]at h;have ES:=Kq (P:=P) (gl:=gl) (orc:=orc) (T0:=T0) (m:=m) (L:=Qz js ms) ho;have e2:(Xd P ops ops[k]).op=tr P ops[k]:=rfl;have e3:(Xd P ops ops[k]).dst=ops[k].dst:=rfl;have fA:=jf (ops:=ops) k;cases gz:js.contains k with
  |true=>
   have AO:k∈js:=by simpa using gz
   have oN:=((dA k).1 AO).2;rw[oN,if_pos rfl]at fA;rw[show Vo ops js k=.eff by simp only[Vo,gz,cond_true]]at h;simp only[gZ,e2,e3]at h;split at h
   ·exact h.elim
   rename_i x q hq
   have JO:cR ops k<ms.length:=by
    rcases zzaa (cR ops k) ms.length with h'|h'
    ·exact h'
    rw[zzal h']at hq;cases hq
   have hx:ms[cR ops k]?=some x:=by
    have:(ms.drop (cR ops k))[0]?=some x:=by rw[hq];rfl
    simpa using this
   have hq':ms.drop (cR ops (k+1))=q:=by
    rw[fA,<- zzdw,hq];rfl
   obtain⟨hgr,h1,h2⟩:=h;have tJ:=Ig k zE oN;have cD:=Qcv (P:=P) (gl:=gl) (orc:=orc) (ops:=ops) (m:=m) mY tJ hx (bI P gl orc ops T0 m (Qz js ms) k);rw[cD]at ES
   obtain⟨r1,r2,r3⟩:=ih (k+1) x.2 zE zE (by rw[fA];simp[Vy,List.getD,hx]) (by
    rw[ES,hq'];exact h2)
   refine⟨r1,fun i o hi c9 Cy=>?_,r3⟩;rcases zzaa k i with eM|eM
   ·exact r2 i o eM c9 Cy
   obtain rfl:i=k:=zE
   rw[ho]at Cy;cases Cy;refine⟨fun h=>absurd AO h,fun b y hb hy=>?_,hgr⟩;obtain rfl:=VQ hb tJ;rw[hx]at hy;cases hy;rw[<- VD];exact h1
  |false=>
   have AO:k ∉ js:=by simpa using gz
   have oN:dD ops wj k=false:=by
    cases CD:dD ops wj k with
    |false=>rfl
    |true=>exact absurd ((dA k).2 ⟨zE,CD⟩) AO
   rw[oN,if_neg zd,zzcm]at fA
   obtain⟨hgr,h1,h3⟩:Zx (bI P gl orc ops T0 m (Qz js ms) k) (Xd P ops ops[k])/\(((rop P gl orc (ev gl (bI P gl orc ops T0 m (Qz js ms) k)) m ops[k].dst (tr P ops[k])).1/\(jd ops js k=false->∀x∈ms,rop P gl orc (ev gl (bI P gl orc ops T0 m (Qz js ms) k)) x.2 ops[k].dst (tr P ops[k])=rop P gl orc (ev gl (bI P gl orc ops T0 m (Qz js ms) k)) m ops[k].dst (tr P ops[k])))\/(rdC P gl orc Y (ev gl (bI P gl orc ops T0 m (Qz js ms) k)) m ops[k].dst m (tr P ops[k])/\∀x∈ms,rdC P gl orc Y (ev gl (bI P gl orc ops T0 m (Qz js ms) k)) m ops[k].dst x.2 (tr P ops[k])))/\
     gZ P gl orc Y l2 K m ms (((ops.toList.take p).drop (k+1)).map (Xd P ops)) ((flags ops p js).drop (k+1)) (ms.drop (cR ops k)) mc (put (bI P gl orc ops T0 m (Qz js ms) k) ops[k].dst (rop P gl orc (ev gl (bI P gl orc ops T0 m (Qz js ms) k)) m ops[k].dst (tr P ops[k])).2):=by
    cases kJ:jd ops js k with
    |true=>
     rw[show Vo ops js k=.pre by simp only[Vo,gz,kJ,cond_true,cond_false]]at h;simp only[gZ,e2,e3]at h;exact⟨h.1,.inl ⟨h.2.1,fun h=>(by cases h)⟩,h.2.2⟩
    |false=>
     rw[show Vo ops js k=.oth by simp only[Vo,gz,kJ,cond_false]]at h;simp only[gZ,e2,e3]at h;exact⟨h.1,h.2.1.imp_left fun h=>⟨h.1,fun _=>h.2⟩,h.2.2⟩
   rw[je AO ho]at ES;obtain⟨r1,r2,r3⟩:=ih (k+1) mc zE zE (by rw[fA];exact VD) (by rw[ES,fA];exact h3);refine⟨r1,fun i o hi c9 Cy=>?_,r3⟩;rcases zzaa k i with eM|eM
   ·exact r2 i o eM c9 Cy
   obtain rfl:i=k:=zE
   rw[ho]at Cy;cases Cy;refine⟨fun _=>h1,fun b y hb=>absurd (zzad hb) AO,hgr⟩
def sk{Q:PP}{K:AS->Prop}{γ:G}{w:World}{s:AS}{a:Act}{js:Pa}(hQ:∀γ w s a,K s->ew N w0 r an S P gl Y γ w s a->Q .normal a w)(hc:uq ops p=true)(hj:Qei ops p=some js)
  {ms:QP}(h:gZ P gl orc Y ((ops.toList.drop p).map (Xd P ops)) K s.m ms ((ops.toList.take p).map (Xd P ops)) (flags ops p js) ms s.m s.T)(hs:ew N w0 r an S P gl Y γ w s a):
  wpAnyIn (FW r) 0 P .any ops Q ops.size (Array.replicate ops.size false) a {w with drawn:=w.drawn+1}:=by
 obtain⟨hp,cW⟩:=Zf hc;obtain⟨fS,hjc,gD⟩:=Ke hj;have mY:js.Nodup:=by rw[fS];exact(zzdg).filter _
 have wz:∀j∈js,j<p:=fun j h=>by rw[fS,zzbz]at h;exact zzau.1 h.1
 obtain⟨aH,h1,h2⟩:=Nw (P:=P) (gl:=gl) (orc:=orc) (T0:=s.T) (m:=s.m) ((ops.toList.drop p).map (Xd P ops)) K hp fS p 0 s.m zd (by simp[cR]) (by simp[cR,Vy]) (by simpa[bI,cR]using h)
 have full:∀(aT:Nat)(listed:Array Bool)(γ:G)(w:World)(a:Act),qL N w0 r an S Y P gl orc ops s.T s.m ms js (Qz js ms) p listed γ w a->uc ops listed<=aT->(∀i,i<p->listed.getD i false=true)->wpAnyIn (FW r) 0 P .any ops Q aT listed a w:=by
  intro aT listed γ w a hI jc bC;have hml:Yz listed s.m js ms=Vy s.m ms ms.length:=Ux aH zE (fun b j _ hb=>bC j (wz j (zzad hb))) (fun j hj=>by rw[zzar zE]at hj;cases hj);have gN:=hI.mm;have lW:=hI.ls;rw[hml]at gN lW;refine Qdy hQ hc aT p listed γ w _ a (zzab _) hp hI.size bC hI.tail jc h2 ⟨gN,lW,hI.rd,⟨?_,fun t x v hx hv=>?_⟩,hI.d,hI.g,hI.y,hI.e⟩
  ·simp[Qaz,hI.tl]
  have h1:=hI.tt t
  have hAt:me P gl orc ops s.T s.m (Qz js ms) p listed t=x:=by
   have iD:(bI P gl orc ops s.T s.m (Qz js ms) p).getD t .junk=x:=by simp only at hx;simp[List.getD,hx]
   unfold me;split
   ·exact iD
   rename_i hw;rw[<- iD];refine(Qbe p fun j hj hd=>hw ?_).symm;unfold wr;rw[zzbr];exact⟨j,zzau.2 hj,by rw[bC j hj,hd];simp⟩
  rw[hAt]at h1;have:a.tmps.getD t undef=v:=by simp at hv;simp[hv]
  rwa [this]at h1
 have main:∀(aT:Nat)(listed:Array Bool)(γ:G)(w:World)(a:Act),qL N w0 r an S Y P gl orc ops s.T s.m ms js (Qz js ms) p listed γ w a->uc ops listed<=aT->wpAnyIn (FW r) 0 P .any ops Q aT listed a w:=by
  intro aT;induction aT with
  |zero=>
   intro listed γ w a hI jc
   exact full 0 listed γ w a hI jc fun i hi=>by
    rw[Xa (by rw[hI.size];omega) false true];exact Qdw (zzfc.1 jc) zE
  |succ aT ih=>
   intro listed γ w a hI jc;by_cases bC:∀i,i<p->listed.getD i false=true
   ·exact full (aT+1) listed γ w a hI jc bC
   have hex:∃k,k<p/\listed.getD k true=false:=by
    refine Classical.byContradiction fun hn=>bC fun i hi=>?_;rw[Xa (by rw[hI.size];omega) false true];cases hl:listed.getD i true with
    |true=>rfl
    |false=>exact absurd ⟨i,hi,hl⟩ hn
   obtain⟨k,hk,VN⟩:=hex;refine⟨fun hr=>?_,fun i hi=>?_⟩
   ·obtain⟨j,hj⟩:=Uj hc hI.size k k (zzab _) zE VN;rw[hr]at hj;cases hj
   obtain⟨ai,hu,o,ho,bS⟩:=Uk hc hi
   have c9:i<p:=by
    rcases zzaa i p with h|h
    ·exact h
    have:=Qbg hI.clo ho ((cW i o ho).2.2 h) bS i k zE zE;rw[Xa (by rw[hI.size];omega) false true,VN]at this;cases this
   refine wpOpIn_mono ?_ (Qck hc hI ho c9 (h1 i o (zzbp _) c9 ho).2.2 aH mY hu bS (fun a j e1 e2=>bS j (uv hjc a j i o e1 e2 ho)) (h1 i o (zzbp _) c9 ho).1 (h1 i o (zzbp _) c9 ho).2.1);rintro a' w' ⟨γ',lI,_⟩;refine ih _ γ' w' a' lI ?_;have:=jb hI.size ai hu;omega
 have tL:∀j,(Array.replicate ops.size false).getD j false=false:=fun j=>by
  rcases zzaa j ops.size with h|h<;>simp[h]
 have nj:∀VR:Pa,chn (Array.replicate ops.size false) VR:=fun VR=>by
  induction VR with
  |nil=>trivial
  |cons j r ih=>
   cases r with
   |nil=>trivial
   |cons j' r=>exact⟨fun h=>(by rw[tL]at h;cases h),ih⟩
 have JM:Yz (Array.replicate ops.size false) s.m js ms=s.m:=Ux (a:=0) aH zE (fun b j hb=>zE) (fun j _=>tL j);refine main ops.size _ γ w.drew a ⟨zd,fun i _ hi=>by simp[hi],nj js,fun j o h=>(by rw[tL]at h;cases h),?_,?_,hs.rd.aU (Ev.drew w γ).cH,?_,fun t=>?_,hs.d.aU (Ev.drew w γ).cH,fun g=>(hs.g g).mono (Ev.drew w γ).cU,hs.y.mono (Ev.drew w γ).cH,hs.e.trans (Ev.drew w γ).cH⟩ ?_
 ·rw[JM];exact hs.m.drew
 ·rw[JM];exact hs.ls.mono (Ev.drew w γ)
 ·have:=hs.t.1;simp at this;omega
 ·have hw:wr ops p (Array.replicate ops.size false) t=false:=by
   unfold wr;rw[zzdj];intro j _;rw[tL j];simp
  unfold me;rw[hw];simp only[zzbh,if_false];have:=(hs.t.mono (Ev.drew w γ)).get t;simpa[List.getD]using this
 unfold uc;exact zzbb (zzeu) zd
end
open Go
def wA(ops:Array Oper)(p:Nat)(js:Pa):Bool:=match js.getLast? with
 |some j=>(List.range p).all fun i=>decide (i<=j)||(E4 ops i [i]).contains j
 |none=>false
def bkF(ops:Array Oper)(p:Nat)(js:Pa):List Fg:=bif wA ops p js then[.eff]else[]
def adJ(fl:List Fg)(l:List SO):Bool:=!(fl.drop l.length).isEmpty
section
variable (P:Program) (gl:Nat->AV) (orc:UV) (Y:YT)
def effR(e:bD->AV)(m:AM)(R:So):aF->Prop
 |.call f args=>(match e f with
  |.fn g first cap=>aB P gl Y g (first++args.map e++cap) m R
  |_=>False)
 |_=>False
def iF(R:So)(l2:List SO)(K:AS->Prop)(m:AM)(ms:QP):List SO->List Fg->QP->AM->P2->Prop
 |[],_,q,mc,T=>q=[]/\Zn P gl orc Y l2 ⟨T,mc⟩ K
 |_::_,[],_,_,_=>False
 |o::r,.eff::fl,q,mc,T=>(match q with
  |[]=>False
  |x::q=>Zx T o/\((q=[]->effR P gl Y (ev gl T) mc R o.op)/\(q≠[]->effC P gl orc Y (ev gl T) mc o.dst x.1 x.2 o.op))/\iF R l2 K m ms r fl q x.2 (put T o.dst x.1))
 |o::r,.pre::fl,q,mc,T=>Zx T o/\(rop P gl orc (ev gl T) m o.dst o.op).1/\iF R l2 K m ms r fl q mc (put T o.dst (rop P gl orc (ev gl T) m o.dst o.op).2)
 |o::r,.oth::fl,q,mc,T=>Zx T o/\(rop P gl orc (ev gl T) m o.dst o.op).1/\(∀x∈ms,rop P gl orc (ev gl T) x.2 o.dst o.op=rop P gl orc (ev gl T) m o.dst o.op)/\iF R l2 K m ms r fl q mc (put T o.dst (rop P gl orc (ev gl T) m o.dst o.op).2)
def Zj(m:AM):List SO->List Fg->QP->P2->P2
 |o::r,.eff::fl,x::q,T=>Zj m r fl q (put T o.dst x.1)
 |o::r,_::fl,[],T=>(rop P gl orc (ev gl T) m o.dst o.op).2::Zj m r fl [] (put T o.dst (rop P gl orc (ev gl T) m o.dst o.op).2)
 |o::r,_::fl,x::q,T=>Zj m r fl (x::q) (put T o.dst (rop P gl orc (ev gl T) m o.dst o.op).2)
 |_,_,_,_=>[]
def jg{l2:List SO}{K:AS->Prop}{m:AM}{ms:QP}{ex:List Fg}:∀{l:List SO}{fl:List Fg}{q:QP}{mc:AM}{T:P2},fl.length=l.length->gZ P gl orc Y l2 K m ms l (fl++ex) q mc T->gZ P gl orc Y l2 K m ms l fl q mc T
 |[],[],q,mc,T,_,h=>by simpa only[gZ]using h
 |[],_::_,_,_,_,hl,_=>by simp at hl
 |_::_,[],_,_,_,hl,_=>by simp at hl
 |o::r,.eff::fl,[],mc,T,hl,h=>by simp only[zzae,gZ]at h
 |o::r,.eff::fl,x::q,mc,T,hl,h=>by
  simp only[zzae,gZ]at h |-
  exact⟨h.1,h.2.1,jg (Nm hl) h.2.2⟩
 |o::r,.pre::fl,q,mc,T,hl,h=>by
  simp only[zzae,gZ]at h |-
  exact⟨h.1,h.2.1,jg (Nm hl) h.2.2⟩
 |o::r,.oth::fl,q,mc,T,hl,h=>by
  simp only[zzae,gZ]at h |-
  exact⟨h.1,h.2.1,jg (Nm hl) h.2.2⟩
def Jq{m:AM}{ex:List Fg}:∀{l:List SO}{fl:List Fg}{q:QP}{T:P2},fl.length=l.length->Zj P gl orc m l (fl++ex) q T=Zj P gl orc m l fl q T
 |[],[],q,T,_=>by simp only[Zj]
 |[],_::_,_,_,hl=>by simp at hl
 |_::_,[],_,_,hl=>by simp at hl
 |o::r,.eff::fl,[],T,hl=>by
  simp only[zzae,Zj];rw[Jq (Nm hl)]
 |o::r,.eff::fl,x::q,T,hl=>by
  simp only[zzae,Zj];rw[Jq (Nm hl)]
 |o::r,.pre::fl,[],T,hl=>by
  simp only[zzae,Zj];rw[Jq (Nm hl)]
 |o::r,.pre::fl,x::q,T,hl=>by
  simp only[zzae,Zj];rw[Jq (Nm hl)]
 |o::r,.oth::fl,[],T,hl=>by
  simp only[zzae,Zj];rw[Jq (Nm hl)]
 |o::r,.oth::fl,x::q,T,hl=>by
  simp only[zzae,Zj];rw[Jq (Nm hl)]
def jh{R:So}{l2:List SO}{K:AS->Prop}{m:AM}{ms:QP}{ex:List Fg}:∀{l:List SO}{fl:List Fg}{q:QP}{mc:AM}{T:P2},fl.length=l.length->iF P gl orc Y R l2 K m ms l (fl++ex) q mc T->iF P gl orc Y R l2 K m ms l fl q mc T
 |[],[],q,mc,T,_,h=>by simpa only[iF]using h
 |[],_::_,_,_,_,hl,_=>by simp at hl
 |_::_,[],_,_,_,hl,_=>by simp at hl
 |o::r,.eff::fl,[],mc,T,hl,h=>by simp only[zzae,iF]at h
 |o::r,.eff::fl,x::q,mc,T,hl,h=>by
  simp only[zzae,iF]at h |-
  exact⟨h.1,h.2.1,jh (Nm hl) h.2.2⟩
 |o::r,.pre::fl,q,mc,T,hl,h=>by
  simp only[zzae,iF]at h |-
  exact⟨h.1,h.2.1,jh (Nm hl) h.2.2⟩
 |o::r,.oth::fl,q,mc,T,hl,h=>by
  simp only[zzae,iF]at h |-
  exact⟨h.1,h.2.1,h.2.2.1,jh (Nm hl) h.2.2.2⟩
end
section
variable {N:Nat} {w0:eS} {r:Option Nat} {an:Nat->Nat->Prop} {S:G×World} {Y:YT} {P:Program} {gl:Nat->AV} {orc:UV} {ops:Array Oper} {T0:P2} {m:AM} {p:Nat}
def nk{x x':AV×AM}{i:Nat}:∀{js:Pa}{ms:QP}{jl:Nat},js[ms.length]?=some jl->i≠jl->E5 (Qz js (ms++[x])) i=E5 (Qz js (ms++[x'])) i
 |[],_,_,h,_=>by simp at h
 |j::js,[],jl,h,hi=>by
  simp at h;subst h;simp only[zzai,Qz,E5];rw[if_neg (Ne.symm hi),if_neg (Ne.symm hi)]
 |j::js,y::ms,jl,h,hi=>by
  simp only[zzae,Qz,E5];rw[nk (ms:=ms) (Nm h) hi]
def wB{L L':QQ}{jl:Nat}(h:∀i,i<jl->E5 L i=E5 L' i):∀k,k<=jl->bI P gl orc ops T0 m L k=bI P gl orc ops T0 m L' k
 |0,_=>rfl
 |k+1,hk=>by
  have ih:=wB h k zE;simp only[bI];rw[ih];cases ho:ops[k]? with
  |none=>rfl
  |some o=>
   simp only;congr 1;simp only[tM];rw[h k zE]
def JP{L L':QQ}(hc:uq ops p=true){listed:Array Bool}{jl:Nat}(qj:EW ops listed)(eT:listed.getD jl false=false)(hL:∀i,i<jl->E5 L i=E5 L' i)
  (VT:∀k,jl<k->k<p->(E4 ops k [k]).contains jl=true)(hjp:jl<p)(t:Nat):me P gl orc ops T0 m L p listed t=me P gl orc ops T0 m L' p listed t:=by
 obtain⟨hp,cW⟩:=Zf hc;unfold me;cases hw:wr ops p listed t with
 |false=>simp
 |true=>
  simp only[if_true];unfold wr at hw;obtain⟨j,hj,hjd⟩:=zzbr.1 hw;simp only[zzac,beq_iff_eq]at hjd;obtain⟨hl,hd⟩:=hjd;have akV:=zzau.1 hj
  have ai:j<jl:=by
   rcases zzds j jl with h|h|h
   ·exact h
   ·subst h;rw[hl]at eT;cases eT
   have:=ur qj j [j] (fun k hk=>by rw[zzcf.1 hk];exact hl) jl (by simpa using VT j h akV);rw[this]at eT;cases eT
  have sr:∀(L:QQ),(bI P gl orc ops T0 m L p).getD t .junk=(bI P gl orc ops T0 m L jl).getD t .junk:=fun L=>by
   have:=Qdj (P:=P) (gl:=gl) (orc:=orc) (ops:=ops) (T0:=T0) (m:=m) (L:=L) (t:=t) (k:=jl) (p-jl) fun k dB ef EY=>by
    have hk:k<ops.size:=zE
    have EZ:ops[k]?=some ops[k]:=zzag hk;have:=((cW k _ EZ).2.1 zE).2 j zE t hd;simp[Vf,EZ]at EY;exact this EY
   rwa [show jl+(p-jl)=p by omega]at this
  rw[sr L,sr L',wB hL jl (zzab _)]
def JQ{ms:QP}{x:AV×AM}{js:Pa}{R:So}(hc:uq ops p=true){Q:PP}{listed:Array Bool}{γ:G}{w:World}{a:Act}
  (hI:qL N w0 r an S Y P gl orc ops T0 m (ms++[x]) js (Qz js (ms++[x])) p listed γ w a){i:Nat}{o:Oper}(ho:ops[i]?=some o)(c9:i<p)(wq:Zx (bI P gl orc ops T0 m (Qz js (ms++[x])) i) (Xd P ops o))(aH:js.length=(ms++[x]).length)(mY:js.Nodup)
  (hk:js[ms.length]?=some i)(hu:listed.getD i true=false)(bS:∀j∈Zb o,listed.getD j false=true)(nj:∀a j,js[a]?=some j->js[a+1]?=some i->j∈Zb o)
  (awm:∀x':AV×AM,R x'.1 x'.2->∀t,me P gl orc ops T0 m (Qz js (ms++[x'])) p listed t=me P gl orc ops T0 m (Qz js (ms++[x])) p listed t)
  (D1:effR P gl Y (ev gl (bI P gl orc ops T0 m (Qz js (ms++[x])) i)) (Vy m (ms++[x]) ms.length) R (tr P o)):
  wpOpIn (FW r) 0 P ops Q i (fun a' w'=>∃γ' x',R x'.1 x'.2/\qL N w0 r an S Y P gl orc ops T0 m (ms++[x']) js (Qz js (ms++[x'])) p (listed.setIfInBounds i true) γ' w' a') a w:=by
 have hi:i<ops.size:=(zzbv.1 ho).1;have iZ:i<listed.size:=by rw[hI.size];exact hi
 have zA:∀t∈o.looksAt ops,aA w γ ((bI P gl orc ops T0 m (Qz js (ms++[x])) i).getD t .junk) (a.tmps.getD t undef):=fun t ht=>by
  rw[ah9 (P:=P) (gl:=gl) (orc:=orc) (T0:=T0) (m:=m) (L:=Qz js (ms++[x])) hc hI.size ho c9 hu bS ht];exact hI.tt t
 have dm:∀y∈o.op.operands,aA w γ (ev gl (bI P gl orc ops T0 m (Qz js (ms++[x])) i) (aC y)) (a.eval y):=fun y hy=>by
  cases y with
  |tmp t=>exact zA t (by simp only[Oper.looksAt,zzam,zzfh];exact .inl ⟨.tmp t,Nm hy,rfl⟩)
  |const v=>exact Jz w γ v
  |func f=>exact .fn rfl (fun i c v h=>by simp at h) rfl fun i c v h=>by simp at h
  |global g=>exact(hI.g g).gp
 have ic:chn (listed.setIfInBounds i true) js:=uu hI.ch fun a j h1 h2=>bS j (nj a j h1 h2);have hpr:EW ops (listed.setIfInBounds i true):=EW.set hI.clo ho iZ bS;have JK:listed.getD i false=false:=by rw[Xa iZ false true];exact hu
 have CB:∀b j,b<ms.length->js[b]?=some j->listed.getD j false=true:=fun b j hb hj=>by
  have dy:ms.length-1<js.length:=by simp at aH;omega
  obtain⟨j1,dX⟩:∃j1,js[ms.length-1]?=some j1:=⟨js[ms.length-1],zzaf dy⟩;have gM:=bS j1 (nj (ms.length-1) j1 dX (by rw[show ms.length-1+1=ms.length by omega];exact hk));rcases zzaa b (ms.length-1)with h|h
  ·exact Qbt hI.ch h hj dX gM
  obtain rfl:b=ms.length-1:=zE
  rw[hj]at dX;cases dX;exact gM
 have JM:Yz listed m js (ms++[x])=Vy m (ms++[x]) ms.length:=Ux aH (by simp at aH;omega) CB (fun j hj=>by rw[hk]at hj;cases hj;exact JK)
 have tK:∀x':AV×AM,Yz (listed.setIfInBounds i true) m js (ms++[x'])=x'.2:=fun x'=>by
  have:=Ux (listed:=listed.setIfInBounds i true) (m:=m) (ms:=ms++[x']) (js:=js) (a:=ms.length+1) (by simp at aH |-;omega) (by simp at aH;omega) (fun b j hb hj=>?_) (fun j hj=>by rw[zzar (by simp at aH;omega)]at hj;cases hj)
  ·rw[this];simp[Vy,List.getD]
  rcases zzaa b ms.length with h|h
  ·have fI:j≠i:=by
    rintro rfl;have:=Uc mY hj hk;omega
   rw[Qw fI];exact CB b j h hj
  obtain rfl:b=ms.length:=zE
  rw[hk]at hj;cases hj;exact Xt iZ
 simp only[wpOpIn,ho];have hw:Region.wanted o (yielded ops a.tmps)=true:=wm wq zA;rw[if_pos hw];have gN:=hI.mm;have lW:=hI.ls;rw[JM]at gN lW
 have zB:ew N w0 r an S P gl Y γ w ⟨(List.range T0.length).map fun t=>me P gl orc ops T0 m (Qz js (ms++[x])) p listed t,Vy m (ms++[x]) ms.length⟩ a:=by
  refine⟨gN,lW,hI.rd,⟨by simp[hI.tl],fun t x v hx hv=>?_⟩,hI.d,hI.g,hI.y,hI.e⟩
  have ai:t<T0.length:=by
   rcases zzaa t T0.length with h|h
   ·exact h
   simp[zzbk.2 h]at hx
  simp[ai]at hx;have:=hI.tt t;rw[hx]at this;have EJ:a.tmps.getD t undef=v:=by simp at hv;simp[hv]
  rwa [EJ]at this
 have mV:Qaj P gl Y (ev gl (bI P gl orc ops T0 m (Qz js (ms++[x])) i)) (Vy m (ms++[x]) ms.length) R (tr P o):=by
  cases Ij:tr P o with
  |call f args=>
   rw[Ij]at D1;simp only[effR]at D1;simp only[Qaj];split at D1
   ·rename_i g first cap bT;simp only[bT];exact D1
   exact D1.elim
  |_=>rw[Ij]at D1;exact D1.elim
 refine Qdi zB dm mV fun v w' γ' av' m' hK he hm hl hr=>?_;have cD:=Qcv (P:=P) (gl:=gl) (orc:=orc) (ops:=ops) (m:=m) (ms:=ms++[(av',m')]) (x:=(av',m')) mY hk zd (bI P gl orc ops T0 m (Qz js (ms++[(av',m')])) i);have hsw:=awm (av',m') hK;refine⟨γ',(av',m'),hK,by simp[hI.size],fun j dX om=>by rw[Qw zE];exact hI.tail j dX om,ic,hpr,by rw[tK];exact hm,by rw[tK];exact hl,hI.rd.aU he,?_,fun t=>?_,?_,fun g=>(hI.g g).aU he.cU,hI.y.mono he,hI.e.trans he⟩
 ·cases hd:o.dst<;>simp[Act.put,hI.tl]
 ·rw[CA hc hI.size ho c9,hsw];by_cases hd:o.dst=some t
  ·by_cases ht:t<T0.length
   ·rw[if_pos ⟨hd,ht⟩,hd];have:(a.put (some t) v).tmps.getD t undef=v:=by simp[Act.put,hI.tl,ht]
    rw[this,cD];exact hr
   rw[if_neg (by simp[ht]),hd];have:(a.put (some t) v).tmps.getD t undef=a.tmps.getD t undef:=by simp[Act.put,hI.tl,ht]
   rw[this];exact(hI.tt t).aU he
  rw[if_neg (by simp[hd])]
  have:(a.put o.dst v).tmps.getD t undef=a.tmps.getD t undef:=by
   cases zo:o.dst with
   |none=>rfl
   |some d=>simp only[Act.put];simp;rw[zzco (by rintro rfl;exact hd zo)]
  rw[this];exact(hI.tt t).aU he
 cases hd:o.dst<;>exact hI.d.aU he
def CE{R:So}{ms:QP}{js:Pa}(l2:List SO)(K:AS->Prop)(hp:p<=ops.size)(hj:Qei ops p=some js):∀(n k:Nat)(mc:AM),k+n=p->cR ops k<=ms.length->mc=Vy m ms (cR ops k)->
  iF P gl orc Y R l2 K m ms (((ops.toList.take p).drop k).map (Xd P ops)) ((flags ops p js).drop k) (ms.drop (cR ops k)) mc (bI P gl orc ops T0 m (Qz js ms) k)->
  js.length=ms.length/\
  (
   ∀i o,k<=i->i<p->ops[i]?=some o->
   (i ∉ js->(rop P gl orc (ev gl (bI P gl orc ops T0 m (Qz js ms) i)) m o.dst (tr P o)).1/\(jd ops js i=false->∀x∈ms,rop P gl orc (ev gl (bI P gl orc ops T0 m (Qz js ms) i)) x.2 o.dst (tr P o)=rop P gl orc (ev gl (bI P gl orc ops T0 m (Qz js ms) i)) m o.dst (tr P o)))/\
   (∀b x,js[b]?=some i->ms[b]?=some x->(b+1=ms.length->effR P gl Y (ev gl (bI P gl orc ops T0 m (Qz js ms) i)) (Vy m ms b) R (tr P o))/\(b+1≠ms.length->effC P gl orc Y (ev gl (bI P gl orc ops T0 m (Qz js ms) i)) (Vy m ms b) o.dst x.1 x.2 (tr P o)))/\Zx (bI P gl orc ops T0 m (Qz js ms) i) (Xd P ops o))/\
  Zn P gl orc Y l2 ⟨(bI P gl orc ops T0 m (Qz js ms) p),Vy m ms ms.length⟩ K:=by
 obtain⟨fS,_,gD⟩:=Ke hj;have dA:∀j,j∈js<->j<p/\dD ops wj j=true:=fun j=>by rw[fS,zzbz,zzau]
 have mY:js.Nodup:=by rw[fS];exact(zzdg).filter _
 have Ig:∀i,i<p->dD ops wj i=true->js[cR ops i]?=some i:=fun i h1 h2=>by rw[fS];exact JN h1 h2
 have VQ:∀{a b i:Nat},js[a]?=some i->js[b]?=some i->a=b:=fun{a b i}h1 h2=>Uc mY h1 h2;intro n;induction n with
 |zero=>
  intro k mc hk qj VD h;obtain rfl:k=p:=zE
  have e0:(ops.toList.take k).drop k=[]:=zzal (by simp;omega);rw[e0]at h;simp only[zzcr,iF]at h;have fC:ms.length<=cR ops k:=zzfn.1 h.1;have zm:cR ops k=js.length:=by rw[fS];rfl
  have hcc:cR ops k=ms.length:=zE
  refine⟨zE,fun i o h1 h2=>zE,?_⟩;rw[<- hcc,<- VD];exact h.2
 |succ n ih=>
  intro k mc hk qj VD h;have bZ:k<ops.size:=zE
  have ho:ops[k]?=some ops[k]:=zzag bZ
  have hd:(ops.toList.take p).drop k=ops[k]::(ops.toList.take p).drop (k+1):=by
   rw[zzah (by simp;omega)];simp
  have fB:(flags ops p js).drop k=Vo ops js k::(flags ops p js).drop (k+1):=by
   rw[zzah (by simp[flags];omega)];simp[flags]
  rw[hd,fB,zzaz]at h;have ES:=Kq (P:=P) (gl:=gl) (orc:=orc) (T0:=T0) (m:=m) (L:=Qz js ms) ho;have e2:(Xd P ops ops[k]).op=tr P ops[k]:=rfl;have e3:(Xd P ops ops[k]).dst=ops[k].dst:=rfl;have fA:=jf (ops:=ops) k;cases gz:js.contains k with
  |true=>
   have AO:k∈js:=by simpa using gz
   have oN:=((dA k).1 AO).2;rw[oN,if_pos rfl]at fA;rw[show Vo ops js k=.eff by simp only[Vo,gz,cond_true]]at h;simp only[iF,e2,e3]at h;split at h
   ·exact h.elim
   rename_i x q hq
   have JO:cR ops k<ms.length:=by
    rcases zzaa (cR ops k) ms.length with h'|h'
    ·exact h'
    rw[zzal h']at hq;cases hq
   have hx:ms[cR ops k]?=some x:=by
    have:(ms.drop (cR ops k))[0]?=some x:=by rw[hq];rfl
    simpa using this
   have hq':ms.drop (cR ops (k+1))=q:=by
    rw[fA,<- zzdw,hq];rfl
   obtain⟨hgr,h1,h2⟩:=h;have tJ:=Ig k zE oN;have cD:=Qcv (P:=P) (gl:=gl) (orc:=orc) (ops:=ops) (m:=m) mY tJ hx (bI P gl orc ops T0 m (Qz js ms) k);rw[cD]at ES
   obtain⟨r1,r2,r3⟩:=ih (k+1) x.2 zE zE (by rw[fA];simp[Vy,List.getD,hx]) (by
    rw[ES,hq'];exact h2)
   refine⟨r1,fun i o hi c9 Cy=>?_,r3⟩;rcases zzaa k i with eM|eM
   ·exact r2 i o eM c9 Cy
   obtain rfl:i=k:=zE
   rw[ho]at Cy;cases Cy;refine⟨fun h=>absurd AO h,fun b y hb hy=>?_,hgr⟩;obtain rfl:=VQ hb tJ;rw[hx]at hy;cases hy;rw[<- VD]
   have hqe:q=[]<->cR ops i+1=ms.length:=by
    rw[<- hq',fA,zzfn];omega
   exact⟨fun h=>h1.1 (hqe.2 h),fun h=>h1.2 fun e=>h (hqe.1 e)⟩
  |false=>
   have AO:k ∉ js:=by simpa using gz
   have oN:dD ops wj k=false:=by
    cases CD:dD ops wj k with
    |false=>rfl
    |true=>exact absurd ((dA k).2 ⟨zE,CD⟩) AO
   rw[oN,if_neg zd,zzcm]at fA
   obtain⟨hgr,h1,h2,h3⟩:Zx (bI P gl orc ops T0 m (Qz js ms) k) (Xd P ops ops[k])/\(rop P gl orc (ev gl (bI P gl orc ops T0 m (Qz js ms) k)) m ops[k].dst (tr P ops[k])).1/\(jd ops js k=false->∀x∈ms,rop P gl orc (ev gl (bI P gl orc ops T0 m (Qz js ms) k)) x.2 ops[k].dst (tr P ops[k])=rop P gl orc (ev gl (bI P gl orc ops T0 m (Qz js ms) k)) m ops[k].dst (tr P ops[k]))/\
     iF P gl orc Y R l2 K m ms (((ops.toList.take p).drop (k+1)).map (Xd P ops)) ((flags ops p js).drop (k+1)) (ms.drop (cR ops k)) mc (put (bI P gl orc ops T0 m (Qz js ms) k) ops[k].dst (rop P gl orc (ev gl (bI P gl orc ops T0 m (Qz js ms) k)) m ops[k].dst (tr P ops[k])).2):=by
    cases kJ:jd ops js k with
    |true=>
     rw[show Vo ops js k=.pre by simp only[Vo,gz,kJ,cond_true,cond_false]]at h;simp only[iF,e2,e3]at h;exact⟨h.1,h.2.1,fun h=>(by cases h),h.2.2⟩
    |false=>
     rw[show Vo ops js k=.oth by simp only[Vo,gz,kJ,cond_false]]at h;simp only[iF,e2,e3]at h;exact⟨h.1,h.2.1,fun _=>h.2.2.1,h.2.2.2⟩
   rw[je AO ho]at ES;obtain⟨r1,r2,r3⟩:=ih (k+1) mc zE zE (by rw[fA];exact VD) (by rw[ES,fA];exact h3);refine⟨r1,fun i o hi c9 Cy=>?_,r3⟩;rcases zzaa k i with eM|eM
   ·exact r2 i o eM c9 Cy
   obtain rfl:i=k:=zE
   rw[ho]at Cy;cases Cy;refine⟨fun _=>⟨h1,h2⟩,fun b y hb=>absurd (zzad hb) AO,hgr⟩
def sv{Q:PP}{K:AS->Prop}{γ:G}{w:World}{s:AS}{a:Act}{js:Pa}(hQ:∀γ w s a,K s->ew N w0 r an S P gl Y γ w s a->Q .normal a w)(hc:uq ops p=true)(hj:Qei ops p=some js)
  {R:So}{ms:QP}(wC:∀(jl:Nat),js[ms.length]?=some jl->∀(x x':AV×AM),R x.1 x.2->R x'.1 x'.2->∀listed:Array Bool,EW ops listed->listed.getD jl false=false->∀t,me P gl orc ops s.T s.m (Qz js (ms++[x'])) p listed t=me P gl orc ops s.T s.m (Qz js (ms++[x])) p listed t)(hR:∃x:AV×AM,R x.1 x.2)(h:∀x:AV×AM,R x.1 x.2->iF P gl orc Y R ((ops.toList.drop p).map (Xd P ops)) K s.m (ms++[x]) ((ops.toList.take p).map (Xd P ops)) (flags ops p js) (ms++[x]) s.m s.T)(hs:ew N w0 r an S P gl Y γ w s a):
  wpAnyIn (FW r) 0 P .any ops Q ops.size (Array.replicate ops.size false) a {w with drawn:=w.drawn+1}:=by
 obtain⟨hp,cW⟩:=Zf hc;obtain⟨fS,hjc,gD⟩:=Ke hj;have mY:js.Nodup:=by rw[fS];exact(zzdg).filter _
 have wz:∀j∈js,j<p:=fun j h=>by rw[fS,zzbz]at h;exact zzau.1 h.1
 have bC:=fun(x:AV×AM)(hx:R x.1 x.2)=>CE (P:=P) (gl:=gl) (orc:=orc) (T0:=s.T) (m:=s.m) ((ops.toList.drop p).map (Xd P ops)) K hp hj p 0 s.m zd (by simp[cR]) (by simp[cR,Vy]) (by simpa[bI,cR]using h x hx);obtain⟨x0,hx0⟩:=hR;have dG:js.length=ms.length+1:=by have:=(bC x0 hx0).1;simpa using this
 obtain⟨jl,eT⟩:∃jl,js[ms.length]?=some jl:=⟨_,zzaf zE⟩
 have full:∀(x:AV×AM),R x.1 x.2->∀(aT:Nat)(listed:Array Bool)(γ:G)(w:World)(a:Act),qL N w0 r an S Y P gl orc ops s.T s.m (ms++[x]) js (Qz js (ms++[x])) p listed γ w a->uc ops listed<=aT->(∀i,i<p->listed.getD i false=true)->wpAnyIn (FW r) 0 P .any ops Q aT listed a w:=by
  intro x hx aT listed γ w a hI jc aqX;obtain⟨aH,h1,h2⟩:=bC x hx;have bC:=aqX;have hml:Yz listed s.m js (ms++[x])=Vy s.m (ms++[x]) (ms++[x]).length:=Ux aH zE (fun b j _ hb=>bC j (wz j (zzad hb))) (fun j hj=>by rw[zzar zE]at hj;cases hj);have gN:=hI.mm;have lW:=hI.ls;rw[hml]at gN lW;refine Qdy hQ hc aT p listed γ w _ a (zzab _) hp hI.size bC hI.tail jc h2 ⟨gN,lW,hI.rd,⟨?_,fun t y v hy hv=>?_⟩,hI.d,hI.g,hI.y,hI.e⟩
  ·simp[Qaz,hI.tl]
  have h1:=hI.tt t
  have hAt:me P gl orc ops s.T s.m (Qz js (ms++[x])) p listed t=y:=by
   have iD:(bI P gl orc ops s.T s.m (Qz js (ms++[x])) p).getD t .junk=y:=by simp only at hy;simp[List.getD,hy]
   unfold me;split
   ·exact iD
   rename_i hw;rw[<- iD];refine(Qbe p fun j hj hd=>hw ?_).symm;unfold wr;rw[zzbr];exact⟨j,zzau.2 hj,by rw[bC j hj,hd];simp⟩
  rw[hAt]at h1;have:a.tmps.getD t undef=v:=by simp at hv;simp[hv]
  rwa [this]at h1
 have main:∀(aT:Nat)(x:AV×AM),R x.1 x.2->∀(listed:Array Bool)(γ:G)(w:World)(a:Act),qL N w0 r an S Y P gl orc ops s.T s.m (ms++[x]) js (Qz js (ms++[x])) p listed γ w a->uc ops listed<=aT->wpAnyIn (FW r) 0 P .any ops Q aT listed a w:=by
  intro aT;induction aT with
  |zero=>
   intro x hx listed γ w a hI jc
   exact full x hx 0 listed γ w a hI jc fun i hi=>by
    rw[Xa (by rw[hI.size];omega) false true];exact Qdw (zzfc.1 jc) zE
  |succ aT ih=>
   intro x hx listed γ w a hI jc;by_cases hall2:∀i,i<p->listed.getD i false=true
   ·exact full x hx (aT+1) listed γ w a hI jc hall2
   have hex:∃k,k<p/\listed.getD k true=false:=by
    refine Classical.byContradiction fun hn=>hall2 fun i hi=>?_;rw[Xa (by rw[hI.size];omega) false true];cases hl:listed.getD i true with
    |true=>rfl
    |false=>exact absurd ⟨i,hi,hl⟩ hn
   obtain⟨k,hk,VN⟩:=hex;refine⟨fun hr=>?_,fun i hi=>?_⟩
   ·obtain⟨j,hj⟩:=Uj hc hI.size k k (zzab _) zE VN;rw[hr]at hj;cases hj
   obtain⟨ai,hu,o,ho,bS⟩:=Uk hc hi
   have c9:i<p:=by
    rcases zzaa i p with h|h
    ·exact h
    have:=Qbg hI.clo ho ((cW i o ho).2.2 h) bS i k zE zE;rw[Xa (by rw[hI.size];omega) false true,VN]at this;cases this
   obtain⟨aH,h1,_⟩:=bC x hx;obtain⟨h1a,h1b,h1g⟩:=h1 i o (zzbp _) c9 ho;by_cases eH:i=jl
   ·subst eH;refine wpOpIn_mono ?_ (JQ hc hI ho c9 h1g aH mY eT hu bS (fun a j e1 e2=>uv hjc a j i o e1 e2 ho) (fun x' iD=>wC i eT x x' hx iD listed hI.clo (by rw[Xa (by rw[hI.size];exact ai) false true];exact hu)) ((h1b ms.length x eT zd).1 zd));rintro a' w' ⟨γ',x',iD,lI⟩;refine ih x' iD _ γ' w' a' lI ?_;have:=jb hI.size ai hu;omega
   refine wpOpIn_mono ?_ (Qck hc hI ho c9 h1g aH mY hu bS (fun a j e1 e2=>bS j (uv hjc a j i o e1 e2 ho)) (fun h=>.inl (h1a h)) (fun k y e1 e2=>(h1b k y e1 e2).2 fun e=>eH (by
    have hk:k=ms.length:=by simpa using e
    subst hk;rw[eT]at e1;exact(Option.some.inj e1).symm)))
   rintro a' w' ⟨γ',lI,_⟩;refine ih x hx _ γ' w' a' lI ?_;have:=jb hI.size ai hu;omega
 have tL:∀j,(Array.replicate ops.size false).getD j false=false:=fun j=>by
  rcases zzaa j ops.size with h|h<;>simp[h]
 have nj:∀VR:Pa,chn (Array.replicate ops.size false) VR:=fun VR=>by
  induction VR with
  |nil=>trivial
  |cons j r ih=>
   cases r with
   |nil=>trivial
   |cons j' r=>exact⟨fun h=>(by rw[tL]at h;cases h),ih⟩
 have JM:Yz (Array.replicate ops.size false) s.m js (ms++[x0])=s.m:=Ux (a:=0) (bC x0 hx0).1 zE (fun b j hb=>zE) (fun j _=>tL j);refine main ops.size x0 hx0 _ γ w.drew a ⟨zd,fun i _ hi=>by simp[hi],nj js,fun j o h=>(by rw[tL]at h;cases h),?_,?_,hs.rd.aU (Ev.drew w γ).cH,?_,fun t=>?_,hs.d.aU (Ev.drew w γ).cH,fun g=>(hs.g g).mono (Ev.drew w γ).cU,hs.y.mono (Ev.drew w γ).cH,hs.e.trans (Ev.drew w γ).cH⟩ ?_
 ·rw[JM];exact hs.m.drew
 ·rw[JM];exact hs.ls.mono (Ev.drew w γ)
 ·have:=hs.t.1;simp at this;omega
 ·have hw:wr ops p (Array.replicate ops.size false) t=false:=by
   unfold wr;rw[zzdj];intro j _;rw[tL j];simp
  unfold me;rw[hw];simp only[zzbh,if_false];have:=(hs.t.mono (Ev.drew w γ)).get t;simpa[List.getD]using this
 unfold uc;exact zzbb (zzeu) zd
def VU{L L':QQ}(hc:uq ops p=true){listed:Array Bool}{jl:Nat}(eT:listed.getD jl false=false)(hL:∀i,i<jl->E5 L i=E5 L' i)
  (iR:∀k,jl<k->k<p->tM P gl orc ops m L k (bI P gl orc ops T0 m L k)=tM P gl orc ops m L' k (bI P gl orc ops T0 m L' k))(hjp:jl<p)(t:Nat):me P gl orc ops T0 m L p listed t=me P gl orc ops T0 m L' p listed t:=by
 obtain⟨hp,cW⟩:=Zf hc;unfold me;cases hw:wr ops p listed t with
 |false=>simp
 |true=>
  simp only[if_true];unfold wr at hw;obtain⟨j,hj,hjd⟩:=zzbr.1 hw;simp only[zzac,beq_iff_eq]at hjd;obtain⟨hl,hd⟩:=hjd;have akV:=zzau.1 hj;have fS:j<ops.size:=zE
  have hjo:ops[j]?=some ops[j]:=zzag fS
  have sr:∀(L:QQ),(bI P gl orc ops T0 m L p).getD t .junk=(bI P gl orc ops T0 m L (j+1)).getD t .junk:=fun L=>by
   have:=Qdj (P:=P) (gl:=gl) (orc:=orc) (ops:=ops) (T0:=T0) (m:=m) (L:=L) (t:=t) (k:=j+1) (p-(j+1)) fun k dB ef EY=>by
    have hk:k<ops.size:=zE
    have EZ:ops[k]?=some ops[k]:=zzag hk;have:=((cW k _ EZ).2.1 zE).2 j zE t hd;simp[Vf,EZ]at EY;exact this EY
   rwa [show j+1+(p-(j+1))=p by omega]at this
  rw[sr L,sr L'];rcases zzds j jl with h|h|h
  ·rw[wB hL (j+1) zE]
  ·subst h;rw[hl]at eT;cases eT
  have hv:=iR j h akV;have VV:ops[j].dst=some t:=by simpa[Vf,hjo]using hd
  rw[Kq hjo,Kq hjo,hv,VV];have aH:(bI P gl orc ops T0 m L j).length=(bI P gl orc ops T0 m L' j).length:=by rw[Qaz,Qaz]
  by_cases ht:t<(bI P gl orc ops T0 m L j).length
  ·rw[Wq ht,Wq zE]
  simp only[put,List.getD];rw[zzar (by rw[zzcg];omega),zzar (by rw[zzcg];omega)]
def E8{Q:PP}{K:AS->Prop}{γ:G}{w:World}{s:AS}{a:Act}{js:Pa}(hQ:∀γ w s a,K s->ew N w0 r an S P gl Y γ w s a->Q .normal a w)(hc:uq ops p=true)(hj:Qei ops p=some js)
  (zh:wA ops p js=true){R:So}{ms:QP}(hR:∃x:AV×AM,R x.1 x.2)(h:∀x:AV×AM,R x.1 x.2->iF P gl orc Y R ((ops.toList.drop p).map (Xd P ops)) K s.m (ms++[x]) ((ops.toList.take p).map (Xd P ops)) (flags ops p js) (ms++[x]) s.m s.T)(hs:ew N w0 r an S P gl Y γ w s a):
  wpAnyIn (FW r) 0 P .any ops Q ops.size (Array.replicate ops.size false) a {w with drawn:=w.drawn+1}:=by
 obtain⟨hp,cW⟩:=Zf hc;obtain⟨fS,hjc,gD⟩:=Ke hj;have wz:∀j∈js,j<p:=fun j h=>by rw[fS,zzbz]at h;exact zzau.1 h.1
 have bC:=fun(x:AV×AM)(hx:R x.1 x.2)=>CE (P:=P) (gl:=gl) (orc:=orc) (T0:=s.T) (m:=s.m) ((ops.toList.drop p).map (Xd P ops)) K hp hj p 0 s.m zd (by simp[cR]) (by simp[cR,Vy]) (by simpa[bI,cR]using h x hx);obtain⟨x0,hx0⟩:=hR;have dG:js.length=ms.length+1:=by have:=(bC x0 hx0).1;simpa using this
 refine sv hQ hc hj (fun jl eT x x' _ _ listed zz JK t=>?_) ⟨x0,hx0⟩ h hs
 have VT:∀k,jl<k->k<p->(E4 ops k [k]).contains jl=true:=fun k dB ef=>by
  unfold wA at zh;have hg:js.getLast?=some jl:=by rw[List.getLast?_eq_getElem?,dG];simpa using eT
  rw[hg]at zh;have:=zzaw.1 zh k (zzau.2 ef);simp only[zzgw,decide_eq_true_eq]at this;obtain h|h:=this
  ·omega
  exact h
 exact JP hc zz JK (fun j hj=>nk eT zE) VT (wz _ (zzad eT)) t
def CF{k k':Nat}(h:k<=k'):cR ops k<=cR ops k':=by
 induction k' with
 |zero=>
  obtain rfl:k=0:=zE
  exact zzab _
 |succ n ih=>
  rcases zzaa k (n+1)with h'|h'
  ·have:=ih zE;have:=jf (ops:=ops) n;split at this<;>omega
  obtain rfl:k=n+1:=zE
  exact zzab _
def E9{ms:QP}{x:AV×AM}{js:Pa}{jl:Nat}(hp:p<=ops.size)(hj:Qei ops p=some js)(dG:js.length=ms.length+1)(eT:js[ms.length]?=some jl):∀(n k:Nat),k+n=p->∀i,k<=i->i<p->jl<i->
  (Zj P gl orc m (((ops.toList.take p).drop k).map (Xd P ops)) ((flags ops p js).drop k) ((ms++[x]).drop (cR ops k)) (bI P gl orc ops T0 m (Qz js (ms++[x])) k))[i-max k (jl+1)]?=some (tM P gl orc ops m (Qz js (ms++[x])) i (bI P gl orc ops T0 m (Qz js (ms++[x])) i)):=by
 obtain⟨fS,_,gD⟩:=Ke hj;have dA:∀j,j∈js<->j<p/\dD ops wj j=true:=fun j=>by rw[fS,zzbz,zzau]
 have mY:js.Nodup:=by rw[fS];exact(zzdg).filter _
 have Ig:∀i,i<p->dD ops wj i=true->js[cR ops i]?=some i:=fun i h1 h2=>by rw[fS];exact JN h1 h2
 have hjm:=(dA jl).1 (zzad eT);have hcj:cR ops jl=ms.length:=Uc mY (Ig jl hjm.1 hjm.2) eT;have ayJ:cR ops (jl+1)=ms.length+1:=by rw[jf,if_pos hjm.2,hcj]
 have sr:∀k,k∈js->k<=jl:=fun k hk=>by
  obtain⟨h1,h2⟩:=(dA k).1 hk;rcases zzaa jl k with h|h
  ·have:=CF (ops:=ops) (show jl+1<=k by omega);have h3:=(zza.1 (Ig k h1 h2)).1;omega
  exact h
 intro n;induction n with
 |zero=>intro k hk i hi c9;omega
 |succ n ih=>
  intro k hk i hi c9 eH;have bZ:k<ops.size:=zE
  have ho:ops[k]?=some ops[k]:=zzag bZ
  have hd:(ops.toList.take p).drop k=ops[k]::(ops.toList.take p).drop (k+1):=by
   rw[zzah (by simp;omega)];simp
  have fB:(flags ops p js).drop k=Vo ops js k::(flags ops p js).drop (k+1):=by
   rw[zzah (by simp[flags];omega)];simp[flags]
  have ES:=Kq (P:=P) (gl:=gl) (orc:=orc) (T0:=T0) (m:=m) (L:=Qz js (ms++[x])) ho;have fA:=jf (ops:=ops) k;have e2:(Xd P ops ops[k]).op=tr P ops[k]:=rfl;have e3:(Xd P ops ops[k]).dst=ops[k].dst:=rfl;rw[hd,fB,zzaz];cases gz:js.contains k with
  |true=>
   have AO:k∈js:=by simpa using gz
   have sj:=sr k AO;have oN:=((dA k).1 AO).2;rw[oN,if_pos rfl]at fA;rw[show Vo ops js k=.eff by simp only[Vo,gz,cond_true]];have JO:cR ops k<(ms++[x]).length:=by have:=CF (ops:=ops) sj;simp;omega
   obtain⟨y,hy⟩:∃y,(ms++[x])[cR ops k]?=some y:=⟨_,zzaf JO⟩
   have hq:(ms++[x]).drop (cR ops k)=y::(ms++[x]).drop (cR ops (k+1)):=by
    rw[zzah JO,fA,(zza.1 hy).2]
   rw[hq];simp only[Zj,e3];have cD:=Qcv (P:=P) (gl:=gl) (orc:=orc) (ops:=ops) (m:=m) mY (Ig k zE oN) hy (bI P gl orc ops T0 m (Qz js (ms++[x])) k);rw[cD]at ES;rw[<- ES,show max k (jl+1)=max (k+1) (jl+1) by omega];exact ih (k+1) zE i zE c9 eH
  |false=>
   have AO:k ∉ js:=by simpa using gz
   have oN:dD ops wj k=false:=by
    cases CD:dD ops wj k with
    |false=>rfl
    |true=>exact absurd ((dA k).2 ⟨zE,CD⟩) AO
   rw[oN,if_neg zd]at fA;have fA:cR ops (k+1)=cR ops k:=fA;have cD:=je (P:=P) (gl:=gl) (orc:=orc) (m:=m) (ms:=ms++[x]) AO ho (bI P gl orc ops T0 m (Qz js (ms++[x])) k)
   have hfg:Vo ops js k≠.eff:=by
    simp only[Vo,gz,cond_false];cases jd ops js k<;>simp
   rw[cD]at ES;rcases zzaa jl k with tJ|tJ
   ·have hq:(ms++[x]).drop (cR ops k)=[]:=zzal (by have:=CF (ops:=ops) (show jl+1<=k by omega);simp;omega);rw[hq]
    have VW:Zj P gl orc m (Xd P ops ops[k]::((ops.toList.take p).drop (k+1)).map (Xd P ops)) (Vo ops js k::(flags ops p js).drop (k+1)) [] (bI P gl orc ops T0 m (Qz js (ms++[x])) k)=
      (rop P gl orc (ev gl (bI P gl orc ops T0 m (Qz js (ms++[x])) k)) m ops[k].dst (tr P ops[k])).2::Zj P gl orc m (((ops.toList.take p).drop (k+1)).map (Xd P ops)) ((flags ops p js).drop (k+1)) [] (put (bI P gl orc ops T0 m (Qz js (ms++[x])) k) ops[k].dst (rop P gl orc (ev gl (bI P gl orc ops T0 m (Qz js (ms++[x])) k)) m ops[k].dst (tr P ops[k])).2):=by
     cases hf:Vo ops js k<;>first|exact absurd hf hfg|(simp only[Zj];rfl)
    rw[VW];rcases zzaa k i with eM|eM
    ·rw[show i-max k (jl+1)=(i-max (k+1) (jl+1))+1 by omega,zzcw,<- ES];have:=ih (k+1) zE i zE c9 eH;rw[fA,hq]at this;exact this
    obtain rfl:i=k:=zE
    rw[show i-max i (jl+1)=0 by omega,zzgt,cD]
   have ayK:k≠jl:=fun e=>AO (by rw[e];exact zzad eT);have JO:cR ops k<(ms++[x]).length:=by have:=CF (ops:=ops) tJ;simp;omega
   obtain⟨y,hy⟩:∃y,(ms++[x])[cR ops k]?=some y:=⟨_,zzaf JO⟩
   have hq:(ms++[x]).drop (cR ops k)=y::(ms++[x]).drop (cR ops k+1):=by
    rw[zzah JO,(zza.1 hy).2]
   have ih':=ih (k+1) zE i zE c9 eH;rw[fA,hq,ES]at ih';rw[hq,show max k (jl+1)=max (k+1) (jl+1) by omega]
   have VW:Zj P gl orc m (Xd P ops ops[k]::((ops.toList.take p).drop (k+1)).map (Xd P ops)) (Vo ops js k::(flags ops p js).drop (k+1)) (y::(ms++[x]).drop (cR ops k+1)) (bI P gl orc ops T0 m (Qz js (ms++[x])) k)=
     Zj P gl orc m (((ops.toList.take p).drop (k+1)).map (Xd P ops)) ((flags ops p js).drop (k+1)) (y::(ms++[x]).drop (cR ops k+1)) (put (bI P gl orc ops T0 m (Qz js (ms++[x])) k) ops[k].dst (rop P gl orc (ev gl (bI P gl orc ops T0 m (Qz js (ms++[x])) k)) m ops[k].dst (tr P ops[k])).2):=by
    cases hf:Vo ops js k<;>first|exact absurd hf hfg|(simp only[Zj];rfl)
   rw[VW];exact ih'
def Fa{Q:PP}{K:AS->Prop}{γ:G}{w:World}{s:AS}{a:Act}{js:Pa}(hQ:∀γ w s a,K s->ew N w0 r an S P gl Y γ w s a->Q .normal a w)(hc:uq ops p=true)(hj:Qei ops p=some js)
  {R:So}{ms:QP}{Vs:P2}(hR:∃x:AV×AM,R x.1 x.2)(h:∀x:AV×AM,R x.1 x.2->iF P gl orc Y R ((ops.toList.drop p).map (Xd P ops)) K s.m (ms++[x]) ((ops.toList.take p).map (Xd P ops)) (flags ops p js) (ms++[x]) s.m s.T)
  (hv:∀x:AV×AM,R x.1 x.2->Zj P gl orc s.m ((ops.toList.take p).map (Xd P ops)) (flags ops p js) (ms++[x]) s.T=Vs)(hs:ew N w0 r an S P gl Y γ w s a):
  wpAnyIn (FW r) 0 P .any ops Q ops.size (Array.replicate ops.size false) a {w with drawn:=w.drawn+1}:=by
 obtain⟨hp,cW⟩:=Zf hc;obtain⟨fS,hjc,gD⟩:=Ke hj;have wz:∀j∈js,j<p:=fun j h=>by rw[fS,zzbz]at h;exact zzau.1 h.1
 have bC:=fun(x:AV×AM)(hx:R x.1 x.2)=>CE (P:=P) (gl:=gl) (orc:=orc) (T0:=s.T) (m:=s.m) ((ops.toList.drop p).map (Xd P ops)) K hp hj p 0 s.m zd (by simp[cR]) (by simp[cR,Vy]) (by simpa[bI,cR]using h x hx);obtain⟨x0,hx0⟩:=hR;have dG:js.length=ms.length+1:=by have:=(bC x0 hx0).1;simpa using this
 refine sv hQ hc hj (fun jl eT x x' hx iD listed zz JK t=>?_) ⟨x0,hx0⟩ h hs;refine VU hc JK (fun j hj=>nk eT zE) (fun k dB ef=>?_) (wz _ (zzad eT)) t;have g1:=E9 (P:=P) (gl:=gl) (orc:=orc) (T0:=s.T) (m:=s.m) (x:=x) hp hj dG eT p 0 zd k (zzbp _) ef dB;have g2:=E9 (P:=P) (gl:=gl) (orc:=orc) (T0:=s.T) (m:=s.m) (x:=x') hp hj dG eT p 0 zd k (zzbp _) ef dB;have v1:=hv x hx;have v2:=hv x' iD;simp only[zzd,bI,show cR ops 0=0 from rfl]at g1 g2;rw[v1]at g1;rw[v2]at g2;rw[g1]at g2;exact(Option.some.inj g2).symm
end
open Go Go.RowKit
def aqY(f:FuncId):Bool:=f==43
def aqZ(o:Oper):Bool:=match o.op with
 |.call ⟨.value (.func f),_,_⟩=>aqY f
 |_=>false
def akW(ops:Array Oper)(j j':Nat):Bool:=match ops[j']? with
 |some o=>(Zb o).contains j
 |none=>false
def CG(ops:Array Oper):Pa->List (Nat×Nat)
 |j::j'::r=>(if akW ops j j'=true then[]else[(j,j')])++CG ops (j'::r)
 |_=>[]
def aq0(o:Oper):Bool:=match o.op with
 |.alloc _=>true
 |_=>false
def Nx(ops:Array Oper)(p:Nat):Option (Pa×Nat×Nat×Nat):=
 let js:=(List.range p).filter (dD ops wj)
 match CG ops js with
 |[(j,z)]=>(match ops[z]? with
  |some o=>(match o.dst with
   |some t=>if aq0 o&&o.guard.isNone&&(List.range p).any (dD ops aqZ)&&(List.range p).all (dD ops VO)&&(List.range p).all (fun i=>match ops[i]? with
    |some o'=>!(Zb o').contains z||(Zb o').contains j
    |none=>false)then some (js,j,z,t)else none
   |none=>none)
  |none=>none)
 |_=>none
def Fb{ops:Array Oper}:∀{js:Pa}(a j j':Nat)(o:Oper),js[a]?=some j->js[a+1]?=some j'->ops[j']?=some o->j∈Zb o\/(j,j')∈CG ops js
 |[],a,j,j',o,h,_,_=>by simp at h
 |[x],a,j,j',o,h,h',_=>by
  have:=(zza.1 h').1;simp at this
 |x::y::r,0,j,j',o,h,h',ho=>by
  simp at h h';subst h;subst h';rw[CG];by_cases hl:akW ops x y=true
  ·left;unfold akW at hl;rw[ho]at hl;simpa using hl
  right;rw[if_neg hl];simp
 |x::y::r,a+1,j,j',o,h,h',ho=>by
  rcases Fb (js:=y::r) a j j' o (Nm h) (Nm h') ho with h1|h1
  ·exact .inl h1
  right;rw[CG];exact List.mem_append_right _ h1
def Ny{ops:Array Oper}:∀{js:Pa}{j j':Nat},(j,j')∈CG ops js->∃a,js[a]?=some j/\js[a+1]?=some j'
 |[],_,_,h=>by simp[CG]at h
 |[x],_,_,h=>by simp[CG]at h
 |x::y::r,j,j',h=>by
  rw[CG]at h;rcases zzam.1 h with h|h
  ·split at h
   ·cases h
   simp at h;obtain⟨rfl,rfl⟩:=h;exact⟨0,rfl,rfl⟩
  obtain⟨a,h1,h2⟩:=Ny h;exact⟨a+1,Nm h1,Nm h2⟩
def JR{ops:Array Oper}{p:Nat}{js:Pa}{jp z t:Nat}(h:Nx ops p=some (js,jp,z,t)):
  js=(List.range p).filter (dD ops wj)/\(∀i,i<p->∃o,ops[i]?=some o)/\(∃oz te,ops[z]?=some oz/\oz.op=.alloc te/\oz.dst=some t/\oz.guard=none)/\(∀i o,i<p->ops[i]?=some o->z∈Zb o->jp∈Zb o)/\
  (∀a j j' o,js[a]?=some j->js[a+1]?=some j'->ops[j']?=some o->j∈Zb o\/(j=jp/\j'=z))/\∃a,js[a]?=some jp/\js[a+1]?=some z:=by
 unfold Nx at h;simp only at h;split at h
 case h_2=>cases h
 rename_i j z' hof;split at h
 case h_2=>cases h
 rename_i oz VX;split at h
 case h_2=>cases h
 rename_i t' ht;split at h
 case isFalse=>cases h
 rename_i bC;simp only[Option.some.injEq,Prod.mk.injEq]at h;obtain⟨rfl,rfl,rfl,rfl⟩:=h;simp only[zzac]at bC;obtain⟨⟨⟨⟨h1,h2⟩,_⟩,_⟩,h5⟩:=bC
 have gA:∀i,i<p->∃o,ops[i]?=some o/\(!(Zb o).contains z'||(Zb o).contains j)=true:=fun i hi=>by
  have:=zzaw.1 h5 i (zzau.2 hi);split at this
  ·rename_i o ho;exact⟨o,ho,this⟩
  cases this
 refine⟨rfl,fun i hi=>let⟨o,ho,_⟩:=gA i hi;⟨o,ho⟩,?_,fun i o hi ho hz=>?_,fun a x y o hx hy ho=>?_,Ny (by rw[hof];simp)⟩
 ·unfold aq0 at h1;split at h1
  ·rename_i te dm;exact⟨oz,te,VX,dm,ht,Nm h2⟩
  cases h1
 ·obtain⟨o',cO,hc⟩:=gA i hi;rw[ho]at cO;cases cO;have hz':(Zb o).contains z'=true:=by simpa using hz
  rw[hz']at hc;simpa using hc
 rcases Fb a x y o hx hy ho with h|h
 ·exact .inl h
 rw[hof]at h;simp at h;exact .inr h
section
variable {N:Nat} {w0:eS} {r:Option Nat} {an:Nat->Nat->Prop} {S:G×World} {Y:YT} {P:Program} {gl:Nat->AV} {orc:UV} {ops:Array Oper} {T0:P2} {m:AM} {p:Nat} {γ:G} {w:World} {B:Nat->PH} {L:Nat->Option Nat}
def Chg.trans{γ' D0:G}{w' qz:World}(h:Chg γ w γ' w')(k:Chg γ' w' D0 qz):Chg γ w D0 qz where
 os:=k.os.trans h.os
 tape:=k.tape.trans h.tape
 output:=k.output.trans h.output
 size:=zzbb h.size k.size
 same b hb hn:=by
  have qi:¬OI γ' b:=fun ho=>by
   rcases h.oi b ho with ho|ho
   ·exact hn ho
   omega
  rw[k.same b (zzay hb h.size) qi,h.same b hb hn]
 ro b o hb hr:=by
  obtain⟨h1,h2⟩:=h.ro b o hb hr;obtain⟨k1,k2⟩:=k.ro b o (zzay hb h.size) h1;exact⟨k1,k2.trans h2⟩
 oi b hb:=by
  rcases k.oi b hb with hb|hb
  ·exact h.oi b hb
  exact .inr (zzbb h.size hb)
 ron b o hr:=by
  rcases k.ron b o hr with hr|hr|hr
  ·exact h.ron b o hr
  ·rcases h.oi b hr with hr|hr
   ·exact .inr (.inl hr)
   exact .inr (.inr hr)
  exact .inr (.inr (zzbb h.size hr))
def aq1(γs:G)(ws:World)(arr:P1)(te:TypeId):eS where
 p γ w:=Chg γs ws γ w/\ws.heap.size<w.heap.size/\w.heap[ws.heap.size]?=some (.cells arr te (0,0))/\¬OI γ ws.heap.size/\∀o,¬γ.ro ws.heap.size o
 st γ w γ' w':=by
  rintro⟨h1,h2,h3,h4,h5⟩ c;refine⟨h1.trans c,zzay h2 c.size,?_,?_,?_⟩
  ·rw[c.same _ h2 h4];exact h3
  ·intro h;rcases c.oi _ h with h|h
   ·exact h4 h
   omega
  intro o h;rcases c.ron _ _ h with h|h|h
  ·exact h5 o h
  ·exact h4 h
  omega
def au.wD(hm:au N w0 an γ w B L)(o:Obj):Ev w γ (w.alloc o) γ:=
 ⟨zd,fun b o' hb hr=>⟨hr,cell_of_heap (Below.heap_alloc w o b hb)⟩,fun _ _ h=>h,fun _=>zzab _,fun _ _ h=>h,rfl,
  fun i b _ ho=>⟨ho,fun arr e he=>⟨arr,by rw[Below.heap_alloc w o b (hm.own i b ho).2.1];exact he,zzab _⟩,fun _ h=>h⟩,
  fun b hb=>⟨hb,Below.heap_alloc w o b (hm.sp b hb).2.1⟩,Sz.of_same (Below.heap_alloc w o)⟩
def au.awn(hm:au N w0 an γ w B L)(o:Obj)(w1:eS)(h1:w1.p γ (w.alloc o)):au N w1 an γ (w.alloc o) B L where
 bs:=h1
 hN:=by have:=hm.hN;simp;omega
 an:=hm.an
 robd b o h:=by have:=hm.robd b o h;simp;omega
 box id cells b hb h1:=by
  obtain⟨arr,e,h2,h3,h4⟩:=hm.box id cells b hb h1;exact⟨arr,e,by rw[Below.heap_alloc w o b (aR h2)];exact h2,h3.mono (hm.wD o),h4⟩
 β id b hb:=by
  obtain⟨h1,h2,h3⟩:=hm.β id b hb;exact⟨h1,by simp;omega,h3⟩
 inj:=hm.inj
 own id b hb:=by
  obtain⟨h1,h2,h3⟩:=hm.own id b hb;exact⟨h1,by simp;omega,h3⟩
 oinj:=hm.oinj
 sp b hb:=by
  obtain⟨h1,h2,h3⟩:=hm.sp b hb;exact⟨h1,by simp;omega,h3⟩
 mm id b hb:=by
  obtain⟨h1,h2,h3,h4,h5,h6,h8,h7⟩:=hm.mm id b hb;exact⟨h1,by simp;omega,h3,h4,h5,h6,h8,h7.mono (hm.wD o).cH.Aq (Below.heap_alloc w o b h2)⟩
 minj:=hm.minj
 len:=hm.len
 cur0:=hm.cur0
def au.oO(hm:au N w0 an γ w B L)(id:Nat)(aL:B id=none)(D:Nat):Ev w γ w (γ.box id D) where
 size:=zzab _
 ro b o' hb hr:=⟨hr,rfl⟩
 β i b hb:=by
  have:i≠id:=by rintro rfl;obtain⟨_,_,_,_,c,hc⟩:=hm.β i b hb;rw[aL]at hc;cases hc
  simp[G.box,this,hb]
 cur _:=zzab _
 mm _ _ h:=h
 lp:=rfl
 own i b _ ho:=⟨ho,fun arr e he=>⟨arr,he,zzab _⟩,fun _ h=>h⟩
 sp b hb:=⟨hb,rfl⟩
 ss:=Sz.refl w
def au.aq2(hm:au N w0 an γ w B L)(w1:eS){D id:Nat}(aL:B id=none){cells:P2}{arr:P1}{te:TypeId}(hN:N<=D)(hh:w.heap[D]?=some (.cells arr te (0,0)))(gi:¬OI γ D)(gh:∀o,¬γ.ro D o)
  (hr:ct w γ cells arr.toList)(Ie:∀v∈arr.toList,v.oneCell'=true)(hp:w1.p (γ.box id D) w):au N w1 an (γ.box id D) w (fun i=>if i=id then some cells else B i) L where
 bs:=hp
 hN:=hm.hN
 an:=hm.an
 robd:=hm.robd
 box i cs b hb h1:=by
  by_cases hi:i=id
  ·subst hi;simp at hb;subst hb;simp[G.box]at h1;subst h1;exact⟨arr,te,hh,hr.mono (hm.oO i aL D),Ie⟩
  simp[hi]at hb;simp[G.box,hi]at h1;obtain⟨bN,e',h2,h3,h4⟩:=hm.box i cs b hb h1;exact⟨bN,e',h2,h3.mono (hm.oO id aL D),h4⟩
 β i b hb:=by
  by_cases hi:i=id
  ·subst hi;simp[G.box]at hb;subst hb;exact⟨hN,aR hh,gh,fun i' h=>gi (.inr (.inl ⟨i',h⟩)),cells,zd⟩
  simp[G.box,hi]at hb;obtain⟨h1,h2,h3,h4,c,hc⟩:=hm.β i b hb;exact⟨h1,h2,h3,h4,c,by simp[hi,hc]⟩
 inj i i' b h h':=by
  by_cases hi:i=id<;>by_cases di:i'=id
  ·exact .inr (.inr (by rw[hi,di]))
  ·simp[G.box,hi]at h;simp[G.box,di]at h';subst h;exact absurd (.inl ⟨i',h'⟩) gi
  ·simp[G.box,di]at h';simp[G.box,hi]at h;subst h';exact absurd (.inl ⟨i,h⟩) gi
  simp[G.box,hi]at h;simp[G.box,di]at h';simp only[if_neg hi,if_neg di];exact hm.inj i i' b h h'
 own:=hm.own
 oinj:=hm.oinj
 sp b hb:=by
  obtain⟨h1,h2,h3,h4,h5⟩:=hm.sp b hb;refine⟨h1,h2,h3,fun i hi=>?_,h5⟩;by_cases aL:i=id
  ·simp[G.box,aL]at hi;subst hi;exact gi (.inr (.inr (.inl hb)))
  simp[G.box,aL]at hi;exact h4 i hi
 mm i' b hb:=by
  obtain⟨h1,h2,h3,h4,h5,h6,h8,h7⟩:=hm.mm i' b hb
  have aN:i'≠id:=by
   rintro rfl;obtain⟨_,_,hx,_⟩:=h7;rw[aL]at hx;cases hx
  refine⟨h1,h2,h3,fun i hi=>?_,h5,h6,by simp[G.box,aN,h8],?_⟩
  ·by_cases aL:i=id
   ·simp[G.box,aL]at hi;subst hi;exact gi (.inr (.inr (.inr ⟨i',hb⟩)))
   simp[G.box,aL]at hi;exact h4 i hi
  simp only[aN,if_false];exact h7.mono (hm.oO id aL D).cH.Aq rfl
 minj:=hm.minj
 len:=hm.len
 cur0:=hm.cur0
def CH{l:Array Bool}{i j:Nat}:(l.setIfInBounds i true).setIfInBounds j true=(l.setIfInBounds j true).setIfInBounds i true:=by
 by_cases h:i=j
 ·rw[h]
 exact Array.setIfInBounds_comm _ _ h
structure awo (N:Nat) (w0:eS) (r:Option Nat) (an:Nat->Nat->Prop) (S:G×World) (Y:YT) (P:Program) (gl:Nat->AV) (orc:UV) (ops:Array Oper) (T0:P2) (m:AM) (ms:QP) (js:Pa) (L:QQ) (p jp z t:Nat) (zs:P2) (listed l0:Array Bool) (γs:G) (ws:World) (arr:P1) (te:TypeId) (γ:G) (w:World) (a:Act):Prop where
 eq:listed=l0.setIfInBounds z true
 zl:l0.getD z false=false
 pl:l0.getD jp false=false
 clo:EW ops listed
 inv:qL N (aq1 γs ws arr te) r an S Y P gl orc ops T0 m ms js L p l0 γ w a
 st:w0.p γs ws
 hN:N<=ws.heap.size
 slot:t<T0.length->a.tmps.getD t undef=.pointer (some ⟨ws.heap.size,0,none⟩)
 zr:∀w γ,ak w γ zs arr.toList
 zc:zs.all Qx=true
def Fc{Q:PP}{K:AS->Prop}{γ:G}{w:World}{s:AS}{a:Act}{js:Pa}{jp z t:Nat}(hQ:∀γ w s a,K s->ew N w0 r an S P gl Y γ w s a->Q .normal a w)(hc:uq ops p=true)(heZ:Nx ops p=some (js,jp,z,t))
  (hY:∀i as' m K,¬Y i as' m K){ms:QP}(h:gZ P gl orc Y ((ops.toList.drop p).map (Xd P ops)) K s.m ms ((ops.toList.take p).map (Xd P ops)) (flags ops p js) ms s.m s.T)(hT:s.T.getD t .junk=.junk)(hs:ew N w0 r an S P gl Y γ w s a):
  wpAnyIn (FW r) 0 P .any ops Q ops.size (Array.replicate ops.size false) a {w with drawn:=w.drawn+1}:=by
 obtain⟨hp,cW⟩:=Zf hc;obtain⟨fS,gD,⟨oz,te,VX,dm,hdz,hgz⟩,hzp,aia,az,haz,tN⟩:=JR heZ;have mY:js.Nodup:=by rw[fS];exact(zzdg).filter _
 have wz:∀j∈js,j<p:=fun j h=>by rw[fS,zzbz]at h;exact zzau.1 h.1
 have awp:=zzad tN;have awq:=zzad haz;have adK:=wz z awp;have ayL:=wz jp awq
 have hpz:jp≠z:=by
  rintro rfl;have:=Uc mY haz tN;omega
 obtain⟨aH,h1,h2⟩:=Nw (P:=P) (gl:=gl) (orc:=orc) (T0:=s.T) (m:=s.m) ((ops.toList.drop p).map (Xd P ops)) K hp fS p 0 s.m zd (by simp[cR]) (by simp[cR,Vy]) (by simpa[bI,cR]using h);have hyk:∀(w0:eS)(γ:G)(w:World),YOK N w0 an P Y γ w:=fun _ _ _ _ _ _ i as' m K _ _ _ _ hyy=>(hY i as' m K hyy).elim;obtain⟨xz,hxz⟩:∃xz,ms[az+1]?=some xz:=⟨ms[az+1]'(by have:=(zza.1 tN).1;omega),zzaf _⟩;have VY:=(h1 z oz (zzbp _) adK VX).2.1 (az+1) xz tN hxz
 have Ij:∃zs,zc P te=some zs/\tr P oz=.alloc zs:=by
  obtain⟨dst,op,ty,pos,after,guard⟩:=oz;simp only at dm;subst dm;simp only[tr]at VY |-
  cases hzc:zc P te with
  |none=>rw[hzc]at VY;exact absurd VY.1 (by simp[memEff])
  |some zs=>exact⟨zs,rfl,rfl⟩
 obtain⟨zs,hzc,Ij⟩:=Ij;rw[Ij]at VY;obtain⟨_,e1,e2,e3⟩:=VY;have e1:zs.all Qx=true:=e1;have e2:xz.1=.ptr (Vy s.m ms (az+1)).boxes.length 0:=e2;have e3:xz.2={Vy s.m ms (az+1)with boxes:=(Vy s.m ms (az+1)).boxes++[zs]}:=e3
 have full:∀(aT:Nat)(listed:Array Bool)(γ:G)(w:World)(a:Act),qL N w0 r an S Y P gl orc ops s.T s.m ms js (Qz js ms) p listed γ w a->uc ops listed<=aT->(∀i,i<p->listed.getD i false=true)->wpAnyIn (FW r) 0 P .any ops Q aT listed a w:=by
  intro aT listed γ w a hI jc bC;have hml:Yz listed s.m js ms=Vy s.m ms ms.length:=Ux aH zE (fun b j _ hb=>bC j (wz j (zzad hb))) (fun j hj=>by rw[zzar zE]at hj;cases hj);have gN:=hI.mm;have lW:=hI.ls;rw[hml]at gN lW;refine Qdy hQ hc aT p listed γ w _ a (zzab _) hp hI.size bC hI.tail jc h2 ⟨gN,lW,hI.rd,⟨?_,fun t x v hx hv=>?_⟩,hI.d,hI.g,hI.y,hI.e⟩
  ·simp[Qaz,hI.tl]
  have h1:=hI.tt t
  have hAt:me P gl orc ops s.T s.m (Qz js ms) p listed t=x:=by
   have iD:(bI P gl orc ops s.T s.m (Qz js ms) p).getD t .junk=x:=by simp only at hx;simp[List.getD,hx]
   unfold me;split
   ·exact iD
   rename_i hw;rw[<- iD];refine(Qbe p fun j hj hd=>hw ?_).symm;unfold wr;rw[zzbr];exact⟨j,zzau.2 hj,by rw[bC j hj,hd];simp⟩
  rw[hAt]at h1;have:a.tmps.getD t undef=v:=by simp at hv;simp[hv]
  rwa [this]at h1
 have main:∀(aT:Nat)(listed:Array Bool)(γ:G)(w:World)(a:Act),(qL N w0 r an S Y P gl orc ops s.T s.m ms js (Qz js ms) p listed γ w a\/∃l0 γs ws arr y4,awo N w0 r an S Y P gl orc ops s.T s.m ms js (Qz js ms) p jp z t zs listed l0 γs ws arr y4 γ w a)->
   uc ops listed<=aT->wpAnyIn (FW r) 0 P .any ops Q aT listed a w:=by
  intro aT;induction aT with
  |zero=>
   intro listed γ w a hI jc;obtain hI|⟨l0,γs,ws,arr,y4,hH⟩:=hI
   ·exact full 0 listed γ w a hI jc fun i hi=>by
     rw[Xa (by rw[hI.size];omega) false true];exact Qdw (zzfc.1 jc) zE
   exfalso;have hsz:listed.size=ops.size:=by rw[hH.eq];simp[hH.inv.size]
   have:=Qdw (ops:=ops) (listed:=listed) (zzfc.1 jc) (i:=jp) zE;rw[<- Xa (by rw[hsz];omega) false true,hH.eq,Qw hpz,hH.pl]at this;cases this
  |succ aT ih=>
   intro listed γ w a hI jc;obtain hI|⟨l0,γs,ws,arr,y4,hH⟩:=hI
   ·by_cases bC:∀i,i<p->listed.getD i false=true
    ·exact full (aT+1) listed γ w a hI jc bC
    have hex:∃k,k<p/\listed.getD k true=false:=by
     refine Classical.byContradiction fun hn=>bC fun i hi=>?_;rw[Xa (by rw[hI.size];omega) false true];cases hl:listed.getD i true with
     |true=>rfl
     |false=>exact absurd ⟨i,hi,hl⟩ hn
    obtain⟨k,hk,VN⟩:=hex;refine⟨fun hr=>?_,fun i hi=>?_⟩
    ·obtain⟨j,hj⟩:=Uj hc hI.size k k (zzab _) zE VN;rw[hr]at hj;cases hj
    obtain⟨ai,hu,o,ho,bS⟩:=Uk hc hi
    have c9:i<p:=by
     rcases zzaa i p with h|h
     ·exact h
     have:=Qbg hI.clo ho ((cW i o ho).2.2 h) bS i k zE zE;rw[Xa (by rw[hI.size];omega) false true,VN]at this;cases this
    have huf:listed.getD i false=false:=by rw[Xa (by rw[hI.size];exact ai) false true];exact hu
    by_cases hear:i=z/\listed.getD jp false=false
    ·
     obtain⟨rfl,hjp⟩:=hear;rw[VX]at ho;cases ho;obtain⟨iz,zv,hi1,hi2,hi3⟩:=iV (P:=P) (w:=w) (γ:=γ) hzc
     have aq3:∀w γ,ak w γ zs zv.cells.toList:=fun w γ=>by
      obtain⟨i',z',q1,q2,q3⟩:=iV (P:=P) (w:=w) (γ:=γ) hzc;rw[hi1]at q1;cases q1;rw[hi2]at q2;cases q2;exact q3
     have aZ:(execOp a.eval oz).run P w=.ok (.value (.pointer (some ⟨w.heap.size,0,none⟩))) (w.alloc (.cells zv.cells te)):=by
      obtain⟨dst,op,ty,pos,after,guard⟩:=oz;simp only at dm;subst dm;simp[execOp,Instr.alloc,zeroValue,typeInfo,hi1,hi2,newVar,newRow]
     simp only[wpOpIn,VX];rw[if_pos (by simp[Region.wanted,hgz])];refine Zi aZ (ih _ γ _ _ (.inr ⟨listed,γ,w,zv.cells,te,⟨rfl,huf,hjp,EW.set hI.clo VX (by rw[hI.size];exact ai) bS,?_,hI.mm.bs,hI.mm.hN,?_,aq3,e1⟩⟩) ?_)
     ·have bT:=hI.mm.wD (.cells zv.cells te);refine⟨hI.size,hI.tail,hI.ch,hI.clo,hI.mm.awn _ _ ?_,hI.ls.mono bT,hI.rd.aU bT.cH,by simp[Act.put,hdz,hI.tl],fun t'=>?_,?_,fun g=>(hI.g g).aU bT.cH.cU,hyk _ _ _,hI.e.trans bT.cH⟩
      ·refine⟨⟨rfl,rfl,rfl,zd,fun b hb _=>Below.heap_alloc w _ b hb,bT.ro,fun _ h=>.inl h,fun _ _ h=>.inl h⟩,zd,heap_alloc_new w _,?_,fun o' cO=>?_⟩
       ·rintro(⟨id,h⟩|⟨id,h⟩|h|⟨id,h⟩)
        ·have:=(hI.mm.β id _ h).2.1;omega
        ·have:=(hI.mm.own id _ h).2.1;omega
        ·have:=(hI.mm.sp _ h).2.1;omega
        have:=(hI.mm.mm id _ h).2.1;omega
       have:=hI.mm.robd _ _ cO;omega
      ·rw[hdz];by_cases htt:t'=t
       ·subst htt
        have hA:me P gl orc ops s.T s.m (Qz js ms) p listed t'=.junk:=by
         unfold me;rw[if_neg,hT];intro hw;unfold wr at hw;obtain⟨j,hj,hjw⟩:=zzbr.1 hw;simp only[zzac,beq_iff_eq]at hjw
         have hjz:j=i:=by
          rcases zzds j i with bZ|D1|lH
          ·exact absurd hdz (((cW i oz VX).2.1 adK).2 j bZ t' hjw.2)
          ·exact D1
          obtain⟨oj,hoj⟩:=gD j (zzau.1 hj);have:=((cW j oj hoj).2.1 (zzau.1 hj)).2 i lH t' (by simp[Vf,VX,hdz]);have h2:=hjw.2;simp[Vf,hoj]at h2;exact absurd h2 this
         rw[hjz,huf]at hjw;exact absurd hjw.1 zd
        rw[hA];exact .junk _
       have:(a.put (some t) (.pointer (some ⟨w.heap.size,0,none⟩))).tmps.getD t' undef=a.tmps.getD t' undef:=by
        simp only[Act.put];simp;rw[zzco (Ne.symm htt)]
       rw[this];exact(hI.tt t').aU bT.cH
      rw[hdz];exact hI.d.aU bT.cH
     ·intro lZ;rw[hdz];have:t<a.tmps.size:=by rw[hI.tl];exact lZ
      simp[Act.put,this]
     have:=jb hI.size ai hu;omega
    have nj:∀a j,js[a]?=some j->js[a+1]?=some i->listed.getD j false=true:=fun a j e1 e2=>by
     rcases aia a j i o e1 e2 ho with h|⟨rfl,rfl⟩
     ·exact bS j h
     cases hl:listed.getD j false with
     |true=>rfl
     |false=>exact absurd ⟨rfl,hl⟩ hear
    refine wpOpIn_mono ?_ (Qck hc hI ho c9 (h1 i o (zzbp _) c9 ho).2.2 aH mY hu bS nj (h1 i o (zzbp _) c9 ho).1 (h1 i o (zzbp _) c9 ho).2.1);rintro a' w' ⟨γ',lI,_⟩;refine ih _ γ' w' a' (.inl lI) ?_;have:=jb hI.size ai hu;omega
   have hsz:listed.size=ops.size:=by rw[hH.eq];simp[hH.inv.size]
   have oy:∀k d,k≠z->listed.getD k d=l0.getD k d:=fun k d hk=>by rw[hH.eq,Qw hk]
   have akX:listed.getD jp false=false:=by rw[oy jp false hpz];exact hH.pl
   have aq4:jp<listed.size:=by rw[hsz];omega
   have aq5:z<l0.size:=by rw[hH.inv.size];omega
   refine⟨fun hr=>?_,fun i hi=>?_⟩
   ·obtain⟨j,hj⟩:=Uj hc hsz jp jp (zzab _) zE (by rw[Xa aq4 true false];exact akX);rw[hr]at hj;cases hj
   obtain⟨ai,hu,o,ho,bS⟩:=Uk hc hi
   have c9:i<p:=by
    rcases zzaa i p with h|h
    ·exact h
    have:=Qbg hH.clo ho ((cW i o ho).2.2 h) bS i jp zE zE;rw[akX]at this;cases this
   have hiz:i≠z:=by
    rintro rfl;rw[hH.eq,Xt aq5]at hu;cases hu
   have aib:∀j∈Zb o,l0.getD j false=true:=fun j hj=>by
    have hjz:j≠z:=by
     rintro rfl;have:=bS jp (hzp i o c9 ho hj);rw[akX]at this;cases this
    rw[<- oy j false hjz];exact bS j hj
   have hu0:l0.getD i true=false:=by rw[<- oy i true hiz];exact hu
   have nj:∀a j,js[a]?=some j->js[a+1]?=some i->l0.getD j false=true:=fun a j e1 e2=>by
    rcases aia a j i o e1 e2 ho with h|⟨_,h⟩
    ·exact aib j h
    exact absurd h hiz
   refine wpOpIn_mono ?_ (Qck (w0:=aq1 γs ws arr y4) hc hH.inv ho c9 (h1 i o (zzbp _) c9 ho).2.2 aH mY hu0 aib nj (h1 i o (zzbp _) c9 ho).1 (h1 i o (zzbp _) c9 ho).2.1);rintro a' w' ⟨γ',lI,wC⟩;have aq6:listed.setIfInBounds i true=(l0.setIfInBounds i true).setIfInBounds z true:=by rw[hH.eq];exact CH
   have hdt:o.dst≠some t:=by
    rcases zzds i z with bZ|D1|lH
    ·intro hd;exact((cW z oz VX).2.1 adK).2 i bZ t (by simp[Vf,ho,hd]) hdz
    ·exact absurd D1 hiz
    exact((cW i o ho).2.1 c9).2 z lH t (by simp[Vf,VX,hdz])
   have aic:t<s.T.length->a'.tmps.getD t undef=.pointer (some ⟨ws.heap.size,0,none⟩):=fun lZ=>by rw[wC t hdt];exact hH.slot lZ
   have jc:uc ops (listed.setIfInBounds i true)<=aT:=by
    have:=jb hsz ai hu;omega
   by_cases eH:i=jp
   ·subst eH;have zz:=EW.set hH.clo ho (by rw[hsz];exact ai) bS;refine ih _ (γ'.box (Vy s.m ms (az+1)).boxes.length ws.heap.size) w' a' (.inl ?_) jc;rw[aq6]at zz |-
    obtain⟨c1,c2,c3,c4,c5⟩:=lI.mm.bs;have akY:i<l0.size:=by rw[hH.inv.size];exact ai
    have hz0:(l0.setIfInBounds i true).getD z false=false:=by rw[Qw (Ne.symm hiz)];exact hH.zl
    have CB:∀b j,b<az+1->js[b]?=some j->(l0.setIfInBounds i true).getD j false=true:=fun b j hb hj=>by
     rcases zzaa b az with bZ|bn
     ·exact Qbt lI.ch bZ hj haz (Xt akY)
     obtain rfl:b=az:=zE
     rw[haz]at hj;cases hj;exact Xt akY
    have ayM:az+1<js.length:=(zza.1 tN).1;have tK:Yz (l0.setIfInBounds i true) s.m js ms=Vy s.m ms (az+1):=Ux aH zE CB (fun j hj=>by rw[tN]at hj;cases hj;exact hz0)
    have y6:Yz ((l0.setIfInBounds i true).setIfInBounds z true) s.m js ms=xz.2:=by
     have:=Ux (listed:=(l0.setIfInBounds i true).setIfInBounds z true) (m:=s.m) (a:=az+2) aH zE (fun b j hb hj=>?_) (fun j hj=>?_)
     ·rw[this];simp[Vy,List.getD,hxz]
     ·rcases zzaa b (az+1)with h|h
      ·have hjz:j≠z:=by
        rintro rfl;have:=Uc mY hj tN;omega
       rw[Qw hjz];exact CB b j h hj
      obtain rfl:b=az+1:=zE
      rw[tN]at hj;cases hj;exact Xt (Nm aq5)
     have hjz:j≠z:=by
      rintro rfl;have:=Uc mY hj tN;omega
     rw[Qw hjz];cases hl:(l0.setIfInBounds i true).getD j false with
     |false=>rfl
     |true=>
      have:=Qbt lI.ch (zzez (az+1)) tN hj hl;rw[hz0]at this;cases this
    have gN:=lI.mm;have lW:=lI.ls;rw[tK]at gN lW;have aL:(Vy s.m ms (az+1)).B (Vy s.m ms (az+1)).boxes.length=none:=by simp[AM.B]
    have bT:=gN.oO _ aL ws.heap.size;refine⟨by simp[hH.inv.size],fun j dX om=>by rw[Qw zE];exact lI.tail j dX om,uu lI.ch (fun b j g1 g2=>?_),zz,?_,?_,lI.rd.aU bT.cH,lI.tl,fun t'=>?_,lI.d.aU bT.cH,fun g=>(lI.g g).aU bT.cH.cU,hyk _ _ _,lI.e.trans bT.cH⟩
    ·have:b+1=az+1:=Uc mY g2 tN;obtain rfl:b=az:=zE
     exact CB _ j (zzez _) g1
    ·rw[y6,e3];have hmA:=gN.aq2 w0 (te:=y4) aL hH.hN c3 c4 c5 (hH.zr w' γ').toP (Yo (hH.zr w' γ') hH.zc) (w0.st γs ws _ w' hH.st ⟨c1.os,c1.tape,c1.output,c1.size,c1.same,c1.ro,fun b hb=>?_,c1.ron⟩)
     ·have hB:({Vy s.m ms (az+1)with boxes:=(Vy s.m ms (az+1)).boxes++[zs]}:AM).B=fun i=>if i=(Vy s.m ms (az+1)).boxes.length then some zs else(Vy s.m ms (az+1)).B i:=Sc _ _;rw[hB];exact hmA
     obtain⟨i',di⟩|hb|hb:=hb
     ·by_cases h:i'=(Vy s.m ms (az+1)).boxes.length
      ·simp[G.box,h]at di;exact .inr zE
      simp[G.box,h]at di;exact c1.oi b (.inl ⟨i',di⟩)
     ·exact c1.oi b (.inr (.inl hb))
     exact c1.oi b (.inr (.inr hb))
    ·rw[y6,e3];exact lW.mono' bT rfl
    rw[CA hc (by simp[hH.inv.size]) VX adK];by_cases CD:oz.dst=some t'/\t'<s.T.length
    ·rw[if_pos CD];rw[hdz]at CD;obtain⟨awr,JS⟩:=CD;cases awr;rw[Qcv (P:=P) (gl:=gl) (orc:=orc) (ops:=ops) (m:=s.m) mY tN hxz,e2,aic JS];exact .ptr (by simp[G.box])
    rw[if_neg CD];exact(lI.tt t').mono bT
   exact ih _ γ' w' a' (.inr ⟨l0.setIfInBounds i true,γs,ws,arr,y4,aq6,by rw[Qw (Ne.symm hiz)];exact hH.zl,by rw[Qw (Ne.symm eH)];exact hH.pl,EW.set hH.clo ho (by rw[hsz];exact ai) bS,lI,hH.st,hH.hN,aic,hH.zr,hH.zc⟩) jc
 have tL:∀j,(Array.replicate ops.size false).getD j false=false:=fun j=>by
  rcases zzaa j ops.size with h|h<;>simp[h]
 have nj:∀VR:Pa,chn (Array.replicate ops.size false) VR:=fun VR=>by
  induction VR with
  |nil=>trivial
  |cons j r ih=>
   cases r with
   |nil=>trivial
   |cons j' r=>exact⟨fun h=>(by rw[tL]at h;cases h),ih⟩
 have JM:Yz (Array.replicate ops.size false) s.m js ms=s.m:=Ux (a:=0) aH zE (fun b j hb=>zE) (fun j _=>tL j);refine main ops.size _ γ w.drew a (.inl ⟨zd,fun i _ hi=>by simp[hi],nj js,fun j o h=>(by rw[tL]at h;cases h),?_,?_,hs.rd.aU (Ev.drew w γ).cH,?_,fun t=>?_,hs.d.aU (Ev.drew w γ).cH,fun g=>(hs.g g).mono (Ev.drew w γ).cU,hs.y.mono (Ev.drew w γ).cH,hs.e.trans (Ev.drew w γ).cH⟩) ?_
 ·rw[JM];exact hs.m.drew
 ·rw[JM];exact hs.ls.mono (Ev.drew w γ)
 ·have:=hs.t.1;simp at this;omega
 ·have hw:wr ops p (Array.replicate ops.size false) t=false:=by
   unfold wr;rw[zzdj];intro j _;rw[tL j];simp
  unfold me;rw[hw];simp only[zzbh,if_false];have:=(hs.t.mono (Ev.drew w γ)).get t;simpa[List.getD]using this
 unfold uc;exact zzbb (zzeu) zd
end
open Go Go.RowKit
inductive SC where
 |skip
 |ops (l:List SO)
 |draw (l l2:List SO)
 |drawE (fl:List Fg) (l l2:List SO)
 |drawZ (z:Nat) (fl:List Fg) (l l2:List SO)
 |seq (a b:SC)
 |cond (x:bD) (a b:SC)
 |block (id:Nat) (c:SC)
 |loop (c:SC)
 |exit (id:Nat)
 |scope (c:SC)
 |rfunc (g:bD) (ps:Pa) (ig body:SC)
 |ret
 |bad
def oP:Pa->SC->SC
 |[],c=>c
 |0::p,.seq x _=>oP p x
 |_::p,.seq _ x=>oP p x
 |0::p,.cond _ x _=>oP p x
 |_::p,.cond _ _ x=>oP p x
 |_::p,.block _ x=>oP p x
 |_::p,.loop x=>oP p x
 |_::p,.scope x=>oP p x
 |0::p,.rfunc _ _ x _=>oP p x
 |_::p,.rfunc _ _ _ x=>oP p x
 |_,c=>c
def zC:Pa->SC->SC->SC
 |[],_,t=>t
 |0::p,.seq x y,t=>.seq (zC p x t) y
 |_::p,.seq y x,t=>.seq y (zC p x t)
 |0::p,.cond c x y,t=>.cond c (zC p x t) y
 |_::p,.cond c y x,t=>.cond c y (zC p x t)
 |_::p,.block n x,t=>.block n (zC p x t)
 |_::p,.loop x,t=>.loop (zC p x t)
 |_::p,.scope x,t=>.scope (zC p x t)
 |0::p,.rfunc g l x y,t=>.rfunc g l (zC p x t) y
 |_::p,.rfunc g l y x,t=>.rfunc g l y (zC p x t)
 |_,c,_=>c
def akZ(n:Nat):Pa->Pa
 |[]=>[n]
 |k::l=>bif n.ble k then(bif n.beq k then k::l else n::k::l)else k::akZ n l
def CI(r:Pa):List SO->Pa
 |[]=>r
 |o::l=>match o.dst with|some n=>akZ n (CI r l)|none=>CI r l
def aq7(r:Pa):Pa->Pa
 |[]=>r
 |n::l=>akZ n (aq7 r l)
def rW(r:Pa):SC->Pa
 |.ops l=>CI r l
 |.draw l k=>CI (CI r k) l
 |.drawE _ l k=>CI (CI r k) l
 |.drawZ _ _ l k=>CI (CI r k) l
 |.seq x y=>rW (rW r y) x
 |.cond _ x y=>rW (rW r y) x
 |.block _ x=>rW r x
 |.loop x=>rW r x
 |.scope x=>rW r x
 |.rfunc _ l x y=>rW (rW (aq7 r l) y) x
 |_=>r
abbrev JT(p:Pa)(c:SC):={x:SC // x=oP p c}
abbrev Fe(p:Pa)(c:SC):={x:SC->SC // ∀t,x t=zC p c t}
abbrev wT(p:Pa)(c:SC):={x:Pa // x=rW [] (oP p c)}
def Qbd{P:Program}{ops:Array Oper}{p:Nat}{js:Pa}(hc:uq ops p=true):(flags ops p js).length=((ops.toList.take p).map (Xd P ops)).length:=by
 have:=(Zf hc).1;simp[flags];omega
def ak0{P:Program}{ops:Array Oper}{p:Nat}{js:Pa}(hc:uq ops p=true)(h:adJ (flags ops p js++bkF ops p js) ((ops.toList.take p).map (Xd P ops))=true):wA ops p js=true:=by
 unfold adJ at h;rw[<- Qbd (js:=js) hc,zzg]at h;unfold bkF at h;cases hb:wA ops p js with
 |true=>rfl
 |false=>rw[hb]at h;simp at h
def Ym(P:Program):Code->SC
 |.skip=>.skip
 |.region _ ops false=>.ops (ops.toList.map (Xd P ops))
 |.region _ ops true=>if P.follows .mixedOrders&&uq ops (Se ops)then(match Qei ops (Se ops)with
  |some js=>.drawE (flags ops (Se ops) js++bkF ops (Se ops) js) ((ops.toList.take (Se ops)).map (Xd P ops)) ((ops.toList.drop (Se ops)).map (Xd P ops))
  |none=>(match Nx ops (Se ops)with
   |some (js,_,_,t)=>.drawZ t (flags ops (Se ops) js) ((ops.toList.take (Se ops)).map (Xd P ops)) ((ops.toList.drop (Se ops)).map (Xd P ops))
   |none=>.draw ((ops.toList.take (Se ops)).map (Xd P ops)) ((ops.toList.drop (Se ops)).map (Xd P ops))))else .bad
 |.seq a b=>.seq (Ym P a) (Ym P b)
 |.cond c a b=>.cond (aC c) (Ym P a) (Ym P b)
 |.block id c=>.block id (Ym P c)
 |.loop c=>.loop (Ym P c)
 |.exit id=>.exit id
 |.label _=>.skip
 |.scope c=>.scope (Ym P c)
 |.rangeFunc g ps ig body=>.rfunc (aC g) ps.toList (Ym P ig) (Ym P body)
 |.ret=>.ret
 |_=>.bad
def uw(st:Nat->LS)(l:Nat)(x:LS):Nat->LS:=fun i=>if i=l then x else st i
def AM.at_(m:AM)(l:Nat)(x:LS):AM:={m with st:=uw m.st l x}
def AM.bK(m:AM):AM:={m with st:=uw m.st m.ln .ready,ln:=m.ln+1}
def Qal(T:P2):Pa->P2->P2
 |p::ps,x::xs=>Qal (T.set p x) ps xs
 |_,_=>T
section vc
variable (P:Program) (gl:Nat->AV) (orc:UV) (Y:YT)
def VZ(k:AS->(R0)->Prop)(Q:R0):R0
 |.normal,s=>k s Q
 |ex,s=>Q ex s
def nq(id:Nat)(Q:R0):R0
 |.exit id',s=>if id'=id then Q .normal s else Q (.exit id') s
 |ex,s=>Q ex s
def wE(Q:R0):R0
 |.goto _,_=>False
 |ex,s=>Q ex s
def nr(I:AS->Prop)(μ:AS->Nat)(s:AS)(Q:R0):R0
 |.normal,s'=>I s'/\μ s'<μ s
 |ex,s'=>Q ex s'
def PS(l:Nat)(K:Bool->AM->Prop):R0
 |.normal,s=>K true (s.m.at_ l .ready)
 |.ret,s=>K false (s.m.at_ l (.done .ret))
 |.exit id,s=>K false (s.m.at_ l (.done (.exit id)))
 |_,_=>False
def JU(l:Nat)(k:AS->Prop):R0
 |.normal,s=>s.m.st l=.ready/\k ⟨s.T,s.m.at_ l .busy⟩
 |_,_=>False
def CJ(l:Nat)(T:P2)(m:AM)(Q:R0):LS->Prop
 |.ready=>Q .normal ⟨T,m.at_ l .gone⟩
 |.done ex=>Q ex ⟨T,m.at_ l .gone⟩
 |_=>False
def Yin(l n:Nat)(k:P2->AM->(Bool->AM->Prop)->Prop):YT:=fun l' args m K=>if l'=l then m.st l=.ready/\args.length=n/\k args m K else Y l' args m K
def vc:SC->AS->(R0)->Prop
 |.skip,s,Q=>Q .normal s
 |.ops l,s,Q=>Zn P gl orc Y l s (Q .normal)
 |.draw l l2,s,Q=>Sf P gl orc Y l2 (Q .normal) l s.T s.m []
 |.drawE fl l l2,s,Q=>Sf P gl orc Y l2 (Q .normal) l s.T s.m []\/(∃ms,nh P gl orc Y l2 (Q .normal) s.m ms l fl ms s.m s.T)\/(adJ fl l=true/\∃(ms:QP)(R:So),(∃x:AV×AM,R x.1 x.2)/\∀x:AV×AM,R x.1 x.2->iF P gl orc Y R l2 (Q .normal) s.m (ms++[x]) l fl (ms++[x]) s.m s.T)\/(∃(ms:QP)(R:So)(Vs:P2),(∃x:AV×AM,R x.1 x.2)/\∀x:AV×AM,R x.1 x.2->iF P gl orc Y R l2 (Q .normal) s.m (ms++[x]) l fl (ms++[x]) s.m s.T/\Zj P gl orc s.m l fl (ms++[x]) s.T=Vs)\/∃ms,gZ P gl orc Y l2 (Q .normal) s.m ms l fl ms s.m s.T
 |.drawZ z fl l l2,s,Q=>(∀i as' m K,¬Y i as' m K)/\s.T.getD z .junk=.junk/\∃ms,gZ P gl orc Y l2 (Q .normal) s.m ms l fl ms s.m s.T
 |.seq a b,s,Q=>vc a s (VZ (vc b) Q)
 |.cond x a b,s,Q=>match ev gl s.T x with
  |.bool t=>(t=true->vc a s Q)/\(t=false->vc b s Q)
  |_=>False
 |.block id c,s,Q=>vc c s (nq id Q)
 |.loop c,s,Q=>∃(I:AS->Prop)(μ:AS->Nat),I s/\∀s',I s'->vc c s' (nr I μ s' Q)
 |.exit id,s,Q=>Q (.exit id) s
 |.scope c,s,Q=>vc c s (wE Q)
 |.rfunc g ps ig body,s,Q=>match ev gl s.T g with
  |.fn f first cap=>s.m.st s.m.ln=.gone->aB P gl (Yin Y s.m.ln ps.length fun args m K=>vc ig ⟨Qal s.T ps args,m⟩ (JU s.m.ln fun s'=>vc body s' (PS s.m.ln K))) f (first++[.yld s.m.ln]++cap) (s.m.bK)
    fun _ m'=>CJ s.m.ln s.T m' Q (m'.st s.m.ln)
  |_=>False
 |.ret,s,Q=>Q .ret s
 |.bad,_,_=>False
end vc
section
variable {N:Nat} {w0:eS} {r:Option Nat} {an:Nat->Nat->Prop} {S:G×World} {Y:YT} {P:Program} {gl:Nat->AV} {orc:UV} {γ:G} {w:World}
def lift(N:Nat)(w0:eS)(r:Option Nat)(an:Nat->Nat->Prop)(S:G×World)(P:Program)(gl:Nat->AV)(Y:YT)(Q:R0):PP:=fun ex a w=>∃γ s,ew N w0 r an S P gl Y γ w s a/\Q ex s
def au.V0{B:Nat->PH}{L:Nat->Option Nat}(hm:au N w0 an γ w B L)(o:Obj):
  au N w0 an {γ with sp:=fun b=>γ.sp b\/b=w.heap.size} (w.alloc o) B L/\Ev w γ (w.alloc o) {γ with sp:=fun b=>γ.sp b\/b=w.heap.size}:=by
 have bT:Ev w γ (w.alloc o) {γ with sp:=fun b=>γ.sp b\/b=w.heap.size}:=
  ⟨zd,fun b o' hb hr=>⟨hr,cell_of_heap (Below.heap_alloc w o b hb)⟩,fun _ _ h=>h,fun _=>zzab _,fun _ _ h=>h,rfl,
   fun i b _ ho=>⟨ho,fun arr e he=>⟨arr,by rw[Below.heap_alloc w o b (hm.own i b ho).2.1];exact he,zzab _⟩,fun _ h=>h⟩,
   fun b hb=>⟨.inl hb,Below.heap_alloc w o b (hm.sp b hb).2.1⟩,Sz.of_same (Below.heap_alloc w o)⟩
 refine⟨⟨w0.st _ _ _ _ hm.bs ⟨rfl,rfl,rfl,zd,fun b hb _=>Below.heap_alloc w _ b hb,bT.ro,fun b hb=>?_,fun _ _ h=>.inl h⟩,by have:=hm.hN;simp;omega,hm.an,fun b o h=>by have:=hm.robd b o h;simp;omega,
  fun id cells b hb h1=>?_,fun id b hb=>?_,hm.inj,fun id b hb=>?_,hm.oinj,fun b hb=>?_,fun id b hb=>?_,hm.minj,hm.len,hm.cur0⟩,bT⟩
 ·obtain hb|hb|(hb|rfl)|hb:=hb
  ·exact .inl (.inl hb)
  ·exact .inl (.inr (.inl hb))
  ·exact .inl (.inr (.inr (.inl hb)))
  ·exact .inr (zzab _)
  exact .inl (.inr (.inr (.inr hb)))
 ·obtain⟨arr,e,h2,h3,h4⟩:=hm.box id cells b hb h1;exact⟨arr,e,by rw[Below.heap_alloc w _ b (aR h2)];exact h2,h3.mono bT,h4⟩
 ·obtain⟨h1,h2,h3⟩:=hm.β id b hb;exact⟨h1,by simp;omega,h3⟩
 ·obtain⟨h1,h2,h3⟩:=hm.own id b hb;exact⟨h1,by simp;omega,h3⟩
 ·obtain hb|rfl:=hb
  ·obtain⟨h1,h2,h3⟩:=hm.sp b hb;exact⟨h1,by simp;omega,h3⟩
  refine⟨hm.hN,zd,fun o' h=>?_,fun id h=>?_,fun id h=>?_⟩
  ·have:=hm.robd _ _ h;omega
  ·have:=(hm.β id _ h).2.1;omega
  have:=(hm.own id _ h).2.1;omega
 obtain⟨h1,h2,h3,h4,h5,h6,h8,h7⟩:=hm.mm id b hb;refine⟨h1,by simp;omega,h3,h4,h5,?_,h8,h7.mono bT.cH.Aq (Below.heap_alloc w o b h2)⟩;rintro(h|rfl)
 ·exact h6 h
 omega
def au.aid{B:Nat->PH}{L:Nat->Option Nat}(hm:au N w0 an γ w B L){D:Nat}(hD:γ.sp D){o o0:Obj}(h0:w.heap[D]?=some o0)(hnc:∀c e f,o0≠.cells c e f)(aws:∀c e f,o≠.cells c e f)
  {γ':G}(hγ:γ'=γ\/γ'={γ with sp:=fun b=>γ.sp b/\b≠D})(UB:γ'=γ->qy (some o0) (some o)):
  au N w0 an γ' (w.putObj D o) B L/\Ng w γ (w.putObj D o) γ'/\(∀wS γS,eD wS γS w γ->(γ'=γ\/¬γS.sp D)->eD wS γS (w.putObj D o) γ'):=by
 have ai:D<w.heap.size:=aR h0;have cQ:∀b,b≠D->(w.putObj D o).heap[b]?=w.heap[b]?:=fun b hb=>World.putObj_heap_other hb;have EP:(w.putObj D o).heap[D]?=some o:=World.putObj_heap_same ai
 have bL:∀b o',(w.putObj D o).cell? ⟨b,o',none⟩=w.cell? ⟨b,o',none⟩:=fun b o'=>by
  by_cases hb:b=D
  ·subst hb;simp only[World.cell?,EP,h0];cases o<;>cases o0<;>first|rfl|exact absurd rfl (hnc _ _ _)|exact absurd rfl (aws _ _ _)
  exact cell_of_heap (cQ b hb)
 have hβ:γ'.β=γ.β:=by rcases hγ with rfl|rfl<;>rfl
 have cr:γ'.own=γ.own:=by rcases hγ with rfl|rfl<;>rfl
 have cB:γ'.cur=γ.cur:=by rcases hγ with rfl|rfl<;>rfl
 have gh:γ'.ro=γ.ro:=by rcases hγ with rfl|rfl<;>rfl
 have gN:γ'.mm=γ.mm:=by rcases hγ with rfl|rfl<;>rfl
 have hlp:γ'.lp=γ.lp:=by rcases hγ with rfl|rfl<;>rfl
 have cW:∀b,γ'.sp b->γ.sp b:=by obtain rfl|rfl:=hγ;exact fun _ h=>h;exact fun _ h=>h.1
 have ak1:∀b,γ.sp b->b≠D->γ'.sp b:=fun b hb h=>by
  obtain rfl|rfl:=hγ
  ·exact hb
  exact⟨hb,h⟩
 have hsz:Sz w (w.putObj D o):=fun b' arr e f h=>⟨arr,by rw[cQ b' (by rintro rfl;rw[h0]at h;cases h;exact hnc _ _ _ rfl)];exact h,rfl⟩
 have adL:Ng w γ (w.putObj D o) γ':=by
  refine⟨zd,fun b o' _ hr=>⟨by rw[gh];exact hr,bL b o'⟩,fun _ _ h=>by rw[hβ];exact h,fun _=>by rw[cB];exact zzab _,fun _ _ h=>by rw[gN];exact h,fun _ _ h=>by rw[hlp];exact h,fun id b _ ho=>⟨by rw[cr];exact ho,fun arr e he=>⟨arr,?_,zzab _⟩,fun _ h=>by rw[gh]at h;exact h⟩,hsz⟩;rw[cQ b (by rintro rfl;exact(hm.sp b hD).2.2.2.2 id ho)];exact he
 refine⟨⟨w0.st _ _ _ _ hm.bs ⟨rfl,rfl,rfl,zd,fun b _ gi=>cQ b (by rintro rfl;exact gi (.inr (.inr (.inl hD)))),adL.ro,fun b hb=>.inl ?_,fun b o' h=>.inl (by rw[gh]at h;exact h)⟩,Nm hm.hN,
  fun b o' h=>hm.an b o' (by rw[gh]at h;exact h),fun b o' h=>by rw[gh]at h;simpa using hm.robd b o' h,fun id cells b hb h1=>?_,fun id b hb=>?_,fun id id' b h h'=>hm.inj id id' b (by rw[hβ]at h;exact h) (by rw[hβ]at h';exact h'),
  fun id b hb=>?_,fun id id' b h h'=>hm.oinj id id' b (by rw[cr]at h;exact h) (by rw[cr]at h';exact h'),fun b hb=>?_,fun id b hb=>?_,fun id id' b h h'=>hm.minj id id' b (by rw[gN]at h;exact h) (by rw[gN]at h';exact h'),fun id n h=>by rw[cB];exact hm.len id n h,fun id h=>by rw[cB];exact hm.cur0 id h⟩,adL,fun wS γS e hc=>?_⟩
 ·obtain⟨id,hb⟩|⟨id,hb⟩|hb|⟨F,hb⟩:=hb
  ·rw[hβ]at hb;exact .inl ⟨id,hb⟩
  ·rw[cr]at hb;exact .inr (.inl ⟨id,hb⟩)
  ·exact .inr (.inr (.inl (cW b hb)))
  rw[gN]at hb;exact .inr (.inr (.inr ⟨F,hb⟩))
 ·rw[hβ]at h1;obtain⟨arr,e,h2,h3,h4⟩:=hm.box id cells b hb h1;exact⟨arr,e,by rw[cQ b (by rintro rfl;exact(hm.sp b hD).2.2.2.1 id h1)];exact h2,h3.eR adL,h4⟩
 ·rw[hβ]at hb;obtain⟨h1,h2,h3,h4,h5⟩:=hm.β id b hb;exact⟨h1,Nm h2,by rw[gh];exact h3,by rw[cr];exact h4,h5⟩
 ·rw[cr]at hb;simpa using hm.own id b hb
 ·obtain⟨h1,h2,h3,h4,h5⟩:=hm.sp b (cW b hb);exact⟨h1,Nm h2,by rw[gh];exact h3,by rw[hβ];exact h4,by rw[cr];exact h5⟩
 ·rw[gN]at hb;obtain⟨h1,h2,h3,h4,h5,h6,h8,h7⟩:=hm.mm id b hb;exact⟨h1,Nm h2,by rw[gh];exact h3,by rw[hβ];exact h4,by rw[cr];exact h5,fun h=>h6 (cW b h),by rw[hβ];exact h8,h7.mono adL (cQ b (by rintro rfl;exact h6 hD))⟩
 refine⟨Nm e.size,fun b o' hb hr=>⟨by rw[gh];exact(e.ro b o' hb hr).1,(bL b o').trans (e.ro b o' hb hr).2⟩,fun id b h=>by rw[hβ];exact e.β id b h,fun id=>by rw[cB];exact e.cur id,fun b F h=>by rw[gN];exact e.mm b F h,fun i l h=>by rw[hlp];exact e.lp i l h,fun id b tI ho=>?_,fun b hb=>?_,e.ss.trans hsz⟩
 ·rw[cB]at tI;obtain⟨g1,g2,g3⟩:=e.own id b tI ho;refine⟨by rw[cr];exact g1,fun arr te he=>?_,fun o' h=>g3 o' (by rw[gh]at h;exact h)⟩;obtain⟨bN,k1,k2⟩:=g2 arr te he;exact⟨bN,by rw[cQ b (by rintro rfl;exact(hm.sp b hD).2.2.2.2 id g1)];exact k1,k2⟩
 obtain⟨g1,g2⟩:=e.sp b hb;by_cases hbD:b=D
 ·subst hbD;obtain rfl|hc:=hc
  ·refine⟨g1,g2.trans ?_⟩;rw[h0,EP];exact UB rfl
  exact absurd hb hc
 exact⟨ak1 b g1 hbD,by rw[cQ b hbD];exact g2⟩
def Jv{b:Frame}{a:Act}{k:List Item}{cs:List Frame}{w:World}{c:Code}:step P (lone (b.atR a (.code (.scope c)::k)) cs w)=.next (lone (b.atR a (.code c::.inScope c::k)) cs w):=
 step_lone_go (by simp[stepG,stepG.exec,Frame.atR])
def zD{b:Frame}{a:Act}{k:List Item}{cs:List Frame}{w:World}{c:Code}:step P (lone (b.atR a (.inScope c::k)) cs w)=.next (lone (b.atR a k) cs w):=
 step_lone_go (by simp[stepG,stepG.exec,Frame.atR])
def lJ{c:Code}{Q:PP}{a:Act}{w:World}(h:c.wpIn (FW r) 0 P (Exit.noGoto Q) a w):(Code.scope c).wpIn (FW r) 0 P Q a w:=by
 intro b k cs gh hb hr;obtain⟨e,a₁,w₁,hq,fe⟩:=h b (.inScope c::k) cs gh hb hr;have h0:(lone (b.atR a (.code (.scope c)::k)) cs w).fenced P (FW r):=fenced_calm hb hr rfl;cases e with
 |normal=>exact⟨.normal,a₁,w₁,hq,.head h0 Jv (StepsIn.trans fe (.one (fenced_calm hb hr rfl) zD))⟩
 |exit id=>
  refine⟨.exit id,a₁,w₁,hq,fun k' hk=>.head h0 Jv (fe.1 k' (by simp[exitTo,hk])),fun zu hk=>?_⟩;obtain⟨k₁,h1,h2⟩:=fe.2 zu (by simp[exitTo,hk]);exact⟨k₁,h1,.head h0 Jv h2⟩
 |goto l=>exact hq.elim
 |ret=>exact⟨_,a₁,w₁,hq,.of_steps (.one h0 Jv) fe⟩
 |panic ch=>exact⟨_,a₁,w₁,hq,.of_steps (.one h0 Jv) fe⟩
 |outgrown=>exact⟨_,a₁,w₁,hq,.of_steps (.one h0 Jv) fe⟩
def Ff{γ:G}{w:World}:∀(ps:Pa)(args:P2)(vs:PQ)(T:P2)(arr:P1),args.length=ps.length->ak w γ args vs->ak w γ T arr.toList->
  ak w γ (Qal T ps args) ((ps.toArray.zip vs.toArray).foldl (fun(tmps:P1)(p:Nat×Value)=>tmps.setIfInBounds p.1 p.2) arr).toList:=by
 intro ps args vs T arr hl hr ht
 have e:(ps.toArray.zip vs.toArray).foldl (fun(tmps:P1)(p:Nat×Value)=>tmps.setIfInBounds p.1 p.2) arr=(ps.zip vs).foldl (fun(tmps:P1)(p:Nat×Value)=>tmps.setIfInBounds p.1 p.2) arr:=by
  rw[<- Array.foldl_toList];simp
 rw[e];clear e;induction ps generalizing args vs T arr with
 |nil=>
  cases args with
  |nil=>simpa[Qal]using ht
  |cons x xs=>simp at hl
 |cons p ps ih=>
  cases args with
  |nil=>simp at hl
  |cons x xs=>
   cases vs with
   |nil=>have:=hr.1;simp at this
   |cons v vs=>
    have h0:aA w γ x v:=hr.2 0 x v rfl rfl;have hs:ak w γ xs vs:=⟨by have:=hr.1;simpa using this,fun i x y h1 h2=>hr.2 (i+1) x y (Nm h1) (Nm h2)⟩;simp only[zzdf,zzcx,Qal];refine ih xs vs _ _ (Nm hl) hs ?_;rw[zzdk];exact ht.set p h0
def cS.put{m:AM}{i l:Nat}{rc:Loop}{x:LS}(h:cS γ w m)(hi:γ.lp i=some l)(cW:γ.sp l)(hl:l<w.heap.size)(hx:JJ x rc):cS γ (w.putObj l (.loop rc)) (m.at_ i x):=by
 refine⟨fun i'=>?_,h.2.1,h.2.2.1,fun i' l' eY=>?_⟩
 rotate_left
 ·obtain⟨q1,r,q2⟩:=h.2.2.2 i' l' eY;by_cases D4:l'=l
  ·subst D4;exact⟨q1,rc,World.putObj_heap_same hl⟩
  exact⟨q1,r,(World.putObj_heap_other D4).trans q2⟩
 by_cases di:i'=i
 ·subst di;exact .inr ⟨l,hi,cW,rc,World.putObj_heap_same hl,by simpa[AM.at_,uw]using hx⟩
 rcases h.1 i' with h'|⟨l',h0,h1,r,h2,h3⟩
 ·exact .inl (by simp[AM.at_,uw,di,h'])
 have eY:l'≠l:=by rintro rfl;exact di (h.2.2.1 _ _ _ h0 hi)
 exact .inr ⟨l',h0,h1,r,(World.putObj_heap_other eY).trans h2,by simpa[AM.at_,uw,di]using h3⟩
def G.dP(γ:G)(i l:Nat):G:={γ with lp:=fun j=>if j=i then some l else γ.lp j}
def Fh(w:World){γ:G}{i l:Nat}(h:γ.lp i=none):eD w γ w (γ.dP i l):=
 ⟨zzab _,fun _ _ _ h=>⟨h,rfl⟩,fun _ _ h=>h,fun _=>zzab _,fun _ _ h=>h,fun j l' hj=>by
  have:j≠i:=by rintro rfl;rw[h]at hj;cases hj
  simp[G.dP,this,hj],fun _ _ _ h=>⟨h,fun arr _ h=>⟨arr,h,zzab _⟩,fun _ h=>h⟩,fun _ h=>⟨h,.inl rfl⟩,Sz.refl w⟩
def au.dP{B:Nat->PH}{L:Nat->Option Nat}(hm:au N w0 an γ w B L){i l:Nat}(h:γ.lp i=none):au N w0 an (γ.dP i l) w B L:=by
 have bT:=(Fh w h (l:=l)).Aq;refine⟨w0.st _ _ _ _ hm.bs ⟨rfl,rfl,rfl,zzab _,fun _ _ _=>rfl,fun _ _ _ h=>⟨h,rfl⟩,fun _ hb=>.inl hb,fun _ _ h=>.inl h⟩,hm.hN,hm.an,hm.robd,fun id cells b hb h1=>?_,hm.β,hm.inj,hm.own,hm.oinj,hm.sp,fun id b hb=>?_,hm.minj,hm.len,hm.cur0⟩
 ·obtain⟨arr,e,h2,h3,h4⟩:=hm.box id cells b hb h1;exact⟨arr,e,h2,h3.eR bT,h4⟩
 obtain⟨h1,h2,h3,h4,h5,h6,h8,h7⟩:=hm.mm id b hb;exact⟨h1,h2,h3,h4,h5,h6,h8,h7.mono bT rfl⟩
def oQ{B:Nat->PH}{L:Nat->Option Nat}(hm:au N w0 an γ w B L){l:Nat}(hl:γ.sp l){rc:Loop}(h0:w.heap[l]?=some (.loop rc))(st:LoopState)(pd:Option Code):
  au N w0 an γ (w.putObj l (.loop {rc with state:=st,pending:=pd})) B L/\eD w γ (w.putObj l (.loop {rc with state:=st,pending:=pd})) γ:=by
 obtain⟨h1,_,h3⟩:=hm.aid hl (o:=.loop {rc with state:=st,pending:=pd}) h0 (fun _ _ _ h=>by cases h) (fun _ _ _ h=>by cases h) (.inl rfl) (fun _=>.inr ⟨rc,st,pd,rfl,rfl⟩);exact⟨h1,h3 w γ (Ev.refl w γ).cH (.inl rfl)⟩
def Fi{g:Operand}{ps:Array Tmp}{ig body:Code}
  (ihA:∀(l:Nat)(S:G×World)(γ:G)(w:World)(s:AS)(a:Act)(Q:R0),vc P gl orc Y (Ym P ig) s Q->ew N w0 (some l) an S P gl Y γ w s a->ig.wpIn (FW (some l)) 0 P (lift N w0 (some l) an S P gl Y Q) a w)
  (ihB:∀(l:Nat)(S:G×World)(γ:G)(w:World)(s:AS)(a:Act)(Q:R0),vc P gl orc Y (Ym P body) s Q->ew N w0 (some l) an S P gl Y γ w s a->body.wpIn (FW (some l)) 0 P (lift N w0 (some l) an S P gl Y Q) a w)
  {s:AS}{a:Act}{Q:R0}(h:vc P gl orc Y (Ym P (.rangeFunc g ps ig body)) s Q)(hs:ew N w0 r an S P gl Y γ w s a):
  (Code.rangeFunc g ps ig body).wpIn (FW r) 0 P (lift N w0 r an S P gl Y Q) a w:=by
 simp only[Ym,vc]at h;have hg:=hs.ev g;split at h
 case h_2=>exact h.elim
 rename_i f first cap e1
 rw[e1]at hg;obtain⟨fa,ca,hv,r1,r2⟩:=hg.qA;refine wpIn_rangeFunc fun fn _=>?_
 obtain⟨l,mark,w1,γ1',rc,he,oo,hsp1',hm1',hev1',hd1',UI⟩:∃(l:Nat)(mark:List Deferred)(w1:World)(γ1:G)(df:Nat),
   (Instr.enterLoop fn a.tmps ps ig body (FW r).round).run P w=.ok (l,mark) w1/\w1.heap[l]?=some (.loop {state:=.ready,pending:=none,fn,tmps:=a.tmps,params:=ps,assign:=ig,body,defers:=df})/\γ1.sp l/\
   au N w0 an γ1 w1 s.m.B s.m.L/\Ev w γ w1 γ1/\Dfr S.2.heap.size γ1 w1 (mark++a.defers)/\w.heap.size<=l:=by
  cases r with
  |none=>
   obtain⟨tK,fh⟩:=hs.m.V0 (.deferred (some []));obtain⟨y6,aq8⟩:=tK.V0 (.loop {state:=.ready,pending:=none,fn,tmps:=a.tmps,params:=ps,assign:=ig,body,defers:=w.heap.size});refine⟨w.heap.size+1,_,_,_,w.heap.size,run_enterLoop_outer fn a.tmps ps ig body,?_,Or.inr zd,y6,fh.trans aq8,?_,zE⟩
   ·have:=World.alloc_heap_new (w.alloc (.deferred (some []))) (.loop {state:=.ready,pending:=none,fn,tmps:=a.tmps,params:=ps,assign:=ig,body,defers:=w.heap.size});simpa using this
   have hd:=hs.d.aU (fh.trans aq8).cH
   have oM:∀x∈a.defers,∀D,x.target=.collected D->D<w.heap.size:=fun x hx D hD=>by
    obtain⟨D',q1,_,_,q4⟩:=hs.d.2.1 x hx;rw[hD]at q1;cases q1;exact aR q4
   refine⟨hd.1,fun x hx=>?_,?_⟩
   ·simp only[zzae,zzai,zzaq]at hx;obtain rfl|hx:=hx
    ·refine⟨w.heap.size,rfl,hs.d.1,.inl (.inr rfl),?_⟩;rw[Below.heap_alloc _ _ _ zd];exact World.alloc_heap_new w _
    exact hd.2.1 x hx
   simp only[zzae,zzai,zzcc];refine⟨fun x hx D hD iD=>?_,hd.2.2⟩;simp at hD;have:=oM x hx D iD;omega
  |some l0=>
   obtain⟨oy,aq9,ara⟩:=hs.rd l0 rfl;obtain⟨tK,fh⟩:=hs.m.V0 (.loop {state:=.ready,pending:=none,fn,tmps:=a.tmps,params:=ps,assign:=ig,body,defers:=aq9.defers});exact⟨w.heap.size,[],_,_,aq9.defers,run_enterLoop_inner ara fn a.tmps ps ig body,World.alloc_heap_new w _,Or.inr rfl,tK,fh,hs.d.aU fh.cH,zzab _⟩
 have gM:l<w1.heap.size:=aR oo;generalize dG:s.m.ln=i at h;have V1:=hs.ls.mono hev1';have aie:γ1'.lp i=none:=V1.2.1 i zE
 have PN:∀j,γ1'.lp j≠some l:=fun j hj=>by
  rw[hev1'.lp]at hj;have:=(hs.m.sp l (hs.ls.2.2.2 j l hj).1).2.1;omega
 let γ1:=γ1'.dP i l
 have arb:eD w1 γ1' w1 γ1:=Fh w1 aie;have fh:eD w γ w1 γ1:=hev1'.cH.trans arb;have tK:au N w0 an γ1 w1 s.m.B s.m.L:=hm1'.dP aie;have V2:γ1.sp l:=hsp1';have V3:γ1.lp i=some l:=by simp[γ1,G.dP]
 have hd1:=hd1'.aU arb
 have hE:=h (by
  rcases hs.ls.1 i with h|⟨l',h0,_⟩
  ·exact h
  rw[hs.ls.2.1 i zE]at h0;cases h0)
 have oC:ak w1 γ1 (first++[.yld i]++cap) (fa.toList++[.func (.yield l) #[] #[]]++ca.toList):=((r1.aU fh).append (ak.cons (.yld V3) ak.nil)).append (r2.aU fh)
 have awt:cS γ1 w1 s.m.bK:=by
  refine⟨fun j=>?_,fun j hj=>?_,fun j j' l' h1 h2=>?_,fun j l' h1=>?_⟩
  ·by_cases hj:j=i
   ·subst hj;exact .inr ⟨l,V3,V2,_,oo,by simp[AM.bK,uw,dG,JJ]⟩
   rcases V1.1 j with h|⟨l',h0,h1,r',h2,h3⟩
   ·exact .inl (by simp[AM.bK,uw,dG,hj,h])
   exact .inr ⟨l',by simp[γ1,G.dP,hj,h0],h1,r',h2,by simpa[AM.bK,uw,dG,hj]using h3⟩
  ·have Nj:i+1<=j:=by simpa[AM.bK,dG]using hj
   have:j≠i:=zE
   simp[γ1,G.dP,this,V1.2.1 j zE]
  ·by_cases hj:j=i<;>by_cases Nj:j'=i
   ·rw[hj,Nj]
   ·simp[γ1,G.dP,hj]at h1;simp[γ1,G.dP,Nj]at h2;subst h1;exact absurd h2 (PN j')
   ·simp[γ1,G.dP,hj]at h1;simp[γ1,G.dP,Nj]at h2;subst h2;exact absurd h1 (PN j)
   simp[γ1,G.dP,hj]at h1;simp[γ1,G.dP,Nj]at h2;exact V1.2.2.1 j j' l' h1 h2
  by_cases hj:j=i
  ·simp[γ1,G.dP,hj]at h1;subst h1;exact⟨V2,_,oo⟩
  simp[γ1,G.dP,hj]at h1;exact V1.2.2.2 j l' h1
 refine⟨l,mark,w1,{target:=.fn (.func f) ca,args:=fa++#[.func (.yield l) #[] #[]]},w1,f,(fa.toList++[Value.func (.yield l) #[] #[]]++ca.toList).toArray,w1,he,?_,fun _ _=>trivial,?_,fun h=>by simp[FW,Fence.wide]at h,?_⟩
 ·have hc:a.eval (.const (.func (.yield l) #[] #[]))=.func (.yield l) #[] #[]:=rfl;simp[resolve,hv,hc,Deferred.ofValue,rangeCall]
 ·simp[invoke,Qea hE.1]
 have V4:=hE.2 N w0 an γ1 w1 _ tK awt (fun g=>(hs.g g).aU fh.cU) ?_ oC
 ·refine CallsIn.mono (F:=FW r) (n:=0) (show CallsIn (FW r) 0 P f _ w1 _ from V4) ?_;rintro en w3 ⟨v,γ3,r',m',rfl,g1,g2,g3,g4,g5⟩;have awu:=(g1.sp l V2).1
  have fin:∀(PT:Loop)(pd:Option Code),w3.heap[l]?=some (.loop PT)->(∀ex,ex=Exit.normal/\pd=none\/pd=qI ex/\pd.isSome=true->PT.state≠.busy->PT.pending=pd->Q ex ⟨s.T,m'.at_ i .gone⟩->rangePost (FW r) 0 P l (lift N w0 r an S P gl Y Q) {a with defers:=mark++a.defers} (.returned v) w3):=by
   intro PT pd arc ex hex Nf hpd hQ;obtain⟨hm4,ard⟩:=oQ g2 awu arc .exhausted PT.pending;refine⟨PT.pending,_,run_endLoop arc Nf,?_⟩;have bT:eD w γ (w3.putObj l (.loop {PT with state:=.exhausted})) γ3:=(fh.trans g1).trans ard
   have zB:ew N w0 r an S P gl Y γ3 (w3.putObj l (.loop {PT with state:=.exhausted})) ⟨s.T,m'.at_ i .gone⟩ {a with defers:=mark++a.defers}:=by
    have adM:=g1.lp i l V3;refine⟨hm4,?_,hs.rd.aU bT,hs.t.aU bT,hd1.aU (g1.trans ard),fun g=>(hs.g g).aU bT.cU,hs.y.mono bT,hs.e.trans bT⟩;refine⟨fun j=>?_,g3.2.1,g3.2.2.1,fun j l' eY=>?_⟩
    rotate_left
    ·obtain⟨q1,r,q2⟩:=g3.2.2.2 j l' eY;by_cases D4:l'=l
     ·subst D4;exact⟨q1,_,World.putObj_heap_same (aR q2)⟩
     exact⟨q1,r,(World.putObj_heap_other D4).trans q2⟩
    by_cases hj:j=i
    ·exact .inl (by simp[AM.at_,uw,hj])
    rcases g3.1 j with h|⟨l',h0,h1,r',h2,h3⟩
    ·exact .inl (by simp[AM.at_,uw,hj,h])
    have eY:l'≠l:=by rintro rfl;exact hj (g3.2.2.1 _ _ _ h0 adM)
    exact .inr ⟨l',h0,h1,r',(World.putObj_heap_other eY).trans h2,by simpa[AM.at_,uw,hj]using h3⟩
   generalize w3.putObj l (.loop {PT with state:=.exhausted})=w4 at zB;rw[hpd];obtain⟨rfl,rfl⟩|⟨hex,V5⟩:=hex
   ·exact⟨γ3,_,zB,hQ⟩
   cases ex with
   |ret=>simp only[qI]at hex;subst hex;exact wpIn_ret ⟨γ3,_,zB,hQ⟩
   |exit id=>simp only[qI]at hex;subst hex;exact wpIn_exit ⟨γ3,_,zB,hQ⟩
   |_=>simp only[qI]at hex;subst hex;cases V5
  have hl3:=g3.1 i;have adM:=g1.lp i l V3;cases bY:m'.st i with
  |gone=>rw[bY]at g5;exact g5.elim
  |busy=>rw[bY]at g5;exact g5.elim
  |ready=>
   rw[bY]at g5 hl3;obtain hl3|⟨l',q0,_,PT,q1,q2⟩:=hl3
   ·cases hl3
   obtain rfl:l'=l:=Option.some.inj (q0.symm.trans adM);exact fin PT none q1 .normal (.inl ⟨rfl,rfl⟩) (by rw[q2.1];simp) q2.2 g5
  |done ex=>
   rw[bY]at g5 hl3;obtain hl3|⟨l',q0,_,PT,q1,q2⟩:=hl3
   ·cases hl3
   obtain rfl:l'=l:=Option.some.inj (q0.symm.trans adM);exact fin PT _ q1 ex (.inr ⟨rfl,q2.2.2⟩) (by rw[q2.1];simp) q2.2.1 g5
 intro γ' w' V6 i' args m K vs fJ are zu hY l' adN;unfold Yin at hY;split at hY
 case isFalse=>exact hs.y γ' w' (fh.trans V6) i' args m K vs fJ are zu hY l' adN
 rename_i di;subst di;obtain rfl:l'=l:=Option.some.inj (adN.symm.trans (V6.lp _ _ V3));obtain⟨iE,aH,hY⟩:=hY
 have Nz:∃st pd,w'.heap[l']?=some (.loop {state:=st,pending:=pd,fn,tmps:=a.tmps,params:=ps,assign:=ig,body,defers:=rc}):=by
  rcases(V6.sp l' V2).2 with h|⟨r0,st,pd,h,h'⟩
  ·rw[oo]at h;exact⟨_,_,h⟩
  rw[oo]at h;cases h;exact⟨st,pd,h'⟩
 obtain⟨st,pd,Nz⟩:=Nz;have ak1:=(V6.sp l' V2).1;have ak2:=fh.trans V6;have hps:vs.toArray.size=ps.size:=by have:=zu.1;simp at this aH |-;omega
 refine⟨fn,_,ig,body,run_yield Nz hps,roundIn_of_wpIn (F:=FW none) trivial ?_⟩
 have arf:ew N w0 (some l') an (γ',w') P gl Y γ' w' ⟨Qal s.T ps.toList args,m⟩ {tmps:=(ps.zip vs.toArray).foldl (fun(tmps:P1)(p:Nat×Value)=>tmps.setIfInBounds p.1 p.2) a.tmps,defers:=[]}:=by
  refine⟨fJ,are,fun l hl=>?_,?_,⟨zzab _,fun x hx=>(by cases hx),List.Pairwise.nil⟩,fun g=>(hs.g g).aU ak2.cU,hs.y.mono ak2,(Ev.refl w' γ').cH⟩
  ·cases hl;exact⟨ak1,_,Nz⟩
  have:=Ff ps.toList args vs s.T a.tmps aH zu (hs.t.aU ak2);simpa using this
 refine wpIn_mono (ihA l' (γ',w') γ' w' _ _ _ hY arf) ?_;rintro ex a2 w2 ⟨γ2,s2,PU,hq2⟩;cases ex with
 |normal=>
  obtain⟨awv,hq2⟩:=hq2;have CK:=PU.ls.1 i';rw[awv]at CK;have arh:=PU.e.lp _ _ adN;obtain CK|⟨l2,q0,hsp2,rc2,q1,q2⟩:=CK
  ·cases CK
  obtain rfl:l'=l2:=Option.some.inj (arh.symm.trans q0);obtain⟨hm3,PV⟩:=oQ PU.m hsp2 q1 .busy rc2.pending;refine⟨_,run_beginRound q1 q2.1,?_⟩
  have ari:ew N w0 (some l') an (γ',w') P gl Y γ2 (w2.putObj l' (.loop {rc2 with state:=.busy})) ⟨s2.T,s2.m.at_ i' .busy⟩ a2:=
   ⟨hm3,PU.ls.put arh hsp2 (aR q1) rfl,PU.rd.aU PV,PU.t.aU PV,PU.d.aU PV,fun g=>(PU.g g).aU PV.cU,PU.y.mono PV,PU.e.trans PV⟩
  refine wpIn_mono (ihB l' (γ',w') γ2 _ _ _ _ hq2 ari) ?_;rintro ex a4 w4 ⟨γ4,s4,hs4,hq4⟩;obtain⟨PW,rc4,q4⟩:=hs4.rd _ rfl;have ak3:=hs4.e.lp _ _ adN;cases ex with
  |normal=>
   obtain⟨hm5,V7⟩:=oQ hs4.m PW q4 .ready none;exact⟨_,_,run_endRound none q4,true,γ4,s4.m.at_ i' .ready,rfl,hs4.e.trans V7,hm5,hs4.ls.put ak3 PW (aR q4) ⟨rfl,rfl⟩,hq4⟩
  |ret=>
   obtain⟨hm5,V7⟩:=oQ hs4.m PW q4 .done (some .ret);exact⟨_,_,run_endRound (some .ret) q4,false,γ4,s4.m.at_ i' (.done .ret),rfl,hs4.e.trans V7,hm5,hs4.ls.put ak3 PW (aR q4) ⟨rfl,rfl,rfl⟩,hq4⟩
  |exit id=>
   obtain⟨hm5,V7⟩:=oQ hs4.m PW q4 .done (some (.exit id));exact⟨_,_,run_endRound (some (.exit id)) q4,false,γ4,s4.m.at_ i' (.done (.exit id)),rfl,hs4.e.trans V7,hm5,hs4.ls.put ak3 PW (aR q4) ⟨rfl,rfl,rfl⟩,hq4⟩
  |_=>exact hq4.elim
 |_=>exact hq2.elim
def Jg:∀(c:Code)(r:Option Nat)(S:G×World)(γ:G)(w:World)(s:AS)(a:Act)(Q:R0),vc P gl orc Y (Ym P c) s Q->ew N w0 r an S P gl Y γ w s a->c.wpIn (FW r) 0 P (lift N w0 r an S P gl Y Q) a w
 |.skip,r,S,γ,w,s,a,Q,h,hs=>wpIn_skip ⟨γ,s,hs,h⟩
 |.label _,r,S,γ,w,s,a,Q,h,hs=>wpIn_label ⟨γ,s,hs,h⟩
 |.region id ops false,r,S,γ,w,s,a,Q,h,hs=>by
  refine wpIn_region ?_;have:=si (P:=P) (orc:=orc) (ops:=ops) (Q:=lift N w0 r an S P gl Y Q) (K:=Q .normal) (fun γ w s a hK hs=>⟨γ,s,hs,hK⟩) ops.size 0 γ w s a zd (by simpa[Ym,vc]using h) hs;rwa [zzfo]
 |.region id ops true,r,S,γ,w,s,a,Q,h,hs=>by
  simp only[Ym]at h;split at h
  case isFalse=>exact h.elim
  rename_i hc;simp only[zzac]at hc;split at h
  ·rename_i j hj;obtain h|⟨ms,h⟩|⟨hb,ms,R,hR,h⟩|⟨ms,R,Vs,hR,h⟩|⟨ms,h⟩:=h
   ·exact wpIn_region_any hc.1 (wg (Q:=lift N w0 r an S P gl Y Q) (K:=Q .normal) (fun γ w s a hK hs=>⟨γ,s,hs,hK⟩) hc.2 h hs)
   ·exact wpIn_region_any hc.1 (sk (Q:=lift N w0 r an S P gl Y Q) (K:=Q .normal) (fun γ w s a hK hs=>⟨γ,s,hs,hK⟩) hc.2 hj (jg _ _ _ _ (Qbd hc.2) (Nu _ _ _ _ h)) hs)
   ·exact wpIn_region_any hc.1 (E8 (Q:=lift N w0 r an S P gl Y Q) (K:=Q .normal) (fun γ w s a hK hs=>⟨γ,s,hs,hK⟩) hc.2 hj (ak0 hc.2 hb) hR (fun x hx=>jh _ _ _ _ (Qbd hc.2) (h x hx)) hs)
   ·exact wpIn_region_any hc.1 (Fa (Q:=lift N w0 r an S P gl Y Q) (K:=Q .normal) (fun γ w s a hK hs=>⟨γ,s,hs,hK⟩) hc.2 hj hR (fun x hx=>jh _ _ _ _ (Qbd hc.2) (h x hx).1) (fun x hx=>(Jq P gl orc (Qbd hc.2)).symm.trans (h x hx).2) hs)
   exact wpIn_region_any hc.1 (sk (Q:=lift N w0 r an S P gl Y Q) (K:=Q .normal) (fun γ w s a hK hs=>⟨γ,s,hs,hK⟩) hc.2 hj (jg _ _ _ _ (Qbd hc.2) h) hs)
  split at h
  ·rename_i js jp z t hz;obtain⟨hY,hT,ms,h⟩:=h;exact wpIn_region_any hc.1 (Fc (Q:=lift N w0 r an S P gl Y Q) (K:=Q .normal) (fun γ w s a hK hs=>⟨γ,s,hs,hK⟩) hc.2 hz hY h hT hs)
  exact wpIn_region_any hc.1 (wg (Q:=lift N w0 r an S P gl Y Q) (K:=Q .normal) (fun γ w s a hK hs=>⟨γ,s,hs,hK⟩) hc.2 h hs)
 |.seq x y,r,S,γ,w,s,a,Q,h,hs=>by
  refine wpIn_seq (wpIn_mono (Jg x r S γ w s a _ h hs) ?_);rintro ex a' w' ⟨γ',s',dK,h'⟩;cases ex with
  |normal=>exact Jg y r S γ' w' s' a' Q h' dK
  |_=>exact⟨γ',s',dK,h'⟩
 |.cond c x y,r,S,γ,w,s,a,Q,h,hs=>by
  simp only[Ym,vc]at h;have hr:=hs.ev c;split at h
  case h_2=>exact h.elim
  rename_i t ht;rw[ht]at hr;exact wpIn_cond_split hr.bu (fun e=>Jg x r S γ w s a Q (h.1 e) hs) fun e=>Jg y r S γ w s a Q (h.2 e) hs
 |.block id c,r,S,γ,w,s,a,Q,h,hs=>by
  refine wpIn_block (wpIn_mono (Jg c r S γ w s a _ h hs) ?_);rintro ex a' w' ⟨γ',s',dK,h'⟩;cases ex with
  |exit id'=>
   simp only[Exit.inBlock,nq]at h' |-
   split
   ·rename_i aL;rw[if_pos aL]at h';exact⟨γ',s',dK,h'⟩
   rename_i aL;rw[if_neg aL]at h';exact⟨γ',s',dK,h'⟩
  |_=>exact⟨γ',s',dK,h'⟩
 |.loop c,r,S,γ,w,s,a,Q,h,hs=>by
  obtain⟨I,μ,h0,zu⟩:=h;intro b k cs gh hb hr
  have key:∀j γ w s a,μ s=j->I s->ew N w0 r an S P gl Y γ w s a->∃e a' w',lift N w0 r an S P gl Y Q e a' w'/\ArrivesIn (Machine.fenced P (FW r)) P (lone (b.atR a (.code c::.inLoop c::k)) cs w) b k cs e a' w':=by
   intro j;induction j using Nat.strongRecOn with
   |_ j ih=>
    intro γ w s a hn hI hs;obtain⟨e,a₁,w₁,⟨γ₁,s₁,hs₁,hq⟩,fe⟩:=Jg c r S γ w s a _ (zu s hI) hs b (.inLoop c::k) cs gh hb hr;cases e with
    |normal=>
     obtain⟨hI₁,ai⟩:=hq;obtain⟨e₂,a₂,w₂,hq₂,arj⟩:=ih (μ s₁) (hn ▸ ai) γ₁ w₁ s₁ a₁ rfl hI₁ hs₁;exact⟨e₂,a₂,w₂,hq₂,.of_steps (StepsIn.trans fe (.one (fenced_calm hb hr rfl) stepR_inLoop)) arj⟩
    |exit id=>exact⟨_,a₁,w₁,⟨γ₁,s₁,hs₁,hq⟩,.pass (x:=.inLoop c) rfl (fun _ _=>.inl zd) fe⟩
    |goto l=>exact⟨_,a₁,w₁,⟨γ₁,s₁,hs₁,hq⟩,.pass (x:=.inLoop c) rfl (fun _ _=>.inl zd) fe⟩
    |ret=>exact⟨_,a₁,w₁,⟨γ₁,s₁,hs₁,hq⟩,.pass (x:=.inLoop c) rfl (fun _ _=>.inl zd) fe⟩
    |panic ch=>exact⟨_,a₁,w₁,⟨γ₁,s₁,hs₁,hq⟩,.pass (x:=.inLoop c) rfl (fun _ _=>.inl zd) fe⟩
    |outgrown=>exact⟨_,a₁,w₁,⟨γ₁,s₁,hs₁,hq⟩,.pass (x:=.inLoop c) rfl (fun _ _=>.inl zd) fe⟩
  obtain⟨e,a',w',hq,fe⟩:=key _ γ w s a rfl h0 hs;exact⟨e,a',w',hq,.of_steps (.one (fenced_calm hb hr rfl) stepR_loop) fe⟩
 |.exit id,r,S,γ,w,s,a,Q,h,hs=>wpIn_exit ⟨γ,s,hs,h⟩
 |.ret,r,S,γ,w,s,a,Q,h,hs=>wpIn_ret ⟨γ,s,hs,h⟩
 |.scope c,r,S,γ,w,s,a,Q,h,hs=>by
  refine lJ (wpIn_mono (Jg c r S γ w s a _ h hs) ?_);rintro ex a' w' ⟨γ',s',dK,h'⟩;cases ex with
  |goto l=>exact h'.elim
  |_=>exact⟨γ',s',dK,h'⟩
 |.rangeFunc g ps ig body,r,S,γ,w,s,a,Q,h,hs=>Fi (fun l S γ w s a Q h hs=>Jg ig (some l) S γ w s a Q h hs) (fun l S γ w s a Q h hs=>Jg body (some l) S γ w s a Q h hs) h hs
 |.goto l,r,S,γ,w,s,a,Q,h,hs=>h.elim
 |.refuse why,r,S,γ,w,s,a,Q,h,hs=>h.elim
end
open Go Go.RowKit
section
variable {N:Nat} {w0:eS} {an:Nat->Nat->Prop} {γ:G} {w:World} {B:Nat->PH} {L:Nat->Option Nat} {P:Program} {gl:Nat->AV} {orc:UV} {e:bD->AV} {m:AM}
def V9(P:Program)(t:TypeId)(x:bD):aF:=
 (match P.info? t,P.underlying t with|some i,some _=>if Jn P t then .load true i.size x else .load false 1 x|_,_=>.bad)
def Wa(hm:au N w0 an γ w B L)(hB:∀id cells,m.boxes[id]?=some cells->B id=some cells){t:TypeId}{x:bD}{v0:Value}(h1:aA w γ (e x) v0)
  (hc:(rop P gl orc e m none (V9 P t x)).1):∃b o v,v0=.pointer (some ⟨b,o,none⟩)/\(loadVar t ⟨b,o,none⟩).run P w=.ok v w/\aA w γ (rop P gl orc e m none (V9 P t x)).2 v:=by
 unfold V9 at hc |-
 split at hc
 case h_2=>exact hc.elim
 rename_i i d hi hd
 have main:∀(agg:Bool)(n:Nat),Jn P t=agg->(agg=true->n=i.size)->(rop P gl orc e m none (.load agg n x)).1->
   ∃b o v,v0=.pointer (some ⟨b,o,none⟩)/\(loadVar t ⟨b,o,none⟩).run P w=.ok v w/\aA w γ (rop P gl orc e m none (.load agg n x)).2 v:=by
  intro agg n bH hn hc
  have conv:∀b o v,(Instr.loadAt t (.pointer (some ⟨b,o,none⟩))).run P w=.ok v w->(loadVar t ⟨b,o,none⟩).run P w=.ok v w:=fun b o v h=>by
   simpa[Instr.loadAt,Instr.sureAddr]using h
  simp only[rop]at hc |-
  split at hc
  ·rename_i id o' he;try simp only[he]
   rw[he]at h1;obtain⟨b,hb,hv⟩:=h1.dL;cases gL:m.boxes[id]? with
   |none=>
    have e0:m.boxes.getD id []=[]:=by simp[List.getD,gL]
    rw[e0]at hc |-
    obtain⟨v,h2,h3⟩:=Qdk (P:=P) (w:=w) (γ:=γ) (b:=b) (o:=o') (cv:=fun _=>undef) hi hd bH hn (fun j c hj=>by simp at hj) (fun j c hj=>by simp at hj) hc;exact⟨b,o',v,hv,conv _ _ _ h2,h3⟩
   |some cells=>
    have e0:m.boxes.getD id []=cells:=by simp[List.getD,gL]
    rw[e0]at hc |-
    obtain⟨arr,te,g2,g3,g4⟩:=hm.box id cells b (hB id cells gL) hb
    have cp:∀(j:Nat)(c:AV),(cells.drop o')[j]?=some c->arr[o'+j]?=some (arr.getD (o'+j) undef)/\aA w γ c (arr.getD (o'+j) undef):=fun j c hj=>by
     rw[zzbl]at hj
     have ai:o'+j<arr.size:=by
      have:=(zza.1 hj).1;have h0:=g3.1;simp at h0;omega
     have hu:arr[o'+j]?=some (arr.getD (o'+j) undef):=by simp[ai]
     exact⟨hu,g3.2 _ _ _ hj (Nm hu)⟩
    obtain⟨v,h2,h3⟩:=Qdk (P:=P) (w:=w) (γ:=γ) (b:=b) (o:=o') (cv:=fun j=>arr.getD (o'+j) undef) hi hd bH hn (fun j c hj=>by rw[aO g2];exact(cp j c hj).1) (fun j c hj=>(cp j c hj).2) hc;exact⟨b,o',v,hv,conv _ _ _ h2,h3⟩
  ·rename_i row o' he;try simp only[he]
   rw[he]at h1;obtain⟨b,off,cv,hv,hb,bL,zk⟩:=h1.iT;have cp:∀(j:Nat)(c:AV),(row.drop o')[j]?=some c->row[o'+j]?=some c:=fun j c hj=>by rw[zzbl]at hj;exact hj
   obtain⟨v,h2,h3⟩:=Qdk (P:=P) (w:=w) (γ:=γ) (b:=b) (o:=off+o') (cv:=fun j=>cv (o'+j)) hi hd bH hn
    (fun j c hj=>by rw[zzan];exact(bL _ _ (cp j c hj)).1) (fun j c hj=>(zk _ _ (cp j c hj)).gp) hc
   exact⟨b,off+o',v,hv,conv _ _ _ h2,h3⟩
  exact hc.elim
 cases bH:Jn P t with
 |true=>simp only[bH,if_true]at hc |-;exact main true _ bH (fun _=>rfl) hc
 |false=>simp only[bH]at hc |-;exact main false 1 bH (fun h=>by cases h) hc
end
def fM(P:Program)(rs:List ResultVar):List aF:=rs.map fun
 |.tmp t=>.mv (.tmp t)
 |.cell a t=>V9 P t (.tmp a)
def Jr(P:Program)(gl:Nat->AV)(orc:UV)(s:AS):List aF->Prop×P2
 |[]=>(True,[])
 |o::r=>((rop P gl orc (ev gl s.T) s.m none o).1/\(Jr P gl orc s r).1,(rop P gl orc (ev gl s.T) s.m none o).2::(Jr P gl orc s r).2)
def oneOf:P2->AV
 |[a]=>a
 |l=>.aS l
section
variable {N:Nat} {w0:eS} {r:Option Nat} {an:Nat->Nat->Prop} {S:G×World} {Y:YT} {γ:G} {w:World} {P:Program} {gl:Nat->AV} {orc:UV} {s:AS} {a:Act}
def NA(hs:ew N w0 r an S P gl Y γ w s a):∀(rs:List ResultVar),(Jr P gl orc s (fM P rs)).1->
  ∃vs:PQ,(rs.mapM fun(r:ResultVar)=>(match r with|.tmp t=>pure (a.tmps.getD t undef)|.cell x t=>do loadVar t (<- asAddr (a.tmps.getD x undef)):Sem Value)).run P w=.ok vs w/\
   ak w γ (Jr P gl orc s (fM P rs)).2 vs
 |[],_=>⟨[],zd,ak.nil⟩
 |r::rs,hc=>by
  obtain⟨h1,h2⟩:=hc;obtain⟨vs,g1,g2⟩:=NA hs rs h2
  have key:∃v,(match r with|.tmp t=>pure (a.tmps.getD t undef)|.cell x t=>do loadVar t (<- asAddr (a.tmps.getD x undef)):Sem Value).run P w=.ok v w/\
    aA w γ (rop P gl orc (ev gl s.T) s.m none ((fun(r:ResultVar)=>match r with|.tmp t=>aF.mv (.tmp t)|.cell a t=>V9 P t (.tmp a)) r)).2 v:=by
   cases r with
   |tmp t=>exact⟨a.tmps.getD t undef,zd,hs.ev (.tmp t)⟩
   |cell x t=>
    obtain⟨b,o,v,e1,e2,e3⟩:=Wa (P:=P) (gl:=gl) (orc:=orc) (e:=ev gl s.T) (m:=s.m) hs.m (fun _ _ h=>h) (t:=t) (x:=.tmp x) (v0:=a.tmps.getD x undef) (hs.ev (.tmp x)) h1;refine⟨v,?_,e3⟩;simp only[e1,Sem.run_bind,asAddr,Sem.run_pure,Result.andThen_ok,e2]
  obtain⟨v,k1,k2⟩:=key;refine⟨v::vs,?_,ak.cons k2 g2⟩;simp only[zzhb,Sem.run_bind,k1,Result.andThen_ok,g1,Sem.run_pure]
def Fj(hs:ew N w0 r an S P gl Y γ w s a){fn:Func}(hc:(Jr P gl orc s (fM P fn.results.toList)).1):∃v,(results fn a.tmps).run P w=.ok v w/\aA w γ (oneOf (Jr P gl orc s (fM P fn.results.toList)).2) v:=by
 obtain⟨vs,h1,h2⟩:=NA (P:=P) (orc:=orc) hs fn.results.toList hc
 have aZ:(results fn a.tmps).run P w=.ok (if h:vs.toArray.size=1 then vs.toArray[0]else .tuple vs.toArray) w:=by
  simp only[results,Sem.run_bind,Array.mapM_eq_mapM_toList,Sem.run_map];exact congrArg (fun(z:Result (PQ))=>(z.andThen fun a w'=>Result.ok a.toArray w').andThen fun(a:P1)w'=>Sem.run P (pure (if h:a.size=1 then a[0]else Value.tuple a):Sem Value) w') h1
 refine⟨_,aZ,?_⟩;generalize(Jr P gl orc s (fM P fn.results.toList)).2=as' at h2
 match as',vs,h2 with
 |[],[],h2=>exact .aS rfl fun i c v h=>by simp at h
 |[],_::_,h2=>have:=h2.1;simp at this
 |_::_,[],h2=>have:=h2.1;simp at this
 |[x],[v],h2=>exact h2.2 0 x v rfl rfl
 |[x],_::_::_,h2=>have:=h2.1;simp at this
 |_::_::_,[v],h2=>have:=h2.1;simp at this
 |x::y::as',v::u::vs,h2=>
  simp only[oneOf];rw[dif_neg zd];exact .aS (Nm h2.1) fun i c v' g1 g2=>h2.2 i c v' g1 (Nm g2)
def post(P:Program)(gl:Nat->AV)(orc:UV)(rs:List aF)(r:AV):R0
 |.normal,s=>(Jr P gl orc s rs).1/\bz s.m 6 (oneOf (Jr P gl orc s rs).2)=r
 |.ret,s=>(Jr P gl orc s rs).1/\bz s.m 6 (oneOf (Jr P gl orc s rs).2)=r
 |_,_=>False
def wG(P:Program)(gl:Nat->AV)(orc:UV)(rs:List aF)(K:So):R0
 |.normal,s=>(Jr P gl orc s rs).1/\K (oneOf (Jr P gl orc s rs).2) s.m
 |.ret,s=>(Jr P gl orc s rs).1/\K (oneOf (Jr P gl orc s rs).2) s.m
 |_,_=>False
def Y0:YT:=fun _ _ _ _=>False
def ew.y0(h:ew N w0 r an S P gl Y γ w s a):ew N w0 r an S P gl Y0 γ w s a:=⟨h.m,h.ls,h.rd,h.t,h.d,h.g,fun _ _ _ _ _ _ _ _ _ _ _ hY _ _=>hY.elim,h.e⟩
def sw{fn:Func}{R:Ending->World->Prop}(hS:∀b,S.1.sp b->b<S.2.heap.size):∀(ds:List Deferred)(γ:G)(w:World)(s:AS)(a:Act),a.defers=ds->ew N w0 none an S P gl Y0 γ w s a->
  (Jr P gl orc s (fM P fn.results.toList)).1->
  (∀v w' γ',eD S.2 S.1 w' γ'->au N w0 an γ' w' s.m.B s.m.L->cS γ' w' s.m->aA w' γ' (oneOf (Jr P gl orc s (fM P fn.results.toList)).2) v->R (.returned v) w')->LeavesInM (FW none) 0 P fn a.tmps R ds .returning w
 |[],γ,w,s,a,_,hs,h1,hR=>by
  obtain⟨v,g1,g2⟩:=Fj (P:=P) (orc:=orc) hs h1;exact⟨v,g1,hR v w γ hs.e hs.m hs.ls g2⟩
 |d::ds,γ,w,s,a,hd,hs,hc,hR=>by
  obtain⟨D,e1,e0,e2,e3⟩:=hs.d.2.1 d (by rw[hd];simp);refine⟨zd,.inl ⟨D,w.putObj D (.deferred none),e1,run_takeDeferred e3,?_⟩⟩;have hDS:¬S.1.sp D:=fun h=>by have:=hS D h;omega
  obtain⟨fJ,bT,aww⟩:=hs.m.aid e2 (o:=.deferred none) e3 (fun _ _ _ h=>by cases h) (fun _ _ _ h=>by cases h) (γ':={γ with sp:=fun b=>γ.sp b/\b≠D}) (.inr rfl) (fun h=>by
   have:=congrFun (congrArg G.sp h) D;simp[e2]at this)
  have hpw:=hs.d.2.2;rw[hd,zzcc]at hpw;refine sw hS ds {γ with sp:=fun b=>γ.sp b/\b≠D} (w.putObj D (.deferred none)) s {a with defers:=ds} rfl ⟨fJ,⟨fun i=>?_,hs.ls.2.1,hs.ls.2.2.1,fun i l hl=>?_⟩,fun l h=>(by cases h),hs.t.eR bT,⟨Nm hs.d.1,fun x hx=>?_,hpw.2⟩,fun g=>(hs.g g).eR bT.cU,fun _ _ _ _ _ _ _ _ _ _ _ hY _ _=>hY.elim,aww _ _ hs.e (.inr hDS)⟩ hc hR
  ·rcases hs.ls.1 i with h|⟨l,h0,h1,rc,h2,h3⟩
   ·exact .inl h
   have aN:l≠D:=by rintro rfl;rw[e3]at h2;cases h2
   exact .inr ⟨l,h0,⟨h1,aN⟩,rc,(World.putObj_heap_other aN).trans h2,h3⟩
  ·obtain⟨h1,rc,h2⟩:=hs.ls.2.2.2 i l hl;have aN:l≠D:=by rintro rfl;rw[e3]at h2;cases h2
   exact⟨⟨h1,aN⟩,rc,(World.putObj_heap_other aN).trans h2⟩
  obtain⟨D',q1,q0,q2,q3⟩:=hs.d.2.1 x (by rw[hd];simp[hx]);have aN:D'≠D:=by rintro rfl;exact hpw.1 x hx D' e1 q1
  exact⟨D',q1,q0,⟨q2,aN⟩,(World.putObj_heap_other aN).trans q3⟩
def adO(w0:World):eS where
 p γ w:=Below w0.heap.size w0 w/\∀b,OI γ b->w0.heap.size<=b
 st γ w γ' w' h hc:=by
  refine⟨h.1.trans ⟨hc.os,hc.tape,hc.output,hc.size,fun b hb=>hc.same b (zzay hb h.1.size) fun ho=>?_⟩,fun b hb=>?_⟩
  ·have:=h.2 b ho;omega
  rcases hc.oi b hb with hb|hb
  ·exact h.2 b hb
  exact zzbb h.1.size hb
def PX{as':P2}{vs:PQ}{k:Nat}(h:ak w γ as' vs):ak w γ (as'++List.replicate (k-as'.length) .junk) (vs.toArray++Array.replicate (k-vs.toArray.size) undef).toList:=by
 have aH:=h.1
 have h2:ak w γ (List.replicate (k-as'.length) .junk) (List.replicate (k-vs.length) undef):=⟨by simp[aH],fun i x v hx _=>by
  rw[zzcl]at hx;split at hx
  ·cases hx;exact .junk _
  cases hx⟩
 simpa using h.append h2
def cZ(P:Program)(f:FuncId)(sc:SC)(rs:List aF)(n:Nat):Prop:=
 ∃fn c,P.funcs[f]?=some fn/\fn.body=some c/\(fn.name== "runtime.NumGoroutine")=false/\Ym P c=sc/\fM P fn.results.toList=rs/\fn.ntmps=n
def fco{P:Program}{f:FuncId}{fn:Func}{c:Code}{sc:SC}{rs:List aF}{n:Nat}(h:P.funcs[f]?=some fn)(hb:fn.body=some c)(hk:((fn.name== "runtime.NumGoroutine"),Ym P c,fM P fn.results.toList,fn.ntmps)=(false,sc,rs,n)):cZ P f sc rs n:=by
 obtain⟨h1,h2⟩:=Prod.mk.inj hk;obtain⟨h2,h3⟩:=Prod.mk.inj h2;obtain⟨h3,h4⟩:=Prod.mk.inj h3;exact⟨fn,c,h,hb,h1,h2,h3,h4⟩
def aK{P:Program}{f:FuncId}{fn:Func}{c:Code}{sc:SC}{rs:List aF}{n:Nat}(h:P.funcs[f]?=some fn)(hb:fn.body=some c:=by rfl)(hk:((fn.name== "runtime.NumGoroutine"),Ym P c,fM P fn.results.toList,fn.ntmps)=(false,sc,rs,n):=by kernel_rfl):cZ P f sc rs n:=fco h hb hk
def ak4{f:FuncId}{sc:SC}{rs:List aF}{n:Nat}(hc:cZ P f sc rs n)(orc:UV){as':P2}{m:AM}{K:So}
  (h:vc P gl orc Y sc ⟨as'++List.replicate (n-as'.length) .junk,m⟩ (wG P gl orc rs K)){vs:PQ}(hm:au N w0 an γ w m.B m.L)(hl:cS γ w m)(hg:∀g,aA w γ.cU (gl g) (.pointer (some ⟨g,0,none⟩)))
  (hy:YOK N w0 an P Y γ w)(hr:ak w γ as' vs):
  CallsIn (FW none) 0 P f vs.toArray w fun e w'=>∃v γ' r m',e=.returned v/\eD w γ w' γ'/\au N w0 an γ' w' m'.B m'.L/\cS γ' w' m'/\aA w' γ' r v/\K r m':=by
 obtain⟨fn,c,hf,hb,aif,rfl,rfl,rfl⟩:=hc;refine callsIn_of_wp_marks (F:=FW none) hf hb trivial ?_
 have hs:ew N w0 none an (γ,w) P gl Y γ w ⟨as'++List.replicate (fn.ntmps-as'.length) .junk,m⟩ {tmps:=vs.toArray++Array.replicate (fn.ntmps-vs.toArray.size) undef,defers:=[]}:=
  ⟨hm,hl,fun l h=>(by cases h),PX hr,⟨zzab _,fun x hx=>(by cases hx),List.Pairwise.nil⟩,hg,hy,(Ev.refl w γ).cH⟩
 refine wpIn_mono (Jg c none (γ,w) γ w _ _ _ h hs) ?_
 have fin:∀γ' w' s a,ew N w0 none an (γ,w) P gl Y γ' w' s a->(Jr P gl orc s (fM P fn.results.toList)).1/\K (oneOf (Jr P gl orc s (fM P fn.results.toList)).2) s.m->
   LeavesInM (FW none) 0 P fn a.tmps (fun e w'=>∃v γ' r m',e=.returned v/\eD w γ w' γ'/\au N w0 an γ' w' m'.B m'.L/\cS γ' w' m'/\aA w' γ' r v/\K r m') a.defers .returning w':=
  fun γ' w' s a dK hc=>sw (S:=(γ,w)) (fun b hb=>(hm.sp b hb).2.1) a.defers γ' w' s a rfl dK.y0 hc.1 fun v qz D0 q1 q2 q3 q4=>⟨v,D0,_,_,rfl,q1,q2,q3,q4,hc.2⟩
 rintro ex a w' ⟨γ',s,dK,h'⟩;cases ex with
 |normal=>exact fin γ' w' s a dK h'
 |ret=>exact fin γ' w' s a dK h'
 |_=>exact h'.elim
def cZ.bw{f:FuncId}{sc:SC}{rs:List aF}{n:Nat}(hc:cZ P f sc rs n):bw P f:=by
 obtain⟨fn,c,hf,hb,aif,_⟩:=hc;exact⟨fn,hf,by simp[hb],aif⟩
def JV{f:FuncId}{sc:SC}{rs:List aF}{n:Nat}(hc:cZ P f sc rs n)(orc:UV){as':P2}{m:AM}{K:So}
  (h:vc P gl orc Y sc ⟨as'++List.replicate (n-as'.length) .junk,m⟩ (wG P gl orc rs K)):aB P gl Y f as' m K:=
 ⟨hc.bw,fun _ _ _ _ _ _ hm hl hg hy hr=>ak4 hc orc h hm hl hg hy hr⟩
def AM.none:AM:=⟨[],[],fun _=>.gone,0⟩
def sx{f:FuncId}{as':P2}{r:AV}(h:aB P gl Y0 f as' ⟨[],[],fun _=>.gone,0⟩ fun x m'=>bz m' 6 x=r):Pure P gl f as' r:=by
 refine⟨h.1,fun ro w vs lE hr=>?_⟩;refine(callsIn_wide (n:=0)).1 ?_
 let γ0:G:=G0 fun b o=>ro b o/\b<w.heap.size
 have bT:Ev w (G0 ro) w γ0:=⟨zzab _,fun b o hb h=>⟨⟨h,hb⟩,rfl⟩,fun _ _ h=>(by cases h),fun _=>zzab _,fun _ _ h=>(by cases h),rfl,fun _ _ _ h=>(by cases h),fun _ h=>h.elim,Sz.refl w⟩
 have hm:au w.heap.size (adO w) ro γ0 w (⟨[],[],fun _=>.gone,0⟩:AM).B (⟨[],[],fun _=>.gone,0⟩:AM).L:=by
  refine⟨⟨Below.refl _ _,fun b hb=>?_⟩,zzab _,fun b o h=>.inl h.1,fun b o h=>h.2,fun id cells b h=>by simp[AM.B]at h,fun id b h=>(by cases h),fun id id' b h=>(by cases h),fun id b h=>(by cases h),fun id id' b h=>(by cases h),fun b h=>h.elim,fun id b h=>(by cases h),fun id id' b h=>(by cases h),fun id n h=>by simp[AM.L]at h,fun _ _=>rfl⟩;obtain⟨_,hb⟩|⟨_,hb⟩|hb|⟨_,hb⟩:=hb
  ·cases hb
  ·cases hb
  ·exact hb.elim
  cases hb
 refine CallsIn.mono (h.2 _ _ _ _ _ _ hm ⟨fun _=>.inl rfl,fun _ _=>rfl,fun _ _ _ h=>(by cases h),fun _ _ h=>(by cases h)⟩ (fun g=>(lE g).mono bT) (fun _ _ _ _ _ _ _ _ _ _ _ hY _ _=>hY.elim) (hr.mono bT)) ?_;rintro e w' ⟨v,γ',x,m',rfl,_,h2,_,h4,h5⟩;refine⟨v,rfl,h2.bs.1,?_⟩;rw[<- h5];exact kH h2 (fun _ _ h=>h) h2.an 6 _ v h4 fun _ id b hb o=>.inr (h2.β id b hb).1
def adP{f:FuncId}{sc:SC}{rs:List aF}{n:Nat}(hc:cZ P f sc rs n)(orc:UV){as':P2}{r:AV}
  (h:vc P gl orc Y0 sc ⟨as'++List.replicate (n-as'.length) .junk,⟨[],[],fun _=>.gone,0⟩⟩ (post P gl orc rs r)):Pure P gl f as' r:=by
 have ark:post P gl orc rs r=wG P gl orc rs fun x m'=>bz m' 6 x=r:=by
  funext ex s;cases ex<;>rfl
 rw[ark]at h;exact sx (JV hc orc h)
end
end Go.Abs
