import Derived.Test.YtfliagpjbbkijaaGreatDoorVBMD
import Derived.RangeFuncNested
set_option linter.all false
namespace Go.Abs
open Go Go.RowKit
def Xy(o:Oper):P2:=(o.after.toList.filter fun e=>Region.binds .any e).map (·.on)
def vQ(ops:Array Oper)(i j:Nat):Bool:=
 match ops[i]? with
 |some o=>(Xy o).contains j
 |none=>false
def CH(ops:Array Oper)(i:Nat):Bool:=(List.range i).all fun j=>(List.range (i-j)).any fun d=>vQ ops (i-d) j
def vR(ops:Array Oper):Nat->Nat
 |0=>0
 |k+1=>if CH ops k then vR ops k else k+1
def Wu(ops:Array Oper):Nat:=vR ops ops.size
def Vq(ops:Array Oper)(i:Nat):Option Nat:=(ops[i]?).bind (·.dst)
def yN(ops:Array Oper)(p:Nat):Bool:=
 decide (p<=ops.size)&&(List.range ops.size).all fun i=>
  match ops[i]? with
  |none=>false
  |some o=>(Xy o).all (fun j=>decide (j<i))&&
   (
    if i<p then
    ((o.looksAt ops).all fun t=>(List.range p).all fun j=>!(Vq ops j==some t)||j==i||(decide (j<i)&&(Xy o).contains j))&&
    ((List.range i).all fun j=>(Vq ops j).isNone||!(Vq ops j==o.dst))
   else CH ops i)
section
variable (P:Program) (gl:Nat->AV) (orc:X1)
def dop(o:SO)(T:P1)(m:AM)(nb:X2):Prop×AV×X2:=
 match o.guard with
 |none=>match o.op with
  |.alloc zs=>(zs.all Qw=true,.ptr (m.boxes.length+nb.length) 0,nb++[zs])
  |.box x=>(bare (ev gl T x)=true/\(cellsOf (ev gl T x)).all Qw=true,.ptr (m.boxes.length+nb.length) 0,nb++[cellsOf (ev gl T x)])
  |.mks sz bytes zs l c=>(match ev gl T l,ev gl T c with
   |.int _ l,.int _ c=>((0<=l/\l<=c/\bytes*c<=281474976710656/\c<=9223372036854775807)/\zs.length=sz/\zs.all Qw=true,.bs (m.boxes.length+nb.length) 0 l.toNat sz,nb++[bH c.toNat zs])
   |_,_=>(False,.junk,nb))
  |op=>((rop P gl orc (ev gl T) m o.dst op).1,(rop P gl orc (ev gl T) m o.dst op).2,nb)
 |some (some t,want)=>match Iq want (T.getD t .junk)with
  |some gw=>(gok gl T gw (gxs o.op o.xs)/\(gw=true->(rop P gl orc (evG gl T o.op) m o.dst o.op).1),.gd gw (rop P gl orc (evG gl T o.op) m o.dst o.op).2,nb)
  |none=>(False,.junk,nb)
 |some (none,_)=>(False,.junk,nb)
def vcD(Y:YT)(l2:List SO)(K:AS->Prop):List SO->P1->AM->X2->Prop
 |[],T,m,nb=>Zg P gl orc Y l2 ⟨T,{m with boxes:=m.boxes++nb}⟩ K
 |o::r,T,m,nb=>(dop P gl orc o T m nb).1/\vcD Y l2 K r (put T o.dst (dop P gl orc o T m nb).2.1) m (dop P gl orc o T m nb).2.2
def Xd(ops:Array Oper)(T0:P1)(m:AM):Nat->P1×X2
 |0=>(T0,[])
 |k+1=>match ops[k]? with
  |some o=>(put (Xd ops T0 m k).1 o.dst (dop P gl orc (Xf P ops o) (Xd ops T0 m k).1 m (Xd ops T0 m k).2).2.1,(dop P gl orc (Xf P ops o) (Xd ops T0 m k).1 m (Xd ops T0 m k).2).2.2)
  |none=>Xd ops T0 m k
end
section
variable {N:Nat} {w0:fE} {r:Option Nat} {an:Nat->Nat->Prop} {S:G×World} {Y:YT} {P:Program} {gl:Nat->AV} {orc:X1} {ops:Array Oper} {T0:P1} {m:AM} {p:Nat}
def Kt{k:Nat}{o:Oper}(h:ops[k]?=some o):Xd P gl orc ops T0 m (k+1)=
  (put (Xd P gl orc ops T0 m k).1 o.dst (dop P gl orc (Xf P ops o) (Xd P gl orc ops T0 m k).1 m (Xd P gl orc ops T0 m k).2).2.1,(dop P gl orc (Xf P ops o) (Xd P gl orc ops T0 m k).1 m (Xd P gl orc ops T0 m k).2).2.2):=by
 simp only[Xd,h]
def NI(l2:List SO)(K:AS->Prop)(hp:p<=ops.size):∀(n k:Nat),k+n=p->vcD P gl orc Y l2 K (((ops.toList.take p).drop k).map (Xf P ops)) (Xd P gl orc ops T0 m k).1 m (Xd P gl orc ops T0 m k).2->
  (∀i o,k<=i->i<p->ops[i]?=some o->(dop P gl orc (Xf P ops o) (Xd P gl orc ops T0 m i).1 m (Xd P gl orc ops T0 m i).2).1)/\
  Zg P gl orc Y l2 ⟨(Xd P gl orc ops T0 m p).1,{m with boxes:=m.boxes++(Xd P gl orc ops T0 m p).2}⟩ K
 |0,k,hk,h=>by
  obtain rfl:k=p:=zE
  have:(ops.toList.take k).drop k=[]:=zzaj (by simp;omega);rw[this]at h;exact⟨fun i o h1 h2=>zE,h⟩
 |n+1,k,hk,h=>by
  have ah:k<ops.size:=zE
  have ho:ops[k]?=some ops[k]:=zzag ah
  have hd:(ops.toList.take p).drop k=ops[k]::(ops.toList.take p).drop (k+1):=by
   rw[zzae (by simp;omega)];simp
  rw[hd,zzax]at h;obtain⟨h1,h2⟩:=h;have VP:=Kt (P:=P) (gl:=gl) (orc:=orc) (T0:=T0) (m:=m) ho;have:=NI l2 K hp n (k+1) zE (by rw[VP];exact h2);refine⟨fun i o hi dG CI=>?_,this.2⟩;rcases zzab k i with gU|gU
  ·exact this.1 i o gU dG CI
  obtain rfl:i=k:=zE
  rw[ho]at CI;cases CI;exact h1
def vS(T:P1)(d:Option Nat)(x:AV):(put T d x).length=T.length:=by cases d<;>simp[put]
def jc:∀k,(Xd P gl orc ops T0 m k).1.length=T0.length
 |0=>rfl
 |k+1=>by
  cases h:ops[k]? with
  |none=>simp only[Xd,h];exact jc k
  |some o=>rw[Kt h,vS];exact jc k
def Qbx{T:P1}{d:Option Nat}{x:AV}{t:Nat}(h:d≠some t):(put T d x).getD t .junk=T.getD t .junk:=by
 cases d with
 |none=>rfl
 |some d=>simp only[put,List.getD];rw[zzbm (by rintro rfl;exact h rfl)]
def lU{T:P1}{t:Nat}{x:AV}(h:t<T.length):(put T (some t) x).getD t .junk=x:=by
 simp[put,List.getD,h]
def Qei{t:Nat}:∀k,(∀j,j<k->Vq ops j≠some t)->(Xd P gl orc ops T0 m k).1.getD t .junk=T0.getD t .junk
 |0,_=>rfl
 |k+1,h=>by
  cases ho:ops[k]? with
  |none=>simp only[Xd,ho];exact Qei k fun j hj=>h j zE
  |some o=>
   rw[Kt ho,Qbx (by have:=h k zE;simpa[Vq,ho]using this)];exact Qei k fun j hj=>h j zE
def kJ{t k:Nat}:∀n,(∀j,k<=j->j<k+n->Vq ops j≠some t)->(Xd P gl orc ops T0 m (k+n)).1.getD t .junk=(Xd P gl orc ops T0 m k).1.getD t .junk
 |0,_=>rfl
 |n+1,h=>by
  rw[<- zzas];cases ho:ops[k+n]? with
  |none=>simp only[Xd,ho];exact kJ n fun j h1 h2=>h j h1 zE
  |some o=>
   rw[Kt ho,Qbx (by have:=h (k+n) zE zE;simpa[Vq,ho]using this)];exact kJ n fun j h1 h2=>h j h1 zE
def alP{o:Oper}{T:P1}{nb:X2}:
  ((dop P gl orc (Xf P ops o) T m nb).2.2=nb)\/(∃cells,(dop P gl orc (Xf P ops o) T m nb).2.2=nb++[cells]):=by
 unfold dop;split
 ·split
  ·exact .inr ⟨_,rfl⟩
  ·exact .inr ⟨_,rfl⟩
  ·split
   ·exact .inr ⟨_,rfl⟩
   exact .inl rfl
  exact .inl rfl
 ·split
  ·exact .inl rfl
  exact .inl rfl
 exact .inl rfl
def kK(P:Program)(gl:Nat->AV)(orc:X1)(ops:Array Oper)(T0:P1)(m:AM)(k:Nat):Nat:=(Xd P gl orc ops T0 m k).2.length
def NJ(k:Nat):(Xd P gl orc ops T0 m (k+1)).2=(Xd P gl orc ops T0 m k).2\/∃cells,(Xd P gl orc ops T0 m (k+1)).2=(Xd P gl orc ops T0 m k).2++[cells]:=by
 cases ho:ops[k]? with
 |none=>exact .inl (by simp only[Xd,ho])
 |some o=>rw[Kt ho];exact alP
def Fh(k:Nat):kK P gl orc ops T0 m (k+1)=kK P gl orc ops T0 m k\/kK P gl orc ops T0 m (k+1)=kK P gl orc ops T0 m k+1:=by
 unfold kK;rcases NJ (P:=P) (gl:=gl) (orc:=orc) (ops:=ops) (T0:=T0) (m:=m) k with h|⟨c,h⟩
 ·rw[h];exact .inl rfl
 rw[h];exact .inr zd
def Fi{j:Nat}:∀n,kK P gl orc ops T0 m j<=kK P gl orc ops T0 m (j+n)
 |0=>zzaa _
 |n+1=>by
  have:=Fi (j:=j) n;rcases Fh (P:=P) (gl:=gl) (orc:=orc) (ops:=ops) (T0:=T0) (m:=m) (j+n)with h|h<;>rw[<- zzas]<;>omega
def VQ{i j:Nat}(h:i<=j):kK P gl orc ops T0 m i<=kK P gl orc ops T0 m j:=by
 have:=Fi (P:=P) (gl:=gl) (orc:=orc) (ops:=ops) (T0:=T0) (m:=m) (j:=i) (j-i);rwa [show i+(j-i)=j by omega]at this
def VR{i:Nat}:∀n{q:Nat}{c:P1},(Xd P gl orc ops T0 m i).2[q]?=some c->(Xd P gl orc ops T0 m (i+n)).2[q]?=some c
 |0,_,_,h=>h
 |n+1,q,c,h=>by
  have ih:=VR n h;rw[<- zzas];rcases NJ (P:=P) (gl:=gl) (orc:=orc) (ops:=ops) (T0:=T0) (m:=m) (i+n)with e|⟨c',e⟩
  ·rw[e];exact ih
  rw[e,zzam (zza.1 ih).1];exact ih
def Is(P:Program)(gl:Nat->AV)(orc:X1)(ops:Array Oper)(T0:P1)(m:AM)(i:Nat):Bool:=kK P gl orc ops T0 m (i+1)==kK P gl orc ops T0 m i+1
def Fj{q:Nat}:∀k,q<kK P gl orc ops T0 m k->∃i,i<k/\Is P gl orc ops T0 m i=true/\kK P gl orc ops T0 m i=q
 |0,h=>by simp[kK,Xd]at h
 |k+1,h=>by
  rcases zzab q (kK P gl orc ops T0 m k)with h'|h'
  ·obtain⟨i,h1,h2,h3⟩:=Fj k h';exact⟨i,zE,h2,h3⟩
  rcases Fh (P:=P) (gl:=gl) (orc:=orc) (ops:=ops) (T0:=T0) (m:=m) k with e|e
  ·omega
  exact⟨k,zE,by simp[Is,e],zE⟩
def AP(P:Program)(gl:Nat->AV)(orc:X1)(ops:Array Oper)(T0:P1)(m:AM)(p:Nat)(listed:Array Bool)(id:Nat):QR:=
 if id<m.boxes.length then m.boxes[id]?
 else if(List.range p).any fun i=>listed.getD i false&&(Is P gl orc ops T0 m i&&decide (m.boxes.length+kK P gl orc ops T0 m i=id))then(Xd P gl orc ops T0 m p).2[id-m.boxes.length]? else none
def wr(ops:Array Oper)(p:Nat)(listed:Array Bool)(t:Nat):Bool:=(List.range p).any fun i=>listed.getD i false&&(Vq ops i==some t)
def At(P:Program)(gl:Nat->AV)(orc:X1)(ops:Array Oper)(T0:P1)(m:AM)(p:Nat)(listed:Array Bool)(t:Nat):AV:=
 if wr ops p listed t then(Xd P gl orc ops T0 m p).1.getD t .junk else T0.getD t .junk
structure QB (N:Nat) (w0:fE) (r:Option Nat) (an:Nat->Nat->Prop) (S:G×World) (Y:YT) (P:Program) (gl:Nat->AV) (orc:X1) (ops:Array Oper) (T0:P1) (m:AM) (p:Nat) (listed:Array Bool) (γ:G) (w:World) (a:Act):Prop where
 size:listed.size=ops.size
 tail:∀i,p<=i->i<ops.size->listed.getD i true=false
 clo:∀i o,listed.getD i false=true->ops[i]?=some o->∀j∈Xy o,listed.getD j false=true
 mm:aq N w0 an γ w (AP P gl orc ops T0 m p listed) m.L
 ls:cB γ w m
 rd:Rdr r γ w
 tl:a.tmps.size=T0.length
 tt:∀t,au w γ (At P gl orc ops T0 m p listed t) (a.tmps.getD t undef)
 d:Dfr S.2.heap.size γ w a.defers
 g:∀g,au w γ.cQ (gl g) (.pointer (some ⟨g,0,none⟩))
 y:VL N w0 an P Y γ w
 e:eC S.2 S.1 w γ
def Xr{listed:Array Bool}{i:Nat}{b:Bool}(h:i<listed.size):(listed.setIfInBounds i true).getD i b=true:=by
 simp[h]
def Qs{listed:Array Bool}{i j:Nat}{b:Bool}(h:j≠i):(listed.setIfInBounds i true).getD j b=listed.getD j b:=by
 simp[zzck (Ne.symm h)]
def aef{listed:Array Bool}{id:Nat}{cells:P1}(h:m.boxes[id]?=some cells):AP P gl orc ops T0 m p listed id=some cells:=by
 unfold AP;rw[if_pos (zza.1 h).1];exact h
def VT{listed:Array Bool}{i:Nat}(hn:Is P gl orc ops T0 m i=false):AP P gl orc ops T0 m p (listed.setIfInBounds i true)=AP P gl orc ops T0 m p listed:=by
 funext id;unfold AP;congr 1
 have:((List.range p).any fun j=>(listed.setIfInBounds i true).getD j false&&(Is P gl orc ops T0 m j&&decide (m.boxes.length+kK P gl orc ops T0 m j=id)))=
   ((List.range p).any fun j=>listed.getD j false&&(Is P gl orc ops T0 m j&&decide (m.boxes.length+kK P gl orc ops T0 m j=id))):=by
  congr 1;funext j;by_cases hj:j=i
  ·subst hj;simp[hn]
  rw[Qs hj]
 rw[this]
def aeg{i j:Nat}(hi:Is P gl orc ops T0 m i=true)(hj:Is P gl orc ops T0 m j=true)(h:kK P gl orc ops T0 m i=kK P gl orc ops T0 m j):i=j:=by
 simp only[Is,beq_iff_eq]at hi hj;rcases zzep i j with h'|h'|h'
 ·have:=VQ (P:=P) (gl:=gl) (orc:=orc) (ops:=ops) (T0:=T0) (m:=m) (i:=i+1) (j:=j) h';omega
 ·exact h'
 have:=VQ (P:=P) (gl:=gl) (orc:=orc) (ops:=ops) (T0:=T0) (m:=m) (i:=j+1) (j:=i) h';omega
def AQ{listed:Array Bool}{i:Nat}(hn:Is P gl orc ops T0 m i=true)(hl:listed.getD i false=false):AP P gl orc ops T0 m p listed (m.boxes.length+kK P gl orc ops T0 m i)=none:=by
 unfold AP;rw[if_neg zE,if_neg];intro h;obtain⟨j,_,h⟩:=zzbu.1 h;simp only[zzak,decide_eq_true_eq]at h;obtain⟨h1,h2,h3⟩:=h;have:=aeg h2 hn zE;subst this;rw[hl]at h1;cases h1
def NK{listed:Array Bool}{i:Nat}{cells:P1}(dG:i<p)(hsz:i<listed.size)(hn:Is P gl orc ops T0 m i=true)(hc:(Xd P gl orc ops T0 m p).2[kK P gl orc ops T0 m i]?=some cells):
  AP P gl orc ops T0 m p (listed.setIfInBounds i true)=fun id=>if id=m.boxes.length+kK P gl orc ops T0 m i then some cells else AP P gl orc ops T0 m p listed id:=by
 funext id;by_cases aL:id=m.boxes.length+kK P gl orc ops T0 m i
 ·rw[if_pos aL];unfold AP;rw[if_neg zE,if_pos]
  ·rw[aL,zzel];exact hc
  rw[zzbu];exact⟨i,zzay.2 dG,by rw[Xr hsz,hn];simp[aL]⟩
 rw[if_neg aL];unfold AP;congr 1
 have:((List.range p).any fun j=>(listed.setIfInBounds i true).getD j false&&(Is P gl orc ops T0 m j&&decide (m.boxes.length+kK P gl orc ops T0 m j=id)))=
   ((List.range p).any fun j=>listed.getD j false&&(Is P gl orc ops T0 m j&&decide (m.boxes.length+kK P gl orc ops T0 m j=id))):=by
  congr 1;funext j;by_cases hj:j=i
  ·subst hj;have:decide (m.boxes.length+kK P gl orc ops T0 m j=id)=false:=by simp;omega
   simp[this]
  rw[Qs hj]
 rw[this]
def aeh{listed:Array Bool}(bJ:∀i,i<p->listed.getD i false=true):AP P gl orc ops T0 m p listed=({m with boxes:=m.boxes++(Xd P gl orc ops T0 m p).2}:AM).B:=by
 funext id;unfold AP;simp only[AM.B];split
 ·rename_i h;rw[zzam h]
 rename_i h;rw[zzaw zE];split
 ·rfl
 rename_i hn;rcases zzab (id-m.boxes.length) (Xd P gl orc ops T0 m p).2.length with hq|hq
 ·obtain⟨i,h1,h2,h3⟩:=Fj (P:=P) (gl:=gl) (orc:=orc) (ops:=ops) (T0:=T0) (m:=m) (q:=id-m.boxes.length) p hq;exfalso;apply hn;rw[zzbu];exact⟨i,zzay.2 h1,by rw[bJ i h1,h2];simp;omega⟩
 rw[zzar hq]
def AR{α:Type}{f g:α->Bool}:∀{l:List α}{x:α},(∀y,f y=true->g y=true)->x∈l->g x=true->f x=false->l.countP f<l.countP g
 |y::l,x,hfg,hx,hg,hf=>by
  have cw:l.countP f<=l.countP g:=List.countP_mono_left fun y _=>hfg y;rw[List.countP_cons,List.countP_cons];rcases zzao.1 hx with rfl|hx
  ·rw[hg,hf];simp;omega
  have:=AR hfg hx hg hf;by_cases h1:f y=true
  ·rw[h1,hfg y h1];simp;omega
  have lR:f y=false:=by simpa using h1
  rw[lR];simp only[zzbo,if_false,zzd];exact zzan this (Nat.le_add_right _ _)
def uc(ops:Array Oper)(listed:Array Bool):Nat:=(List.range ops.size).countP fun i=>!listed.getD i true
def jd{listed:Array Bool}{i:Nat}(hsz:listed.size=ops.size)(hi:i<ops.size)(hl:listed.getD i true=false):uc ops (listed.setIfInBounds i true)<uc ops listed:=by
 unfold uc;refine AR (x:=i) (fun j hj=>?_) (zzay.2 hi) (by rw[hl];rfl) (by rw[Xr zE];rfl);by_cases As:j=i
 ·subst As;rw[hl];rfl
 rw[Qs As]at hj;exact hj
def Qds{listed:Array Bool}(h:uc ops listed=0){i:Nat}(hi:i<ops.size):listed.getD i true=true:=by
 unfold uc at h;have:=List.countP_eq_zero.1 h i (zzay.2 hi);simpa using this
def Xa{listed:Array Bool}{i:Nat}(hi:i<listed.size)(b b':Bool):listed.getD i b=listed.getD i b':=by simp[hi]
def Zp(h:yN ops p=true):p<=ops.size/\∀i o,ops[i]?=some o->(∀j∈Xy o,j<i)/\
  (i<p->(∀t∈o.looksAt ops,∀j,j<p->Vq ops j=some t->j≠i->j<i/\j∈Xy o)/\(∀j,j<i->∀t,Vq ops j=some t->o.dst≠some t))/\
  (p<=i->CH ops i=true):=by
 unfold yN at h;simp only[zzak,decide_eq_true_eq,zzbf]at h;obtain⟨hp,h⟩:=h;refine⟨hp,fun i o ho=>?_⟩;have hi:i<ops.size:=(zzbs.1 ho).1;have:=h i (zzay.2 hi);simp only[ho,zzak,zzbf,decide_eq_true_eq]at this;obtain⟨h1,h2⟩:=this;refine⟨h1,fun dG=>?_,fun dG=>?_⟩
 ·rw[if_pos dG]at h2;simp only[zzak,zzbf]at h2;obtain⟨h3,h4⟩:=h2;refine⟨fun t ht j hj hd aK=>?_,fun j hj t hd dg=>?_⟩
  ·have:=h3 t ht j (zzay.2 hj);simp[hd,aK]at this;exact⟨this.1,this.2⟩
  have:=h4 j (zzay.2 hj);simp[hd,dg]at this
 rw[if_neg zE]at h2;exact h2
def Fk(ops:Array Oper)(listed:Array Bool):Prop:=∀i o,listed.getD i false=true->ops[i]?=some o->∀j∈Xy o,listed.getD j false=true
def Fk.set{listed:Array Bool}(h:Fk ops listed){i:Nat}{o:Oper}(ho:ops[i]?=some o)(hsz:i<listed.size)(bW:∀j∈Xy o,listed.getD j false=true):Fk ops (listed.setIfInBounds i true):=by
 have aiR:∀k,listed.getD k false=true->(listed.setIfInBounds i true).getD k false=true:=fun k hk=>by
  by_cases vO:i=k
  ·subst vO;exact Xr hsz
  rw[Qs (Ne.symm vO)];exact hk
 intro k o' hk dg j hj;by_cases vO:i=k
 ·subst vO;rw[ho]at dg;cases dg;exact aiR j (bW j hj)
 rw[Qs (Ne.symm vO)]at hk;exact aiR j (h k o' hk dg j hj)
def Qau{listed:Array Bool}(CJ:Fk ops listed){i:Nat}{o:Oper}(ho:ops[i]?=some o)(ht:CH ops i=true)(bW:∀j∈Xy o,listed.getD j false=true):∀(n j:Nat),j<i->i-j<=n->listed.getD j false=true
 |0,j,h1,h2=>zE
 |n+1,j,h1,h2=>by
  obtain⟨d,hd,hw⟩:=zzbu.1 (zzbf.1 ht j (zzay.2 h1));have hdl:=zzay.1 hd;unfold vQ at hw;split at hw
  ·rename_i o' dg;have hm:j∈Xy o':=by simpa using hw
   by_cases h0:d=0
   ·subst h0;rw[zzef,ho]at dg;cases dg;exact bW j hm
   exact CJ (i-d) o' (Qau CJ ho ht bW n (i-d) zE zE) dg j hm
  cases hw
def mT{o:Oper}{j:Nat}:j∈Xy o<->∃e∈o.after,Region.binds .any e=true/\e.on=j:=by
 simp[Xy];constructor
 ·rintro⟨e,⟨h1,h2⟩,rfl⟩;exact⟨e,h1,h2,rfl⟩
 rintro⟨e,h1,h2,rfl⟩;exact⟨e,⟨h1,h2⟩,rfl⟩
def Uk(hc:yN ops p=true){listed:Array Bool}(hsz:listed.size=ops.size):∀(n i:Nat),i<=n->i<ops.size->listed.getD i true=false->∃j,j∈Region.ready .any ops listed
 |0,i,bT,hi,hl=>by
  obtain rfl:i=0:=zE
  have ho:ops[0]?=some ops[0]:=zzag hi;refine⟨0,mem_ready.2 ⟨hl,ops[0],ho,fun e he hb=>?_⟩⟩;have:=((Zp hc).2 0 _ ho).1 e.on (mT.2 ⟨e,he,hb,rfl⟩);omega
 |n+1,i,bT,hi,hl=>by
  by_cases hex:∃j,j<i/\listed.getD j true=false
  ·obtain⟨j,hj,QC⟩:=hex;exact Uk hc hsz n j zE zE QC
  have ho:ops[i]?=some ops[i]:=zzag hi;refine⟨i,mem_ready.2 ⟨hl,ops[i],ho,fun e he hb=>?_⟩⟩;have ah:=((Zp hc).2 i _ ho).1 e.on (mT.2 ⟨e,he,hb,rfl⟩)
  have:listed.getD e.on true=true:=by
   cases h:listed.getD e.on true with
   |true=>rfl
   |false=>exact absurd ⟨e.on,ah,h⟩ hex
  rw[Xa zE false true];exact this
def Ul(hc:yN ops p=true){listed:Array Bool}{i:Nat}(hr:i∈Region.ready .any ops listed):i<ops.size/\listed.getD i true=false/\∃o,ops[i]?=some o/\∀j∈Xy o,listed.getD j false=true:=by
 obtain⟨h1,o,ho,h2⟩:=mem_ready.1 hr;refine⟨(zzbs.1 ho).1,h1,o,ho,fun j hj=>?_⟩;obtain⟨e,he,hb,rfl⟩:=mT.1 hj;exact h2 e he hb
def Qdt{Q:PH}{K:AS->Prop}(hQ:∀γ w s a,K s->dQ N w0 r an S P gl Y γ w s a->Q .normal a w)(hc:yN ops p=true):
  ∀(bh k:Nat)(listed:Array Bool)(γ:G)(w:World)(s:AS)(a:Act),p<=k->k<=ops.size->listed.size=ops.size->(∀j,j<k->listed.getD j false=true)->(∀j,k<=j->j<ops.size->listed.getD j true=false)->
   uc ops listed<=bh->Zg P gl orc Y ((ops.toList.drop k).map (Xf P ops)) s K->dQ N w0 r an S P gl Y γ w s a->wpAnyIn (FW r) 0 P .any ops Q bh listed a w:=by
 intro bh;induction bh with
 |zero=>
  intro k listed γ w s a Fl hk hsz hlo hhi je h hs
  have Ip:k=ops.size:=by
   rcases zzab k ops.size with h'|h'
   ·have:=Qds (zzfd.1 je) h';rw[hhi k (zzaa _) h']at this;cases this
   omega
  have hd:ops.toList.drop k=[]:=zzaj (by simp;omega);rw[hd]at h;refine⟨?_,hQ γ w s a h hs⟩;rw[List.eq_nil_iff_forall_not_mem];intro i hi;obtain⟨ah,hu,_⟩:=Ul hc hi;have:=Qds (zzfd.1 je) ah;rw[hu]at this;cases this
 |succ bh ih=>
  intro k listed γ w s a Fl hk hsz hlo hhi je h hs;refine⟨fun hr=>?_,fun i hi=>?_⟩
  ·have Ip:k=ops.size:=by
    rcases zzab k ops.size with h'|h'
    ·obtain⟨j,hj⟩:=Uk hc hsz k k (zzaa _) h' (hhi k (zzaa _) h');rw[hr]at hj;cases hj
    omega
   have hd:ops.toList.drop k=[]:=zzaj (by simp;omega);rw[hd]at h;exact hQ γ w s a h hs
  obtain⟨ah,hu,o,ho,bW⟩:=Ul hc hi
  have gU:k<=i:=by
   rcases zzab i k with h'|h'
   ·have:=hlo i h';rw[Xa zE false true,hu]at this;cases this
   exact h'
  have vO:i=k:=by
   rcases zzab k i with h'|h'
   ·have CJ:Fk ops listed:=fun x ox hx hox j hj=>by
     have hxk:x<k:=by
      rcases zzab x k with h1|h1
      ·exact h1
      have hxs:x<ops.size:=(zzbs.1 hox).1;rw[Xa zE false true,hhi x h1 hxs]at hx;cases hx
     have:=((Zp hc).2 x ox hox).1 j hj;exact hlo j zE
    have:=Qau CJ ho (((Zp hc).2 i o ho).2.2 zE) bW i k h' zE;rw[Xa zE false true,hhi k (zzaa _) zE]at this;cases this
   omega
  subst vO;refine wpOpIn_mono ?_ (vP ah hs h);rintro a' w' ⟨γ',s',dR,h'⟩;refine ih (i+1) _ γ' w' s' a' zE ah (by simp[hsz]) (fun j hj=>?_) (fun j ek nY=>?_) ?_ h' dR
  ·rcases zzab j i with h'|h'
   ·rw[Qs zE];exact hlo j h'
   obtain rfl:j=i:=zE
   exact Xr zE
  ·rw[Qs zE];exact hhi j zE nY
  have:=jd hsz ah hu;omega
def aei{P:Program}{w:World}{γ:G}{te:TypeId}{zs:P1}{i:TypeInfo}{z:Value}{n:Nat}(JQ:ak w γ zs z.cells.toList)(g5:zs.all Qw=true)(g4:zs.length=i.size):
  cG w γ (bH n zs) (madeCells z.cells (n*i.size)).toList/\∀v∈(madeCells z.cells (n*i.size)).toList,v.oneCell'=true:=by
 have oM:=Yy JQ g5;have E9:z.cells.size=zs.length:=by have:=JQ.1;simp at this;omega
 refine⟨⟨by simp[Jy,size_madeCells,g4],fun k c v j1 j2=>?_⟩,fun v hv=>?_⟩
 ·obtain⟨q1,q2⟩:=kH j1
  have h0:0<zs.length:=by
   rcases zzbx zs.length with h0|h0
   ·simp[h0]at q1
   exact h0
  have ah:k%zs.length<z.cells.size:=by rw[E9];exact zzdk _ h0
  have AG:v=z.cells[k%zs.length]:=by
   simp only[madeCells,zzby,zzgd]at j2;rw[zzag (by simp;rw[<- g4];exact q1)]at j2;simp[E9]at j2;rw[<- j2,getElem!_pos z.cells _ ah]
  subst AG;exact JQ.2 _ c _ q2 (by simp[ah])
 simp[madeCells]at hv;obtain⟨k,hk,rfl⟩:=hv
 have h0:0<z.cells.size:=by
  rcases zzbx z.cells.size with h0|h0
  ·rw[h0]at E9;rw[<- g4,<- E9]at hk;simp at hk
  exact h0
 have ah:k%z.cells.size<z.cells.size:=zzdk _ h0;rw[getElem!_pos z.cells _ ah];exact oM _ zd
def alQ{o:Oper}{sz bytes:Nat}{zs:P1}{x y:bN}(h:tr P o=.mks sz bytes zs x y):∃t l c te i,o.op=.makeSlice t l c/\x=aA l/\y=aA c/\P.underlying t=some (.slice te)/\P.info? te=some i/\sz=i.size/\bytes=i.bytes/\zc P te=some zs:=by
 obtain⟨dst,op,ty,pos,after,guard⟩:=o;cases op
 case makeSlice t l c=>
  simp only[tr]at h;split at h
  ·rename_i te hu;split at h
   ·split at h<;>cases h
   ·rename_i i hi _;split at h
    ·rename_i zs' hz;cases h;exact⟨t,_,_,te,i,rfl,rfl,rfl,hu,hi,rfl,rfl,hz⟩
    cases h
   cases h
  cases h
 case call c=>
  simp only[tr,Zq]at h;repeat' split at h
  all_goals cases h
 case build t parts=>
  simp only[tr,Js]at h;repeat' split at h
  all_goals cases h
 case slice t x lo hi mx=>cases mx<;>simp only[tr]at h<;>(repeat' split at h)<;>cases h
 case makeFunc fn a b=>cases fn<;>cases h
 case next x s=>cases s<;>cases h
 case makeMap t r=>cases r<;>simp only[tr]at h<;>(repeat' split at h)<;>cases h
 case binOp op t x y t'=>
  simp only[tr,iR,UM,vr]at h;repeat' split at h
  all_goals cases h
 all_goals first|(cases h;done)|(
  simp only[tr]at h;repeat' split at h
  all_goals cases h)
def vT(c:Call)(zs:P1):Zq P c≠.alloc zs:=by
 intro h;obtain⟨callee,args,ts⟩:=c;cases callee with
 |builtin b=>cases b<;>simp only[Zq]at h<;>(repeat' split at h)<;>cases h
 |_=>cases h
def CK(c:Call)(x:bN):Zq P c≠.box x:=by
 intro h;obtain⟨callee,args,ts⟩:=c;cases callee with
 |builtin b=>cases b<;>simp only[Zq]at h<;>(repeat' split at h)<;>cases h
 |_=>cases h
def VU{o:Oper}{zs:P1}(h:tr P o=.alloc zs):∃t,o.op=.alloc t/\zc P t=some zs:=by
 obtain⟨dst,op,ty,pos,after,guard⟩:=o;cases op
 case alloc t=>
  simp only[tr]at h;split at h
  ·rename_i zs' hz;cases h;exact⟨t,rfl,hz⟩
  cases h
 case call c=>exact absurd h (vT c zs)
 case build t parts=>
  simp only[tr,Js]at h;repeat' split at h
  all_goals cases h
 case slice t x lo hi mx=>cases mx<;>simp only[tr]at h<;>(repeat' split at h)<;>cases h
 case makeFunc fn a b=>cases fn<;>cases h
 case next x s=>cases s<;>cases h
 case makeMap t r=>cases r<;>simp only[tr]at h<;>(repeat' split at h)<;>cases h
 case binOp op t x y t'=>
  simp only[tr,iR,UM,vr]at h;repeat' split at h
  all_goals cases h
 all_goals first|(cases h;done)|(
  simp only[tr]at h;repeat' split at h
  all_goals cases h)
def alR{o:Oper}{x:bN}(h:tr P o=.box x):∃t y,o.op=.box t y/\x=aA y:=by
 obtain⟨dst,op,ty,pos,after,guard⟩:=o;cases op
 case box t y=>cases h;exact⟨t,y,rfl,rfl⟩
 case call c=>exact absurd h (CK c x)
 case build t parts=>
  simp only[tr,Js]at h;repeat' split at h
  all_goals cases h
 case slice t x lo hi mx=>cases mx<;>simp only[tr]at h<;>(repeat' split at h)<;>cases h
 case makeFunc fn a b=>cases fn<;>cases h
 case next x s=>cases s<;>cases h
 case makeMap t r=>cases r<;>simp only[tr]at h<;>(repeat' split at h)<;>cases h
 case binOp op t x y t'=>
  simp only[tr,iR,UM,vr]at h;repeat' split at h
  all_goals cases h
 all_goals first|(cases h;done)|(
  simp only[tr]at h;repeat' split at h
  all_goals cases h)
def axE(hc:yN ops p=true){listed:Array Bool}(hsz:listed.size=ops.size){i:Nat}{o:Oper}(ho:ops[i]?=some o)(dG:i<p)(hu:listed.getD i true=false)(bW:∀j∈Xy o,listed.getD j false=true)
  {t:Nat}(ht:t∈o.looksAt ops):(Xd P gl orc ops T0 m i).1.getD t .junk=At P gl orc ops T0 m p listed t:=by
 have hi:i<ops.size:=(zzbs.1 ho).1;obtain⟨hp,dy⟩:=Zp hc;unfold At;by_cases hex:∃j,j<p/\Vq ops j=some t/\j≠i
 ·obtain⟨j,hj,hd,aK⟩:=hex;obtain⟨As,hja⟩:=((dy i o ho).2.1 dG).1 t ht j hj hd aK
  have hw:wr ops p listed t=true:=by
   unfold wr;rw[zzbu];exact⟨j,zzay.2 hj,by rw[bW j hja,hd];simp⟩
  rw[if_pos hw]
  have:=kJ (P:=P) (gl:=gl) (orc:=orc) (ops:=ops) (T0:=T0) (m:=m) (t:=t) (k:=i) (p-i) fun k cZ dM NL=>by
   have hk:k<ops.size:=zE
   have NM:ops[k]?=some ops[k]:=zzag hk;have:=((dy k _ NM).2.1 zE).2 j zE t hd;simp[Vq,NM]at NL;exact this NL
  rw[show i+(p-i)=p by omega]at this;exact this.symm
 have hw:wr ops p listed t=false:=by
  unfold wr;rw[zzeb];intro j hj;simp only[zzak,beq_iff_eq,not_and];intro hl hd;by_cases As:j=i
  ·subst As;rw[Xa zE false true,hu]at hl;cases hl
  exact hex ⟨j,zzay.1 hj,hd,As⟩
 rw[hw];simp only[zzbo,if_false];exact Qei i fun j hj hd=>hex ⟨j,zE,hd,zE⟩
def alS(hc:yN ops p=true){listed:Array Bool}(hsz:listed.size=ops.size){i:Nat}{o:Oper}(ho:ops[i]?=some o)(dG:i<p){t:Nat}:
  At P gl orc ops T0 m p (listed.setIfInBounds i true) t=if o.dst=some t/\t<T0.length then(dop P gl orc (Xf P ops o) (Xd P gl orc ops T0 m i).1 m (Xd P gl orc ops T0 m i).2).2.1 else At P gl orc ops T0 m p listed t:=by
 have hi:i<ops.size:=(zzbs.1 ho).1;obtain⟨hp,dy⟩:=Zp hc;by_cases hd:o.dst=some t
 ·have hw:wr ops p (listed.setIfInBounds i true) t=true:=by
   unfold wr;rw[zzbu];exact⟨i,zzay.2 dG,by rw[Xr zE];simp[Vq,ho,hd]⟩
  have hl:=kJ (P:=P) (gl:=gl) (orc:=orc) (ops:=ops) (T0:=T0) (m:=m) (t:=t) (k:=i+1) (p-(i+1)) fun k cZ dM NL=>by
   have hk:k<ops.size:=zE
   have NM:ops[k]?=some ops[k]:=zzag hk;have:=((dy k _ NM).2.1 zE).2 i zE t (by simp[Vq,ho,hd]);simp[Vq,NM]at NL;exact this NL
  rw[show i+1+(p-(i+1))=p by omega]at hl;by_cases ht:t<T0.length
  ·rw[if_pos ⟨hd,ht⟩];unfold At;rw[if_pos hw,hl,Kt ho,hd];exact lU (by rw[jc];exact ht)
  rw[if_neg (by simp[ht])]
  have h1:∀k,(Xd P gl orc ops T0 m k).1.getD t .junk=.junk:=fun k=>by
   have:=jc (P:=P) (gl:=gl) (orc:=orc) (ops:=ops) (T0:=T0) (m:=m) k;simp only[List.getD];rw[zzar zE];rfl
  have h2:T0.getD t .junk=.junk:=h1 0;unfold At;rw[h1 p,h2];simp
 rw[if_neg (by simp[hd])]
 have hw:wr ops p (listed.setIfInBounds i true) t=wr ops p listed t:=by
  unfold wr;congr 1;funext j;by_cases hj:j=i
  ·subst hj;have hb:(o.dst==some t)=false:=by simpa using hd
   simp[Vq,ho,hb]
  rw[Qs hj]
 unfold At;rw[hw]
def J3(hc:yN ops p=true){Q:PH}{listed:Array Bool}{γ:G}{w:World}{a:Act}(hI:QB N w0 r an S Y P gl orc ops T0 m p listed γ w a){i:Nat}{o:Oper}(ho:ops[i]?=some o)(dG:i<p)
  (hu:listed.getD i true=false)(bW:∀j∈Xy o,listed.getD j false=true)(bV:(dop P gl orc (Xf P ops o) (Xd P gl orc ops T0 m i).1 m (Xd P gl orc ops T0 m i).2).1):
  wpOpIn (FW r) 0 P ops Q i (fun a' w'=>∃γ',QB N w0 r an S Y P gl orc ops T0 m p (listed.setIfInBounds i true) γ' w' a') a w:=by
 have hi:i<ops.size:=(zzbs.1 ho).1
 have zg:∀t∈o.looksAt ops,au w γ ((Xd P gl orc ops T0 m i).1.getD t .junk) (a.tmps.getD t undef):=fun t ht=>by
  rw[axE (P:=P) (gl:=gl) (orc:=orc) (T0:=T0) (m:=m) hc hI.size ho dG hu bW ht];exact hI.tt t
 have eV:∀x∈o.op.operands,au w γ (ev gl (Xd P gl orc ops T0 m i).1 (aA x)) (a.eval x):=fun x hx=>by
  cases x with
  |tmp t=>exact zg t (by simp only[Oper.looksAt,zzat,zzfj];exact .inl ⟨.tmp t,Nm hx,rfl⟩)
  |const v=>exact Jn w γ v
  |func f=>exact .fn rfl (fun i c v h=>by simp at h) rfl fun i c v h=>by simp at h
  |global g=>exact(hI.g g).gF
 have hB:∀id cells,m.boxes[id]?=some cells->AP P gl orc ops T0 m p listed id=some cells:=fun id cells h=>aef h
 have fin:∀{v:Value}{w':World}{γ':G},Ev w γ w' γ'->aq N w0 an γ' w' (AP P gl orc ops T0 m p (listed.setIfInBounds i true)) m.L->
   au w' γ' (dop P gl orc (Xf P ops o) (Xd P gl orc ops T0 m i).1 m (Xd P gl orc ops T0 m i).2).2.1 v->∃γ',QB N w0 r an S Y P gl orc ops T0 m p (listed.setIfInBounds i true) γ' w' (a.put o.dst v):=fun{v w' γ'}he hm hr=>by
  refine⟨γ',by simp[hI.size],fun j ek nY=>by rw[Qs zE];exact hI.tail j ek nY,Fk.set hI.clo ho (by rw[hI.size];exact hi) bW,hm,hI.ls.mono he,hI.rd.aV he.cR,?_,fun t=>?_,?_,fun g=>(hI.g g).mono he.cQ,hI.y.mono he.cR,hI.e.trans he.cR⟩
  ·cases hd:o.dst<;>simp[Act.put,hI.tl]
  ·rw[alS hc hI.size ho dG];by_cases hd:o.dst=some t
   ·by_cases ht:t<T0.length
    ·rw[if_pos ⟨hd,ht⟩,hd];have:(a.put (some t) v).tmps.getD t undef=v:=by simp[Act.put,hI.tl,ht]
     rw[this];exact hr
    rw[if_neg (by simp[ht]),hd];have:(a.put (some t) v).tmps.getD t undef=a.tmps.getD t undef:=by simp[Act.put,hI.tl,ht]
    rw[this];exact(hI.tt t).mono he
   rw[if_neg (by simp[hd])]
   have:(a.put o.dst v).tmps.getD t undef=a.tmps.getD t undef:=by
    cases y8:o.dst with
    |none=>rfl
    |some d=>simp only[Act.put];simp;rw[zzck (by rintro rfl;exact hd y8)]
   rw[this];exact(hI.tt t).mono he
  cases hd:o.dst<;>exact hI.d.aV he.cR
 have dX:=Kt (P:=P) (gl:=gl) (orc:=orc) (T0:=T0) (m:=m) ho
 have QD:∀cells,(dop P gl orc (Xf P ops o) (Xd P gl orc ops T0 m i).1 m (Xd P gl orc ops T0 m i).2).2.2=(Xd P gl orc ops T0 m i).2++[cells]->Is P gl orc ops T0 m i=true/\(Xd P gl orc ops T0 m p).2[kK P gl orc ops T0 m i]?=some cells:=fun cells h=>by
  refine⟨by simp only[Is,kK,dX,h];simp,?_⟩;have:=VR (P:=P) (gl:=gl) (orc:=orc) (ops:=ops) (T0:=T0) (m:=m) (i:=i+1) (p-(i+1)) (q:=kK P gl orc ops T0 m i) (c:=cells) (by rw[dX];simp only[h,kK];simp);rwa [show i+1+(p-(i+1))=p by omega]at this
 have vM:(dop P gl orc (Xf P ops o) (Xd P gl orc ops T0 m i).1 m (Xd P gl orc ops T0 m i).2).2.2=(Xd P gl orc ops T0 m i).2->AP P gl orc ops T0 m p (listed.setIfInBounds i true)=AP P gl orc ops T0 m p listed:=fun h=>
  VT (by simp only[Is,kK,dX,h];simp)
 have vU:listed.getD i false=false:=by rw[Xa (by rw[hI.size];exact hi) false true];exact hu
 have box:∀{cells:P1}{arr:PQ}{te:TypeId},ak w γ cells arr.toList->cells.all Qw=true->
   (dop P gl orc (Xf P ops o) (Xd P gl orc ops T0 m i).1 m (Xd P gl orc ops T0 m i).2).2=(.ptr (m.boxes.length+(Xd P gl orc ops T0 m i).2.length) 0,(Xd P gl orc ops T0 m i).2++[cells])->
   (execOp a.eval o).run P w=.ok (.value (.pointer (some ⟨w.heap.size,0,none⟩))) (w.alloc (.cells arr te))->
   o.wpIn (FW r) 0 P a w (fun a' w'=>∃γ',QB N w0 r an S Y P gl orc ops T0 m p (listed.setIfInBounds i true) γ' w' a') Q:=fun{cells arr te}hr bP hd aZ=>by
  obtain⟨qF,eL⟩:=QD cells (by rw[hd]);have aL:=AQ (p:=p) qF vU;refine Zn aZ (fin (hI.mm.dK _ aL _) ?_ ?_)
  ·rw[NK dG (by rw[hI.size];exact hi) qF eL];exact hI.mm.gC _ aL hr.toP (Yy hr bP)
  rw[hd];exact .ptr (by simp[G.box,kK])
 simp only[wpOpIn,ho];cases hg:o.guard with
 |none=>
  have hw:Region.wanted o (yielded ops a.tmps)=true:=by simp[Region.wanted,hg]
  rw[if_pos hw];have e1:(Xf P ops o).guard=none:=by simp[Xf,hg]
  cases VV:tr P o with
  |alloc zs=>
   have hd:dop P gl orc (Xf P ops o) (Xd P gl orc ops T0 m i).1 m (Xd P gl orc ops T0 m i).2=(zs.all Qw=true,.ptr (m.boxes.length+(Xd P gl orc ops T0 m i).2.length) 0,(Xd P gl orc ops T0 m i).2++[zs]):=by
    have e2:(Xf P ops o).op=.alloc zs:=VV;simp only[dop,e1,e2]
   rw[hd]at bV;obtain⟨t,VW,hz⟩:=VU VV;obtain⟨i',z,dm,iW,hr⟩:=iV (w:=w) (γ:=γ) hz;refine box (te:=t) hr bV (by rw[hd]) ?_;obtain⟨d',op',ty',arS,af',gu'⟩:=o;simp only at VW;subst VW;simp[execOp,Instr.alloc,zeroValue,typeInfo,dm,iW,newVar,newRow]
  |box x=>
   have hd:dop P gl orc (Xf P ops o) (Xd P gl orc ops T0 m i).1 m (Xd P gl orc ops T0 m i).2=(bare (ev gl (Xd P gl orc ops T0 m i).1 x)=true/\(cellsOf (ev gl (Xd P gl orc ops T0 m i).1 x)).all Qw=true,
     .ptr (m.boxes.length+(Xd P gl orc ops T0 m i).2.length) 0,(Xd P gl orc ops T0 m i).2++[cellsOf (ev gl (Xd P gl orc ops T0 m i).1 x)]):=by
    have e2:(Xf P ops o).op=.box x:=VV;simp only[dop,e1,e2]
   rw[hd]at bV;obtain⟨t,y,VW,rfl⟩:=alR VV;have hry:=eV y (by rw[VW];simp[Op.operands]);refine box (te:=t) (j9 hry bV.1) bV.2 (by rw[hd]) ?_;obtain⟨d',op',ty',arS,af',gu'⟩:=o;simp only at VW;subst VW;simp[execOp,Instr.box,newVar,newRow]
  |mks sz bytes zs x y=>
   obtain⟨t,l,c,te,i',VW,rfl,rfl,hu,dm,rfl,rfl,JM⟩:=alQ VV;have e2:(Xf P ops o).op=.mks i'.size i'.bytes zs (aA l) (aA c):=VV;simp only[dop,e1,e2]at bV QD;have hl:=eV l (by rw[VW];simp[Op.operands]);have hc:=eV c (by rw[VW];simp[Op.operands]);split at bV
   case h_2=>exact bV.elim
   rename_i k1 n1 k2 n2 q1 q2;rw[q1]at hl;rw[q2]at hc;obtain⟨⟨g0,g1,g2,g3⟩,g4,g5⟩:=bV;obtain⟨i2,z,hi2,hz,JQ⟩:=iV (w:=w) (γ:=γ) JM;rw[dm]at hi2;cases hi2
   have hd:dop P gl orc (Xf P ops o) (Xd P gl orc ops T0 m i).1 m (Xd P gl orc ops T0 m i).2=((0<=n1/\n1<=n2/\i'.bytes*n2<=281474976710656/\n2<=9223372036854775807)/\zs.length=i'.size/\zs.all Qw=true,.bs (m.boxes.length+(Xd P gl orc ops T0 m i).2.length) 0 n1.toNat i'.size,(Xd P gl orc ops T0 m i).2++[bH n2.toNat zs]):=by
    simp only[dop,e1,e2,q1,q2]
   have aZ:=run_make (P:=P) w t te i' z hu dm hz k1 k2 n1 n2 g0 zE g2 g3;obtain⟨sC,dB⟩:=aei (P:=P) (te:=te) (n:=n2.toNat) JQ g5 g4;obtain⟨qF,eL⟩:=QD (bH n2.toNat zs) (by simp only[q1,q2]);have aL:=AQ (p:=p) qF vU
   have arT:(execOp a.eval o).run P w=.ok (.value (.slice (some ⟨w.heap.size,0,none⟩) n1.toNat n2.toNat)) (w.alloc (.cells (madeCells z.cells (n2.toNat*i'.size)) te)):=by
    obtain⟨d',op',ty',arS,af',gu'⟩:=o;simp only at VW;subst VW;simp[execOp,hl.aJ,hc.aJ,aZ]
   refine Zn arT (fin (hI.mm.dK _ aL _) ?_ ?_)
   ·rw[NK dG (by rw[hI.size];exact hi) qF eL];exact hI.mm.gC _ aL sC dB
   rw[hd];exact .bs (arr:=madeCells z.cells (n2.toNat*i'.size)) (e:=te) (by simp[G.box,kK]) zE (by show(w.heap.push _)[w.heap.size]?=_;simp) (by rw[zzbn,size_madeCells];exact zzaa _)
  |_=>
   have hd:dop P gl orc (Xf P ops o) (Xd P gl orc ops T0 m i).1 m (Xd P gl orc ops T0 m i).2=((rop P gl orc (ev gl (Xd P gl orc ops T0 m i).1) m o.dst (tr P o)).1,(rop P gl orc (ev gl (Xd P gl orc ops T0 m i).1) m o.dst (tr P o)).2,(Xd P gl orc ops T0 m i).2):=by
    have e2:(Xf P ops o).op=tr P o:=rfl;rw[VV]at e2;simp only[dop,e1,e2,VV];rfl
   rw[hd]at bV;have yO:=vM (by rw[hd]);rw[hd,yO]at fin;exact Qct hI.mm hB hI.g eV bV r _ Q fun v w' γ' h1 h2 h3=>fin h1 h2 h3
 |some q=>
  obtain⟨j,want⟩:=q;have e1:(Xf P ops o).guard=some ((ops[j]?).bind (·.dst),want):=by simp[Xf,hg]
  cases hj:(ops[j]?).bind (·.dst)with
  |none=>
   rw[hj]at e1;simp only[dop,e1]at bV
  |some t=>
   rw[hj]at e1;have iG:t∈o.looksAt ops:=by simp[Oper.looksAt,hg,hj]
   have bn:=zg t iG;cases oN:Iq want ((Xd P gl orc ops T0 m i).1.getD t .junk)with
   |none=>simp only[dop,e1,oN]at bV
   |some gw=>
    have hd:dop P gl orc (Xf P ops o) (Xd P gl orc ops T0 m i).1 m (Xd P gl orc ops T0 m i).2=(gok gl (Xd P gl orc ops T0 m i).1 gw (gxs (tr P o) (Xf P ops o).xs)/\(gw=true->(rop P gl orc (evG gl (Xd P gl orc ops T0 m i).1 (tr P o)) m o.dst (tr P o)).1),
      .gd gw (rop P gl orc (evG gl (Xd P gl orc ops T0 m i).1 (tr P o)) m o.dst (tr P o)).2,(Xd P gl orc ops T0 m i).2):=by
     simp only[dop,e1,oN];rfl
    rw[hd]at bV;have yO:=vM (by rw[hd]);rw[hd,yO]at fin
    have VN:Region.wanted o (yielded ops a.tmps)=gw:=by
     have hyv:∀b,a.tmps.getD t undef=.bool b->yielded ops a.tmps j=some b:=fun b hb=>by
      have bL:t<a.tmps.size:=by
       rcases zzab t a.tmps.size with h|h
       ·exact h
       simp[zzbt h,undef]at hb
      simp[bL]at hb;simp only[yielded,hj,zzcr,zzag bL,hb]
     have hyu:a.tmps.getD t undef=undef->yielded ops a.tmps j=none:=fun hb=>by
      rcases zzab t a.tmps.size with bL|h
      ·simp[bL]at hb;simp only[yielded,hj,zzcr,zzag bL,hb];rfl
      simp only[yielded,hj,zzcr,zzbt h]
     generalize(Xd P gl orc ops T0 m i).1.getD t .junk=gv at oN bn;cases gv with
     |bool g=>
      simp only[Iq,Option.some.injEq]at oN;subst oN;simp only[Region.wanted,hg,hyv g bn.bA];cases g<;>cases want<;>rfl
     |gd d x=>
      cases d with
      |false=>
       simp only[Region.wanted,hg,hyu bn.NA];cases x<;>simp[Iq]at oN<;>subst oN<;>cases want<;>rfl
      |true=>
       cases x<;>simp[Iq]at oN;rename_i b;subst oN;simp only[Region.wanted,hg,hyv b (bn.Cu rfl).bA];cases b<;>cases want<;>rfl
     |_=>simp[Iq]at oN
    rw[VN];obtain⟨h1,h2⟩:=bV;cases SN:gw with
    |true=>
     rw[SN]at h1 h2 fin;simp only[if_true];refine Qct (e:=evG gl (Xd P gl orc ops T0 m i).1 (tr P o)) hI.mm hB hI.g (fun x hx=>?_) (h2 rfl) r _ Q fun v w' γ' q1 q2 q3=>fin q1 q2 (.gd (fun _=>q3) (fun h=>by cases h));unfold evG;cases fk:rawOp (tr P o)with
     |true=>exact eV x hx
     |false=>
      refine AN (eV x hx) fun g' b hgb=>CG h1 (aA x) ?_ g' b hgb rfl;simp only[gxs,fk,cond_false];simp[Xf,hg];exact⟨x,Nm hx,rfl⟩
    |false=>
     rw[SN]at fin;simp only[zzbo,if_false];exact⟨fun _ _=>trivial,fin (Ev.refl _ _) hI.mm (.gd (fun h=>by cases h) (fun _=>rfl))⟩
def Fm{Q:PH}{K:AS->Prop}(hQ:∀γ w s a,K s->dQ N w0 r an S P gl Y γ w s a->Q .normal a w)(hc:yN ops p=true)
  (alT:∀i o,i<p->ops[i]?=some o->(dop P gl orc (Xf P ops o) (Xd P gl orc ops T0 m i).1 m (Xd P gl orc ops T0 m i).2).1)
  (arU:Zg P gl orc Y ((ops.toList.drop p).map (Xf P ops)) ⟨(Xd P gl orc ops T0 m p).1,{m with boxes:=m.boxes++(Xd P gl orc ops T0 m p).2}⟩ K):
  ∀(bh:Nat)(listed:Array Bool)(γ:G)(w:World)(a:Act),QB N w0 r an S Y P gl orc ops T0 m p listed γ w a->uc ops listed<=bh->wpAnyIn (FW r) 0 P .any ops Q bh listed a w:=by
 obtain⟨hp,dy⟩:=Zp hc
 have full:∀(bh:Nat)(listed:Array Bool)(γ:G)(w:World)(a:Act),QB N w0 r an S Y P gl orc ops T0 m p listed γ w a->uc ops listed<=bh->(∀i,i<p->listed.getD i false=true)->wpAnyIn (FW r) 0 P .any ops Q bh listed a w:=by
  intro bh listed γ w a hI je bJ;refine Qdt hQ hc bh p listed γ w _ a (zzaa _) hp hI.size bJ hI.tail je arU ⟨?_,hI.ls,hI.rd,⟨?_,fun t x v hx hv=>?_⟩,hI.d,hI.g,hI.y,hI.e⟩
  ·have:=hI.mm;rw[aeh bJ]at this;exact this
  ·simp[jc,hI.tl]
  have h1:=hI.tt t
  have hAt:At P gl orc ops T0 m p listed t=x:=by
   have j8:(Xd P gl orc ops T0 m p).1.getD t .junk=x:=by simp only at hx;simp[List.getD,hx]
   unfold At;split
   ·exact j8
   rename_i hw;rw[<- j8];refine(Qei p fun j hj hd=>hw ?_).symm;unfold wr;rw[zzbu];exact⟨j,zzay.2 hj,by rw[bJ j hj,hd];simp⟩
  rw[hAt]at h1;have:a.tmps.getD t undef=v:=by simp at hv;simp[hv]
  rwa [this]at h1
 intro bh;induction bh with
 |zero=>
  intro listed γ w a hI je
  exact full 0 listed γ w a hI je fun i hi=>by
   rw[Xa (by rw[hI.size];omega) false true];exact Qds (zzfd.1 je) zE
 |succ bh ih=>
  intro listed γ w a hI je;by_cases bJ:∀i,i<p->listed.getD i false=true
  ·exact full (bh+1) listed γ w a hI je bJ
  have hex:∃k,k<p/\listed.getD k true=false:=by
   refine Classical.byContradiction fun hn=>bJ fun i hi=>?_;rw[Xa (by rw[hI.size];omega) false true];cases hl:listed.getD i true with
   |true=>rfl
   |false=>exact absurd ⟨i,hi,hl⟩ hn
  obtain⟨k,hk,VX⟩:=hex;refine⟨fun hr=>?_,fun i hi=>?_⟩
  ·obtain⟨j,hj⟩:=Uk hc hI.size k k (zzaa _) zE VX;rw[hr]at hj;cases hj
  obtain⟨ah,hu,o,ho,bW⟩:=Ul hc hi
  have dG:i<p:=by
   rcases zzab i p with h|h
   ·exact h
   have:=Qau hI.clo ho ((dy i o ho).2.2 h) bW i k zE zE;rw[Xa (by rw[hI.size];omega) false true,VX]at this;cases this
  refine wpOpIn_mono ?_ (J3 hc hI ho dG hu bW (alT i o dG ho));rintro a' w' ⟨γ',mU⟩;refine ih _ γ' w' a' mU ?_;have:=jd hI.size ah hu;omega
def vV{Q:PH}{K:AS->Prop}{γ:G}{w:World}{s:AS}{a:Act}(hQ:∀γ w s a,K s->dQ N w0 r an S P gl Y γ w s a->Q .normal a w)(hc:yN ops p=true)
  (h:vcD P gl orc Y ((ops.toList.drop p).map (Xf P ops)) K ((ops.toList.take p).map (Xf P ops)) s.T s.m [])(hs:dQ N w0 r an S P gl Y γ w s a):
  wpAnyIn (FW r) 0 P .any ops Q ops.size (Array.replicate ops.size false) a {w with drawn:=w.drawn+1}:=by
 have hp:=(Zp hc).1;obtain⟨h1,h2⟩:=NI (P:=P) (gl:=gl) (orc:=orc) (T0:=s.T) (m:=s.m) ((ops.toList.drop p).map (Xf P ops)) K hp p 0 zd (by rw[zzdf];exact h);refine Fm (T0:=s.T) (m:=s.m) hQ hc (fun i o hi ho=>h1 i o (zzbe _) hi ho) h2 ops.size _ γ w.drew a ⟨zd,fun i _ hi=>by simp[hi],fun i o h=>(by rcases zzab i ops.size with h'|h'<;>simp[h']at h),?_,hs.ls.mono (Ev.drew w γ),hs.rd.aV (Ev.drew w γ).cR,?_,fun t=>?_,hs.d.aV (Ev.drew w γ).cR,fun g=>(hs.g g).mono (Ev.drew w γ).cQ,hs.y.mono (Ev.drew w γ).cR,hs.e.trans (Ev.drew w γ).cR⟩ ?_
 ·have hB:AP P gl orc ops s.T s.m p (Array.replicate ops.size false)=s.m.B:=by
   funext id;unfold AP;simp only[AM.B];split
   ·rfl
   rename_i aL;rw[if_neg,zzar zE];rw[zzbu];rintro⟨j,_,hj⟩
   have:(Array.replicate ops.size false).getD j false=false:=by
    rcases zzab j ops.size with h|h<;>simp[h]
   rw[this]at hj;cases hj
  rw[hB];exact hs.m.drew
 ·have:=hs.t.1;simp at this;omega
 ·have hw:wr ops p (Array.replicate ops.size false) t=false:=by
   unfold wr;rw[zzeb];intro j _
   have:(Array.replicate ops.size false).getD j false=false:=by
    rcases zzab j ops.size with h|h<;>simp[h]
   rw[this];simp
  unfold At;rw[hw];simp only[zzbo,if_false];have:=(hs.t.mono (Ev.drew w γ)).get t;simpa[List.getD]using this
 unfold uc;exact zzaz (zzet) zd
end
def VY(o:Oper):Bool:=o.guard.isNone
def arV(f:FuncId):Bool:=f==189||f==138||f==85||f==55||f==56
def arW(f:FuncId):Bool:=f==74||f==75
def aiS(o:Oper):Bool:=match o.op with
 |.call ⟨.value (.tmp _),_,_⟩=>o.dst.isSome
 |.call ⟨.value (.func f),_,_⟩=>o.dst.isSome&&arV f
 |.call ⟨.builtin .copy,_,_⟩=>true
 |.call ⟨.builtin .append,_,_⟩=>o.dst.isSome
 |.store _ _ _=>true
 |.mapUpdate _ _ _ _=>true
 |.mapEntry _ _ _=>true
 |.entryStore _ _ _ _=>true
 |_=>false
def CL(o:Oper):Bool:=aiS o||(match o.op with
 |.alloc _|.box _ _|.makeMap _ _|.range _ _=>true
 |_=>false)
def arX(f:FuncId):Bool:=f==0
def arY(o:Oper):Bool:=match o.op with
 |.call ⟨.value (.func f),_,_⟩=>arX f
 |_=>false
def eM(ops:Array Oper)(p:Oper->Bool)(i:Nat):Bool:=match ops[i]? with
 |some o=>p o
 |none=>false
def QE(ops:Array Oper):P2->Bool
 |j::j'::r=>(match ops[j']? with|some o=>(Xy o).contains j|none=>false)&&QE ops (j'::r)
 |_=>true
def mV(ops:Array Oper)(p:Nat):Option (P2):=
 let js:=(List.range p).filter (eM ops CL)
 if(List.range p).any (eM ops aiS)&&QE ops js&&((List.range p).all (eM ops VY)||(List.range p).any (eM ops arY))&&(List.range p).all (fun i=>ops[i]?.isSome)then some js else none
inductive Fg
 |eff
 |pre
 |oth
def Fo(ops:Array Oper):Nat->P2->P2
 |0,s=>s
 |k+1,s=>bif s.any fun i=>vQ ops i k then Fo ops k (k::s)else Fo ops k s
def uh{ops:Array Oper}{listed:Array Bool}(h:Fk ops listed):∀(k:Nat)(s:P2),(∀i∈s,listed.getD i false=true)->∀i∈Fo ops k s,listed.getD i false=true
 |0,_,hs,i,hi=>hs i hi
 |k+1,s,hs,i,hi=>by
  simp only[Fo]at hi;cases hc:s.any fun i=>vQ ops i k with
  |false=>rw[hc]at hi;exact uh h k s hs i hi
  |true=>
   rw[hc]at hi;refine uh h k (k::s) (fun j hj=>?_) i hi;rcases zzao.1 hj with rfl|hj
   ·obtain⟨x,hx,hw⟩:=zzbu.1 hc;unfold vQ at hw;split at hw
    ·rename_i o ho;exact h x o (hs x hx) ho j (Nm hw)
    cases hw
   exact hs j hj
def lV(ops:Array Oper)(js:P2)(i:Nat):Bool:=match js with
 |j::_=>(Fo ops j [j]).contains i
 |[]=>false
def Jh(ops:Array Oper)(js:P2)(i:Nat):Fg:=bif js.contains i then .eff else bif lV ops js i then .pre else .oth
def flags(ops:Array Oper)(p:Nat)(js:P2):List Fg:=(List.range p).map (Jh ops js)
section
variable (P:Program) (gl:Nat->AV) (orc:X1) (Y:YT)
def memEff:aC->Bool
 |.store _ _ _|.cpy _ _ _|.mupd _ _ _ _|.ment _ _ _ _|.esto _ _ _|.alloc _|.box _|.mkmap _|.rng _|.app _ _ _ _=>true
 |_=>false
def effV(v:AV):aC->AV
 |.alloc _|.box _|.mkmap _|.rng _|.ment _ _ _ _|.app _ _ _ _=>v
 |_=>.junk
def effC(e:bN->AV)(m:AM)(dst:Option Nat)(av:AV)(m1:AM):aC->Prop
 |.call f args=>(match e f with
  |.fn g first cap=>aF P gl Y g (first++args.map e++cap) m (fun x m2=>x=av/\m2=m1)
  |_=>False)
 |so=>memEff so=true/\(sop P gl orc e m dst so).1/\av=effV (sop P gl orc e m dst so).2.1 so/\m1=(sop P gl orc e m dst so).2.2
def Vv(T:P1)(o:SO):Prop:=match o.guard with
 |none=>True
 |some (some t,b)=>T.getD t .junk=.bool b
 |some (none,_)=>False
def uj(l2:List SO)(K:AS->Prop)(m:AM)(ms:R0):List SO->List Fg->R0->AM->P1->Prop
 |[],_,q,mc,T=>q=[]/\Zg P gl orc Y l2 ⟨T,mc⟩ K
 |_::_,[],_,_,_=>False
 |o::r,.eff::fl,q,mc,T=>(match q with
  |[]=>False
  |x::q=>Vv T o/\effC P gl orc Y (ev gl T) mc o.dst x.1 x.2 o.op/\uj l2 K m ms r fl q x.2 (put T o.dst x.1))
 |o::r,.pre::fl,q,mc,T=>Vv T o/\(rop P gl orc (ev gl T) m o.dst o.op).1/\uj l2 K m ms r fl q mc (put T o.dst (rop P gl orc (ev gl T) m o.dst o.op).2)
 |o::r,.oth::fl,q,mc,T=>Vv T o/\(rop P gl orc (ev gl T) m o.dst o.op).1/\(∀x∈ms,rop P gl orc (ev gl T) x.2 o.dst o.op=rop P gl orc (ev gl T) m o.dst o.op)/\uj l2 K m ms r fl q mc (put T o.dst (rop P gl orc (ev gl T) m o.dst o.op).2)
def rdC(e:bN->AV)(m:AM)(dst:Option Nat)(x:AM):aC->Prop
 |.call f args=>(match e f with
  |.fn g first cap=>aF P gl Y g (first++args.map e++cap) x (fun y m2=>y=(rop P gl orc e m dst (.call f args)).2/\m2=x)
  |_=>False)
 |_=>False
def arZ(m:AM)(ms:R0)(e:bN->AV)(dst:Option Nat)(so:aC):Prop:=
 ((rop P gl orc e m dst so).1/\∀x∈ms,rop P gl orc e x.2 dst so=rop P gl orc e m dst so)\/(rdC P gl orc Y e m dst m so/\∀x∈ms,rdC P gl orc Y e m dst x.2 so)
def iH(l2:List SO)(K:AS->Prop)(m:AM)(ms:R0):List SO->List Fg->R0->AM->P1->Prop
 |[],_,q,mc,T=>q=[]/\Zg P gl orc Y l2 ⟨T,mc⟩ K
 |_::_,[],_,_,_=>False
 |o::r,.eff::fl,q,mc,T=>(match q with
  |[]=>False
  |x::q=>Vv T o/\effC P gl orc Y (ev gl T) mc o.dst x.1 x.2 o.op/\iH l2 K m ms r fl q x.2 (put T o.dst x.1))
 |o::r,.pre::fl,q,mc,T=>Vv T o/\(rop P gl orc (ev gl T) m o.dst o.op).1/\iH l2 K m ms r fl q mc (put T o.dst (rop P gl orc (ev gl T) m o.dst o.op).2)
 |o::r,.oth::fl,q,mc,T=>Vv T o/\arZ P gl orc Y m ms (ev gl T) o.dst o.op/\iH l2 K m ms r fl q mc (put T o.dst (rop P gl orc (ev gl T) m o.dst o.op).2)
def NN{l2:List SO}{K:AS->Prop}{m:AM}{ms:R0}:∀{l:List SO}{fl:List Fg}{q:R0}{mc:AM}{T:P1},uj P gl orc Y l2 K m ms l fl q mc T->iH P gl orc Y l2 K m ms l fl q mc T
 |[],fl,q,mc,T,h=>by simp only[uj]at h;simp only[iH];exact h
 |_::_,[],_,_,_,h=>by simp only[uj]at h
 |o::r,.eff::fl,[],mc,T,h=>by simp only[uj]at h
 |o::r,.eff::fl,x::q,mc,T,h=>by
  simp only[uj]at h;simp only[iH];exact⟨h.1,h.2.1,NN h.2.2⟩
 |o::r,.pre::fl,q,mc,T,h=>by
  simp only[uj]at h;simp only[iH];exact⟨h.1,h.2.1,NN h.2.2⟩
 |o::r,.oth::fl,q,mc,T,h=>by
  simp only[uj]at h;simp only[iH];exact⟨h.1,.inl ⟨h.2.1,h.2.2.1⟩,NN h.2.2.2⟩
end
def J4:QP->Nat->Option AV
 |[],_=>none
 |(k,a)::r,d=>if k=d then some a else J4 r d
def Xb:P2->R0->QP
 |j::js,x::q=>(j,x.1)::Xb js q
 |_,_=>[]
def Yz(listed:Array Bool):AM->P2->R0->AM
 |m,j::js,x::q=>if listed.getD j false then Yz listed x.2 js q else m
 |m,_,_=>m
def Vt(m:AM)(ms:R0):Nat->AM
 |0=>m
 |a+1=>(ms.getD a (.junk,m)).2
def chn(listed:Array Bool):P2->Prop
 |j::j'::r=>(listed.getD j' false=true->listed.getD j false=true)/\chn listed (j'::r)
 |_=>True
section
variable {N:Nat} {w0:fE} {r:Option Nat} {an:Nat->Nat->Prop} {S:G×World} {Y:YT} {P:Program} {gl:Nat->AV} {orc:X1} {ops:Array Oper} {T0:P1} {m:AM} {p:Nat}
def vW(listed:Array Bool):∀(js:P2)(ms:R0)(m:AM),Yz listed m js ms=m\/∃x∈ms,Yz listed m js ms=x.2
 |[],ms,m=>.inl (by cases ms<;>rfl)
 |j::js,[],m=>.inl rfl
 |j::js,x::q,m=>by
  simp only[Yz];split
  ·rcases vW listed js q x.2 with h|⟨y,hy,h⟩
   ·exact .inr ⟨x,zd,h⟩
   exact .inr ⟨y,by simp[hy],h⟩
  exact .inl rfl
def Uy{listed:Array Bool}:∀{js:P2}{ms:R0}{m:AM}{a:Nat},js.length=ms.length->a<=js.length->(∀b j,b<a->js[b]?=some j->listed.getD j false=true)->(∀j,js[a]?=some j->listed.getD j false=false)->
  Yz listed m js ms=Vt m ms a
 |[],[],m,a,_,ha,_,_=>by
  have:a=0:=by simpa using ha
  subst this;rfl
 |[],_::_,_,_,h,_,_,_=>by simp at h
 |_::_,[],_,_,h,_,_,_=>by simp at h
 |j::js,x::q,m,0,_,_,_,h=>by
  simp only[Yz,Vt];rw[h j rfl];rfl
 |j::js,x::q,m,a+1,hl,ha,h1,h2=>by
  simp only[Yz];rw[h1 0 j zE rfl,if_pos rfl];rw[Uy (a:=a) (Nm hl) (Nm ha) (fun b j hb hj=>h1 (b+1) j zE (Nm hj)) (fun j hj=>h2 j (Nm hj))];cases a with
  |zero=>rfl
  |succ a=>
   simp only[Vt,List.getD_cons_succ];have:a<q.length:=by simp at ha hl;omega
   simp[List.getD,this]
def qO{listed NO:Array Bool}:∀{js:P2}{ms:R0}{m:AM},(∀j∈js,NO.getD j false=listed.getD j false)->Yz NO m js ms=Yz listed m js ms
 |[],_,_,_=>rfl
 |_::_,[],_,_=>rfl
 |j::js,x::q,m,h=>by
  simp only[Yz];rw[h j zd,qO fun j hj=>h j (by simp[hj])]
def Qbj{listed:Array Bool}:∀{js:P2},chn listed js->∀{a b j j':Nat},a<b->js[a]?=some j->js[b]?=some j'->listed.getD j' false=true->listed.getD j false=true
 |[],_,a,b,j,j',_,h,_,_=>by simp at h
 |[x],_,a,b,j,j',SP,h,h',_=>by
  have:=(zza.1 h').1;simp at this;omega
 |x::y::r,hc,0,1,j,j',_,h,h',hl=>by
  simp at h h';subst h;subst h';exact hc.1 hl
 |x::y::r,hc,0,b+2,j,j',_,h,h',hl=>by
  simp at h;subst h;exact hc.1 (Qbj hc.2 (a:=0) (b:=b+1) zE rfl (Nm h') hl)
 |x::y::r,hc,a+1,b+1,j,j',SP,h,h',hl=>Qbj hc.2 (a:=a) (b:=b) zE (Nm h) (Nm h') hl
def uk{listed:Array Bool}{i:Nat}:∀{js:P2},chn listed js->(∀a j,js[a]?=some j->js[a+1]?=some i->listed.getD j false=true)->chn (listed.setIfInBounds i true) js
 |[],_,_=>trivial
 |[_],_,_=>trivial
 |j::j'::r,hc,h=>by
  refine⟨fun hl=>?_,uk hc.2 fun a x hx j8=>h (a+1) x (Nm hx) (Nm j8)⟩
  have mono:∀k,listed.getD k false=true->(listed.setIfInBounds i true).getD k false=true:=fun k hk=>by
   by_cases vO:i=k
   ·subst vO
    have:i<listed.size:=by
     rcases zzab i listed.size with h|h
     ·exact h
     simp[zzbj.2 h]at hk
    exact Xr this
   rw[Qs (Ne.symm vO)];exact hk
  by_cases fP:i=j'
  ·subst fP;exact mono j (h 0 j rfl rfl)
  rw[Qs (Ne.symm fP)]at hl;exact mono j (hc.1 hl)
def Uw{l:P2}(h:l.Nodup){a b i:Nat}(h1:l[a]?=some i)(h2:l[b]?=some i):a=b:=by
 obtain⟨ha,ea⟩:=zza.1 h1;obtain⟨hb,eb⟩:=zza.1 h2;rcases zzep a b with h'|h'|h'
 ·exact absurd (ea.trans eb.symm) (zzdo.1 h a b ha hb h')
 ·exact h'
 exact absurd (eb.trans ea.symm) (zzdo.1 h b a hb ha h')
def CM(P:Program)(gl:Nat->AV)(orc:X1)(ops:Array Oper)(m:AM)(L:QP)(i:Nat)(T:P1):AV:=match J4 L i with
 |some av=>av
 |none=>match ops[i]? with
  |some o=>(rop P gl orc (ev gl T) m o.dst (tr P o)).2
  |none=>.junk
def bX(P:Program)(gl:Nat->AV)(orc:X1)(ops:Array Oper)(T0:P1)(m:AM)(L:QP):Nat->P1
 |0=>T0
 |k+1=>match ops[k]? with
  |some o=>put (bX P gl orc ops T0 m L k) o.dst (CM P gl orc ops m L k (bX P gl orc ops T0 m L k))
  |none=>bX P gl orc ops T0 m L k
def Qdh{L:QP}{k:Nat}{o:Oper}(h:ops[k]?=some o):bX P gl orc ops T0 m L (k+1)=put (bX P gl orc ops T0 m L k) o.dst (CM P gl orc ops m L k (bX P gl orc ops T0 m L k)):=by
 simp only[bX,h]
def Qej{L:QP}:∀k,(bX P gl orc ops T0 m L k).length=T0.length
 |0=>rfl
 |k+1=>by
  cases h:ops[k]? with
  |none=>simp only[bX,h];exact Qej k
  |some o=>rw[Qdh h,vS];exact Qej k
def Qas{L:QP}{t:Nat}:∀k,(∀j,j<k->Vq ops j≠some t)->(bX P gl orc ops T0 m L (k)).getD t .junk=T0.getD t .junk
 |0,_=>rfl
 |k+1,h=>by
  cases ho:ops[k]? with
  |none=>simp only[bX,ho];exact Qas k fun j hj=>h j zE
  |some o=>
   rw[Qdh ho,Qbx (by have:=h k zE;simpa[Vq,ho]using this)];exact Qas k fun j hj=>h j zE
def jf{L:QP}{t k:Nat}:∀n,(∀j,k<=j->j<k+n->Vq ops j≠some t)->(bX P gl orc ops T0 m L (k+n)).getD t .junk=(bX P gl orc ops T0 m L (k)).getD t .junk
 |0,_=>rfl
 |n+1,h=>by
  rw[<- zzas];cases ho:ops[k+n]? with
  |none=>simp only[bX,ho];exact jf n fun j h1 h2=>h j h1 zE
  |some o=>
   rw[Qdh ho,Qbx (by have:=h (k+n) zE zE;simpa[Vq,ho]using this)];exact jf n fun j h1 h2=>h j h1 zE
def oO(P:Program)(gl:Nat->AV)(orc:X1)(ops:Array Oper)(T0:P1)(m:AM)(L:QP)(p:Nat)(listed:Array Bool)(t:Nat):AV:=
 if wr ops p listed t then(bX P gl orc ops T0 m L (p)).getD t .junk else T0.getD t .junk
def aiT{L:QP}(hc:yN ops p=true){listed:Array Bool}(hsz:listed.size=ops.size){i:Nat}{o:Oper}(ho:ops[i]?=some o)(dG:i<p)(hu:listed.getD i true=false)(bW:∀j∈Xy o,listed.getD j false=true)
  {t:Nat}(ht:t∈o.looksAt ops):(bX P gl orc ops T0 m L (i)).getD t .junk=oO P gl orc ops T0 m L p listed t:=by
 have hi:i<ops.size:=(zzbs.1 ho).1;obtain⟨hp,dy⟩:=Zp hc;unfold oO;by_cases hex:∃j,j<p/\Vq ops j=some t/\j≠i
 ·obtain⟨j,hj,hd,aK⟩:=hex;obtain⟨As,hja⟩:=((dy i o ho).2.1 dG).1 t ht j hj hd aK
  have hw:wr ops p listed t=true:=by
   unfold wr;rw[zzbu];exact⟨j,zzay.2 hj,by rw[bW j hja,hd];simp⟩
  rw[if_pos hw]
  have:=jf (P:=P) (gl:=gl) (orc:=orc) (ops:=ops) (T0:=T0) (m:=m) (L:=L) (t:=t) (k:=i) (p-i) fun k cZ dM NL=>by
   have hk:k<ops.size:=zE
   have NM:ops[k]?=some ops[k]:=zzag hk;have:=((dy k _ NM).2.1 zE).2 j zE t hd;simp[Vq,NM]at NL;exact this NL
  rw[show i+(p-i)=p by omega]at this;exact this.symm
 have hw:wr ops p listed t=false:=by
  unfold wr;rw[zzeb];intro j hj;simp only[zzak,beq_iff_eq,not_and];intro hl hd;by_cases As:j=i
  ·subst As;rw[Xa zE false true,hu]at hl;cases hl
  exact hex ⟨j,zzay.1 hj,hd,As⟩
 rw[hw];simp only[zzbo,if_false];exact Qas i fun j hj hd=>hex ⟨j,zE,hd,zE⟩
def CN{L:QP}(hc:yN ops p=true){listed:Array Bool}(hsz:listed.size=ops.size){i:Nat}{o:Oper}(ho:ops[i]?=some o)(dG:i<p){t:Nat}:
  oO P gl orc ops T0 m L p (listed.setIfInBounds i true) t=if o.dst=some t/\t<T0.length then CM P gl orc ops m L i (bX P gl orc ops T0 m L i)else oO P gl orc ops T0 m L p listed t:=by
 have hi:i<ops.size:=(zzbs.1 ho).1;obtain⟨hp,dy⟩:=Zp hc;by_cases hd:o.dst=some t
 ·have hw:wr ops p (listed.setIfInBounds i true) t=true:=by
   unfold wr;rw[zzbu];exact⟨i,zzay.2 dG,by rw[Xr zE];simp[Vq,ho,hd]⟩
  have hl:=jf (P:=P) (gl:=gl) (orc:=orc) (ops:=ops) (T0:=T0) (m:=m) (L:=L) (t:=t) (k:=i+1) (p-(i+1)) fun k cZ dM NL=>by
   have hk:k<ops.size:=zE
   have NM:ops[k]?=some ops[k]:=zzag hk;have:=((dy k _ NM).2.1 zE).2 i zE t (by simp[Vq,ho,hd]);simp[Vq,NM]at NL;exact this NL
  rw[show i+1+(p-(i+1))=p by omega]at hl;by_cases ht:t<T0.length
  ·rw[if_pos ⟨hd,ht⟩];unfold oO;rw[if_pos hw,hl,Qdh ho,hd];exact lU (by rw[Qej];exact ht)
  rw[if_neg (by simp[ht])]
  have h1:∀k,(bX P gl orc ops T0 m L (k)).getD t .junk=.junk:=fun k=>by
   have:=Qej (P:=P) (gl:=gl) (orc:=orc) (ops:=ops) (T0:=T0) (m:=m) (L:=L) k;simp only[List.getD];rw[zzar zE];rfl
  have h2:T0.getD t .junk=.junk:=h1 0;unfold oO;rw[h1 p,h2];simp
 rw[if_neg (by simp[hd])]
 have hw:wr ops p (listed.setIfInBounds i true) t=wr ops p listed t:=by
  unfold wr;congr 1;funext j;by_cases hj:j=i
  ·subst hj;have hb:(o.dst==some t)=false:=by simpa using hd
   simp[Vq,ho,hb]
  rw[Qs hj]
 unfold oO;rw[hw]
structure qP (N:Nat) (w0:fE) (r:Option Nat) (an:Nat->Nat->Prop) (S:G×World) (Y:YT) (P:Program) (gl:Nat->AV) (orc:X1) (ops:Array Oper) (T0:P1) (m:AM) (ms:R0) (js:P2) (L:QP) (p:Nat) (listed:Array Bool) (γ:G) (w:World) (a:Act):Prop where
 size:listed.size=ops.size
 tail:∀i,p<=i->i<ops.size->listed.getD i true=false
 ch:chn listed js
 clo:∀i o,listed.getD i false=true->ops[i]?=some o->∀j∈Xy o,listed.getD j false=true
 mm:aq N w0 an γ w (Yz listed m js ms).B (Yz listed m js ms).L
 ls:cB γ w (Yz listed m js ms)
 rd:Rdr r γ w
 tl:a.tmps.size=T0.length
 tt:∀t,au w γ (oO P gl orc ops T0 m L p listed t) (a.tmps.getD t undef)
 d:Dfr S.2.heap.size γ w a.defers
 g:∀g,au w γ.cQ (gl g) (.pointer (some ⟨g,0,none⟩))
 y:VL N w0 an P Y γ w
 e:eC S.2 S.1 w γ
def Fp:∀(js:P2)(ms:R0)(d:Nat),d ∉ js->J4 (Xb js ms) d=none
 |[],_,_,_=>rfl
 |_::_,[],_,_=>rfl
 |j::js,x::q,d,h=>by
  simp only[Xb,J4];rw[if_neg (by rintro rfl;exact h zd)];exact Fp js q d fun h'=>h (by simp[h'])
def Fq:∀(js:P2)(ms:R0)(a i:Nat)(x:AV×AM),js.Nodup->js[a]?=some i->ms[a]?=some x->J4 (Xb js ms) i=some x.1
 |[],_,_,_,_,_,h,_=>by simp at h
 |_::_,[],_,_,_,_,_,h=>by simp at h
 |j::js,y::q,0,i,x,_,h,hx=>by
  simp at h hx;subst h;subst hx;simp only[Xb,J4,if_true]
 |j::js,y::q,a+1,i,x,hn,h,hx=>by
  have qs:=List.nodup_cons.1 hn;have h':js[a]?=some i:=by simpa using h
  simp only[Xb,J4];rw[if_neg (by rintro rfl;exact qs.1 (zzad h'))];exact Fq js q a i x qs.2 h' (Nm hx)
def jg{js:P2}{ms:R0}{a i:Nat}{x:AV×AM}(hn:js.Nodup)(h:js[a]?=some i)(hx:ms[a]?=some x)(T:P1):CM P gl orc ops m (Xb js ms) i T=x.1:=by
 unfold CM;rw[Fq js ms a i x hn h hx]
def oP{js:P2}{ms:R0}{i:Nat}{o:Oper}(h:i ∉ js)(ho:ops[i]?=some o)(T:P1):CM P gl orc ops m (Xb js ms) i T=(rop P gl orc (ev gl T) m o.dst (tr P o)).2:=by
 unfold CM;rw[Fp js ms i h,ho]
def vX{γ:G}{w:World}{a:Act}{o:Oper}{T:P1}(vY:Vv T (Xf P ops o))(zg:∀t∈o.looksAt ops,au w γ (T.getD t .junk) (a.tmps.getD t undef)):Region.wanted o (yielded ops a.tmps)=true:=by
 cases hg:o.guard with
 |none=>simp[Region.wanted,hg]
 |some jw=>
  obtain⟨j,want⟩:=jw;have e1:(Xf P ops o).guard=some ((ops[j]?).bind (·.dst),want):=by simp[Xf,hg]
  unfold Vv at vY;rw[e1]at vY;cases hj:(ops[j]?).bind (·.dst)with
  |none=>rw[hj]at vY;exact vY.elim
  |some t=>
   rw[hj]at vY;simp only at vY;have iG:t∈o.looksAt ops:=by simp[Oper.looksAt,hg,hj]
   have bn:=zg t iG;rw[vY]at bn;have hb:=bn.bA
   have bL:t<a.tmps.size:=by
    rcases zzab t a.tmps.size with h|h
    ·exact h
    simp[zzbt h,undef]at hb
   simp[bL]at hb;have hy:yielded ops a.tmps j=some want:=by simp only[yielded,hj,zzcr,zzag bL,hb]
   simp only[Region.wanted,hg,hy];cases want<;>rfl
def Qcc{ms:R0}{js:P2}(hc:yN ops p=true){Q:PH}{listed:Array Bool}{γ:G}{w:World}{a:Act}
  (hI:qP N w0 r an S Y P gl orc ops T0 m ms js (Xb js ms) p listed γ w a){i:Nat}{o:Oper}(ho:ops[i]?=some o)(dG:i<p)(vY:Vv (bX P gl orc ops T0 m (Xb js ms) i) (Xf P ops o))(aH:js.length=ms.length)(qt:js.Nodup)
  (hu:listed.getD i true=false)(bW:∀j∈Xy o,listed.getD j false=true)(mW:∀a j,js[a]?=some j->js[a+1]?=some i->listed.getD j false=true)
  (aK:i ∉ js->((rop P gl orc (ev gl (bX P gl orc ops T0 m (Xb js ms) i)) m o.dst (tr P o)).1/\(lV ops js i=false->∀x∈ms,rop P gl orc (ev gl (bX P gl orc ops T0 m (Xb js ms) i)) x.2 o.dst (tr P o)=rop P gl orc (ev gl (bX P gl orc ops T0 m (Xb js ms) i)) m o.dst (tr P o)))\/(rdC P gl orc Y (ev gl (bX P gl orc ops T0 m (Xb js ms) i)) m o.dst m (tr P o)/\∀x∈ms,rdC P gl orc Y (ev gl (bX P gl orc ops T0 m (Xb js ms) i)) m o.dst x.2 (tr P o)))
  (AF:∀k x,js[k]?=some i->ms[k]?=some x->effC P gl orc Y (ev gl (bX P gl orc ops T0 m (Xb js ms) i)) (Vt m ms k) o.dst x.1 x.2 (tr P o)):
  wpOpIn (FW r) 0 P ops Q i (fun a' w'=>∃γ',qP N w0 r an S Y P gl orc ops T0 m ms js (Xb js ms) p (listed.setIfInBounds i true) γ' w' a'/\∀t,o.dst≠some t->a'.tmps.getD t undef=a.tmps.getD t undef) a w:=by
 have hi:i<ops.size:=(zzbs.1 ho).1;have lu:i<listed.size:=by rw[hI.size];exact hi
 have zg:∀t∈o.looksAt ops,au w γ ((bX P gl orc ops T0 m (Xb js ms) i).getD t .junk) (a.tmps.getD t undef):=fun t ht=>by
  rw[aiT (P:=P) (gl:=gl) (orc:=orc) (T0:=T0) (m:=m) (L:=Xb js ms) hc hI.size ho dG hu bW ht];exact hI.tt t
 have eV:∀x∈o.op.operands,au w γ (ev gl (bX P gl orc ops T0 m (Xb js ms) i) (aA x)) (a.eval x):=fun x hx=>by
  cases x with
  |tmp t=>exact zg t (by simp only[Oper.looksAt,zzat,zzfj];exact .inl ⟨.tmp t,Nm hx,rfl⟩)
  |const v=>exact Jn w γ v
  |func f=>exact .fn rfl (fun i c v h=>by simp at h) rfl fun i c v h=>by simp at h
  |global g=>exact(hI.g g).gF
 have kL:chn (listed.setIfInBounds i true) js:=uk hI.ch fun a j h1 h2=>mW a j h1 h2;have hpr:Fk ops (listed.setIfInBounds i true):=Fk.set hI.clo ho lu bW
 have fin:∀{v:Value}{w':World}{γ':G},eC w γ w' γ'->aq N w0 an γ' w' (Yz (listed.setIfInBounds i true) m js ms).B (Yz (listed.setIfInBounds i true) m js ms).L->cB γ' w' (Yz (listed.setIfInBounds i true) m js ms)->
   au w' γ' (CM P gl orc ops m (Xb js ms) i (bX P gl orc ops T0 m (Xb js ms) i)) v->∃γ',qP N w0 r an S Y P gl orc ops T0 m ms js (Xb js ms) p (listed.setIfInBounds i true) γ' w' (a.put o.dst v)/\∀t,o.dst≠some t->(a.put o.dst v).tmps.getD t undef=a.tmps.getD t undef:=fun{v w' γ'}he hm hl hr=>by
  have axF:∀t,o.dst≠some t->(a.put o.dst v).tmps.getD t undef=a.tmps.getD t undef:=fun t hd=>by
   cases y8:o.dst with
   |none=>rfl
   |some d=>simp only[Act.put];simp;rw[zzck (by rintro rfl;exact hd y8)]
  refine⟨γ',⟨by simp[hI.size],fun j ek nY=>by rw[Qs zE];exact hI.tail j ek nY,kL,hpr,hm,hl,hI.rd.aV he,?_,fun t=>?_,?_,fun g=>(hI.g g).aV he.cQ,hI.y.mono he,hI.e.trans he⟩,axF⟩
  ·cases hd:o.dst<;>simp[Act.put,hI.tl]
  ·rw[CN hc hI.size ho dG];by_cases hd:o.dst=some t
   ·by_cases ht:t<T0.length
    ·rw[if_pos ⟨hd,ht⟩,hd];have:(a.put (some t) v).tmps.getD t undef=v:=by simp[Act.put,hI.tl,ht]
     rw[this];exact hr
    rw[if_neg (by simp[ht]),hd];have:(a.put (some t) v).tmps.getD t undef=a.tmps.getD t undef:=by simp[Act.put,hI.tl,ht]
    rw[this];exact(hI.tt t).aV he
   rw[if_neg (by simp[hd])]
   have:(a.put o.dst v).tmps.getD t undef=a.tmps.getD t undef:=by
    cases y8:o.dst with
    |none=>rfl
    |some d=>simp only[Act.put];simp;rw[zzck (by rintro rfl;exact hd y8)]
   rw[this];exact(hI.tt t).aV he
  cases hd:o.dst<;>exact hI.d.aV he
 simp only[wpOpIn,ho];have hw:Region.wanted o (yielded ops a.tmps)=true:=vX vY zg;rw[if_pos hw];by_cases fP:i∈js
 ·obtain⟨k,hk⟩:=zzcl.1 fP;have qu:k<ms.length:=by rw[<- aH];exact(zza.1 hk).1
  obtain⟨x,hx⟩:∃x,ms[k]?=some x:=⟨ms[k],zzac qu⟩;have h1:=AF k x hk hx;have h2:=jg (P:=P) (gl:=gl) (orc:=orc) (ops:=ops) (m:=m) qt hk hx (bX P gl orc ops T0 m (Xb js ms) i);have QC:listed.getD i false=false:=by rw[Xa lu false true];exact hu
  have CO:∀b j,b<k->js[b]?=some j->listed.getD j false=true:=fun b j hb hj=>by
   have dI:k-1<js.length:=by have:=(zza.1 hk).1;omega
   obtain⟨j1,ek⟩:∃j1,js[k-1]?=some j1:=⟨js[k-1],zzac dI⟩;have eR:=mW (k-1) j1 ek (by rw[show k-1+1=k by omega];exact hk);rcases zzab b (k-1)with h|h
   ·exact Qbj hI.ch h hj ek eR
   obtain rfl:b=k-1:=zE
   rw[hj]at ek;cases ek;exact eR
  have J5:Yz listed m js ms=Vt m ms k:=Uy aH (by have:=(zza.1 hk).1;omega) CO (fun j hj=>by rw[hk]at hj;cases hj;exact QC)
  have iF:Yz (listed.setIfInBounds i true) m js ms=x.2:=by
   have:=Uy (listed:=listed.setIfInBounds i true) (m:=m) (a:=k+1) aH (by have:=(zza.1 hk).1;omega) (fun b j hb hj=>?_) (fun j hj=>?_)
   ·rw[this];simp[Vt,List.getD,hx]
   ·rcases zzab b k with h|h
    ·have dW:j≠i:=by
      rintro rfl;have:=Uw qt hj hk;omega
     rw[Qs dW];exact CO b j h hj
    obtain rfl:b=k:=zE
    rw[hk]at hj;cases hj;exact Xr lu
   have dW:j≠i:=by
    rintro rfl;have:=Uw qt hj hk;omega
   rw[Qs dW];cases hl:listed.getD j false with
   |false=>rfl
   |true=>rw[Qbj hI.ch (zzf k) hk hj hl]at QC;cases QC
  rw[iF,h2]at fin;have eN:=hI.mm;have oc:=hI.ls;rw[J5]at eN oc
  have zh:dQ N w0 r an S P gl Y γ w ⟨(List.range T0.length).map fun t=>oO P gl orc ops T0 m (Xb js ms) p listed t,Vt m ms k⟩ a:=by
   refine⟨eN,oc,hI.rd,⟨by simp[hI.tl],fun t x v hx hv=>?_⟩,hI.d,hI.g,hI.y,hI.e⟩
   ·have ah:t<T0.length:=by
     rcases zzab t T0.length with h|h
     ·exact h
     simp[zzbj.2 h]at hx
    simp[ah]at hx;have:=hI.tt t;rw[hx]at this;have AG:a.tmps.getD t undef=v:=by simp at hv;simp[hv]
    rwa [AG]at this
  have mem:∀so,tr P o=so->memEff so=true->((sop P gl orc (ev gl (bX P gl orc ops T0 m (Xb js ms) i)) (Vt m ms k) o.dst so).1/\x.1=effV (sop P gl orc (ev gl (bX P gl orc ops T0 m (Xb js ms) i)) (Vt m ms k) o.dst so).2.1 so/\x.2=(sop P gl orc (ev gl (bX P gl orc ops T0 m (Xb js ms) i)) (Vt m ms k) o.dst so).2.2)->
    o.wpIn (FW r) 0 P a w (fun a' w'=>∃γ',qP N w0 r an S Y P gl orc ops T0 m ms js (Xb js ms) p (listed.setIfInBounds i true) γ' w' a'/\∀t,o.dst≠some t->a'.tmps.getD t undef=a.tmps.getD t undef) Q:=fun so VV _⟨k1,k2,k3⟩=>by
   refine AL (orc:=orc) (K:=fun av' m'=>x.1=effV av' so/\m'=x.2) eN hI.g eV ⟨by rw[VV];exact k1,by rw[VV];exact⟨k2,k3.symm⟩⟩ r _ Q fun v w' γ' av' m' hK h3 h4 h5 h6=>?_;obtain⟨SM,rfl⟩:=hK;refine fin h4.cR h5 (oc.mono' h4 h3) ?_;rw[SM];unfold effV;split<;>first|exact h6|exact .junk _
  cases Iu:tr P o with
  |call f args=>
   rw[Iu]at h1
   have lR:Qbo P gl Y (ev gl (bX P gl orc ops T0 m (Xb js ms) i)) (Vt m ms k) (fun y m2=>y=x.1/\m2=x.2) (tr P o):=by
    rw[Iu];simp only[effC]at h1;simp only[Qbo];split at h1
    ·rename_i g first cap bZ;simp only[bZ];exact h1
    exact h1.elim
   refine Qdg zh eV lR fun v w' γ' av' m' hK h3 h4 h5 h6=>?_;obtain⟨rfl,rfl⟩:=hK;exact fin h3 h4 h5 h6
  |_=>rw[Iu]at h1;first|exact mem _ Iu h1.1 h1.2|exact absurd h1.1 (by simp[memEff])
 rcases aK fP with⟨h1,h2⟩|eX
 ·have bQ:Yz (listed.setIfInBounds i true) m js ms=Yz listed m js ms:=qO fun j hj=>Qs (by rintro rfl;exact fP hj);rw[bQ]at fin;have eN:=hI.mm;have oc:=hI.ls
  have ar0:rop P gl orc (ev gl (bX P gl orc ops T0 m (Xb js ms) i)) (Yz listed m js ms) o.dst (tr P o)=rop P gl orc (ev gl (bX P gl orc ops T0 m (Xb js ms) i)) m o.dst (tr P o):=by
   cases j7:lV ops js i with
   |false=>
    rcases vW listed js ms m with h|⟨x,hx,h⟩
    ·rw[h]
    rw[h];exact h2 j7 x hx
   |true=>
    have J5:Yz listed m js ms=m:=by
     cases js with
     |nil=>cases ms<;>rfl
     |cons j0 js=>
      simp only[lV]at j7
      have hn:listed.getD j0 false=false:=by
       cases hl:listed.getD j0 false with
       |false=>rfl
       |true=>
        have:=uh (ops:=ops) (listed:=listed) hI.clo j0 [j0] (fun k hk=>by rw[zzcv.1 hk];exact hl) i (Nm j7);rw[Xa lu false true,hu]at this;cases this
      cases ms with
      |nil=>rfl
      |cons x q=>simp only[Yz,hn];rfl
    rw[J5]
  generalize Yz listed m js ms=mL at*
  refine Qct (m:=mL) eN (fun _ _ h=>h) hI.g eV (by rw[ar0];exact h1) r _ Q fun v w' γ' q1 q2 q3=>?_;rw[ar0]at q3;exact fin q1.cR q2 (oc.mono q1) (by rw[oP fP ho];exact q3)
 have bQ:Yz (listed.setIfInBounds i true) m js ms=Yz listed m js ms:=qO fun j hj=>Qs (by rintro rfl;exact fP hj);rw[bQ]at fin;have eN:=hI.mm;have oc:=hI.ls
 have hL:rdC P gl orc Y (ev gl (bX P gl orc ops T0 m (Xb js ms) i)) m o.dst (Yz listed m js ms) (tr P o):=by
  rcases vW listed js ms m with h|⟨x,hx,h⟩
  ·rw[h];exact eX.1
  rw[h];exact eX.2 x hx
 generalize Yz listed m js ms=mL at*
 have zh:dQ N w0 r an S P gl Y γ w ⟨(List.range T0.length).map fun t=>oO P gl orc ops T0 m (Xb js ms) p listed t,mL⟩ a:=by
  refine⟨eN,oc,hI.rd,⟨by simp[hI.tl],fun t x v hx hv=>?_⟩,hI.d,hI.g,hI.y,hI.e⟩
  ·have ah:t<T0.length:=by
    rcases zzab t T0.length with h|h
    ·exact h
    simp[zzbj.2 h]at hx
   simp[ah]at hx;have:=hI.tt t;rw[hx]at this;have AG:a.tmps.getD t undef=v:=by simp at hv;simp[hv]
   rwa [AG]at this
 cases Iu:tr P o with
 |call f args=>
  rw[Iu]at hL
  have lR:Qbo P gl Y (ev gl (bX P gl orc ops T0 m (Xb js ms) i)) mL (fun y m2=>y=(rop P gl orc (ev gl (bX P gl orc ops T0 m (Xb js ms) i)) m o.dst (.call f args)).2/\m2=mL) (tr P o):=by
   rw[Iu];simp only[rdC]at hL;simp only[Qbo];split at hL
   ·rename_i g first cap bZ;simp only[bZ];exact hL
   exact hL.elim
  refine Qdg zh eV lR fun v w' γ' av' m' hK h3 h4 h5 h6=>?_;obtain⟨rfl,rfl⟩:=hK;exact fin h3 h4 h5 (by rw[oP fP ho,Iu];exact h6)
 |_=>rw[Iu]at hL;exact(show False from hL).elim
def um:∀{js:P2},QE ops js=true->∀a j j' o,js[a]?=some j->js[a+1]?=some j'->ops[j']?=some o->j∈Xy o
 |[],_,a,j,j',o,h,_,_=>by simp at h
 |[x],_,a,j,j',o,h,h',_=>by
  have:=(zza.1 h').1;simp at this
 |x::y::r,hc,0,j,j',o,h,h',ho=>by
  simp at h h';subst h;subst h';simp only[QE,zzak,ho]at hc;simpa using hc.1
 |x::y::r,hc,a+1,j,j',o,h,h',ho=>by
  simp only[QE,zzak]at hc;exact um hc.2 a j j' o (Nm h) (Nm h') ho
def Qcb{js:P2}(h:mV ops p=some js):js=(List.range p).filter (eM ops CL)/\QE ops js=true/\∀i,i<p->∃o,ops[i]?=some o:=by
 unfold mV at h;simp only at h;split at h
 case isFalse=>cases h
 rename_i bJ;cases h;simp only[zzak]at bJ;refine⟨rfl,bJ.1.1.2,fun i hi=>?_⟩;have h1:=zzbf.1 bJ.2 i (zzay.2 hi);exact zzcd.1 h1
def fG(ops:Array Oper)(k:Nat):Nat:=((List.range k).filter (eM ops CL)).length
def Fs(k:Nat):fG ops (k+1)=fG ops k+(if eM ops CL k=true then 1 else 0):=by
 simp only[fG,zzff,zzdd,zzal];cases h:eM ops CL k<;>simp[h]
def VZ{i:Nat}(hi:i<p)(hd:eM ops CL i=true):((List.range p).filter (eM ops CL))[fG ops i]?=some i:=by
 obtain⟨n,rfl⟩:∃n,p=i+(n+1):=⟨p-i-1,zE⟩;rw[List.range_add,zzdd];have hl:fG ops i=((List.range i).filter (eM ops CL)).length:=rfl;rw[hl,zzaw (zzaa _),zzgy,zzax,zzd,zzdv hd];simp
def NP{ms:R0}{js:P2}(l2:List SO)(K:AS->Prop)(hp:p<=ops.size)(ja:js=(List.range p).filter (eM ops CL)):∀(n k:Nat)(mc:AM),k+n=p->fG ops k<=ms.length->mc=Vt m ms (fG ops k)->
  iH P gl orc Y l2 K m ms (((ops.toList.take p).drop k).map (Xf P ops)) ((flags ops p js).drop k) (ms.drop (fG ops k)) mc (bX P gl orc ops T0 m (Xb js ms) k)->
  js.length=ms.length/\
  (
   ∀i o,k<=i->i<p->ops[i]?=some o->
   (i ∉ js->((rop P gl orc (ev gl (bX P gl orc ops T0 m (Xb js ms) i)) m o.dst (tr P o)).1/\(lV ops js i=false->∀x∈ms,rop P gl orc (ev gl (bX P gl orc ops T0 m (Xb js ms) i)) x.2 o.dst (tr P o)=rop P gl orc (ev gl (bX P gl orc ops T0 m (Xb js ms) i)) m o.dst (tr P o)))\/(rdC P gl orc Y (ev gl (bX P gl orc ops T0 m (Xb js ms) i)) m o.dst m (tr P o)/\∀x∈ms,rdC P gl orc Y (ev gl (bX P gl orc ops T0 m (Xb js ms) i)) m o.dst x.2 (tr P o)))/\
   (∀b x,js[b]?=some i->ms[b]?=some x->effC P gl orc Y (ev gl (bX P gl orc ops T0 m (Xb js ms) i)) (Vt m ms b) o.dst x.1 x.2 (tr P o))/\Vv (bX P gl orc ops T0 m (Xb js ms) i) (Xf P ops o))/\
  Zg P gl orc Y l2 ⟨(bX P gl orc ops T0 m (Xb js ms) p),Vt m ms ms.length⟩ K:=by
 have lq:∀j,j∈js<->j<p/\eM ops CL j=true:=fun j=>by rw[ja,zzcq,zzay]
 have qt:js.Nodup:=by rw[ja];exact(zzdl).filter _
 have SK:∀i,i<p->eM ops CL i=true->js[fG ops i]?=some i:=fun i h1 h2=>by rw[ja];exact VZ h1 h2
 have V2:∀{a b i:Nat},js[a]?=some i->js[b]?=some i->a=b:=fun{a b i}h1 h2=>Uw qt h1 h2;intro n;induction n with
 |zero=>
  intro k mc hk oJ VK h;obtain rfl:k=p:=zE
  have e0:(ops.toList.take k).drop k=[]:=zzaj (by simp;omega);rw[e0]at h;simp only[zzce,iH]at h;have fB:ms.length<=fG ops k:=zzfs.1 h.1;have yZ:fG ops k=js.length:=by rw[ja];rfl
  have hcc:fG ops k=ms.length:=zE
  refine⟨zE,fun i o h1 h2=>zE,?_⟩;rw[<- hcc,<- VK];exact h.2
 |succ n ih=>
  intro k mc hk oJ VK h;have bL:k<ops.size:=zE
  have ho:ops[k]?=some ops[k]:=zzag bL
  have hd:(ops.toList.take p).drop k=ops[k]::(ops.toList.take p).drop (k+1):=by
   rw[zzae (by simp;omega)];simp
  have gG:(flags ops p js).drop k=Jh ops js k::(flags ops p js).drop (k+1):=by
   rw[zzae (by simp[flags];omega)];simp[flags]
  rw[hd,gG,zzax]at h;have VP:=Qdh (P:=P) (gl:=gl) (orc:=orc) (T0:=T0) (m:=m) (L:=Xb js ms) ho;have e2:(Xf P ops ops[k]).op=tr P ops[k]:=rfl;have e3:(Xf P ops ops[k]).dst=ops[k].dst:=rfl;have qq:=Fs (ops:=ops) k;cases ku:js.contains k with
  |true=>
   have QF:k∈js:=by simpa using ku
   have CP:=((lq k).1 QF).2;rw[CP,if_pos rfl]at qq;rw[show Jh ops js k=.eff by simp only[Jh,ku,cond_true]]at h;simp only[iH,e2,e3]at h;split at h
   ·exact h.elim
   rename_i x q hq
   have axG:fG ops k<ms.length:=by
    rcases zzab (fG ops k) ms.length with h'|h'
    ·exact h'
    rw[zzaj h']at hq;cases hq
   have hx:ms[fG ops k]?=some x:=by
    have:(ms.drop (fG ops k))[0]?=some x:=by rw[hq];rfl
    simpa using this
   have hq':ms.drop (fG ops (k+1))=q:=by
    rw[qq,<- zzdw,hq];rfl
   obtain⟨hgr,h1,h2⟩:=h;have yM:=SK k zE CP;have dx:=jg (P:=P) (gl:=gl) (orc:=orc) (ops:=ops) (m:=m) qt yM hx (bX P gl orc ops T0 m (Xb js ms) k);rw[dx]at VP
   obtain⟨r1,r2,r3⟩:=ih (k+1) x.2 zE zE (by rw[qq];simp[Vt,List.getD,hx]) (by
    rw[VP,hq'];exact h2)
   refine⟨r1,fun i o hi dG CI=>?_,r3⟩;rcases zzab k i with gU|gU
   ·exact r2 i o gU dG CI
   obtain rfl:i=k:=zE
   rw[ho]at CI;cases CI;refine⟨fun h=>absurd QF h,fun b y hb hy=>?_,hgr⟩;obtain rfl:=V2 hb yM;rw[hx]at hy;cases hy;rw[<- VK];exact h1
  |false=>
   have QF:k ∉ js:=by simpa using ku
   have CP:eM ops CL k=false:=by
    cases Ft:eM ops CL k with
    |false=>rfl
    |true=>exact absurd ((lq k).2 ⟨zE,Ft⟩) QF
   rw[CP,if_neg zd,zzd]at qq
   obtain⟨hgr,h1,h3⟩:Vv (bX P gl orc ops T0 m (Xb js ms) k) (Xf P ops ops[k])/\(((rop P gl orc (ev gl (bX P gl orc ops T0 m (Xb js ms) k)) m ops[k].dst (tr P ops[k])).1/\(lV ops js k=false->∀x∈ms,rop P gl orc (ev gl (bX P gl orc ops T0 m (Xb js ms) k)) x.2 ops[k].dst (tr P ops[k])=rop P gl orc (ev gl (bX P gl orc ops T0 m (Xb js ms) k)) m ops[k].dst (tr P ops[k])))\/(rdC P gl orc Y (ev gl (bX P gl orc ops T0 m (Xb js ms) k)) m ops[k].dst m (tr P ops[k])/\∀x∈ms,rdC P gl orc Y (ev gl (bX P gl orc ops T0 m (Xb js ms) k)) m ops[k].dst x.2 (tr P ops[k])))/\
     iH P gl orc Y l2 K m ms (((ops.toList.take p).drop (k+1)).map (Xf P ops)) ((flags ops p js).drop (k+1)) (ms.drop (fG ops k)) mc (put (bX P gl orc ops T0 m (Xb js ms) k) ops[k].dst (rop P gl orc (ev gl (bX P gl orc ops T0 m (Xb js ms) k)) m ops[k].dst (tr P ops[k])).2):=by
    cases j7:lV ops js k with
    |true=>
     rw[show Jh ops js k=.pre by simp only[Jh,ku,j7,cond_true,cond_false]]at h;simp only[iH,e2,e3]at h;exact⟨h.1,.inl ⟨h.2.1,fun h=>(by cases h)⟩,h.2.2⟩
    |false=>
     rw[show Jh ops js k=.oth by simp only[Jh,ku,j7,cond_false]]at h;simp only[iH,e2,e3]at h;exact⟨h.1,h.2.1.imp_left fun h=>⟨h.1,fun _=>h.2⟩,h.2.2⟩
   rw[oP QF ho]at VP;obtain⟨r1,r2,r3⟩:=ih (k+1) mc zE zE (by rw[qq];exact VK) (by rw[VP,qq];exact h3);refine⟨r1,fun i o hi dG CI=>?_,r3⟩;rcases zzab k i with gU|gU
   ·exact r2 i o gU dG CI
   obtain rfl:i=k:=zE
   rw[ho]at CI;cases CI;refine⟨fun _=>h1,fun b y hb=>absurd (zzad hb) QF,hgr⟩
def Fu{Q:PH}{K:AS->Prop}{γ:G}{w:World}{s:AS}{a:Act}{js:P2}(hQ:∀γ w s a,K s->dQ N w0 r an S P gl Y γ w s a->Q .normal a w)(hc:yN ops p=true)(hj:mV ops p=some js)
  {ms:R0}(h:iH P gl orc Y ((ops.toList.drop p).map (Xf P ops)) K s.m ms ((ops.toList.take p).map (Xf P ops)) (flags ops p js) ms s.m s.T)(hs:dQ N w0 r an S P gl Y γ w s a):
  wpAnyIn (FW r) 0 P .any ops Q ops.size (Array.replicate ops.size false) a {w with drawn:=w.drawn+1}:=by
 obtain⟨hp,dy⟩:=Zp hc;obtain⟨ja,hjc,oQ⟩:=Qcb hj;have qt:js.Nodup:=by rw[ja];exact(zzdl).filter _
 have CQ:∀j∈js,j<p:=fun j h=>by rw[ja,zzcq]at h;exact zzay.1 h.1
 obtain⟨aH,h1,h2⟩:=NP (P:=P) (gl:=gl) (orc:=orc) (T0:=s.T) (m:=s.m) ((ops.toList.drop p).map (Xf P ops)) K hp ja p 0 s.m zd (by simp[fG]) (by simp[fG,Vt]) (by simpa[bX,fG]using h)
 have full:∀(bh:Nat)(listed:Array Bool)(γ:G)(w:World)(a:Act),qP N w0 r an S Y P gl orc ops s.T s.m ms js (Xb js ms) p listed γ w a->uc ops listed<=bh->(∀i,i<p->listed.getD i false=true)->wpAnyIn (FW r) 0 P .any ops Q bh listed a w:=by
  intro bh listed γ w a hI je bJ;have hml:Yz listed s.m js ms=Vt s.m ms ms.length:=Uy aH zE (fun b j _ hb=>bJ j (CQ j (zzad hb))) (fun j hj=>by rw[zzar zE]at hj;cases hj);have eN:=hI.mm;have oc:=hI.ls;rw[hml]at eN oc;refine Qdt hQ hc bh p listed γ w _ a (zzaa _) hp hI.size bJ hI.tail je h2 ⟨eN,oc,hI.rd,⟨?_,fun t x v hx hv=>?_⟩,hI.d,hI.g,hI.y,hI.e⟩
  ·simp[Qej,hI.tl]
  have h1:=hI.tt t
  have hAt:oO P gl orc ops s.T s.m (Xb js ms) p listed t=x:=by
   have j8:(bX P gl orc ops s.T s.m (Xb js ms) p).getD t .junk=x:=by simp only at hx;simp[List.getD,hx]
   unfold oO;split
   ·exact j8
   rename_i hw;rw[<- j8];refine(Qas p fun j hj hd=>hw ?_).symm;unfold wr;rw[zzbu];exact⟨j,zzay.2 hj,by rw[bJ j hj,hd];simp⟩
  rw[hAt]at h1;have:a.tmps.getD t undef=v:=by simp at hv;simp[hv]
  rwa [this]at h1
 have main:∀(bh:Nat)(listed:Array Bool)(γ:G)(w:World)(a:Act),qP N w0 r an S Y P gl orc ops s.T s.m ms js (Xb js ms) p listed γ w a->uc ops listed<=bh->wpAnyIn (FW r) 0 P .any ops Q bh listed a w:=by
  intro bh;induction bh with
  |zero=>
   intro listed γ w a hI je
   exact full 0 listed γ w a hI je fun i hi=>by
    rw[Xa (by rw[hI.size];omega) false true];exact Qds (zzfd.1 je) zE
  |succ bh ih=>
   intro listed γ w a hI je;by_cases bJ:∀i,i<p->listed.getD i false=true
   ·exact full (bh+1) listed γ w a hI je bJ
   have hex:∃k,k<p/\listed.getD k true=false:=by
    refine Classical.byContradiction fun hn=>bJ fun i hi=>?_;rw[Xa (by rw[hI.size];omega) false true];cases hl:listed.getD i true with
    |true=>rfl
    |false=>exact absurd ⟨i,hi,hl⟩ hn
   obtain⟨k,hk,VX⟩:=hex;refine⟨fun hr=>?_,fun i hi=>?_⟩
   ·obtain⟨j,hj⟩:=Uk hc hI.size k k (zzaa _) zE VX;rw[hr]at hj;cases hj
   obtain⟨ah,hu,o,ho,bW⟩:=Ul hc hi
   have dG:i<p:=by
    rcases zzab i p with h|h
    ·exact h
    have:=Qau hI.clo ho ((dy i o ho).2.2 h) bW i k zE zE;rw[Xa (by rw[hI.size];omega) false true,VX]at this;cases this
   refine wpOpIn_mono ?_ (Qcc hc hI ho dG (h1 i o (zzbe _) dG ho).2.2 aH qt hu bW (fun a j e1 e2=>bW j (um hjc a j i o e1 e2 ho)) (h1 i o (zzbe _) dG ho).1 (h1 i o (zzbe _) dG ho).2.1);rintro a' w' ⟨γ',mU,_⟩;refine ih _ γ' w' a' mU ?_;have:=jd hI.size ah hu;omega
 have vU:∀j,(Array.replicate ops.size false).getD j false=false:=fun j=>by
  rcases zzab j ops.size with h|h<;>simp[h]
 have mW:∀V3:P2,chn (Array.replicate ops.size false) V3:=fun V3=>by
  induction V3 with
  |nil=>trivial
  |cons j r ih=>
   cases r with
   |nil=>trivial
   |cons j' r=>exact⟨fun h=>(by rw[vU]at h;cases h),ih⟩
 have J5:Yz (Array.replicate ops.size false) s.m js ms=s.m:=Uy (a:=0) aH zE (fun b j hb=>zE) (fun j _=>vU j);refine main ops.size _ γ w.drew a ⟨zd,fun i _ hi=>by simp[hi],mW js,fun j o h=>(by rw[vU]at h;cases h),?_,?_,hs.rd.aV (Ev.drew w γ).cR,?_,fun t=>?_,hs.d.aV (Ev.drew w γ).cR,fun g=>(hs.g g).mono (Ev.drew w γ).cQ,hs.y.mono (Ev.drew w γ).cR,hs.e.trans (Ev.drew w γ).cR⟩ ?_
 ·rw[J5];exact hs.m.drew
 ·rw[J5];exact hs.ls.mono (Ev.drew w γ)
 ·have:=hs.t.1;simp at this;omega
 ·have hw:wr ops p (Array.replicate ops.size false) t=false:=by
   unfold wr;rw[zzeb];intro j _;rw[vU j];simp
  unfold oO;rw[hw];simp only[zzbo,if_false];have:=(hs.t.mono (Ev.drew w γ)).get t;simpa[List.getD]using this
 unfold uc;exact zzaz (zzet) zd
end
def vZ(ops:Array Oper)(p:Nat)(js:P2):Bool:=match js.getLast? with
 |some j=>(List.range p).all fun i=>decide (i<=j)||(Fo ops i [i]).contains j
 |none=>false
def bkF(ops:Array Oper)(p:Nat)(js:P2):List Fg:=bif vZ ops p js then[.eff]else[]
def aej(fl:List Fg)(l:List SO):Bool:=!(fl.drop l.length).isEmpty
section
variable (P:Program) (gl:Nat->AV) (orc:X1) (Y:YT)
def effR(e:bN->AV)(m:AM)(R:UV):aC->Prop
 |.call f args=>(match e f with
  |.fn g first cap=>aF P gl Y g (first++args.map e++cap) m R
  |_=>False)
 |_=>False
def kM(R:UV)(l2:List SO)(K:AS->Prop)(m:AM)(ms:R0):List SO->List Fg->R0->AM->P1->Prop
 |[],_,q,mc,T=>q=[]/\Zg P gl orc Y l2 ⟨T,mc⟩ K
 |_::_,[],_,_,_=>False
 |o::r,.eff::fl,q,mc,T=>(match q with
  |[]=>False
  |x::q=>Vv T o/\((q=[]->effR P gl Y (ev gl T) mc R o.op)/\(q≠[]->effC P gl orc Y (ev gl T) mc o.dst x.1 x.2 o.op))/\kM R l2 K m ms r fl q x.2 (put T o.dst x.1))
 |o::r,.pre::fl,q,mc,T=>Vv T o/\(rop P gl orc (ev gl T) m o.dst o.op).1/\kM R l2 K m ms r fl q mc (put T o.dst (rop P gl orc (ev gl T) m o.dst o.op).2)
 |o::r,.oth::fl,q,mc,T=>Vv T o/\(rop P gl orc (ev gl T) m o.dst o.op).1/\(∀x∈ms,rop P gl orc (ev gl T) x.2 o.dst o.op=rop P gl orc (ev gl T) m o.dst o.op)/\kM R l2 K m ms r fl q mc (put T o.dst (rop P gl orc (ev gl T) m o.dst o.op).2)
def oR{l2:List SO}{K:AS->Prop}{m:AM}{ms:R0}{ex:List Fg}:∀{l:List SO}{fl:List Fg}{q:R0}{mc:AM}{T:P1},fl.length=l.length->iH P gl orc Y l2 K m ms l (fl++ex) q mc T->iH P gl orc Y l2 K m ms l fl q mc T
 |[],[],q,mc,T,_,h=>by simpa only[iH]using h
 |[],_::_,_,_,_,hl,_=>by simp at hl
 |_::_,[],_,_,_,hl,_=>by simp at hl
 |o::r,.eff::fl,[],mc,T,hl,h=>by simp only[zzaf,iH]at h
 |o::r,.eff::fl,x::q,mc,T,hl,h=>by
  simp only[zzaf,iH]at h |-
  exact⟨h.1,h.2.1,oR (Nm hl) h.2.2⟩
 |o::r,.pre::fl,q,mc,T,hl,h=>by
  simp only[zzaf,iH]at h |-
  exact⟨h.1,h.2.1,oR (Nm hl) h.2.2⟩
 |o::r,.oth::fl,q,mc,T,hl,h=>by
  simp only[zzaf,iH]at h |-
  exact⟨h.1,h.2.1,oR (Nm hl) h.2.2⟩
def oS{R:UV}{l2:List SO}{K:AS->Prop}{m:AM}{ms:R0}{ex:List Fg}:∀{l:List SO}{fl:List Fg}{q:R0}{mc:AM}{T:P1},fl.length=l.length->kM P gl orc Y R l2 K m ms l (fl++ex) q mc T->kM P gl orc Y R l2 K m ms l fl q mc T
 |[],[],q,mc,T,_,h=>by simpa only[kM]using h
 |[],_::_,_,_,_,hl,_=>by simp at hl
 |_::_,[],_,_,_,hl,_=>by simp at hl
 |o::r,.eff::fl,[],mc,T,hl,h=>by simp only[zzaf,kM]at h
 |o::r,.eff::fl,x::q,mc,T,hl,h=>by
  simp only[zzaf,kM]at h |-
  exact⟨h.1,h.2.1,oS (Nm hl) h.2.2⟩
 |o::r,.pre::fl,q,mc,T,hl,h=>by
  simp only[zzaf,kM]at h |-
  exact⟨h.1,h.2.1,oS (Nm hl) h.2.2⟩
 |o::r,.oth::fl,q,mc,T,hl,h=>by
  simp only[zzaf,kM]at h |-
  exact⟨h.1,h.2.1,h.2.2.1,oS (Nm hl) h.2.2.2⟩
end
section
variable {N:Nat} {w0:fE} {r:Option Nat} {an:Nat->Nat->Prop} {S:G×World} {Y:YT} {P:Program} {gl:Nat->AV} {orc:X1} {ops:Array Oper} {T0:P1} {m:AM} {p:Nat}
def v7{x x':AV×AM}{i:Nat}:∀{js:P2}{ms:R0}{jl:Nat},js[ms.length]?=some jl->i≠jl->J4 (Xb js (ms++[x])) i=J4 (Xb js (ms++[x'])) i
 |[],_,_,h,_=>by simp at h
 |j::js,[],jl,h,hi=>by
  simp at h;subst h;simp only[zzah,Xb,J4];rw[if_neg (Ne.symm hi),if_neg (Ne.symm hi)]
 |j::js,y::ms,jl,h,hi=>by
  simp only[zzaf,Xb,J4];rw[v7 (ms:=ms) (Nm h) hi]
def Fv{L L':QP}{jl:Nat}(h:∀i,i<jl->J4 L i=J4 L' i):∀k,k<=jl->bX P gl orc ops T0 m L k=bX P gl orc ops T0 m L' k
 |0,_=>rfl
 |k+1,hk=>by
  have ih:=Fv h k zE;simp only[bX];rw[ih];cases ho:ops[k]? with
  |none=>rfl
  |some o=>
   simp only;congr 1;simp only[CM];rw[h k zE]
def J6{L L':QP}(hc:yN ops p=true){listed:Array Bool}{jl:Nat}(oJ:Fk ops listed)(ug:listed.getD jl false=false)(hL:∀i,i<jl->J4 L i=J4 L' i)
  (V4:∀k,jl<k->k<p->(Fo ops k [k]).contains jl=true)(hjp:jl<p)(t:Nat):oO P gl orc ops T0 m L p listed t=oO P gl orc ops T0 m L' p listed t:=by
 obtain⟨hp,dy⟩:=Zp hc;unfold oO;cases hw:wr ops p listed t with
 |false=>simp
 |true=>
  simp only[if_true];unfold wr at hw;obtain⟨j,hj,hjd⟩:=zzbu.1 hw;simp only[zzak,beq_iff_eq]at hjd;obtain⟨hl,hd⟩:=hjd;have axH:=zzay.1 hj
  have ah:j<jl:=by
   rcases zzep j jl with h|h|h
   ·exact h
   ·subst h;rw[hl]at ug;cases ug
   have:=uh oJ j [j] (fun k hk=>by rw[zzcv.1 hk];exact hl) jl (by simpa using V4 j h axH);rw[this]at ug;cases ug
  have V5:∀(L:QP),(bX P gl orc ops T0 m L p).getD t .junk=(bX P gl orc ops T0 m L jl).getD t .junk:=fun L=>by
   have:=jf (P:=P) (gl:=gl) (orc:=orc) (ops:=ops) (T0:=T0) (m:=m) (L:=L) (t:=t) (k:=jl) (p-jl) fun k cZ dM NL=>by
    have hk:k<ops.size:=zE
    have NM:ops[k]?=some ops[k]:=zzag hk;have:=((dy k _ NM).2.1 zE).2 j zE t hd;simp[Vq,NM]at NL;exact this NL
   rwa [show jl+(p-jl)=p by omega]at this
  rw[V5 L,V5 L',Fv hL jl (zzaa _)]
def J7{ms:R0}{x:AV×AM}{js:P2}{R:UV}(hc:yN ops p=true){Q:PH}{listed:Array Bool}{γ:G}{w:World}{a:Act}
  (hI:qP N w0 r an S Y P gl orc ops T0 m (ms++[x]) js (Xb js (ms++[x])) p listed γ w a){i:Nat}{o:Oper}(ho:ops[i]?=some o)(dG:i<p)(vY:Vv (bX P gl orc ops T0 m (Xb js (ms++[x])) i) (Xf P ops o))(aH:js.length=(ms++[x]).length)(qt:js.Nodup)
  (hk:js[ms.length]?=some i)(hu:listed.getD i true=false)(bW:∀j∈Xy o,listed.getD j false=true)(mW:∀a j,js[a]?=some j->js[a+1]?=some i->j∈Xy o)
  (axI:∀x':AV×AM,R x'.1 x'.2->∀t,oO P gl orc ops T0 m (Xb js (ms++[x'])) p listed t=oO P gl orc ops T0 m (Xb js (ms++[x])) p listed t)
  (AF:effR P gl Y (ev gl (bX P gl orc ops T0 m (Xb js (ms++[x])) i)) (Vt m (ms++[x]) ms.length) R (tr P o)):
  wpOpIn (FW r) 0 P ops Q i (fun a' w'=>∃γ' x',R x'.1 x'.2/\qP N w0 r an S Y P gl orc ops T0 m (ms++[x']) js (Xb js (ms++[x'])) p (listed.setIfInBounds i true) γ' w' a') a w:=by
 have hi:i<ops.size:=(zzbs.1 ho).1;have lu:i<listed.size:=by rw[hI.size];exact hi
 have zg:∀t∈o.looksAt ops,au w γ ((bX P gl orc ops T0 m (Xb js (ms++[x])) i).getD t .junk) (a.tmps.getD t undef):=fun t ht=>by
  rw[aiT (P:=P) (gl:=gl) (orc:=orc) (T0:=T0) (m:=m) (L:=Xb js (ms++[x])) hc hI.size ho dG hu bW ht];exact hI.tt t
 have eV:∀y∈o.op.operands,au w γ (ev gl (bX P gl orc ops T0 m (Xb js (ms++[x])) i) (aA y)) (a.eval y):=fun y hy=>by
  cases y with
  |tmp t=>exact zg t (by simp only[Oper.looksAt,zzat,zzfj];exact .inl ⟨.tmp t,Nm hy,rfl⟩)
  |const v=>exact Jn w γ v
  |func f=>exact .fn rfl (fun i c v h=>by simp at h) rfl fun i c v h=>by simp at h
  |global g=>exact(hI.g g).gF
 have kL:chn (listed.setIfInBounds i true) js:=uk hI.ch fun a j h1 h2=>bW j (mW a j h1 h2);have hpr:Fk ops (listed.setIfInBounds i true):=Fk.set hI.clo ho lu bW;have QC:listed.getD i false=false:=by rw[Xa lu false true];exact hu
 have CO:∀b j,b<ms.length->js[b]?=some j->listed.getD j false=true:=fun b j hb hj=>by
  have dI:ms.length-1<js.length:=by simp at aH;omega
  obtain⟨j1,ek⟩:∃j1,js[ms.length-1]?=some j1:=⟨js[ms.length-1],zzac dI⟩;have eR:=bW j1 (mW (ms.length-1) j1 ek (by rw[show ms.length-1+1=ms.length by omega];exact hk));rcases zzab b (ms.length-1)with h|h
  ·exact Qbj hI.ch h hj ek eR
  obtain rfl:b=ms.length-1:=zE
  rw[hj]at ek;cases ek;exact eR
 have J5:Yz listed m js (ms++[x])=Vt m (ms++[x]) ms.length:=Uy aH (by simp at aH;omega) CO (fun j hj=>by rw[hk]at hj;cases hj;exact QC)
 have iF:∀x':AV×AM,Yz (listed.setIfInBounds i true) m js (ms++[x'])=x'.2:=fun x'=>by
  have:=Uy (listed:=listed.setIfInBounds i true) (m:=m) (ms:=ms++[x']) (js:=js) (a:=ms.length+1) (by simp at aH |-;omega) (by simp at aH;omega) (fun b j hb hj=>?_) (fun j hj=>by rw[zzar (by simp at aH;omega)]at hj;cases hj)
  ·rw[this];simp[Vt,List.getD]
  rcases zzab b ms.length with h|h
  ·have dW:j≠i:=by
    rintro rfl;have:=Uw qt hj hk;omega
   rw[Qs dW];exact CO b j h hj
  obtain rfl:b=ms.length:=zE
  rw[hk]at hj;cases hj;exact Xr lu
 simp only[wpOpIn,ho];have hw:Region.wanted o (yielded ops a.tmps)=true:=vX vY zg;rw[if_pos hw];have eN:=hI.mm;have oc:=hI.ls;rw[J5]at eN oc
 have zh:dQ N w0 r an S P gl Y γ w ⟨(List.range T0.length).map fun t=>oO P gl orc ops T0 m (Xb js (ms++[x])) p listed t,Vt m (ms++[x]) ms.length⟩ a:=by
  refine⟨eN,oc,hI.rd,⟨by simp[hI.tl],fun t x v hx hv=>?_⟩,hI.d,hI.g,hI.y,hI.e⟩
  have ah:t<T0.length:=by
   rcases zzab t T0.length with h|h
   ·exact h
   simp[zzbj.2 h]at hx
  simp[ah]at hx;have:=hI.tt t;rw[hx]at this;have AG:a.tmps.getD t undef=v:=by simp at hv;simp[hv]
  rwa [AG]at this
 have lR:Qbo P gl Y (ev gl (bX P gl orc ops T0 m (Xb js (ms++[x])) i)) (Vt m (ms++[x]) ms.length) R (tr P o):=by
  cases Iu:tr P o with
  |call f args=>
   rw[Iu]at AF;simp only[effR]at AF;simp only[Qbo];split at AF
   ·rename_i g first cap bZ;simp only[bZ];exact AF
   exact AF.elim
  |_=>rw[Iu]at AF;exact AF.elim
 refine Qdg zh eV lR fun v w' γ' av' m' hK he hm hl hr=>?_;have dx:=jg (P:=P) (gl:=gl) (orc:=orc) (ops:=ops) (m:=m) (ms:=ms++[(av',m')]) (x:=(av',m')) qt hk zd (bX P gl orc ops T0 m (Xb js (ms++[(av',m')])) i);have hsw:=axI (av',m') hK;refine⟨γ',(av',m'),hK,by simp[hI.size],fun j ek nY=>by rw[Qs zE];exact hI.tail j ek nY,kL,hpr,by rw[iF];exact hm,by rw[iF];exact hl,hI.rd.aV he,?_,fun t=>?_,?_,fun g=>(hI.g g).aV he.cQ,hI.y.mono he,hI.e.trans he⟩
 ·cases hd:o.dst<;>simp[Act.put,hI.tl]
 ·rw[CN hc hI.size ho dG,hsw];by_cases hd:o.dst=some t
  ·by_cases ht:t<T0.length
   ·rw[if_pos ⟨hd,ht⟩,hd];have:(a.put (some t) v).tmps.getD t undef=v:=by simp[Act.put,hI.tl,ht]
    rw[this,dx];exact hr
   rw[if_neg (by simp[ht]),hd];have:(a.put (some t) v).tmps.getD t undef=a.tmps.getD t undef:=by simp[Act.put,hI.tl,ht]
   rw[this];exact(hI.tt t).aV he
  rw[if_neg (by simp[hd])]
  have:(a.put o.dst v).tmps.getD t undef=a.tmps.getD t undef:=by
   cases y8:o.dst with
   |none=>rfl
   |some d=>simp only[Act.put];simp;rw[zzck (by rintro rfl;exact hd y8)]
  rw[this];exact(hI.tt t).aV he
 cases hd:o.dst<;>exact hI.d.aV he
def NQ{R:UV}{ms:R0}{js:P2}(l2:List SO)(K:AS->Prop)(hp:p<=ops.size)(hj:mV ops p=some js):∀(n k:Nat)(mc:AM),k+n=p->fG ops k<=ms.length->mc=Vt m ms (fG ops k)->
  kM P gl orc Y R l2 K m ms (((ops.toList.take p).drop k).map (Xf P ops)) ((flags ops p js).drop k) (ms.drop (fG ops k)) mc (bX P gl orc ops T0 m (Xb js ms) k)->
  js.length=ms.length/\
  (
   ∀i o,k<=i->i<p->ops[i]?=some o->
   (i ∉ js->(rop P gl orc (ev gl (bX P gl orc ops T0 m (Xb js ms) i)) m o.dst (tr P o)).1/\(lV ops js i=false->∀x∈ms,rop P gl orc (ev gl (bX P gl orc ops T0 m (Xb js ms) i)) x.2 o.dst (tr P o)=rop P gl orc (ev gl (bX P gl orc ops T0 m (Xb js ms) i)) m o.dst (tr P o)))/\
   (∀b x,js[b]?=some i->ms[b]?=some x->(b+1=ms.length->effR P gl Y (ev gl (bX P gl orc ops T0 m (Xb js ms) i)) (Vt m ms b) R (tr P o))/\(b+1≠ms.length->effC P gl orc Y (ev gl (bX P gl orc ops T0 m (Xb js ms) i)) (Vt m ms b) o.dst x.1 x.2 (tr P o)))/\Vv (bX P gl orc ops T0 m (Xb js ms) i) (Xf P ops o))/\
  Zg P gl orc Y l2 ⟨(bX P gl orc ops T0 m (Xb js ms) p),Vt m ms ms.length⟩ K:=by
 obtain⟨ja,_,oQ⟩:=Qcb hj;have lq:∀j,j∈js<->j<p/\eM ops CL j=true:=fun j=>by rw[ja,zzcq,zzay]
 have qt:js.Nodup:=by rw[ja];exact(zzdl).filter _
 have SK:∀i,i<p->eM ops CL i=true->js[fG ops i]?=some i:=fun i h1 h2=>by rw[ja];exact VZ h1 h2
 have V2:∀{a b i:Nat},js[a]?=some i->js[b]?=some i->a=b:=fun{a b i}h1 h2=>Uw qt h1 h2;intro n;induction n with
 |zero=>
  intro k mc hk oJ VK h;obtain rfl:k=p:=zE
  have e0:(ops.toList.take k).drop k=[]:=zzaj (by simp;omega);rw[e0]at h;simp only[zzce,kM]at h;have fB:ms.length<=fG ops k:=zzfs.1 h.1;have yZ:fG ops k=js.length:=by rw[ja];rfl
  have hcc:fG ops k=ms.length:=zE
  refine⟨zE,fun i o h1 h2=>zE,?_⟩;rw[<- hcc,<- VK];exact h.2
 |succ n ih=>
  intro k mc hk oJ VK h;have bL:k<ops.size:=zE
  have ho:ops[k]?=some ops[k]:=zzag bL
  have hd:(ops.toList.take p).drop k=ops[k]::(ops.toList.take p).drop (k+1):=by
   rw[zzae (by simp;omega)];simp
  have gG:(flags ops p js).drop k=Jh ops js k::(flags ops p js).drop (k+1):=by
   rw[zzae (by simp[flags];omega)];simp[flags]
  rw[hd,gG,zzax]at h;have VP:=Qdh (P:=P) (gl:=gl) (orc:=orc) (T0:=T0) (m:=m) (L:=Xb js ms) ho;have e2:(Xf P ops ops[k]).op=tr P ops[k]:=rfl;have e3:(Xf P ops ops[k]).dst=ops[k].dst:=rfl;have qq:=Fs (ops:=ops) k;cases ku:js.contains k with
  |true=>
   have QF:k∈js:=by simpa using ku
   have CP:=((lq k).1 QF).2;rw[CP,if_pos rfl]at qq;rw[show Jh ops js k=.eff by simp only[Jh,ku,cond_true]]at h;simp only[kM,e2,e3]at h;split at h
   ·exact h.elim
   rename_i x q hq
   have axG:fG ops k<ms.length:=by
    rcases zzab (fG ops k) ms.length with h'|h'
    ·exact h'
    rw[zzaj h']at hq;cases hq
   have hx:ms[fG ops k]?=some x:=by
    have:(ms.drop (fG ops k))[0]?=some x:=by rw[hq];rfl
    simpa using this
   have hq':ms.drop (fG ops (k+1))=q:=by
    rw[qq,<- zzdw,hq];rfl
   obtain⟨hgr,h1,h2⟩:=h;have yM:=SK k zE CP;have dx:=jg (P:=P) (gl:=gl) (orc:=orc) (ops:=ops) (m:=m) qt yM hx (bX P gl orc ops T0 m (Xb js ms) k);rw[dx]at VP
   obtain⟨r1,r2,r3⟩:=ih (k+1) x.2 zE zE (by rw[qq];simp[Vt,List.getD,hx]) (by
    rw[VP,hq'];exact h2)
   refine⟨r1,fun i o hi dG CI=>?_,r3⟩;rcases zzab k i with gU|gU
   ·exact r2 i o gU dG CI
   obtain rfl:i=k:=zE
   rw[ho]at CI;cases CI;refine⟨fun h=>absurd QF h,fun b y hb hy=>?_,hgr⟩;obtain rfl:=V2 hb yM;rw[hx]at hy;cases hy;rw[<- VK]
   have hqe:q=[]<->fG ops i+1=ms.length:=by
    rw[<- hq',qq,zzfs];omega
   exact⟨fun h=>h1.1 (hqe.2 h),fun h=>h1.2 fun e=>h (hqe.1 e)⟩
  |false=>
   have QF:k ∉ js:=by simpa using ku
   have CP:eM ops CL k=false:=by
    cases Ft:eM ops CL k with
    |false=>rfl
    |true=>exact absurd ((lq k).2 ⟨zE,Ft⟩) QF
   rw[CP,if_neg zd,zzd]at qq
   obtain⟨hgr,h1,h2,h3⟩:Vv (bX P gl orc ops T0 m (Xb js ms) k) (Xf P ops ops[k])/\(rop P gl orc (ev gl (bX P gl orc ops T0 m (Xb js ms) k)) m ops[k].dst (tr P ops[k])).1/\(lV ops js k=false->∀x∈ms,rop P gl orc (ev gl (bX P gl orc ops T0 m (Xb js ms) k)) x.2 ops[k].dst (tr P ops[k])=rop P gl orc (ev gl (bX P gl orc ops T0 m (Xb js ms) k)) m ops[k].dst (tr P ops[k]))/\
     kM P gl orc Y R l2 K m ms (((ops.toList.take p).drop (k+1)).map (Xf P ops)) ((flags ops p js).drop (k+1)) (ms.drop (fG ops k)) mc (put (bX P gl orc ops T0 m (Xb js ms) k) ops[k].dst (rop P gl orc (ev gl (bX P gl orc ops T0 m (Xb js ms) k)) m ops[k].dst (tr P ops[k])).2):=by
    cases j7:lV ops js k with
    |true=>
     rw[show Jh ops js k=.pre by simp only[Jh,ku,j7,cond_true,cond_false]]at h;simp only[kM,e2,e3]at h;exact⟨h.1,h.2.1,fun h=>(by cases h),h.2.2⟩
    |false=>
     rw[show Jh ops js k=.oth by simp only[Jh,ku,j7,cond_false]]at h;simp only[kM,e2,e3]at h;exact⟨h.1,h.2.1,fun _=>h.2.2.1,h.2.2.2⟩
   rw[oP QF ho]at VP;obtain⟨r1,r2,r3⟩:=ih (k+1) mc zE zE (by rw[qq];exact VK) (by rw[VP,qq];exact h3);refine⟨r1,fun i o hi dG CI=>?_,r3⟩;rcases zzab k i with gU|gU
   ·exact r2 i o gU dG CI
   obtain rfl:i=k:=zE
   rw[ho]at CI;cases CI;refine⟨fun _=>⟨h1,h2⟩,fun b y hb=>absurd (zzad hb) QF,hgr⟩
def Fw{Q:PH}{K:AS->Prop}{γ:G}{w:World}{s:AS}{a:Act}{js:P2}(hQ:∀γ w s a,K s->dQ N w0 r an S P gl Y γ w s a->Q .normal a w)(hc:yN ops p=true)(hj:mV ops p=some js)
  {R:UV}{ms:R0}(Fx:∀(jl:Nat),js[ms.length]?=some jl->∀(x x':AV×AM),R x.1 x.2->R x'.1 x'.2->∀listed:Array Bool,Fk ops listed->listed.getD jl false=false->∀t,oO P gl orc ops s.T s.m (Xb js (ms++[x'])) p listed t=oO P gl orc ops s.T s.m (Xb js (ms++[x])) p listed t)(hR:∃x:AV×AM,R x.1 x.2)(h:∀x:AV×AM,R x.1 x.2->kM P gl orc Y R ((ops.toList.drop p).map (Xf P ops)) K s.m (ms++[x]) ((ops.toList.take p).map (Xf P ops)) (flags ops p js) (ms++[x]) s.m s.T)(hs:dQ N w0 r an S P gl Y γ w s a):
  wpAnyIn (FW r) 0 P .any ops Q ops.size (Array.replicate ops.size false) a {w with drawn:=w.drawn+1}:=by
 obtain⟨hp,dy⟩:=Zp hc;obtain⟨ja,hjc,oQ⟩:=Qcb hj;have qt:js.Nodup:=by rw[ja];exact(zzdl).filter _
 have CQ:∀j∈js,j<p:=fun j h=>by rw[ja,zzcq]at h;exact zzay.1 h.1
 have bJ:=fun(x:AV×AM)(hx:R x.1 x.2)=>NQ (P:=P) (gl:=gl) (orc:=orc) (T0:=s.T) (m:=s.m) ((ops.toList.drop p).map (Xf P ops)) K hp hj p 0 s.m zd (by simp[fG]) (by simp[fG,Vt]) (by simpa[bX,fG]using h x hx);obtain⟨x0,hx0⟩:=hR;have eO:js.length=ms.length+1:=by have:=(bJ x0 hx0).1;simpa using this
 obtain⟨jl,ug⟩:∃jl,js[ms.length]?=some jl:=⟨_,zzac zE⟩
 have full:∀(x:AV×AM),R x.1 x.2->∀(bh:Nat)(listed:Array Bool)(γ:G)(w:World)(a:Act),qP N w0 r an S Y P gl orc ops s.T s.m (ms++[x]) js (Xb js (ms++[x])) p listed γ w a->uc ops listed<=bh->(∀i,i<p->listed.getD i false=true)->wpAnyIn (FW r) 0 P .any ops Q bh listed a w:=by
  intro x hx bh listed γ w a hI je ar1;obtain⟨aH,h1,h2⟩:=bJ x hx;have bJ:=ar1;have hml:Yz listed s.m js (ms++[x])=Vt s.m (ms++[x]) (ms++[x]).length:=Uy aH zE (fun b j _ hb=>bJ j (CQ j (zzad hb))) (fun j hj=>by rw[zzar zE]at hj;cases hj);have eN:=hI.mm;have oc:=hI.ls;rw[hml]at eN oc;refine Qdt hQ hc bh p listed γ w _ a (zzaa _) hp hI.size bJ hI.tail je h2 ⟨eN,oc,hI.rd,⟨?_,fun t y v hy hv=>?_⟩,hI.d,hI.g,hI.y,hI.e⟩
  ·simp[Qej,hI.tl]
  have h1:=hI.tt t
  have hAt:oO P gl orc ops s.T s.m (Xb js (ms++[x])) p listed t=y:=by
   have j8:(bX P gl orc ops s.T s.m (Xb js (ms++[x])) p).getD t .junk=y:=by simp only at hy;simp[List.getD,hy]
   unfold oO;split
   ·exact j8
   rename_i hw;rw[<- j8];refine(Qas p fun j hj hd=>hw ?_).symm;unfold wr;rw[zzbu];exact⟨j,zzay.2 hj,by rw[bJ j hj,hd];simp⟩
  rw[hAt]at h1;have:a.tmps.getD t undef=v:=by simp at hv;simp[hv]
  rwa [this]at h1
 have main:∀(bh:Nat)(x:AV×AM),R x.1 x.2->∀(listed:Array Bool)(γ:G)(w:World)(a:Act),qP N w0 r an S Y P gl orc ops s.T s.m (ms++[x]) js (Xb js (ms++[x])) p listed γ w a->uc ops listed<=bh->wpAnyIn (FW r) 0 P .any ops Q bh listed a w:=by
  intro bh;induction bh with
  |zero=>
   intro x hx listed γ w a hI je
   exact full x hx 0 listed γ w a hI je fun i hi=>by
    rw[Xa (by rw[hI.size];omega) false true];exact Qds (zzfd.1 je) zE
  |succ bh ih=>
   intro x hx listed γ w a hI je;by_cases hall2:∀i,i<p->listed.getD i false=true
   ·exact full x hx (bh+1) listed γ w a hI je hall2
   have hex:∃k,k<p/\listed.getD k true=false:=by
    refine Classical.byContradiction fun hn=>hall2 fun i hi=>?_;rw[Xa (by rw[hI.size];omega) false true];cases hl:listed.getD i true with
    |true=>rfl
    |false=>exact absurd ⟨i,hi,hl⟩ hn
   obtain⟨k,hk,VX⟩:=hex;refine⟨fun hr=>?_,fun i hi=>?_⟩
   ·obtain⟨j,hj⟩:=Uk hc hI.size k k (zzaa _) zE VX;rw[hr]at hj;cases hj
   obtain⟨ah,hu,o,ho,bW⟩:=Ul hc hi
   have dG:i<p:=by
    rcases zzab i p with h|h
    ·exact h
    have:=Qau hI.clo ho ((dy i o ho).2.2 h) bW i k zE zE;rw[Xa (by rw[hI.size];omega) false true,VX]at this;cases this
   obtain⟨aH,h1,_⟩:=bJ x hx;obtain⟨h1a,h1b,h1g⟩:=h1 i o (zzbe _) dG ho;by_cases fP:i=jl
   ·subst fP;refine wpOpIn_mono ?_ (J7 hc hI ho dG h1g aH qt ug hu bW (fun a j e1 e2=>um hjc a j i o e1 e2 ho) (fun x' j8=>Fx i ug x x' hx j8 listed hI.clo (by rw[Xa (by rw[hI.size];exact ah) false true];exact hu)) ((h1b ms.length x ug zd).1 zd));rintro a' w' ⟨γ',x',j8,mU⟩;refine ih x' j8 _ γ' w' a' mU ?_;have:=jd hI.size ah hu;omega
   refine wpOpIn_mono ?_ (Qcc hc hI ho dG h1g aH qt hu bW (fun a j e1 e2=>bW j (um hjc a j i o e1 e2 ho)) (fun h=>.inl (h1a h)) (fun k y e1 e2=>(h1b k y e1 e2).2 fun e=>fP (by
    have hk:k=ms.length:=by simpa using e
    subst hk;rw[ug]at e1;exact(Option.some.inj e1).symm)))
   rintro a' w' ⟨γ',mU,_⟩;refine ih x hx _ γ' w' a' mU ?_;have:=jd hI.size ah hu;omega
 have vU:∀j,(Array.replicate ops.size false).getD j false=false:=fun j=>by
  rcases zzab j ops.size with h|h<;>simp[h]
 have mW:∀V3:P2,chn (Array.replicate ops.size false) V3:=fun V3=>by
  induction V3 with
  |nil=>trivial
  |cons j r ih=>
   cases r with
   |nil=>trivial
   |cons j' r=>exact⟨fun h=>(by rw[vU]at h;cases h),ih⟩
 have J5:Yz (Array.replicate ops.size false) s.m js (ms++[x0])=s.m:=Uy (a:=0) (bJ x0 hx0).1 zE (fun b j hb=>zE) (fun j _=>vU j);refine main ops.size x0 hx0 _ γ w.drew a ⟨zd,fun i _ hi=>by simp[hi],mW js,fun j o h=>(by rw[vU]at h;cases h),?_,?_,hs.rd.aV (Ev.drew w γ).cR,?_,fun t=>?_,hs.d.aV (Ev.drew w γ).cR,fun g=>(hs.g g).mono (Ev.drew w γ).cQ,hs.y.mono (Ev.drew w γ).cR,hs.e.trans (Ev.drew w γ).cR⟩ ?_
 ·rw[J5];exact hs.m.drew
 ·rw[J5];exact hs.ls.mono (Ev.drew w γ)
 ·have:=hs.t.1;simp at this;omega
 ·have hw:wr ops p (Array.replicate ops.size false) t=false:=by
   unfold wr;rw[zzeb];intro j _;rw[vU j];simp
  unfold oO;rw[hw];simp only[zzbo,if_false];have:=(hs.t.mono (Ev.drew w γ)).get t;simpa[List.getD]using this
 unfold uc;exact zzaz (zzet) zd
def Fy{Q:PH}{K:AS->Prop}{γ:G}{w:World}{s:AS}{a:Act}{js:P2}(hQ:∀γ w s a,K s->dQ N w0 r an S P gl Y γ w s a->Q .normal a w)(hc:yN ops p=true)(hj:mV ops p=some js)
  (lB:vZ ops p js=true){R:UV}{ms:R0}(hR:∃x:AV×AM,R x.1 x.2)(h:∀x:AV×AM,R x.1 x.2->kM P gl orc Y R ((ops.toList.drop p).map (Xf P ops)) K s.m (ms++[x]) ((ops.toList.take p).map (Xf P ops)) (flags ops p js) (ms++[x]) s.m s.T)(hs:dQ N w0 r an S P gl Y γ w s a):
  wpAnyIn (FW r) 0 P .any ops Q ops.size (Array.replicate ops.size false) a {w with drawn:=w.drawn+1}:=by
 obtain⟨hp,dy⟩:=Zp hc;obtain⟨ja,hjc,oQ⟩:=Qcb hj;have CQ:∀j∈js,j<p:=fun j h=>by rw[ja,zzcq]at h;exact zzay.1 h.1
 have bJ:=fun(x:AV×AM)(hx:R x.1 x.2)=>NQ (P:=P) (gl:=gl) (orc:=orc) (T0:=s.T) (m:=s.m) ((ops.toList.drop p).map (Xf P ops)) K hp hj p 0 s.m zd (by simp[fG]) (by simp[fG,Vt]) (by simpa[bX,fG]using h x hx);obtain⟨x0,hx0⟩:=hR;have eO:js.length=ms.length+1:=by have:=(bJ x0 hx0).1;simpa using this
 refine Fw hQ hc hj (fun jl ug x x' _ _ listed CJ QC t=>?_) ⟨x0,hx0⟩ h hs
 have V4:∀k,jl<k->k<p->(Fo ops k [k]).contains jl=true:=fun k cZ dM=>by
  unfold vZ at lB;have hg:js.getLast?=some jl:=by rw[List.getLast?_eq_getElem?,eO];simpa using ug
  rw[hg]at lB;have:=zzbf.1 lB k (zzay.2 dM);simp only[zzgx,decide_eq_true_eq]at this;obtain h|h:=this
  ·omega
  exact h
 exact J6 hc CJ QC (fun j hj=>v7 ug zE) V4 (CQ _ (zzad ug)) t
end
def ar2(f:FuncId):Bool:=f==55
def ar3(o:Oper):Bool:=match o.op with
 |.call ⟨.value (.func f),_,_⟩=>ar2 f
 |_=>false
def alU(ops:Array Oper)(j j':Nat):Bool:=match ops[j']? with
 |some o=>(Xy o).contains j
 |none=>false
def CR(ops:Array Oper):P2->List (Nat×Nat)
 |j::j'::r=>(if alU ops j j'=true then[]else[(j,j')])++CR ops (j'::r)
 |_=>[]
def ar4(o:Oper):Bool:=match o.op with
 |.alloc _=>true
 |_=>false
def NR(ops:Array Oper)(p:Nat):Option (P2×Nat×Nat×Nat):=
 let js:=(List.range p).filter (eM ops CL)
 match CR ops js with
 |[(j,z)]=>(match ops[z]? with
  |some o=>(match o.dst with
   |some t=>if ar4 o&&o.guard.isNone&&(List.range p).any (eM ops ar3)&&(List.range p).all (eM ops VY)&&(List.range p).all (fun i=>match ops[i]? with
    |some o'=>!(Xy o').contains z||(Xy o').contains j
    |none=>false)then some (js,j,z,t)else none
   |none=>none)
  |none=>none)
 |_=>none
def Fz{ops:Array Oper}:∀{js:P2}(a j j':Nat)(o:Oper),js[a]?=some j->js[a+1]?=some j'->ops[j']?=some o->j∈Xy o\/(j,j')∈CR ops js
 |[],a,j,j',o,h,_,_=>by simp at h
 |[x],a,j,j',o,h,h',_=>by
  have:=(zza.1 h').1;simp at this
 |x::y::r,0,j,j',o,h,h',ho=>by
  simp at h h';subst h;subst h';rw[CR];by_cases hl:alU ops x y=true
  ·left;unfold alU at hl;rw[ho]at hl;simpa using hl
  right;rw[if_neg hl];simp
 |x::y::r,a+1,j,j',o,h,h',ho=>by
  rcases Fz (js:=y::r) a j j' o (Nm h) (Nm h') ho with h1|h1
  ·exact .inl h1
  right;rw[CR];exact zzhd _ h1
def NS{ops:Array Oper}:∀{js:P2}{j j':Nat},(j,j')∈CR ops js->∃a,js[a]?=some j/\js[a+1]?=some j'
 |[],_,_,h=>by simp[CR]at h
 |[x],_,_,h=>by simp[CR]at h
 |x::y::r,j,j',h=>by
  rw[CR]at h;rcases zzat.1 h with h|h
  ·split at h
   ·cases h
   simp at h;obtain⟨rfl,rfl⟩:=h;exact⟨0,rfl,rfl⟩
  obtain⟨a,h1,h2⟩:=NS h;exact⟨a+1,Nm h1,Nm h2⟩
def J8{ops:Array Oper}{p:Nat}{js:P2}{jp z t:Nat}(h:NR ops p=some (js,jp,z,t)):
  js=(List.range p).filter (eM ops CL)/\(∀i,i<p->∃o,ops[i]?=some o)/\(∃oz te,ops[z]?=some oz/\oz.op=.alloc te/\oz.dst=some t/\oz.guard=none)/\(∀i o,i<p->ops[i]?=some o->z∈Xy o->jp∈Xy o)/\
  (∀a j j' o,js[a]?=some j->js[a+1]?=some j'->ops[j']?=some o->j∈Xy o\/(j=jp/\j'=z))/\∃a,js[a]?=some jp/\js[a+1]?=some z:=by
 unfold NR at h;simp only at h;split at h
 case h_2=>cases h
 rename_i j z' hof;split at h
 case h_2=>cases h
 rename_i oz V6;split at h
 case h_2=>cases h
 rename_i t' ht;split at h
 case isFalse=>cases h
 rename_i bJ;simp only[Option.some.injEq,Prod.mk.injEq]at h;obtain⟨rfl,rfl,rfl,rfl⟩:=h;simp only[zzak]at bJ;obtain⟨⟨⟨⟨h1,h2⟩,_⟩,_⟩,h5⟩:=bJ
 have oM:∀i,i<p->∃o,ops[i]?=some o/\(!(Xy o).contains z'||(Xy o).contains j)=true:=fun i hi=>by
  have:=zzbf.1 h5 i (zzay.2 hi);split at this
  ·rename_i o ho;exact⟨o,ho,this⟩
  cases this
 refine⟨rfl,fun i hi=>let⟨o,ho,_⟩:=oM i hi;⟨o,ho⟩,?_,fun i o hi ho hz=>?_,fun a x y o hx hy ho=>?_,NS (by rw[hof];simp)⟩
 ·unfold ar4 at h1;split at h1
  ·rename_i te eV;exact⟨oz,te,V6,eV,ht,Nm h2⟩
  cases h1
 ·obtain⟨o',dg,hc⟩:=oM i hi;rw[ho]at dg;cases dg;have hz':(Xy o).contains z'=true:=by simpa using hz
  rw[hz']at hc;simpa using hc
 rcases Fz a x y o hx hy ho with h|h
 ·exact .inl h
 rw[hof]at h;simp at h;exact .inr h
section
variable {N:Nat} {w0:fE} {r:Option Nat} {an:Nat->Nat->Prop} {S:G×World} {Y:YT} {P:Program} {gl:Nat->AV} {orc:X1} {ops:Array Oper} {T0:P1} {m:AM} {p:Nat} {γ:G} {w:World} {B:Nat->QR} {L:Nat->Option Nat}
def Chg.trans{γ' Ar:G}{w' iw:World}(h:Chg γ w γ' w')(k:Chg γ' w' Ar iw):Chg γ w Ar iw where
 os:=k.os.trans h.os
 tape:=k.tape.trans h.tape
 output:=k.output.trans h.output
 size:=zzaz h.size k.size
 same b hb hn:=by
  have qs:¬OI γ' b:=fun ho=>by
   rcases h.oi b ho with ho|ho
   ·exact hn ho
   omega
  rw[k.same b (zzan hb h.size) qs,h.same b hb hn]
 ro b o hb hr:=by
  obtain⟨h1,h2⟩:=h.ro b o hb hr;obtain⟨k1,k2⟩:=k.ro b o (zzan hb h.size) h1;exact⟨k1,k2.trans h2⟩
 oi b hb:=by
  rcases k.oi b hb with hb|hb
  ·exact h.oi b hb
  exact .inr (zzaz h.size hb)
 ron b o hr:=by
  rcases k.ron b o hr with hr|hr|hr
  ·exact h.ron b o hr
  ·rcases h.oi b hr with hr|hr
   ·exact .inr (.inl hr)
   exact .inr (.inr hr)
  exact .inr (.inr (zzaz h.size hr))
def ar5(γs:G)(ws:World)(arr:PQ)(te:TypeId):fE where
 p γ w:=Chg γs ws γ w/\ws.heap.size<w.heap.size/\w.heap[ws.heap.size]?=some (.cells arr te (0,0))/\¬OI γ ws.heap.size/\∀o,¬γ.ro ws.heap.size o
 st γ w γ' w':=by
  rintro⟨h1,h2,h3,h4,h5⟩ c;refine⟨h1.trans c,zzan h2 c.size,?_,?_,?_⟩
  ·rw[c.same _ h2 h4];exact h3
  ·intro h;rcases c.oi _ h with h|h
   ·exact h4 h
   omega
  intro o h;rcases c.ron _ _ h with h|h|h
  ·exact h5 o h
  ·exact h4 h
  omega
def aq.v8(hm:aq N w0 an γ w B L)(o:Obj):Ev w γ (w.alloc o) γ:=
 ⟨zd,fun b o' hb hr=>⟨hr,cell_of_heap (Below.heap_alloc w o b hb)⟩,fun _ _ h=>h,fun _=>zzaa _,fun _ _ h=>h,rfl,
  fun i b _ ho=>⟨ho,fun arr e he=>⟨arr,by rw[Below.heap_alloc w o b (hm.own i b ho).2.1];exact he,zzaa _⟩,fun _ h=>h⟩,
  fun b hb=>⟨hb,Below.heap_alloc w o b (hm.sp b hb).2.1⟩,Sz.of_same (Below.heap_alloc w o)⟩
def aq.axJ(hm:aq N w0 an γ w B L)(o:Obj)(w1:fE)(h1:w1.p γ (w.alloc o)):aq N w1 an γ (w.alloc o) B L where
 bs:=h1
 hN:=by have:=hm.hN;simp;omega
 an:=hm.an
 robd b o h:=by have:=hm.robd b o h;simp;omega
 box id cells b hb h1:=by
  obtain⟨arr,e,h2,h3,h4⟩:=hm.box id cells b hb h1;exact⟨arr,e,by rw[Below.heap_alloc w o b (aW h2)];exact h2,h3.mono (hm.v8 o),h4⟩
 β id b hb:=by
  obtain⟨h1,h2,h3⟩:=hm.β id b hb;exact⟨h1,by simp;omega,h3⟩
 inj:=hm.inj
 own id b hb:=by
  obtain⟨h1,h2,h3⟩:=hm.own id b hb;exact⟨h1,by simp;omega,h3⟩
 oinj:=hm.oinj
 sp b hb:=by
  obtain⟨h1,h2,h3⟩:=hm.sp b hb;exact⟨h1,by simp;omega,h3⟩
 mm id b hb:=by
  obtain⟨h1,h2,h3,h4,h5,h6,h8,h7⟩:=hm.mm id b hb;exact⟨h1,by simp;omega,h3,h4,h5,h6,h8,h7.mono (hm.v8 o).cR.Aq (Below.heap_alloc w o b h2)⟩
 minj:=hm.minj
 len:=hm.len
 cur0:=hm.cur0
def aq.oT(hm:aq N w0 an γ w B L)(id:Nat)(aL:B id=none)(D:Nat):Ev w γ w (γ.box id D) where
 size:=zzaa _
 ro b o' hb hr:=⟨hr,rfl⟩
 β i b hb:=by
  have:i≠id:=by rintro rfl;obtain⟨_,_,_,_,c,hc⟩:=hm.β i b hb;rw[aL]at hc;cases hc
  simp[G.box,this,hb]
 cur _:=zzaa _
 mm _ _ h:=h
 lp:=rfl
 own i b _ ho:=⟨ho,fun arr e he=>⟨arr,he,zzaa _⟩,fun _ h=>h⟩
 sp b hb:=⟨hb,rfl⟩
 ss:=Sz.refl w
def aq.ar6(hm:aq N w0 an γ w B L)(w1:fE){D id:Nat}(aL:B id=none){cells:P1}{arr:PQ}{te:TypeId}(hN:N<=D)(hh:w.heap[D]?=some (.cells arr te (0,0)))(tH:¬OI γ D)(gA:∀o,¬γ.ro D o)
  (hr:cG w γ cells arr.toList)(yI:∀v∈arr.toList,v.oneCell'=true)(hp:w1.p (γ.box id D) w):aq N w1 an (γ.box id D) w (fun i=>if i=id then some cells else B i) L where
 bs:=hp
 hN:=hm.hN
 an:=hm.an
 robd:=hm.robd
 box i cs b hb h1:=by
  by_cases hi:i=id
  ·subst hi;simp at hb;subst hb;simp[G.box]at h1;subst h1;exact⟨arr,te,hh,hr.mono (hm.oT i aL D),yI⟩
  simp[hi]at hb;simp[G.box,hi]at h1;obtain⟨bU,e',h2,h3,h4⟩:=hm.box i cs b hb h1;exact⟨bU,e',h2,h3.mono (hm.oT id aL D),h4⟩
 β i b hb:=by
  by_cases hi:i=id
  ·subst hi;simp[G.box]at hb;subst hb;exact⟨hN,aW hh,gA,fun i' h=>tH (.inr (.inl ⟨i',h⟩)),cells,zd⟩
  simp[G.box,hi]at hb;obtain⟨h1,h2,h3,h4,c,hc⟩:=hm.β i b hb;exact⟨h1,h2,h3,h4,c,by simp[hi,hc]⟩
 inj i i' b h h':=by
  by_cases hi:i=id<;>by_cases dm:i'=id
  ·exact .inr (.inr (by rw[hi,dm]))
  ·simp[G.box,hi]at h;simp[G.box,dm]at h';subst h;exact absurd (.inl ⟨i',h'⟩) tH
  ·simp[G.box,dm]at h';simp[G.box,hi]at h;subst h';exact absurd (.inl ⟨i,h⟩) tH
  simp[G.box,hi]at h;simp[G.box,dm]at h';simp only[if_neg hi,if_neg dm];exact hm.inj i i' b h h'
 own:=hm.own
 oinj:=hm.oinj
 sp b hb:=by
  obtain⟨h1,h2,h3,h4,h5⟩:=hm.sp b hb;refine⟨h1,h2,h3,fun i hi=>?_,h5⟩;by_cases aL:i=id
  ·simp[G.box,aL]at hi;subst hi;exact tH (.inr (.inr (.inl hb)))
  simp[G.box,aL]at hi;exact h4 i hi
 mm i' b hb:=by
  obtain⟨h1,h2,h3,h4,h5,h6,h8,h7⟩:=hm.mm i' b hb
  have aK:i'≠id:=by
   rintro rfl;obtain⟨_,_,hx,_⟩:=h7;rw[aL]at hx;cases hx
  refine⟨h1,h2,h3,fun i hi=>?_,h5,h6,by simp[G.box,aK,h8],?_⟩
  ·by_cases aL:i=id
   ·simp[G.box,aL]at hi;subst hi;exact tH (.inr (.inr (.inr ⟨i',hb⟩)))
   simp[G.box,aL]at hi;exact h4 i hi
  simp only[aK,if_false];exact h7.mono (hm.oT id aL D).cR.Aq rfl
 minj:=hm.minj
 len:=hm.len
 cur0:=hm.cur0
def CS{l:Array Bool}{i j:Nat}:(l.setIfInBounds i true).setIfInBounds j true=(l.setIfInBounds j true).setIfInBounds i true:=by
 by_cases h:i=j
 ·rw[h]
 exact Array.setIfInBounds_comm _ _ h
structure axK (N:Nat) (w0:fE) (r:Option Nat) (an:Nat->Nat->Prop) (S:G×World) (Y:YT) (P:Program) (gl:Nat->AV) (orc:X1) (ops:Array Oper) (T0:P1) (m:AM) (ms:R0) (js:P2) (L:QP) (p jp z t:Nat) (zs:P1) (listed l0:Array Bool) (γs:G) (ws:World) (arr:PQ) (te:TypeId) (γ:G) (w:World) (a:Act):Prop where
 eq:listed=l0.setIfInBounds z true
 zl:l0.getD z false=false
 pl:l0.getD jp false=false
 clo:Fk ops listed
 inv:qP N (ar5 γs ws arr te) r an S Y P gl orc ops T0 m ms js L p l0 γ w a
 st:w0.p γs ws
 hN:N<=ws.heap.size
 slot:t<T0.length->a.tmps.getD t undef=.pointer (some ⟨ws.heap.size,0,none⟩)
 zr:∀w γ,ak w γ zs arr.toList
 zc:zs.all Qw=true
def FA{Q:PH}{K:AS->Prop}{γ:G}{w:World}{s:AS}{a:Act}{js:P2}{jp z t:Nat}(hQ:∀γ w s a,K s->dQ N w0 r an S P gl Y γ w s a->Q .normal a w)(hc:yN ops p=true)(heZ:NR ops p=some (js,jp,z,t))
  (hY:∀i as' m K,¬Y i as' m K){ms:R0}(h:iH P gl orc Y ((ops.toList.drop p).map (Xf P ops)) K s.m ms ((ops.toList.take p).map (Xf P ops)) (flags ops p js) ms s.m s.T)(hT:s.T.getD t .junk=.junk)(hs:dQ N w0 r an S P gl Y γ w s a):
  wpAnyIn (FW r) 0 P .any ops Q ops.size (Array.replicate ops.size false) a {w with drawn:=w.drawn+1}:=by
 obtain⟨hp,dy⟩:=Zp hc;obtain⟨ja,oQ,⟨oz,te,V6,eV,hdz,hgz⟩,hzp,aiU,az,haz,tL⟩:=J8 heZ;have qt:js.Nodup:=by rw[ja];exact(zzdl).filter _
 have CQ:∀j∈js,j<p:=fun j h=>by rw[ja,zzcq]at h;exact zzay.1 h.1
 have axL:=zzad tL;have axM:=zzad haz;have aek:=CQ z axL;have azX:=CQ jp axM
 have hpz:jp≠z:=by
  rintro rfl;have:=Uw qt haz tL;omega
 obtain⟨aH,h1,h2⟩:=NP (P:=P) (gl:=gl) (orc:=orc) (T0:=s.T) (m:=s.m) ((ops.toList.drop p).map (Xf P ops)) K hp ja p 0 s.m zd (by simp[fG]) (by simp[fG,Vt]) (by simpa[bX,fG]using h);have hyk:∀(w0:fE)(γ:G)(w:World),VL N w0 an P Y γ w:=fun _ _ _ _ _ _ i as' m K _ _ _ _ hyy=>(hY i as' m K hyy).elim;obtain⟨xz,hxz⟩:∃xz,ms[az+1]?=some xz:=⟨ms[az+1]'(by have:=(zza.1 tL).1;omega),zzac _⟩;have V7:=(h1 z oz (zzbe _) aek V6).2.1 (az+1) xz tL hxz
 have Iu:∃zs,zc P te=some zs/\tr P oz=.alloc zs:=by
  obtain⟨dst,op,ty,pos,after,guard⟩:=oz;simp only at eV;subst eV;simp only[tr]at V7 |-
  cases hzc:zc P te with
  |none=>rw[hzc]at V7;exact absurd V7.1 (by simp[memEff])
  |some zs=>exact⟨zs,rfl,rfl⟩
 obtain⟨zs,hzc,Iu⟩:=Iu;rw[Iu]at V7;obtain⟨_,e1,e2,e3⟩:=V7;have e1:zs.all Qw=true:=e1;have e2:xz.1=.ptr (Vt s.m ms (az+1)).boxes.length 0:=e2;have e3:xz.2={Vt s.m ms (az+1)with boxes:=(Vt s.m ms (az+1)).boxes++[zs]}:=e3
 have full:∀(bh:Nat)(listed:Array Bool)(γ:G)(w:World)(a:Act),qP N w0 r an S Y P gl orc ops s.T s.m ms js (Xb js ms) p listed γ w a->uc ops listed<=bh->(∀i,i<p->listed.getD i false=true)->wpAnyIn (FW r) 0 P .any ops Q bh listed a w:=by
  intro bh listed γ w a hI je bJ;have hml:Yz listed s.m js ms=Vt s.m ms ms.length:=Uy aH zE (fun b j _ hb=>bJ j (CQ j (zzad hb))) (fun j hj=>by rw[zzar zE]at hj;cases hj);have eN:=hI.mm;have oc:=hI.ls;rw[hml]at eN oc;refine Qdt hQ hc bh p listed γ w _ a (zzaa _) hp hI.size bJ hI.tail je h2 ⟨eN,oc,hI.rd,⟨?_,fun t x v hx hv=>?_⟩,hI.d,hI.g,hI.y,hI.e⟩
  ·simp[Qej,hI.tl]
  have h1:=hI.tt t
  have hAt:oO P gl orc ops s.T s.m (Xb js ms) p listed t=x:=by
   have j8:(bX P gl orc ops s.T s.m (Xb js ms) p).getD t .junk=x:=by simp only at hx;simp[List.getD,hx]
   unfold oO;split
   ·exact j8
   rename_i hw;rw[<- j8];refine(Qas p fun j hj hd=>hw ?_).symm;unfold wr;rw[zzbu];exact⟨j,zzay.2 hj,by rw[bJ j hj,hd];simp⟩
  rw[hAt]at h1;have:a.tmps.getD t undef=v:=by simp at hv;simp[hv]
  rwa [this]at h1
 have main:∀(bh:Nat)(listed:Array Bool)(γ:G)(w:World)(a:Act),(qP N w0 r an S Y P gl orc ops s.T s.m ms js (Xb js ms) p listed γ w a\/∃l0 γs ws arr y7,axK N w0 r an S Y P gl orc ops s.T s.m ms js (Xb js ms) p jp z t zs listed l0 γs ws arr y7 γ w a)->
   uc ops listed<=bh->wpAnyIn (FW r) 0 P .any ops Q bh listed a w:=by
  intro bh;induction bh with
  |zero=>
   intro listed γ w a hI je;obtain hI|⟨l0,γs,ws,arr,y7,hH⟩:=hI
   ·exact full 0 listed γ w a hI je fun i hi=>by
     rw[Xa (by rw[hI.size];omega) false true];exact Qds (zzfd.1 je) zE
   exfalso;have hsz:listed.size=ops.size:=by rw[hH.eq];simp[hH.inv.size]
   have:=Qds (ops:=ops) (listed:=listed) (zzfd.1 je) (i:=jp) zE;rw[<- Xa (by rw[hsz];omega) false true,hH.eq,Qs hpz,hH.pl]at this;cases this
  |succ bh ih=>
   intro listed γ w a hI je;obtain hI|⟨l0,γs,ws,arr,y7,hH⟩:=hI
   ·by_cases bJ:∀i,i<p->listed.getD i false=true
    ·exact full (bh+1) listed γ w a hI je bJ
    have hex:∃k,k<p/\listed.getD k true=false:=by
     refine Classical.byContradiction fun hn=>bJ fun i hi=>?_;rw[Xa (by rw[hI.size];omega) false true];cases hl:listed.getD i true with
     |true=>rfl
     |false=>exact absurd ⟨i,hi,hl⟩ hn
    obtain⟨k,hk,VX⟩:=hex;refine⟨fun hr=>?_,fun i hi=>?_⟩
    ·obtain⟨j,hj⟩:=Uk hc hI.size k k (zzaa _) zE VX;rw[hr]at hj;cases hj
    obtain⟨ah,hu,o,ho,bW⟩:=Ul hc hi
    have dG:i<p:=by
     rcases zzab i p with h|h
     ·exact h
     have:=Qau hI.clo ho ((dy i o ho).2.2 h) bW i k zE zE;rw[Xa (by rw[hI.size];omega) false true,VX]at this;cases this
    have huf:listed.getD i false=false:=by rw[Xa (by rw[hI.size];exact ah) false true];exact hu
    by_cases hear:i=z/\listed.getD jp false=false
    ·
     obtain⟨rfl,hjp⟩:=hear;rw[V6]at ho;cases ho;obtain⟨iz,zv,hi1,hi2,hi3⟩:=iV (P:=P) (w:=w) (γ:=γ) hzc
     have ar7:∀w γ,ak w γ zs zv.cells.toList:=fun w γ=>by
      obtain⟨i',z',q1,q2,q3⟩:=iV (P:=P) (w:=w) (γ:=γ) hzc;rw[hi1]at q1;cases q1;rw[hi2]at q2;cases q2;exact q3
     have aZ:(execOp a.eval oz).run P w=.ok (.value (.pointer (some ⟨w.heap.size,0,none⟩))) (w.alloc (.cells zv.cells te)):=by
      obtain⟨dst,op,ty,pos,after,guard⟩:=oz;simp only at eV;subst eV;simp[execOp,Instr.alloc,zeroValue,typeInfo,hi1,hi2,newVar,newRow]
     simp only[wpOpIn,V6];rw[if_pos (by simp[Region.wanted,hgz])];refine Zn aZ (ih _ γ _ _ (.inr ⟨listed,γ,w,zv.cells,te,⟨rfl,huf,hjp,Fk.set hI.clo V6 (by rw[hI.size];exact ah) bW,?_,hI.mm.bs,hI.mm.hN,?_,ar7,e1⟩⟩) ?_)
     ·have bZ:=hI.mm.v8 (.cells zv.cells te);refine⟨hI.size,hI.tail,hI.ch,hI.clo,hI.mm.axJ _ _ ?_,hI.ls.mono bZ,hI.rd.aV bZ.cR,by simp[Act.put,hdz,hI.tl],fun t'=>?_,?_,fun g=>(hI.g g).aV bZ.cR.cQ,hyk _ _ _,hI.e.trans bZ.cR⟩
      ·refine⟨⟨rfl,rfl,rfl,zd,fun b hb _=>Below.heap_alloc w _ b hb,bZ.ro,fun _ h=>.inl h,fun _ _ h=>.inl h⟩,zd,heap_alloc_new w _,?_,fun o' dg=>?_⟩
       ·rintro(⟨id,h⟩|⟨id,h⟩|h|⟨id,h⟩)
        ·have:=(hI.mm.β id _ h).2.1;omega
        ·have:=(hI.mm.own id _ h).2.1;omega
        ·have:=(hI.mm.sp _ h).2.1;omega
        have:=(hI.mm.mm id _ h).2.1;omega
       have:=hI.mm.robd _ _ dg;omega
      ·rw[hdz];by_cases htt:t'=t
       ·subst htt
        have hA:oO P gl orc ops s.T s.m (Xb js ms) p listed t'=.junk:=by
         unfold oO;rw[if_neg,hT];intro hw;unfold wr at hw;obtain⟨j,hj,hjw⟩:=zzbu.1 hw;simp only[zzak,beq_iff_eq]at hjw
         have hjz:j=i:=by
          rcases zzep j i with bL|AF|oN
          ·exact absurd hdz (((dy i oz V6).2.1 aek).2 j bL t' hjw.2)
          ·exact AF
          obtain⟨oj,hoj⟩:=oQ j (zzay.1 hj);have:=((dy j oj hoj).2.1 (zzay.1 hj)).2 i oN t' (by simp[Vq,V6,hdz]);have h2:=hjw.2;simp[Vq,hoj]at h2;exact absurd h2 this
         rw[hjz,huf]at hjw;exact absurd hjw.1 zd
        rw[hA];exact .junk _
       have:(a.put (some t) (.pointer (some ⟨w.heap.size,0,none⟩))).tmps.getD t' undef=a.tmps.getD t' undef:=by
        simp only[Act.put];simp;rw[zzck (Ne.symm htt)]
       rw[this];exact(hI.tt t').aV bZ.cR
      rw[hdz];exact hI.d.aV bZ.cR
     ·intro iG;rw[hdz];have:t<a.tmps.size:=by rw[hI.tl];exact iG
      simp[Act.put,this]
     have:=jd hI.size ah hu;omega
    have mW:∀a j,js[a]?=some j->js[a+1]?=some i->listed.getD j false=true:=fun a j e1 e2=>by
     rcases aiU a j i o e1 e2 ho with h|⟨rfl,rfl⟩
     ·exact bW j h
     cases hl:listed.getD j false with
     |true=>rfl
     |false=>exact absurd ⟨rfl,hl⟩ hear
    refine wpOpIn_mono ?_ (Qcc hc hI ho dG (h1 i o (zzbe _) dG ho).2.2 aH qt hu bW mW (h1 i o (zzbe _) dG ho).1 (h1 i o (zzbe _) dG ho).2.1);rintro a' w' ⟨γ',mU,_⟩;refine ih _ γ' w' a' (.inl mU) ?_;have:=jd hI.size ah hu;omega
   have hsz:listed.size=ops.size:=by rw[hH.eq];simp[hH.inv.size]
   have iX:∀k d,k≠z->listed.getD k d=l0.getD k d:=fun k d hk=>by rw[hH.eq,Qs hk]
   have alV:listed.getD jp false=false:=by rw[iX jp false hpz];exact hH.pl
   have ar8:jp<listed.size:=by rw[hsz];omega
   have ar9:z<l0.size:=by rw[hH.inv.size];omega
   refine⟨fun hr=>?_,fun i hi=>?_⟩
   ·obtain⟨j,hj⟩:=Uk hc hsz jp jp (zzaa _) zE (by rw[Xa ar8 true false];exact alV);rw[hr]at hj;cases hj
   obtain⟨ah,hu,o,ho,bW⟩:=Ul hc hi
   have dG:i<p:=by
    rcases zzab i p with h|h
    ·exact h
    have:=Qau hH.clo ho ((dy i o ho).2.2 h) bW i jp zE zE;rw[alV]at this;cases this
   have hiz:i≠z:=by
    rintro rfl;rw[hH.eq,Xr ar9]at hu;cases hu
   have aiV:∀j∈Xy o,l0.getD j false=true:=fun j hj=>by
    have hjz:j≠z:=by
     rintro rfl;have:=bW jp (hzp i o dG ho hj);rw[alV]at this;cases this
    rw[<- iX j false hjz];exact bW j hj
   have hu0:l0.getD i true=false:=by rw[<- iX i true hiz];exact hu
   have mW:∀a j,js[a]?=some j->js[a+1]?=some i->l0.getD j false=true:=fun a j e1 e2=>by
    rcases aiU a j i o e1 e2 ho with h|⟨_,h⟩
    ·exact aiV j h
    exact absurd h hiz
   refine wpOpIn_mono ?_ (Qcc (w0:=ar5 γs ws arr y7) hc hH.inv ho dG (h1 i o (zzbe _) dG ho).2.2 aH qt hu0 aiV mW (h1 i o (zzbe _) dG ho).1 (h1 i o (zzbe _) dG ho).2.1);rintro a' w' ⟨γ',mU,Fx⟩;have asa:listed.setIfInBounds i true=(l0.setIfInBounds i true).setIfInBounds z true:=by rw[hH.eq];exact CS
   have hdt:o.dst≠some t:=by
    rcases zzep i z with bL|AF|oN
    ·intro hd;exact((dy z oz V6).2.1 aek).2 i bL t (by simp[Vq,ho,hd]) hdz
    ·exact absurd AF hiz
    exact((dy i o ho).2.1 dG).2 z oN t (by simp[Vq,V6,hdz])
   have aiW:t<s.T.length->a'.tmps.getD t undef=.pointer (some ⟨ws.heap.size,0,none⟩):=fun iG=>by rw[Fx t hdt];exact hH.slot iG
   have je:uc ops (listed.setIfInBounds i true)<=bh:=by
    have:=jd hsz ah hu;omega
   by_cases fP:i=jp
   ·subst fP;have CJ:=Fk.set hH.clo ho (by rw[hsz];exact ah) bW;refine ih _ (γ'.box (Vt s.m ms (az+1)).boxes.length ws.heap.size) w' a' (.inl ?_) je;rw[asa]at CJ |-
    obtain⟨c1,c2,c3,c4,c5⟩:=mU.mm.bs;have alW:i<l0.size:=by rw[hH.inv.size];exact ah
    have UT:(l0.setIfInBounds i true).getD z false=false:=by rw[Qs (Ne.symm hiz)];exact hH.zl
    have CO:∀b j,b<az+1->js[b]?=some j->(l0.setIfInBounds i true).getD j false=true:=fun b j hb hj=>by
     rcases zzab b az with bL|bu
     ·exact Qbj mU.ch bL hj haz (Xr alW)
     obtain rfl:b=az:=zE
     rw[haz]at hj;cases hj;exact Xr alW
    have azY:az+1<js.length:=(zza.1 tL).1;have iF:Yz (l0.setIfInBounds i true) s.m js ms=Vt s.m ms (az+1):=Uy aH zE CO (fun j hj=>by rw[tL]at hj;cases hj;exact UT)
    have od:Yz ((l0.setIfInBounds i true).setIfInBounds z true) s.m js ms=xz.2:=by
     have:=Uy (listed:=(l0.setIfInBounds i true).setIfInBounds z true) (m:=s.m) (a:=az+2) aH zE (fun b j hb hj=>?_) (fun j hj=>?_)
     ·rw[this];simp[Vt,List.getD,hxz]
     ·rcases zzab b (az+1)with h|h
      ·have hjz:j≠z:=by
        rintro rfl;have:=Uw qt hj tL;omega
       rw[Qs hjz];exact CO b j h hj
      obtain rfl:b=az+1:=zE
      rw[tL]at hj;cases hj;exact Xr (Nm ar9)
     have hjz:j≠z:=by
      rintro rfl;have:=Uw qt hj tL;omega
     rw[Qs hjz];cases hl:(l0.setIfInBounds i true).getD j false with
     |false=>rfl
     |true=>
      have:=Qbj mU.ch (zzf (az+1)) tL hj hl;rw[UT]at this;cases this
    have eN:=mU.mm;have oc:=mU.ls;rw[iF]at eN oc;have aL:(Vt s.m ms (az+1)).B (Vt s.m ms (az+1)).boxes.length=none:=by simp[AM.B]
    have bZ:=eN.oT _ aL ws.heap.size;refine⟨by simp[hH.inv.size],fun j ek nY=>by rw[Qs zE];exact mU.tail j ek nY,uk mU.ch (fun b j g1 g2=>?_),CJ,?_,?_,mU.rd.aV bZ.cR,mU.tl,fun t'=>?_,mU.d.aV bZ.cR,fun g=>(mU.g g).aV bZ.cR.cQ,hyk _ _ _,mU.e.trans bZ.cR⟩
    ·have:b+1=az+1:=Uw qt g2 tL;obtain rfl:b=az:=zE
     exact CO _ j (zzf _) g1
    ·rw[od,e3];have hmA:=eN.ar6 w0 (te:=y7) aL hH.hN c3 c4 c5 (hH.zr w' γ').toP (Yy (hH.zr w' γ') hH.zc) (w0.st γs ws _ w' hH.st ⟨c1.os,c1.tape,c1.output,c1.size,c1.same,c1.ro,fun b hb=>?_,c1.ron⟩)
     ·have hB:({Vt s.m ms (az+1)with boxes:=(Vt s.m ms (az+1)).boxes++[zs]}:AM).B=fun i=>if i=(Vt s.m ms (az+1)).boxes.length then some zs else(Vt s.m ms (az+1)).B i:=VD _ _;rw[hB];exact hmA
     obtain⟨i',dm⟩|hb|hb:=hb
     ·by_cases h:i'=(Vt s.m ms (az+1)).boxes.length
      ·simp[G.box,h]at dm;exact .inr zE
      simp[G.box,h]at dm;exact c1.oi b (.inl ⟨i',dm⟩)
     ·exact c1.oi b (.inr (.inl hb))
     exact c1.oi b (.inr (.inr hb))
    ·rw[od,e3];exact oc.mono' bZ rfl
    rw[CN hc (by simp[hH.inv.size]) V6 aek];by_cases Ft:oz.dst=some t'/\t'<s.T.length
    ·rw[if_pos Ft];rw[hdz]at Ft;obtain⟨axN,J9⟩:=Ft;cases axN;rw[jg (P:=P) (gl:=gl) (orc:=orc) (ops:=ops) (m:=s.m) qt tL hxz,e2,aiW J9];exact .ptr (by simp[G.box])
    rw[if_neg Ft];exact(mU.tt t').mono bZ
   exact ih _ γ' w' a' (.inr ⟨l0.setIfInBounds i true,γs,ws,arr,y7,asa,by rw[Qs (Ne.symm hiz)];exact hH.zl,by rw[Qs (Ne.symm fP)];exact hH.pl,Fk.set hH.clo ho (by rw[hsz];exact ah) bW,mU,hH.st,hH.hN,aiW,hH.zr,hH.zc⟩) je
 have vU:∀j,(Array.replicate ops.size false).getD j false=false:=fun j=>by
  rcases zzab j ops.size with h|h<;>simp[h]
 have mW:∀V3:P2,chn (Array.replicate ops.size false) V3:=fun V3=>by
  induction V3 with
  |nil=>trivial
  |cons j r ih=>
   cases r with
   |nil=>trivial
   |cons j' r=>exact⟨fun h=>(by rw[vU]at h;cases h),ih⟩
 have J5:Yz (Array.replicate ops.size false) s.m js ms=s.m:=Uy (a:=0) aH zE (fun b j hb=>zE) (fun j _=>vU j);refine main ops.size _ γ w.drew a (.inl ⟨zd,fun i _ hi=>by simp[hi],mW js,fun j o h=>(by rw[vU]at h;cases h),?_,?_,hs.rd.aV (Ev.drew w γ).cR,?_,fun t=>?_,hs.d.aV (Ev.drew w γ).cR,fun g=>(hs.g g).mono (Ev.drew w γ).cQ,hs.y.mono (Ev.drew w γ).cR,hs.e.trans (Ev.drew w γ).cR⟩) ?_
 ·rw[J5];exact hs.m.drew
 ·rw[J5];exact hs.ls.mono (Ev.drew w γ)
 ·have:=hs.t.1;simp at this;omega
 ·have hw:wr ops p (Array.replicate ops.size false) t=false:=by
   unfold wr;rw[zzeb];intro j _;rw[vU j];simp
  unfold oO;rw[hw];simp only[zzbo,if_false];have:=(hs.t.mono (Ev.drew w γ)).get t;simpa[List.getD]using this
 unfold uc;exact zzaz (zzet) zd
end
inductive SC where
 |skip
 |ops (l:List SO)
 |opsX (l:List SO)
 |draw (l l2:List SO)
 |drawE (fl:List Fg) (l l2:List SO)
 |drawZ (z:Nat) (fl:List Fg) (l l2:List SO)
 |seq (a b:SC)
 |cond (x:bN) (a b:SC)
 |block (id:Nat) (c:SC)
 |loop (c:SC)
 |exit (id:Nat)
 |scope (c:SC)
 |rfunc (g:bN) (ps:P2) (oU body:SC)
 |ret
 |bad
def AT:P2->SC->SC
 |[],c=>c
 |0::p,.seq x _=>AT p x
 |_::p,.seq _ x=>AT p x
 |0::p,.cond _ x _=>AT p x
 |_::p,.cond _ _ x=>AT p x
 |_::p,.block _ x=>AT p x
 |_::p,.loop x=>AT p x
 |_::p,.scope x=>AT p x
 |0::p,.rfunc _ _ x _=>AT p x
 |_::p,.rfunc _ _ _ x=>AT p x
 |_,c=>c
def zi:P2->SC->SC->SC
 |[],_,t=>t
 |0::p,.seq x y,t=>.seq (zi p x t) y
 |_::p,.seq y x,t=>.seq y (zi p x t)
 |0::p,.cond c x y,t=>.cond c (zi p x t) y
 |_::p,.cond c y x,t=>.cond c y (zi p x t)
 |_::p,.block n x,t=>.block n (zi p x t)
 |_::p,.loop x,t=>.loop (zi p x t)
 |_::p,.scope x,t=>.scope (zi p x t)
 |0::p,.rfunc g l x y,t=>.rfunc g l (zi p x t) y
 |_::p,.rfunc g l y x,t=>.rfunc g l y (zi p x t)
 |_,c,_=>c
def alX(n:Nat):P2->P2
 |[]=>[n]
 |k::l=>bif n.ble k then(bif n.beq k then k::l else n::k::l)else k::alX n l
def zj(r:P2):List SO->P2
 |[]=>r
 |o::l=>match o.dst with|some n=>alX n (zj r l)|none=>zj r l
def asb(r:P2):P2->P2
 |[]=>r
 |n::l=>alX n (asb r l)
def rW(r:P2):SC->P2
 |.ops l=>zj r l
 |.opsX l=>zj r l
 |.draw l k=>zj (zj r k) l
 |.drawE _ l k=>zj (zj r k) l
 |.drawZ _ _ l k=>zj (zj r k) l
 |.seq x y=>rW (rW r y) x
 |.cond _ x y=>rW (rW r y) x
 |.block _ x=>rW r x
 |.loop x=>rW r x
 |.scope x=>rW r x
 |.rfunc _ l x y=>rW (rW (asb r l) y) x
 |_=>r
abbrev we(p:P2)(c:SC):={x:SC // x=AT p c}
abbrev jh(p:P2)(c:SC):={x:SC->SC // ∀t,x t=zi p c t}
abbrev wT(p:P2)(c:SC):={x:P2 // x=rW [] (AT p c)}
def qQ{P:Program}{ops:Array Oper}{p:Nat}{js:P2}(hc:yN ops p=true):(flags ops p js).length=((ops.toList.take p).map (Xf P ops)).length:=by
 have:=(Zp hc).1;simp[flags];omega
def alY{P:Program}{ops:Array Oper}{p:Nat}{js:P2}(hc:yN ops p=true)(h:aej (flags ops p js++bkF ops p js) ((ops.toList.take p).map (Xf P ops))=true):vZ ops p js=true:=by
 unfold aej at h;rw[<- qQ (js:=js) hc,zzdy]at h;unfold bkF at h;cases hb:vZ ops p js with
 |true=>rfl
 |false=>rw[hb]at h;simp at h
def alZ(ops:Array Oper):Bool:=(ops.toList.any fun o=>match o.op with
 |.call ⟨.value (.func f),_,_⟩=>arW f
 |_=>false)||((ops.toList.any fun o=>match o.op with
 |.panic _=>true
 |_=>false)&&ops.toList.any fun o=>match o.op with
 |.load _ (.global _)=>true
 |_=>false)
def Yd(P:Program):Code->SC
 |.skip=>.skip
 |.region _ ops false=>bif alZ ops then .opsX (ops.toList.map (Xf P ops))else .ops (ops.toList.map (Xf P ops))
 |.region _ ops true=>if P.follows .mixedOrders&&yN ops (Wu ops)then(match mV ops (Wu ops)with
  |some js=>.drawE (flags ops (Wu ops) js++bkF ops (Wu ops) js) ((ops.toList.take (Wu ops)).map (Xf P ops)) ((ops.toList.drop (Wu ops)).map (Xf P ops))
  |none=>(match NR ops (Wu ops)with
   |some (js,_,_,t)=>.drawZ t (flags ops (Wu ops) js) ((ops.toList.take (Wu ops)).map (Xf P ops)) ((ops.toList.drop (Wu ops)).map (Xf P ops))
   |none=>.draw ((ops.toList.take (Wu ops)).map (Xf P ops)) ((ops.toList.drop (Wu ops)).map (Xf P ops))))else .bad
 |.seq a b=>.seq (Yd P a) (Yd P b)
 |.cond c a b=>.cond (aA c) (Yd P a) (Yd P b)
 |.block id c=>.block id (Yd P c)
 |.loop c=>.loop (Yd P c)
 |.exit id=>.exit id
 |.label _=>.skip
 |.scope c=>.scope (Yd P c)
 |.rangeFunc g ps oU body=>.rfunc (aA g) ps.toList (Yd P oU) (Yd P body)
 |.ret=>.ret
 |_=>.bad
def uo(st:Nat->LS)(l:Nat)(x:LS):Nat->LS:=fun i=>if i=l then x else st i
def AM.at_(m:AM)(l:Nat)(x:LS):AM:={m with st:=uo m.st l x}
def AM.bM(m:AM):AM:={m with st:=uo m.st m.ln .ready,ln:=m.ln+1}
def Qbp(T:P1):P2->P1->P1
 |p::ps,x::xs=>Qbp (T.set p x) ps xs
 |_,_=>T
section vc
variable (P:Program) (gl:Nat->AV) (orc:X1) (Y:YT)
def V9(k:AS->(So)->Prop)(Q:So):So
 |.normal,s=>k s Q
 |ex,s=>Q ex s
def qR(id:Nat)(Q:So):So
 |.exit id',s=>if id'=id then Q .normal s else Q (.exit id') s
 |ex,s=>Q ex s
def wg(Q:So):So
 |.goto _,_=>False
 |ex,s=>Q ex s
def mX(I:AS->Prop)(μ:AS->Nat)(s:AS)(Q:So):So
 |.normal,s'=>I s'/\μ s'<μ s
 |ex,s'=>Q ex s'
def Wa(l:Nat)(K:Bool->AM->Prop):So
 |.normal,s=>K true (s.m.at_ l .ready)
 |.ret,s=>K false (s.m.at_ l (.done .ret))
 |.exit id,s=>K false (s.m.at_ l (.done (.exit id)))
 |_,_=>False
def QG(l:Nat)(k:AS->Prop):So
 |.normal,s=>s.m.st l=.ready/\k ⟨s.T,s.m.at_ l .busy⟩
 |_,_=>False
def Kf(l:Nat)(T:P1)(m:AM)(Q:So):LS->Prop
 |.ready=>Q .normal ⟨T,m.at_ l .gone⟩
 |.done ex=>Q ex ⟨T,m.at_ l .gone⟩
 |_=>False
def Yin(l n:Nat)(k:P1->AM->(Bool->AM->Prop)->Prop):YT:=fun l' args m K=>if l'=l then m.st l=.ready/\args.length=n/\k args m K else Y l' args m K
def vc:SC->AS->(So)->Prop
 |.skip,s,Q=>Q .normal s
 |.ops l,s,Q=>Zg P gl orc Y l s (Q .normal)
 |.opsX l,s,Q=>Zg P gl orc Y l s (Q .normal)\/∃k,Ir P gl orc Y k l s Q
 |.draw l l2,s,Q=>vcD P gl orc Y l2 (Q .normal) l s.T s.m []
 |.drawE fl l l2,s,Q=>vcD P gl orc Y l2 (Q .normal) l s.T s.m []\/(∃ms,uj P gl orc Y l2 (Q .normal) s.m ms l fl ms s.m s.T)\/(aej fl l=true/\∃(ms:R0)(R:UV),(∃x:AV×AM,R x.1 x.2)/\∀x:AV×AM,R x.1 x.2->kM P gl orc Y R l2 (Q .normal) s.m (ms++[x]) l fl (ms++[x]) s.m s.T)
 |.drawZ z fl l l2,s,Q=>(∀i as' m K,¬Y i as' m K)/\s.T.getD z .junk=.junk/\∃ms,iH P gl orc Y l2 (Q .normal) s.m ms l fl ms s.m s.T
 |.seq a b,s,Q=>vc a s (V9 (vc b) Q)
 |.cond x a b,s,Q=>match ev gl s.T x with
  |.bool t=>(t=true->vc a s Q)/\(t=false->vc b s Q)
  |_=>False
 |.block id c,s,Q=>vc c s (qR id Q)
 |.loop c,s,Q=>∃(I:AS->Prop)(μ:AS->Nat),I s/\∀s',I s'->vc c s' (mX I μ s' Q)
 |.exit id,s,Q=>Q (.exit id) s
 |.scope c,s,Q=>vc c s (wg Q)
 |.rfunc g ps oU body,s,Q=>match ev gl s.T g with
  |.fn f first cap=>s.m.st s.m.ln=.gone->aF P gl (Yin Y s.m.ln ps.length fun args m K=>vc oU ⟨Qbp s.T ps args,m⟩ (QG s.m.ln fun s'=>vc body s' (Wa s.m.ln K))) f (first++[.yld s.m.ln]++cap) (s.m.bM)
    fun _ m'=>Kf s.m.ln s.T m' Q (m'.st s.m.ln)
  |_=>False
 |.ret,s,Q=>Q .ret s
 |.bad,_,_=>False
end vc
section
variable {N:Nat} {w0:fE} {r:Option Nat} {an:Nat->Nat->Prop} {S:G×World} {Y:YT} {P:Program} {gl:Nat->AV} {orc:X1} {γ:G} {w:World}
def lift(N:Nat)(w0:fE)(r:Option Nat)(an:Nat->Nat->Prop)(S:G×World)(P:Program)(gl:Nat->AV)(Y:YT)(Q:So):PH:=fun ex a w=>∃γ s,dQ N w0 r an S P gl Y γ w s a/\Q ex s
def aq.Wb{B:Nat->QR}{L:Nat->Option Nat}(hm:aq N w0 an γ w B L)(o:Obj):
  aq N w0 an {γ with sp:=fun b=>γ.sp b\/b=w.heap.size} (w.alloc o) B L/\Ev w γ (w.alloc o) {γ with sp:=fun b=>γ.sp b\/b=w.heap.size}:=by
 have bZ:Ev w γ (w.alloc o) {γ with sp:=fun b=>γ.sp b\/b=w.heap.size}:=
  ⟨zd,fun b o' hb hr=>⟨hr,cell_of_heap (Below.heap_alloc w o b hb)⟩,fun _ _ h=>h,fun _=>zzaa _,fun _ _ h=>h,rfl,
   fun i b _ ho=>⟨ho,fun arr e he=>⟨arr,by rw[Below.heap_alloc w o b (hm.own i b ho).2.1];exact he,zzaa _⟩,fun _ h=>h⟩,
   fun b hb=>⟨.inl hb,Below.heap_alloc w o b (hm.sp b hb).2.1⟩,Sz.of_same (Below.heap_alloc w o)⟩
 refine⟨⟨w0.st _ _ _ _ hm.bs ⟨rfl,rfl,rfl,zd,fun b hb _=>Below.heap_alloc w _ b hb,bZ.ro,fun b hb=>?_,fun _ _ h=>.inl h⟩,by have:=hm.hN;simp;omega,hm.an,fun b o h=>by have:=hm.robd b o h;simp;omega,
  fun id cells b hb h1=>?_,fun id b hb=>?_,hm.inj,fun id b hb=>?_,hm.oinj,fun b hb=>?_,fun id b hb=>?_,hm.minj,hm.len,hm.cur0⟩,bZ⟩
 ·obtain hb|hb|(hb|rfl)|hb:=hb
  ·exact .inl (.inl hb)
  ·exact .inl (.inr (.inl hb))
  ·exact .inl (.inr (.inr (.inl hb)))
  ·exact .inr (zzaa _)
  exact .inl (.inr (.inr (.inr hb)))
 ·obtain⟨arr,e,h2,h3,h4⟩:=hm.box id cells b hb h1;exact⟨arr,e,by rw[Below.heap_alloc w _ b (aW h2)];exact h2,h3.mono bZ,h4⟩
 ·obtain⟨h1,h2,h3⟩:=hm.β id b hb;exact⟨h1,by simp;omega,h3⟩
 ·obtain⟨h1,h2,h3⟩:=hm.own id b hb;exact⟨h1,by simp;omega,h3⟩
 ·obtain hb|rfl:=hb
  ·obtain⟨h1,h2,h3⟩:=hm.sp b hb;exact⟨h1,by simp;omega,h3⟩
  refine⟨hm.hN,zd,fun o' h=>?_,fun id h=>?_,fun id h=>?_⟩
  ·have:=hm.robd _ _ h;omega
  ·have:=(hm.β id _ h).2.1;omega
  have:=(hm.own id _ h).2.1;omega
 obtain⟨h1,h2,h3,h4,h5,h6,h8,h7⟩:=hm.mm id b hb;refine⟨h1,by simp;omega,h3,h4,h5,?_,h8,h7.mono bZ.cR.Aq (Below.heap_alloc w o b h2)⟩;rintro(h|rfl)
 ·exact h6 h
 omega
def aq.Wc{B:Nat->QR}{L:Nat->Option Nat}(hm:aq N w0 an γ w B L){D:Nat}(hD:γ.sp D){o o0:Obj}(h0:w.heap[D]?=some o0)(hnc:∀c e f,o0≠.cells c e f)(axO:∀c e f,o≠.cells c e f)
  {γ':G}(hγ:γ'=γ\/γ'={γ with sp:=fun b=>γ.sp b/\b≠D})(FB:γ'=γ->qD (some o0) (some o)):
  aq N w0 an γ' (w.putObj D o) B L/\Ny w γ (w.putObj D o) γ'/\(∀wS γS,eC wS γS w γ->(γ'=γ\/¬γS.sp D)->eC wS γS (w.putObj D o) γ'):=by
 have ah:D<w.heap.size:=aW h0;have c9:∀b,b≠D->(w.putObj D o).heap[b]?=w.heap[b]?:=fun b hb=>World.putObj_heap_other hb;have Fc:(w.putObj D o).heap[D]?=some o:=World.putObj_heap_same ah
 have bP:∀b o',(w.putObj D o).cell? ⟨b,o',none⟩=w.cell? ⟨b,o',none⟩:=fun b o'=>by
  by_cases hb:b=D
  ·subst hb;simp only[World.cell?,Fc,h0];cases o<;>cases o0<;>first|rfl|exact absurd rfl (hnc _ _ _)|exact absurd rfl (axO _ _ _)
  exact cell_of_heap (c9 b hb)
 have hβ:γ'.β=γ.β:=by rcases hγ with rfl|rfl<;>rfl
 have cp:γ'.own=γ.own:=by rcases hγ with rfl|rfl<;>rfl
 have eu:γ'.cur=γ.cur:=by rcases hγ with rfl|rfl<;>rfl
 have gA:γ'.ro=γ.ro:=by rcases hγ with rfl|rfl<;>rfl
 have eN:γ'.mm=γ.mm:=by rcases hγ with rfl|rfl<;>rfl
 have hlp:γ'.lp=γ.lp:=by rcases hγ with rfl|rfl<;>rfl
 have dy:∀b,γ'.sp b->γ.sp b:=by obtain rfl|rfl:=hγ;exact fun _ h=>h;exact fun _ h=>h.1
 have al0:∀b,γ.sp b->b≠D->γ'.sp b:=fun b hb h=>by
  obtain rfl|rfl:=hγ
  ·exact hb
  exact⟨hb,h⟩
 have hsz:Sz w (w.putObj D o):=fun b' arr e f h=>⟨arr,by rw[c9 b' (by rintro rfl;rw[h0]at h;cases h;exact hnc _ _ _ rfl)];exact h,rfl⟩
 have ael:Ny w γ (w.putObj D o) γ':=by
  refine⟨zd,fun b o' _ hr=>⟨by rw[gA];exact hr,bP b o'⟩,fun _ _ h=>by rw[hβ];exact h,fun _=>by rw[eu];exact zzaa _,fun _ _ h=>by rw[eN];exact h,fun _ _ h=>by rw[hlp];exact h,fun id b _ ho=>⟨by rw[cp];exact ho,fun arr e he=>⟨arr,?_,zzaa _⟩,fun _ h=>by rw[gA]at h;exact h⟩,hsz⟩;rw[c9 b (by rintro rfl;exact(hm.sp b hD).2.2.2.2 id ho)];exact he
 refine⟨⟨w0.st _ _ _ _ hm.bs ⟨rfl,rfl,rfl,zd,fun b _ tH=>c9 b (by rintro rfl;exact tH (.inr (.inr (.inl hD)))),ael.ro,fun b hb=>.inl ?_,fun b o' h=>.inl (by rw[gA]at h;exact h)⟩,Nm hm.hN,
  fun b o' h=>hm.an b o' (by rw[gA]at h;exact h),fun b o' h=>by rw[gA]at h;simpa using hm.robd b o' h,fun id cells b hb h1=>?_,fun id b hb=>?_,fun id id' b h h'=>hm.inj id id' b (by rw[hβ]at h;exact h) (by rw[hβ]at h';exact h'),
  fun id b hb=>?_,fun id id' b h h'=>hm.oinj id id' b (by rw[cp]at h;exact h) (by rw[cp]at h';exact h'),fun b hb=>?_,fun id b hb=>?_,fun id id' b h h'=>hm.minj id id' b (by rw[eN]at h;exact h) (by rw[eN]at h';exact h'),fun id n h=>by rw[eu];exact hm.len id n h,fun id h=>by rw[eu];exact hm.cur0 id h⟩,ael,fun wS γS e hc=>?_⟩
 ·obtain⟨id,hb⟩|⟨id,hb⟩|hb|⟨F,hb⟩:=hb
  ·rw[hβ]at hb;exact .inl ⟨id,hb⟩
  ·rw[cp]at hb;exact .inr (.inl ⟨id,hb⟩)
  ·exact .inr (.inr (.inl (dy b hb)))
  rw[eN]at hb;exact .inr (.inr (.inr ⟨F,hb⟩))
 ·rw[hβ]at h1;obtain⟨arr,e,h2,h3,h4⟩:=hm.box id cells b hb h1;exact⟨arr,e,by rw[c9 b (by rintro rfl;exact(hm.sp b hD).2.2.2.1 id h1)];exact h2,h3.eD ael,h4⟩
 ·rw[hβ]at hb;obtain⟨h1,h2,h3,h4,h5⟩:=hm.β id b hb;exact⟨h1,Nm h2,by rw[gA];exact h3,by rw[cp];exact h4,h5⟩
 ·rw[cp]at hb;simpa using hm.own id b hb
 ·obtain⟨h1,h2,h3,h4,h5⟩:=hm.sp b (dy b hb);exact⟨h1,Nm h2,by rw[gA];exact h3,by rw[hβ];exact h4,by rw[cp];exact h5⟩
 ·rw[eN]at hb;obtain⟨h1,h2,h3,h4,h5,h6,h8,h7⟩:=hm.mm id b hb;exact⟨h1,Nm h2,by rw[gA];exact h3,by rw[hβ];exact h4,by rw[cp];exact h5,fun h=>h6 (dy b h),by rw[hβ];exact h8,h7.mono ael (c9 b (by rintro rfl;exact h6 hD))⟩
 refine⟨Nm e.size,fun b o' hb hr=>⟨by rw[gA];exact(e.ro b o' hb hr).1,(bP b o').trans (e.ro b o' hb hr).2⟩,fun id b h=>by rw[hβ];exact e.β id b h,fun id=>by rw[eu];exact e.cur id,fun b F h=>by rw[eN];exact e.mm b F h,fun i l h=>by rw[hlp];exact e.lp i l h,fun id b kj ho=>?_,fun b hb=>?_,e.ss.trans hsz⟩
 ·rw[eu]at kj;obtain⟨g1,g2,g3⟩:=e.own id b kj ho;refine⟨by rw[cp];exact g1,fun arr te he=>?_,fun o' h=>g3 o' (by rw[gA]at h;exact h)⟩;obtain⟨bU,k1,k2⟩:=g2 arr te he;exact⟨bU,by rw[c9 b (by rintro rfl;exact(hm.sp b hD).2.2.2.2 id g1)];exact k1,k2⟩
 obtain⟨g1,g2⟩:=e.sp b hb;by_cases hbD:b=D
 ·subst hbD;obtain rfl|hc:=hc
  ·refine⟨g1,g2.trans ?_⟩;rw[h0,Fc];exact FB rfl
  exact absurd hb hc
 exact⟨al0 b g1 hbD,by rw[c9 b hbD];exact g2⟩
def Jl{b:Frame}{a:Act}{k:List Item}{cs:List Frame}{w:World}{c:Code}:step P (lone (b.atR a (.code (.scope c)::k)) cs w)=.next (lone (b.atR a (.code c::.inScope c::k)) cs w):=
 step_lone_go (by simp[stepG,stepG.exec,Frame.atR])
def zk{b:Frame}{a:Act}{k:List Item}{cs:List Frame}{w:World}{c:Code}:step P (lone (b.atR a (.inScope c::k)) cs w)=.next (lone (b.atR a k) cs w):=
 step_lone_go (by simp[stepG,stepG.exec,Frame.atR])
def lC{c:Code}{Q:PH}{a:Act}{w:World}(h:c.wpIn (FW r) 0 P (Exit.noGoto Q) a w):(Code.scope c).wpIn (FW r) 0 P Q a w:=by
 intro b k cs gA hb hr;obtain⟨e,a₁,w₁,hq,dD⟩:=h b (.inScope c::k) cs gA hb hr;have h0:(lone (b.atR a (.code (.scope c)::k)) cs w).fenced P (FW r):=fenced_calm hb hr rfl;cases e with
 |normal=>exact⟨.normal,a₁,w₁,hq,.head h0 Jl (StepsIn.trans dD (.one (fenced_calm hb hr rfl) zk))⟩
 |exit id=>
  refine⟨.exit id,a₁,w₁,hq,fun k' hk=>.head h0 Jl (dD.1 k' (by simp[exitTo,hk])),fun yK hk=>?_⟩;obtain⟨k₁,h1,h2⟩:=dD.2 yK (by simp[exitTo,hk]);exact⟨k₁,h1,.head h0 Jl h2⟩
 |goto l=>exact hq.elim
 |ret=>exact⟨_,a₁,w₁,hq,.of_steps (.one h0 Jl) dD⟩
 |panic ch=>exact⟨_,a₁,w₁,hq,.of_steps (.one h0 Jl) dD⟩
 |outgrown=>exact⟨_,a₁,w₁,hq,.of_steps (.one h0 Jl) dD⟩
def FC{γ:G}{w:World}:∀(ps:P2)(args:P1)(vs:PP)(T:P1)(arr:PQ),args.length=ps.length->ak w γ args vs->ak w γ T arr.toList->
  ak w γ (Qbp T ps args) ((ps.toArray.zip vs.toArray).foldl (fun(tmps:PQ)(p:Nat×Value)=>tmps.setIfInBounds p.1 p.2) arr).toList:=by
 intro ps args vs T arr hl hr ht
 have e:(ps.toArray.zip vs.toArray).foldl (fun(tmps:PQ)(p:Nat×Value)=>tmps.setIfInBounds p.1 p.2) arr=(ps.zip vs).foldl (fun(tmps:PQ)(p:Nat×Value)=>tmps.setIfInBounds p.1 p.2) arr:=by
  rw[<- Array.foldl_toList];simp
 rw[e];clear e;induction ps generalizing args vs T arr with
 |nil=>
  cases args with
  |nil=>simpa[Qbp]using ht
  |cons x xs=>simp at hl
 |cons p ps ih=>
  cases args with
  |nil=>simp at hl
  |cons x xs=>
   cases vs with
   |nil=>have:=hr.1;simp at this
   |cons v vs=>
    have h0:au w γ x v:=hr.2 0 x v rfl rfl;have hs:ak w γ xs vs:=⟨by have:=hr.1;simpa using this,fun i x y h1 h2=>hr.2 (i+1) x y (Nm h1) (Nm h2)⟩;simp only[zzdz,zzcu,Qbp];refine ih xs vs _ _ (Nm hl) hs ?_;rw[zzdj];exact ht.set p h0
def cB.put{m:AM}{i l:Nat}{rc:Loop}{x:LS}(h:cB γ w m)(hi:γ.lp i=some l)(dy:γ.sp l)(hl:l<w.heap.size)(hx:J2 x rc):cB γ (w.putObj l (.loop rc)) (m.at_ i x):=by
 refine⟨fun i'=>?_,h.2.1,h.2.2.1,fun i' l' fA=>?_⟩
 rotate_left
 ·obtain⟨q1,r,q2⟩:=h.2.2.2 i' l' fA;by_cases D9:l'=l
  ·subst D9;exact⟨q1,rc,World.putObj_heap_same hl⟩
  exact⟨q1,r,(World.putObj_heap_other D9).trans q2⟩
 by_cases dm:i'=i
 ·subst dm;exact .inr ⟨l,hi,dy,rc,World.putObj_heap_same hl,by simpa[AM.at_,uo]using hx⟩
 rcases h.1 i' with h'|⟨l',h0,h1,r,h2,h3⟩
 ·exact .inl (by simp[AM.at_,uo,dm,h'])
 have fA:l'≠l:=by rintro rfl;exact dm (h.2.2.1 _ _ _ h0 hi)
 exact .inr ⟨l',h0,h1,r,(World.putObj_heap_other fA).trans h2,by simpa[AM.at_,uo,dm]using h3⟩
def G.dY(γ:G)(i l:Nat):G:={γ with lp:=fun j=>if j=i then some l else γ.lp j}
def FD(w:World){γ:G}{i l:Nat}(h:γ.lp i=none):eC w γ w (γ.dY i l):=
 ⟨zzaa _,fun _ _ _ h=>⟨h,rfl⟩,fun _ _ h=>h,fun _=>zzaa _,fun _ _ h=>h,fun j l' hj=>by
  have:j≠i:=by rintro rfl;rw[h]at hj;cases hj
  simp[G.dY,this,hj],fun _ _ _ h=>⟨h,fun arr _ h=>⟨arr,h,zzaa _⟩,fun _ h=>h⟩,fun _ h=>⟨h,.inl rfl⟩,Sz.refl w⟩
def aq.dY{B:Nat->QR}{L:Nat->Option Nat}(hm:aq N w0 an γ w B L){i l:Nat}(h:γ.lp i=none):aq N w0 an (γ.dY i l) w B L:=by
 have bZ:=(FD w h (l:=l)).Aq;refine⟨w0.st _ _ _ _ hm.bs ⟨rfl,rfl,rfl,zzaa _,fun _ _ _=>rfl,fun _ _ _ h=>⟨h,rfl⟩,fun _ hb=>.inl hb,fun _ _ h=>.inl h⟩,hm.hN,hm.an,hm.robd,fun id cells b hb h1=>?_,hm.β,hm.inj,hm.own,hm.oinj,hm.sp,fun id b hb=>?_,hm.minj,hm.len,hm.cur0⟩
 ·obtain⟨arr,e,h2,h3,h4⟩:=hm.box id cells b hb h1;exact⟨arr,e,h2,h3.eD bZ,h4⟩
 obtain⟨h1,h2,h3,h4,h5,h6,h8,h7⟩:=hm.mm id b hb;exact⟨h1,h2,h3,h4,h5,h6,h8,h7.mono bZ rfl⟩
def oV{B:Nat->QR}{L:Nat->Option Nat}(hm:aq N w0 an γ w B L){l:Nat}(hl:γ.sp l){rc:Loop}(h0:w.heap[l]?=some (.loop rc))(st:LoopState)(pd:Option Code):
  aq N w0 an γ (w.putObj l (.loop {rc with state:=st,pending:=pd})) B L/\eC w γ (w.putObj l (.loop {rc with state:=st,pending:=pd})) γ:=by
 obtain⟨h1,_,h3⟩:=hm.Wc hl (o:=.loop {rc with state:=st,pending:=pd}) h0 (fun _ _ _ h=>by cases h) (fun _ _ _ h=>by cases h) (.inl rfl) (fun _=>.inr ⟨rc,st,pd,rfl,rfl⟩);exact⟨h1,h3 w γ (Ev.refl w γ).cR (.inl rfl)⟩
def FE{g:Operand}{ps:Array Tmp}{oU body:Code}
  (ihA:∀(l:Nat)(S:G×World)(γ:G)(w:World)(s:AS)(a:Act)(Q:So),vc P gl orc Y (Yd P oU) s Q->dQ N w0 (some l) an S P gl Y γ w s a->oU.wpIn (FW (some l)) 0 P (lift N w0 (some l) an S P gl Y Q) a w)
  (ihB:∀(l:Nat)(S:G×World)(γ:G)(w:World)(s:AS)(a:Act)(Q:So),vc P gl orc Y (Yd P body) s Q->dQ N w0 (some l) an S P gl Y γ w s a->body.wpIn (FW (some l)) 0 P (lift N w0 (some l) an S P gl Y Q) a w)
  {s:AS}{a:Act}{Q:So}(h:vc P gl orc Y (Yd P (.rangeFunc g ps oU body)) s Q)(hs:dQ N w0 r an S P gl Y γ w s a):
  (Code.rangeFunc g ps oU body).wpIn (FW r) 0 P (lift N w0 r an S P gl Y Q) a w:=by
 simp only[Yd,vc]at h;have hg:=hs.ev g;split at h
 case h_2=>exact h.elim
 rename_i f first cap e1
 rw[e1]at hg;obtain⟨fa,ca,hv,r1,r2⟩:=hg.mH;refine wpIn_rangeFunc fun fn _=>?_
 obtain⟨l,mark,w1,γ1',rc,he,nZ,hsp1',hm1',hev1',hd1',UL⟩:∃(l:Nat)(mark:List Deferred)(w1:World)(γ1:G)(df:Nat),
   (Instr.enterLoop fn a.tmps ps oU body (FW r).round).run P w=.ok (l,mark) w1/\w1.heap[l]?=some (.loop {state:=.ready,pending:=none,fn,tmps:=a.tmps,params:=ps,assign:=oU,body,defers:=df})/\γ1.sp l/\
   aq N w0 an γ1 w1 s.m.B s.m.L/\Ev w γ w1 γ1/\Dfr S.2.heap.size γ1 w1 (mark++a.defers)/\w.heap.size<=l:=by
  cases r with
  |none=>
   obtain⟨iF,fL⟩:=hs.m.Wb (.deferred (some []));obtain⟨od,asc⟩:=iF.Wb (.loop {state:=.ready,pending:=none,fn,tmps:=a.tmps,params:=ps,assign:=oU,body,defers:=w.heap.size});refine⟨w.heap.size+1,_,_,_,w.heap.size,run_enterLoop_outer fn a.tmps ps oU body,?_,Or.inr zd,od,fL.trans asc,?_,zE⟩
   ·have:=World.alloc_heap_new (w.alloc (.deferred (some []))) (.loop {state:=.ready,pending:=none,fn,tmps:=a.tmps,params:=ps,assign:=oU,body,defers:=w.heap.size});simpa using this
   have hd:=hs.d.aV (fL.trans asc).cR
   have vM:∀x∈a.defers,∀D,x.target=.collected D->D<w.heap.size:=fun x hx D hD=>by
    obtain⟨D',q1,_,_,q4⟩:=hs.d.2.1 x hx;rw[hD]at q1;cases q1;exact aW q4
   refine⟨hd.1,fun x hx=>?_,?_⟩
   ·simp only[zzaf,zzah,zzao]at hx;obtain rfl|hx:=hx
    ·refine⟨w.heap.size,rfl,hs.d.1,.inl (.inr rfl),?_⟩;rw[Below.heap_alloc _ _ _ zd];exact World.alloc_heap_new w _
    exact hd.2.1 x hx
   simp only[zzaf,zzah,zzc];refine⟨fun x hx D hD j8=>?_,hd.2.2⟩;simp at hD;have:=vM x hx D j8;omega
  |some l0=>
   obtain⟨iX,asd,ase⟩:=hs.rd l0 rfl;obtain⟨iF,fL⟩:=hs.m.Wb (.loop {state:=.ready,pending:=none,fn,tmps:=a.tmps,params:=ps,assign:=oU,body,defers:=asd.defers});exact⟨w.heap.size,[],_,_,asd.defers,run_enterLoop_inner ase fn a.tmps ps oU body,World.alloc_heap_new w _,Or.inr rfl,iF,fL,hs.d.aV fL.cR,zzaa _⟩
 have eR:l<w1.heap.size:=aW nZ;generalize eO:s.m.ln=i at h;have Wf:=hs.ls.mono hev1';have aiX:γ1'.lp i=none:=Wf.2.1 i zE
 have QD:∀j,γ1'.lp j≠some l:=fun j hj=>by
  rw[hev1'.lp]at hj;have:=(hs.m.sp l (hs.ls.2.2.2 j l hj).1).2.1;omega
 let γ1:=γ1'.dY i l
 have asf:eC w1 γ1' w1 γ1:=FD w1 aiX;have fL:eC w γ w1 γ1:=hev1'.cR.trans asf;have iF:aq N w0 an γ1 w1 s.m.B s.m.L:=hm1'.dY aiX;have Wg:γ1.sp l:=hsp1';have Wr:γ1.lp i=some l:=by simp[γ1,G.dY]
 have hd1:=hd1'.aV asf
 have hE:=h (by
  rcases hs.ls.1 i with h|⟨l',h0,_⟩
  ·exact h
  rw[hs.ls.2.1 i zE]at h0;cases h0)
 have iT:ak w1 γ1 (first++[.yld i]++cap) (fa.toList++[.func (.yield l) #[] #[]]++ca.toList):=((r1.aV fL).append (ak.cons (.yld Wr) ak.nil)).append (r2.aV fL)
 have axP:cB γ1 w1 s.m.bM:=by
  refine⟨fun j=>?_,fun j hj=>?_,fun j j' l' h1 h2=>?_,fun j l' h1=>?_⟩
  ·by_cases hj:j=i
   ·subst hj;exact .inr ⟨l,Wr,Wg,_,nZ,by simp[AM.bM,uo,eO,J2]⟩
   rcases Wf.1 j with h|⟨l',h0,h1,r',h2,h3⟩
   ·exact .inl (by simp[AM.bM,uo,eO,hj,h])
   exact .inr ⟨l',by simp[γ1,G.dY,hj,h0],h1,r',h2,by simpa[AM.bM,uo,eO,hj]using h3⟩
  ·have NB:i+1<=j:=by simpa[AM.bM,eO]using hj
   have:j≠i:=zE
   simp[γ1,G.dY,this,Wf.2.1 j zE]
  ·by_cases hj:j=i<;>by_cases NB:j'=i
   ·rw[hj,NB]
   ·simp[γ1,G.dY,hj]at h1;simp[γ1,G.dY,NB]at h2;subst h1;exact absurd h2 (QD j')
   ·simp[γ1,G.dY,hj]at h1;simp[γ1,G.dY,NB]at h2;subst h2;exact absurd h1 (QD j)
   simp[γ1,G.dY,hj]at h1;simp[γ1,G.dY,NB]at h2;exact Wf.2.2.1 j j' l' h1 h2
  by_cases hj:j=i
  ·simp[γ1,G.dY,hj]at h1;subst h1;exact⟨Wg,_,nZ⟩
  simp[γ1,G.dY,hj]at h1;exact Wf.2.2.2 j l' h1
 refine⟨l,mark,w1,{target:=.fn (.func f) ca,args:=fa++#[.func (.yield l) #[] #[]]},w1,f,(fa.toList++[Value.func (.yield l) #[] #[]]++ca.toList).toArray,w1,he,?_,fun _ _=>trivial,?_,fun h=>by simp[FW,Fence.wide]at h,?_⟩
 ·have hc:a.eval (.const (.func (.yield l) #[] #[]))=.func (.yield l) #[] #[]:=rfl;simp[resolve,hv,hc,Deferred.ofValue,rangeCall]
 ·simp[invoke,Qai hE.1]
 have WA:=hE.2 N w0 an γ1 w1 _ iF axP (fun g=>(hs.g g).aV fL.cQ) ?_ iT
 ·refine CallsIn.mono (F:=FW r) (n:=0) (show CallsIn (FW r) 0 P f _ w1 _ from WA) ?_;rintro en w3 ⟨v,γ3,r',m',rfl,g1,g2,g3,g4,g5⟩;have axQ:=(g1.sp l Wg).1
  have fin:∀(QH:Loop)(pd:Option Code),w3.heap[l]?=some (.loop QH)->(∀ex,ex=Exit.normal/\pd=none\/pd=qN ex/\pd.isSome=true->QH.state≠.busy->QH.pending=pd->Q ex ⟨s.T,m'.at_ i .gone⟩->rangePost (FW r) 0 P l (lift N w0 r an S P gl Y Q) {a with defers:=mark++a.defers} (.returned v) w3):=by
   intro QH pd ash ex hex hnb hpd hQ;obtain⟨hm4,asi⟩:=oV g2 axQ ash .exhausted QH.pending;refine⟨QH.pending,_,run_endLoop ash hnb,?_⟩;have bZ:eC w γ (w3.putObj l (.loop {QH with state:=.exhausted})) γ3:=(fL.trans g1).trans asi
   have zh:dQ N w0 r an S P gl Y γ3 (w3.putObj l (.loop {QH with state:=.exhausted})) ⟨s.T,m'.at_ i .gone⟩ {a with defers:=mark++a.defers}:=by
    have aem:=g1.lp i l Wr;refine⟨hm4,?_,hs.rd.aV bZ,hs.t.aV bZ,hd1.aV (g1.trans asi),fun g=>(hs.g g).aV bZ.cQ,hs.y.mono bZ,hs.e.trans bZ⟩;refine⟨fun j=>?_,g3.2.1,g3.2.2.1,fun j l' fA=>?_⟩
    rotate_left
    ·obtain⟨q1,r,q2⟩:=g3.2.2.2 j l' fA;by_cases D9:l'=l
     ·subst D9;exact⟨q1,_,World.putObj_heap_same (aW q2)⟩
     exact⟨q1,r,(World.putObj_heap_other D9).trans q2⟩
    by_cases hj:j=i
    ·exact .inl (by simp[AM.at_,uo,hj])
    rcases g3.1 j with h|⟨l',h0,h1,r',h2,h3⟩
    ·exact .inl (by simp[AM.at_,uo,hj,h])
    have fA:l'≠l:=by rintro rfl;exact hj (g3.2.2.1 _ _ _ h0 aem)
    exact .inr ⟨l',h0,h1,r',(World.putObj_heap_other fA).trans h2,by simpa[AM.at_,uo,hj]using h3⟩
   generalize w3.putObj l (.loop {QH with state:=.exhausted})=w4 at zh;rw[hpd];obtain⟨rfl,rfl⟩|⟨hex,WB⟩:=hex
   ·exact⟨γ3,_,zh,hQ⟩
   cases ex with
   |ret=>simp only[qN]at hex;subst hex;exact wpIn_ret ⟨γ3,_,zh,hQ⟩
   |exit id=>simp only[qN]at hex;subst hex;exact wpIn_exit ⟨γ3,_,zh,hQ⟩
   |_=>simp only[qN]at hex;subst hex;cases WB
  have hl3:=g3.1 i;have aem:=g1.lp i l Wr;cases cI:m'.st i with
  |gone=>rw[cI]at g5;exact g5.elim
  |busy=>rw[cI]at g5;exact g5.elim
  |ready=>
   rw[cI]at g5 hl3;obtain hl3|⟨l',q0,_,QH,q1,q2⟩:=hl3
   ·cases hl3
   obtain rfl:l'=l:=Option.some.inj (q0.symm.trans aem);exact fin QH none q1 .normal (.inl ⟨rfl,rfl⟩) (by rw[q2.1];simp) q2.2 g5
  |done ex=>
   rw[cI]at g5 hl3;obtain hl3|⟨l',q0,_,QH,q1,q2⟩:=hl3
   ·cases hl3
   obtain rfl:l'=l:=Option.some.inj (q0.symm.trans aem);exact fin QH _ q1 ex (.inr ⟨rfl,q2.2.2⟩) (by rw[q2.1];simp) q2.2.1 g5
 intro γ' w' WC i' args m K vs eH asj yK hY l' aen;unfold Yin at hY;split at hY
 case isFalse=>exact hs.y γ' w' (fL.trans WC) i' args m K vs eH asj yK hY l' aen
 rename_i dm;subst dm;obtain rfl:l'=l:=Option.some.inj (aen.symm.trans (WC.lp _ _ Wr));obtain⟨eX,aH,hY⟩:=hY
 have NT:∃st pd,w'.heap[l']?=some (.loop {state:=st,pending:=pd,fn,tmps:=a.tmps,params:=ps,assign:=oU,body,defers:=rc}):=by
  rcases(WC.sp l' Wg).2 with h|⟨r0,st,pd,h,h'⟩
  ·rw[nZ]at h;exact⟨_,_,h⟩
  rw[nZ]at h;cases h;exact⟨st,pd,h'⟩
 obtain⟨st,pd,NT⟩:=NT;have al0:=(WC.sp l' Wg).1;have al1:=fL.trans WC;have hps:vs.toArray.size=ps.size:=by have:=yK.1;simp at this aH |-;omega
 refine⟨fn,_,oU,body,run_yield NT hps,roundIn_of_wpIn (F:=FW none) trivial ?_⟩
 have asl:dQ N w0 (some l') an (γ',w') P gl Y γ' w' ⟨Qbp s.T ps.toList args,m⟩ {tmps:=(ps.zip vs.toArray).foldl (fun(tmps:PQ)(p:Nat×Value)=>tmps.setIfInBounds p.1 p.2) a.tmps,defers:=[]}:=by
  refine⟨eH,asj,fun l hl=>?_,?_,⟨zzaa _,fun x hx=>(by cases hx),List.Pairwise.nil⟩,fun g=>(hs.g g).aV al1.cQ,hs.y.mono al1,(Ev.refl w' γ').cR⟩
  ·cases hl;exact⟨al0,_,NT⟩
  have:=FC ps.toList args vs s.T a.tmps aH yK (hs.t.aV al1);simpa using this
 refine wpIn_mono (ihA l' (γ',w') γ' w' _ _ _ hY asl) ?_;rintro ex a2 w2 ⟨γ2,s2,QI,hq2⟩;cases ex with
 |normal=>
  obtain⟨axR,hq2⟩:=hq2;have uq:=QI.ls.1 i';rw[axR]at uq;have asm:=QI.e.lp _ _ aen;obtain uq|⟨l2,q0,hsp2,rc2,q1,q2⟩:=uq
  ·cases uq
  obtain rfl:l'=l2:=Option.some.inj (asm.symm.trans q0);obtain⟨hm3,QJ⟩:=oV QI.m hsp2 q1 .busy rc2.pending;refine⟨_,run_beginRound q1 q2.1,?_⟩
  have asn:dQ N w0 (some l') an (γ',w') P gl Y γ2 (w2.putObj l' (.loop {rc2 with state:=.busy})) ⟨s2.T,s2.m.at_ i' .busy⟩ a2:=
   ⟨hm3,QI.ls.put asm hsp2 (aW q1) rfl,QI.rd.aV QJ,QI.t.aV QJ,QI.d.aV QJ,fun g=>(QI.g g).aV QJ.cQ,QI.y.mono QJ,QI.e.trans QJ⟩
  refine wpIn_mono (ihB l' (γ',w') γ2 _ _ _ _ hq2 asn) ?_;rintro ex a4 w4 ⟨γ4,s4,hs4,hq4⟩;obtain⟨QK,rc4,q4⟩:=hs4.rd _ rfl;have al2:=hs4.e.lp _ _ aen;cases ex with
  |normal=>
   obtain⟨hm5,WD⟩:=oV hs4.m QK q4 .ready none;exact⟨_,_,run_endRound none q4,true,γ4,s4.m.at_ i' .ready,rfl,hs4.e.trans WD,hm5,hs4.ls.put al2 QK (aW q4) ⟨rfl,rfl⟩,hq4⟩
  |ret=>
   obtain⟨hm5,WD⟩:=oV hs4.m QK q4 .done (some .ret);exact⟨_,_,run_endRound (some .ret) q4,false,γ4,s4.m.at_ i' (.done .ret),rfl,hs4.e.trans WD,hm5,hs4.ls.put al2 QK (aW q4) ⟨rfl,rfl,rfl⟩,hq4⟩
  |exit id=>
   obtain⟨hm5,WD⟩:=oV hs4.m QK q4 .done (some (.exit id));exact⟨_,_,run_endRound (some (.exit id)) q4,false,γ4,s4.m.at_ i' (.done (.exit id)),rfl,hs4.e.trans WD,hm5,hs4.ls.put al2 QK (aW q4) ⟨rfl,rfl,rfl⟩,hq4⟩
  |_=>exact hq4.elim
 |_=>exact hq2.elim
def Ui:∀(c:Code)(r:Option Nat)(S:G×World)(γ:G)(w:World)(s:AS)(a:Act)(Q:So),vc P gl orc Y (Yd P c) s Q->dQ N w0 r an S P gl Y γ w s a->c.wpIn (FW r) 0 P (lift N w0 r an S P gl Y Q) a w
 |.skip,r,S,γ,w,s,a,Q,h,hs=>wpIn_skip ⟨γ,s,hs,h⟩
 |.label _,r,S,γ,w,s,a,Q,h,hs=>wpIn_label ⟨γ,s,hs,h⟩
 |.region id ops false,r,S,γ,w,s,a,Q,h,hs=>by
  refine wpIn_region ?_;simp only[Yd]at h;cases hX:alZ ops with
  |true=>
   rw[hX,cond_true]at h;obtain h|⟨k,h⟩:=h
   ·have:=jb (P:=P) (orc:=orc) (ops:=ops) (Q:=lift N w0 r an S P gl Y Q) (K:=Q .normal) (fun γ w s a hK hs=>⟨γ,s,hs,hK⟩) ops.size 0 γ w s a zd (Nm h) hs;rwa [zzed]
   exact QA (fun γ w s a ch hK hs=>⟨γ,s,hs,hK⟩) h hs
  |false=>
  rw[hX,cond_false]at h;have:=jb (P:=P) (orc:=orc) (ops:=ops) (Q:=lift N w0 r an S P gl Y Q) (K:=Q .normal) (fun γ w s a hK hs=>⟨γ,s,hs,hK⟩) ops.size 0 γ w s a zd (by simpa[vc]using h) hs;rwa [zzed]
 |.region id ops true,r,S,γ,w,s,a,Q,h,hs=>by
  simp only[Yd]at h;split at h
  case isFalse=>exact h.elim
  rename_i hc;simp only[zzak]at hc;split at h
  ·rename_i j hj;obtain h|⟨ms,h⟩|⟨hb,ms,R,hR,h⟩:=h
   ·exact wpIn_region_any hc.1 (vV (Q:=lift N w0 r an S P gl Y Q) (K:=Q .normal) (fun γ w s a hK hs=>⟨γ,s,hs,hK⟩) hc.2 h hs)
   ·exact wpIn_region_any hc.1 (Fu (Q:=lift N w0 r an S P gl Y Q) (K:=Q .normal) (fun γ w s a hK hs=>⟨γ,s,hs,hK⟩) hc.2 hj (oR _ _ _ _ (qQ hc.2) (NN _ _ _ _ h)) hs)
   exact wpIn_region_any hc.1 (Fy (Q:=lift N w0 r an S P gl Y Q) (K:=Q .normal) (fun γ w s a hK hs=>⟨γ,s,hs,hK⟩) hc.2 hj (alY hc.2 hb) hR (fun x hx=>oS _ _ _ _ (qQ hc.2) (h x hx)) hs)
  split at h
  ·rename_i js jp z t hz;obtain⟨hY,hT,ms,h⟩:=h;exact wpIn_region_any hc.1 (FA (Q:=lift N w0 r an S P gl Y Q) (K:=Q .normal) (fun γ w s a hK hs=>⟨γ,s,hs,hK⟩) hc.2 hz hY h hT hs)
  exact wpIn_region_any hc.1 (vV (Q:=lift N w0 r an S P gl Y Q) (K:=Q .normal) (fun γ w s a hK hs=>⟨γ,s,hs,hK⟩) hc.2 h hs)
 |.seq x y,r,S,γ,w,s,a,Q,h,hs=>by
  refine wpIn_seq (wpIn_mono (Ui x r S γ w s a _ h hs) ?_);rintro ex a' w' ⟨γ',s',dR,h'⟩;cases ex with
  |normal=>exact Ui y r S γ' w' s' a' Q h' dR
  |_=>exact⟨γ',s',dR,h'⟩
 |.cond c x y,r,S,γ,w,s,a,Q,h,hs=>by
  simp only[Yd,vc]at h;have hr:=hs.ev c;split at h
  case h_2=>exact h.elim
  rename_i t ht;rw[ht]at hr;exact wpIn_cond_split hr.bA (fun e=>Ui x r S γ w s a Q (h.1 e) hs) fun e=>Ui y r S γ w s a Q (h.2 e) hs
 |.block id c,r,S,γ,w,s,a,Q,h,hs=>by
  refine wpIn_block (wpIn_mono (Ui c r S γ w s a _ h hs) ?_);rintro ex a' w' ⟨γ',s',dR,h'⟩;cases ex with
  |exit id'=>
   simp only[Exit.inBlock,qR]at h' |-
   split
   ·rename_i aL;rw[if_pos aL]at h';exact⟨γ',s',dR,h'⟩
   rename_i aL;rw[if_neg aL]at h';exact⟨γ',s',dR,h'⟩
  |_=>exact⟨γ',s',dR,h'⟩
 |.loop c,r,S,γ,w,s,a,Q,h,hs=>by
  obtain⟨I,μ,h0,yK⟩:=h;intro b k cs gA hb hr
  have key:∀j γ w s a,μ s=j->I s->dQ N w0 r an S P gl Y γ w s a->∃e a' w',lift N w0 r an S P gl Y Q e a' w'/\ArrivesIn (Machine.fenced P (FW r)) P (lone (b.atR a (.code c::.inLoop c::k)) cs w) b k cs e a' w':=by
   intro j;induction j using Nat.strongRecOn with
   |_ j ih=>
    intro γ w s a hn hI hs;obtain⟨e,a₁,w₁,⟨γ₁,s₁,hs₁,hq⟩,dD⟩:=Ui c r S γ w s a _ (yK s hI) hs b (.inLoop c::k) cs gA hb hr;cases e with
    |normal=>
     obtain⟨hI₁,ah⟩:=hq;obtain⟨e₂,a₂,w₂,hq₂,aso⟩:=ih (μ s₁) (hn ▸ ah) γ₁ w₁ s₁ a₁ rfl hI₁ hs₁;exact⟨e₂,a₂,w₂,hq₂,.of_steps (StepsIn.trans dD (.one (fenced_calm hb hr rfl) stepR_inLoop)) aso⟩
    |exit id=>exact⟨_,a₁,w₁,⟨γ₁,s₁,hs₁,hq⟩,.pass (x:=.inLoop c) rfl (fun _ _=>.inl zd) dD⟩
    |goto l=>exact⟨_,a₁,w₁,⟨γ₁,s₁,hs₁,hq⟩,.pass (x:=.inLoop c) rfl (fun _ _=>.inl zd) dD⟩
    |ret=>exact⟨_,a₁,w₁,⟨γ₁,s₁,hs₁,hq⟩,.pass (x:=.inLoop c) rfl (fun _ _=>.inl zd) dD⟩
    |panic ch=>exact⟨_,a₁,w₁,⟨γ₁,s₁,hs₁,hq⟩,.pass (x:=.inLoop c) rfl (fun _ _=>.inl zd) dD⟩
    |outgrown=>exact⟨_,a₁,w₁,⟨γ₁,s₁,hs₁,hq⟩,.pass (x:=.inLoop c) rfl (fun _ _=>.inl zd) dD⟩
  obtain⟨e,a',w',hq,dD⟩:=key _ γ w s a rfl h0 hs;exact⟨e,a',w',hq,.of_steps (.one (fenced_calm hb hr rfl) stepR_loop) dD⟩
 |.exit id,r,S,γ,w,s,a,Q,h,hs=>wpIn_exit ⟨γ,s,hs,h⟩
 |.ret,r,S,γ,w,s,a,Q,h,hs=>wpIn_ret ⟨γ,s,hs,h⟩
 |.scope c,r,S,γ,w,s,a,Q,h,hs=>by
  refine lC (wpIn_mono (Ui c r S γ w s a _ h hs) ?_);rintro ex a' w' ⟨γ',s',dR,h'⟩;cases ex with
  |goto l=>exact h'.elim
  |_=>exact⟨γ',s',dR,h'⟩
 |.rangeFunc g ps oU body,r,S,γ,w,s,a,Q,h,hs=>FE (fun l S γ w s a Q h hs=>Ui oU (some l) S γ w s a Q h hs) (fun l S γ w s a Q h hs=>Ui body (some l) S γ w s a Q h hs) h hs
 |.goto l,r,S,γ,w,s,a,Q,h,hs=>h.elim
 |.refuse why,r,S,γ,w,s,a,Q,h,hs=>h.elim
end
section
variable {N:Nat} {w0:fE} {an:Nat->Nat->Prop} {γ:G} {w:World} {B:Nat->QR} {L:Nat->Option Nat} {P:Program} {gl:Nat->AV} {orc:X1} {e:bN->AV} {m:AM}
def WE(P:Program)(t:TypeId)(x:bN):aC:=
 (match P.info? t,P.underlying t with|some i,some _=>if Jq P t then .load true i.size x else .load false 1 x|_,_=>.bad)
def WG(hm:aq N w0 an γ w B L)(hB:∀id cells,m.boxes[id]?=some cells->B id=some cells){t:TypeId}{x:bN}{v0:Value}(h1:au w γ (e x) v0)
  (hc:(rop P gl orc e m none (WE P t x)).1):∃b o v,v0=.pointer (some ⟨b,o,none⟩)/\(loadVar t ⟨b,o,none⟩).run P w=.ok v w/\au w γ (rop P gl orc e m none (WE P t x)).2 v:=by
 unfold WE at hc |-
 split at hc
 case h_2=>exact hc.elim
 rename_i i d hi hd
 have main:∀(agg:Bool)(n:Nat),Jq P t=agg->(agg=true->n=i.size)->(rop P gl orc e m none (.load agg n x)).1->
   ∃b o v,v0=.pointer (some ⟨b,o,none⟩)/\(loadVar t ⟨b,o,none⟩).run P w=.ok v w/\au w γ (rop P gl orc e m none (.load agg n x)).2 v:=by
  intro agg n bK hn hc
  have conv:∀b o v,(Instr.loadAt t (.pointer (some ⟨b,o,none⟩))).run P w=.ok v w->(loadVar t ⟨b,o,none⟩).run P w=.ok v w:=fun b o v h=>by
   simpa[Instr.loadAt,Instr.sureAddr]using h
  simp only[rop]at hc |-
  split at hc
  ·rename_i id o' he;try simp only[he]
   rw[he]at h1;obtain⟨b,hb,hv⟩:=h1.dO;cases gT:m.boxes[id]? with
   |none=>
    have e0:m.boxes.getD id []=[]:=by simp[List.getD,gT]
    rw[e0]at hc |-
    obtain⟨v,h2,h3⟩:=Qdj (P:=P) (w:=w) (γ:=γ) (b:=b) (o:=o') (cv:=fun _=>undef) hi hd bK hn (fun j c hj=>by simp at hj) (fun j c hj=>by simp at hj) hc;exact⟨b,o',v,hv,conv _ _ _ h2,h3⟩
   |some cells=>
    have e0:m.boxes.getD id []=cells:=by simp[List.getD,gT]
    rw[e0]at hc |-
    obtain⟨arr,te,g2,g3,g4⟩:=hm.box id cells b (hB id cells gT) hb
    have cA:∀(j:Nat)(c:AV),(cells.drop o')[j]?=some c->arr[o'+j]?=some (arr.getD (o'+j) undef)/\au w γ c (arr.getD (o'+j) undef):=fun j c hj=>by
     rw[zzbr]at hj
     have ah:o'+j<arr.size:=by
      have:=(zza.1 hj).1;have h0:=g3.1;simp at h0;omega
     have hu:arr[o'+j]?=some (arr.getD (o'+j) undef):=by simp[ah]
     exact⟨hu,g3.2 _ _ _ hj (Nm hu)⟩
    obtain⟨v,h2,h3⟩:=Qdj (P:=P) (w:=w) (γ:=γ) (b:=b) (o:=o') (cv:=fun j=>arr.getD (o'+j) undef) hi hd bK hn (fun j c hj=>by rw[aQ g2];exact(cA j c hj).1) (fun j c hj=>(cA j c hj).2) hc;exact⟨b,o',v,hv,conv _ _ _ h2,h3⟩
  ·rename_i row o' he;try simp only[he]
   rw[he]at h1;obtain⟨b,off,cv,hv,hb,bP,oA⟩:=h1.gE;have cA:∀(j:Nat)(c:AV),(row.drop o')[j]?=some c->row[o'+j]?=some c:=fun j c hj=>by rw[zzbr]at hj;exact hj
   obtain⟨v,h2,h3⟩:=Qdj (P:=P) (w:=w) (γ:=γ) (b:=b) (o:=off+o') (cv:=fun j=>cv (o'+j)) hi hd bK hn
    (fun j c hj=>by rw[zzas];exact(bP _ _ (cA j c hj)).1) (fun j c hj=>(oA _ _ (cA j c hj)).gF) hc
   exact⟨b,off+o',v,hv,conv _ _ _ h2,h3⟩
  exact hc.elim
 cases bK:Jq P t with
 |true=>simp only[bK,if_true]at hc |-;exact main true _ bK (fun _=>rfl) hc
 |false=>simp only[bK]at hc |-;exact main false 1 bK (fun h=>by cases h) hc
end
def gh(P:Program)(rs:List ResultVar):List aC:=rs.map fun
 |.tmp t=>.mv (.tmp t)
 |.cell a t=>WE P t (.tmp a)
def Kc(P:Program)(gl:Nat->AV)(orc:X1)(s:AS):List aC->Prop×P1
 |[]=>(True,[])
 |o::r=>((rop P gl orc (ev gl s.T) s.m none o).1/\(Kc P gl orc s r).1,(rop P gl orc (ev gl s.T) s.m none o).2::(Kc P gl orc s r).2)
def oneOf:P1->AV
 |[a]=>a
 |l=>.aS l
section
variable {N:Nat} {w0:fE} {r:Option Nat} {an:Nat->Nat->Prop} {S:G×World} {Y:YT} {γ:G} {w:World} {P:Program} {gl:Nat->AV} {orc:X1} {s:AS} {a:Act}
def NU(hs:dQ N w0 r an S P gl Y γ w s a):∀(rs:List ResultVar),(Kc P gl orc s (gh P rs)).1->
  ∃vs:PP,(rs.mapM fun(r:ResultVar)=>(match r with|.tmp t=>pure (a.tmps.getD t undef)|.cell x t=>do loadVar t (<- asAddr (a.tmps.getD x undef)):Sem Value)).run P w=.ok vs w/\
   ak w γ (Kc P gl orc s (gh P rs)).2 vs
 |[],_=>⟨[],zd,ak.nil⟩
 |r::rs,hc=>by
  obtain⟨h1,h2⟩:=hc;obtain⟨vs,g1,g2⟩:=NU hs rs h2
  have key:∃v,(match r with|.tmp t=>pure (a.tmps.getD t undef)|.cell x t=>do loadVar t (<- asAddr (a.tmps.getD x undef)):Sem Value).run P w=.ok v w/\
    au w γ (rop P gl orc (ev gl s.T) s.m none ((fun(r:ResultVar)=>match r with|.tmp t=>aC.mv (.tmp t)|.cell a t=>WE P t (.tmp a)) r)).2 v:=by
   cases r with
   |tmp t=>exact⟨a.tmps.getD t undef,zd,hs.ev (.tmp t)⟩
   |cell x t=>
    obtain⟨b,o,v,e1,e2,e3⟩:=WG (P:=P) (gl:=gl) (orc:=orc) (e:=ev gl s.T) (m:=s.m) hs.m (fun _ _ h=>h) (t:=t) (x:=.tmp x) (v0:=a.tmps.getD x undef) (hs.ev (.tmp x)) h1;refine⟨v,?_,e3⟩;simp only[e1,Sem.run_bind,asAddr,Sem.run_pure,Result.andThen_ok,e2]
  obtain⟨v,k1,k2⟩:=key;refine⟨v::vs,?_,ak.cons k2 g2⟩;simp only[zzhb,Sem.run_bind,k1,Result.andThen_ok,g1,Sem.run_pure]
def FF(hs:dQ N w0 r an S P gl Y γ w s a){fn:Func}(hc:(Kc P gl orc s (gh P fn.results.toList)).1):∃v,(results fn a.tmps).run P w=.ok v w/\au w γ (oneOf (Kc P gl orc s (gh P fn.results.toList)).2) v:=by
 obtain⟨vs,h1,h2⟩:=NU (P:=P) (orc:=orc) hs fn.results.toList hc
 have aZ:(results fn a.tmps).run P w=.ok (if h:vs.toArray.size=1 then vs.toArray[0]else .tuple vs.toArray) w:=by
  simp only[results,Sem.run_bind,Array.mapM_eq_mapM_toList,Sem.run_map];exact congrArg (fun(z:Result (PP))=>(z.andThen fun a w'=>Result.ok a.toArray w').andThen fun(a:PQ)w'=>Sem.run P (pure (if h:a.size=1 then a[0]else Value.tuple a):Sem Value) w') h1
 refine⟨_,aZ,?_⟩;generalize(Kc P gl orc s (gh P fn.results.toList)).2=as' at h2
 match as',vs,h2 with
 |[],[],h2=>exact .aS rfl fun i c v h=>by simp at h
 |[],_::_,h2=>have:=h2.1;simp at this
 |_::_,[],h2=>have:=h2.1;simp at this
 |[x],[v],h2=>exact h2.2 0 x v rfl rfl
 |[x],_::_::_,h2=>have:=h2.1;simp at this
 |_::_::_,[v],h2=>have:=h2.1;simp at this
 |x::y::as',v::u::vs,h2=>
  simp only[oneOf];rw[dif_neg zd];exact .aS (Nm h2.1) fun i c v' g1 g2=>h2.2 i c v' g1 (Nm g2)
def post(P:Program)(gl:Nat->AV)(orc:X1)(rs:List aC)(r:AV):So
 |.normal,s=>(Kc P gl orc s rs).1/\bG s.m 6 (oneOf (Kc P gl orc s rs).2)=r
 |.ret,s=>(Kc P gl orc s rs).1/\bG s.m 6 (oneOf (Kc P gl orc s rs).2)=r
 |_,_=>False
def wj(P:Program)(gl:Nat->AV)(orc:X1)(rs:List aC)(K:UV):So
 |.normal,s=>(Kc P gl orc s rs).1/\K (oneOf (Kc P gl orc s rs).2) s.m
 |.ret,s=>(Kc P gl orc s rs).1/\K (oneOf (Kc P gl orc s rs).2) s.m
 |_,_=>False
def NV(K:List PanicEntry->AM->Prop):So
 |.panic ch,s=>K ch s.m
 |_,_=>False
def Y0:YT:=fun _ _ _ _=>False
def dQ.y0(h:dQ N w0 r an S P gl Y γ w s a):dQ N w0 r an S P gl Y0 γ w s a:=⟨h.m,h.ls,h.rd,h.t,h.d,h.g,fun _ _ _ _ _ _ _ _ _ _ _ hY _ _=>hY.elim,h.e⟩
def sF{fn:Func}{R:Ending->World->Prop}(hS:∀b,S.1.sp b->b<S.2.heap.size):∀(ds:List Deferred)(γ:G)(w:World)(s:AS)(a:Act),a.defers=ds->dQ N w0 none an S P gl Y0 γ w s a->
  (Kc P gl orc s (gh P fn.results.toList)).1->
  (∀v w' γ',eC S.2 S.1 w' γ'->aq N w0 an γ' w' s.m.B s.m.L->cB γ' w' s.m->au w' γ' (oneOf (Kc P gl orc s (gh P fn.results.toList)).2) v->R (.returned v) w')->LeavesInM (FW none) 0 P fn a.tmps R ds .returning w
 |[],γ,w,s,a,_,hs,h1,hR=>by
  obtain⟨v,g1,g2⟩:=FF (P:=P) (orc:=orc) hs h1;exact⟨v,g1,hR v w γ hs.e hs.m hs.ls g2⟩
 |d::ds,γ,w,s,a,hd,hs,hc,hR=>by
  obtain⟨D,e1,e0,e2,e3⟩:=hs.d.2.1 d (by rw[hd];simp);refine⟨zd,.inl ⟨D,w.putObj D (.deferred none),e1,run_takeDeferred e3,?_⟩⟩;have hDS:¬S.1.sp D:=fun h=>by have:=hS D h;omega
  obtain⟨eH,bZ,al3⟩:=hs.m.Wc e2 (o:=.deferred none) e3 (fun _ _ _ h=>by cases h) (fun _ _ _ h=>by cases h) (γ':={γ with sp:=fun b=>γ.sp b/\b≠D}) (.inr rfl) (fun h=>by
   have:=congrFun (congrArg G.sp h) D;simp[e2]at this)
  have hpw:=hs.d.2.2;rw[hd,zzc]at hpw;refine sF hS ds {γ with sp:=fun b=>γ.sp b/\b≠D} (w.putObj D (.deferred none)) s {a with defers:=ds} rfl ⟨eH,⟨fun i=>?_,hs.ls.2.1,hs.ls.2.2.1,fun i l hl=>?_⟩,fun l h=>(by cases h),hs.t.eD bZ,⟨Nm hs.d.1,fun x hx=>?_,hpw.2⟩,fun g=>(hs.g g).eD bZ.cQ,fun _ _ _ _ _ _ _ _ _ _ _ hY _ _=>hY.elim,al3 _ _ hs.e (.inr hDS)⟩ hc hR
  ·rcases hs.ls.1 i with h|⟨l,h0,h1,rc,h2,h3⟩
   ·exact .inl h
   have aK:l≠D:=by rintro rfl;rw[e3]at h2;cases h2
   exact .inr ⟨l,h0,⟨h1,aK⟩,rc,(World.putObj_heap_other aK).trans h2,h3⟩
  ·obtain⟨h1,rc,h2⟩:=hs.ls.2.2.2 i l hl;have aK:l≠D:=by rintro rfl;rw[e3]at h2;cases h2
   exact⟨⟨h1,aK⟩,rc,(World.putObj_heap_other aK).trans h2⟩
  obtain⟨D',q1,q0,q2,q3⟩:=hs.d.2.1 x (by rw[hd];simp[hx]);have aK:D'≠D:=by rintro rfl;exact hpw.1 x hx D' e1 q1
  exact⟨D',q1,q0,⟨q2,aK⟩,(World.putObj_heap_other aK).trans q3⟩
def oW{fn:Func}{R:Ending->World->Prop}{ch:List PanicEntry}(hS:∀b,S.1.sp b->b<S.2.heap.size):∀(ds:List Deferred)(γ:G)(w:World)(s:AS)(a:Act),a.defers=ds->dQ N w0 none an S P gl Y0 γ w s a->
  (∀w' γ',eC S.2 S.1 w' γ'->aq N w0 an γ' w' s.m.B s.m.L->cB γ' w' s.m->R (.panicked ch) w')->LeavesInM (FW none) 0 P fn a.tmps R ds (.panicking ch) w
 |[],γ,w,s,a,_,hs,hR=>hR w γ hs.e hs.m hs.ls
 |d::ds,γ,w,s,a,hd,hs,hR=>by
  obtain⟨D,e1,e0,e2,e3⟩:=hs.d.2.1 d (by rw[hd];simp);refine⟨zd,.inl ⟨D,w.putObj D (.deferred none),e1,run_takeDeferred e3,?_⟩⟩;have hDS:¬S.1.sp D:=fun h=>by have:=hS D h;omega
  obtain⟨eH,bZ,al3⟩:=hs.m.Wc e2 (o:=.deferred none) e3 (fun _ _ _ h=>by cases h) (fun _ _ _ h=>by cases h) (γ':={γ with sp:=fun b=>γ.sp b/\b≠D}) (.inr rfl) (fun h=>by
   have:=congrFun (congrArg G.sp h) D;simp[e2]at this)
  have hpw:=hs.d.2.2;rw[hd,zzc]at hpw;refine oW hS ds {γ with sp:=fun b=>γ.sp b/\b≠D} (w.putObj D (.deferred none)) s {a with defers:=ds} rfl ⟨eH,⟨fun i=>?_,hs.ls.2.1,hs.ls.2.2.1,fun i l hl=>?_⟩,fun l h=>(by cases h),hs.t.eD bZ,⟨Nm hs.d.1,fun x hx=>?_,hpw.2⟩,fun g=>(hs.g g).eD bZ.cQ,fun _ _ _ _ _ _ _ _ _ _ _ hY _ _=>hY.elim,al3 _ _ hs.e (.inr hDS)⟩ hR
  ·rcases hs.ls.1 i with h|⟨l,h0,h1,rc,h2,h3⟩
   ·exact .inl h
   have aK:l≠D:=by rintro rfl;rw[e3]at h2;cases h2
   exact .inr ⟨l,h0,⟨h1,aK⟩,rc,(World.putObj_heap_other aK).trans h2,h3⟩
  ·obtain⟨h1,rc,h2⟩:=hs.ls.2.2.2 i l hl;have aK:l≠D:=by rintro rfl;rw[e3]at h2;cases h2
   exact⟨⟨h1,aK⟩,rc,(World.putObj_heap_other aK).trans h2⟩
  obtain⟨D',q1,q0,q2,q3⟩:=hs.d.2.1 x (by rw[hd];simp[hx]);have aK:D'≠D:=by rintro rfl;exact hpw.1 x hx D' e1 q1
  exact⟨D',q1,q0,⟨q2,aK⟩,(World.putObj_heap_other aK).trans q3⟩
def aeo(w0:World):fE where
 p γ w:=Below w0.heap.size w0 w/\∀b,OI γ b->w0.heap.size<=b
 st γ w γ' w' h hc:=by
  refine⟨h.1.trans ⟨hc.os,hc.tape,hc.output,hc.size,fun b hb=>hc.same b (zzan hb h.1.size) fun ho=>?_⟩,fun b hb=>?_⟩
  ·have:=h.2 b ho;omega
  rcases hc.oi b hb with hb|hb
  ·exact h.2 b hb
  exact zzaz h.1.size hb
def AU{as':P1}{vs:PP}{k:Nat}(h:ak w γ as' vs):ak w γ (as'++List.replicate (k-as'.length) .junk) (vs.toArray++Array.replicate (k-vs.toArray.size) undef).toList:=by
 have aH:=h.1
 have h2:ak w γ (List.replicate (k-as'.length) .junk) (List.replicate (k-vs.length) undef):=⟨by simp[aH],fun i x v hx _=>by
  rw[zzcn]at hx;split at hx
  ·cases hx;exact .junk _
  cases hx⟩
 simpa using h.append h2
def cO(P:Program)(f:FuncId)(sc:SC)(rs:List aC)(n:Nat):Prop:=
 ∃fn c,P.funcs[f]?=some fn/\fn.body=some c/\(fn.name== "runtime.NumGoroutine")=false/\Yd P c=sc/\gh P fn.results.toList=rs/\fn.ntmps=n
def fco{P:Program}{f:FuncId}{fn:Func}{c:Code}{sc:SC}{rs:List aC}{n:Nat}(h:P.funcs[f]?=some fn)(hb:fn.body=some c)(hk:((fn.name== "runtime.NumGoroutine"),Yd P c,gh P fn.results.toList,fn.ntmps)=(false,sc,rs,n)):cO P f sc rs n:=by
 obtain⟨h1,h2⟩:=Prod.mk.inj hk;obtain⟨h2,h3⟩:=Prod.mk.inj h2;obtain⟨h3,h4⟩:=Prod.mk.inj h3;exact⟨fn,c,h,hb,h1,h2,h3,h4⟩
def aI{P:Program}{f:FuncId}{fn:Func}{c:Code}{sc:SC}{rs:List aC}{n:Nat}(h:P.funcs[f]?=some fn)(hb:fn.body=some c:=by rfl)(hk:((fn.name== "runtime.NumGoroutine"),Yd P c,gh P fn.results.toList,fn.ntmps)=(false,sc,rs,n):=by kernel_rfl):cO P f sc rs n:=fco h hb hk
def al4{f:FuncId}{sc:SC}{rs:List aC}{n:Nat}(hc:cO P f sc rs n)(orc:X1){as':P1}{m:AM}{K:UV}
  (h:vc P gl orc Y sc ⟨as'++List.replicate (n-as'.length) .junk,m⟩ (wj P gl orc rs K)){vs:PP}(hm:aq N w0 an γ w m.B m.L)(hl:cB γ w m)(hg:∀g,au w γ.cQ (gl g) (.pointer (some ⟨g,0,none⟩)))
  (hy:VL N w0 an P Y γ w)(hr:ak w γ as' vs):
  CallsIn (FW none) 0 P f vs.toArray w fun e w'=>∃v γ' r m',e=.returned v/\eC w γ w' γ'/\aq N w0 an γ' w' m'.B m'.L/\cB γ' w' m'/\au w' γ' r v/\K r m':=by
 obtain⟨fn,c,hf,hb,WH,rfl,rfl,rfl⟩:=hc;refine callsIn_of_wp_marks (F:=FW none) hf hb trivial ?_
 have hs:dQ N w0 none an (γ,w) P gl Y γ w ⟨as'++List.replicate (fn.ntmps-as'.length) .junk,m⟩ {tmps:=vs.toArray++Array.replicate (fn.ntmps-vs.toArray.size) undef,defers:=[]}:=
  ⟨hm,hl,fun l h=>(by cases h),AU hr,⟨zzaa _,fun x hx=>(by cases hx),List.Pairwise.nil⟩,hg,hy,(Ev.refl w γ).cR⟩
 refine wpIn_mono (Ui c none (γ,w) γ w _ _ _ h hs) ?_
 have fin:∀γ' w' s a,dQ N w0 none an (γ,w) P gl Y γ' w' s a->(Kc P gl orc s (gh P fn.results.toList)).1/\K (oneOf (Kc P gl orc s (gh P fn.results.toList)).2) s.m->
   LeavesInM (FW none) 0 P fn a.tmps (fun e w'=>∃v γ' r m',e=.returned v/\eC w γ w' γ'/\aq N w0 an γ' w' m'.B m'.L/\cB γ' w' m'/\au w' γ' r v/\K r m') a.defers .returning w':=
  fun γ' w' s a dR hc=>sF (S:=(γ,w)) (fun b hb=>(hm.sp b hb).2.1) a.defers γ' w' s a rfl dR.y0 hc.1 fun v iw Ar q1 q2 q3 q4=>⟨v,Ar,_,_,rfl,q1,q2,q3,q4,hc.2⟩
 rintro ex a w' ⟨γ',s,dR,h'⟩;cases ex with
 |normal=>exact fin γ' w' s a dR h'
 |ret=>exact fin γ' w' s a dR h'
 |_=>exact h'.elim
def aep{f:FuncId}{sc:SC}{rs:List aC}{n:Nat}(hc:cO P f sc rs n)(orc:X1){as':P1}{m:AM}{K:List PanicEntry->AM->Prop}
  (h:vc P gl orc Y sc ⟨as'++List.replicate (n-as'.length) .junk,m⟩ (NV K)){vs:PP}(hm:aq N w0 an γ w m.B m.L)(hl:cB γ w m)(hg:∀g,au w γ.cQ (gl g) (.pointer (some ⟨g,0,none⟩)))
  (hy:VL N w0 an P Y γ w)(hr:ak w γ as' vs):
  CallsIn (FW none) 0 P f vs.toArray w fun e w'=>∃ch γ' m',e=.panicked ch/\eC w γ w' γ'/\aq N w0 an γ' w' m'.B m'.L/\cB γ' w' m'/\K ch m':=by
 obtain⟨fn,c,hf,hb,WH,rfl,rfl,rfl⟩:=hc;refine callsIn_of_wp_marks (F:=FW none) hf hb trivial ?_
 have hs:dQ N w0 none an (γ,w) P gl Y γ w ⟨as'++List.replicate (fn.ntmps-as'.length) .junk,m⟩ {tmps:=vs.toArray++Array.replicate (fn.ntmps-vs.toArray.size) undef,defers:=[]}:=
  ⟨hm,hl,fun l h=>(by cases h),AU hr,⟨zzaa _,fun x hx=>(by cases hx),List.Pairwise.nil⟩,hg,hy,(Ev.refl w γ).cR⟩
 refine wpIn_mono (Ui c none (γ,w) γ w _ _ _ h hs) ?_;rintro ex a w' ⟨γ',s,dR,h'⟩;cases ex with
 |panic ch=>exact oW (S:=(γ,w)) (fun b hb=>(hm.sp b hb).2.1) a.defers γ' w' s a rfl dR.y0 fun iw Ar q1 q2 q3=>⟨ch,Ar,_,rfl,q1,q2,q3,h'⟩
 |_=>exact h'.elim
def cO.bF{f:FuncId}{sc:SC}{rs:List aC}{n:Nat}(hc:cO P f sc rs n):bF P f:=by
 obtain⟨fn,c,hf,hb,WH,_⟩:=hc;exact⟨fn,hf,by simp[hb],WH⟩
def WI{f:FuncId}{sc:SC}{rs:List aC}{n:Nat}(hc:cO P f sc rs n)(orc:X1){as':P1}{m:AM}{K:UV}
  (h:vc P gl orc Y sc ⟨as'++List.replicate (n-as'.length) .junk,m⟩ (wj P gl orc rs K)):aF P gl Y f as' m K:=
 ⟨hc.bF,fun _ _ _ _ _ _ hm hl hg hy hr=>al4 hc orc h hm hl hg hy hr⟩
def aeq{f:FuncId}{sc:SC}{rs:List aC}{n:Nat}(hc:cO P f sc rs n)(orc:X1){as':P1}{m:AM}{K:List PanicEntry->AM->Prop}
  (h:vc P gl orc Y sc ⟨as'++List.replicate (n-as'.length) .junk,m⟩ (NV K)):Fe P gl Y f as' m K:=
 ⟨hc.bF,fun _ _ _ _ _ _ hm hl hg hy hr=>aep hc orc h hm hl hg hy hr⟩
def AM.none:AM:=⟨[],[],fun _=>.gone,0⟩
def FG{f:FuncId}{as':P1}{r:AV}(h:aF P gl Y0 f as' ⟨[],[],fun _=>.gone,0⟩ fun x m'=>bG m' 6 x=r):Pure P gl f as' r:=by
 refine⟨h.1,fun ro w vs fh hr=>?_⟩;refine(callsIn_wide (n:=0)).1 ?_
 let γ0:G:=G0 fun b o=>ro b o/\b<w.heap.size
 have bZ:Ev w (G0 ro) w γ0:=⟨zzaa _,fun b o hb h=>⟨⟨h,hb⟩,rfl⟩,fun _ _ h=>(by cases h),fun _=>zzaa _,fun _ _ h=>(by cases h),rfl,fun _ _ _ h=>(by cases h),fun _ h=>h.elim,Sz.refl w⟩
 have hm:aq w.heap.size (aeo w) ro γ0 w (⟨[],[],fun _=>.gone,0⟩:AM).B (⟨[],[],fun _=>.gone,0⟩:AM).L:=by
  refine⟨⟨Below.refl _ _,fun b hb=>?_⟩,zzaa _,fun b o h=>.inl h.1,fun b o h=>h.2,fun id cells b h=>by simp[AM.B]at h,fun id b h=>(by cases h),fun id id' b h=>(by cases h),fun id b h=>(by cases h),fun id id' b h=>(by cases h),fun b h=>h.elim,fun id b h=>(by cases h),fun id id' b h=>(by cases h),fun id n h=>by simp[AM.L]at h,fun _ _=>rfl⟩;obtain⟨_,hb⟩|⟨_,hb⟩|hb|⟨_,hb⟩:=hb
  ·cases hb
  ·cases hb
  ·exact hb.elim
  cases hb
 refine CallsIn.mono (h.2 _ _ _ _ _ _ hm ⟨fun _=>.inl rfl,fun _ _=>rfl,fun _ _ _ h=>(by cases h),fun _ _ h=>(by cases h)⟩ (fun g=>(fh g).mono bZ) (fun _ _ _ _ _ _ _ _ _ _ _ hY _ _=>hY.elim) (hr.mono bZ)) ?_;rintro e w' ⟨v,γ',x,m',rfl,_,h2,_,h4,h5⟩;refine⟨v,rfl,h2.bs.1,?_⟩;rw[<- h5];exact Qel h2 (fun _ _ h=>h) h2.an 6 _ v h4 fun _ id b hb o=>.inr (h2.β id b hb).1
def aer{f:FuncId}{sc:SC}{rs:List aC}{n:Nat}(hc:cO P f sc rs n)(orc:X1){as':P1}{r:AV}
  (h:vc P gl orc Y0 sc ⟨as'++List.replicate (n-as'.length) .junk,⟨[],[],fun _=>.gone,0⟩⟩ (post P gl orc rs r)):Pure P gl f as' r:=by
 have asp:post P gl orc rs r=wj P gl orc rs fun x m'=>bG m' 6 x=r:=by
  funext ex s;cases ex<;>rfl
 rw[asp]at h;exact FG (WI hc orc h)
end
end Go.Abs
