import Derived.Test.YtfliagpjbbkijaaGreatDoorVAMD
import Derived.RangeFuncNested
set_option linter.all false
namespace Go.Abs
open Go Go.RowKit
def Xy(o:Oper):P1:=(o.after.toList.filter fun e=>Region.binds .any e).map (·.on)
def wz(ops:Array Oper)(i j:Nat):Bool:=
 match ops[i]? with
 |some o=>(Xy o).contains j
 |none=>false
def C4(ops:Array Oper)(i:Nat):Bool:=(List.range i).all fun j=>(List.range (i-j)).any fun d=>wz ops (i-d) j
def wA(ops:Array Oper):Nat->Nat
 |0=>0
 |k+1=>if C4 ops k then wA ops k else k+1
def Wz(ops:Array Oper):Nat:=wA ops ops.size
def Vp(ops:Array Oper)(i:Nat):Option Nat:=(ops[i]?).bind (·.dst)
def zq(ops:Array Oper)(p:Nat):Bool:=
 decide (p<=ops.size)&&(List.range ops.size).all fun i=>
  match ops[i]? with
  |none=>false
  |some o=>(Xy o).all (fun j=>decide (j<i))&&
   (
    if i<p then
    ((o.looksAt ops).all fun t=>(List.range p).all fun j=>!(Vp ops j==some t)||j==i||(decide (j<i)&&(Xy o).contains j))&&
    ((List.range i).all fun j=>(Vp ops j).isNone||!(Vp ops j==o.dst))
   else C4 ops i)
section
variable (P:Program) (gl:Nat->AV) (orc:X1)
def dop(o:SO)(T:PQ)(m:AM)(nb:X2):Prop×AV×X2:=
 match o.guard with
 |none=>match o.op with
  |.alloc zs=>(zs.all Qw=true,.ptr (m.boxes.length+nb.length) 0,nb++[zs])
  |.box x=>(bare (ev gl T x)=true/\(cellsOf (ev gl T x)).all Qw=true,.ptr (m.boxes.length+nb.length) 0,nb++[cellsOf (ev gl T x)])
  |.mks sz bytes zs l c=>(match ev gl T l,ev gl T c with
   |.int _ l,.int _ c=>((0<=l/\l<=c/\bytes*c<=281474976710656/\c<=9223372036854775807)/\zs.length=sz/\zs.all Qw=true,.bs (m.boxes.length+nb.length) 0 l.toNat sz,nb++[bG c.toNat zs])
   |_,_=>(False,.junk,nb))
  |op=>((rop P gl orc (ev gl T) m o.dst op).1,(rop P gl orc (ev gl T) m o.dst op).2,nb)
 |some (some t,want)=>match IL want (T.getD t .junk)with
  |some gw=>(gok gl T gw (gxs o.op o.xs)/\(gw=true->(rop P gl orc (evG gl T o.op) m o.dst o.op).1),.gd gw (rop P gl orc (evG gl T o.op) m o.dst o.op).2,nb)
  |none=>(False,.junk,nb)
 |some (none,_)=>(False,.junk,nb)
def vcD(Y:YT)(l2:List SO)(K:AS->Prop):List SO->PQ->AM->X2->Prop
 |[],T,m,nb=>Ze P gl orc Y l2 ⟨T,{m with boxes:=m.boxes++nb}⟩ K
 |o::r,T,m,nb=>(dop P gl orc o T m nb).1/\vcD Y l2 K r (put T o.dst (dop P gl orc o T m nb).2.1) m (dop P gl orc o T m nb).2.2
def Xe(ops:Array Oper)(T0:PQ)(m:AM):Nat->PQ×X2
 |0=>(T0,[])
 |k+1=>match ops[k]? with
  |some o=>(put (Xe ops T0 m k).1 o.dst (dop P gl orc (Xf P ops o) (Xe ops T0 m k).1 m (Xe ops T0 m k).2).2.1,(dop P gl orc (Xf P ops o) (Xe ops T0 m k).1 m (Xe ops T0 m k).2).2.2)
  |none=>Xe ops T0 m k
end
section
variable {N:Nat} {w0:fc} {r:Option Nat} {an:Nat->Nat->Prop} {S:G×World} {Y:YT} {P:Program} {gl:Nat->AV} {orc:X1} {ops:Array Oper} {T0:PQ} {m:AM} {p:Nat}
def Kz{k:Nat}{o:Oper}(h:ops[k]?=some o):Xe P gl orc ops T0 m (k+1)=
  (put (Xe P gl orc ops T0 m k).1 o.dst (dop P gl orc (Xf P ops o) (Xe P gl orc ops T0 m k).1 m (Xe P gl orc ops T0 m k).2).2.1,(dop P gl orc (Xf P ops o) (Xe P gl orc ops T0 m k).1 m (Xe P gl orc ops T0 m k).2).2.2):=by
 simp only[Xe,h]
def NU(l2:List SO)(K:AS->Prop)(hp:p<=ops.size):∀(n k:Nat),k+n=p->vcD P gl orc Y l2 K (((ops.toList.take p).drop k).map (Xf P ops)) (Xe P gl orc ops T0 m k).1 m (Xe P gl orc ops T0 m k).2->
  (∀i o,k<=i->i<p->ops[i]?=some o->(dop P gl orc (Xf P ops o) (Xe P gl orc ops T0 m i).1 m (Xe P gl orc ops T0 m i).2).1)/\
  Ze P gl orc Y l2 ⟨(Xe P gl orc ops T0 m p).1,{m with boxes:=m.boxes++(Xe P gl orc ops T0 m p).2}⟩ K
 |0,k,hk,h=>by
  obtain rfl:k=p:=zE
  have:(ops.toList.take k).drop k=[]:=zzam (by simp;omega);rw[this]at h;exact⟨fun i o h1 h2=>zE,h⟩
 |n+1,k,hk,h=>by
  have aa:k<ops.size:=zE
  have ho:ops[k]?=some ops[k]:=zzag aa
  have hd:(ops.toList.take p).drop k=ops[k]::(ops.toList.take p).drop (k+1):=by
   rw[zzaf (by simp;omega)];simp
  rw[hd,zzay]at h;obtain⟨h1,h2⟩:=h;have V6:=Kz (P:=P) (gl:=gl) (orc:=orc) (T0:=T0) (m:=m) ho;have:=NU l2 K hp n (k+1) zE (by rw[V6];exact h2);refine⟨fun i o hi dH C5=>?_,this.2⟩;rcases zzab k i with fM|fM
  ·exact this.1 i o fM dH C5
  obtain rfl:i=k:=zE
  rw[ho]at C5;cases C5;exact h1
def wB(T:PQ)(d:Option Nat)(x:AV):(put T d x).length=T.length:=by cases d<;>simp[put]
def je:∀k,(Xe P gl orc ops T0 m k).1.length=T0.length
 |0=>rfl
 |k+1=>by
  cases h:ops[k]? with
  |none=>simp only[Xe,h];exact je k
  |some o=>rw[Kz h,wB];exact je k
def Qby{T:PQ}{d:Option Nat}{x:AV}{t:Nat}(h:d≠some t):(put T d x).getD t .junk=T.getD t .junk:=by
 cases d with
 |none=>rfl
 |some d=>simp only[put,List.getD];rw[zzbq (by rintro rfl;exact h rfl)]
def lZ{T:PQ}{t:Nat}{x:AV}(h:t<T.length):(put T (some t) x).getD t .junk=x:=by
 simp[put,List.getD,h]
def Qdy{t:Nat}:∀k,(∀j,j<k->Vp ops j≠some t)->(Xe P gl orc ops T0 m k).1.getD t .junk=T0.getD t .junk
 |0,_=>rfl
 |k+1,h=>by
  cases ho:ops[k]? with
  |none=>simp only[Xe,ho];exact Qdy k fun j hj=>h j zE
  |some o=>
   rw[Kz ho,Qby (by have:=h k zE;simpa[Vp,ho]using this)];exact Qdy k fun j hj=>h j zE
def kP{t k:Nat}:∀n,(∀j,k<=j->j<k+n->Vp ops j≠some t)->(Xe P gl orc ops T0 m (k+n)).1.getD t .junk=(Xe P gl orc ops T0 m k).1.getD t .junk
 |0,_=>rfl
 |n+1,h=>by
  rw[<- zzan];cases ho:ops[k+n]? with
  |none=>simp only[Xe,ho];exact kP n fun j h1 h2=>h j h1 zE
  |some o=>
   rw[Kz ho,Qby (by have:=h (k+n) zE zE;simpa[Vp,ho]using this)];exact kP n fun j h1 h2=>h j h1 zE
def alA{o:Oper}{T:PQ}{nb:X2}:
  ((dop P gl orc (Xf P ops o) T m nb).2.2=nb)\/(∃cells,(dop P gl orc (Xf P ops o) T m nb).2.2=nb++[cells]):=by
 unfold dop;split
 ·split
  ·exact .inr ⟨_,rfl⟩
  ·exact .inr ⟨_,rfl⟩
  ·split
   ·exact .inr ⟨_,rfl⟩
   exact .inl rfl
  exact .inl rfl
 ·split
  ·exact .inl rfl
  exact .inl rfl
 exact .inl rfl
def kQ(P:Program)(gl:Nat->AV)(orc:X1)(ops:Array Oper)(T0:PQ)(m:AM)(k:Nat):Nat:=(Xe P gl orc ops T0 m k).2.length
def NV(k:Nat):(Xe P gl orc ops T0 m (k+1)).2=(Xe P gl orc ops T0 m k).2\/∃cells,(Xe P gl orc ops T0 m (k+1)).2=(Xe P gl orc ops T0 m k).2++[cells]:=by
 cases ho:ops[k]? with
 |none=>exact .inl (by simp only[Xe,ho])
 |some o=>rw[Kz ho];exact alA
def Fx(k:Nat):kQ P gl orc ops T0 m (k+1)=kQ P gl orc ops T0 m k\/kQ P gl orc ops T0 m (k+1)=kQ P gl orc ops T0 m k+1:=by
 unfold kQ;rcases NV (P:=P) (gl:=gl) (orc:=orc) (ops:=ops) (T0:=T0) (m:=m) k with h|⟨c,h⟩
 ·rw[h];exact .inl rfl
 rw[h];exact .inr zd
def Fy{j:Nat}:∀n,kQ P gl orc ops T0 m j<=kQ P gl orc ops T0 m (j+n)
 |0=>zzaa _
 |n+1=>by
  have:=Fy (j:=j) n;rcases Fx (P:=P) (gl:=gl) (orc:=orc) (ops:=ops) (T0:=T0) (m:=m) (j+n)with h|h<;>rw[<- zzan]<;>omega
def V7{i j:Nat}(h:i<=j):kQ P gl orc ops T0 m i<=kQ P gl orc ops T0 m j:=by
 have:=Fy (P:=P) (gl:=gl) (orc:=orc) (ops:=ops) (T0:=T0) (m:=m) (j:=i) (j-i);rwa [show i+(j-i)=j by omega]at this
def V9{i:Nat}:∀n{q:Nat}{c:PQ},(Xe P gl orc ops T0 m i).2[q]?=some c->(Xe P gl orc ops T0 m (i+n)).2[q]?=some c
 |0,_,_,h=>h
 |n+1,q,c,h=>by
  have ih:=V9 n h;rw[<- zzan];rcases NV (P:=P) (gl:=gl) (orc:=orc) (ops:=ops) (T0:=T0) (m:=m) (i+n)with e|⟨c',e⟩
  ·rw[e];exact ih
  rw[e,zzak (zza.1 ih).1];exact ih
def IP(P:Program)(gl:Nat->AV)(orc:X1)(ops:Array Oper)(T0:PQ)(m:AM)(i:Nat):Bool:=kQ P gl orc ops T0 m (i+1)==kQ P gl orc ops T0 m i+1
def Fz{q:Nat}:∀k,q<kQ P gl orc ops T0 m k->∃i,i<k/\IP P gl orc ops T0 m i=true/\kQ P gl orc ops T0 m i=q
 |0,h=>by simp[kQ,Xe]at h
 |k+1,h=>by
  rcases zzab q (kQ P gl orc ops T0 m k)with h'|h'
  ·obtain⟨i,h1,h2,h3⟩:=Fz k h';exact⟨i,zE,h2,h3⟩
  rcases Fx (P:=P) (gl:=gl) (orc:=orc) (ops:=ops) (T0:=T0) (m:=m) k with e|e
  ·omega
  exact⟨k,zE,by simp[IP,e],zE⟩
def Bg(P:Program)(gl:Nat->AV)(orc:X1)(ops:Array Oper)(T0:PQ)(m:AM)(p:Nat)(listed:Array Bool)(id:Nat):QQ:=
 if id<m.boxes.length then m.boxes[id]?
 else if(List.range p).any fun i=>listed.getD i false&&(IP P gl orc ops T0 m i&&decide (m.boxes.length+kQ P gl orc ops T0 m i=id))then(Xe P gl orc ops T0 m p).2[id-m.boxes.length]? else none
def wr(ops:Array Oper)(p:Nat)(listed:Array Bool)(t:Nat):Bool:=(List.range p).any fun i=>listed.getD i false&&(Vp ops i==some t)
def At(P:Program)(gl:Nat->AV)(orc:X1)(ops:Array Oper)(T0:PQ)(m:AM)(p:Nat)(listed:Array Bool)(t:Nat):AV:=
 if wr ops p listed t then(Xe P gl orc ops T0 m p).1.getD t .junk else T0.getD t .junk
structure QI (N:Nat) (w0:fc) (r:Option Nat) (an:Nat->Nat->Prop) (S:G×World) (Y:YT) (P:Program) (gl:Nat->AV) (orc:X1) (ops:Array Oper) (T0:PQ) (m:AM) (p:Nat) (listed:Array Bool) (γ:G) (w:World) (a:Act):Prop where
 size:listed.size=ops.size
 tail:∀i,p<=i->i<ops.size->listed.getD i true=false
 clo:∀i o,listed.getD i false=true->ops[i]?=some o->∀j∈Xy o,listed.getD j false=true
 mm:aq N w0 an γ w (Bg P gl orc ops T0 m p listed) m.L
 ls:cD γ w m
 rd:Rdr r γ w
 tl:a.tmps.size=T0.length
 tt:∀t,au w γ (At P gl orc ops T0 m p listed t) (a.tmps.getD t undef)
 d:Dfr S.2.heap.size γ w a.defers
 g:∀g,au w γ.cW (gl g) (.pointer (some ⟨g,0,none⟩))
 y:V2 N w0 an P Y γ w
 e:ek S.2 S.1 w γ
def Xq{listed:Array Bool}{i:Nat}{b:Bool}(h:i<listed.size):(listed.setIfInBounds i true).getD i b=true:=by
 simp[h]
def Qt{listed:Array Bool}{i j:Nat}{b:Bool}(h:j≠i):(listed.setIfInBounds i true).getD j b=listed.getD j b:=by
 simp[zzco (Ne.symm h)]
def aej{listed:Array Bool}{id:Nat}{cells:PQ}(h:m.boxes[id]?=some cells):Bg P gl orc ops T0 m p listed id=some cells:=by
 unfold Bg;rw[if_pos (zza.1 h).1];exact h
def Wa{listed:Array Bool}{i:Nat}(hn:IP P gl orc ops T0 m i=false):Bg P gl orc ops T0 m p (listed.setIfInBounds i true)=Bg P gl orc ops T0 m p listed:=by
 funext id;unfold Bg;congr 1
 have:((List.range p).any fun j=>(listed.setIfInBounds i true).getD j false&&(IP P gl orc ops T0 m j&&decide (m.boxes.length+kQ P gl orc ops T0 m j=id)))=
   ((List.range p).any fun j=>listed.getD j false&&(IP P gl orc ops T0 m j&&decide (m.boxes.length+kQ P gl orc ops T0 m j=id))):=by
  congr 1;funext j;by_cases hj:j=i
  ·subst hj;simp[hn]
  rw[Qt hj]
 rw[this]
def aek{i j:Nat}(hi:IP P gl orc ops T0 m i=true)(hj:IP P gl orc ops T0 m j=true)(h:kQ P gl orc ops T0 m i=kQ P gl orc ops T0 m j):i=j:=by
 simp only[IP,beq_iff_eq]at hi hj;rcases zzeb i j with h'|h'|h'
 ·have:=V7 (P:=P) (gl:=gl) (orc:=orc) (ops:=ops) (T0:=T0) (m:=m) (i:=i+1) (j:=j) h';omega
 ·exact h'
 have:=V7 (P:=P) (gl:=gl) (orc:=orc) (ops:=ops) (T0:=T0) (m:=m) (i:=j+1) (j:=i) h';omega
def Bh{listed:Array Bool}{i:Nat}(hn:IP P gl orc ops T0 m i=true)(hl:listed.getD i false=false):Bg P gl orc ops T0 m p listed (m.boxes.length+kQ P gl orc ops T0 m i)=none:=by
 unfold Bg;rw[if_neg zE,if_neg];intro h;obtain⟨j,_,h⟩:=zzbv.1 h;simp only[zzai,decide_eq_true_eq]at h;obtain⟨h1,h2,h3⟩:=h;have:=aek h2 hn zE;subst this;rw[hl]at h1;cases h1
def NW{listed:Array Bool}{i:Nat}{cells:PQ}(dH:i<p)(hsz:i<listed.size)(hn:IP P gl orc ops T0 m i=true)(hc:(Xe P gl orc ops T0 m p).2[kQ P gl orc ops T0 m i]?=some cells):
  Bg P gl orc ops T0 m p (listed.setIfInBounds i true)=fun id=>if id=m.boxes.length+kQ P gl orc ops T0 m i then some cells else Bg P gl orc ops T0 m p listed id:=by
 funext id;by_cases aM:id=m.boxes.length+kQ P gl orc ops T0 m i
 ·rw[if_pos aM];unfold Bg;rw[if_neg zE,if_pos]
  ·rw[aM,zzdv];exact hc
  rw[zzbv];exact⟨i,zzba.2 dH,by rw[Xq hsz,hn];simp[aM]⟩
 rw[if_neg aM];unfold Bg;congr 1
 have:((List.range p).any fun j=>(listed.setIfInBounds i true).getD j false&&(IP P gl orc ops T0 m j&&decide (m.boxes.length+kQ P gl orc ops T0 m j=id)))=
   ((List.range p).any fun j=>listed.getD j false&&(IP P gl orc ops T0 m j&&decide (m.boxes.length+kQ P gl orc ops T0 m j=id))):=by
  congr 1;funext j;by_cases hj:j=i
  ·subst hj;have:decide (m.boxes.length+kQ P gl orc ops T0 m j=id)=false:=by simp;omega
   simp[this]
  rw[Qt hj]
 rw[this]
def ael{listed:Array Bool}(bD:∀i,i<p->listed.getD i false=true):Bg P gl orc ops T0 m p listed=({m with boxes:=m.boxes++(Xe P gl orc ops T0 m p).2}:AM).B:=by
 funext id;unfold Bg;simp only[AM.B];split
 ·rename_i h;rw[zzak h]
 rename_i h;rw[zzat zE];split
 ·rfl
 rename_i hn;rcases zzab (id-m.boxes.length) (Xe P gl orc ops T0 m p).2.length with hq|hq
 ·obtain⟨i,h1,h2,h3⟩:=Fz (P:=P) (gl:=gl) (orc:=orc) (ops:=ops) (T0:=T0) (m:=m) (q:=id-m.boxes.length) p hq;exfalso;apply hn;rw[zzbv];exact⟨i,zzba.2 h1,by rw[bD i h1,h2];simp;omega⟩
 rw[zzau hq]
def Bi{α:Type}{f g:α->Bool}:∀{l:List α}{x:α},(∀y,f y=true->g y=true)->x∈l->g x=true->f x=false->l.countP f<l.countP g
 |y::l,x,hfg,hx,hg,hf=>by
  have cR:l.countP f<=l.countP g:=List.countP_mono_left fun y _=>hfg y;rw[List.countP_cons,List.countP_cons];rcases zzao.1 hx with rfl|hx
  ·rw[hg,hf];simp;omega
  have:=Bi hfg hx hg hf;by_cases h1:f y=true
  ·rw[h1,hfg y h1];simp;omega
  have qP:f y=false:=by simpa using h1
  rw[qP];simp only[zzbp,if_false,zzcl];exact zzar this (Nat.le_add_right _ _)
def uc(ops:Array Oper)(listed:Array Bool):Nat:=(List.range ops.size).countP fun i=>!listed.getD i true
def jf{listed:Array Bool}{i:Nat}(hsz:listed.size=ops.size)(hi:i<ops.size)(hl:listed.getD i true=false):uc ops (listed.setIfInBounds i true)<uc ops listed:=by
 unfold uc;refine Bi (x:=i) (fun j hj=>?_) (zzba.2 hi) (by rw[hl];rfl) (by rw[Xq zE];rfl);by_cases AU:j=i
 ·subst AU;rw[hl];rfl
 rw[Qt AU]at hj;exact hj
def Qdm{listed:Array Bool}(h:uc ops listed=0){i:Nat}(hi:i<ops.size):listed.getD i true=true:=by
 unfold uc at h;have:=List.countP_eq_zero.1 h i (zzba.2 hi);simpa using this
def Qy{listed:Array Bool}{i:Nat}(hi:i<listed.size)(b b':Bool):listed.getD i b=listed.getD i b':=by simp[hi]
def Zm(h:zq ops p=true):p<=ops.size/\∀i o,ops[i]?=some o->(∀j∈Xy o,j<i)/\
  (i<p->(∀t∈o.looksAt ops,∀j,j<p->Vp ops j=some t->j≠i->j<i/\j∈Xy o)/\(∀j,j<i->∀t,Vp ops j=some t->o.dst≠some t))/\
  (p<=i->C4 ops i=true):=by
 unfold zq at h;simp only[zzai,decide_eq_true_eq,zzbe]at h;obtain⟨hp,h⟩:=h;refine⟨hp,fun i o ho=>?_⟩;have hi:i<ops.size:=(zzbr.1 ho).1;have:=h i (zzba.2 hi);simp only[ho,zzai,zzbe,decide_eq_true_eq]at this;obtain⟨h1,h2⟩:=this;refine⟨h1,fun dH=>?_,fun dH=>?_⟩
 ·rw[if_pos dH]at h2;simp only[zzai,zzbe]at h2;obtain⟨h3,h4⟩:=h2;refine⟨fun t ht j hj hd aJ=>?_,fun j hj t hd dx=>?_⟩
  ·have:=h3 t ht j (zzba.2 hj);simp[hd,aJ]at this;exact⟨this.1,this.2⟩
  have:=h4 j (zzba.2 hj);simp[hd,dx]at this
 rw[if_neg zE]at h2;exact h2
def FA(ops:Array Oper)(listed:Array Bool):Prop:=∀i o,listed.getD i false=true->ops[i]?=some o->∀j∈Xy o,listed.getD j false=true
def FA.set{listed:Array Bool}(h:FA ops listed){i:Nat}{o:Oper}(ho:ops[i]?=some o)(hsz:i<listed.size)(bX:∀j∈Xy o,listed.getD j false=true):FA ops (listed.setIfInBounds i true):=by
 have ai1:∀k,listed.getD k false=true->(listed.setIfInBounds i true).getD k false=true:=fun k hk=>by
  by_cases qW:i=k
  ·subst qW;exact Xq hsz
  rw[Qt (Ne.symm qW)];exact hk
 intro k o' hk dx j hj;by_cases qW:i=k
 ·subst qW;rw[ho]at dx;cases dx;exact ai1 j (bX j hj)
 rw[Qt (Ne.symm qW)]at hk;exact ai1 j (h k o' hk dx j hj)
def Qay{listed:Array Bool}(C6:FA ops listed){i:Nat}{o:Oper}(ho:ops[i]?=some o)(ht:C4 ops i=true)(bX:∀j∈Xy o,listed.getD j false=true):∀(n j:Nat),j<i->i-j<=n->listed.getD j false=true
 |0,j,h1,h2=>zE
 |n+1,j,h1,h2=>by
  obtain⟨d,hd,hw⟩:=zzbv.1 (zzbe.1 ht j (zzba.2 h1));have hdl:=zzba.1 hd;unfold wz at hw;split at hw
  ·rename_i o' dx;have hm:j∈Xy o':=by simpa using hw
   by_cases h0:d=0
   ·subst h0;rw[zzet,ho]at dx;cases dx;exact bX j hm
   exact C6 (i-d) o' (Qay C6 ho ht bX n (i-d) zE zE) dx j hm
  cases hw
def nq{o:Oper}{j:Nat}:j∈Xy o<->∃e∈o.after,Region.binds .any e=true/\e.on=j:=by
 simp[Xy];constructor
 ·rintro⟨e,⟨h1,h2⟩,rfl⟩;exact⟨e,h1,h2,rfl⟩
 rintro⟨e,h1,h2,rfl⟩;exact⟨e,⟨h1,h2⟩,rfl⟩
def Uk(hc:zq ops p=true){listed:Array Bool}(hsz:listed.size=ops.size):∀(n i:Nat),i<=n->i<ops.size->listed.getD i true=false->∃j,j∈Region.ready .any ops listed
 |0,i,bU,hi,hl=>by
  obtain rfl:i=0:=zE
  have ho:ops[0]?=some ops[0]:=zzag hi;refine⟨0,mem_ready.2 ⟨hl,ops[0],ho,fun e he hb=>?_⟩⟩;have:=((Zm hc).2 0 _ ho).1 e.on (nq.2 ⟨e,he,hb,rfl⟩);omega
 |n+1,i,bU,hi,hl=>by
  by_cases hex:∃j,j<i/\listed.getD j true=false
  ·obtain⟨j,hj,QJ⟩:=hex;exact Uk hc hsz n j zE zE QJ
  have ho:ops[i]?=some ops[i]:=zzag hi;refine⟨i,mem_ready.2 ⟨hl,ops[i],ho,fun e he hb=>?_⟩⟩;have aa:=((Zm hc).2 i _ ho).1 e.on (nq.2 ⟨e,he,hb,rfl⟩)
  have:listed.getD e.on true=true:=by
   cases h:listed.getD e.on true with
   |true=>rfl
   |false=>exact absurd ⟨e.on,aa,h⟩ hex
  rw[Qy zE false true];exact this
def Ul(hc:zq ops p=true){listed:Array Bool}{i:Nat}(hr:i∈Region.ready .any ops listed):i<ops.size/\listed.getD i true=false/\∃o,ops[i]?=some o/\∀j∈Xy o,listed.getD j false=true:=by
 obtain⟨h1,o,ho,h2⟩:=mem_ready.1 hr;refine⟨(zzbr.1 ho).1,h1,o,ho,fun j hj=>?_⟩;obtain⟨e,he,hb,rfl⟩:=nq.1 hj;exact h2 e he hb
def Qdn{Q:QR}{K:AS->Prop}(hQ:∀γ w s a,K s->dP N w0 r an S P gl Y γ w s a->Q .normal a w)(hc:zq ops p=true):
  ∀(aZ k:Nat)(listed:Array Bool)(γ:G)(w:World)(s:AS)(a:Act),p<=k->k<=ops.size->listed.size=ops.size->(∀j,j<k->listed.getD j false=true)->(∀j,k<=j->j<ops.size->listed.getD j true=false)->
   uc ops listed<=aZ->Ze P gl orc Y ((ops.toList.drop k).map (Xf P ops)) s K->dP N w0 r an S P gl Y γ w s a->wpAnyIn (FW r) 0 P .any ops Q aZ listed a w:=by
 intro aZ;induction aZ with
 |zero=>
  intro k listed γ w s a FB hk hsz hlo hhi jg h hs
  have Ez:k=ops.size:=by
   rcases zzab k ops.size with h'|h'
   ·have:=Qdm (zzfe.1 jg) h';rw[hhi k (zzaa _) h']at this;cases this
   omega
  have hd:ops.toList.drop k=[]:=zzam (by simp;omega);rw[hd]at h;refine⟨?_,hQ γ w s a h hs⟩;rw[List.eq_nil_iff_forall_not_mem];intro i hi;obtain⟨aa,hu,_⟩:=Ul hc hi;have:=Qdm (zzfe.1 jg) aa;rw[hu]at this;cases this
 |succ aZ ih=>
  intro k listed γ w s a FB hk hsz hlo hhi jg h hs;refine⟨fun hr=>?_,fun i hi=>?_⟩
  ·have Ez:k=ops.size:=by
    rcases zzab k ops.size with h'|h'
    ·obtain⟨j,hj⟩:=Uk hc hsz k k (zzaa _) h' (hhi k (zzaa _) h');rw[hr]at hj;cases hj
    omega
   have hd:ops.toList.drop k=[]:=zzam (by simp;omega);rw[hd]at h;exact hQ γ w s a h hs
  obtain⟨aa,hu,o,ho,bX⟩:=Ul hc hi
  have fM:k<=i:=by
   rcases zzab i k with h'|h'
   ·have:=hlo i h';rw[Qy zE false true,hu]at this;cases this
   exact h'
  have qW:i=k:=by
   rcases zzab k i with h'|h'
   ·have C6:FA ops listed:=fun x ox hx hox j hj=>by
     have hxk:x<k:=by
      rcases zzab x k with h1|h1
      ·exact h1
      have hxs:x<ops.size:=(zzbr.1 hox).1;rw[Qy zE false true,hhi x h1 hxs]at hx;cases hx
     have:=((Zm hc).2 x ox hox).1 j hj;exact hlo j zE
    have:=Qay C6 ho (((Zm hc).2 i o ho).2.2 zE) bX i k h' zE;rw[Qy zE false true,hhi k (zzaa _) zE]at this;cases this
   omega
  subst qW;refine wpOpIn_mono ?_ (wq aa hs h);rintro a' w' ⟨γ',s',ef,h'⟩;refine ih (i+1) _ γ' w' s' a' zE aa (by simp[hsz]) (fun j hj=>?_) (fun j dL ot=>?_) ?_ h' ef
  ·rcases zzab j i with h'|h'
   ·rw[Qt zE];exact hlo j h'
   obtain rfl:j=i:=zE
   exact Xq zE
  ·rw[Qt zE];exact hhi j zE ot
  have:=jf hsz aa hu;omega
def aem{P:Program}{w:World}{γ:G}{te:TypeId}{zs:PQ}{i:TypeInfo}{z:Value}{n:Nat}(J5:ak w γ zs z.cells.toList)(g5:zs.all Qw=true)(g4:zs.length=i.size):
  cp w γ (bG n zs) (madeCells z.cells (n*i.size)).toList/\∀v∈(madeCells z.cells (n*i.size)).toList,v.oneCell'=true:=by
 have gI:=Yl J5 g5;have Ba:z.cells.size=zs.length:=by have:=J5.1;simp at this;omega
 refine⟨⟨by simp[Ke,size_madeCells,g4],fun k c v j1 j2=>?_⟩,fun v hv=>?_⟩
 ·obtain⟨q1,q2⟩:=kN j1
  have h0:0<zs.length:=by
   rcases zzcc zs.length with h0|h0
   ·simp[h0]at q1
   exact h0
  have aa:k%zs.length<z.cells.size:=by rw[Ba];exact zzds _ h0
  have A7:v=z.cells[k%zs.length]:=by
   simp only[madeCells,zzbw,zzge]at j2;rw[zzag (by simp;rw[<- g4];exact q1)]at j2;simp[Ba]at j2;rw[<- j2,getElem!_pos z.cells _ aa]
  subst A7;exact J5.2 _ c _ q2 (by simp[aa])
 simp[madeCells]at hv;obtain⟨k,hk,rfl⟩:=hv
 have h0:0<z.cells.size:=by
  rcases zzcc z.cells.size with h0|h0
  ·rw[h0]at Ba;rw[<- g4,<- Ba]at hk;simp at hk
  exact h0
 have aa:k%z.cells.size<z.cells.size:=zzds _ h0;rw[getElem!_pos z.cells _ aa];exact gI _ zd
def alB{o:Oper}{sz bytes:Nat}{zs:PQ}{x y:bM}(h:tr P o=.mks sz bytes zs x y):∃t l c te i,o.op=.makeSlice t l c/\x=aB l/\y=aB c/\P.underlying t=some (.slice te)/\P.info? te=some i/\sz=i.size/\bytes=i.bytes/\zc P te=some zs:=by
 obtain⟨dst,op,ty,pos,after,guard⟩:=o;cases op
 case makeSlice t l c=>
  simp only[tr]at h;split at h
  ·rename_i te hu;split at h
   ·split at h<;>cases h
   ·rename_i i hi _;split at h
    ·rename_i zs' hz;cases h;exact⟨t,_,_,te,i,rfl,rfl,rfl,hu,hi,rfl,rfl,hz⟩
    cases h
   cases h
  cases h
 case call c=>
  simp only[tr,Zp]at h;repeat' split at h
  all_goals cases h
 case build t parts=>
  simp only[tr,Jy]at h;repeat' split at h
  all_goals cases h
 case slice t x lo hi mx=>cases mx<;>simp only[tr]at h<;>(repeat' split at h)<;>cases h
 case makeFunc fn a b=>cases fn<;>cases h
 case next x s=>cases s<;>cases h
 case makeMap t r=>cases r<;>simp only[tr]at h<;>(repeat' split at h)<;>cases h
 case binOp op t x y t'=>
  simp only[tr,iT,U0,vP]at h;repeat' split at h
  all_goals cases h
 all_goals first|(cases h;done)|(
  simp only[tr]at h;repeat' split at h
  all_goals cases h)
def wC(c:Call)(zs:PQ):Zp P c≠.alloc zs:=by
 intro h;obtain⟨callee,args,ts⟩:=c;cases callee with
 |builtin b=>cases b<;>simp only[Zp]at h<;>(repeat' split at h)<;>cases h
 |_=>cases h
def C7(c:Call)(x:bM):Zp P c≠.box x:=by
 intro h;obtain⟨callee,args,ts⟩:=c;cases callee with
 |builtin b=>cases b<;>simp only[Zp]at h<;>(repeat' split at h)<;>cases h
 |_=>cases h
def Wb{o:Oper}{zs:PQ}(h:tr P o=.alloc zs):∃t,o.op=.alloc t/\zc P t=some zs:=by
 obtain⟨dst,op,ty,pos,after,guard⟩:=o;cases op
 case alloc t=>
  simp only[tr]at h;split at h
  ·rename_i zs' hz;cases h;exact⟨t,rfl,hz⟩
  cases h
 case call c=>exact absurd h (wC c zs)
 case build t parts=>
  simp only[tr,Jy]at h;repeat' split at h
  all_goals cases h
 case slice t x lo hi mx=>cases mx<;>simp only[tr]at h<;>(repeat' split at h)<;>cases h
 case makeFunc fn a b=>cases fn<;>cases h
 case next x s=>cases s<;>cases h
 case makeMap t r=>cases r<;>simp only[tr]at h<;>(repeat' split at h)<;>cases h
 case binOp op t x y t'=>
  simp only[tr,iT,U0,vP]at h;repeat' split at h
  all_goals cases h
 all_goals first|(cases h;done)|(
  simp only[tr]at h;repeat' split at h
  all_goals cases h)
def alC{o:Oper}{x:bM}(h:tr P o=.box x):∃t y,o.op=.box t y/\x=aB y:=by
 obtain⟨dst,op,ty,pos,after,guard⟩:=o;cases op
 case box t y=>cases h;exact⟨t,y,rfl,rfl⟩
 case call c=>exact absurd h (C7 c x)
 case build t parts=>
  simp only[tr,Jy]at h;repeat' split at h
  all_goals cases h
 case slice t x lo hi mx=>cases mx<;>simp only[tr]at h<;>(repeat' split at h)<;>cases h
 case makeFunc fn a b=>cases fn<;>cases h
 case next x s=>cases s<;>cases h
 case makeMap t r=>cases r<;>simp only[tr]at h<;>(repeat' split at h)<;>cases h
 case binOp op t x y t'=>
  simp only[tr,iT,U0,vP]at h;repeat' split at h
  all_goals cases h
 all_goals first|(cases h;done)|(
  simp only[tr]at h;repeat' split at h
  all_goals cases h)
def awO(hc:zq ops p=true){listed:Array Bool}(hsz:listed.size=ops.size){i:Nat}{o:Oper}(ho:ops[i]?=some o)(dH:i<p)(hu:listed.getD i true=false)(bX:∀j∈Xy o,listed.getD j false=true)
  {t:Nat}(ht:t∈o.looksAt ops):(Xe P gl orc ops T0 m i).1.getD t .junk=At P gl orc ops T0 m p listed t:=by
 have hi:i<ops.size:=(zzbr.1 ho).1;obtain⟨hp,dA⟩:=Zm hc;unfold At;by_cases hex:∃j,j<p/\Vp ops j=some t/\j≠i
 ·obtain⟨j,hj,hd,aJ⟩:=hex;obtain⟨AU,hja⟩:=((dA i o ho).2.1 dH).1 t ht j hj hd aJ
  have hw:wr ops p listed t=true:=by
   unfold wr;rw[zzbv];exact⟨j,zzba.2 hj,by rw[bX j hja,hd];simp⟩
  rw[if_pos hw]
  have:=kP (P:=P) (gl:=gl) (orc:=orc) (ops:=ops) (T0:=T0) (m:=m) (t:=t) (k:=i) (p-i) fun k dF ey NX=>by
   have hk:k<ops.size:=zE
   have NY:ops[k]?=some ops[k]:=zzag hk;have:=((dA k _ NY).2.1 zE).2 j zE t hd;simp[Vp,NY]at NX;exact this NX
  rw[show i+(p-i)=p by omega]at this;exact this.symm
 have hw:wr ops p listed t=false:=by
  unfold wr;rw[zzec];intro j hj;simp only[zzai,beq_iff_eq,not_and];intro hl hd;by_cases AU:j=i
  ·subst AU;rw[Qy zE false true,hu]at hl;cases hl
  exact hex ⟨j,zzba.1 hj,hd,AU⟩
 rw[hw];simp only[zzbp,if_false];exact Qdy i fun j hj hd=>hex ⟨j,zE,hd,zE⟩
def alD(hc:zq ops p=true){listed:Array Bool}(hsz:listed.size=ops.size){i:Nat}{o:Oper}(ho:ops[i]?=some o)(dH:i<p){t:Nat}:
  At P gl orc ops T0 m p (listed.setIfInBounds i true) t=if o.dst=some t/\t<T0.length then(dop P gl orc (Xf P ops o) (Xe P gl orc ops T0 m i).1 m (Xe P gl orc ops T0 m i).2).2.1 else At P gl orc ops T0 m p listed t:=by
 have hi:i<ops.size:=(zzbr.1 ho).1;obtain⟨hp,dA⟩:=Zm hc;by_cases hd:o.dst=some t
 ·have hw:wr ops p (listed.setIfInBounds i true) t=true:=by
   unfold wr;rw[zzbv];exact⟨i,zzba.2 dH,by rw[Xq zE];simp[Vp,ho,hd]⟩
  have hl:=kP (P:=P) (gl:=gl) (orc:=orc) (ops:=ops) (T0:=T0) (m:=m) (t:=t) (k:=i+1) (p-(i+1)) fun k dF ey NX=>by
   have hk:k<ops.size:=zE
   have NY:ops[k]?=some ops[k]:=zzag hk;have:=((dA k _ NY).2.1 zE).2 i zE t (by simp[Vp,ho,hd]);simp[Vp,NY]at NX;exact this NX
  rw[show i+1+(p-(i+1))=p by omega]at hl;by_cases ht:t<T0.length
  ·rw[if_pos ⟨hd,ht⟩];unfold At;rw[if_pos hw,hl,Kz ho,hd];exact lZ (by rw[je];exact ht)
  rw[if_neg (by simp[ht])]
  have h1:∀k,(Xe P gl orc ops T0 m k).1.getD t .junk=.junk:=fun k=>by
   have:=je (P:=P) (gl:=gl) (orc:=orc) (ops:=ops) (T0:=T0) (m:=m) k;simp only[List.getD];rw[zzau zE];rfl
  have h2:T0.getD t .junk=.junk:=h1 0;unfold At;rw[h1 p,h2];simp
 rw[if_neg (by simp[hd])]
 have hw:wr ops p (listed.setIfInBounds i true) t=wr ops p listed t:=by
  unfold wr;congr 1;funext j;by_cases hj:j=i
  ·subst hj;have hb:(o.dst==some t)=false:=by simpa using hd
   simp[Vp,ho,hb]
  rw[Qt hj]
 unfold At;rw[hw]
def KF(hc:zq ops p=true){Q:QR}{listed:Array Bool}{γ:G}{w:World}{a:Act}(hI:QI N w0 r an S Y P gl orc ops T0 m p listed γ w a){i:Nat}{o:Oper}(ho:ops[i]?=some o)(dH:i<p)
  (hu:listed.getD i true=false)(bX:∀j∈Xy o,listed.getD j false=true)(bV:(dop P gl orc (Xf P ops o) (Xe P gl orc ops T0 m i).1 m (Xe P gl orc ops T0 m i).2).1):
  wpOpIn (FW r) 0 P ops Q i (fun a' w'=>∃γ',QI N w0 r an S Y P gl orc ops T0 m p (listed.setIfInBounds i true) γ' w' a') a w:=by
 have hi:i<ops.size:=(zzbr.1 ho).1
 have zN:∀t∈o.looksAt ops,au w γ ((Xe P gl orc ops T0 m i).1.getD t .junk) (a.tmps.getD t undef):=fun t ht=>by
  rw[awO (P:=P) (gl:=gl) (orc:=orc) (T0:=T0) (m:=m) hc hI.size ho dH hu bX ht];exact hI.tt t
 have eC:∀x∈o.op.operands,au w γ (ev gl (Xe P gl orc ops T0 m i).1 (aB x)) (a.eval x):=fun x hx=>by
  cases x with
  |tmp t=>exact zN t (by simp only[Oper.looksAt,zzap,zzfk];exact .inl ⟨.tmp t,Pi hx,rfl⟩)
  |const v=>exact Js w γ v
  |func f=>exact .fn rfl (fun i c v h=>by simp at h) rfl fun i c v h=>by simp at h
  |global g=>exact(hI.g g).gF
 have hB:∀id cells,m.boxes[id]?=some cells->Bg P gl orc ops T0 m p listed id=some cells:=fun id cells h=>aej h
 have fin:∀{v:Value}{w':World}{γ':G},Ev w γ w' γ'->aq N w0 an γ' w' (Bg P gl orc ops T0 m p (listed.setIfInBounds i true)) m.L->
   au w' γ' (dop P gl orc (Xf P ops o) (Xe P gl orc ops T0 m i).1 m (Xe P gl orc ops T0 m i).2).2.1 v->∃γ',QI N w0 r an S Y P gl orc ops T0 m p (listed.setIfInBounds i true) γ' w' (a.put o.dst v):=fun{v w' γ'}he hm hr=>by
  refine⟨γ',by simp[hI.size],fun j dL ot=>by rw[Qt zE];exact hI.tail j dL ot,FA.set hI.clo ho (by rw[hI.size];exact hi) bX,hm,hI.ls.mono he,hI.rd.aV he.cL,?_,fun t=>?_,?_,fun g=>(hI.g g).mono he.cW,hI.y.mono he.cL,hI.e.trans he.cL⟩
  ·cases hd:o.dst<;>simp[Act.put,hI.tl]
  ·rw[alD hc hI.size ho dH];by_cases hd:o.dst=some t
   ·by_cases ht:t<T0.length
    ·rw[if_pos ⟨hd,ht⟩,hd];have:(a.put (some t) v).tmps.getD t undef=v:=by simp[Act.put,hI.tl,ht]
     rw[this];exact hr
    rw[if_neg (by simp[ht]),hd];have:(a.put (some t) v).tmps.getD t undef=a.tmps.getD t undef:=by simp[Act.put,hI.tl,ht]
    rw[this];exact(hI.tt t).mono he
   rw[if_neg (by simp[hd])]
   have:(a.put o.dst v).tmps.getD t undef=a.tmps.getD t undef:=by
    cases zI:o.dst with
    |none=>rfl
    |some d=>simp only[Act.put];simp;rw[zzco (by rintro rfl;exact hd zI)]
   rw[this];exact(hI.tt t).mono he
  cases hd:o.dst<;>exact hI.d.aV he.cL
 have dR:=Kz (P:=P) (gl:=gl) (orc:=orc) (T0:=T0) (m:=m) ho
 have QK:∀cells,(dop P gl orc (Xf P ops o) (Xe P gl orc ops T0 m i).1 m (Xe P gl orc ops T0 m i).2).2.2=(Xe P gl orc ops T0 m i).2++[cells]->IP P gl orc ops T0 m i=true/\(Xe P gl orc ops T0 m p).2[kQ P gl orc ops T0 m i]?=some cells:=fun cells h=>by
  refine⟨by simp only[IP,kQ,dR,h];simp,?_⟩;have:=V9 (P:=P) (gl:=gl) (orc:=orc) (ops:=ops) (T0:=T0) (m:=m) (i:=i+1) (p-(i+1)) (q:=kQ P gl orc ops T0 m i) (c:=cells) (by rw[dR];simp only[h,kQ];simp);rwa [show i+1+(p-(i+1))=p by omega]at this
 have oV:(dop P gl orc (Xf P ops o) (Xe P gl orc ops T0 m i).1 m (Xe P gl orc ops T0 m i).2).2.2=(Xe P gl orc ops T0 m i).2->Bg P gl orc ops T0 m p (listed.setIfInBounds i true)=Bg P gl orc ops T0 m p listed:=fun h=>
  Wa (by simp only[IP,kQ,dR,h];simp)
 have tO:listed.getD i false=false:=by rw[Qy (by rw[hI.size];exact hi) false true];exact hu
 have box:∀{cells:PQ}{arr:PP}{te:TypeId},ak w γ cells arr.toList->cells.all Qw=true->
   (dop P gl orc (Xf P ops o) (Xe P gl orc ops T0 m i).1 m (Xe P gl orc ops T0 m i).2).2=(.ptr (m.boxes.length+(Xe P gl orc ops T0 m i).2.length) 0,(Xe P gl orc ops T0 m i).2++[cells])->
   (execOp a.eval o).run P w=.ok (.value (.pointer (some ⟨w.heap.size,0,none⟩))) (w.alloc (.cells arr te))->
   o.wpIn (FW r) 0 P a w (fun a' w'=>∃γ',QI N w0 r an S Y P gl orc ops T0 m p (listed.setIfInBounds i true) γ' w' a') Q:=fun{cells arr te}hr bO hd aX=>by
  obtain⟨qM,eP⟩:=QK cells (by rw[hd]);have aM:=Bh (p:=p) qM tO;refine Zj aX (fin (hI.mm.dB _ aM _) ?_ ?_)
  ·rw[NW dH (by rw[hI.size];exact hi) qM eP];exact hI.mm.fH _ aM hr.toP (Yl hr bO)
  rw[hd];exact .ptr (by simp[G.box,kQ])
 simp only[wpOpIn,ho];cases hg:o.guard with
 |none=>
  have hw:Region.wanted o (yielded ops a.tmps)=true:=by simp[Region.wanted,hg]
  rw[if_pos hw];have e1:(Xf P ops o).guard=none:=by simp[Xf,hg]
  cases Wc:tr P o with
  |alloc zs=>
   have hd:dop P gl orc (Xf P ops o) (Xe P gl orc ops T0 m i).1 m (Xe P gl orc ops T0 m i).2=(zs.all Qw=true,.ptr (m.boxes.length+(Xe P gl orc ops T0 m i).2.length) 0,(Xe P gl orc ops T0 m i).2++[zs]):=by
    have e2:(Xf P ops o).op=.alloc zs:=Wc;simp only[dop,e1,e2]
   rw[hd]at bV;obtain⟨t,Wf,hz⟩:=Wb Wc;obtain⟨i',z,dn,fV,hr⟩:=iY (w:=w) (γ:=γ) hz;refine box (te:=t) hr bV (by rw[hd]) ?_;obtain⟨d',op',ty',are,af',gu'⟩:=o;simp only at Wf;subst Wf;simp[execOp,Instr.alloc,zeroValue,typeInfo,dn,fV,newVar,newRow]
  |box x=>
   have hd:dop P gl orc (Xf P ops o) (Xe P gl orc ops T0 m i).1 m (Xe P gl orc ops T0 m i).2=(bare (ev gl (Xe P gl orc ops T0 m i).1 x)=true/\(cellsOf (ev gl (Xe P gl orc ops T0 m i).1 x)).all Qw=true,
     .ptr (m.boxes.length+(Xe P gl orc ops T0 m i).2.length) 0,(Xe P gl orc ops T0 m i).2++[cellsOf (ev gl (Xe P gl orc ops T0 m i).1 x)]):=by
    have e2:(Xf P ops o).op=.box x:=Wc;simp only[dop,e1,e2]
   rw[hd]at bV;obtain⟨t,y,Wf,rfl⟩:=alC Wc;have hry:=eC y (by rw[Wf];simp[Op.operands]);refine box (te:=t) (kJ hry bV.1) bV.2 (by rw[hd]) ?_;obtain⟨d',op',ty',are,af',gu'⟩:=o;simp only at Wf;subst Wf;simp[execOp,Instr.box,newVar,newRow]
  |mks sz bytes zs x y=>
   obtain⟨t,l,c,te,i',Wf,rfl,rfl,hu,dn,rfl,rfl,CV⟩:=alB Wc;have e2:(Xf P ops o).op=.mks i'.size i'.bytes zs (aB l) (aB c):=Wc;simp only[dop,e1,e2]at bV QK;have hl:=eC l (by rw[Wf];simp[Op.operands]);have hc:=eC c (by rw[Wf];simp[Op.operands]);split at bV
   case h_2=>exact bV.elim
   rename_i k1 n1 k2 n2 q1 q2;rw[q1]at hl;rw[q2]at hc;obtain⟨⟨g0,g1,g2,g3⟩,g4,g5⟩:=bV;obtain⟨i2,z,hi2,hz,J5⟩:=iY (w:=w) (γ:=γ) CV;rw[dn]at hi2;cases hi2
   have hd:dop P gl orc (Xf P ops o) (Xe P gl orc ops T0 m i).1 m (Xe P gl orc ops T0 m i).2=((0<=n1/\n1<=n2/\i'.bytes*n2<=281474976710656/\n2<=9223372036854775807)/\zs.length=i'.size/\zs.all Qw=true,.bs (m.boxes.length+(Xe P gl orc ops T0 m i).2.length) 0 n1.toNat i'.size,(Xe P gl orc ops T0 m i).2++[bG n2.toNat zs]):=by
    simp only[dop,e1,e2,q1,q2]
   have aX:=run_make (P:=P) w t te i' z hu dn hz k1 k2 n1 n2 g0 zE g2 g3;obtain⟨lG,gX⟩:=aem (P:=P) (te:=te) (n:=n2.toNat) J5 g5 g4;obtain⟨qM,eP⟩:=QK (bG n2.toNat zs) (by simp only[q1,q2]);have aM:=Bh (p:=p) qM tO
   have arf:(execOp a.eval o).run P w=.ok (.value (.slice (some ⟨w.heap.size,0,none⟩) n1.toNat n2.toNat)) (w.alloc (.cells (madeCells z.cells (n2.toNat*i'.size)) te)):=by
    obtain⟨d',op',ty',are,af',gu'⟩:=o;simp only at Wf;subst Wf;simp[execOp,hl.aI,hc.aI,aX]
   refine Zj arf (fin (hI.mm.dB _ aM _) ?_ ?_)
   ·rw[NW dH (by rw[hI.size];exact hi) qM eP];exact hI.mm.fH _ aM lG gX
   rw[hd];exact .bs (arr:=madeCells z.cells (n2.toNat*i'.size)) (e:=te) (by simp[G.box,kQ]) zE (by show(w.heap.push _)[w.heap.size]?=_;simp) (by rw[zzbm,size_madeCells];exact zzaa _)
  |_=>
   have hd:dop P gl orc (Xf P ops o) (Xe P gl orc ops T0 m i).1 m (Xe P gl orc ops T0 m i).2=((rop P gl orc (ev gl (Xe P gl orc ops T0 m i).1) m o.dst (tr P o)).1,(rop P gl orc (ev gl (Xe P gl orc ops T0 m i).1) m o.dst (tr P o)).2,(Xe P gl orc ops T0 m i).2):=by
    have e2:(Xf P ops o).op=tr P o:=rfl;rw[Wc]at e2;simp only[dop,e1,e2,Wc];rfl
   rw[hd]at bV;have zu:=oV (by rw[hd]);rw[hd,zu]at fin;exact Qcs hI.mm hB hI.g eC bV r _ Q fun v w' γ' h1 h2 h3=>fin h1 h2 h3
 |some q=>
  obtain⟨j,want⟩:=q;have e1:(Xf P ops o).guard=some ((ops[j]?).bind (·.dst),want):=by simp[Xf,hg]
  cases hj:(ops[j]?).bind (·.dst)with
  |none=>
   rw[hj]at e1;simp only[dop,e1]at bV
  |some t=>
   rw[hj]at e1;have iJ:t∈o.looksAt ops:=by simp[Oper.looksAt,hg,hj]
   have bk:=zN t iJ;cases o6:IL want ((Xe P gl orc ops T0 m i).1.getD t .junk)with
   |none=>simp only[dop,e1,o6]at bV
   |some gw=>
    have hd:dop P gl orc (Xf P ops o) (Xe P gl orc ops T0 m i).1 m (Xe P gl orc ops T0 m i).2=(gok gl (Xe P gl orc ops T0 m i).1 gw (gxs (tr P o) (Xf P ops o).xs)/\(gw=true->(rop P gl orc (evG gl (Xe P gl orc ops T0 m i).1 (tr P o)) m o.dst (tr P o)).1),
      .gd gw (rop P gl orc (evG gl (Xe P gl orc ops T0 m i).1 (tr P o)) m o.dst (tr P o)).2,(Xe P gl orc ops T0 m i).2):=by
     simp only[dop,e1,o6];rfl
    rw[hd]at bV;have zu:=oV (by rw[hd]);rw[hd,zu]at fin
    have V4:Region.wanted o (yielded ops a.tmps)=gw:=by
     have hyv:∀b,a.tmps.getD t undef=.bool b->yielded ops a.tmps j=some b:=fun b hb=>by
      have bK:t<a.tmps.size:=by
       rcases zzab t a.tmps.size with h|h
       ·exact h
       simp[zzbt h,undef]at hb
      simp[bK]at hb;simp only[yielded,hj,zzcw,zzag bK,hb]
     have hyu:a.tmps.getD t undef=undef->yielded ops a.tmps j=none:=fun hb=>by
      rcases zzab t a.tmps.size with bK|h
      ·simp[bK]at hb;simp only[yielded,hj,zzcw,zzag bK,hb];rfl
      simp only[yielded,hj,zzcw,zzbt h]
     generalize(Xe P gl orc ops T0 m i).1.getD t .junk=gv at o6 bk;cases gv with
     |bool g=>
      simp only[IL,Option.some.injEq]at o6;subst o6;simp only[Region.wanted,hg,hyv g bk.bz];cases g<;>cases want<;>rfl
     |gd d x=>
      cases d with
      |false=>
       simp only[Region.wanted,hg,hyu bk.NO];cases x<;>simp[IL]at o6<;>subst o6<;>cases want<;>rfl
      |true=>
       cases x<;>simp[IL]at o6;rename_i b;subst o6;simp only[Region.wanted,hg,hyv b (bk.CS rfl).bz];cases b<;>cases want<;>rfl
     |_=>simp[IL]at o6
    rw[V4];obtain⟨h1,h2⟩:=bV;cases SU:gw with
    |true=>
     rw[SU]at h1 h2 fin;simp only[if_true];refine Qcs (e:=evG gl (Xe P gl orc ops T0 m i).1 (tr P o)) hI.mm hB hI.g (fun x hx=>?_) (h2 rfl) r _ Q fun v w' γ' q1 q2 q3=>fin q1 q2 (.gd (fun _=>q3) (fun h=>by cases h));unfold evG;cases eX:rawOp (tr P o)with
     |true=>exact eC x hx
     |false=>
      refine Be (eC x hx) fun g' b hgb=>C3 h1 (aB x) ?_ g' b hgb rfl;simp only[gxs,eX,cond_false];simp[Xf,hg];exact⟨x,Pi hx,rfl⟩
    |false=>
     rw[SU]at fin;simp only[zzbp,if_false];exact⟨fun _ _=>trivial,fin (Ev.refl _ _) hI.mm (.gd (fun h=>by cases h) (fun _=>rfl))⟩
def FC{Q:QR}{K:AS->Prop}(hQ:∀γ w s a,K s->dP N w0 r an S P gl Y γ w s a->Q .normal a w)(hc:zq ops p=true)
  (alE:∀i o,i<p->ops[i]?=some o->(dop P gl orc (Xf P ops o) (Xe P gl orc ops T0 m i).1 m (Xe P gl orc ops T0 m i).2).1)
  (arh:Ze P gl orc Y ((ops.toList.drop p).map (Xf P ops)) ⟨(Xe P gl orc ops T0 m p).1,{m with boxes:=m.boxes++(Xe P gl orc ops T0 m p).2}⟩ K):
  ∀(aZ:Nat)(listed:Array Bool)(γ:G)(w:World)(a:Act),QI N w0 r an S Y P gl orc ops T0 m p listed γ w a->uc ops listed<=aZ->wpAnyIn (FW r) 0 P .any ops Q aZ listed a w:=by
 obtain⟨hp,dA⟩:=Zm hc
 have full:∀(aZ:Nat)(listed:Array Bool)(γ:G)(w:World)(a:Act),QI N w0 r an S Y P gl orc ops T0 m p listed γ w a->uc ops listed<=aZ->(∀i,i<p->listed.getD i false=true)->wpAnyIn (FW r) 0 P .any ops Q aZ listed a w:=by
  intro aZ listed γ w a hI jg bD;refine Qdn hQ hc aZ p listed γ w _ a (zzaa _) hp hI.size bD hI.tail jg arh ⟨?_,hI.ls,hI.rd,⟨?_,fun t x v hx hv=>?_⟩,hI.d,hI.g,hI.y,hI.e⟩
  ·have:=hI.mm;rw[ael bD]at this;exact this
  ·simp[je,hI.tl]
  have h1:=hI.tt t
  have hAt:At P gl orc ops T0 m p listed t=x:=by
   have kH:(Xe P gl orc ops T0 m p).1.getD t .junk=x:=by simp only at hx;simp[List.getD,hx]
   unfold At;split
   ·exact kH
   rename_i hw;rw[<- kH];refine(Qdy p fun j hj hd=>hw ?_).symm;unfold wr;rw[zzbv];exact⟨j,zzba.2 hj,by rw[bD j hj,hd];simp⟩
  rw[hAt]at h1;have:a.tmps.getD t undef=v:=by simp at hv;simp[hv]
  rwa [this]at h1
 intro aZ;induction aZ with
 |zero=>
  intro listed γ w a hI jg
  exact full 0 listed γ w a hI jg fun i hi=>by
   rw[Qy (by rw[hI.size];omega) false true];exact Qdm (zzfe.1 jg) zE
 |succ aZ ih=>
  intro listed γ w a hI jg;by_cases bD:∀i,i<p->listed.getD i false=true
  ·exact full (aZ+1) listed γ w a hI jg bD
  have hex:∃k,k<p/\listed.getD k true=false:=by
   refine Classical.byContradiction fun hn=>bD fun i hi=>?_;rw[Qy (by rw[hI.size];omega) false true];cases hl:listed.getD i true with
   |true=>rfl
   |false=>exact absurd ⟨i,hi,hl⟩ hn
  obtain⟨k,hk,Wg⟩:=hex;refine⟨fun hr=>?_,fun i hi=>?_⟩
  ·obtain⟨j,hj⟩:=Uk hc hI.size k k (zzaa _) zE Wg;rw[hr]at hj;cases hj
  obtain⟨aa,hu,o,ho,bX⟩:=Ul hc hi
  have dH:i<p:=by
   rcases zzab i p with h|h
   ·exact h
   have:=Qay hI.clo ho ((dA i o ho).2.2 h) bX i k zE zE;rw[Qy (by rw[hI.size];omega) false true,Wg]at this;cases this
  refine wpOpIn_mono ?_ (KF hc hI ho dH hu bX (alE i o dH ho));rintro a' w' ⟨γ',lI⟩;refine ih _ γ' w' a' lI ?_;have:=jf hI.size aa hu;omega
def wD{Q:QR}{K:AS->Prop}{γ:G}{w:World}{s:AS}{a:Act}(hQ:∀γ w s a,K s->dP N w0 r an S P gl Y γ w s a->Q .normal a w)(hc:zq ops p=true)
  (h:vcD P gl orc Y ((ops.toList.drop p).map (Xf P ops)) K ((ops.toList.take p).map (Xf P ops)) s.T s.m [])(hs:dP N w0 r an S P gl Y γ w s a):
  wpAnyIn (FW r) 0 P .any ops Q ops.size (Array.replicate ops.size false) a {w with drawn:=w.drawn+1}:=by
 have hp:=(Zm hc).1;obtain⟨h1,h2⟩:=NU (P:=P) (gl:=gl) (orc:=orc) (T0:=s.T) (m:=s.m) ((ops.toList.drop p).map (Xf P ops)) K hp p 0 zd (by rw[zzd];exact h);refine FC (T0:=s.T) (m:=s.m) hQ hc (fun i o hi ho=>h1 i o (zzbi _) hi ho) h2 ops.size _ γ w.drew a ⟨zd,fun i _ hi=>by simp[hi],fun i o h=>(by rcases zzab i ops.size with h'|h'<;>simp[h']at h),?_,hs.ls.mono (Ev.drew w γ),hs.rd.aV (Ev.drew w γ).cL,?_,fun t=>?_,hs.d.aV (Ev.drew w γ).cL,fun g=>(hs.g g).mono (Ev.drew w γ).cW,hs.y.mono (Ev.drew w γ).cL,hs.e.trans (Ev.drew w γ).cL⟩ ?_
 ·have hB:Bg P gl orc ops s.T s.m p (Array.replicate ops.size false)=s.m.B:=by
   funext id;unfold Bg;simp only[AM.B];split
   ·rfl
   rename_i aM;rw[if_neg,zzau zE];rw[zzbv];rintro⟨j,_,hj⟩
   have:(Array.replicate ops.size false).getD j false=false:=by
    rcases zzab j ops.size with h|h<;>simp[h]
   rw[this]at hj;cases hj
  rw[hB];exact hs.m.drew
 ·have:=hs.t.1;simp at this;omega
 ·have hw:wr ops p (Array.replicate ops.size false) t=false:=by
   unfold wr;rw[zzec];intro j _
   have:(Array.replicate ops.size false).getD j false=false:=by
    rcases zzab j ops.size with h|h<;>simp[h]
   rw[this];simp
  unfold At;rw[hw];simp only[zzbp,if_false];have:=(hs.t.mono (Ev.drew w γ)).get t;simpa[List.getD]using this
 unfold uc;exact zzb (zzeu) zd
end
def Wr(o:Oper):Bool:=o.guard.isNone
def ari(f:FuncId):Bool:=f==189||f==138||f==85||f==55||f==56
def arj(f:FuncId):Bool:=f==74||f==75
def ai2(o:Oper):Bool:=match o.op with
 |.call ⟨.value (.tmp _),_,_⟩=>o.dst.isSome
 |.call ⟨.value (.func f),_,_⟩=>o.dst.isSome&&ari f
 |.call ⟨.builtin .copy,_,_⟩=>true
 |.call ⟨.builtin .append,_,_⟩=>o.dst.isSome
 |.store _ _ _=>true
 |.mapUpdate _ _ _ _=>true
 |.mapEntry _ _ _=>true
 |.entryStore _ _ _ _=>true
 |_=>false
def C8(o:Oper):Bool:=ai2 o||(match o.op with
 |.alloc _|.box _ _|.makeMap _ _|.range _ _=>true
 |_=>false)
def ark(f:FuncId):Bool:=f==0
def arl(o:Oper):Bool:=match o.op with
 |.call ⟨.value (.func f),_,_⟩=>ark f
 |_=>false
def eD(ops:Array Oper)(p:Oper->Bool)(i:Nat):Bool:=match ops[i]? with
 |some o=>p o
 |none=>false
def QL(ops:Array Oper):P1->Bool
 |j::j'::r=>(match ops[j']? with|some o=>(Xy o).contains j|none=>false)&&QL ops (j'::r)
 |_=>true
def nr(ops:Array Oper)(p:Nat):Option (P1):=
 let js:=(List.range p).filter (eD ops C8)
 if(List.range p).any (eD ops ai2)&&QL ops js&&((List.range p).all (eD ops Wr)||(List.range p).any (eD ops arl))&&(List.range p).all (fun i=>ops[i]?.isSome)then some js else none
inductive Fg
 |eff
 |pre
 |oth
def FD(ops:Array Oper):Nat->P1->P1
 |0,s=>s
 |k+1,s=>bif s.any fun i=>wz ops i k then FD ops k (k::s)else FD ops k s
def uz{ops:Array Oper}{listed:Array Bool}(h:FA ops listed):∀(k:Nat)(s:P1),(∀i∈s,listed.getD i false=true)->∀i∈FD ops k s,listed.getD i false=true
 |0,_,hs,i,hi=>hs i hi
 |k+1,s,hs,i,hi=>by
  simp only[FD]at hi;cases hc:s.any fun i=>wz ops i k with
  |false=>rw[hc]at hi;exact uz h k s hs i hi
  |true=>
   rw[hc]at hi;refine uz h k (k::s) (fun j hj=>?_) i hi;rcases zzao.1 hj with rfl|hj
   ·obtain⟨x,hx,hw⟩:=zzbv.1 hc;unfold wz at hw;split at hw
    ·rename_i o ho;exact h x o (hs x hx) ho j (Pi hw)
    cases hw
   exact hs j hj
def me(ops:Array Oper)(js:P1)(i:Nat):Bool:=match js with
 |j::_=>(FD ops j [j]).contains i
 |[]=>false
def Jm(ops:Array Oper)(js:P1)(i:Nat):Fg:=bif js.contains i then .eff else bif me ops js i then .pre else .oth
def flags(ops:Array Oper)(p:Nat)(js:P1):List Fg:=(List.range p).map (Jm ops js)
section
variable (P:Program) (gl:Nat->AV) (orc:X1) (Y:YT)
def memEff:aF->Bool
 |.store _ _ _|.cpy _ _ _|.mupd _ _ _ _|.ment _ _ _ _|.esto _ _ _|.alloc _|.box _|.mkmap _|.rng _|.app _ _ _ _=>true
 |_=>false
def effV(v:AV):aF->AV
 |.alloc _|.box _|.mkmap _|.rng _|.ment _ _ _ _|.app _ _ _ _=>v
 |_=>.junk
def effC(e:bM->AV)(m:AM)(dst:Option Nat)(av:AV)(m1:AM):aF->Prop
 |.call f args=>(match e f with
  |.fn g first cap=>aA P gl Y g (first++args.map e++cap) m (fun x m2=>x=av/\m2=m1)
  |_=>False)
 |so=>memEff so=true/\(sop P gl orc e m dst so).1/\av=effV (sop P gl orc e m dst so).2.1 so/\m1=(sop P gl orc e m dst so).2.2
def Vx(T:PQ)(o:SO):Prop:=match o.guard with
 |none=>True
 |some (some t,b)=>T.getD t .junk=.bool b
 |some (none,_)=>False
def uA(l2:List SO)(K:AS->Prop)(m:AM)(ms:So):List SO->List Fg->So->AM->PQ->Prop
 |[],_,q,mc,T=>q=[]/\Ze P gl orc Y l2 ⟨T,mc⟩ K
 |_::_,[],_,_,_=>False
 |o::r,.eff::fl,q,mc,T=>(match q with
  |[]=>False
  |x::q=>Vx T o/\effC P gl orc Y (ev gl T) mc o.dst x.1 x.2 o.op/\uA l2 K m ms r fl q x.2 (put T o.dst x.1))
 |o::r,.pre::fl,q,mc,T=>Vx T o/\(rop P gl orc (ev gl T) m o.dst o.op).1/\uA l2 K m ms r fl q mc (put T o.dst (rop P gl orc (ev gl T) m o.dst o.op).2)
 |o::r,.oth::fl,q,mc,T=>Vx T o/\(rop P gl orc (ev gl T) m o.dst o.op).1/\(∀x∈ms,rop P gl orc (ev gl T) x.2 o.dst o.op=rop P gl orc (ev gl T) m o.dst o.op)/\uA l2 K m ms r fl q mc (put T o.dst (rop P gl orc (ev gl T) m o.dst o.op).2)
def rdC(e:bM->AV)(m:AM)(dst:Option Nat)(x:AM):aF->Prop
 |.call f args=>(match e f with
  |.fn g first cap=>aA P gl Y g (first++args.map e++cap) x (fun y m2=>y=(rop P gl orc e m dst (.call f args)).2/\m2=x)
  |_=>False)
 |_=>False
def arn(m:AM)(ms:So)(e:bM->AV)(dst:Option Nat)(so:aF):Prop:=
 ((rop P gl orc e m dst so).1/\∀x∈ms,rop P gl orc e x.2 dst so=rop P gl orc e m dst so)\/(rdC P gl orc Y e m dst m so/\∀x∈ms,rdC P gl orc Y e m dst x.2 so)
def iK(l2:List SO)(K:AS->Prop)(m:AM)(ms:So):List SO->List Fg->So->AM->PQ->Prop
 |[],_,q,mc,T=>q=[]/\Ze P gl orc Y l2 ⟨T,mc⟩ K
 |_::_,[],_,_,_=>False
 |o::r,.eff::fl,q,mc,T=>(match q with
  |[]=>False
  |x::q=>Vx T o/\effC P gl orc Y (ev gl T) mc o.dst x.1 x.2 o.op/\iK l2 K m ms r fl q x.2 (put T o.dst x.1))
 |o::r,.pre::fl,q,mc,T=>Vx T o/\(rop P gl orc (ev gl T) m o.dst o.op).1/\iK l2 K m ms r fl q mc (put T o.dst (rop P gl orc (ev gl T) m o.dst o.op).2)
 |o::r,.oth::fl,q,mc,T=>Vx T o/\arn P gl orc Y m ms (ev gl T) o.dst o.op/\iK l2 K m ms r fl q mc (put T o.dst (rop P gl orc (ev gl T) m o.dst o.op).2)
def NZ{l2:List SO}{K:AS->Prop}{m:AM}{ms:So}:∀{l:List SO}{fl:List Fg}{q:So}{mc:AM}{T:PQ},uA P gl orc Y l2 K m ms l fl q mc T->iK P gl orc Y l2 K m ms l fl q mc T
 |[],fl,q,mc,T,h=>by simp only[uA]at h;simp only[iK];exact h
 |_::_,[],_,_,_,h=>by simp only[uA]at h
 |o::r,.eff::fl,[],mc,T,h=>by simp only[uA]at h
 |o::r,.eff::fl,x::q,mc,T,h=>by
  simp only[uA]at h;simp only[iK];exact⟨h.1,h.2.1,NZ h.2.2⟩
 |o::r,.pre::fl,q,mc,T,h=>by
  simp only[uA]at h;simp only[iK];exact⟨h.1,h.2.1,NZ h.2.2⟩
 |o::r,.oth::fl,q,mc,T,h=>by
  simp only[uA]at h;simp only[iK];exact⟨h.1,.inl ⟨h.2.1,h.2.2.1⟩,NZ h.2.2.2⟩
end
def KG:R0->Nat->Option AV
 |[],_=>none
 |(k,a)::r,d=>if k=d then some a else KG r d
def Xb:P1->So->R0
 |j::js,x::q=>(j,x.1)::Xb js q
 |_,_=>[]
def Yy(listed:Array Bool):AM->P1->So->AM
 |m,j::js,x::q=>if listed.getD j false then Yy listed x.2 js q else m
 |m,_,_=>m
def Vt(m:AM)(ms:So):Nat->AM
 |0=>m
 |a+1=>(ms.getD a (.junk,m)).2
def chn(listed:Array Bool):P1->Prop
 |j::j'::r=>(listed.getD j' false=true->listed.getD j false=true)/\chn listed (j'::r)
 |_=>True
section
variable {N:Nat} {w0:fc} {r:Option Nat} {an:Nat->Nat->Prop} {S:G×World} {Y:YT} {P:Program} {gl:Nat->AV} {orc:X1} {ops:Array Oper} {T0:PQ} {m:AM} {p:Nat}
def wE(listed:Array Bool):∀(js:P1)(ms:So)(m:AM),Yy listed m js ms=m\/∃x∈ms,Yy listed m js ms=x.2
 |[],ms,m=>.inl (by cases ms<;>rfl)
 |j::js,[],m=>.inl rfl
 |j::js,x::q,m=>by
  simp only[Yy];split
  ·rcases wE listed js q x.2 with h|⟨y,hy,h⟩
   ·exact .inr ⟨x,zd,h⟩
   exact .inr ⟨y,by simp[hy],h⟩
  exact .inl rfl
def Uw{listed:Array Bool}:∀{js:P1}{ms:So}{m:AM}{a:Nat},js.length=ms.length->a<=js.length->(∀b j,b<a->js[b]?=some j->listed.getD j false=true)->(∀j,js[a]?=some j->listed.getD j false=false)->
  Yy listed m js ms=Vt m ms a
 |[],[],m,a,_,ha,_,_=>by
  have:a=0:=by simpa using ha
  subst this;rfl
 |[],_::_,_,_,h,_,_,_=>by simp at h
 |_::_,[],_,_,h,_,_,_=>by simp at h
 |j::js,x::q,m,0,_,_,_,h=>by
  simp only[Yy,Vt];rw[h j rfl];rfl
 |j::js,x::q,m,a+1,hl,ha,h1,h2=>by
  simp only[Yy];rw[h1 0 j zE rfl,if_pos rfl];rw[Uw (a:=a) (Pi hl) (Pi ha) (fun b j hb hj=>h1 (b+1) j zE (Pi hj)) (fun j hj=>h2 j (Pi hj))];cases a with
  |zero=>rfl
  |succ a=>
   simp only[Vt,List.getD_cons_succ];have:a<q.length:=by simp at ha hl;omega
   simp[List.getD,this]
def qX{listed N0:Array Bool}:∀{js:P1}{ms:So}{m:AM},(∀j∈js,N0.getD j false=listed.getD j false)->Yy N0 m js ms=Yy listed m js ms
 |[],_,_,_=>rfl
 |_::_,[],_,_=>rfl
 |j::js,x::q,m,h=>by
  simp only[Yy];rw[h j zd,qX fun j hj=>h j (by simp[hj])]
def Qbl{listed:Array Bool}:∀{js:P1},chn listed js->∀{a b j j':Nat},a<b->js[a]?=some j->js[b]?=some j'->listed.getD j' false=true->listed.getD j false=true
 |[],_,a,b,j,j',_,h,_,_=>by simp at h
 |[x],_,a,b,j,j',C9,h,h',_=>by
  have:=(zza.1 h').1;simp at this;omega
 |x::y::r,hc,0,1,j,j',_,h,h',hl=>by
  simp at h h';subst h;subst h';exact hc.1 hl
 |x::y::r,hc,0,b+2,j,j',_,h,h',hl=>by
  simp at h;subst h;exact hc.1 (Qbl hc.2 (a:=0) (b:=b+1) zE rfl (Pi h') hl)
 |x::y::r,hc,a+1,b+1,j,j',C9,h,h',hl=>Qbl hc.2 (a:=a) (b:=b) zE (Pi h) (Pi h') hl
def uB{listed:Array Bool}{i:Nat}:∀{js:P1},chn listed js->(∀a j,js[a]?=some j->js[a+1]?=some i->listed.getD j false=true)->chn (listed.setIfInBounds i true) js
 |[],_,_=>trivial
 |[_],_,_=>trivial
 |j::j'::r,hc,h=>by
  refine⟨fun hl=>?_,uB hc.2 fun a x hx kH=>h (a+1) x (Pi hx) (Pi kH)⟩
  have mono:∀k,listed.getD k false=true->(listed.setIfInBounds i true).getD k false=true:=fun k hk=>by
   by_cases qW:i=k
   ·subst qW
    have:i<listed.size:=by
     rcases zzab i listed.size with h|h
     ·exact h
     simp[zzbn.2 h]at hk
    exact Xq this
   rw[Qt (Ne.symm qW)];exact hk
  by_cases fL:i=j'
  ·subst fL;exact mono j (h 0 j rfl rfl)
  rw[Qt (Ne.symm fL)]at hl;exact mono j (hc.1 hl)
def Uu{l:P1}(h:l.Nodup){a b i:Nat}(h1:l[a]?=some i)(h2:l[b]?=some i):a=b:=by
 obtain⟨ha,ea⟩:=zza.1 h1;obtain⟨hb,eb⟩:=zza.1 h2;rcases zzeb a b with h'|h'|h'
 ·exact absurd (ea.trans eb.symm) (zzdr.1 h a b ha hb h')
 ·exact h'
 exact absurd (eb.trans ea.symm) (zzdr.1 h b a hb ha h')
def Da(P:Program)(gl:Nat->AV)(orc:X1)(ops:Array Oper)(m:AM)(L:R0)(i:Nat)(T:PQ):AV:=match KG L i with
 |some av=>av
 |none=>match ops[i]? with
  |some o=>(rop P gl orc (ev gl T) m o.dst (tr P o)).2
  |none=>.junk
def bY(P:Program)(gl:Nat->AV)(orc:X1)(ops:Array Oper)(T0:PQ)(m:AM)(L:R0):Nat->PQ
 |0=>T0
 |k+1=>match ops[k]? with
  |some o=>put (bY P gl orc ops T0 m L k) o.dst (Da P gl orc ops m L k (bY P gl orc ops T0 m L k))
  |none=>bY P gl orc ops T0 m L k
def Qdc{L:R0}{k:Nat}{o:Oper}(h:ops[k]?=some o):bY P gl orc ops T0 m L (k+1)=put (bY P gl orc ops T0 m L k) o.dst (Da P gl orc ops m L k (bY P gl orc ops T0 m L k)):=by
 simp only[bY,h]
def Qdz{L:R0}:∀k,(bY P gl orc ops T0 m L k).length=T0.length
 |0=>rfl
 |k+1=>by
  cases h:ops[k]? with
  |none=>simp only[bY,h];exact Qdz k
  |some o=>rw[Qdc h,wB];exact Qdz k
def Qav{L:R0}{t:Nat}:∀k,(∀j,j<k->Vp ops j≠some t)->(bY P gl orc ops T0 m L (k)).getD t .junk=T0.getD t .junk
 |0,_=>rfl
 |k+1,h=>by
  cases ho:ops[k]? with
  |none=>simp only[bY,ho];exact Qav k fun j hj=>h j zE
  |some o=>
   rw[Qdc ho,Qby (by have:=h k zE;simpa[Vp,ho]using this)];exact Qav k fun j hj=>h j zE
def jh{L:R0}{t k:Nat}:∀n,(∀j,k<=j->j<k+n->Vp ops j≠some t)->(bY P gl orc ops T0 m L (k+n)).getD t .junk=(bY P gl orc ops T0 m L (k)).getD t .junk
 |0,_=>rfl
 |n+1,h=>by
  rw[<- zzan];cases ho:ops[k+n]? with
  |none=>simp only[bY,ho];exact jh n fun j h1 h2=>h j h1 zE
  |some o=>
   rw[Qdc ho,Qby (by have:=h (k+n) zE zE;simpa[Vp,ho]using this)];exact jh n fun j h1 h2=>h j h1 zE
def o7(P:Program)(gl:Nat->AV)(orc:X1)(ops:Array Oper)(T0:PQ)(m:AM)(L:R0)(p:Nat)(listed:Array Bool)(t:Nat):AV:=
 if wr ops p listed t then(bY P gl orc ops T0 m L (p)).getD t .junk else T0.getD t .junk
def ai3{L:R0}(hc:zq ops p=true){listed:Array Bool}(hsz:listed.size=ops.size){i:Nat}{o:Oper}(ho:ops[i]?=some o)(dH:i<p)(hu:listed.getD i true=false)(bX:∀j∈Xy o,listed.getD j false=true)
  {t:Nat}(ht:t∈o.looksAt ops):(bY P gl orc ops T0 m L (i)).getD t .junk=o7 P gl orc ops T0 m L p listed t:=by
 have hi:i<ops.size:=(zzbr.1 ho).1;obtain⟨hp,dA⟩:=Zm hc;unfold o7;by_cases hex:∃j,j<p/\Vp ops j=some t/\j≠i
 ·obtain⟨j,hj,hd,aJ⟩:=hex;obtain⟨AU,hja⟩:=((dA i o ho).2.1 dH).1 t ht j hj hd aJ
  have hw:wr ops p listed t=true:=by
   unfold wr;rw[zzbv];exact⟨j,zzba.2 hj,by rw[bX j hja,hd];simp⟩
  rw[if_pos hw]
  have:=jh (P:=P) (gl:=gl) (orc:=orc) (ops:=ops) (T0:=T0) (m:=m) (L:=L) (t:=t) (k:=i) (p-i) fun k dF ey NX=>by
   have hk:k<ops.size:=zE
   have NY:ops[k]?=some ops[k]:=zzag hk;have:=((dA k _ NY).2.1 zE).2 j zE t hd;simp[Vp,NY]at NX;exact this NX
  rw[show i+(p-i)=p by omega]at this;exact this.symm
 have hw:wr ops p listed t=false:=by
  unfold wr;rw[zzec];intro j hj;simp only[zzai,beq_iff_eq,not_and];intro hl hd;by_cases AU:j=i
  ·subst AU;rw[Qy zE false true,hu]at hl;cases hl
  exact hex ⟨j,zzba.1 hj,hd,AU⟩
 rw[hw];simp only[zzbp,if_false];exact Qav i fun j hj hd=>hex ⟨j,zE,hd,zE⟩
def Db{L:R0}(hc:zq ops p=true){listed:Array Bool}(hsz:listed.size=ops.size){i:Nat}{o:Oper}(ho:ops[i]?=some o)(dH:i<p){t:Nat}:
  o7 P gl orc ops T0 m L p (listed.setIfInBounds i true) t=if o.dst=some t/\t<T0.length then Da P gl orc ops m L i (bY P gl orc ops T0 m L i)else o7 P gl orc ops T0 m L p listed t:=by
 have hi:i<ops.size:=(zzbr.1 ho).1;obtain⟨hp,dA⟩:=Zm hc;by_cases hd:o.dst=some t
 ·have hw:wr ops p (listed.setIfInBounds i true) t=true:=by
   unfold wr;rw[zzbv];exact⟨i,zzba.2 dH,by rw[Xq zE];simp[Vp,ho,hd]⟩
  have hl:=jh (P:=P) (gl:=gl) (orc:=orc) (ops:=ops) (T0:=T0) (m:=m) (L:=L) (t:=t) (k:=i+1) (p-(i+1)) fun k dF ey NX=>by
   have hk:k<ops.size:=zE
   have NY:ops[k]?=some ops[k]:=zzag hk;have:=((dA k _ NY).2.1 zE).2 i zE t (by simp[Vp,ho,hd]);simp[Vp,NY]at NX;exact this NX
  rw[show i+1+(p-(i+1))=p by omega]at hl;by_cases ht:t<T0.length
  ·rw[if_pos ⟨hd,ht⟩];unfold o7;rw[if_pos hw,hl,Qdc ho,hd];exact lZ (by rw[Qdz];exact ht)
  rw[if_neg (by simp[ht])]
  have h1:∀k,(bY P gl orc ops T0 m L (k)).getD t .junk=.junk:=fun k=>by
   have:=Qdz (P:=P) (gl:=gl) (orc:=orc) (ops:=ops) (T0:=T0) (m:=m) (L:=L) k;simp only[List.getD];rw[zzau zE];rfl
  have h2:T0.getD t .junk=.junk:=h1 0;unfold o7;rw[h1 p,h2];simp
 rw[if_neg (by simp[hd])]
 have hw:wr ops p (listed.setIfInBounds i true) t=wr ops p listed t:=by
  unfold wr;congr 1;funext j;by_cases hj:j=i
  ·subst hj;have hb:(o.dst==some t)=false:=by simpa using hd
   simp[Vp,ho,hb]
  rw[Qt hj]
 unfold o7;rw[hw]
structure qY (N:Nat) (w0:fc) (r:Option Nat) (an:Nat->Nat->Prop) (S:G×World) (Y:YT) (P:Program) (gl:Nat->AV) (orc:X1) (ops:Array Oper) (T0:PQ) (m:AM) (ms:So) (js:P1) (L:R0) (p:Nat) (listed:Array Bool) (γ:G) (w:World) (a:Act):Prop where
 size:listed.size=ops.size
 tail:∀i,p<=i->i<ops.size->listed.getD i true=false
 ch:chn listed js
 clo:∀i o,listed.getD i false=true->ops[i]?=some o->∀j∈Xy o,listed.getD j false=true
 mm:aq N w0 an γ w (Yy listed m js ms).B (Yy listed m js ms).L
 ls:cD γ w (Yy listed m js ms)
 rd:Rdr r γ w
 tl:a.tmps.size=T0.length
 tt:∀t,au w γ (o7 P gl orc ops T0 m L p listed t) (a.tmps.getD t undef)
 d:Dfr S.2.heap.size γ w a.defers
 g:∀g,au w γ.cW (gl g) (.pointer (some ⟨g,0,none⟩))
 y:V2 N w0 an P Y γ w
 e:ek S.2 S.1 w γ
def FE:∀(js:P1)(ms:So)(d:Nat),d ∉ js->KG (Xb js ms) d=none
 |[],_,_,_=>rfl
 |_::_,[],_,_=>rfl
 |j::js,x::q,d,h=>by
  simp only[Xb,KG];rw[if_neg (by rintro rfl;exact h zd)];exact FE js q d fun h'=>h (by simp[h'])
def FF:∀(js:P1)(ms:So)(a i:Nat)(x:AV×AM),js.Nodup->js[a]?=some i->ms[a]?=some x->KG (Xb js ms) i=some x.1
 |[],_,_,_,_,_,h,_=>by simp at h
 |_::_,[],_,_,_,_,_,h=>by simp at h
 |j::js,y::q,0,i,x,_,h,hx=>by
  simp at h hx;subst h;subst hx;simp only[Xb,KG,if_true]
 |j::js,y::q,a+1,i,x,hn,h,hx=>by
  have qD:=List.nodup_cons.1 hn;have h':js[a]?=some i:=by simpa using h
  simp only[Xb,KG];rw[if_neg (by rintro rfl;exact qD.1 (zzac h'))];exact FF js q a i x qD.2 h' (Pi hx)
def ji{js:P1}{ms:So}{a i:Nat}{x:AV×AM}(hn:js.Nodup)(h:js[a]?=some i)(hx:ms[a]?=some x)(T:PQ):Da P gl orc ops m (Xb js ms) i T=x.1:=by
 unfold Da;rw[FF js ms a i x hn h hx]
def o8{js:P1}{ms:So}{i:Nat}{o:Oper}(h:i ∉ js)(ho:ops[i]?=some o)(T:PQ):Da P gl orc ops m (Xb js ms) i T=(rop P gl orc (ev gl T) m o.dst (tr P o)).2:=by
 unfold Da;rw[FE js ms i h,ho]
def wG{γ:G}{w:World}{a:Act}{o:Oper}{T:PQ}(wH:Vx T (Xf P ops o))(zN:∀t∈o.looksAt ops,au w γ (T.getD t .junk) (a.tmps.getD t undef)):Region.wanted o (yielded ops a.tmps)=true:=by
 cases hg:o.guard with
 |none=>simp[Region.wanted,hg]
 |some jw=>
  obtain⟨j,want⟩:=jw;have e1:(Xf P ops o).guard=some ((ops[j]?).bind (·.dst),want):=by simp[Xf,hg]
  unfold Vx at wH;rw[e1]at wH;cases hj:(ops[j]?).bind (·.dst)with
  |none=>rw[hj]at wH;exact wH.elim
  |some t=>
   rw[hj]at wH;simp only at wH;have iJ:t∈o.looksAt ops:=by simp[Oper.looksAt,hg,hj]
   have bk:=zN t iJ;rw[wH]at bk;have hb:=bk.bz
   have bK:t<a.tmps.size:=by
    rcases zzab t a.tmps.size with h|h
    ·exact h
    simp[zzbt h,undef]at hb
   simp[bK]at hb;have hy:yielded ops a.tmps j=some want:=by simp only[yielded,hj,zzcw,zzag bK,hb]
   simp only[Region.wanted,hg,hy];cases want<;>rfl
def Qcd{ms:So}{js:P1}(hc:zq ops p=true){Q:QR}{listed:Array Bool}{γ:G}{w:World}{a:Act}
  (hI:qY N w0 r an S Y P gl orc ops T0 m ms js (Xb js ms) p listed γ w a){i:Nat}{o:Oper}(ho:ops[i]?=some o)(dH:i<p)(wH:Vx (bY P gl orc ops T0 m (Xb js ms) i) (Xf P ops o))(aH:js.length=ms.length)(qE:js.Nodup)
  (hu:listed.getD i true=false)(bX:∀j∈Xy o,listed.getD j false=true)(nt:∀a j,js[a]?=some j->js[a+1]?=some i->listed.getD j false=true)
  (aJ:i ∉ js->((rop P gl orc (ev gl (bY P gl orc ops T0 m (Xb js ms) i)) m o.dst (tr P o)).1/\(me ops js i=false->∀x∈ms,rop P gl orc (ev gl (bY P gl orc ops T0 m (Xb js ms) i)) x.2 o.dst (tr P o)=rop P gl orc (ev gl (bY P gl orc ops T0 m (Xb js ms) i)) m o.dst (tr P o)))\/(rdC P gl orc Y (ev gl (bY P gl orc ops T0 m (Xb js ms) i)) m o.dst m (tr P o)/\∀x∈ms,rdC P gl orc Y (ev gl (bY P gl orc ops T0 m (Xb js ms) i)) m o.dst x.2 (tr P o)))
  (A6:∀k x,js[k]?=some i->ms[k]?=some x->effC P gl orc Y (ev gl (bY P gl orc ops T0 m (Xb js ms) i)) (Vt m ms k) o.dst x.1 x.2 (tr P o)):
  wpOpIn (FW r) 0 P ops Q i (fun a' w'=>∃γ',qY N w0 r an S Y P gl orc ops T0 m ms js (Xb js ms) p (listed.setIfInBounds i true) γ' w' a'/\∀t,o.dst≠some t->a'.tmps.getD t undef=a.tmps.getD t undef) a w:=by
 have hi:i<ops.size:=(zzbr.1 ho).1;have iI:i<listed.size:=by rw[hI.size];exact hi
 have zN:∀t∈o.looksAt ops,au w γ ((bY P gl orc ops T0 m (Xb js ms) i).getD t .junk) (a.tmps.getD t undef):=fun t ht=>by
  rw[ai3 (P:=P) (gl:=gl) (orc:=orc) (T0:=T0) (m:=m) (L:=Xb js ms) hc hI.size ho dH hu bX ht];exact hI.tt t
 have eC:∀x∈o.op.operands,au w γ (ev gl (bY P gl orc ops T0 m (Xb js ms) i) (aB x)) (a.eval x):=fun x hx=>by
  cases x with
  |tmp t=>exact zN t (by simp only[Oper.looksAt,zzap,zzfk];exact .inl ⟨.tmp t,Pi hx,rfl⟩)
  |const v=>exact Js w γ v
  |func f=>exact .fn rfl (fun i c v h=>by simp at h) rfl fun i c v h=>by simp at h
  |global g=>exact(hI.g g).gF
 have mg:chn (listed.setIfInBounds i true) js:=uB hI.ch fun a j h1 h2=>nt a j h1 h2;have hpr:FA ops (listed.setIfInBounds i true):=FA.set hI.clo ho iI bX
 have fin:∀{v:Value}{w':World}{γ':G},ek w γ w' γ'->aq N w0 an γ' w' (Yy (listed.setIfInBounds i true) m js ms).B (Yy (listed.setIfInBounds i true) m js ms).L->cD γ' w' (Yy (listed.setIfInBounds i true) m js ms)->
   au w' γ' (Da P gl orc ops m (Xb js ms) i (bY P gl orc ops T0 m (Xb js ms) i)) v->∃γ',qY N w0 r an S Y P gl orc ops T0 m ms js (Xb js ms) p (listed.setIfInBounds i true) γ' w' (a.put o.dst v)/\∀t,o.dst≠some t->(a.put o.dst v).tmps.getD t undef=a.tmps.getD t undef:=fun{v w' γ'}he hm hl hr=>by
  have awP:∀t,o.dst≠some t->(a.put o.dst v).tmps.getD t undef=a.tmps.getD t undef:=fun t hd=>by
   cases zI:o.dst with
   |none=>rfl
   |some d=>simp only[Act.put];simp;rw[zzco (by rintro rfl;exact hd zI)]
  refine⟨γ',⟨by simp[hI.size],fun j dL ot=>by rw[Qt zE];exact hI.tail j dL ot,mg,hpr,hm,hl,hI.rd.aV he,?_,fun t=>?_,?_,fun g=>(hI.g g).aV he.cW,hI.y.mono he,hI.e.trans he⟩,awP⟩
  ·cases hd:o.dst<;>simp[Act.put,hI.tl]
  ·rw[Db hc hI.size ho dH];by_cases hd:o.dst=some t
   ·by_cases ht:t<T0.length
    ·rw[if_pos ⟨hd,ht⟩,hd];have:(a.put (some t) v).tmps.getD t undef=v:=by simp[Act.put,hI.tl,ht]
     rw[this];exact hr
    rw[if_neg (by simp[ht]),hd];have:(a.put (some t) v).tmps.getD t undef=a.tmps.getD t undef:=by simp[Act.put,hI.tl,ht]
    rw[this];exact(hI.tt t).aV he
   rw[if_neg (by simp[hd])]
   have:(a.put o.dst v).tmps.getD t undef=a.tmps.getD t undef:=by
    cases zI:o.dst with
    |none=>rfl
    |some d=>simp only[Act.put];simp;rw[zzco (by rintro rfl;exact hd zI)]
   rw[this];exact(hI.tt t).aV he
  cases hd:o.dst<;>exact hI.d.aV he
 simp only[wpOpIn,ho];have hw:Region.wanted o (yielded ops a.tmps)=true:=wG wH zN;rw[if_pos hw];by_cases fL:i∈js
 ·obtain⟨k,hk⟩:=zzcq.1 fL;have sM:k<ms.length:=by rw[<- aH];exact(zza.1 hk).1
  obtain⟨x,hx⟩:∃x,ms[k]?=some x:=⟨ms[k],zzad sM⟩;have h1:=A6 k x hk hx;have h2:=ji (P:=P) (gl:=gl) (orc:=orc) (ops:=ops) (m:=m) qE hk hx (bY P gl orc ops T0 m (Xb js ms) i);have QJ:listed.getD i false=false:=by rw[Qy iI false true];exact hu
  have Dc:∀b j,b<k->js[b]?=some j->listed.getD j false=true:=fun b j hb hj=>by
   have di:k-1<js.length:=by have:=(zza.1 hk).1;omega
   obtain⟨j1,dL⟩:∃j1,js[k-1]?=some j1:=⟨js[k-1],zzad di⟩;have gr:=nt (k-1) j1 dL (by rw[show k-1+1=k by omega];exact hk);rcases zzab b (k-1)with h|h
   ·exact Qbl hI.ch h hj dL gr
   obtain rfl:b=k-1:=zE
   rw[hj]at dL;cases dL;exact gr
  have KH:Yy listed m js ms=Vt m ms k:=Uw aH (by have:=(zza.1 hk).1;omega) Dc (fun j hj=>by rw[hk]at hj;cases hj;exact QJ)
  have nk:Yy (listed.setIfInBounds i true) m js ms=x.2:=by
   have:=Uw (listed:=listed.setIfInBounds i true) (m:=m) (a:=k+1) aH (by have:=(zza.1 hk).1;omega) (fun b j hb hj=>?_) (fun j hj=>?_)
   ·rw[this];simp[Vt,List.getD,hx]
   ·rcases zzab b k with h|h
    ·have fU:j≠i:=by
      rintro rfl;have:=Uu qE hj hk;omega
     rw[Qt fU];exact Dc b j h hj
    obtain rfl:b=k:=zE
    rw[hk]at hj;cases hj;exact Xq iI
   have fU:j≠i:=by
    rintro rfl;have:=Uu qE hj hk;omega
   rw[Qt fU];cases hl:listed.getD j false with
   |false=>rfl
   |true=>rw[Qbl hI.ch (zzf k) hk hj hl]at QJ;cases QJ
  rw[nk,h2]at fin;have eE:=hI.mm;have ow:=hI.ls;rw[KH]at eE ow
  have zP:dP N w0 r an S P gl Y γ w ⟨(List.range T0.length).map fun t=>o7 P gl orc ops T0 m (Xb js ms) p listed t,Vt m ms k⟩ a:=by
   refine⟨eE,ow,hI.rd,⟨by simp[hI.tl],fun t x v hx hv=>?_⟩,hI.d,hI.g,hI.y,hI.e⟩
   ·have aa:t<T0.length:=by
     rcases zzab t T0.length with h|h
     ·exact h
     simp[zzbn.2 h]at hx
    simp[aa]at hx;have:=hI.tt t;rw[hx]at this;have A7:a.tmps.getD t undef=v:=by simp at hv;simp[hv]
    rwa [A7]at this
  have mem:∀so,tr P o=so->memEff so=true->((sop P gl orc (ev gl (bY P gl orc ops T0 m (Xb js ms) i)) (Vt m ms k) o.dst so).1/\x.1=effV (sop P gl orc (ev gl (bY P gl orc ops T0 m (Xb js ms) i)) (Vt m ms k) o.dst so).2.1 so/\x.2=(sop P gl orc (ev gl (bY P gl orc ops T0 m (Xb js ms) i)) (Vt m ms k) o.dst so).2.2)->
    o.wpIn (FW r) 0 P a w (fun a' w'=>∃γ',qY N w0 r an S Y P gl orc ops T0 m ms js (Xb js ms) p (listed.setIfInBounds i true) γ' w' a'/\∀t,o.dst≠some t->a'.tmps.getD t undef=a.tmps.getD t undef) Q:=fun so Wc _⟨k1,k2,k3⟩=>by
   refine Bc (orc:=orc) (K:=fun av' m'=>x.1=effV av' so/\m'=x.2) eE hI.g eC ⟨by rw[Wc];exact k1,by rw[Wc];exact⟨k2,k3.symm⟩⟩ r _ Q fun v w' γ' av' m' hK h3 h4 h5 h6=>?_;obtain⟨SS,rfl⟩:=hK;refine fin h4.cL h5 (ow.mono' h4 h3) ?_;rw[SS];unfold effV;split<;>first|exact h6|exact .junk _
  cases IQ:tr P o with
  |call f args=>
   rw[IQ]at h1
   have qP:Qbr P gl Y (ev gl (bY P gl orc ops T0 m (Xb js ms) i)) (Vt m ms k) (fun y m2=>y=x.1/\m2=x.2) (tr P o):=by
    rw[IQ];simp only[effC]at h1;simp only[Qbr];split at h1
    ·rename_i g first cap bZ;simp only[bZ];exact h1
    exact h1.elim
   refine Qdb zP eC qP fun v w' γ' av' m' hK h3 h4 h5 h6=>?_;obtain⟨rfl,rfl⟩:=hK;exact fin h3 h4 h5 h6
  |_=>rw[IQ]at h1;first|exact mem _ IQ h1.1 h1.2|exact absurd h1.1 (by simp[memEff])
 rcases aJ fL with⟨h1,h2⟩|fB
 ·have bW:Yy (listed.setIfInBounds i true) m js ms=Yy listed m js ms:=qX fun j hj=>Qt (by rintro rfl;exact fL hj);rw[bW]at fin;have eE:=hI.mm;have ow:=hI.ls
  have aro:rop P gl orc (ev gl (bY P gl orc ops T0 m (Xb js ms) i)) (Yy listed m js ms) o.dst (tr P o)=rop P gl orc (ev gl (bY P gl orc ops T0 m (Xb js ms) i)) m o.dst (tr P o):=by
   cases kz:me ops js i with
   |false=>
    rcases wE listed js ms m with h|⟨x,hx,h⟩
    ·rw[h]
    rw[h];exact h2 kz x hx
   |true=>
    have KH:Yy listed m js ms=m:=by
     cases js with
     |nil=>cases ms<;>rfl
     |cons j0 js=>
      simp only[me]at kz
      have hn:listed.getD j0 false=false:=by
       cases hl:listed.getD j0 false with
       |false=>rfl
       |true=>
        have:=uz (ops:=ops) (listed:=listed) hI.clo j0 [j0] (fun k hk=>by rw[zzcp.1 hk];exact hl) i (Pi kz);rw[Qy iI false true,hu]at this;cases this
      cases ms with
      |nil=>rfl
      |cons x q=>simp only[Yy,hn];rfl
    rw[KH]
  generalize Yy listed m js ms=mL at*
  refine Qcs (m:=mL) eE (fun _ _ h=>h) hI.g eC (by rw[aro];exact h1) r _ Q fun v w' γ' q1 q2 q3=>?_;rw[aro]at q3;exact fin q1.cL q2 (ow.mono q1) (by rw[o8 fL ho];exact q3)
 have bW:Yy (listed.setIfInBounds i true) m js ms=Yy listed m js ms:=qX fun j hj=>Qt (by rintro rfl;exact fL hj);rw[bW]at fin;have eE:=hI.mm;have ow:=hI.ls
 have hL:rdC P gl orc Y (ev gl (bY P gl orc ops T0 m (Xb js ms) i)) m o.dst (Yy listed m js ms) (tr P o):=by
  rcases wE listed js ms m with h|⟨x,hx,h⟩
  ·rw[h];exact fB.1
  rw[h];exact fB.2 x hx
 generalize Yy listed m js ms=mL at*
 have zP:dP N w0 r an S P gl Y γ w ⟨(List.range T0.length).map fun t=>o7 P gl orc ops T0 m (Xb js ms) p listed t,mL⟩ a:=by
  refine⟨eE,ow,hI.rd,⟨by simp[hI.tl],fun t x v hx hv=>?_⟩,hI.d,hI.g,hI.y,hI.e⟩
  ·have aa:t<T0.length:=by
    rcases zzab t T0.length with h|h
    ·exact h
    simp[zzbn.2 h]at hx
   simp[aa]at hx;have:=hI.tt t;rw[hx]at this;have A7:a.tmps.getD t undef=v:=by simp at hv;simp[hv]
   rwa [A7]at this
 cases IQ:tr P o with
 |call f args=>
  rw[IQ]at hL
  have qP:Qbr P gl Y (ev gl (bY P gl orc ops T0 m (Xb js ms) i)) mL (fun y m2=>y=(rop P gl orc (ev gl (bY P gl orc ops T0 m (Xb js ms) i)) m o.dst (.call f args)).2/\m2=mL) (tr P o):=by
   rw[IQ];simp only[rdC]at hL;simp only[Qbr];split at hL
   ·rename_i g first cap bZ;simp only[bZ];exact hL
   exact hL.elim
  refine Qdb zP eC qP fun v w' γ' av' m' hK h3 h4 h5 h6=>?_;obtain⟨rfl,rfl⟩:=hK;exact fin h3 h4 h5 (by rw[o8 fL ho,IQ];exact h6)
 |_=>rw[IQ]at hL;exact(show False from hL).elim
def uC:∀{js:P1},QL ops js=true->∀a j j' o,js[a]?=some j->js[a+1]?=some j'->ops[j']?=some o->j∈Xy o
 |[],_,a,j,j',o,h,_,_=>by simp at h
 |[x],_,a,j,j',o,h,h',_=>by
  have:=(zza.1 h').1;simp at this
 |x::y::r,hc,0,j,j',o,h,h',ho=>by
  simp at h h';subst h;subst h';simp only[QL,zzai,ho]at hc;simpa using hc.1
 |x::y::r,hc,a+1,j,j',o,h,h',ho=>by
  simp only[QL,zzai]at hc;exact uC hc.2 a j j' o (Pi h) (Pi h') ho
def Qcc{js:P1}(h:nr ops p=some js):js=(List.range p).filter (eD ops C8)/\QL ops js=true/\∀i,i<p->∃o,ops[i]?=some o:=by
 unfold nr at h;simp only at h;split at h
 case isFalse=>cases h
 rename_i bD;cases h;simp only[zzai]at bD;refine⟨rfl,bD.1.1.2,fun i hi=>?_⟩;have h1:=zzbe.1 bD.2 i (zzba.2 hi);exact zzcg.1 h1
def fC(ops:Array Oper)(k:Nat):Nat:=((List.range k).filter (eD ops C8)).length
def FG(k:Nat):fC ops (k+1)=fC ops k+(if eD ops C8 k=true then 1 else 0):=by
 simp only[fC,zzfh,zzdh,zzah];cases h:eD ops C8 k<;>simp[h]
def WA{i:Nat}(hi:i<p)(hd:eD ops C8 i=true):((List.range p).filter (eD ops C8))[fC ops i]?=some i:=by
 obtain⟨n,rfl⟩:∃n,p=i+(n+1):=⟨p-i-1,zE⟩;rw[List.range_add,zzdh];have hl:fC ops i=((List.range i).filter (eD ops C8)).length:=rfl;rw[hl,zzat (zzaa _),zzh,zzay,zzcl,zzdw hd];simp
def N1{ms:So}{js:P1}(l2:List SO)(K:AS->Prop)(hp:p<=ops.size)(jc:js=(List.range p).filter (eD ops C8)):∀(n k:Nat)(mc:AM),k+n=p->fC ops k<=ms.length->mc=Vt m ms (fC ops k)->
  iK P gl orc Y l2 K m ms (((ops.toList.take p).drop k).map (Xf P ops)) ((flags ops p js).drop k) (ms.drop (fC ops k)) mc (bY P gl orc ops T0 m (Xb js ms) k)->
  js.length=ms.length/\
  (
   ∀i o,k<=i->i<p->ops[i]?=some o->
   (i ∉ js->((rop P gl orc (ev gl (bY P gl orc ops T0 m (Xb js ms) i)) m o.dst (tr P o)).1/\(me ops js i=false->∀x∈ms,rop P gl orc (ev gl (bY P gl orc ops T0 m (Xb js ms) i)) x.2 o.dst (tr P o)=rop P gl orc (ev gl (bY P gl orc ops T0 m (Xb js ms) i)) m o.dst (tr P o)))\/(rdC P gl orc Y (ev gl (bY P gl orc ops T0 m (Xb js ms) i)) m o.dst m (tr P o)/\∀x∈ms,rdC P gl orc Y (ev gl (bY P gl orc ops T0 m (Xb js ms) i)) m o.dst x.2 (tr P o)))/\
   (∀b x,js[b]?=some i->ms[b]?=some x->effC P gl orc Y (ev gl (bY P gl orc ops T0 m (Xb js ms) i)) (Vt m ms b) o.dst x.1 x.2 (tr P o))/\Vx (bY P gl orc ops T0 m (Xb js ms) i) (Xf P ops o))/\
  Ze P gl orc Y l2 ⟨(bY P gl orc ops T0 m (Xb js ms) p),Vt m ms ms.length⟩ K:=by
 have iB:∀j,j∈js<->j<p/\eD ops C8 j=true:=fun j=>by rw[jc,zzcr,zzba]
 have qE:js.Nodup:=by rw[jc];exact(zzdo).filter _
 have SP:∀i,i<p->eD ops C8 i=true->js[fC ops i]?=some i:=fun i h1 h2=>by rw[jc];exact WA h1 h2
 have WB:∀{a b i:Nat},js[a]?=some i->js[b]?=some i->a=b:=fun{a b i}h1 h2=>Uu qE h1 h2;intro n;induction n with
 |zero=>
  intro k mc hk oU VZ h;obtain rfl:k=p:=zE
  have e0:(ops.toList.take k).drop k=[]:=zzam (by simp;omega);rw[e0]at h;simp only[zzcu,iK]at h;have fe:ms.length<=fC ops k:=zzft.1 h.1;have zH:fC ops k=js.length:=by rw[jc];rfl
  have hcc:fC ops k=ms.length:=zE
  refine⟨zE,fun i o h1 h2=>zE,?_⟩;rw[<- hcc,<- VZ];exact h.2
 |succ n ih=>
  intro k mc hk oU VZ h;have bK:k<ops.size:=zE
  have ho:ops[k]?=some ops[k]:=zzag bK
  have hd:(ops.toList.take p).drop k=ops[k]::(ops.toList.take p).drop (k+1):=by
   rw[zzaf (by simp;omega)];simp
  have gG:(flags ops p js).drop k=Jm ops js k::(flags ops p js).drop (k+1):=by
   rw[zzaf (by simp[flags];omega)];simp[flags]
  rw[hd,gG,zzay]at h;have V6:=Qdc (P:=P) (gl:=gl) (orc:=orc) (T0:=T0) (m:=m) (L:=Xb js ms) ho;have e2:(Xf P ops ops[k]).op=tr P ops[k]:=rfl;have e3:(Xf P ops ops[k]).dst=ops[k].dst:=rfl;have qC:=FG (ops:=ops) k;cases kM:js.contains k with
  |true=>
   have QM:k∈js:=by simpa using kM
   have Dd:=((iB k).1 QM).2;rw[Dd,if_pos rfl]at qC;rw[show Jm ops js k=.eff by simp only[Jm,kM,cond_true]]at h;simp only[iK,e2,e3]at h;split at h
   ·exact h.elim
   rename_i x q hq
   have awQ:fC ops k<ms.length:=by
    rcases zzab (fC ops k) ms.length with h'|h'
    ·exact h'
    rw[zzam h']at hq;cases hq
   have hx:ms[fC ops k]?=some x:=by
    have:(ms.drop (fC ops k))[0]?=some x:=by rw[hq];rfl
    simpa using this
   have hq':ms.drop (fC ops (k+1))=q:=by
    rw[qC,<- zzdi,hq];rfl
   obtain⟨hgr,h1,h2⟩:=h;have zo:=SP k zE Dd;have cU:=ji (P:=P) (gl:=gl) (orc:=orc) (ops:=ops) (m:=m) qE zo hx (bY P gl orc ops T0 m (Xb js ms) k);rw[cU]at V6
   obtain⟨r1,r2,r3⟩:=ih (k+1) x.2 zE zE (by rw[qC];simp[Vt,List.getD,hx]) (by
    rw[V6,hq'];exact h2)
   refine⟨r1,fun i o hi dH C5=>?_,r3⟩;rcases zzab k i with fM|fM
   ·exact r2 i o fM dH C5
   obtain rfl:i=k:=zE
   rw[ho]at C5;cases C5;refine⟨fun h=>absurd QM h,fun b y hb hy=>?_,hgr⟩;obtain rfl:=WB hb zo;rw[hx]at hy;cases hy;rw[<- VZ];exact h1
  |false=>
   have QM:k ∉ js:=by simpa using kM
   have Dd:eD ops C8 k=false:=by
    cases FH:eD ops C8 k with
    |false=>rfl
    |true=>exact absurd ((iB k).2 ⟨zE,FH⟩) QM
   rw[Dd,if_neg zd,zzcl]at qC
   obtain⟨hgr,h1,h3⟩:Vx (bY P gl orc ops T0 m (Xb js ms) k) (Xf P ops ops[k])/\(((rop P gl orc (ev gl (bY P gl orc ops T0 m (Xb js ms) k)) m ops[k].dst (tr P ops[k])).1/\(me ops js k=false->∀x∈ms,rop P gl orc (ev gl (bY P gl orc ops T0 m (Xb js ms) k)) x.2 ops[k].dst (tr P ops[k])=rop P gl orc (ev gl (bY P gl orc ops T0 m (Xb js ms) k)) m ops[k].dst (tr P ops[k])))\/(rdC P gl orc Y (ev gl (bY P gl orc ops T0 m (Xb js ms) k)) m ops[k].dst m (tr P ops[k])/\∀x∈ms,rdC P gl orc Y (ev gl (bY P gl orc ops T0 m (Xb js ms) k)) m ops[k].dst x.2 (tr P ops[k])))/\
     iK P gl orc Y l2 K m ms (((ops.toList.take p).drop (k+1)).map (Xf P ops)) ((flags ops p js).drop (k+1)) (ms.drop (fC ops k)) mc (put (bY P gl orc ops T0 m (Xb js ms) k) ops[k].dst (rop P gl orc (ev gl (bY P gl orc ops T0 m (Xb js ms) k)) m ops[k].dst (tr P ops[k])).2):=by
    cases kz:me ops js k with
    |true=>
     rw[show Jm ops js k=.pre by simp only[Jm,kM,kz,cond_true,cond_false]]at h;simp only[iK,e2,e3]at h;exact⟨h.1,.inl ⟨h.2.1,fun h=>(by cases h)⟩,h.2.2⟩
    |false=>
     rw[show Jm ops js k=.oth by simp only[Jm,kM,kz,cond_false]]at h;simp only[iK,e2,e3]at h;exact⟨h.1,h.2.1.imp_left fun h=>⟨h.1,fun _=>h.2⟩,h.2.2⟩
   rw[o8 QM ho]at V6;obtain⟨r1,r2,r3⟩:=ih (k+1) mc zE zE (by rw[qC];exact VZ) (by rw[V6,qC];exact h3);refine⟨r1,fun i o hi dH C5=>?_,r3⟩;rcases zzab k i with fM|fM
   ·exact r2 i o fM dH C5
   obtain rfl:i=k:=zE
   rw[ho]at C5;cases C5;refine⟨fun _=>h1,fun b y hb=>absurd (zzac hb) QM,hgr⟩
def FI{Q:QR}{K:AS->Prop}{γ:G}{w:World}{s:AS}{a:Act}{js:P1}(hQ:∀γ w s a,K s->dP N w0 r an S P gl Y γ w s a->Q .normal a w)(hc:zq ops p=true)(hj:nr ops p=some js)
  {ms:So}(h:iK P gl orc Y ((ops.toList.drop p).map (Xf P ops)) K s.m ms ((ops.toList.take p).map (Xf P ops)) (flags ops p js) ms s.m s.T)(hs:dP N w0 r an S P gl Y γ w s a):
  wpAnyIn (FW r) 0 P .any ops Q ops.size (Array.replicate ops.size false) a {w with drawn:=w.drawn+1}:=by
 obtain⟨hp,dA⟩:=Zm hc;obtain⟨jc,hjc,o9⟩:=Qcc hj;have qE:js.Nodup:=by rw[jc];exact(zzdo).filter _
 have De:∀j∈js,j<p:=fun j h=>by rw[jc,zzcr]at h;exact zzba.1 h.1
 obtain⟨aH,h1,h2⟩:=N1 (P:=P) (gl:=gl) (orc:=orc) (T0:=s.T) (m:=s.m) ((ops.toList.drop p).map (Xf P ops)) K hp jc p 0 s.m zd (by simp[fC]) (by simp[fC,Vt]) (by simpa[bY,fC]using h)
 have full:∀(aZ:Nat)(listed:Array Bool)(γ:G)(w:World)(a:Act),qY N w0 r an S Y P gl orc ops s.T s.m ms js (Xb js ms) p listed γ w a->uc ops listed<=aZ->(∀i,i<p->listed.getD i false=true)->wpAnyIn (FW r) 0 P .any ops Q aZ listed a w:=by
  intro aZ listed γ w a hI jg bD;have hml:Yy listed s.m js ms=Vt s.m ms ms.length:=Uw aH zE (fun b j _ hb=>bD j (De j (zzac hb))) (fun j hj=>by rw[zzau zE]at hj;cases hj);have eE:=hI.mm;have ow:=hI.ls;rw[hml]at eE ow;refine Qdn hQ hc aZ p listed γ w _ a (zzaa _) hp hI.size bD hI.tail jg h2 ⟨eE,ow,hI.rd,⟨?_,fun t x v hx hv=>?_⟩,hI.d,hI.g,hI.y,hI.e⟩
  ·simp[Qdz,hI.tl]
  have h1:=hI.tt t
  have hAt:o7 P gl orc ops s.T s.m (Xb js ms) p listed t=x:=by
   have kH:(bY P gl orc ops s.T s.m (Xb js ms) p).getD t .junk=x:=by simp only at hx;simp[List.getD,hx]
   unfold o7;split
   ·exact kH
   rename_i hw;rw[<- kH];refine(Qav p fun j hj hd=>hw ?_).symm;unfold wr;rw[zzbv];exact⟨j,zzba.2 hj,by rw[bD j hj,hd];simp⟩
  rw[hAt]at h1;have:a.tmps.getD t undef=v:=by simp at hv;simp[hv]
  rwa [this]at h1
 have main:∀(aZ:Nat)(listed:Array Bool)(γ:G)(w:World)(a:Act),qY N w0 r an S Y P gl orc ops s.T s.m ms js (Xb js ms) p listed γ w a->uc ops listed<=aZ->wpAnyIn (FW r) 0 P .any ops Q aZ listed a w:=by
  intro aZ;induction aZ with
  |zero=>
   intro listed γ w a hI jg
   exact full 0 listed γ w a hI jg fun i hi=>by
    rw[Qy (by rw[hI.size];omega) false true];exact Qdm (zzfe.1 jg) zE
  |succ aZ ih=>
   intro listed γ w a hI jg;by_cases bD:∀i,i<p->listed.getD i false=true
   ·exact full (aZ+1) listed γ w a hI jg bD
   have hex:∃k,k<p/\listed.getD k true=false:=by
    refine Classical.byContradiction fun hn=>bD fun i hi=>?_;rw[Qy (by rw[hI.size];omega) false true];cases hl:listed.getD i true with
    |true=>rfl
    |false=>exact absurd ⟨i,hi,hl⟩ hn
   obtain⟨k,hk,Wg⟩:=hex;refine⟨fun hr=>?_,fun i hi=>?_⟩
   ·obtain⟨j,hj⟩:=Uk hc hI.size k k (zzaa _) zE Wg;rw[hr]at hj;cases hj
   obtain⟨aa,hu,o,ho,bX⟩:=Ul hc hi
   have dH:i<p:=by
    rcases zzab i p with h|h
    ·exact h
    have:=Qay hI.clo ho ((dA i o ho).2.2 h) bX i k zE zE;rw[Qy (by rw[hI.size];omega) false true,Wg]at this;cases this
   refine wpOpIn_mono ?_ (Qcd hc hI ho dH (h1 i o (zzbi _) dH ho).2.2 aH qE hu bX (fun a j e1 e2=>bX j (uC hjc a j i o e1 e2 ho)) (h1 i o (zzbi _) dH ho).1 (h1 i o (zzbi _) dH ho).2.1);rintro a' w' ⟨γ',lI,_⟩;refine ih _ γ' w' a' lI ?_;have:=jf hI.size aa hu;omega
 have tO:∀j,(Array.replicate ops.size false).getD j false=false:=fun j=>by
  rcases zzab j ops.size with h|h<;>simp[h]
 have nt:∀WC:P1,chn (Array.replicate ops.size false) WC:=fun WC=>by
  induction WC with
  |nil=>trivial
  |cons j r ih=>
   cases r with
   |nil=>trivial
   |cons j' r=>exact⟨fun h=>(by rw[tO]at h;cases h),ih⟩
 have KH:Yy (Array.replicate ops.size false) s.m js ms=s.m:=Uw (a:=0) aH zE (fun b j hb=>zE) (fun j _=>tO j);refine main ops.size _ γ w.drew a ⟨zd,fun i _ hi=>by simp[hi],nt js,fun j o h=>(by rw[tO]at h;cases h),?_,?_,hs.rd.aV (Ev.drew w γ).cL,?_,fun t=>?_,hs.d.aV (Ev.drew w γ).cL,fun g=>(hs.g g).mono (Ev.drew w γ).cW,hs.y.mono (Ev.drew w γ).cL,hs.e.trans (Ev.drew w γ).cL⟩ ?_
 ·rw[KH];exact hs.m.drew
 ·rw[KH];exact hs.ls.mono (Ev.drew w γ)
 ·have:=hs.t.1;simp at this;omega
 ·have hw:wr ops p (Array.replicate ops.size false) t=false:=by
   unfold wr;rw[zzec];intro j _;rw[tO j];simp
  unfold o7;rw[hw];simp only[zzbp,if_false];have:=(hs.t.mono (Ev.drew w γ)).get t;simpa[List.getD]using this
 unfold uc;exact zzb (zzeu) zd
end
def wI(ops:Array Oper)(p:Nat)(js:P1):Bool:=match js.getLast? with
 |some j=>(List.range p).all fun i=>decide (i<=j)||(FD ops i [i]).contains j
 |none=>false
def bkF(ops:Array Oper)(p:Nat)(js:P1):List Fg:=bif wI ops p js then[.eff]else[]
def aen(fl:List Fg)(l:List SO):Bool:=!(fl.drop l.length).isEmpty
section
variable (P:Program) (gl:Nat->AV) (orc:X1) (Y:YT)
def effR(e:bM->AV)(m:AM)(R:UV):aF->Prop
 |.call f args=>(match e f with
  |.fn g first cap=>aA P gl Y g (first++args.map e++cap) m R
  |_=>False)
 |_=>False
def kR(R:UV)(l2:List SO)(K:AS->Prop)(m:AM)(ms:So):List SO->List Fg->So->AM->PQ->Prop
 |[],_,q,mc,T=>q=[]/\Ze P gl orc Y l2 ⟨T,mc⟩ K
 |_::_,[],_,_,_=>False
 |o::r,.eff::fl,q,mc,T=>(match q with
  |[]=>False
  |x::q=>Vx T o/\((q=[]->effR P gl Y (ev gl T) mc R o.op)/\(q≠[]->effC P gl orc Y (ev gl T) mc o.dst x.1 x.2 o.op))/\kR R l2 K m ms r fl q x.2 (put T o.dst x.1))
 |o::r,.pre::fl,q,mc,T=>Vx T o/\(rop P gl orc (ev gl T) m o.dst o.op).1/\kR R l2 K m ms r fl q mc (put T o.dst (rop P gl orc (ev gl T) m o.dst o.op).2)
 |o::r,.oth::fl,q,mc,T=>Vx T o/\(rop P gl orc (ev gl T) m o.dst o.op).1/\(∀x∈ms,rop P gl orc (ev gl T) x.2 o.dst o.op=rop P gl orc (ev gl T) m o.dst o.op)/\kR R l2 K m ms r fl q mc (put T o.dst (rop P gl orc (ev gl T) m o.dst o.op).2)
def pe{l2:List SO}{K:AS->Prop}{m:AM}{ms:So}{ex:List Fg}:∀{l:List SO}{fl:List Fg}{q:So}{mc:AM}{T:PQ},fl.length=l.length->iK P gl orc Y l2 K m ms l (fl++ex) q mc T->iK P gl orc Y l2 K m ms l fl q mc T
 |[],[],q,mc,T,_,h=>by simpa only[iK]using h
 |[],_::_,_,_,_,hl,_=>by simp at hl
 |_::_,[],_,_,_,hl,_=>by simp at hl
 |o::r,.eff::fl,[],mc,T,hl,h=>by simp only[zzae,iK]at h
 |o::r,.eff::fl,x::q,mc,T,hl,h=>by
  simp only[zzae,iK]at h |-
  exact⟨h.1,h.2.1,pe (Pi hl) h.2.2⟩
 |o::r,.pre::fl,q,mc,T,hl,h=>by
  simp only[zzae,iK]at h |-
  exact⟨h.1,h.2.1,pe (Pi hl) h.2.2⟩
 |o::r,.oth::fl,q,mc,T,hl,h=>by
  simp only[zzae,iK]at h |-
  exact⟨h.1,h.2.1,pe (Pi hl) h.2.2⟩
def pn{R:UV}{l2:List SO}{K:AS->Prop}{m:AM}{ms:So}{ex:List Fg}:∀{l:List SO}{fl:List Fg}{q:So}{mc:AM}{T:PQ},fl.length=l.length->kR P gl orc Y R l2 K m ms l (fl++ex) q mc T->kR P gl orc Y R l2 K m ms l fl q mc T
 |[],[],q,mc,T,_,h=>by simpa only[kR]using h
 |[],_::_,_,_,_,hl,_=>by simp at hl
 |_::_,[],_,_,_,hl,_=>by simp at hl
 |o::r,.eff::fl,[],mc,T,hl,h=>by simp only[zzae,kR]at h
 |o::r,.eff::fl,x::q,mc,T,hl,h=>by
  simp only[zzae,kR]at h |-
  exact⟨h.1,h.2.1,pn (Pi hl) h.2.2⟩
 |o::r,.pre::fl,q,mc,T,hl,h=>by
  simp only[zzae,kR]at h |-
  exact⟨h.1,h.2.1,pn (Pi hl) h.2.2⟩
 |o::r,.oth::fl,q,mc,T,hl,h=>by
  simp only[zzae,kR]at h |-
  exact⟨h.1,h.2.1,h.2.2.1,pn (Pi hl) h.2.2.2⟩
end
section
variable {N:Nat} {w0:fc} {r:Option Nat} {an:Nat->Nat->Prop} {S:G×World} {Y:YT} {P:Program} {gl:Nat->AV} {orc:X1} {ops:Array Oper} {T0:PQ} {m:AM} {p:Nat}
def wJ{x x':AV×AM}{i:Nat}:∀{js:P1}{ms:So}{jl:Nat},js[ms.length]?=some jl->i≠jl->KG (Xb js (ms++[x])) i=KG (Xb js (ms++[x'])) i
 |[],_,_,h,_=>by simp at h
 |j::js,[],jl,h,hi=>by
  simp at h;subst h;simp only[zzaj,Xb,KG];rw[if_neg (Ne.symm hi),if_neg (Ne.symm hi)]
 |j::js,y::ms,jl,h,hi=>by
  simp only[zzae,Xb,KG];rw[wJ (ms:=ms) (Pi h) hi]
def FJ{L L':R0}{jl:Nat}(h:∀i,i<jl->KG L i=KG L' i):∀k,k<=jl->bY P gl orc ops T0 m L k=bY P gl orc ops T0 m L' k
 |0,_=>rfl
 |k+1,hk=>by
  have ih:=FJ h k zE;simp only[bY];rw[ih];cases ho:ops[k]? with
  |none=>rfl
  |some o=>
   simp only;congr 1;simp only[Da];rw[h k zE]
def KI{L L':R0}(hc:zq ops p=true){listed:Array Bool}{jl:Nat}(oU:FA ops listed)(uy:listed.getD jl false=false)(hL:∀i,i<jl->KG L i=KG L' i)
  (WD:∀k,jl<k->k<p->(FD ops k [k]).contains jl=true)(hjp:jl<p)(t:Nat):o7 P gl orc ops T0 m L p listed t=o7 P gl orc ops T0 m L' p listed t:=by
 obtain⟨hp,dA⟩:=Zm hc;unfold o7;cases hw:wr ops p listed t with
 |false=>simp
 |true=>
  simp only[if_true];unfold wr at hw;obtain⟨j,hj,hjd⟩:=zzbv.1 hw;simp only[zzai,beq_iff_eq]at hjd;obtain⟨hl,hd⟩:=hjd;have awR:=zzba.1 hj
  have aa:j<jl:=by
   rcases zzeb j jl with h|h|h
   ·exact h
   ·subst h;rw[hl]at uy;cases uy
   have:=uz oU j [j] (fun k hk=>by rw[zzcp.1 hk];exact hl) jl (by simpa using WD j h awR);rw[this]at uy;cases uy
  have WE:∀(L:R0),(bY P gl orc ops T0 m L p).getD t .junk=(bY P gl orc ops T0 m L jl).getD t .junk:=fun L=>by
   have:=jh (P:=P) (gl:=gl) (orc:=orc) (ops:=ops) (T0:=T0) (m:=m) (L:=L) (t:=t) (k:=jl) (p-jl) fun k dF ey NX=>by
    have hk:k<ops.size:=zE
    have NY:ops[k]?=some ops[k]:=zzag hk;have:=((dA k _ NY).2.1 zE).2 j zE t hd;simp[Vp,NY]at NX;exact this NX
   rwa [show jl+(p-jl)=p by omega]at this
  rw[WE L,WE L',FJ hL jl (zzaa _)]
def KJ{ms:So}{x:AV×AM}{js:P1}{R:UV}(hc:zq ops p=true){Q:QR}{listed:Array Bool}{γ:G}{w:World}{a:Act}
  (hI:qY N w0 r an S Y P gl orc ops T0 m (ms++[x]) js (Xb js (ms++[x])) p listed γ w a){i:Nat}{o:Oper}(ho:ops[i]?=some o)(dH:i<p)(wH:Vx (bY P gl orc ops T0 m (Xb js (ms++[x])) i) (Xf P ops o))(aH:js.length=(ms++[x]).length)(qE:js.Nodup)
  (hk:js[ms.length]?=some i)(hu:listed.getD i true=false)(bX:∀j∈Xy o,listed.getD j false=true)(nt:∀a j,js[a]?=some j->js[a+1]?=some i->j∈Xy o)
  (awS:∀x':AV×AM,R x'.1 x'.2->∀t,o7 P gl orc ops T0 m (Xb js (ms++[x'])) p listed t=o7 P gl orc ops T0 m (Xb js (ms++[x])) p listed t)
  (A6:effR P gl Y (ev gl (bY P gl orc ops T0 m (Xb js (ms++[x])) i)) (Vt m (ms++[x]) ms.length) R (tr P o)):
  wpOpIn (FW r) 0 P ops Q i (fun a' w'=>∃γ' x',R x'.1 x'.2/\qY N w0 r an S Y P gl orc ops T0 m (ms++[x']) js (Xb js (ms++[x'])) p (listed.setIfInBounds i true) γ' w' a') a w:=by
 have hi:i<ops.size:=(zzbr.1 ho).1;have iI:i<listed.size:=by rw[hI.size];exact hi
 have zN:∀t∈o.looksAt ops,au w γ ((bY P gl orc ops T0 m (Xb js (ms++[x])) i).getD t .junk) (a.tmps.getD t undef):=fun t ht=>by
  rw[ai3 (P:=P) (gl:=gl) (orc:=orc) (T0:=T0) (m:=m) (L:=Xb js (ms++[x])) hc hI.size ho dH hu bX ht];exact hI.tt t
 have eC:∀y∈o.op.operands,au w γ (ev gl (bY P gl orc ops T0 m (Xb js (ms++[x])) i) (aB y)) (a.eval y):=fun y hy=>by
  cases y with
  |tmp t=>exact zN t (by simp only[Oper.looksAt,zzap,zzfk];exact .inl ⟨.tmp t,Pi hy,rfl⟩)
  |const v=>exact Js w γ v
  |func f=>exact .fn rfl (fun i c v h=>by simp at h) rfl fun i c v h=>by simp at h
  |global g=>exact(hI.g g).gF
 have mg:chn (listed.setIfInBounds i true) js:=uB hI.ch fun a j h1 h2=>bX j (nt a j h1 h2);have hpr:FA ops (listed.setIfInBounds i true):=FA.set hI.clo ho iI bX;have QJ:listed.getD i false=false:=by rw[Qy iI false true];exact hu
 have Dc:∀b j,b<ms.length->js[b]?=some j->listed.getD j false=true:=fun b j hb hj=>by
  have di:ms.length-1<js.length:=by simp at aH;omega
  obtain⟨j1,dL⟩:∃j1,js[ms.length-1]?=some j1:=⟨js[ms.length-1],zzad di⟩;have gr:=bX j1 (nt (ms.length-1) j1 dL (by rw[show ms.length-1+1=ms.length by omega];exact hk));rcases zzab b (ms.length-1)with h|h
  ·exact Qbl hI.ch h hj dL gr
  obtain rfl:b=ms.length-1:=zE
  rw[hj]at dL;cases dL;exact gr
 have KH:Yy listed m js (ms++[x])=Vt m (ms++[x]) ms.length:=Uw aH (by simp at aH;omega) Dc (fun j hj=>by rw[hk]at hj;cases hj;exact QJ)
 have nk:∀x':AV×AM,Yy (listed.setIfInBounds i true) m js (ms++[x'])=x'.2:=fun x'=>by
  have:=Uw (listed:=listed.setIfInBounds i true) (m:=m) (ms:=ms++[x']) (js:=js) (a:=ms.length+1) (by simp at aH |-;omega) (by simp at aH;omega) (fun b j hb hj=>?_) (fun j hj=>by rw[zzau (by simp at aH;omega)]at hj;cases hj)
  ·rw[this];simp[Vt,List.getD]
  rcases zzab b ms.length with h|h
  ·have fU:j≠i:=by
    rintro rfl;have:=Uu qE hj hk;omega
   rw[Qt fU];exact Dc b j h hj
  obtain rfl:b=ms.length:=zE
  rw[hk]at hj;cases hj;exact Xq iI
 simp only[wpOpIn,ho];have hw:Region.wanted o (yielded ops a.tmps)=true:=wG wH zN;rw[if_pos hw];have eE:=hI.mm;have ow:=hI.ls;rw[KH]at eE ow
 have zP:dP N w0 r an S P gl Y γ w ⟨(List.range T0.length).map fun t=>o7 P gl orc ops T0 m (Xb js (ms++[x])) p listed t,Vt m (ms++[x]) ms.length⟩ a:=by
  refine⟨eE,ow,hI.rd,⟨by simp[hI.tl],fun t x v hx hv=>?_⟩,hI.d,hI.g,hI.y,hI.e⟩
  have aa:t<T0.length:=by
   rcases zzab t T0.length with h|h
   ·exact h
   simp[zzbn.2 h]at hx
  simp[aa]at hx;have:=hI.tt t;rw[hx]at this;have A7:a.tmps.getD t undef=v:=by simp at hv;simp[hv]
  rwa [A7]at this
 have qP:Qbr P gl Y (ev gl (bY P gl orc ops T0 m (Xb js (ms++[x])) i)) (Vt m (ms++[x]) ms.length) R (tr P o):=by
  cases IQ:tr P o with
  |call f args=>
   rw[IQ]at A6;simp only[effR]at A6;simp only[Qbr];split at A6
   ·rename_i g first cap bZ;simp only[bZ];exact A6
   exact A6.elim
  |_=>rw[IQ]at A6;exact A6.elim
 refine Qdb zP eC qP fun v w' γ' av' m' hK he hm hl hr=>?_;have cU:=ji (P:=P) (gl:=gl) (orc:=orc) (ops:=ops) (m:=m) (ms:=ms++[(av',m')]) (x:=(av',m')) qE hk zd (bY P gl orc ops T0 m (Xb js (ms++[(av',m')])) i);have hsw:=awS (av',m') hK;refine⟨γ',(av',m'),hK,by simp[hI.size],fun j dL ot=>by rw[Qt zE];exact hI.tail j dL ot,mg,hpr,by rw[nk];exact hm,by rw[nk];exact hl,hI.rd.aV he,?_,fun t=>?_,?_,fun g=>(hI.g g).aV he.cW,hI.y.mono he,hI.e.trans he⟩
 ·cases hd:o.dst<;>simp[Act.put,hI.tl]
 ·rw[Db hc hI.size ho dH,hsw];by_cases hd:o.dst=some t
  ·by_cases ht:t<T0.length
   ·rw[if_pos ⟨hd,ht⟩,hd];have:(a.put (some t) v).tmps.getD t undef=v:=by simp[Act.put,hI.tl,ht]
    rw[this,cU];exact hr
   rw[if_neg (by simp[ht]),hd];have:(a.put (some t) v).tmps.getD t undef=a.tmps.getD t undef:=by simp[Act.put,hI.tl,ht]
   rw[this];exact(hI.tt t).aV he
  rw[if_neg (by simp[hd])]
  have:(a.put o.dst v).tmps.getD t undef=a.tmps.getD t undef:=by
   cases zI:o.dst with
   |none=>rfl
   |some d=>simp only[Act.put];simp;rw[zzco (by rintro rfl;exact hd zI)]
  rw[this];exact(hI.tt t).aV he
 cases hd:o.dst<;>exact hI.d.aV he
def N2{R:UV}{ms:So}{js:P1}(l2:List SO)(K:AS->Prop)(hp:p<=ops.size)(hj:nr ops p=some js):∀(n k:Nat)(mc:AM),k+n=p->fC ops k<=ms.length->mc=Vt m ms (fC ops k)->
  kR P gl orc Y R l2 K m ms (((ops.toList.take p).drop k).map (Xf P ops)) ((flags ops p js).drop k) (ms.drop (fC ops k)) mc (bY P gl orc ops T0 m (Xb js ms) k)->
  js.length=ms.length/\
  (
   ∀i o,k<=i->i<p->ops[i]?=some o->
   (i ∉ js->(rop P gl orc (ev gl (bY P gl orc ops T0 m (Xb js ms) i)) m o.dst (tr P o)).1/\(me ops js i=false->∀x∈ms,rop P gl orc (ev gl (bY P gl orc ops T0 m (Xb js ms) i)) x.2 o.dst (tr P o)=rop P gl orc (ev gl (bY P gl orc ops T0 m (Xb js ms) i)) m o.dst (tr P o)))/\
   (∀b x,js[b]?=some i->ms[b]?=some x->(b+1=ms.length->effR P gl Y (ev gl (bY P gl orc ops T0 m (Xb js ms) i)) (Vt m ms b) R (tr P o))/\(b+1≠ms.length->effC P gl orc Y (ev gl (bY P gl orc ops T0 m (Xb js ms) i)) (Vt m ms b) o.dst x.1 x.2 (tr P o)))/\Vx (bY P gl orc ops T0 m (Xb js ms) i) (Xf P ops o))/\
  Ze P gl orc Y l2 ⟨(bY P gl orc ops T0 m (Xb js ms) p),Vt m ms ms.length⟩ K:=by
 obtain⟨jc,_,o9⟩:=Qcc hj;have iB:∀j,j∈js<->j<p/\eD ops C8 j=true:=fun j=>by rw[jc,zzcr,zzba]
 have qE:js.Nodup:=by rw[jc];exact(zzdo).filter _
 have SP:∀i,i<p->eD ops C8 i=true->js[fC ops i]?=some i:=fun i h1 h2=>by rw[jc];exact WA h1 h2
 have WB:∀{a b i:Nat},js[a]?=some i->js[b]?=some i->a=b:=fun{a b i}h1 h2=>Uu qE h1 h2;intro n;induction n with
 |zero=>
  intro k mc hk oU VZ h;obtain rfl:k=p:=zE
  have e0:(ops.toList.take k).drop k=[]:=zzam (by simp;omega);rw[e0]at h;simp only[zzcu,kR]at h;have fe:ms.length<=fC ops k:=zzft.1 h.1;have zH:fC ops k=js.length:=by rw[jc];rfl
  have hcc:fC ops k=ms.length:=zE
  refine⟨zE,fun i o h1 h2=>zE,?_⟩;rw[<- hcc,<- VZ];exact h.2
 |succ n ih=>
  intro k mc hk oU VZ h;have bK:k<ops.size:=zE
  have ho:ops[k]?=some ops[k]:=zzag bK
  have hd:(ops.toList.take p).drop k=ops[k]::(ops.toList.take p).drop (k+1):=by
   rw[zzaf (by simp;omega)];simp
  have gG:(flags ops p js).drop k=Jm ops js k::(flags ops p js).drop (k+1):=by
   rw[zzaf (by simp[flags];omega)];simp[flags]
  rw[hd,gG,zzay]at h;have V6:=Qdc (P:=P) (gl:=gl) (orc:=orc) (T0:=T0) (m:=m) (L:=Xb js ms) ho;have e2:(Xf P ops ops[k]).op=tr P ops[k]:=rfl;have e3:(Xf P ops ops[k]).dst=ops[k].dst:=rfl;have qC:=FG (ops:=ops) k;cases kM:js.contains k with
  |true=>
   have QM:k∈js:=by simpa using kM
   have Dd:=((iB k).1 QM).2;rw[Dd,if_pos rfl]at qC;rw[show Jm ops js k=.eff by simp only[Jm,kM,cond_true]]at h;simp only[kR,e2,e3]at h;split at h
   ·exact h.elim
   rename_i x q hq
   have awQ:fC ops k<ms.length:=by
    rcases zzab (fC ops k) ms.length with h'|h'
    ·exact h'
    rw[zzam h']at hq;cases hq
   have hx:ms[fC ops k]?=some x:=by
    have:(ms.drop (fC ops k))[0]?=some x:=by rw[hq];rfl
    simpa using this
   have hq':ms.drop (fC ops (k+1))=q:=by
    rw[qC,<- zzdi,hq];rfl
   obtain⟨hgr,h1,h2⟩:=h;have zo:=SP k zE Dd;have cU:=ji (P:=P) (gl:=gl) (orc:=orc) (ops:=ops) (m:=m) qE zo hx (bY P gl orc ops T0 m (Xb js ms) k);rw[cU]at V6
   obtain⟨r1,r2,r3⟩:=ih (k+1) x.2 zE zE (by rw[qC];simp[Vt,List.getD,hx]) (by
    rw[V6,hq'];exact h2)
   refine⟨r1,fun i o hi dH C5=>?_,r3⟩;rcases zzab k i with fM|fM
   ·exact r2 i o fM dH C5
   obtain rfl:i=k:=zE
   rw[ho]at C5;cases C5;refine⟨fun h=>absurd QM h,fun b y hb hy=>?_,hgr⟩;obtain rfl:=WB hb zo;rw[hx]at hy;cases hy;rw[<- VZ]
   have hqe:q=[]<->fC ops i+1=ms.length:=by
    rw[<- hq',qC,zzft];omega
   exact⟨fun h=>h1.1 (hqe.2 h),fun h=>h1.2 fun e=>h (hqe.1 e)⟩
  |false=>
   have QM:k ∉ js:=by simpa using kM
   have Dd:eD ops C8 k=false:=by
    cases FH:eD ops C8 k with
    |false=>rfl
    |true=>exact absurd ((iB k).2 ⟨zE,FH⟩) QM
   rw[Dd,if_neg zd,zzcl]at qC
   obtain⟨hgr,h1,h2,h3⟩:Vx (bY P gl orc ops T0 m (Xb js ms) k) (Xf P ops ops[k])/\(rop P gl orc (ev gl (bY P gl orc ops T0 m (Xb js ms) k)) m ops[k].dst (tr P ops[k])).1/\(me ops js k=false->∀x∈ms,rop P gl orc (ev gl (bY P gl orc ops T0 m (Xb js ms) k)) x.2 ops[k].dst (tr P ops[k])=rop P gl orc (ev gl (bY P gl orc ops T0 m (Xb js ms) k)) m ops[k].dst (tr P ops[k]))/\
     kR P gl orc Y R l2 K m ms (((ops.toList.take p).drop (k+1)).map (Xf P ops)) ((flags ops p js).drop (k+1)) (ms.drop (fC ops k)) mc (put (bY P gl orc ops T0 m (Xb js ms) k) ops[k].dst (rop P gl orc (ev gl (bY P gl orc ops T0 m (Xb js ms) k)) m ops[k].dst (tr P ops[k])).2):=by
    cases kz:me ops js k with
    |true=>
     rw[show Jm ops js k=.pre by simp only[Jm,kM,kz,cond_true,cond_false]]at h;simp only[kR,e2,e3]at h;exact⟨h.1,h.2.1,fun h=>(by cases h),h.2.2⟩
    |false=>
     rw[show Jm ops js k=.oth by simp only[Jm,kM,kz,cond_false]]at h;simp only[kR,e2,e3]at h;exact⟨h.1,h.2.1,fun _=>h.2.2.1,h.2.2.2⟩
   rw[o8 QM ho]at V6;obtain⟨r1,r2,r3⟩:=ih (k+1) mc zE zE (by rw[qC];exact VZ) (by rw[V6,qC];exact h3);refine⟨r1,fun i o hi dH C5=>?_,r3⟩;rcases zzab k i with fM|fM
   ·exact r2 i o fM dH C5
   obtain rfl:i=k:=zE
   rw[ho]at C5;cases C5;refine⟨fun _=>⟨h1,h2⟩,fun b y hb=>absurd (zzac hb) QM,hgr⟩
def FK{Q:QR}{K:AS->Prop}{γ:G}{w:World}{s:AS}{a:Act}{js:P1}(hQ:∀γ w s a,K s->dP N w0 r an S P gl Y γ w s a->Q .normal a w)(hc:zq ops p=true)(hj:nr ops p=some js)
  {R:UV}{ms:So}(zQ:∀(jl:Nat),js[ms.length]?=some jl->∀(x x':AV×AM),R x.1 x.2->R x'.1 x'.2->∀listed:Array Bool,FA ops listed->listed.getD jl false=false->∀t,o7 P gl orc ops s.T s.m (Xb js (ms++[x'])) p listed t=o7 P gl orc ops s.T s.m (Xb js (ms++[x])) p listed t)(hR:∃x:AV×AM,R x.1 x.2)(h:∀x:AV×AM,R x.1 x.2->kR P gl orc Y R ((ops.toList.drop p).map (Xf P ops)) K s.m (ms++[x]) ((ops.toList.take p).map (Xf P ops)) (flags ops p js) (ms++[x]) s.m s.T)(hs:dP N w0 r an S P gl Y γ w s a):
  wpAnyIn (FW r) 0 P .any ops Q ops.size (Array.replicate ops.size false) a {w with drawn:=w.drawn+1}:=by
 obtain⟨hp,dA⟩:=Zm hc;obtain⟨jc,hjc,o9⟩:=Qcc hj;have qE:js.Nodup:=by rw[jc];exact(zzdo).filter _
 have De:∀j∈js,j<p:=fun j h=>by rw[jc,zzcr]at h;exact zzba.1 h.1
 have bD:=fun(x:AV×AM)(hx:R x.1 x.2)=>N2 (P:=P) (gl:=gl) (orc:=orc) (T0:=s.T) (m:=s.m) ((ops.toList.drop p).map (Xf P ops)) K hp hj p 0 s.m zd (by simp[fC]) (by simp[fC,Vt]) (by simpa[bY,fC]using h x hx);obtain⟨x0,hx0⟩:=hR;have ei:js.length=ms.length+1:=by have:=(bD x0 hx0).1;simpa using this
 obtain⟨jl,uy⟩:∃jl,js[ms.length]?=some jl:=⟨_,zzad zE⟩
 have full:∀(x:AV×AM),R x.1 x.2->∀(aZ:Nat)(listed:Array Bool)(γ:G)(w:World)(a:Act),qY N w0 r an S Y P gl orc ops s.T s.m (ms++[x]) js (Xb js (ms++[x])) p listed γ w a->uc ops listed<=aZ->(∀i,i<p->listed.getD i false=true)->wpAnyIn (FW r) 0 P .any ops Q aZ listed a w:=by
  intro x hx aZ listed γ w a hI jg arp;obtain⟨aH,h1,h2⟩:=bD x hx;have bD:=arp;have hml:Yy listed s.m js (ms++[x])=Vt s.m (ms++[x]) (ms++[x]).length:=Uw aH zE (fun b j _ hb=>bD j (De j (zzac hb))) (fun j hj=>by rw[zzau zE]at hj;cases hj);have eE:=hI.mm;have ow:=hI.ls;rw[hml]at eE ow;refine Qdn hQ hc aZ p listed γ w _ a (zzaa _) hp hI.size bD hI.tail jg h2 ⟨eE,ow,hI.rd,⟨?_,fun t y v hy hv=>?_⟩,hI.d,hI.g,hI.y,hI.e⟩
  ·simp[Qdz,hI.tl]
  have h1:=hI.tt t
  have hAt:o7 P gl orc ops s.T s.m (Xb js (ms++[x])) p listed t=y:=by
   have kH:(bY P gl orc ops s.T s.m (Xb js (ms++[x])) p).getD t .junk=y:=by simp only at hy;simp[List.getD,hy]
   unfold o7;split
   ·exact kH
   rename_i hw;rw[<- kH];refine(Qav p fun j hj hd=>hw ?_).symm;unfold wr;rw[zzbv];exact⟨j,zzba.2 hj,by rw[bD j hj,hd];simp⟩
  rw[hAt]at h1;have:a.tmps.getD t undef=v:=by simp at hv;simp[hv]
  rwa [this]at h1
 have main:∀(aZ:Nat)(x:AV×AM),R x.1 x.2->∀(listed:Array Bool)(γ:G)(w:World)(a:Act),qY N w0 r an S Y P gl orc ops s.T s.m (ms++[x]) js (Xb js (ms++[x])) p listed γ w a->uc ops listed<=aZ->wpAnyIn (FW r) 0 P .any ops Q aZ listed a w:=by
  intro aZ;induction aZ with
  |zero=>
   intro x hx listed γ w a hI jg
   exact full x hx 0 listed γ w a hI jg fun i hi=>by
    rw[Qy (by rw[hI.size];omega) false true];exact Qdm (zzfe.1 jg) zE
  |succ aZ ih=>
   intro x hx listed γ w a hI jg;by_cases hall2:∀i,i<p->listed.getD i false=true
   ·exact full x hx (aZ+1) listed γ w a hI jg hall2
   have hex:∃k,k<p/\listed.getD k true=false:=by
    refine Classical.byContradiction fun hn=>hall2 fun i hi=>?_;rw[Qy (by rw[hI.size];omega) false true];cases hl:listed.getD i true with
    |true=>rfl
    |false=>exact absurd ⟨i,hi,hl⟩ hn
   obtain⟨k,hk,Wg⟩:=hex;refine⟨fun hr=>?_,fun i hi=>?_⟩
   ·obtain⟨j,hj⟩:=Uk hc hI.size k k (zzaa _) zE Wg;rw[hr]at hj;cases hj
   obtain⟨aa,hu,o,ho,bX⟩:=Ul hc hi
   have dH:i<p:=by
    rcases zzab i p with h|h
    ·exact h
    have:=Qay hI.clo ho ((dA i o ho).2.2 h) bX i k zE zE;rw[Qy (by rw[hI.size];omega) false true,Wg]at this;cases this
   obtain⟨aH,h1,_⟩:=bD x hx;obtain⟨h1a,h1b,h1g⟩:=h1 i o (zzbi _) dH ho;by_cases fL:i=jl
   ·subst fL;refine wpOpIn_mono ?_ (KJ hc hI ho dH h1g aH qE uy hu bX (fun a j e1 e2=>uC hjc a j i o e1 e2 ho) (fun x' kH=>zQ i uy x x' hx kH listed hI.clo (by rw[Qy (by rw[hI.size];exact aa) false true];exact hu)) ((h1b ms.length x uy zd).1 zd));rintro a' w' ⟨γ',x',kH,lI⟩;refine ih x' kH _ γ' w' a' lI ?_;have:=jf hI.size aa hu;omega
   refine wpOpIn_mono ?_ (Qcd hc hI ho dH h1g aH qE hu bX (fun a j e1 e2=>bX j (uC hjc a j i o e1 e2 ho)) (fun h=>.inl (h1a h)) (fun k y e1 e2=>(h1b k y e1 e2).2 fun e=>fL (by
    have hk:k=ms.length:=by simpa using e
    subst hk;rw[uy]at e1;exact(Option.some.inj e1).symm)))
   rintro a' w' ⟨γ',lI,_⟩;refine ih x hx _ γ' w' a' lI ?_;have:=jf hI.size aa hu;omega
 have tO:∀j,(Array.replicate ops.size false).getD j false=false:=fun j=>by
  rcases zzab j ops.size with h|h<;>simp[h]
 have nt:∀WC:P1,chn (Array.replicate ops.size false) WC:=fun WC=>by
  induction WC with
  |nil=>trivial
  |cons j r ih=>
   cases r with
   |nil=>trivial
   |cons j' r=>exact⟨fun h=>(by rw[tO]at h;cases h),ih⟩
 have KH:Yy (Array.replicate ops.size false) s.m js (ms++[x0])=s.m:=Uw (a:=0) (bD x0 hx0).1 zE (fun b j hb=>zE) (fun j _=>tO j);refine main ops.size x0 hx0 _ γ w.drew a ⟨zd,fun i _ hi=>by simp[hi],nt js,fun j o h=>(by rw[tO]at h;cases h),?_,?_,hs.rd.aV (Ev.drew w γ).cL,?_,fun t=>?_,hs.d.aV (Ev.drew w γ).cL,fun g=>(hs.g g).mono (Ev.drew w γ).cW,hs.y.mono (Ev.drew w γ).cL,hs.e.trans (Ev.drew w γ).cL⟩ ?_
 ·rw[KH];exact hs.m.drew
 ·rw[KH];exact hs.ls.mono (Ev.drew w γ)
 ·have:=hs.t.1;simp at this;omega
 ·have hw:wr ops p (Array.replicate ops.size false) t=false:=by
   unfold wr;rw[zzec];intro j _;rw[tO j];simp
  unfold o7;rw[hw];simp only[zzbp,if_false];have:=(hs.t.mono (Ev.drew w γ)).get t;simpa[List.getD]using this
 unfold uc;exact zzb (zzeu) zd
def FL{Q:QR}{K:AS->Prop}{γ:G}{w:World}{s:AS}{a:Act}{js:P1}(hQ:∀γ w s a,K s->dP N w0 r an S P gl Y γ w s a->Q .normal a w)(hc:zq ops p=true)(hj:nr ops p=some js)
  (lJ:wI ops p js=true){R:UV}{ms:So}(hR:∃x:AV×AM,R x.1 x.2)(h:∀x:AV×AM,R x.1 x.2->kR P gl orc Y R ((ops.toList.drop p).map (Xf P ops)) K s.m (ms++[x]) ((ops.toList.take p).map (Xf P ops)) (flags ops p js) (ms++[x]) s.m s.T)(hs:dP N w0 r an S P gl Y γ w s a):
  wpAnyIn (FW r) 0 P .any ops Q ops.size (Array.replicate ops.size false) a {w with drawn:=w.drawn+1}:=by
 obtain⟨hp,dA⟩:=Zm hc;obtain⟨jc,hjc,o9⟩:=Qcc hj;have De:∀j∈js,j<p:=fun j h=>by rw[jc,zzcr]at h;exact zzba.1 h.1
 have bD:=fun(x:AV×AM)(hx:R x.1 x.2)=>N2 (P:=P) (gl:=gl) (orc:=orc) (T0:=s.T) (m:=s.m) ((ops.toList.drop p).map (Xf P ops)) K hp hj p 0 s.m zd (by simp[fC]) (by simp[fC,Vt]) (by simpa[bY,fC]using h x hx);obtain⟨x0,hx0⟩:=hR;have ei:js.length=ms.length+1:=by have:=(bD x0 hx0).1;simpa using this
 refine FK hQ hc hj (fun jl uy x x' _ _ listed C6 QJ t=>?_) ⟨x0,hx0⟩ h hs
 have WD:∀k,jl<k->k<p->(FD ops k [k]).contains jl=true:=fun k dF ey=>by
  unfold wI at lJ;have hg:js.getLast?=some jl:=by rw[List.getLast?_eq_getElem?,ei];simpa using uy
  rw[hg]at lJ;have:=zzbe.1 lJ k (zzba.2 ey);simp only[Bool.or_eq_true,decide_eq_true_eq]at this;obtain h|h:=this
  ·omega
  exact h
 exact KI hc C6 QJ (fun j hj=>wJ uy zE) WD (De _ (zzac uy)) t
end
def arq(f:FuncId):Bool:=f==55
def ars(o:Oper):Bool:=match o.op with
 |.call ⟨.value (.func f),_,_⟩=>arq f
 |_=>false
def alF(ops:Array Oper)(j j':Nat):Bool:=match ops[j']? with
 |some o=>(Xy o).contains j
 |none=>false
def Df(ops:Array Oper):P1->List (Nat×Nat)
 |j::j'::r=>(if alF ops j j'=true then[]else[(j,j')])++Df ops (j'::r)
 |_=>[]
def art(o:Oper):Bool:=match o.op with
 |.alloc _=>true
 |_=>false
def N3(ops:Array Oper)(p:Nat):Option (P1×Nat×Nat×Nat):=
 let js:=(List.range p).filter (eD ops C8)
 match Df ops js with
 |[(j,z)]=>(match ops[z]? with
  |some o=>(match o.dst with
   |some t=>if art o&&o.guard.isNone&&(List.range p).any (eD ops ars)&&(List.range p).all (eD ops Wr)&&(List.range p).all (fun i=>match ops[i]? with
    |some o'=>!(Xy o').contains z||(Xy o').contains j
    |none=>false)then some (js,j,z,t)else none
   |none=>none)
  |none=>none)
 |_=>none
def FM{ops:Array Oper}:∀{js:P1}(a j j':Nat)(o:Oper),js[a]?=some j->js[a+1]?=some j'->ops[j']?=some o->j∈Xy o\/(j,j')∈Df ops js
 |[],a,j,j',o,h,_,_=>by simp at h
 |[x],a,j,j',o,h,h',_=>by
  have:=(zza.1 h').1;simp at this
 |x::y::r,0,j,j',o,h,h',ho=>by
  simp at h h';subst h;subst h';rw[Df];by_cases hl:alF ops x y=true
  ·left;unfold alF at hl;rw[ho]at hl;simpa using hl
  right;rw[if_neg hl];simp
 |x::y::r,a+1,j,j',o,h,h',ho=>by
  rcases FM (js:=y::r) a j j' o (Pi h) (Pi h') ho with h1|h1
  ·exact .inl h1
  right;rw[Df];exact zzhg _ h1
def N4{ops:Array Oper}:∀{js:P1}{j j':Nat},(j,j')∈Df ops js->∃a,js[a]?=some j/\js[a+1]?=some j'
 |[],_,_,h=>by simp[Df]at h
 |[x],_,_,h=>by simp[Df]at h
 |x::y::r,j,j',h=>by
  rw[Df]at h;rcases zzap.1 h with h|h
  ·split at h
   ·cases h
   simp at h;obtain⟨rfl,rfl⟩:=h;exact⟨0,rfl,rfl⟩
  obtain⟨a,h1,h2⟩:=N4 h;exact⟨a+1,Pi h1,Pi h2⟩
def KK{ops:Array Oper}{p:Nat}{js:P1}{jp z t:Nat}(h:N3 ops p=some (js,jp,z,t)):
  js=(List.range p).filter (eD ops C8)/\(∀i,i<p->∃o,ops[i]?=some o)/\(∃oz te,ops[z]?=some oz/\oz.op=.alloc te/\oz.dst=some t/\oz.guard=none)/\(∀i o,i<p->ops[i]?=some o->z∈Xy o->jp∈Xy o)/\
  (∀a j j' o,js[a]?=some j->js[a+1]?=some j'->ops[j']?=some o->j∈Xy o\/(j=jp/\j'=z))/\∃a,js[a]?=some jp/\js[a+1]?=some z:=by
 unfold N3 at h;simp only at h;split at h
 case h_2=>cases h
 rename_i j z' hof;split at h
 case h_2=>cases h
 rename_i oz WG;split at h
 case h_2=>cases h
 rename_i t' ht;split at h
 case isFalse=>cases h
 rename_i bD;simp only[Option.some.injEq,Prod.mk.injEq]at h;obtain⟨rfl,rfl,rfl,rfl⟩:=h;simp only[zzai]at bD;obtain⟨⟨⟨⟨h1,h2⟩,_⟩,_⟩,h5⟩:=bD
 have gI:∀i,i<p->∃o,ops[i]?=some o/\(!(Xy o).contains z'||(Xy o).contains j)=true:=fun i hi=>by
  have:=zzbe.1 h5 i (zzba.2 hi);split at this
  ·rename_i o ho;exact⟨o,ho,this⟩
  cases this
 refine⟨rfl,fun i hi=>let⟨o,ho,_⟩:=gI i hi;⟨o,ho⟩,?_,fun i o hi ho hz=>?_,fun a x y o hx hy ho=>?_,N4 (by rw[hof];simp)⟩
 ·unfold art at h1;split at h1
  ·rename_i te eC;exact⟨oz,te,WG,eC,ht,Pi h2⟩
  cases h1
 ·obtain⟨o',dx,hc⟩:=gI i hi;rw[ho]at dx;cases dx;have hz':(Xy o).contains z'=true:=by simpa using hz
  rw[hz']at hc;simpa using hc
 rcases FM a x y o hx hy ho with h|h
 ·exact .inl h
 rw[hof]at h;simp at h;exact .inr h
section
variable {N:Nat} {w0:fc} {r:Option Nat} {an:Nat->Nat->Prop} {S:G×World} {Y:YT} {P:Program} {gl:Nat->AV} {orc:X1} {ops:Array Oper} {T0:PQ} {m:AM} {p:Nat} {γ:G} {w:World} {B:Nat->QQ} {L:Nat->Option Nat}
def Chg.trans{γ' AT:G}{w' iy:World}(h:Chg γ w γ' w')(k:Chg γ' w' AT iy):Chg γ w AT iy where
 os:=k.os.trans h.os
 tape:=k.tape.trans h.tape
 output:=k.output.trans h.output
 size:=zzb h.size k.size
 same b hb hn:=by
  have qD:¬OI γ' b:=fun ho=>by
   rcases h.oi b ho with ho|ho
   ·exact hn ho
   omega
  rw[k.same b (zzar hb h.size) qD,h.same b hb hn]
 ro b o hb hr:=by
  obtain⟨h1,h2⟩:=h.ro b o hb hr;obtain⟨k1,k2⟩:=k.ro b o (zzar hb h.size) h1;exact⟨k1,k2.trans h2⟩
 oi b hb:=by
  rcases k.oi b hb with hb|hb
  ·exact h.oi b hb
  exact .inr (zzb h.size hb)
 ron b o hr:=by
  rcases k.ron b o hr with hr|hr|hr
  ·exact h.ron b o hr
  ·rcases h.oi b hr with hr|hr
   ·exact .inr (.inl hr)
   exact .inr (.inr hr)
  exact .inr (.inr (zzb h.size hr))
def aru(γs:G)(ws:World)(arr:PP)(te:TypeId):fc where
 p γ w:=Chg γs ws γ w/\ws.heap.size<w.heap.size/\w.heap[ws.heap.size]?=some (.cells arr te (0,0))/\¬OI γ ws.heap.size/\∀o,¬γ.ro ws.heap.size o
 st γ w γ' w':=by
  rintro⟨h1,h2,h3,h4,h5⟩ c;refine⟨h1.trans c,zzar h2 c.size,?_,?_,?_⟩
  ·rw[c.same _ h2 h4];exact h3
  ·intro h;rcases c.oi _ h with h|h
   ·exact h4 h
   omega
  intro o h;rcases c.ron _ _ h with h|h|h
  ·exact h5 o h
  ·exact h4 h
  omega
def aq.wK(hm:aq N w0 an γ w B L)(o:Obj):Ev w γ (w.alloc o) γ:=
 ⟨zd,fun b o' hb hr=>⟨hr,cell_of_heap (Below.heap_alloc w o b hb)⟩,fun _ _ h=>h,fun _=>zzaa _,fun _ _ h=>h,rfl,
  fun i b _ ho=>⟨ho,fun arr e he=>⟨arr,by rw[Below.heap_alloc w o b (hm.own i b ho).2.1];exact he,zzaa _⟩,fun _ h=>h⟩,
  fun b hb=>⟨hb,Below.heap_alloc w o b (hm.sp b hb).2.1⟩,Sz.of_same (Below.heap_alloc w o)⟩
def aq.awT(hm:aq N w0 an γ w B L)(o:Obj)(w1:fc)(h1:w1.p γ (w.alloc o)):aq N w1 an γ (w.alloc o) B L where
 bs:=h1
 hN:=by have:=hm.hN;simp;omega
 an:=hm.an
 robd b o h:=by have:=hm.robd b o h;simp;omega
 box id cells b hb h1:=by
  obtain⟨arr,e,h2,h3,h4⟩:=hm.box id cells b hb h1;exact⟨arr,e,by rw[Below.heap_alloc w o b (aS h2)];exact h2,h3.mono (hm.wK o),h4⟩
 β id b hb:=by
  obtain⟨h1,h2,h3⟩:=hm.β id b hb;exact⟨h1,by simp;omega,h3⟩
 inj:=hm.inj
 own id b hb:=by
  obtain⟨h1,h2,h3⟩:=hm.own id b hb;exact⟨h1,by simp;omega,h3⟩
 oinj:=hm.oinj
 sp b hb:=by
  obtain⟨h1,h2,h3⟩:=hm.sp b hb;exact⟨h1,by simp;omega,h3⟩
 mm id b hb:=by
  obtain⟨h1,h2,h3,h4,h5,h6,h8,h7⟩:=hm.mm id b hb;exact⟨h1,by simp;omega,h3,h4,h5,h6,h8,h7.mono (hm.wK o).cL.AR (Below.heap_alloc w o b h2)⟩
 minj:=hm.minj
 len:=hm.len
 cur0:=hm.cur0
def aq.pq(hm:aq N w0 an γ w B L)(id:Nat)(aM:B id=none)(D:Nat):Ev w γ w (γ.box id D) where
 size:=zzaa _
 ro b o' hb hr:=⟨hr,rfl⟩
 β i b hb:=by
  have:i≠id:=by rintro rfl;obtain⟨_,_,_,_,c,hc⟩:=hm.β i b hb;rw[aM]at hc;cases hc
  simp[G.box,this,hb]
 cur _:=zzaa _
 mm _ _ h:=h
 lp:=rfl
 own i b _ ho:=⟨ho,fun arr e he=>⟨arr,he,zzaa _⟩,fun _ h=>h⟩
 sp b hb:=⟨hb,rfl⟩
 ss:=Sz.refl w
def aq.arw(hm:aq N w0 an γ w B L)(w1:fc){D id:Nat}(aM:B id=none){cells:PQ}{arr:PP}{te:TypeId}(hN:N<=D)(hh:w.heap[D]?=some (.cells arr te (0,0)))(tM:¬OI γ D)(gC:∀o,¬γ.ro D o)
  (hr:cp w γ cells arr.toList)(zj:∀v∈arr.toList,v.oneCell'=true)(hp:w1.p (γ.box id D) w):aq N w1 an (γ.box id D) w (fun i=>if i=id then some cells else B i) L where
 bs:=hp
 hN:=hm.hN
 an:=hm.an
 robd:=hm.robd
 box i cs b hb h1:=by
  by_cases hi:i=id
  ·subst hi;simp at hb;subst hb;simp[G.box]at h1;subst h1;exact⟨arr,te,hh,hr.mono (hm.pq i aM D),zj⟩
  simp[hi]at hb;simp[G.box,hi]at h1;obtain⟨bN,e',h2,h3,h4⟩:=hm.box i cs b hb h1;exact⟨bN,e',h2,h3.mono (hm.pq id aM D),h4⟩
 β i b hb:=by
  by_cases hi:i=id
  ·subst hi;simp[G.box]at hb;subst hb;exact⟨hN,aS hh,gC,fun i' h=>tM (.inr (.inl ⟨i',h⟩)),cells,zd⟩
  simp[G.box,hi]at hb;obtain⟨h1,h2,h3,h4,c,hc⟩:=hm.β i b hb;exact⟨h1,h2,h3,h4,c,by simp[hi,hc]⟩
 inj i i' b h h':=by
  by_cases hi:i=id<;>by_cases dn:i'=id
  ·exact .inr (.inr (by rw[hi,dn]))
  ·simp[G.box,hi]at h;simp[G.box,dn]at h';subst h;exact absurd (.inl ⟨i',h'⟩) tM
  ·simp[G.box,dn]at h';simp[G.box,hi]at h;subst h';exact absurd (.inl ⟨i,h⟩) tM
  simp[G.box,hi]at h;simp[G.box,dn]at h';simp only[if_neg hi,if_neg dn];exact hm.inj i i' b h h'
 own:=hm.own
 oinj:=hm.oinj
 sp b hb:=by
  obtain⟨h1,h2,h3,h4,h5⟩:=hm.sp b hb;refine⟨h1,h2,h3,fun i hi=>?_,h5⟩;by_cases aM:i=id
  ·simp[G.box,aM]at hi;subst hi;exact tM (.inr (.inr (.inl hb)))
  simp[G.box,aM]at hi;exact h4 i hi
 mm i' b hb:=by
  obtain⟨h1,h2,h3,h4,h5,h6,h8,h7⟩:=hm.mm i' b hb
  have aJ:i'≠id:=by
   rintro rfl;obtain⟨_,_,hx,_⟩:=h7;rw[aM]at hx;cases hx
  refine⟨h1,h2,h3,fun i hi=>?_,h5,h6,by simp[G.box,aJ,h8],?_⟩
  ·by_cases aM:i=id
   ·simp[G.box,aM]at hi;subst hi;exact tM (.inr (.inr (.inr ⟨i',hb⟩)))
   simp[G.box,aM]at hi;exact h4 i hi
  simp only[aJ,if_false];exact h7.mono (hm.pq id aM D).cL.AR rfl
 minj:=hm.minj
 len:=hm.len
 cur0:=hm.cur0
def Dg{l:Array Bool}{i j:Nat}:(l.setIfInBounds i true).setIfInBounds j true=(l.setIfInBounds j true).setIfInBounds i true:=by
 by_cases h:i=j
 ·rw[h]
 exact Array.setIfInBounds_comm _ _ h
structure awU (N:Nat) (w0:fc) (r:Option Nat) (an:Nat->Nat->Prop) (S:G×World) (Y:YT) (P:Program) (gl:Nat->AV) (orc:X1) (ops:Array Oper) (T0:PQ) (m:AM) (ms:So) (js:P1) (L:R0) (p jp z t:Nat) (zs:PQ) (listed l0:Array Bool) (γs:G) (ws:World) (arr:PP) (te:TypeId) (γ:G) (w:World) (a:Act):Prop where
 eq:listed=l0.setIfInBounds z true
 zl:l0.getD z false=false
 pl:l0.getD jp false=false
 clo:FA ops listed
 inv:qY N (aru γs ws arr te) r an S Y P gl orc ops T0 m ms js L p l0 γ w a
 st:w0.p γs ws
 hN:N<=ws.heap.size
 slot:t<T0.length->a.tmps.getD t undef=.pointer (some ⟨ws.heap.size,0,none⟩)
 zr:∀w γ,ak w γ zs arr.toList
 zc:zs.all Qw=true
def FN{Q:QR}{K:AS->Prop}{γ:G}{w:World}{s:AS}{a:Act}{js:P1}{jp z t:Nat}(hQ:∀γ w s a,K s->dP N w0 r an S P gl Y γ w s a->Q .normal a w)(hc:zq ops p=true)(heZ:N3 ops p=some (js,jp,z,t))
  (hY:∀i as' m K,¬Y i as' m K){ms:So}(h:iK P gl orc Y ((ops.toList.drop p).map (Xf P ops)) K s.m ms ((ops.toList.take p).map (Xf P ops)) (flags ops p js) ms s.m s.T)(hT:s.T.getD t .junk=.junk)(hs:dP N w0 r an S P gl Y γ w s a):
  wpAnyIn (FW r) 0 P .any ops Q ops.size (Array.replicate ops.size false) a {w with drawn:=w.drawn+1}:=by
 obtain⟨hp,dA⟩:=Zm hc;obtain⟨jc,o9,⟨oz,te,WG,eC,hdz,hgz⟩,hzp,ai4,az,haz,tP⟩:=KK heZ;have qE:js.Nodup:=by rw[jc];exact(zzdo).filter _
 have De:∀j∈js,j<p:=fun j h=>by rw[jc,zzcr]at h;exact zzba.1 h.1
 have awV:=zzac tP;have awW:=zzac haz;have aeo:=De z awV;have azc:=De jp awW
 have hpz:jp≠z:=by
  rintro rfl;have:=Uu qE haz tP;omega
 obtain⟨aH,h1,h2⟩:=N1 (P:=P) (gl:=gl) (orc:=orc) (T0:=s.T) (m:=s.m) ((ops.toList.drop p).map (Xf P ops)) K hp jc p 0 s.m zd (by simp[fC]) (by simp[fC,Vt]) (by simpa[bY,fC]using h);have hyk:∀(w0:fc)(γ:G)(w:World),V2 N w0 an P Y γ w:=fun _ _ _ _ _ _ i as' m K _ _ _ _ hyy=>(hY i as' m K hyy).elim;obtain⟨xz,hxz⟩:∃xz,ms[az+1]?=some xz:=⟨ms[az+1]'(by have:=(zza.1 tP).1;omega),zzad _⟩;have WH:=(h1 z oz (zzbi _) aeo WG).2.1 (az+1) xz tP hxz
 have IQ:∃zs,zc P te=some zs/\tr P oz=.alloc zs:=by
  obtain⟨dst,op,ty,pos,after,guard⟩:=oz;simp only at eC;subst eC;simp only[tr]at WH |-
  cases hzc:zc P te with
  |none=>rw[hzc]at WH;exact absurd WH.1 (by simp[memEff])
  |some zs=>exact⟨zs,rfl,rfl⟩
 obtain⟨zs,hzc,IQ⟩:=IQ;rw[IQ]at WH;obtain⟨_,e1,e2,e3⟩:=WH;have e1:zs.all Qw=true:=e1;have e2:xz.1=.ptr (Vt s.m ms (az+1)).boxes.length 0:=e2;have e3:xz.2={Vt s.m ms (az+1)with boxes:=(Vt s.m ms (az+1)).boxes++[zs]}:=e3
 have full:∀(aZ:Nat)(listed:Array Bool)(γ:G)(w:World)(a:Act),qY N w0 r an S Y P gl orc ops s.T s.m ms js (Xb js ms) p listed γ w a->uc ops listed<=aZ->(∀i,i<p->listed.getD i false=true)->wpAnyIn (FW r) 0 P .any ops Q aZ listed a w:=by
  intro aZ listed γ w a hI jg bD;have hml:Yy listed s.m js ms=Vt s.m ms ms.length:=Uw aH zE (fun b j _ hb=>bD j (De j (zzac hb))) (fun j hj=>by rw[zzau zE]at hj;cases hj);have eE:=hI.mm;have ow:=hI.ls;rw[hml]at eE ow;refine Qdn hQ hc aZ p listed γ w _ a (zzaa _) hp hI.size bD hI.tail jg h2 ⟨eE,ow,hI.rd,⟨?_,fun t x v hx hv=>?_⟩,hI.d,hI.g,hI.y,hI.e⟩
  ·simp[Qdz,hI.tl]
  have h1:=hI.tt t
  have hAt:o7 P gl orc ops s.T s.m (Xb js ms) p listed t=x:=by
   have kH:(bY P gl orc ops s.T s.m (Xb js ms) p).getD t .junk=x:=by simp only at hx;simp[List.getD,hx]
   unfold o7;split
   ·exact kH
   rename_i hw;rw[<- kH];refine(Qav p fun j hj hd=>hw ?_).symm;unfold wr;rw[zzbv];exact⟨j,zzba.2 hj,by rw[bD j hj,hd];simp⟩
  rw[hAt]at h1;have:a.tmps.getD t undef=v:=by simp at hv;simp[hv]
  rwa [this]at h1
 have main:∀(aZ:Nat)(listed:Array Bool)(γ:G)(w:World)(a:Act),(qY N w0 r an S Y P gl orc ops s.T s.m ms js (Xb js ms) p listed γ w a\/∃l0 γs ws arr zm,awU N w0 r an S Y P gl orc ops s.T s.m ms js (Xb js ms) p jp z t zs listed l0 γs ws arr zm γ w a)->
   uc ops listed<=aZ->wpAnyIn (FW r) 0 P .any ops Q aZ listed a w:=by
  intro aZ;induction aZ with
  |zero=>
   intro listed γ w a hI jg;obtain hI|⟨l0,γs,ws,arr,zm,hH⟩:=hI
   ·exact full 0 listed γ w a hI jg fun i hi=>by
     rw[Qy (by rw[hI.size];omega) false true];exact Qdm (zzfe.1 jg) zE
   exfalso;have hsz:listed.size=ops.size:=by rw[hH.eq];simp[hH.inv.size]
   have:=Qdm (ops:=ops) (listed:=listed) (zzfe.1 jg) (i:=jp) zE;rw[<- Qy (by rw[hsz];omega) false true,hH.eq,Qt hpz,hH.pl]at this;cases this
  |succ aZ ih=>
   intro listed γ w a hI jg;obtain hI|⟨l0,γs,ws,arr,zm,hH⟩:=hI
   ·by_cases bD:∀i,i<p->listed.getD i false=true
    ·exact full (aZ+1) listed γ w a hI jg bD
    have hex:∃k,k<p/\listed.getD k true=false:=by
     refine Classical.byContradiction fun hn=>bD fun i hi=>?_;rw[Qy (by rw[hI.size];omega) false true];cases hl:listed.getD i true with
     |true=>rfl
     |false=>exact absurd ⟨i,hi,hl⟩ hn
    obtain⟨k,hk,Wg⟩:=hex;refine⟨fun hr=>?_,fun i hi=>?_⟩
    ·obtain⟨j,hj⟩:=Uk hc hI.size k k (zzaa _) zE Wg;rw[hr]at hj;cases hj
    obtain⟨aa,hu,o,ho,bX⟩:=Ul hc hi
    have dH:i<p:=by
     rcases zzab i p with h|h
     ·exact h
     have:=Qay hI.clo ho ((dA i o ho).2.2 h) bX i k zE zE;rw[Qy (by rw[hI.size];omega) false true,Wg]at this;cases this
    have huf:listed.getD i false=false:=by rw[Qy (by rw[hI.size];exact aa) false true];exact hu
    by_cases hear:i=z/\listed.getD jp false=false
    ·
     obtain⟨rfl,hjp⟩:=hear;rw[WG]at ho;cases ho;obtain⟨iz,zv,hi1,hi2,hi3⟩:=iY (P:=P) (w:=w) (γ:=γ) hzc
     have arx:∀w γ,ak w γ zs zv.cells.toList:=fun w γ=>by
      obtain⟨i',z',q1,q2,q3⟩:=iY (P:=P) (w:=w) (γ:=γ) hzc;rw[hi1]at q1;cases q1;rw[hi2]at q2;cases q2;exact q3
     have aX:(execOp a.eval oz).run P w=.ok (.value (.pointer (some ⟨w.heap.size,0,none⟩))) (w.alloc (.cells zv.cells te)):=by
      obtain⟨dst,op,ty,pos,after,guard⟩:=oz;simp only at eC;subst eC;simp[execOp,Instr.alloc,zeroValue,typeInfo,hi1,hi2,newVar,newRow]
     simp only[wpOpIn,WG];rw[if_pos (by simp[Region.wanted,hgz])];refine Zj aX (ih _ γ _ _ (.inr ⟨listed,γ,w,zv.cells,te,⟨rfl,huf,hjp,FA.set hI.clo WG (by rw[hI.size];exact aa) bX,?_,hI.mm.bs,hI.mm.hN,?_,arx,e1⟩⟩) ?_)
     ·have bZ:=hI.mm.wK (.cells zv.cells te);refine⟨hI.size,hI.tail,hI.ch,hI.clo,hI.mm.awT _ _ ?_,hI.ls.mono bZ,hI.rd.aV bZ.cL,by simp[Act.put,hdz,hI.tl],fun t'=>?_,?_,fun g=>(hI.g g).aV bZ.cL.cW,hyk _ _ _,hI.e.trans bZ.cL⟩
      ·refine⟨⟨rfl,rfl,rfl,zd,fun b hb _=>Below.heap_alloc w _ b hb,bZ.ro,fun _ h=>.inl h,fun _ _ h=>.inl h⟩,zd,heap_alloc_new w _,?_,fun o' dx=>?_⟩
       ·rintro(⟨id,h⟩|⟨id,h⟩|h|⟨id,h⟩)
        ·have:=(hI.mm.β id _ h).2.1;omega
        ·have:=(hI.mm.own id _ h).2.1;omega
        ·have:=(hI.mm.sp _ h).2.1;omega
        have:=(hI.mm.mm id _ h).2.1;omega
       have:=hI.mm.robd _ _ dx;omega
      ·rw[hdz];by_cases htt:t'=t
       ·subst htt
        have hA:o7 P gl orc ops s.T s.m (Xb js ms) p listed t'=.junk:=by
         unfold o7;rw[if_neg,hT];intro hw;unfold wr at hw;obtain⟨j,hj,hjw⟩:=zzbv.1 hw;simp only[zzai,beq_iff_eq]at hjw
         have hjz:j=i:=by
          rcases zzeb j i with bK|A6|o6
          ·exact absurd hdz (((dA i oz WG).2.1 aeo).2 j bK t' hjw.2)
          ·exact A6
          obtain⟨oj,hoj⟩:=o9 j (zzba.1 hj);have:=((dA j oj hoj).2.1 (zzba.1 hj)).2 i o6 t' (by simp[Vp,WG,hdz]);have h2:=hjw.2;simp[Vp,hoj]at h2;exact absurd h2 this
         rw[hjz,huf]at hjw;exact absurd hjw.1 zd
        rw[hA];exact .junk _
       have:(a.put (some t) (.pointer (some ⟨w.heap.size,0,none⟩))).tmps.getD t' undef=a.tmps.getD t' undef:=by
        simp only[Act.put];simp;rw[zzco (Ne.symm htt)]
       rw[this];exact(hI.tt t').aV bZ.cL
      rw[hdz];exact hI.d.aV bZ.cL
     ·intro iJ;rw[hdz];have:t<a.tmps.size:=by rw[hI.tl];exact iJ
      simp[Act.put,this]
     have:=jf hI.size aa hu;omega
    have nt:∀a j,js[a]?=some j->js[a+1]?=some i->listed.getD j false=true:=fun a j e1 e2=>by
     rcases ai4 a j i o e1 e2 ho with h|⟨rfl,rfl⟩
     ·exact bX j h
     cases hl:listed.getD j false with
     |true=>rfl
     |false=>exact absurd ⟨rfl,hl⟩ hear
    refine wpOpIn_mono ?_ (Qcd hc hI ho dH (h1 i o (zzbi _) dH ho).2.2 aH qE hu bX nt (h1 i o (zzbi _) dH ho).1 (h1 i o (zzbi _) dH ho).2.1);rintro a' w' ⟨γ',lI,_⟩;refine ih _ γ' w' a' (.inl lI) ?_;have:=jf hI.size aa hu;omega
   have hsz:listed.size=ops.size:=by rw[hH.eq];simp[hH.inv.size]
   have ov:∀k d,k≠z->listed.getD k d=l0.getD k d:=fun k d hk=>by rw[hH.eq,Qt hk]
   have alG:listed.getD jp false=false:=by rw[ov jp false hpz];exact hH.pl
   have ary:jp<listed.size:=by rw[hsz];omega
   have arz:z<l0.size:=by rw[hH.inv.size];omega
   refine⟨fun hr=>?_,fun i hi=>?_⟩
   ·obtain⟨j,hj⟩:=Uk hc hsz jp jp (zzaa _) zE (by rw[Qy ary true false];exact alG);rw[hr]at hj;cases hj
   obtain⟨aa,hu,o,ho,bX⟩:=Ul hc hi
   have dH:i<p:=by
    rcases zzab i p with h|h
    ·exact h
    have:=Qay hH.clo ho ((dA i o ho).2.2 h) bX i jp zE zE;rw[alG]at this;cases this
   have hiz:i≠z:=by
    rintro rfl;rw[hH.eq,Xq arz]at hu;cases hu
   have ai5:∀j∈Xy o,l0.getD j false=true:=fun j hj=>by
    have hjz:j≠z:=by
     rintro rfl;have:=bX jp (hzp i o dH ho hj);rw[alG]at this;cases this
    rw[<- ov j false hjz];exact bX j hj
   have hu0:l0.getD i true=false:=by rw[<- ov i true hiz];exact hu
   have nt:∀a j,js[a]?=some j->js[a+1]?=some i->l0.getD j false=true:=fun a j e1 e2=>by
    rcases ai4 a j i o e1 e2 ho with h|⟨_,h⟩
    ·exact ai5 j h
    exact absurd h hiz
   refine wpOpIn_mono ?_ (Qcd (w0:=aru γs ws arr zm) hc hH.inv ho dH (h1 i o (zzbi _) dH ho).2.2 aH qE hu0 ai5 nt (h1 i o (zzbi _) dH ho).1 (h1 i o (zzbi _) dH ho).2.1);rintro a' w' ⟨γ',lI,zQ⟩;have arA:listed.setIfInBounds i true=(l0.setIfInBounds i true).setIfInBounds z true:=by rw[hH.eq];exact Dg
   have hdt:o.dst≠some t:=by
    rcases zzeb i z with bK|A6|o6
    ·intro hd;exact((dA z oz WG).2.1 aeo).2 i bK t (by simp[Vp,ho,hd]) hdz
    ·exact absurd A6 hiz
    exact((dA i o ho).2.1 dH).2 z o6 t (by simp[Vp,WG,hdz])
   have ai6:t<s.T.length->a'.tmps.getD t undef=.pointer (some ⟨ws.heap.size,0,none⟩):=fun iJ=>by rw[zQ t hdt];exact hH.slot iJ
   have jg:uc ops (listed.setIfInBounds i true)<=aZ:=by
    have:=jf hsz aa hu;omega
   by_cases fL:i=jp
   ·subst fL;have C6:=FA.set hH.clo ho (by rw[hsz];exact aa) bX;refine ih _ (γ'.box (Vt s.m ms (az+1)).boxes.length ws.heap.size) w' a' (.inl ?_) jg;rw[arA]at C6 |-
    obtain⟨c1,c2,c3,c4,c5⟩:=lI.mm.bs;have alH:i<l0.size:=by rw[hH.inv.size];exact aa
    have U6:(l0.setIfInBounds i true).getD z false=false:=by rw[Qt (Ne.symm hiz)];exact hH.zl
    have Dc:∀b j,b<az+1->js[b]?=some j->(l0.setIfInBounds i true).getD j false=true:=fun b j hb hj=>by
     rcases zzab b az with bK|bu
     ·exact Qbl lI.ch bK hj haz (Xq alH)
     obtain rfl:b=az:=zE
     rw[haz]at hj;cases hj;exact Xq alH
    have azd:az+1<js.length:=(zza.1 tP).1;have nk:Yy (l0.setIfInBounds i true) s.m js ms=Vt s.m ms (az+1):=Uw aH zE Dc (fun j hj=>by rw[tP]at hj;cases hj;exact U6)
    have oy:Yy ((l0.setIfInBounds i true).setIfInBounds z true) s.m js ms=xz.2:=by
     have:=Uw (listed:=(l0.setIfInBounds i true).setIfInBounds z true) (m:=s.m) (a:=az+2) aH zE (fun b j hb hj=>?_) (fun j hj=>?_)
     ·rw[this];simp[Vt,List.getD,hxz]
     ·rcases zzab b (az+1)with h|h
      ·have hjz:j≠z:=by
        rintro rfl;have:=Uu qE hj tP;omega
       rw[Qt hjz];exact Dc b j h hj
      obtain rfl:b=az+1:=zE
      rw[tP]at hj;cases hj;exact Xq (Pi arz)
     have hjz:j≠z:=by
      rintro rfl;have:=Uu qE hj tP;omega
     rw[Qt hjz];cases hl:(l0.setIfInBounds i true).getD j false with
     |false=>rfl
     |true=>
      have:=Qbl lI.ch (zzf (az+1)) tP hj hl;rw[U6]at this;cases this
    have eE:=lI.mm;have ow:=lI.ls;rw[nk]at eE ow;have aM:(Vt s.m ms (az+1)).B (Vt s.m ms (az+1)).boxes.length=none:=by simp[AM.B]
    have bZ:=eE.pq _ aM ws.heap.size;refine⟨by simp[hH.inv.size],fun j dL ot=>by rw[Qt zE];exact lI.tail j dL ot,uB lI.ch (fun b j g1 g2=>?_),C6,?_,?_,lI.rd.aV bZ.cL,lI.tl,fun t'=>?_,lI.d.aV bZ.cL,fun g=>(lI.g g).aV bZ.cL.cW,hyk _ _ _,lI.e.trans bZ.cL⟩
    ·have:b+1=az+1:=Uu qE g2 tP;obtain rfl:b=az:=zE
     exact Dc _ j (zzf _) g1
    ·rw[oy,e3];have hmA:=eE.arw w0 (te:=zm) aM hH.hN c3 c4 c5 (hH.zr w' γ').toP (Yl (hH.zr w' γ') hH.zc) (w0.st γs ws _ w' hH.st ⟨c1.os,c1.tape,c1.output,c1.size,c1.same,c1.ro,fun b hb=>?_,c1.ron⟩)
     ·have hB:({Vt s.m ms (az+1)with boxes:=(Vt s.m ms (az+1)).boxes++[zs]}:AM).B=fun i=>if i=(Vt s.m ms (az+1)).boxes.length then some zs else(Vt s.m ms (az+1)).B i:=SR _ _;rw[hB];exact hmA
     obtain⟨i',dn⟩|hb|hb:=hb
     ·by_cases h:i'=(Vt s.m ms (az+1)).boxes.length
      ·simp[G.box,h]at dn;exact .inr zE
      simp[G.box,h]at dn;exact c1.oi b (.inl ⟨i',dn⟩)
     ·exact c1.oi b (.inr (.inl hb))
     exact c1.oi b (.inr (.inr hb))
    ·rw[oy,e3];exact ow.mono' bZ rfl
    rw[Db hc (by simp[hH.inv.size]) WG aeo];by_cases FH:oz.dst=some t'/\t'<s.T.length
    ·rw[if_pos FH];rw[hdz]at FH;obtain⟨awX,KL⟩:=FH;cases awX;rw[ji (P:=P) (gl:=gl) (orc:=orc) (ops:=ops) (m:=s.m) qE tP hxz,e2,ai6 KL];exact .ptr (by simp[G.box])
    rw[if_neg FH];exact(lI.tt t').mono bZ
   exact ih _ γ' w' a' (.inr ⟨l0.setIfInBounds i true,γs,ws,arr,zm,arA,by rw[Qt (Ne.symm hiz)];exact hH.zl,by rw[Qt (Ne.symm fL)];exact hH.pl,FA.set hH.clo ho (by rw[hsz];exact aa) bX,lI,hH.st,hH.hN,ai6,hH.zr,hH.zc⟩) jg
 have tO:∀j,(Array.replicate ops.size false).getD j false=false:=fun j=>by
  rcases zzab j ops.size with h|h<;>simp[h]
 have nt:∀WC:P1,chn (Array.replicate ops.size false) WC:=fun WC=>by
  induction WC with
  |nil=>trivial
  |cons j r ih=>
   cases r with
   |nil=>trivial
   |cons j' r=>exact⟨fun h=>(by rw[tO]at h;cases h),ih⟩
 have KH:Yy (Array.replicate ops.size false) s.m js ms=s.m:=Uw (a:=0) aH zE (fun b j hb=>zE) (fun j _=>tO j);refine main ops.size _ γ w.drew a (.inl ⟨zd,fun i _ hi=>by simp[hi],nt js,fun j o h=>(by rw[tO]at h;cases h),?_,?_,hs.rd.aV (Ev.drew w γ).cL,?_,fun t=>?_,hs.d.aV (Ev.drew w γ).cL,fun g=>(hs.g g).mono (Ev.drew w γ).cW,hs.y.mono (Ev.drew w γ).cL,hs.e.trans (Ev.drew w γ).cL⟩) ?_
 ·rw[KH];exact hs.m.drew
 ·rw[KH];exact hs.ls.mono (Ev.drew w γ)
 ·have:=hs.t.1;simp at this;omega
 ·have hw:wr ops p (Array.replicate ops.size false) t=false:=by
   unfold wr;rw[zzec];intro j _;rw[tO j];simp
  unfold o7;rw[hw];simp only[zzbp,if_false];have:=(hs.t.mono (Ev.drew w γ)).get t;simpa[List.getD]using this
 unfold uc;exact zzb (zzeu) zd
end
inductive SC where
 |skip
 |ops (l:List SO)
 |opsX (l:List SO)
 |draw (l l2:List SO)
 |drawE (fl:List Fg) (l l2:List SO)
 |drawZ (z:Nat) (fl:List Fg) (l l2:List SO)
 |seq (a b:SC)
 |cond (x:bM) (a b:SC)
 |block (id:Nat) (c:SC)
 |loop (c:SC)
 |exit (id:Nat)
 |scope (c:SC)
 |rfunc (g:bM) (ps:P1) (pz body:SC)
 |ret
 |bad
def pE:P1->SC->SC
 |[],c=>c
 |0::p,.seq x _=>pE p x
 |_::p,.seq _ x=>pE p x
 |0::p,.cond _ x _=>pE p x
 |_::p,.cond _ _ x=>pE p x
 |_::p,.block _ x=>pE p x
 |_::p,.loop x=>pE p x
 |_::p,.scope x=>pE p x
 |0::p,.rfunc _ _ x _=>pE p x
 |_::p,.rfunc _ _ _ x=>pE p x
 |_,c=>c
def zR:P1->SC->SC->SC
 |[],_,t=>t
 |0::p,.seq x y,t=>.seq (zR p x t) y
 |_::p,.seq y x,t=>.seq y (zR p x t)
 |0::p,.cond c x y,t=>.cond c (zR p x t) y
 |_::p,.cond c y x,t=>.cond c y (zR p x t)
 |_::p,.block n x,t=>.block n (zR p x t)
 |_::p,.loop x,t=>.loop (zR p x t)
 |_::p,.scope x,t=>.scope (zR p x t)
 |0::p,.rfunc g l x y,t=>.rfunc g l (zR p x t) y
 |_::p,.rfunc g l y x,t=>.rfunc g l y (zR p x t)
 |_,c,_=>c
def alI(n:Nat):P1->P1
 |[]=>[n]
 |k::l=>bif n.ble k then(bif n.beq k then k::l else n::k::l)else k::alI n l
def Dh(r:P1):List SO->P1
 |[]=>r
 |o::l=>match o.dst with|some n=>alI n (Dh r l)|none=>Dh r l
def arB(r:P1):P1->P1
 |[]=>r
 |n::l=>alI n (arB r l)
def rW(r:P1):SC->P1
 |.ops l=>Dh r l
 |.draw l k=>Dh (Dh r k) l
 |.drawE _ l k=>Dh (Dh r k) l
 |.drawZ _ _ l k=>Dh (Dh r k) l
 |.seq x y=>rW (rW r y) x
 |.cond _ x y=>rW (rW r y) x
 |.block _ x=>rW r x
 |.loop x=>rW r x
 |.scope x=>rW r x
 |.rfunc _ l x y=>rW (rW (arB r l) y) x
 |_=>r
abbrev KM(p:P1)(c:SC):={x:SC // x=pE p c}
abbrev FO(p:P1)(c:SC):={x:SC->SC // ∀t,x t=zR p c t}
abbrev wT(p:P1)(c:SC):={x:P1 // x=rW [] (pE p c)}
def qZ{P:Program}{ops:Array Oper}{p:Nat}{js:P1}(hc:zq ops p=true):(flags ops p js).length=((ops.toList.take p).map (Xf P ops)).length:=by
 have:=(Zm hc).1;simp[flags];omega
def alJ{P:Program}{ops:Array Oper}{p:Nat}{js:P1}(hc:zq ops p=true)(h:aen (flags ops p js++bkF ops p js) ((ops.toList.take p).map (Xf P ops))=true):wI ops p js=true:=by
 unfold aen at h;rw[<- qZ (js:=js) hc,zzeg]at h;unfold bkF at h;cases hb:wI ops p js with
 |true=>rfl
 |false=>rw[hb]at h;simp at h
def alK(ops:Array Oper):Bool:=(ops.toList.any fun o=>match o.op with
 |.call ⟨.value (.func f),_,_⟩=>arj f
 |_=>false)||((ops.toList.any fun o=>match o.op with
 |.panic _=>true
 |_=>false)&&ops.toList.any fun o=>match o.op with
 |.load _ (.global _)=>true
 |_=>false)
def Yj(P:Program):Code->SC
 |.skip=>.skip
 |.region _ ops false=>bif alK ops then .opsX (ops.toList.map (Xf P ops))else .ops (ops.toList.map (Xf P ops))
 |.region _ ops true=>if P.follows .mixedOrders&&zq ops (Wz ops)then(match nr ops (Wz ops)with
  |some js=>.drawE (flags ops (Wz ops) js++bkF ops (Wz ops) js) ((ops.toList.take (Wz ops)).map (Xf P ops)) ((ops.toList.drop (Wz ops)).map (Xf P ops))
  |none=>(match N3 ops (Wz ops)with
   |some (js,_,_,t)=>.drawZ t (flags ops (Wz ops) js) ((ops.toList.take (Wz ops)).map (Xf P ops)) ((ops.toList.drop (Wz ops)).map (Xf P ops))
   |none=>.draw ((ops.toList.take (Wz ops)).map (Xf P ops)) ((ops.toList.drop (Wz ops)).map (Xf P ops))))else .bad
 |.seq a b=>.seq (Yj P a) (Yj P b)
 |.cond c a b=>.cond (aB c) (Yj P a) (Yj P b)
 |.block id c=>.block id (Yj P c)
 |.loop c=>.loop (Yj P c)
 |.exit id=>.exit id
 |.label _=>.skip
 |.scope c=>.scope (Yj P c)
 |.rangeFunc g ps pz body=>.rfunc (aB g) ps.toList (Yj P pz) (Yj P body)
 |.ret=>.ret
 |_=>.bad
def uD(st:Nat->LS)(l:Nat)(x:LS):Nat->LS:=fun i=>if i=l then x else st i
def AM.at_(m:AM)(l:Nat)(x:LS):AM:={m with st:=uD m.st l x}
def AM.bL(m:AM):AM:={m with st:=uD m.st m.ln .ready,ln:=m.ln+1}
def Qbs(T:PQ):P1->PQ->PQ
 |p::ps,x::xs=>Qbs (T.set p x) ps xs
 |_,_=>T
section vc
variable (P:Program) (gl:Nat->AV) (orc:X1) (Y:YT)
def WI(k:AS->(T5)->Prop)(Q:T5):T5
 |.normal,s=>k s Q
 |ex,s=>Q ex s
def rf(id:Nat)(Q:T5):T5
 |.exit id',s=>if id'=id then Q .normal s else Q (.exit id') s
 |ex,s=>Q ex s
def wL(Q:T5):T5
 |.goto _,_=>False
 |ex,s=>Q ex s
def nx(I:AS->Prop)(μ:AS->Nat)(s:AS)(Q:T5):T5
 |.normal,s'=>I s'/\μ s'<μ s
 |ex,s'=>Q ex s'
def WJ(l:Nat)(K:Bool->AM->Prop):T5
 |.normal,s=>K true (s.m.at_ l .ready)
 |.ret,s=>K false (s.m.at_ l (.done .ret))
 |.exit id,s=>K false (s.m.at_ l (.done (.exit id)))
 |_,_=>False
def QN(l:Nat)(k:AS->Prop):T5
 |.normal,s=>s.m.st l=.ready/\k ⟨s.T,s.m.at_ l .busy⟩
 |_,_=>False
def KN(l:Nat)(T:PQ)(m:AM)(Q:T5):LS->Prop
 |.ready=>Q .normal ⟨T,m.at_ l .gone⟩
 |.done ex=>Q ex ⟨T,m.at_ l .gone⟩
 |_=>False
def Yin(l n:Nat)(k:PQ->AM->(Bool->AM->Prop)->Prop):YT:=fun l' args m K=>if l'=l then m.st l=.ready/\args.length=n/\k args m K else Y l' args m K
def vc:SC->AS->(T5)->Prop
 |.skip,s,Q=>Q .normal s
 |.ops l,s,Q=>Ze P gl orc Y l s (Q .normal)
 |.opsX l,s,Q=>Ze P gl orc Y l s (Q .normal)\/∃k,IN P gl orc Y k l s Q
 |.draw l l2,s,Q=>vcD P gl orc Y l2 (Q .normal) l s.T s.m []
 |.drawE fl l l2,s,Q=>vcD P gl orc Y l2 (Q .normal) l s.T s.m []\/(∃ms,uA P gl orc Y l2 (Q .normal) s.m ms l fl ms s.m s.T)\/(aen fl l=true/\∃(ms:So)(R:UV),(∃x:AV×AM,R x.1 x.2)/\∀x:AV×AM,R x.1 x.2->kR P gl orc Y R l2 (Q .normal) s.m (ms++[x]) l fl (ms++[x]) s.m s.T)
 |.drawZ z fl l l2,s,Q=>(∀i as' m K,¬Y i as' m K)/\s.T.getD z .junk=.junk/\∃ms,iK P gl orc Y l2 (Q .normal) s.m ms l fl ms s.m s.T
 |.seq a b,s,Q=>vc a s (WI (vc b) Q)
 |.cond x a b,s,Q=>match ev gl s.T x with
  |.bool t=>(t=true->vc a s Q)/\(t=false->vc b s Q)
  |_=>False
 |.block id c,s,Q=>vc c s (rf id Q)
 |.loop c,s,Q=>∃(I:AS->Prop)(μ:AS->Nat),I s/\∀s',I s'->vc c s' (nx I μ s' Q)
 |.exit id,s,Q=>Q (.exit id) s
 |.scope c,s,Q=>vc c s (wL Q)
 |.rfunc g ps pz body,s,Q=>match ev gl s.T g with
  |.fn f first cap=>s.m.st s.m.ln=.gone->aA P gl (Yin Y s.m.ln ps.length fun args m K=>vc pz ⟨Qbs s.T ps args,m⟩ (QN s.m.ln fun s'=>vc body s' (WJ s.m.ln K))) f (first++[.yld s.m.ln]++cap) (s.m.bL)
    fun _ m'=>KN s.m.ln s.T m' Q (m'.st s.m.ln)
  |_=>False
 |.ret,s,Q=>Q .ret s
 |.bad,_,_=>False
end vc
section
variable {N:Nat} {w0:fc} {r:Option Nat} {an:Nat->Nat->Prop} {S:G×World} {Y:YT} {P:Program} {gl:Nat->AV} {orc:X1} {γ:G} {w:World}
def lift(N:Nat)(w0:fc)(r:Option Nat)(an:Nat->Nat->Prop)(S:G×World)(P:Program)(gl:Nat->AV)(Y:YT)(Q:T5):QR:=fun ex a w=>∃γ s,dP N w0 r an S P gl Y γ w s a/\Q ex s
def aq.WK{B:Nat->QQ}{L:Nat->Option Nat}(hm:aq N w0 an γ w B L)(o:Obj):
  aq N w0 an {γ with sp:=fun b=>γ.sp b\/b=w.heap.size} (w.alloc o) B L/\Ev w γ (w.alloc o) {γ with sp:=fun b=>γ.sp b\/b=w.heap.size}:=by
 have bZ:Ev w γ (w.alloc o) {γ with sp:=fun b=>γ.sp b\/b=w.heap.size}:=
  ⟨zd,fun b o' hb hr=>⟨hr,cell_of_heap (Below.heap_alloc w o b hb)⟩,fun _ _ h=>h,fun _=>zzaa _,fun _ _ h=>h,rfl,
   fun i b _ ho=>⟨ho,fun arr e he=>⟨arr,by rw[Below.heap_alloc w o b (hm.own i b ho).2.1];exact he,zzaa _⟩,fun _ h=>h⟩,
   fun b hb=>⟨.inl hb,Below.heap_alloc w o b (hm.sp b hb).2.1⟩,Sz.of_same (Below.heap_alloc w o)⟩
 refine⟨⟨w0.st _ _ _ _ hm.bs ⟨rfl,rfl,rfl,zd,fun b hb _=>Below.heap_alloc w _ b hb,bZ.ro,fun b hb=>?_,fun _ _ h=>.inl h⟩,by have:=hm.hN;simp;omega,hm.an,fun b o h=>by have:=hm.robd b o h;simp;omega,
  fun id cells b hb h1=>?_,fun id b hb=>?_,hm.inj,fun id b hb=>?_,hm.oinj,fun b hb=>?_,fun id b hb=>?_,hm.minj,hm.len,hm.cur0⟩,bZ⟩
 ·obtain hb|hb|(hb|rfl)|hb:=hb
  ·exact .inl (.inl hb)
  ·exact .inl (.inr (.inl hb))
  ·exact .inl (.inr (.inr (.inl hb)))
  ·exact .inr (zzaa _)
  exact .inl (.inr (.inr (.inr hb)))
 ·obtain⟨arr,e,h2,h3,h4⟩:=hm.box id cells b hb h1;exact⟨arr,e,by rw[Below.heap_alloc w _ b (aS h2)];exact h2,h3.mono bZ,h4⟩
 ·obtain⟨h1,h2,h3⟩:=hm.β id b hb;exact⟨h1,by simp;omega,h3⟩
 ·obtain⟨h1,h2,h3⟩:=hm.own id b hb;exact⟨h1,by simp;omega,h3⟩
 ·obtain hb|rfl:=hb
  ·obtain⟨h1,h2,h3⟩:=hm.sp b hb;exact⟨h1,by simp;omega,h3⟩
  refine⟨hm.hN,zd,fun o' h=>?_,fun id h=>?_,fun id h=>?_⟩
  ·have:=hm.robd _ _ h;omega
  ·have:=(hm.β id _ h).2.1;omega
  have:=(hm.own id _ h).2.1;omega
 obtain⟨h1,h2,h3,h4,h5,h6,h8,h7⟩:=hm.mm id b hb;refine⟨h1,by simp;omega,h3,h4,h5,?_,h8,h7.mono bZ.cL.AR (Below.heap_alloc w o b h2)⟩;rintro(h|rfl)
 ·exact h6 h
 omega
def aq.WL{B:Nat->QQ}{L:Nat->Option Nat}(hm:aq N w0 an γ w B L){D:Nat}(hD:γ.sp D){o o0:Obj}(h0:w.heap[D]?=some o0)(hnc:∀c e f,o0≠.cells c e f)(awY:∀c e f,o≠.cells c e f)
  {γ':G}(hγ:γ'=γ\/γ'={γ with sp:=fun b=>γ.sp b/\b≠D})(FP:γ'=γ->qL (some o0) (some o)):
  aq N w0 an γ' (w.putObj D o) B L/\NM w γ (w.putObj D o) γ'/\(∀wS γS,ek wS γS w γ->(γ'=γ\/¬γS.sp D)->ek wS γS (w.putObj D o) γ'):=by
 have aa:D<w.heap.size:=aS h0;have dh:∀b,b≠D->(w.putObj D o).heap[b]?=w.heap[b]?:=fun b hb=>World.putObj_heap_other hb;have Fu:(w.putObj D o).heap[D]?=some o:=World.putObj_heap_same aa
 have bO:∀b o',(w.putObj D o).cell? ⟨b,o',none⟩=w.cell? ⟨b,o',none⟩:=fun b o'=>by
  by_cases hb:b=D
  ·subst hb;simp only[World.cell?,Fu,h0];cases o<;>cases o0<;>first|rfl|exact absurd rfl (hnc _ _ _)|exact absurd rfl (awY _ _ _)
  exact cell_of_heap (dh b hb)
 have hβ:γ'.β=γ.β:=by rcases hγ with rfl|rfl<;>rfl
 have cq:γ'.own=γ.own:=by rcases hγ with rfl|rfl<;>rfl
 have dw:γ'.cur=γ.cur:=by rcases hγ with rfl|rfl<;>rfl
 have gC:γ'.ro=γ.ro:=by rcases hγ with rfl|rfl<;>rfl
 have eE:γ'.mm=γ.mm:=by rcases hγ with rfl|rfl<;>rfl
 have hlp:γ'.lp=γ.lp:=by rcases hγ with rfl|rfl<;>rfl
 have dA:∀b,γ'.sp b->γ.sp b:=by obtain rfl|rfl:=hγ;exact fun _ h=>h;exact fun _ h=>h.1
 have alL:∀b,γ.sp b->b≠D->γ'.sp b:=fun b hb h=>by
  obtain rfl|rfl:=hγ
  ·exact hb
  exact⟨hb,h⟩
 have hsz:Sz w (w.putObj D o):=fun b' arr e f h=>⟨arr,by rw[dh b' (by rintro rfl;rw[h0]at h;cases h;exact hnc _ _ _ rfl)];exact h,rfl⟩
 have aep:NM w γ (w.putObj D o) γ':=by
  refine⟨zd,fun b o' _ hr=>⟨by rw[gC];exact hr,bO b o'⟩,fun _ _ h=>by rw[hβ];exact h,fun _=>by rw[dw];exact zzaa _,fun _ _ h=>by rw[eE];exact h,fun _ _ h=>by rw[hlp];exact h,fun id b _ ho=>⟨by rw[cq];exact ho,fun arr e he=>⟨arr,?_,zzaa _⟩,fun _ h=>by rw[gC]at h;exact h⟩,hsz⟩;rw[dh b (by rintro rfl;exact(hm.sp b hD).2.2.2.2 id ho)];exact he
 refine⟨⟨w0.st _ _ _ _ hm.bs ⟨rfl,rfl,rfl,zd,fun b _ tM=>dh b (by rintro rfl;exact tM (.inr (.inr (.inl hD)))),aep.ro,fun b hb=>.inl ?_,fun b o' h=>.inl (by rw[gC]at h;exact h)⟩,Pi hm.hN,
  fun b o' h=>hm.an b o' (by rw[gC]at h;exact h),fun b o' h=>by rw[gC]at h;simpa using hm.robd b o' h,fun id cells b hb h1=>?_,fun id b hb=>?_,fun id id' b h h'=>hm.inj id id' b (by rw[hβ]at h;exact h) (by rw[hβ]at h';exact h'),
  fun id b hb=>?_,fun id id' b h h'=>hm.oinj id id' b (by rw[cq]at h;exact h) (by rw[cq]at h';exact h'),fun b hb=>?_,fun id b hb=>?_,fun id id' b h h'=>hm.minj id id' b (by rw[eE]at h;exact h) (by rw[eE]at h';exact h'),fun id n h=>by rw[dw];exact hm.len id n h,fun id h=>by rw[dw];exact hm.cur0 id h⟩,aep,fun wS γS e hc=>?_⟩
 ·obtain⟨id,hb⟩|⟨id,hb⟩|hb|⟨F,hb⟩:=hb
  ·rw[hβ]at hb;exact .inl ⟨id,hb⟩
  ·rw[cq]at hb;exact .inr (.inl ⟨id,hb⟩)
  ·exact .inr (.inr (.inl (dA b hb)))
  rw[eE]at hb;exact .inr (.inr (.inr ⟨F,hb⟩))
 ·rw[hβ]at h1;obtain⟨arr,e,h2,h3,h4⟩:=hm.box id cells b hb h1;exact⟨arr,e,by rw[dh b (by rintro rfl;exact(hm.sp b hD).2.2.2.1 id h1)];exact h2,h3.eu aep,h4⟩
 ·rw[hβ]at hb;obtain⟨h1,h2,h3,h4,h5⟩:=hm.β id b hb;exact⟨h1,Pi h2,by rw[gC];exact h3,by rw[cq];exact h4,h5⟩
 ·rw[cq]at hb;simpa using hm.own id b hb
 ·obtain⟨h1,h2,h3,h4,h5⟩:=hm.sp b (dA b hb);exact⟨h1,Pi h2,by rw[gC];exact h3,by rw[hβ];exact h4,by rw[cq];exact h5⟩
 ·rw[eE]at hb;obtain⟨h1,h2,h3,h4,h5,h6,h8,h7⟩:=hm.mm id b hb;exact⟨h1,Pi h2,by rw[gC];exact h3,by rw[hβ];exact h4,by rw[cq];exact h5,fun h=>h6 (dA b h),by rw[hβ];exact h8,h7.mono aep (dh b (by rintro rfl;exact h6 hD))⟩
 refine⟨Pi e.size,fun b o' hb hr=>⟨by rw[gC];exact(e.ro b o' hb hr).1,(bO b o').trans (e.ro b o' hb hr).2⟩,fun id b h=>by rw[hβ];exact e.β id b h,fun id=>by rw[dw];exact e.cur id,fun b F h=>by rw[eE];exact e.mm b F h,fun i l h=>by rw[hlp];exact e.lp i l h,fun id b uw ho=>?_,fun b hb=>?_,e.ss.trans hsz⟩
 ·rw[dw]at uw;obtain⟨g1,g2,g3⟩:=e.own id b uw ho;refine⟨by rw[cq];exact g1,fun arr te he=>?_,fun o' h=>g3 o' (by rw[gC]at h;exact h)⟩;obtain⟨bN,k1,k2⟩:=g2 arr te he;exact⟨bN,by rw[dh b (by rintro rfl;exact(hm.sp b hD).2.2.2.2 id g1)];exact k1,k2⟩
 obtain⟨g1,g2⟩:=e.sp b hb;by_cases hbD:b=D
 ·subst hbD;obtain rfl|hc:=hc
  ·refine⟨g1,g2.trans ?_⟩;rw[h0,Fu];exact FP rfl
  exact absurd hb hc
 exact⟨alL b g1 hbD,by rw[dh b hbD];exact g2⟩
def Jq{b:Frame}{a:Act}{k:List Item}{cs:List Frame}{w:World}{c:Code}:step P (lone (b.atR a (.code (.scope c)::k)) cs w)=.next (lone (b.atR a (.code c::.inScope c::k)) cs w):=
 step_lone_go (by simp[stepG,stepG.exec,Frame.atR])
def zS{b:Frame}{a:Act}{k:List Item}{cs:List Frame}{w:World}{c:Code}:step P (lone (b.atR a (.inScope c::k)) cs w)=.next (lone (b.atR a k) cs w):=
 step_lone_go (by simp[stepG,stepG.exec,Frame.atR])
def lK{c:Code}{Q:QR}{a:Act}{w:World}(h:c.wpIn (FW r) 0 P (Exit.noGoto Q) a w):(Code.scope c).wpIn (FW r) 0 P Q a w:=by
 intro b k cs gC hb hr;obtain⟨e,a₁,w₁,hq,dD⟩:=h b (.inScope c::k) cs gC hb hr;have h0:(lone (b.atR a (.code (.scope c)::k)) cs w).fenced P (FW r):=fenced_calm hb hr rfl;cases e with
 |normal=>exact⟨.normal,a₁,w₁,hq,.head h0 Jq (StepsIn.trans dD (.one (fenced_calm hb hr rfl) zS))⟩
 |exit id=>
  refine⟨.exit id,a₁,w₁,hq,fun k' hk=>.head h0 Jq (dD.1 k' (by simp[exitTo,hk])),fun IJ hk=>?_⟩;obtain⟨k₁,h1,h2⟩:=dD.2 IJ (by simp[exitTo,hk]);exact⟨k₁,h1,.head h0 Jq h2⟩
 |goto l=>exact hq.elim
 |ret=>exact⟨_,a₁,w₁,hq,.of_steps (.one h0 Jq) dD⟩
 |panic ch=>exact⟨_,a₁,w₁,hq,.of_steps (.one h0 Jq) dD⟩
 |outgrown=>exact⟨_,a₁,w₁,hq,.of_steps (.one h0 Jq) dD⟩
def FQ{γ:G}{w:World}:∀(ps:P1)(args:PQ)(vs:PH)(T:PQ)(arr:PP),args.length=ps.length->ak w γ args vs->ak w γ T arr.toList->
  ak w γ (Qbs T ps args) ((ps.toArray.zip vs.toArray).foldl (fun(tmps:PP)(p:Nat×Value)=>tmps.setIfInBounds p.1 p.2) arr).toList:=by
 intro ps args vs T arr hl hr ht
 have e:(ps.toArray.zip vs.toArray).foldl (fun(tmps:PP)(p:Nat×Value)=>tmps.setIfInBounds p.1 p.2) arr=(ps.zip vs).foldl (fun(tmps:PP)(p:Nat×Value)=>tmps.setIfInBounds p.1 p.2) arr:=by
  rw[<- Array.foldl_toList];simp
 rw[e];clear e;induction ps generalizing args vs T arr with
 |nil=>
  cases args with
  |nil=>simpa[Qbs]using ht
  |cons x xs=>simp at hl
 |cons p ps ih=>
  cases args with
  |nil=>simp at hl
  |cons x xs=>
   cases vs with
   |nil=>have:=hr.1;simp at this
   |cons v vs=>
    have h0:au w γ x v:=hr.2 0 x v rfl rfl;have hs:ak w γ xs vs:=⟨by have:=hr.1;simpa using this,fun i x y h1 h2=>hr.2 (i+1) x y (Pi h1) (Pi h2)⟩;simp only[zzdy,zzda,Qbs];refine ih xs vs _ _ (Pi hl) hs ?_;rw[zzdn];exact ht.set p h0
def cD.put{m:AM}{i l:Nat}{rc:Loop}{x:LS}(h:cD γ w m)(hi:γ.lp i=some l)(dA:γ.sp l)(hl:l<w.heap.size)(hx:KE x rc):cD γ (w.putObj l (.loop rc)) (m.at_ i x):=by
 refine⟨fun i'=>?_,h.2.1,h.2.2.1,fun i' l' fG=>?_⟩
 rotate_left
 ·obtain⟨q1,r,q2⟩:=h.2.2.2 i' l' fG;by_cases EB:l'=l
  ·subst EB;exact⟨q1,rc,World.putObj_heap_same hl⟩
  exact⟨q1,r,(World.putObj_heap_other EB).trans q2⟩
 by_cases dn:i'=i
 ·subst dn;exact .inr ⟨l,hi,dA,rc,World.putObj_heap_same hl,by simpa[AM.at_,uD]using hx⟩
 rcases h.1 i' with h'|⟨l',h0,h1,r,h2,h3⟩
 ·exact .inl (by simp[AM.at_,uD,dn,h'])
 have fG:l'≠l:=by rintro rfl;exact dn (h.2.2.1 _ _ _ h0 hi)
 exact .inr ⟨l',h0,h1,r,(World.putObj_heap_other fG).trans h2,by simpa[AM.at_,uD,dn]using h3⟩
def G.dS(γ:G)(i l:Nat):G:={γ with lp:=fun j=>if j=i then some l else γ.lp j}
def FR(w:World){γ:G}{i l:Nat}(h:γ.lp i=none):ek w γ w (γ.dS i l):=
 ⟨zzaa _,fun _ _ _ h=>⟨h,rfl⟩,fun _ _ h=>h,fun _=>zzaa _,fun _ _ h=>h,fun j l' hj=>by
  have:j≠i:=by rintro rfl;rw[h]at hj;cases hj
  simp[G.dS,this,hj],fun _ _ _ h=>⟨h,fun arr _ h=>⟨arr,h,zzaa _⟩,fun _ h=>h⟩,fun _ h=>⟨h,.inl rfl⟩,Sz.refl w⟩
def aq.dS{B:Nat->QQ}{L:Nat->Option Nat}(hm:aq N w0 an γ w B L){i l:Nat}(h:γ.lp i=none):aq N w0 an (γ.dS i l) w B L:=by
 have bZ:=(FR w h (l:=l)).AR;refine⟨w0.st _ _ _ _ hm.bs ⟨rfl,rfl,rfl,zzaa _,fun _ _ _=>rfl,fun _ _ _ h=>⟨h,rfl⟩,fun _ hb=>.inl hb,fun _ _ h=>.inl h⟩,hm.hN,hm.an,hm.robd,fun id cells b hb h1=>?_,hm.β,hm.inj,hm.own,hm.oinj,hm.sp,fun id b hb=>?_,hm.minj,hm.len,hm.cur0⟩
 ·obtain⟨arr,e,h2,h3,h4⟩:=hm.box id cells b hb h1;exact⟨arr,e,h2,h3.eu bZ,h4⟩
 obtain⟨h1,h2,h3,h4,h5,h6,h8,h7⟩:=hm.mm id b hb;exact⟨h1,h2,h3,h4,h5,h6,h8,h7.mono bZ rfl⟩
def pF{B:Nat->QQ}{L:Nat->Option Nat}(hm:aq N w0 an γ w B L){l:Nat}(hl:γ.sp l){rc:Loop}(h0:w.heap[l]?=some (.loop rc))(st:LoopState)(pd:Option Code):
  aq N w0 an γ (w.putObj l (.loop {rc with state:=st,pending:=pd})) B L/\ek w γ (w.putObj l (.loop {rc with state:=st,pending:=pd})) γ:=by
 obtain⟨h1,_,h3⟩:=hm.WL hl (o:=.loop {rc with state:=st,pending:=pd}) h0 (fun _ _ _ h=>by cases h) (fun _ _ _ h=>by cases h) (.inl rfl) (fun _=>.inr ⟨rc,st,pd,rfl,rfl⟩);exact⟨h1,h3 w γ (Ev.refl w γ).cL (.inl rfl)⟩
def FT{g:Operand}{ps:Array Tmp}{pz body:Code}
  (ihA:∀(l:Nat)(S:G×World)(γ:G)(w:World)(s:AS)(a:Act)(Q:T5),vc P gl orc Y (Yj P pz) s Q->dP N w0 (some l) an S P gl Y γ w s a->pz.wpIn (FW (some l)) 0 P (lift N w0 (some l) an S P gl Y Q) a w)
  (ihB:∀(l:Nat)(S:G×World)(γ:G)(w:World)(s:AS)(a:Act)(Q:T5),vc P gl orc Y (Yj P body) s Q->dP N w0 (some l) an S P gl Y γ w s a->body.wpIn (FW (some l)) 0 P (lift N w0 (some l) an S P gl Y Q) a w)
  {s:AS}{a:Act}{Q:T5}(h:vc P gl orc Y (Yj P (.rangeFunc g ps pz body)) s Q)(hs:dP N w0 r an S P gl Y γ w s a):
  (Code.rangeFunc g ps pz body).wpIn (FW r) 0 P (lift N w0 r an S P gl Y Q) a w:=by
 simp only[Yj,vc]at h;have hg:=hs.ev g;split at h
 case h_2=>exact h.elim
 rename_i f first cap e1
 rw[e1]at hg;obtain⟨fa,ca,hv,r1,r2⟩:=hg.mX;refine wpIn_rangeFunc fun fn _=>?_
 obtain⟨l,mark,w1,γ1',rc,he,ou,hsp1',hm1',hev1',hd1',UZ⟩:∃(l:Nat)(mark:List Deferred)(w1:World)(γ1:G)(df:Nat),
   (Instr.enterLoop fn a.tmps ps pz body (FW r).round).run P w=.ok (l,mark) w1/\w1.heap[l]?=some (.loop {state:=.ready,pending:=none,fn,tmps:=a.tmps,params:=ps,assign:=pz,body,defers:=df})/\γ1.sp l/\
   aq N w0 an γ1 w1 s.m.B s.m.L/\Ev w γ w1 γ1/\Dfr S.2.heap.size γ1 w1 (mark++a.defers)/\w.heap.size<=l:=by
  cases r with
  |none=>
   obtain⟨nk,fJ⟩:=hs.m.WK (.deferred (some []));obtain⟨oy,arC⟩:=nk.WK (.loop {state:=.ready,pending:=none,fn,tmps:=a.tmps,params:=ps,assign:=pz,body,defers:=w.heap.size});refine⟨w.heap.size+1,_,_,_,w.heap.size,run_enterLoop_outer fn a.tmps ps pz body,?_,Or.inr zd,oy,fJ.trans arC,?_,zE⟩
   ·have:=World.alloc_heap_new (w.alloc (.deferred (some []))) (.loop {state:=.ready,pending:=none,fn,tmps:=a.tmps,params:=ps,assign:=pz,body,defers:=w.heap.size});simpa using this
   have hd:=hs.d.aV (fJ.trans arC).cL
   have oV:∀x∈a.defers,∀D,x.target=.collected D->D<w.heap.size:=fun x hx D hD=>by
    obtain⟨D',q1,_,_,q4⟩:=hs.d.2.1 x hx;rw[hD]at q1;cases q1;exact aS q4
   refine⟨hd.1,fun x hx=>?_,?_⟩
   ·simp only[zzae,zzaj,zzao]at hx;obtain rfl|hx:=hx
    ·refine⟨w.heap.size,rfl,hs.d.1,.inl (.inr rfl),?_⟩;rw[Below.heap_alloc _ _ _ zd];exact World.alloc_heap_new w _
    exact hd.2.1 x hx
   simp only[zzae,zzaj,zzbz];refine⟨fun x hx D hD kH=>?_,hd.2.2⟩;simp at hD;have:=oV x hx D kH;omega
  |some l0=>
   obtain⟨ov,arD,arE⟩:=hs.rd l0 rfl;obtain⟨nk,fJ⟩:=hs.m.WK (.loop {state:=.ready,pending:=none,fn,tmps:=a.tmps,params:=ps,assign:=pz,body,defers:=arD.defers});exact⟨w.heap.size,[],_,_,arD.defers,run_enterLoop_inner arE fn a.tmps ps pz body,World.alloc_heap_new w _,Or.inr rfl,nk,fJ,hs.d.aV fJ.cL,zzaa _⟩
 have gr:l<w1.heap.size:=aS ou;generalize ei:s.m.ln=i at h;have WM:=hs.ls.mono hev1';have ai7:γ1'.lp i=none:=WM.2.1 i zE
 have QK:∀j,γ1'.lp j≠some l:=fun j hj=>by
  rw[hev1'.lp]at hj;have:=(hs.m.sp l (hs.ls.2.2.2 j l hj).1).2.1;omega
 let γ1:=γ1'.dS i l
 have arF:ek w1 γ1' w1 γ1:=FR w1 ai7;have fJ:ek w γ w1 γ1:=hev1'.cL.trans arF;have nk:aq N w0 an γ1 w1 s.m.B s.m.L:=hm1'.dS ai7;have WN:γ1.sp l:=hsp1';have WO:γ1.lp i=some l:=by simp[γ1,G.dS]
 have hd1:=hd1'.aV arF
 have hE:=h (by
  rcases hs.ls.1 i with h|⟨l',h0,_⟩
  ·exact h
  rw[hs.ls.2.1 i zE]at h0;cases h0)
 have iV:ak w1 γ1 (first++[.yld i]++cap) (fa.toList++[.func (.yield l) #[] #[]]++ca.toList):=((r1.aV fJ).append (ak.cons (.yld WO) ak.nil)).append (r2.aV fJ)
 have awZ:cD γ1 w1 s.m.bL:=by
  refine⟨fun j=>?_,fun j hj=>?_,fun j j' l' h1 h2=>?_,fun j l' h1=>?_⟩
  ·by_cases hj:j=i
   ·subst hj;exact .inr ⟨l,WO,WN,_,ou,by simp[AM.bL,uD,ei,KE]⟩
   rcases WM.1 j with h|⟨l',h0,h1,r',h2,h3⟩
   ·exact .inl (by simp[AM.bL,uD,ei,hj,h])
   exact .inr ⟨l',by simp[γ1,G.dS,hj,h0],h1,r',h2,by simpa[AM.bL,uD,ei,hj]using h3⟩
  ·have NP:i+1<=j:=by simpa[AM.bL,ei]using hj
   have:j≠i:=zE
   simp[γ1,G.dS,this,WM.2.1 j zE]
  ·by_cases hj:j=i<;>by_cases NP:j'=i
   ·rw[hj,NP]
   ·simp[γ1,G.dS,hj]at h1;simp[γ1,G.dS,NP]at h2;subst h1;exact absurd h2 (QK j')
   ·simp[γ1,G.dS,hj]at h1;simp[γ1,G.dS,NP]at h2;subst h2;exact absurd h1 (QK j)
   simp[γ1,G.dS,hj]at h1;simp[γ1,G.dS,NP]at h2;exact WM.2.2.1 j j' l' h1 h2
  by_cases hj:j=i
  ·simp[γ1,G.dS,hj]at h1;subst h1;exact⟨WN,_,ou⟩
  simp[γ1,G.dS,hj]at h1;exact WM.2.2.2 j l' h1
 refine⟨l,mark,w1,{target:=.fn (.func f) ca,args:=fa++#[.func (.yield l) #[] #[]]},w1,f,(fa.toList++[Value.func (.yield l) #[] #[]]++ca.toList).toArray,w1,he,?_,fun _ _=>trivial,?_,fun h=>by simp[FW,Fence.wide]at h,?_⟩
 ·have hc:a.eval (.const (.func (.yield l) #[] #[]))=.func (.yield l) #[] #[]:=rfl;simp[resolve,hv,hc,Deferred.ofValue,rangeCall]
 ·simp[invoke,Qan hE.1]
 have WQ:=hE.2 N w0 an γ1 w1 _ nk awZ (fun g=>(hs.g g).aV fJ.cW) ?_ iV
 ·refine CallsIn.mono (F:=FW r) (n:=0) (show CallsIn (FW r) 0 P f _ w1 _ from WQ) ?_;rintro en w3 ⟨v,γ3,r',m',rfl,g1,g2,g3,g4,g5⟩;have aw0:=(g1.sp l WN).1
  have fin:∀(QO:Loop)(pd:Option Code),w3.heap[l]?=some (.loop QO)->(∀ex,ex=Exit.normal/\pd=none\/pd=qV ex/\pd.isSome=true->QO.state≠.busy->QO.pending=pd->Q ex ⟨s.T,m'.at_ i .gone⟩->rangePost (FW r) 0 P l (lift N w0 r an S P gl Y Q) {a with defers:=mark++a.defers} (.returned v) w3):=by
   intro QO pd arG ex hex hnb hpd hQ;obtain⟨hm4,arH⟩:=pF g2 aw0 arG .exhausted QO.pending;refine⟨QO.pending,_,run_endLoop arG hnb,?_⟩;have bZ:ek w γ (w3.putObj l (.loop {QO with state:=.exhausted})) γ3:=(fJ.trans g1).trans arH
   have zP:dP N w0 r an S P gl Y γ3 (w3.putObj l (.loop {QO with state:=.exhausted})) ⟨s.T,m'.at_ i .gone⟩ {a with defers:=mark++a.defers}:=by
    have aeq:=g1.lp i l WO;refine⟨hm4,?_,hs.rd.aV bZ,hs.t.aV bZ,hd1.aV (g1.trans arH),fun g=>(hs.g g).aV bZ.cW,hs.y.mono bZ,hs.e.trans bZ⟩;refine⟨fun j=>?_,g3.2.1,g3.2.2.1,fun j l' fG=>?_⟩
    rotate_left
    ·obtain⟨q1,r,q2⟩:=g3.2.2.2 j l' fG;by_cases EB:l'=l
     ·subst EB;exact⟨q1,_,World.putObj_heap_same (aS q2)⟩
     exact⟨q1,r,(World.putObj_heap_other EB).trans q2⟩
    by_cases hj:j=i
    ·exact .inl (by simp[AM.at_,uD,hj])
    rcases g3.1 j with h|⟨l',h0,h1,r',h2,h3⟩
    ·exact .inl (by simp[AM.at_,uD,hj,h])
    have fG:l'≠l:=by rintro rfl;exact hj (g3.2.2.1 _ _ _ h0 aeq)
    exact .inr ⟨l',h0,h1,r',(World.putObj_heap_other fG).trans h2,by simpa[AM.at_,uD,hj]using h3⟩
   generalize w3.putObj l (.loop {QO with state:=.exhausted})=w4 at zP;rw[hpd];obtain⟨rfl,rfl⟩|⟨hex,WR⟩:=hex
   ·exact⟨γ3,_,zP,hQ⟩
   cases ex with
   |ret=>simp only[qV]at hex;subst hex;exact wpIn_ret ⟨γ3,_,zP,hQ⟩
   |exit id=>simp only[qV]at hex;subst hex;exact wpIn_exit ⟨γ3,_,zP,hQ⟩
   |_=>simp only[qV]at hex;subst hex;cases WR
  have hl3:=g3.1 i;have aeq:=g1.lp i l WO;cases cc:m'.st i with
  |gone=>rw[cc]at g5;exact g5.elim
  |busy=>rw[cc]at g5;exact g5.elim
  |ready=>
   rw[cc]at g5 hl3;obtain hl3|⟨l',q0,_,QO,q1,q2⟩:=hl3
   ·cases hl3
   obtain rfl:l'=l:=Option.some.inj (q0.symm.trans aeq);exact fin QO none q1 .normal (.inl ⟨rfl,rfl⟩) (by rw[q2.1];simp) q2.2 g5
  |done ex=>
   rw[cc]at g5 hl3;obtain hl3|⟨l',q0,_,QO,q1,q2⟩:=hl3
   ·cases hl3
   obtain rfl:l'=l:=Option.some.inj (q0.symm.trans aeq);exact fin QO _ q1 ex (.inr ⟨rfl,q2.2.2⟩) (by rw[q2.1];simp) q2.2.1 g5
 intro γ' w' WS i' args m K vs ez arI IJ hY l' aer;unfold Yin at hY;split at hY
 case isFalse=>exact hs.y γ' w' (fJ.trans WS) i' args m K vs ez arI IJ hY l' aer
 rename_i dn;subst dn;obtain rfl:l'=l:=Option.some.inj (aer.symm.trans (WS.lp _ _ WO));obtain⟨fB,aH,hY⟩:=hY
 have N5:∃st pd,w'.heap[l']?=some (.loop {state:=st,pending:=pd,fn,tmps:=a.tmps,params:=ps,assign:=pz,body,defers:=rc}):=by
  rcases(WS.sp l' WN).2 with h|⟨r0,st,pd,h,h'⟩
  ·rw[ou]at h;exact⟨_,_,h⟩
  rw[ou]at h;cases h;exact⟨st,pd,h'⟩
 obtain⟨st,pd,N5⟩:=N5;have alL:=(WS.sp l' WN).1;have alM:=fJ.trans WS;have hps:vs.toArray.size=ps.size:=by have:=IJ.1;simp at this aH |-;omega
 refine⟨fn,_,pz,body,run_yield N5 hps,roundIn_of_wpIn (F:=FW none) trivial ?_⟩
 have arJ:dP N w0 (some l') an (γ',w') P gl Y γ' w' ⟨Qbs s.T ps.toList args,m⟩ {tmps:=(ps.zip vs.toArray).foldl (fun(tmps:PP)(p:Nat×Value)=>tmps.setIfInBounds p.1 p.2) a.tmps,defers:=[]}:=by
  refine⟨ez,arI,fun l hl=>?_,?_,⟨zzaa _,fun x hx=>(by cases hx),List.Pairwise.nil⟩,fun g=>(hs.g g).aV alM.cW,hs.y.mono alM,(Ev.refl w' γ').cL⟩
  ·cases hl;exact⟨alL,_,N5⟩
  have:=FQ ps.toList args vs s.T a.tmps aH IJ (hs.t.aV alM);simpa using this
 refine wpIn_mono (ihA l' (γ',w') γ' w' _ _ _ hY arJ) ?_;rintro ex a2 w2 ⟨γ2,s2,QS,hq2⟩;cases ex with
 |normal=>
  obtain⟨aw1,hq2⟩:=hq2;have uF:=QS.ls.1 i';rw[aw1]at uF;have arK:=QS.e.lp _ _ aer;obtain uF|⟨l2,q0,hsp2,rc2,q1,q2⟩:=uF
  ·cases uF
  obtain rfl:l'=l2:=Option.some.inj (arK.symm.trans q0);obtain⟨hm3,QT⟩:=pF QS.m hsp2 q1 .busy rc2.pending;refine⟨_,run_beginRound q1 q2.1,?_⟩
  have arL:dP N w0 (some l') an (γ',w') P gl Y γ2 (w2.putObj l' (.loop {rc2 with state:=.busy})) ⟨s2.T,s2.m.at_ i' .busy⟩ a2:=
   ⟨hm3,QS.ls.put arK hsp2 (aS q1) rfl,QS.rd.aV QT,QS.t.aV QT,QS.d.aV QT,fun g=>(QS.g g).aV QT.cW,QS.y.mono QT,QS.e.trans QT⟩
  refine wpIn_mono (ihB l' (γ',w') γ2 _ _ _ _ hq2 arL) ?_;rintro ex a4 w4 ⟨γ4,s4,hs4,hq4⟩;obtain⟨QU,rc4,q4⟩:=hs4.rd _ rfl;have alN:=hs4.e.lp _ _ aer;cases ex with
  |normal=>
   obtain⟨hm5,WT⟩:=pF hs4.m QU q4 .ready none;exact⟨_,_,run_endRound none q4,true,γ4,s4.m.at_ i' .ready,rfl,hs4.e.trans WT,hm5,hs4.ls.put alN QU (aS q4) ⟨rfl,rfl⟩,hq4⟩
  |ret=>
   obtain⟨hm5,WT⟩:=pF hs4.m QU q4 .done (some .ret);exact⟨_,_,run_endRound (some .ret) q4,false,γ4,s4.m.at_ i' (.done .ret),rfl,hs4.e.trans WT,hm5,hs4.ls.put alN QU (aS q4) ⟨rfl,rfl,rfl⟩,hq4⟩
  |exit id=>
   obtain⟨hm5,WT⟩:=pF hs4.m QU q4 .done (some (.exit id));exact⟨_,_,run_endRound (some (.exit id)) q4,false,γ4,s4.m.at_ i' (.done (.exit id)),rfl,hs4.e.trans WT,hm5,hs4.ls.put alN QU (aS q4) ⟨rfl,rfl,rfl⟩,hq4⟩
  |_=>exact hq4.elim
 |_=>exact hq2.elim
def Uh:∀(c:Code)(r:Option Nat)(S:G×World)(γ:G)(w:World)(s:AS)(a:Act)(Q:T5),vc P gl orc Y (Yj P c) s Q->dP N w0 r an S P gl Y γ w s a->c.wpIn (FW r) 0 P (lift N w0 r an S P gl Y Q) a w
 |.skip,r,S,γ,w,s,a,Q,h,hs=>wpIn_skip ⟨γ,s,hs,h⟩
 |.label _,r,S,γ,w,s,a,Q,h,hs=>wpIn_label ⟨γ,s,hs,h⟩
 |.region id ops false,r,S,γ,w,s,a,Q,h,hs=>by
  refine wpIn_region ?_;simp only[Yj]at h;cases hX:alK ops with
  |true=>
   rw[hX,cond_true]at h;obtain h|⟨k,h⟩:=h
   ·have:=jd (P:=P) (orc:=orc) (ops:=ops) (Q:=lift N w0 r an S P gl Y Q) (K:=Q .normal) (fun γ w s a hK hs=>⟨γ,s,hs,hK⟩) ops.size 0 γ w s a zd (Pi h) hs;rwa [zzed]
   exact QH (fun γ w s a ch hK hs=>⟨γ,s,hs,hK⟩) h hs
  |false=>
  rw[hX,cond_false]at h;have:=jd (P:=P) (orc:=orc) (ops:=ops) (Q:=lift N w0 r an S P gl Y Q) (K:=Q .normal) (fun γ w s a hK hs=>⟨γ,s,hs,hK⟩) ops.size 0 γ w s a zd (by simpa[vc]using h) hs;rwa [zzed]
 |.region id ops true,r,S,γ,w,s,a,Q,h,hs=>by
  simp only[Yj]at h;split at h
  case isFalse=>exact h.elim
  rename_i hc;simp only[zzai]at hc;split at h
  ·rename_i j hj;obtain h|⟨ms,h⟩|⟨hb,ms,R,hR,h⟩:=h
   ·exact wpIn_region_any hc.1 (wD (Q:=lift N w0 r an S P gl Y Q) (K:=Q .normal) (fun γ w s a hK hs=>⟨γ,s,hs,hK⟩) hc.2 h hs)
   ·exact wpIn_region_any hc.1 (FI (Q:=lift N w0 r an S P gl Y Q) (K:=Q .normal) (fun γ w s a hK hs=>⟨γ,s,hs,hK⟩) hc.2 hj (pe _ _ _ _ (qZ hc.2) (NZ _ _ _ _ h)) hs)
   exact wpIn_region_any hc.1 (FL (Q:=lift N w0 r an S P gl Y Q) (K:=Q .normal) (fun γ w s a hK hs=>⟨γ,s,hs,hK⟩) hc.2 hj (alJ hc.2 hb) hR (fun x hx=>pn _ _ _ _ (qZ hc.2) (h x hx)) hs)
  split at h
  ·rename_i js jp z t hz;obtain⟨hY,hT,ms,h⟩:=h;exact wpIn_region_any hc.1 (FN (Q:=lift N w0 r an S P gl Y Q) (K:=Q .normal) (fun γ w s a hK hs=>⟨γ,s,hs,hK⟩) hc.2 hz hY h hT hs)
  exact wpIn_region_any hc.1 (wD (Q:=lift N w0 r an S P gl Y Q) (K:=Q .normal) (fun γ w s a hK hs=>⟨γ,s,hs,hK⟩) hc.2 h hs)
 |.seq x y,r,S,γ,w,s,a,Q,h,hs=>by
  refine wpIn_seq (wpIn_mono (Uh x r S γ w s a _ h hs) ?_);rintro ex a' w' ⟨γ',s',ef,h'⟩;cases ex with
  |normal=>exact Uh y r S γ' w' s' a' Q h' ef
  |_=>exact⟨γ',s',ef,h'⟩
 |.cond c x y,r,S,γ,w,s,a,Q,h,hs=>by
  simp only[Yj,vc]at h;have hr:=hs.ev c;split at h
  case h_2=>exact h.elim
  rename_i t ht;rw[ht]at hr;exact wpIn_cond_split hr.bz (fun e=>Uh x r S γ w s a Q (h.1 e) hs) fun e=>Uh y r S γ w s a Q (h.2 e) hs
 |.block id c,r,S,γ,w,s,a,Q,h,hs=>by
  refine wpIn_block (wpIn_mono (Uh c r S γ w s a _ h hs) ?_);rintro ex a' w' ⟨γ',s',ef,h'⟩;cases ex with
  |exit id'=>
   simp only[Exit.inBlock,rf]at h' |-
   split
   ·rename_i aM;rw[if_pos aM]at h';exact⟨γ',s',ef,h'⟩
   rename_i aM;rw[if_neg aM]at h';exact⟨γ',s',ef,h'⟩
  |_=>exact⟨γ',s',ef,h'⟩
 |.loop c,r,S,γ,w,s,a,Q,h,hs=>by
  obtain⟨I,μ,h0,IJ⟩:=h;intro b k cs gC hb hr
  have key:∀j γ w s a,μ s=j->I s->dP N w0 r an S P gl Y γ w s a->∃e a' w',lift N w0 r an S P gl Y Q e a' w'/\ArrivesIn (Machine.fenced P (FW r)) P (lone (b.atR a (.code c::.inLoop c::k)) cs w) b k cs e a' w':=by
   intro j;induction j using Nat.strongRecOn with
   |_ j ih=>
    intro γ w s a hn hI hs;obtain⟨e,a₁,w₁,⟨γ₁,s₁,hs₁,hq⟩,dD⟩:=Uh c r S γ w s a _ (IJ s hI) hs b (.inLoop c::k) cs gC hb hr;cases e with
    |normal=>
     obtain⟨hI₁,aa⟩:=hq;obtain⟨e₂,a₂,w₂,hq₂,arM⟩:=ih (μ s₁) (hn ▸ aa) γ₁ w₁ s₁ a₁ rfl hI₁ hs₁;exact⟨e₂,a₂,w₂,hq₂,.of_steps (StepsIn.trans dD (.one (fenced_calm hb hr rfl) stepR_inLoop)) arM⟩
    |exit id=>exact⟨_,a₁,w₁,⟨γ₁,s₁,hs₁,hq⟩,.pass (x:=.inLoop c) rfl (fun _ _=>.inl zd) dD⟩
    |goto l=>exact⟨_,a₁,w₁,⟨γ₁,s₁,hs₁,hq⟩,.pass (x:=.inLoop c) rfl (fun _ _=>.inl zd) dD⟩
    |ret=>exact⟨_,a₁,w₁,⟨γ₁,s₁,hs₁,hq⟩,.pass (x:=.inLoop c) rfl (fun _ _=>.inl zd) dD⟩
    |panic ch=>exact⟨_,a₁,w₁,⟨γ₁,s₁,hs₁,hq⟩,.pass (x:=.inLoop c) rfl (fun _ _=>.inl zd) dD⟩
    |outgrown=>exact⟨_,a₁,w₁,⟨γ₁,s₁,hs₁,hq⟩,.pass (x:=.inLoop c) rfl (fun _ _=>.inl zd) dD⟩
  obtain⟨e,a',w',hq,dD⟩:=key _ γ w s a rfl h0 hs;exact⟨e,a',w',hq,.of_steps (.one (fenced_calm hb hr rfl) stepR_loop) dD⟩
 |.exit id,r,S,γ,w,s,a,Q,h,hs=>wpIn_exit ⟨γ,s,hs,h⟩
 |.ret,r,S,γ,w,s,a,Q,h,hs=>wpIn_ret ⟨γ,s,hs,h⟩
 |.scope c,r,S,γ,w,s,a,Q,h,hs=>by
  refine lK (wpIn_mono (Uh c r S γ w s a _ h hs) ?_);rintro ex a' w' ⟨γ',s',ef,h'⟩;cases ex with
  |goto l=>exact h'.elim
  |_=>exact⟨γ',s',ef,h'⟩
 |.rangeFunc g ps pz body,r,S,γ,w,s,a,Q,h,hs=>FT (fun l S γ w s a Q h hs=>Uh pz (some l) S γ w s a Q h hs) (fun l S γ w s a Q h hs=>Uh body (some l) S γ w s a Q h hs) h hs
 |.goto l,r,S,γ,w,s,a,Q,h,hs=>h.elim
 |.refuse why,r,S,γ,w,s,a,Q,h,hs=>h.elim
end
section
variable {N:Nat} {w0:fc} {an:Nat->Nat->Prop} {γ:G} {w:World} {B:Nat->QQ} {L:Nat->Option Nat} {P:Program} {gl:Nat->AV} {orc:X1} {e:bM->AV} {m:AM}
def WU(P:Program)(t:TypeId)(x:bM):aF:=
 (match P.info? t,P.underlying t with|some i,some _=>if Jh P t then .load true i.size x else .load false 1 x|_,_=>.bad)
def WV(hm:aq N w0 an γ w B L)(hB:∀id cells,m.boxes[id]?=some cells->B id=some cells){t:TypeId}{x:bM}{v0:Value}(h1:au w γ (e x) v0)
  (hc:(rop P gl orc e m none (WU P t x)).1):∃b o v,v0=.pointer (some ⟨b,o,none⟩)/\(loadVar t ⟨b,o,none⟩).run P w=.ok v w/\au w γ (rop P gl orc e m none (WU P t x)).2 v:=by
 unfold WU at hc |-
 split at hc
 case h_2=>exact hc.elim
 rename_i i d hi hd
 have main:∀(agg:Bool)(n:Nat),Jh P t=agg->(agg=true->n=i.size)->(rop P gl orc e m none (.load agg n x)).1->
   ∃b o v,v0=.pointer (some ⟨b,o,none⟩)/\(loadVar t ⟨b,o,none⟩).run P w=.ok v w/\au w γ (rop P gl orc e m none (.load agg n x)).2 v:=by
  intro agg n bH hn hc
  have conv:∀b o v,(Instr.loadAt t (.pointer (some ⟨b,o,none⟩))).run P w=.ok v w->(loadVar t ⟨b,o,none⟩).run P w=.ok v w:=fun b o v h=>by
   simpa[Instr.loadAt,Instr.sureAddr]using h
  simp only[rop]at hc |-
  split at hc
  ·rename_i id o' he;try simp only[he]
   rw[he]at h1;obtain⟨b,hb,hv⟩:=h1.dN;cases gV:m.boxes[id]? with
   |none=>
    have e0:m.boxes.getD id []=[]:=by simp[List.getD,gV]
    rw[e0]at hc |-
    obtain⟨v,h2,h3⟩:=Qdd (P:=P) (w:=w) (γ:=γ) (b:=b) (o:=o') (cv:=fun _=>undef) hi hd bH hn (fun j c hj=>by simp at hj) (fun j c hj=>by simp at hj) hc;exact⟨b,o',v,hv,conv _ _ _ h2,h3⟩
   |some cells=>
    have e0:m.boxes.getD id []=cells:=by simp[List.getD,gV]
    rw[e0]at hc |-
    obtain⟨arr,te,g2,g3,g4⟩:=hm.box id cells b (hB id cells gV) hb
    have cB:∀(j:Nat)(c:AV),(cells.drop o')[j]?=some c->arr[o'+j]?=some (arr.getD (o'+j) undef)/\au w γ c (arr.getD (o'+j) undef):=fun j c hj=>by
     rw[zzbo]at hj
     have aa:o'+j<arr.size:=by
      have:=(zza.1 hj).1;have h0:=g3.1;simp at h0;omega
     have hu:arr[o'+j]?=some (arr.getD (o'+j) undef):=by simp[aa]
     exact⟨hu,g3.2 _ _ _ hj (Pi hu)⟩
    obtain⟨v,h2,h3⟩:=Qdd (P:=P) (w:=w) (γ:=γ) (b:=b) (o:=o') (cv:=fun j=>arr.getD (o'+j) undef) hi hd bH hn (fun j c hj=>by rw[aN g2];exact(cB j c hj).1) (fun j c hj=>(cB j c hj).2) hc;exact⟨b,o',v,hv,conv _ _ _ h2,h3⟩
  ·rename_i row o' he;try simp only[he]
   rw[he]at h1;obtain⟨b,off,cv,hv,hb,bO,oN⟩:=h1.gE;have cB:∀(j:Nat)(c:AV),(row.drop o')[j]?=some c->row[o'+j]?=some c:=fun j c hj=>by rw[zzbo]at hj;exact hj
   obtain⟨v,h2,h3⟩:=Qdd (P:=P) (w:=w) (γ:=γ) (b:=b) (o:=off+o') (cv:=fun j=>cv (o'+j)) hi hd bH hn
    (fun j c hj=>by rw[zzan];exact(bO _ _ (cB j c hj)).1) (fun j c hj=>(oN _ _ (cB j c hj)).gF) hc
   exact⟨b,off+o',v,hv,conv _ _ _ h2,h3⟩
  exact hc.elim
 cases bH:Jh P t with
 |true=>simp only[bH,if_true]at hc |-;exact main true _ bH (fun _=>rfl) hc
 |false=>simp only[bH]at hc |-;exact main false 1 bH (fun h=>by cases h) hc
end
def fZ(P:Program)(rs:List ResultVar):List aF:=rs.map fun
 |.tmp t=>.mv (.tmp t)
 |.cell a t=>WU P t (.tmp a)
def Kk(P:Program)(gl:Nat->AV)(orc:X1)(s:AS):List aF->Prop×PQ
 |[]=>(True,[])
 |o::r=>((rop P gl orc (ev gl s.T) s.m none o).1/\(Kk P gl orc s r).1,(rop P gl orc (ev gl s.T) s.m none o).2::(Kk P gl orc s r).2)
def oneOf:PQ->AV
 |[a]=>a
 |l=>.aQ l
section
variable {N:Nat} {w0:fc} {r:Option Nat} {an:Nat->Nat->Prop} {S:G×World} {Y:YT} {γ:G} {w:World} {P:Program} {gl:Nat->AV} {orc:X1} {s:AS} {a:Act}
def N6(hs:dP N w0 r an S P gl Y γ w s a):∀(rs:List ResultVar),(Kk P gl orc s (fZ P rs)).1->
  ∃vs:PH,(rs.mapM fun(r:ResultVar)=>(match r with|.tmp t=>pure (a.tmps.getD t undef)|.cell x t=>do loadVar t (<- asAddr (a.tmps.getD x undef)):Sem Value)).run P w=.ok vs w/\
   ak w γ (Kk P gl orc s (fZ P rs)).2 vs
 |[],_=>⟨[],zd,ak.nil⟩
 |r::rs,hc=>by
  obtain⟨h1,h2⟩:=hc;obtain⟨vs,g1,g2⟩:=N6 hs rs h2
  have key:∃v,(match r with|.tmp t=>pure (a.tmps.getD t undef)|.cell x t=>do loadVar t (<- asAddr (a.tmps.getD x undef)):Sem Value).run P w=.ok v w/\
    au w γ (rop P gl orc (ev gl s.T) s.m none ((fun(r:ResultVar)=>match r with|.tmp t=>aF.mv (.tmp t)|.cell a t=>WU P t (.tmp a)) r)).2 v:=by
   cases r with
   |tmp t=>exact⟨a.tmps.getD t undef,zd,hs.ev (.tmp t)⟩
   |cell x t=>
    obtain⟨b,o,v,e1,e2,e3⟩:=WV (P:=P) (gl:=gl) (orc:=orc) (e:=ev gl s.T) (m:=s.m) hs.m (fun _ _ h=>h) (t:=t) (x:=.tmp x) (v0:=a.tmps.getD x undef) (hs.ev (.tmp x)) h1;refine⟨v,?_,e3⟩;simp only[e1,Sem.run_bind,asAddr,Sem.run_pure,Result.andThen_ok,e2]
  obtain⟨v,k1,k2⟩:=key;refine⟨v::vs,?_,ak.cons k2 g2⟩;simp only[zzhe,Sem.run_bind,k1,Result.andThen_ok,g1,Sem.run_pure]
def FU(hs:dP N w0 r an S P gl Y γ w s a){fn:Func}(hc:(Kk P gl orc s (fZ P fn.results.toList)).1):∃v,(results fn a.tmps).run P w=.ok v w/\au w γ (oneOf (Kk P gl orc s (fZ P fn.results.toList)).2) v:=by
 obtain⟨vs,h1,h2⟩:=N6 (P:=P) (orc:=orc) hs fn.results.toList hc
 have aX:(results fn a.tmps).run P w=.ok (if h:vs.toArray.size=1 then vs.toArray[0]else .tuple vs.toArray) w:=by
  simp only[results,Sem.run_bind,Array.mapM_eq_mapM_toList,Sem.run_map];exact congrArg (fun(z:Result (PH))=>(z.andThen fun a w'=>Result.ok a.toArray w').andThen fun(a:PP)w'=>Sem.run P (pure (if h:a.size=1 then a[0]else Value.tuple a):Sem Value) w') h1
 refine⟨_,aX,?_⟩;generalize(Kk P gl orc s (fZ P fn.results.toList)).2=as' at h2
 match as',vs,h2 with
 |[],[],h2=>exact .aQ rfl fun i c v h=>by simp at h
 |[],_::_,h2=>have:=h2.1;simp at this
 |_::_,[],h2=>have:=h2.1;simp at this
 |[x],[v],h2=>exact h2.2 0 x v rfl rfl
 |[x],_::_::_,h2=>have:=h2.1;simp at this
 |_::_::_,[v],h2=>have:=h2.1;simp at this
 |x::y::as',v::u::vs,h2=>
  simp only[oneOf];rw[dif_neg zd];exact .aQ (Pi h2.1) fun i c v' g1 g2=>h2.2 i c v' g1 (Pi g2)
def post(P:Program)(gl:Nat->AV)(orc:X1)(rs:List aF)(r:AV):T5
 |.normal,s=>(Kk P gl orc s rs).1/\bE s.m 6 (oneOf (Kk P gl orc s rs).2)=r
 |.ret,s=>(Kk P gl orc s rs).1/\bE s.m 6 (oneOf (Kk P gl orc s rs).2)=r
 |_,_=>False
def wM(P:Program)(gl:Nat->AV)(orc:X1)(rs:List aF)(K:UV):T5
 |.normal,s=>(Kk P gl orc s rs).1/\K (oneOf (Kk P gl orc s rs).2) s.m
 |.ret,s=>(Kk P gl orc s rs).1/\K (oneOf (Kk P gl orc s rs).2) s.m
 |_,_=>False
def N7(K:List PanicEntry->AM->Prop):T5
 |.panic ch,s=>K ch s.m
 |_,_=>False
def Y0:YT:=fun _ _ _ _=>False
def dP.y0(h:dP N w0 r an S P gl Y γ w s a):dP N w0 r an S P gl Y0 γ w s a:=⟨h.m,h.ls,h.rd,h.t,h.d,h.g,fun _ _ _ _ _ _ _ _ _ _ _ hY _ _=>hY.elim,h.e⟩
def sN{fn:Func}{R:Ending->World->Prop}(hS:∀b,S.1.sp b->b<S.2.heap.size):∀(ds:List Deferred)(γ:G)(w:World)(s:AS)(a:Act),a.defers=ds->dP N w0 none an S P gl Y0 γ w s a->
  (Kk P gl orc s (fZ P fn.results.toList)).1->
  (∀v w' γ',ek S.2 S.1 w' γ'->aq N w0 an γ' w' s.m.B s.m.L->cD γ' w' s.m->au w' γ' (oneOf (Kk P gl orc s (fZ P fn.results.toList)).2) v->R (.returned v) w')->LeavesInM (FW none) 0 P fn a.tmps R ds .returning w
 |[],γ,w,s,a,_,hs,h1,hR=>by
  obtain⟨v,g1,g2⟩:=FU (P:=P) (orc:=orc) hs h1;exact⟨v,g1,hR v w γ hs.e hs.m hs.ls g2⟩
 |d::ds,γ,w,s,a,hd,hs,hc,hR=>by
  obtain⟨D,e1,e0,e2,e3⟩:=hs.d.2.1 d (by rw[hd];simp);refine⟨zd,.inl ⟨D,w.putObj D (.deferred none),e1,run_takeDeferred e3,?_⟩⟩;have hDS:¬S.1.sp D:=fun h=>by have:=hS D h;omega
  obtain⟨ez,bZ,alO⟩:=hs.m.WL e2 (o:=.deferred none) e3 (fun _ _ _ h=>by cases h) (fun _ _ _ h=>by cases h) (γ':={γ with sp:=fun b=>γ.sp b/\b≠D}) (.inr rfl) (fun h=>by
   have:=congrFun (congrArg G.sp h) D;simp[e2]at this)
  have hpw:=hs.d.2.2;rw[hd,zzbz]at hpw;refine sN hS ds {γ with sp:=fun b=>γ.sp b/\b≠D} (w.putObj D (.deferred none)) s {a with defers:=ds} rfl ⟨ez,⟨fun i=>?_,hs.ls.2.1,hs.ls.2.2.1,fun i l hl=>?_⟩,fun l h=>(by cases h),hs.t.eu bZ,⟨Pi hs.d.1,fun x hx=>?_,hpw.2⟩,fun g=>(hs.g g).eu bZ.cW,fun _ _ _ _ _ _ _ _ _ _ _ hY _ _=>hY.elim,alO _ _ hs.e (.inr hDS)⟩ hc hR
  ·rcases hs.ls.1 i with h|⟨l,h0,h1,rc,h2,h3⟩
   ·exact .inl h
   have aJ:l≠D:=by rintro rfl;rw[e3]at h2;cases h2
   exact .inr ⟨l,h0,⟨h1,aJ⟩,rc,(World.putObj_heap_other aJ).trans h2,h3⟩
  ·obtain⟨h1,rc,h2⟩:=hs.ls.2.2.2 i l hl;have aJ:l≠D:=by rintro rfl;rw[e3]at h2;cases h2
   exact⟨⟨h1,aJ⟩,rc,(World.putObj_heap_other aJ).trans h2⟩
  obtain⟨D',q1,q0,q2,q3⟩:=hs.d.2.1 x (by rw[hd];simp[hx]);have aJ:D'≠D:=by rintro rfl;exact hpw.1 x hx D' e1 q1
  exact⟨D',q1,q0,⟨q2,aJ⟩,(World.putObj_heap_other aJ).trans q3⟩
def pG{fn:Func}{R:Ending->World->Prop}{ch:List PanicEntry}(hS:∀b,S.1.sp b->b<S.2.heap.size):∀(ds:List Deferred)(γ:G)(w:World)(s:AS)(a:Act),a.defers=ds->dP N w0 none an S P gl Y0 γ w s a->
  (∀w' γ',ek S.2 S.1 w' γ'->aq N w0 an γ' w' s.m.B s.m.L->cD γ' w' s.m->R (.panicked ch) w')->LeavesInM (FW none) 0 P fn a.tmps R ds (.panicking ch) w
 |[],γ,w,s,a,_,hs,hR=>hR w γ hs.e hs.m hs.ls
 |d::ds,γ,w,s,a,hd,hs,hR=>by
  obtain⟨D,e1,e0,e2,e3⟩:=hs.d.2.1 d (by rw[hd];simp);refine⟨zd,.inl ⟨D,w.putObj D (.deferred none),e1,run_takeDeferred e3,?_⟩⟩;have hDS:¬S.1.sp D:=fun h=>by have:=hS D h;omega
  obtain⟨ez,bZ,alO⟩:=hs.m.WL e2 (o:=.deferred none) e3 (fun _ _ _ h=>by cases h) (fun _ _ _ h=>by cases h) (γ':={γ with sp:=fun b=>γ.sp b/\b≠D}) (.inr rfl) (fun h=>by
   have:=congrFun (congrArg G.sp h) D;simp[e2]at this)
  have hpw:=hs.d.2.2;rw[hd,zzbz]at hpw;refine pG hS ds {γ with sp:=fun b=>γ.sp b/\b≠D} (w.putObj D (.deferred none)) s {a with defers:=ds} rfl ⟨ez,⟨fun i=>?_,hs.ls.2.1,hs.ls.2.2.1,fun i l hl=>?_⟩,fun l h=>(by cases h),hs.t.eu bZ,⟨Pi hs.d.1,fun x hx=>?_,hpw.2⟩,fun g=>(hs.g g).eu bZ.cW,fun _ _ _ _ _ _ _ _ _ _ _ hY _ _=>hY.elim,alO _ _ hs.e (.inr hDS)⟩ hR
  ·rcases hs.ls.1 i with h|⟨l,h0,h1,rc,h2,h3⟩
   ·exact .inl h
   have aJ:l≠D:=by rintro rfl;rw[e3]at h2;cases h2
   exact .inr ⟨l,h0,⟨h1,aJ⟩,rc,(World.putObj_heap_other aJ).trans h2,h3⟩
  ·obtain⟨h1,rc,h2⟩:=hs.ls.2.2.2 i l hl;have aJ:l≠D:=by rintro rfl;rw[e3]at h2;cases h2
   exact⟨⟨h1,aJ⟩,rc,(World.putObj_heap_other aJ).trans h2⟩
  obtain⟨D',q1,q0,q2,q3⟩:=hs.d.2.1 x (by rw[hd];simp[hx]);have aJ:D'≠D:=by rintro rfl;exact hpw.1 x hx D' e1 q1
  exact⟨D',q1,q0,⟨q2,aJ⟩,(World.putObj_heap_other aJ).trans q3⟩
def aes(w0:World):fc where
 p γ w:=Below w0.heap.size w0 w/\∀b,OI γ b->w0.heap.size<=b
 st γ w γ' w' h hc:=by
  refine⟨h.1.trans ⟨hc.os,hc.tape,hc.output,hc.size,fun b hb=>hc.same b (zzar hb h.1.size) fun ho=>?_⟩,fun b hb=>?_⟩
  ·have:=h.2 b ho;omega
  rcases hc.oi b hb with hb|hb
  ·exact h.2 b hb
  exact zzb h.1.size hb
def Bj{as':PQ}{vs:PH}{k:Nat}(h:ak w γ as' vs):ak w γ (as'++List.replicate (k-as'.length) .junk) (vs.toArray++Array.replicate (k-vs.toArray.size) undef).toList:=by
 have aH:=h.1
 have h2:ak w γ (List.replicate (k-as'.length) .junk) (List.replicate (k-vs.length) undef):=⟨by simp[aH],fun i x v hx _=>by
  rw[zzck]at hx;split at hx
  ·cases hx;exact .junk _
  cases hx⟩
 simpa using h.append h2
def cV(P:Program)(f:FuncId)(sc:SC)(rs:List aF)(n:Nat):Prop:=
 ∃fn c,P.funcs[f]?=some fn/\fn.body=some c/\(fn.name== "runtime.NumGoroutine")=false/\Yj P c=sc/\fZ P fn.results.toList=rs/\fn.ntmps=n
def fco{P:Program}{f:FuncId}{fn:Func}{c:Code}{sc:SC}{rs:List aF}{n:Nat}(h:P.funcs[f]?=some fn)(hb:fn.body=some c)(hk:((fn.name== "runtime.NumGoroutine"),Yj P c,fZ P fn.results.toList,fn.ntmps)=(false,sc,rs,n)):cV P f sc rs n:=by
 obtain⟨h1,h2⟩:=Prod.mk.inj hk;obtain⟨h2,h3⟩:=Prod.mk.inj h2;obtain⟨h3,h4⟩:=Prod.mk.inj h3;exact⟨fn,c,h,hb,h1,h2,h3,h4⟩
def aK{P:Program}{f:FuncId}{fn:Func}{c:Code}{sc:SC}{rs:List aF}{n:Nat}(h:P.funcs[f]?=some fn)(hb:fn.body=some c:=by rfl)(hk:((fn.name== "runtime.NumGoroutine"),Yj P c,fZ P fn.results.toList,fn.ntmps)=(false,sc,rs,n):=by kernel_rfl):cV P f sc rs n:=fco h hb hk
def alP{f:FuncId}{sc:SC}{rs:List aF}{n:Nat}(hc:cV P f sc rs n)(orc:X1){as':PQ}{m:AM}{K:UV}
  (h:vc P gl orc Y sc ⟨as'++List.replicate (n-as'.length) .junk,m⟩ (wM P gl orc rs K)){vs:PH}(hm:aq N w0 an γ w m.B m.L)(hl:cD γ w m)(hg:∀g,au w γ.cW (gl g) (.pointer (some ⟨g,0,none⟩)))
  (hy:V2 N w0 an P Y γ w)(hr:ak w γ as' vs):
  CallsIn (FW none) 0 P f vs.toArray w fun e w'=>∃v γ' r m',e=.returned v/\ek w γ w' γ'/\aq N w0 an γ' w' m'.B m'.L/\cD γ' w' m'/\au w' γ' r v/\K r m':=by
 obtain⟨fn,c,hf,hb,WW,rfl,rfl,rfl⟩:=hc;refine callsIn_of_wp_marks (F:=FW none) hf hb trivial ?_
 have hs:dP N w0 none an (γ,w) P gl Y γ w ⟨as'++List.replicate (fn.ntmps-as'.length) .junk,m⟩ {tmps:=vs.toArray++Array.replicate (fn.ntmps-vs.toArray.size) undef,defers:=[]}:=
  ⟨hm,hl,fun l h=>(by cases h),Bj hr,⟨zzaa _,fun x hx=>(by cases hx),List.Pairwise.nil⟩,hg,hy,(Ev.refl w γ).cL⟩
 refine wpIn_mono (Uh c none (γ,w) γ w _ _ _ h hs) ?_
 have fin:∀γ' w' s a,dP N w0 none an (γ,w) P gl Y γ' w' s a->(Kk P gl orc s (fZ P fn.results.toList)).1/\K (oneOf (Kk P gl orc s (fZ P fn.results.toList)).2) s.m->
   LeavesInM (FW none) 0 P fn a.tmps (fun e w'=>∃v γ' r m',e=.returned v/\ek w γ w' γ'/\aq N w0 an γ' w' m'.B m'.L/\cD γ' w' m'/\au w' γ' r v/\K r m') a.defers .returning w':=
  fun γ' w' s a ef hc=>sN (S:=(γ,w)) (fun b hb=>(hm.sp b hb).2.1) a.defers γ' w' s a rfl ef.y0 hc.1 fun v iy AT q1 q2 q3 q4=>⟨v,AT,_,_,rfl,q1,q2,q3,q4,hc.2⟩
 rintro ex a w' ⟨γ',s,ef,h'⟩;cases ex with
 |normal=>exact fin γ' w' s a ef h'
 |ret=>exact fin γ' w' s a ef h'
 |_=>exact h'.elim
def aet{f:FuncId}{sc:SC}{rs:List aF}{n:Nat}(hc:cV P f sc rs n)(orc:X1){as':PQ}{m:AM}{K:List PanicEntry->AM->Prop}
  (h:vc P gl orc Y sc ⟨as'++List.replicate (n-as'.length) .junk,m⟩ (N7 K)){vs:PH}(hm:aq N w0 an γ w m.B m.L)(hl:cD γ w m)(hg:∀g,au w γ.cW (gl g) (.pointer (some ⟨g,0,none⟩)))
  (hy:V2 N w0 an P Y γ w)(hr:ak w γ as' vs):
  CallsIn (FW none) 0 P f vs.toArray w fun e w'=>∃ch γ' m',e=.panicked ch/\ek w γ w' γ'/\aq N w0 an γ' w' m'.B m'.L/\cD γ' w' m'/\K ch m':=by
 obtain⟨fn,c,hf,hb,WW,rfl,rfl,rfl⟩:=hc;refine callsIn_of_wp_marks (F:=FW none) hf hb trivial ?_
 have hs:dP N w0 none an (γ,w) P gl Y γ w ⟨as'++List.replicate (fn.ntmps-as'.length) .junk,m⟩ {tmps:=vs.toArray++Array.replicate (fn.ntmps-vs.toArray.size) undef,defers:=[]}:=
  ⟨hm,hl,fun l h=>(by cases h),Bj hr,⟨zzaa _,fun x hx=>(by cases hx),List.Pairwise.nil⟩,hg,hy,(Ev.refl w γ).cL⟩
 refine wpIn_mono (Uh c none (γ,w) γ w _ _ _ h hs) ?_;rintro ex a w' ⟨γ',s,ef,h'⟩;cases ex with
 |panic ch=>exact pG (S:=(γ,w)) (fun b hb=>(hm.sp b hb).2.1) a.defers γ' w' s a rfl ef.y0 fun iy AT q1 q2 q3=>⟨ch,AT,_,rfl,q1,q2,q3,h'⟩
 |_=>exact h'.elim
def cV.bw{f:FuncId}{sc:SC}{rs:List aF}{n:Nat}(hc:cV P f sc rs n):bw P f:=by
 obtain⟨fn,c,hf,hb,WW,_⟩:=hc;exact⟨fn,hf,by simp[hb],WW⟩
def WX{f:FuncId}{sc:SC}{rs:List aF}{n:Nat}(hc:cV P f sc rs n)(orc:X1){as':PQ}{m:AM}{K:UV}
  (h:vc P gl orc Y sc ⟨as'++List.replicate (n-as'.length) .junk,m⟩ (wM P gl orc rs K)):aA P gl Y f as' m K:=
 ⟨hc.bw,fun _ _ _ _ _ _ hm hl hg hy hr=>alP hc orc h hm hl hg hy hr⟩
def aeu{f:FuncId}{sc:SC}{rs:List aF}{n:Nat}(hc:cV P f sc rs n)(orc:X1){as':PQ}{m:AM}{K:List PanicEntry->AM->Prop}
  (h:vc P gl orc Y sc ⟨as'++List.replicate (n-as'.length) .junk,m⟩ (N7 K)):Fv P gl Y f as' m K:=
 ⟨hc.bw,fun _ _ _ _ _ _ hm hl hg hy hr=>aet hc orc h hm hl hg hy hr⟩
def AM.none:AM:=⟨[],[],fun _=>.gone,0⟩
def FV{f:FuncId}{as':PQ}{r:AV}(h:aA P gl Y0 f as' ⟨[],[],fun _=>.gone,0⟩ fun x m'=>bE m' 6 x=r):Pure P gl f as' r:=by
 refine⟨h.1,fun ro w vs eG hr=>?_⟩;refine(callsIn_wide (n:=0)).1 ?_
 let γ0:G:=G0 fun b o=>ro b o/\b<w.heap.size
 have bZ:Ev w (G0 ro) w γ0:=⟨zzaa _,fun b o hb h=>⟨⟨h,hb⟩,rfl⟩,fun _ _ h=>(by cases h),fun _=>zzaa _,fun _ _ h=>(by cases h),rfl,fun _ _ _ h=>(by cases h),fun _ h=>h.elim,Sz.refl w⟩
 have hm:aq w.heap.size (aes w) ro γ0 w (⟨[],[],fun _=>.gone,0⟩:AM).B (⟨[],[],fun _=>.gone,0⟩:AM).L:=by
  refine⟨⟨Below.refl _ _,fun b hb=>?_⟩,zzaa _,fun b o h=>.inl h.1,fun b o h=>h.2,fun id cells b h=>by simp[AM.B]at h,fun id b h=>(by cases h),fun id id' b h=>(by cases h),fun id b h=>(by cases h),fun id id' b h=>(by cases h),fun b h=>h.elim,fun id b h=>(by cases h),fun id id' b h=>(by cases h),fun id n h=>by simp[AM.L]at h,fun _ _=>rfl⟩;obtain⟨_,hb⟩|⟨_,hb⟩|hb|⟨_,hb⟩:=hb
  ·cases hb
  ·cases hb
  ·exact hb.elim
  cases hb
 refine CallsIn.mono (h.2 _ _ _ _ _ _ hm ⟨fun _=>.inl rfl,fun _ _=>rfl,fun _ _ _ h=>(by cases h),fun _ _ h=>(by cases h)⟩ (fun g=>(eG g).mono bZ) (fun _ _ _ _ _ _ _ _ _ _ _ hY _ _=>hY.elim) (hr.mono bZ)) ?_;rintro e w' ⟨v,γ',x,m',rfl,_,h2,_,h4,h5⟩;refine⟨v,rfl,h2.bs.1,?_⟩;rw[<- h5];exact Qeb h2 (fun _ _ h=>h) h2.an 6 _ v h4 fun _ id b hb o=>.inr (h2.β id b hb).1
def aev{f:FuncId}{sc:SC}{rs:List aF}{n:Nat}(hc:cV P f sc rs n)(orc:X1){as':PQ}{r:AV}
  (h:vc P gl orc Y0 sc ⟨as'++List.replicate (n-as'.length) .junk,⟨[],[],fun _=>.gone,0⟩⟩ (post P gl orc rs r)):Pure P gl f as' r:=by
 have arN:post P gl orc rs r=wM P gl orc rs fun x m'=>bE m' 6 x=r:=by
  funext ex s;cases ex<;>rfl
 rw[arN]at h;exact FV (WX hc orc h)
end
end Go.Abs
