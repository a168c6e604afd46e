import Derived.Test.YtnopaopphmjnmaaGreatDoorMQMD
import Derived.RangeFuncNested
set_option linter.all false
namespace Go.Abs
open Go Go.RowKit
def Zb(o:Oper):List Nat:=(o.after.toList.filter fun e=>Region.binds .any e).map (·.on)
def wM(ops:Array Oper)(i j:Nat):Bool:=
 match ops[i]? with
 |some o=>(Zb o).contains j
 |none=>false
def C5(ops:Array Oper)(i:Nat):Bool:=(List.range i).all fun j=>(List.range (i-j)).any fun d=>wM ops (i-d) j
def wN(ops:Array Oper):Nat->Nat
 |0=>0
 |k+1=>if C5 ops k then wN ops k else k+1
def TY(ops:Array Oper):Nat:=wN ops ops.size
def Vr(ops:Array Oper)(i:Nat):Option Nat:=(ops[i]?).bind (·.dst)
def zw(ops:Array Oper)(p:Nat):Bool:=
 decide (p<=ops.size)&&(List.range ops.size).all fun i=>
  match ops[i]? with
  |none=>false
  |some o=>(Zb o).all (fun j=>decide (j<i))&&
   (
    if i<p then
    ((o.looksAt ops).all fun t=>(List.range p).all fun j=>!(Vr ops j==some t)||j==i||(decide (j<i)&&(Zb o).contains j))&&
    ((List.range i).all fun j=>(Vr ops j).isNone||!(Vr ops j==o.dst))
   else C5 ops i)
section
variable (P:Program) (gl:Nat->AV) (orc:Nat->FuncId->List AV->AV)
def dop(o:SO)(T:List AV)(m:AM)(nb:List (List AV)):Prop×AV×List (List AV):=
 match o.guard with
 |none=>match o.op with
  |.alloc zs=>(zs.all Qw=true,.ptr (m.boxes.length+nb.length) 0,nb++[zs])
  |.box x=>(bare (ev gl T x)=true/\(cellsOf (ev gl T x)).all Qw=true,.ptr (m.boxes.length+nb.length) 0,nb++[cellsOf (ev gl T x)])
  |.mks sz bytes zs l c=>(match ev gl T l,ev gl T c with
   |.int _ l,.int _ c=>((0<=l/\l<=c/\bytes*c<=281474976710656/\c<=9223372036854775807)/\zs.length=sz/\zs.all Qw=true,.bs (m.boxes.length+nb.length) 0 l.toNat sz,nb++[bK c.toNat zs])
   |_,_=>(False,.junk,nb))
  |op=>((rop P gl orc (ev gl T) m o.dst op).1,(rop P gl orc (ev gl T) m o.dst op).2,nb)
 |some (some t,want)=>match JH want (T.getD t .junk)with
  |some gw=>(gok gl T gw (gxs o.op o.xs)/\(gw=true->(rop P gl orc (evG gl T o.op) m o.dst o.op).1),.gd gw (rop P gl orc (evG gl T o.op) m o.dst o.op).2,nb)
  |none=>(False,.junk,nb)
 |some (none,_)=>(False,.junk,nb)
def vcD(Y:YT)(l2:List SO)(K:AS->Prop):List SO->List AV->AM->List (List AV)->Prop
 |[],T,m,nb=>Zy P gl orc Y l2 ⟨T,{m with boxes:=m.boxes++nb}⟩ K
 |o::r,T,m,nb=>(dop P gl orc o T m nb).1/\vcD Y l2 K r (put T o.dst (dop P gl orc o T m nb).2.1) m (dop P gl orc o T m nb).2.2
def Xi(ops:Array Oper)(T0:List AV)(m:AM):Nat->List AV×List (List AV)
 |0=>(T0,[])
 |k+1=>match ops[k]? with
  |some o=>(put (Xi ops T0 m k).1 o.dst (dop P gl orc (Xm P ops o) (Xi ops T0 m k).1 m (Xi ops T0 m k).2).2.1,(dop P gl orc (Xm P ops o) (Xi ops T0 m k).1 m (Xi ops T0 m k).2).2.2)
  |none=>Xi ops T0 m k
end
section
variable {N:Nat} {w0:fF} {r:Option Nat} {aq:Nat->Nat->Prop} {S:G×World} {Y:YT} {P:Program} {gl:Nat->AV} {orc:Nat->FuncId->List AV->AV} {ops:Array Oper} {T0:List AV} {m:AM} {p:Nat}
def Wn{k:Nat}{o:Oper}(h:ops[k]?=some o):Xi P gl orc ops T0 m (k+1)=
  (put (Xi P gl orc ops T0 m k).1 o.dst (dop P gl orc (Xm P ops o) (Xi P gl orc ops T0 m k).1 m (Xi P gl orc ops T0 m k).2).2.1,(dop P gl orc (Xm P ops o) (Xi P gl orc ops T0 m k).1 m (Xi P gl orc ops T0 m k).2).2.2):=by
 simp only[Xi,h]
def OF(l2:List SO)(K:AS->Prop)(hp:p<=ops.size):∀(n k:Nat),k+n=p->vcD P gl orc Y l2 K (((ops.toList.take p).drop k).map (Xm P ops)) (Xi P gl orc ops T0 m k).1 m (Xi P gl orc ops T0 m k).2->
  (∀i o,k<=i->i<p->ops[i]?=some o->(dop P gl orc (Xm P ops o) (Xi P gl orc ops T0 m i).1 m (Xi P gl orc ops T0 m i).2).1)/\
  Zy P gl orc Y l2 ⟨(Xi P gl orc ops T0 m p).1,{m with boxes:=m.boxes++(Xi P gl orc ops T0 m p).2}⟩ K
 |0,k,hk,h=>by
  obtain rfl:k=p:=zE
  have:(ops.toList.take k).drop k=[]:=zzan (by simp;omega);rw[this]at h;exact⟨fun i o h1 h2=>zE,h⟩
 |n+1,k,hk,h=>by
  have ai:k<ops.size:=zE
  have ho:ops[k]?=some ops[k]:=zzaj ai
  have hd:(ops.toList.take p).drop k=ops[k]::(ops.toList.take p).drop (k+1):=by
   rw[zzaf (by simp;omega)];simp
  rw[hd,zzay]at h;obtain⟨h1,h2⟩:=h;have X1:=Wn (P:=P) (gl:=gl) (orc:=orc) (T0:=T0) (m:=m) ho;have:=OF l2 K hp n (k+1) zE (by rw[X1];exact h2);refine⟨fun i o hi dJ C6=>?_,this.2⟩;rcases zzaa k i with fP|fP
  ·exact this.1 i o fP dJ C6
  obtain rfl:i=k:=zE
  rw[ho]at C6;cases C6;exact h1
def wO(T:List AV)(d:Option Nat)(x:AV):(put T d x).length=T.length:=by cases d<;>simp[put]
def jt:∀k,(Xi P gl orc ops T0 m k).1.length=T0.length
 |0=>rfl
 |k+1=>by
  cases h:ops[k]? with
  |none=>simp only[Xi,h];exact jt k
  |some o=>rw[Wn h,wO];exact jt k
def Qcj{T:List AV}{d:Option Nat}{x:AV}{t:Nat}(h:d≠some t):(put T d x).getD t .junk=T.getD t .junk:=by
 cases d with
 |none=>rfl
 |some d=>simp only[put,List.getD];rw[zzbf (by rintro rfl;exact h rfl)]
def mH{T:List AV}{t:Nat}{x:AV}(h:t<T.length):(put T (some t) x).getD t .junk=x:=by
 simp[put,List.getD,h]
def Qem{t:Nat}:∀k,(∀j,j<k->Vr ops j≠some t)->(Xi P gl orc ops T0 m k).1.getD t .junk=T0.getD t .junk
 |0,_=>rfl
 |k+1,h=>by
  cases ho:ops[k]? with
  |none=>simp only[Xi,ho];exact Qem k fun j hj=>h j zE
  |some o=>
   rw[Wn ho,Qcj (by have:=h k zE;simpa[Vr,ho]using this)];exact Qem k fun j hj=>h j zE
def k6{t k:Nat}:∀n,(∀j,k<=j->j<k+n->Vr ops j≠some t)->(Xi P gl orc ops T0 m (k+n)).1.getD t .junk=(Xi P gl orc ops T0 m k).1.getD t .junk
 |0,_=>rfl
 |n+1,h=>by
  rw[<- zzao];cases ho:ops[k+n]? with
  |none=>simp only[Xi,ho];exact k6 n fun j h1 h2=>h j h1 zE
  |some o=>
   rw[Wn ho,Qcj (by have:=h (k+n) zE zE;simpa[Vr,ho]using this)];exact k6 n fun j h1 h2=>h j h1 zE
def amB{o:Oper}{T:List AV}{nb:List (List AV)}:
  ((dop P gl orc (Xm P ops o) T m nb).2.2=nb)\/(∃cells,(dop P gl orc (Xm P ops o) T m nb).2.2=nb++[cells]):=by
 unfold dop;split
 ·split
  ·exact .inr ⟨_,rfl⟩
  ·exact .inr ⟨_,rfl⟩
  ·split
   ·exact .inr ⟨_,rfl⟩
   exact .inl rfl
  exact .inl rfl
 ·split
  ·exact .inl rfl
  exact .inl rfl
 exact .inl rfl
def k8(P:Program)(gl:Nat->AV)(orc:Nat->FuncId->List AV->AV)(ops:Array Oper)(T0:List AV)(m:AM)(k:Nat):Nat:=(Xi P gl orc ops T0 m k).2.length
def OG(k:Nat):(Xi P gl orc ops T0 m (k+1)).2=(Xi P gl orc ops T0 m k).2\/∃cells,(Xi P gl orc ops T0 m (k+1)).2=(Xi P gl orc ops T0 m k).2++[cells]:=by
 cases ho:ops[k]? with
 |none=>exact .inl (by simp only[Xi,ho])
 |some o=>rw[Wn ho];exact amB
def FM(k:Nat):k8 P gl orc ops T0 m (k+1)=k8 P gl orc ops T0 m k\/k8 P gl orc ops T0 m (k+1)=k8 P gl orc ops T0 m k+1:=by
 unfold k8;rcases OG (P:=P) (gl:=gl) (orc:=orc) (ops:=ops) (T0:=T0) (m:=m) k with h|⟨c,h⟩
 ·rw[h];exact .inl rfl
 rw[h];exact .inr zd
def FN{j:Nat}:∀n,k8 P gl orc ops T0 m j<=k8 P gl orc ops T0 m (j+n)
 |0=>zzab _
 |n+1=>by
  have:=FN (j:=j) n;rcases FM (P:=P) (gl:=gl) (orc:=orc) (ops:=ops) (T0:=T0) (m:=m) (j+n)with h|h<;>rw[<- zzao]<;>omega
def X2{i j:Nat}(h:i<=j):k8 P gl orc ops T0 m i<=k8 P gl orc ops T0 m j:=by
 have:=FN (P:=P) (gl:=gl) (orc:=orc) (ops:=ops) (T0:=T0) (m:=m) (j:=i) (j-i);rwa [show i+(j-i)=j by omega]at this
def X3{i:Nat}:∀n{q:Nat}{c:List AV},(Xi P gl orc ops T0 m i).2[q]?=some c->(Xi P gl orc ops T0 m (i+n)).2[q]?=some c
 |0,_,_,h=>h
 |n+1,q,c,h=>by
  have ih:=X3 n h;rw[<- zzao];rcases OG (P:=P) (gl:=gl) (orc:=orc) (ops:=ops) (T0:=T0) (m:=m) (i+n)with e|⟨c',e⟩
  ·rw[e];exact ih
  rw[e,zzag (zza.1 ih).1];exact ih
def JI(P:Program)(gl:Nat->AV)(orc:Nat->FuncId->List AV->AV)(ops:Array Oper)(T0:List AV)(m:AM)(i:Nat):Bool:=k8 P gl orc ops T0 m (i+1)==k8 P gl orc ops T0 m i+1
def FO{q:Nat}:∀k,q<k8 P gl orc ops T0 m k->∃i,i<k/\JI P gl orc ops T0 m i=true/\k8 P gl orc ops T0 m i=q
 |0,h=>by simp[k8,Xi]at h
 |k+1,h=>by
  rcases zzaa q (k8 P gl orc ops T0 m k)with h'|h'
  ·obtain⟨i,h1,h2,h3⟩:=FO k h';exact⟨i,zE,h2,h3⟩
  rcases FM (P:=P) (gl:=gl) (orc:=orc) (ops:=ops) (T0:=T0) (m:=m) k with e|e
  ·omega
  exact⟨k,zE,by simp[JI,e],zE⟩
def Bc(P:Program)(gl:Nat->AV)(orc:Nat->FuncId->List AV->AV)(ops:Array Oper)(T0:List AV)(m:AM)(p:Nat)(listed:Array Bool)(id:Nat):Option (List AV):=
 if id<m.boxes.length then m.boxes[id]?
 else if(List.range p).any fun i=>listed.getD i false&&(JI P gl orc ops T0 m i&&decide (m.boxes.length+k8 P gl orc ops T0 m i=id))then(Xi P gl orc ops T0 m p).2[id-m.boxes.length]? else none
def wr(ops:Array Oper)(p:Nat)(listed:Array Bool)(t:Nat):Bool:=(List.range p).any fun i=>listed.getD i false&&(Vr ops i==some t)
def At(P:Program)(gl:Nat->AV)(orc:Nat->FuncId->List AV->AV)(ops:Array Oper)(T0:List AV)(m:AM)(p:Nat)(listed:Array Bool)(t:Nat):AV:=
 if wr ops p listed t then(Xi P gl orc ops T0 m p).1.getD t .junk else T0.getD t .junk
structure RJ (N:Nat) (w0:fF) (r:Option Nat) (aq:Nat->Nat->Prop) (S:G×World) (Y:YT) (P:Program) (gl:Nat->AV) (orc:Nat->FuncId->List AV->AV) (ops:Array Oper) (T0:List AV) (m:AM) (p:Nat) (listed:Array Bool) (γ:G) (w:World) (a:Act):Prop where
 size:listed.size=ops.size
 tail:∀i,p<=i->i<ops.size->listed.getD i true=false
 clo:∀i o,listed.getD i false=true->ops[i]?=some o->∀j∈Zb o,listed.getD j false=true
 mm:au N w0 aq γ w (Bc P gl orc ops T0 m p listed) m.L
 ls:cZ γ w m
 rd:Rdr r γ w
 tl:a.tmps.size=T0.length
 tt:∀t,aC w γ (At P gl orc ops T0 m p listed t) (a.tmps.getD t undef)
 d:Dfr S.2.heap.size γ w a.defers
 g:∀g,aC w γ.cT (gl g) (.pointer (some ⟨g,0,none⟩))
 y:YOK N w0 aq P Y γ w
 e:eP S.2 S.1 w γ
def Xu{listed:Array Bool}{i:Nat}{b:Bool}(h:i<listed.size):(listed.setIfInBounds i true).getD i b=true:=by
 simp[h]
def Qu{listed:Array Bool}{i j:Nat}{b:Bool}(h:j≠i):(listed.setIfInBounds i true).getD j b=listed.getD j b:=by
 simp[zzcs (Ne.symm h)]
def afd{listed:Array Bool}{id:Nat}{cells:List AV}(h:m.boxes[id]?=some cells):Bc P gl orc ops T0 m p listed id=some cells:=by
 unfold Bc;rw[if_pos (zza.1 h).1];exact h
def X4{listed:Array Bool}{i:Nat}(hn:JI P gl orc ops T0 m i=false):Bc P gl orc ops T0 m p (listed.setIfInBounds i true)=Bc P gl orc ops T0 m p listed:=by
 funext id;unfold Bc;congr 1
 have:((List.range p).any fun j=>(listed.setIfInBounds i true).getD j false&&(JI P gl orc ops T0 m j&&decide (m.boxes.length+k8 P gl orc ops T0 m j=id)))=
   ((List.range p).any fun j=>listed.getD j false&&(JI P gl orc ops T0 m j&&decide (m.boxes.length+k8 P gl orc ops T0 m j=id))):=by
  congr 1;funext j;by_cases hj:j=i
  ·subst hj;simp[hn]
  rw[Qu hj]
 rw[this]
def afe{i j:Nat}(hi:JI P gl orc ops T0 m i=true)(hj:JI P gl orc ops T0 m j=true)(h:k8 P gl orc ops T0 m i=k8 P gl orc ops T0 m j):i=j:=by
 simp only[JI,beq_iff_eq]at hi hj;rcases zzeb i j with h'|h'|h'
 ·have:=X2 (P:=P) (gl:=gl) (orc:=orc) (ops:=ops) (T0:=T0) (m:=m) (i:=i+1) (j:=j) h';omega
 ·exact h'
 have:=X2 (P:=P) (gl:=gl) (orc:=orc) (ops:=ops) (T0:=T0) (m:=m) (i:=j+1) (j:=i) h';omega
def Be{listed:Array Bool}{i:Nat}(hn:JI P gl orc ops T0 m i=true)(hl:listed.getD i false=false):Bc P gl orc ops T0 m p listed (m.boxes.length+k8 P gl orc ops T0 m i)=none:=by
 unfold Bc;rw[if_neg zE,if_neg];intro h;obtain⟨j,_,h⟩:=zzbx.1 h;simp only[zzak,decide_eq_true_eq]at h;obtain⟨h1,h2,h3⟩:=h;have:=afe h2 hn zE;subst this;rw[hl]at h1;cases h1
def OH{listed:Array Bool}{i:Nat}{cells:List AV}(dJ:i<p)(hsz:i<listed.size)(hn:JI P gl orc ops T0 m i=true)(hc:(Xi P gl orc ops T0 m p).2[k8 P gl orc ops T0 m i]?=some cells):
  Bc P gl orc ops T0 m p (listed.setIfInBounds i true)=fun id=>if id=m.boxes.length+k8 P gl orc ops T0 m i then some cells else Bc P gl orc ops T0 m p listed id:=by
 funext id;by_cases aK:id=m.boxes.length+k8 P gl orc ops T0 m i
 ·rw[if_pos aK];unfold Bc;rw[if_neg zE,if_pos]
  ·rw[aK,zzdw];exact hc
  rw[zzbx];exact⟨i,zzbb.2 dJ,by rw[Xu hsz,hn];simp[aK]⟩
 rw[if_neg aK];unfold Bc;congr 1
 have:((List.range p).any fun j=>(listed.setIfInBounds i true).getD j false&&(JI P gl orc ops T0 m j&&decide (m.boxes.length+k8 P gl orc ops T0 m j=id)))=
   ((List.range p).any fun j=>listed.getD j false&&(JI P gl orc ops T0 m j&&decide (m.boxes.length+k8 P gl orc ops T0 m j=id))):=by
  congr 1;funext j;by_cases hj:j=i
  ·subst hj;have:decide (m.boxes.length+k8 P gl orc ops T0 m j=id)=false:=by simp;omega
   simp[this]
  rw[Qu hj]
 rw[this]
def aff{listed:Array Bool}(bF:∀i,i<p->listed.getD i false=true):Bc P gl orc ops T0 m p listed=({m with boxes:=m.boxes++(Xi P gl orc ops T0 m p).2}:AM).B:=by
 funext id;unfold Bc;simp only[AM.B];split
 ·rename_i h;rw[zzag h]
 rename_i h;rw[zzal zE];split
 ·rfl
 rename_i hn;rcases zzaa (id-m.boxes.length) (Xi P gl orc ops T0 m p).2.length with hq|hq
 ·obtain⟨i,h1,h2,h3⟩:=FO (P:=P) (gl:=gl) (orc:=orc) (ops:=ops) (T0:=T0) (m:=m) (q:=id-m.boxes.length) p hq;exfalso;apply hn;rw[zzbx];exact⟨i,zzbb.2 h1,by rw[bF i h1,h2];simp;omega⟩
 rw[zzaw hq]
def Bf{α:Type}{f g:α->Bool}:∀{l:List α}{x:α},(∀y,f y=true->g y=true)->x∈l->g x=true->f x=false->l.countP f<l.countP g
 |y::l,x,hfg,hx,hg,hf=>by
  have cw:l.countP f<=l.countP g:=List.countP_mono_left fun y _=>hfg y;rw[List.countP_cons,List.countP_cons];rcases zzat.1 hx with rfl|hx
  ·rw[hg,hf];simp;omega
  have:=Bf hfg hx hg hf;by_cases h1:f y=true
  ·rw[h1,hfg y h1];simp;omega
  have oV:f y=false:=by simpa using h1
  rw[oV];simp only[zzbp,if_false,zzcq];exact zzaz this (zzgy _ _)
def uc(ops:Array Oper)(listed:Array Bool):Nat:=(List.range ops.size).countP fun i=>!listed.getD i true
def jv{listed:Array Bool}{i:Nat}(hsz:listed.size=ops.size)(hi:i<ops.size)(hl:listed.getD i true=false):uc ops (listed.setIfInBounds i true)<uc ops listed:=by
 unfold uc;refine Bf (x:=i) (fun j hj=>?_) (zzbb.2 hi) (by rw[hl];rfl) (by rw[Xu zE];rfl);by_cases AT:j=i
 ·subst AT;rw[hl];rfl
 rw[Qu AT]at hj;exact hj
def Qdx{listed:Array Bool}(h:uc ops listed=0){i:Nat}(hi:i<ops.size):listed.getD i true=true:=by
 unfold uc at h;have:=List.countP_eq_zero.1 h i (zzbb.2 hi);simpa using this
def Qz{listed:Array Bool}{i:Nat}(hi:i<listed.size)(b b':Bool):listed.getD i b=listed.getD i b':=by simp[hi]
def Zq(h:zw ops p=true):p<=ops.size/\∀i o,ops[i]?=some o->(∀j∈Zb o,j<i)/\
  (i<p->(∀t∈o.looksAt ops,∀j,j<p->Vr ops j=some t->j≠i->j<i/\j∈Zb o)/\(∀j,j<i->∀t,Vr ops j=some t->o.dst≠some t))/\
  (p<=i->C5 ops i=true):=by
 unfold zw at h;simp only[zzak,decide_eq_true_eq,zzbh]at h;obtain⟨hp,h⟩:=h;refine⟨hp,fun i o ho=>?_⟩;have hi:i<ops.size:=(zzby.1 ho).1;have:=h i (zzbb.2 hi);simp only[ho,zzak,zzbh,decide_eq_true_eq]at this;obtain⟨h1,h2⟩:=this;refine⟨h1,fun dJ=>?_,fun dJ=>?_⟩
 ·rw[if_pos dJ]at h2;simp only[zzak,zzbh]at h2;obtain⟨h3,h4⟩:=h2;refine⟨fun t ht j hj hd aM=>?_,fun j hj t hd cW=>?_⟩
  ·have:=h3 t ht j (zzbb.2 hj);simp[hd,aM]at this;exact⟨this.1,this.2⟩
  have:=h4 j (zzbb.2 hj);simp[hd,cW]at this
 rw[if_neg zE]at h2;exact h2
def FP(ops:Array Oper)(listed:Array Bool):Prop:=∀i o,listed.getD i false=true->ops[i]?=some o->∀j∈Zb o,listed.getD j false=true
def FP.set{listed:Array Bool}(h:FP ops listed){i:Nat}{o:Oper}(ho:ops[i]?=some o)(hsz:i<listed.size)(bV:∀j∈Zb o,listed.getD j false=true):FP ops (listed.setIfInBounds i true):=by
 have aj3:∀k,listed.getD k false=true->(listed.setIfInBounds i true).getD k false=true:=fun k hk=>by
  by_cases ry:i=k
  ·subst ry;exact Xu hsz
  rw[Qu (Ne.symm ry)];exact hk
 intro k o' hk cW j hj;by_cases ry:i=k
 ·subst ry;rw[ho]at cW;cases cW;exact aj3 j (bV j hj)
 rw[Qu (Ne.symm ry)]at hk;exact aj3 j (h k o' hk cW j hj)
def Qbk{listed:Array Bool}(C7:FP ops listed){i:Nat}{o:Oper}(ho:ops[i]?=some o)(ht:C5 ops i=true)(bV:∀j∈Zb o,listed.getD j false=true):∀(n j:Nat),j<i->i-j<=n->listed.getD j false=true
 |0,j,h1,h2=>zE
 |n+1,j,h1,h2=>by
  obtain⟨d,hd,hw⟩:=zzbx.1 (zzbh.1 ht j (zzbb.2 h1));have hdl:=zzbb.1 hd;unfold wM at hw;split at hw
  ·rename_i o' cW;have hm:j∈Zb o':=by simpa using hw
   by_cases h0:d=0
   ·subst h0;rw[zzfm,ho]at cW;cases cW;exact bV j hm
   exact C7 (i-d) o' (Qbk C7 ho ht bV n (i-d) zE zE) cW j hm
  cases hw
def nH{o:Oper}{j:Nat}:j∈Zb o<->∃e∈o.after,Region.binds .any e=true/\e.on=j:=by
 simp[Zb];constructor
 ·rintro⟨e,⟨h1,h2⟩,rfl⟩;exact⟨e,h1,h2,rfl⟩
 rintro⟨e,h1,h2,rfl⟩;exact⟨e,⟨h1,h2⟩,rfl⟩
def Ur(hc:zw ops p=true){listed:Array Bool}(hsz:listed.size=ops.size):∀(n i:Nat),i<=n->i<ops.size->listed.getD i true=false->∃j,j∈Region.ready .any ops listed
 |0,i,bL,hi,hl=>by
  obtain rfl:i=0:=zE
  have ho:ops[0]?=some ops[0]:=zzaj hi;refine⟨0,mem_ready.2 ⟨hl,ops[0],ho,fun e he hb=>?_⟩⟩;have:=((Zq hc).2 0 _ ho).1 e.on (nH.2 ⟨e,he,hb,rfl⟩);omega
 |n+1,i,bL,hi,hl=>by
  by_cases hex:∃j,j<i/\listed.getD j true=false
  ·obtain⟨j,hj,RK⟩:=hex;exact Ur hc hsz n j zE zE RK
  have ho:ops[i]?=some ops[i]:=zzaj hi;refine⟨i,mem_ready.2 ⟨hl,ops[i],ho,fun e he hb=>?_⟩⟩;have ai:=((Zq hc).2 i _ ho).1 e.on (nH.2 ⟨e,he,hb,rfl⟩)
  have:listed.getD e.on true=true:=by
   cases h:listed.getD e.on true with
   |true=>rfl
   |false=>exact absurd ⟨e.on,ai,h⟩ hex
  rw[Qz zE false true];exact this
def Us(hc:zw ops p=true){listed:Array Bool}{i:Nat}(hr:i∈Region.ready .any ops listed):i<ops.size/\listed.getD i true=false/\∃o,ops[i]?=some o/\∀j∈Zb o,listed.getD j false=true:=by
 obtain⟨h1,o,ho,h2⟩:=mem_ready.1 hr;refine⟨(zzby.1 ho).1,h1,o,ho,fun j hj=>?_⟩;obtain⟨e,he,hb,rfl⟩:=nH.1 hj;exact h2 e he hb
def Qdz{Q:Exit->Act->World->Prop}{K:AS->Prop}(hQ:∀γ w s a,K s->fc N w0 r aq S P gl Y γ w s a->Q .normal a w)(hc:zw ops p=true):
  ∀(aX k:Nat)(listed:Array Bool)(γ:G)(w:World)(s:AS)(a:Act),p<=k->k<=ops.size->listed.size=ops.size->(∀j,j<k->listed.getD j false=true)->(∀j,k<=j->j<ops.size->listed.getD j true=false)->
   uc ops listed<=aX->Zy P gl orc Y ((ops.toList.drop k).map (Xm P ops)) s K->fc N w0 r aq S P gl Y γ w s a->wpAnyIn (FW r) 0 P .any ops Q aX listed a w:=by
 intro aX;induction aX with
 |zero=>
  intro k listed γ w s a C8 hk hsz JJ hhi jx h hs
  have EG:k=ops.size:=by
   rcases zzaa k ops.size with h'|h'
   ·have:=Qdx (zzff.1 jx) h';rw[hhi k (zzab _) h']at this;cases this
   omega
  have hd:ops.toList.drop k=[]:=zzan (by simp;omega);rw[hd]at h;refine⟨?_,hQ γ w s a h hs⟩;rw[List.eq_nil_iff_forall_not_mem];intro i hi;obtain⟨ai,hu,_⟩:=Us hc hi;have:=Qdx (zzff.1 jx) ai;rw[hu]at this;cases this
 |succ aX ih=>
  intro k listed γ w s a C8 hk hsz JJ hhi jx h hs;refine⟨fun hr=>?_,fun i hi=>?_⟩
  ·have EG:k=ops.size:=by
    rcases zzaa k ops.size with h'|h'
    ·obtain⟨j,hj⟩:=Ur hc hsz k k (zzab _) h' (hhi k (zzab _) h');rw[hr]at hj;cases hj
    omega
   have hd:ops.toList.drop k=[]:=zzan (by simp;omega);rw[hd]at h;exact hQ γ w s a h hs
  obtain⟨ai,hu,o,ho,bV⟩:=Us hc hi
  have fP:k<=i:=by
   rcases zzaa i k with h'|h'
   ·have:=JJ i h';rw[Qz zE false true,hu]at this;cases this
   exact h'
  have ry:i=k:=by
   rcases zzaa k i with h'|h'
   ·have C7:FP ops listed:=fun x ox hx hox j hj=>by
     have hxk:x<k:=by
      rcases zzaa x k with h1|h1
      ·exact h1
      have hxs:x<ops.size:=(zzby.1 hox).1;rw[Qz zE false true,hhi x h1 hxs]at hx;cases hx
     have:=((Zq hc).2 x ox hox).1 j hj;exact JJ j zE
    have:=Qbk C7 ho (((Zq hc).2 i o ho).2.2 zE) bV i k h' zE;rw[Qz zE false true,hhi k (zzab _) zE]at this;cases this
   omega
  subst ry;refine wpOpIn_mono ?_ (wL ai hs h);rintro a' w' ⟨γ',s',iQ,h'⟩;refine ih (i+1) _ γ' w' s' a' zE ai (by simp[hsz]) (fun j hj=>?_) (fun j ek oD=>?_) ?_ h' iQ
  ·rcases zzaa j i with h'|h'
   ·rw[Qu zE];exact JJ j h'
   obtain rfl:j=i:=zE
   exact Xu zE
  ·rw[Qu zE];exact hhi j zE oD
  have:=jv hsz ai hu;omega
def afg{P:Program}{w:World}{γ:G}{te:TypeId}{zs:List AV}{i:TypeInfo}{z:Value}{n:Nat}(K1:ak w γ zs z.cells.toList)(g5:zs.all Qw=true)(g4:zs.length=i.size):
  cF w γ (bK n zs) (madeCells z.cells (n*i.size)).toList/\∀v∈(madeCells z.cells (n*i.size)).toList,v.oneCell'=true:=by
 have gO:=Yq K1 g5;have FH:z.cells.size=zs.length:=by have:=K1.1;simp at this;omega
 refine⟨⟨by simp[Kt,size_madeCells,g4],fun k c v j1 j2=>?_⟩,fun v hv=>?_⟩
 ·obtain⟨q1,q2⟩:=kZ j1
  have h0:0<zs.length:=by
   rcases zzcn zs.length with h0|h0
   ·simp[h0]at q1
   exact h0
  have ai:k%zs.length<z.cells.size:=by rw[FH];exact zzed _ h0
  have CX:v=z.cells[k%zs.length]:=by
   simp only[madeCells,zzce,zzgh]at j2;rw[zzaj (by simp;rw[<- g4];exact q1)]at j2;simp[FH]at j2;rw[<- j2,getElem!_pos z.cells _ ai]
  subst CX;exact K1.2 _ c _ q2 (by simp[ai])
 simp[madeCells]at hv;obtain⟨k,hk,rfl⟩:=hv
 have h0:0<z.cells.size:=by
  rcases zzcn z.cells.size with h0|h0
  ·rw[h0]at FH;rw[<- g4,<- FH]at hk;simp at hk
  exact h0
 have ai:k%z.cells.size<z.cells.size:=zzed _ h0;rw[getElem!_pos z.cells _ ai];exact gO _ zd
def amC{o:Oper}{sz bytes:Nat}{zs:List AV}{x y:bN}(h:tr P o=.mks sz bytes zs x y):∃t l c te i,o.op=.makeSlice t l c/\x=aB l/\y=aB c/\P.underlying t=some (.slice te)/\P.info? te=some i/\sz=i.size/\bytes=i.bytes/\zc P te=some zs:=by
 obtain⟨dst,op,ty,pos,after,guard⟩:=o;cases op
 case makeSlice t l c=>
  simp only[tr]at h;split at h
  ·rename_i te hu;split at h
   ·split at h<;>cases h
   ·rename_i i hi _;split at h
    ·rename_i zs' hz;cases h;exact⟨t,_,_,te,i,rfl,rfl,rfl,hu,hi,rfl,rfl,hz⟩
    cases h
   cases h
  cases h
 case call c=>
  simp only[tr,Zv]at h;repeat' split at h
  all_goals cases h
 case build t parts=>
  simp only[tr,Wt]at h;repeat' split at h
  all_goals cases h
 case slice t x lo hi mx=>cases mx<;>simp only[tr]at h<;>(repeat' split at h)<;>cases h
 case makeFunc fn a b=>cases fn<;>cases h
 case next x s=>cases s<;>cases h
 case makeMap t r=>cases r<;>simp only[tr]at h<;>(repeat' split at h)<;>cases h
 case binOp op t x y t'=>
  simp only[tr,mE,Qcs,zG]at h;repeat' split at h
  all_goals cases h
 all_goals first|(cases h;done)|(
  simp only[tr]at h;repeat' split at h
  all_goals cases h)
def wP(c:Call)(zs:List AV):Zv P c≠.alloc zs:=by
 intro h;obtain⟨callee,args,ts⟩:=c;cases callee with
 |builtin b=>cases b<;>simp only[Zv]at h<;>(repeat' split at h)<;>cases h
 |_=>cases h
def C9(c:Call)(x:bN):Zv P c≠.box x:=by
 intro h;obtain⟨callee,args,ts⟩:=c;cases callee with
 |builtin b=>cases b<;>simp only[Zv]at h<;>(repeat' split at h)<;>cases h
 |_=>cases h
def X5{o:Oper}{zs:List AV}(h:tr P o=.alloc zs):∃t,o.op=.alloc t/\zc P t=some zs:=by
 obtain⟨dst,op,ty,pos,after,guard⟩:=o;cases op
 case alloc t=>
  simp only[tr]at h;split at h
  ·rename_i zs' hz;cases h;exact⟨t,rfl,hz⟩
  cases h
 case call c=>exact absurd h (wP c zs)
 case build t parts=>
  simp only[tr,Wt]at h;repeat' split at h
  all_goals cases h
 case slice t x lo hi mx=>cases mx<;>simp only[tr]at h<;>(repeat' split at h)<;>cases h
 case makeFunc fn a b=>cases fn<;>cases h
 case next x s=>cases s<;>cases h
 case makeMap t r=>cases r<;>simp only[tr]at h<;>(repeat' split at h)<;>cases h
 case binOp op t x y t'=>
  simp only[tr,mE,Qcs,zG]at h;repeat' split at h
  all_goals cases h
 all_goals first|(cases h;done)|(
  simp only[tr]at h;repeat' split at h
  all_goals cases h)
def amD{o:Oper}{x:bN}(h:tr P o=.box x):∃t y,o.op=.box t y/\x=aB y:=by
 obtain⟨dst,op,ty,pos,after,guard⟩:=o;cases op
 case box t y=>cases h;exact⟨t,y,rfl,rfl⟩
 case call c=>exact absurd h (C9 c x)
 case build t parts=>
  simp only[tr,Wt]at h;repeat' split at h
  all_goals cases h
 case slice t x lo hi mx=>cases mx<;>simp only[tr]at h<;>(repeat' split at h)<;>cases h
 case makeFunc fn a b=>cases fn<;>cases h
 case next x s=>cases s<;>cases h
 case makeMap t r=>cases r<;>simp only[tr]at h<;>(repeat' split at h)<;>cases h
 case binOp op t x y t'=>
  simp only[tr,mE,Qcs,zG]at h;repeat' split at h
  all_goals cases h
 all_goals first|(cases h;done)|(
  simp only[tr]at h;repeat' split at h
  all_goals cases h)
def aw8(hc:zw ops p=true){listed:Array Bool}(hsz:listed.size=ops.size){i:Nat}{o:Oper}(ho:ops[i]?=some o)(dJ:i<p)(hu:listed.getD i true=false)(bV:∀j∈Zb o,listed.getD j false=true)
  {t:Nat}(ht:t∈o.looksAt ops):(Xi P gl orc ops T0 m i).1.getD t .junk=At P gl orc ops T0 m p listed t:=by
 have hi:i<ops.size:=(zzby.1 ho).1;obtain⟨hp,cU⟩:=Zq hc;unfold At;by_cases hex:∃j,j<p/\Vr ops j=some t/\j≠i
 ·obtain⟨j,hj,hd,aM⟩:=hex;obtain⟨AT,hja⟩:=((cU i o ho).2.1 dJ).1 t ht j hj hd aM
  have hw:wr ops p listed t=true:=by
   unfold wr;rw[zzbx];exact⟨j,zzbb.2 hj,by rw[bV j hja,hd];simp⟩
  rw[if_pos hw]
  have:=k6 (P:=P) (gl:=gl) (orc:=orc) (ops:=ops) (T0:=T0) (m:=m) (t:=t) (k:=i) (p-i) fun k dw dD OJ=>by
   have hk:k<ops.size:=zE
   have OK:ops[k]?=some ops[k]:=zzaj hk;have:=((cU k _ OK).2.1 zE).2 j zE t hd;simp[Vr,OK]at OJ;exact this OJ
  rw[show i+(p-i)=p by omega]at this;exact this.symm
 have hw:wr ops p listed t=false:=by
  unfold wr;rw[zzec];intro j hj;simp only[zzak,beq_iff_eq,not_and];intro hl hd;by_cases AT:j=i
  ·subst AT;rw[Qz zE false true,hu]at hl;cases hl
  exact hex ⟨j,zzbb.1 hj,hd,AT⟩
 rw[hw];simp only[zzbp,if_false];exact Qem i fun j hj hd=>hex ⟨j,zE,hd,zE⟩
def amE(hc:zw ops p=true){listed:Array Bool}(hsz:listed.size=ops.size){i:Nat}{o:Oper}(ho:ops[i]?=some o)(dJ:i<p){t:Nat}:
  At P gl orc ops T0 m p (listed.setIfInBounds i true) t=if o.dst=some t/\t<T0.length then(dop P gl orc (Xm P ops o) (Xi P gl orc ops T0 m i).1 m (Xi P gl orc ops T0 m i).2).2.1 else At P gl orc ops T0 m p listed t:=by
 have hi:i<ops.size:=(zzby.1 ho).1;obtain⟨hp,cU⟩:=Zq hc;by_cases hd:o.dst=some t
 ·have hw:wr ops p (listed.setIfInBounds i true) t=true:=by
   unfold wr;rw[zzbx];exact⟨i,zzbb.2 dJ,by rw[Xu zE];simp[Vr,ho,hd]⟩
  have hl:=k6 (P:=P) (gl:=gl) (orc:=orc) (ops:=ops) (T0:=T0) (m:=m) (t:=t) (k:=i+1) (p-(i+1)) fun k dw dD OJ=>by
   have hk:k<ops.size:=zE
   have OK:ops[k]?=some ops[k]:=zzaj hk;have:=((cU k _ OK).2.1 zE).2 i zE t (by simp[Vr,ho,hd]);simp[Vr,OK]at OJ;exact this OJ
  rw[show i+1+(p-(i+1))=p by omega]at hl;by_cases ht:t<T0.length
  ·rw[if_pos ⟨hd,ht⟩];unfold At;rw[if_pos hw,hl,Wn ho,hd];exact mH (by rw[jt];exact ht)
  rw[if_neg (by simp[ht])]
  have h1:∀k,(Xi P gl orc ops T0 m k).1.getD t .junk=.junk:=fun k=>by
   have:=jt (P:=P) (gl:=gl) (orc:=orc) (ops:=ops) (T0:=T0) (m:=m) k;simp only[List.getD];rw[zzaw zE];rfl
  have h2:T0.getD t .junk=.junk:=h1 0;unfold At;rw[h1 p,h2];simp
 rw[if_neg (by simp[hd])]
 have hw:wr ops p (listed.setIfInBounds i true) t=wr ops p listed t:=by
  unfold wr;congr 1;funext j;by_cases hj:j=i
  ·subst hj;have hb:(o.dst==some t)=false:=by simpa using hd
   simp[Vr,ho,hb]
  rw[Qu hj]
 unfold At;rw[hw]
def Ld(hc:zw ops p=true){Q:Exit->Act->World->Prop}{listed:Array Bool}{γ:G}{w:World}{a:Act}(hI:RJ N w0 r aq S Y P gl orc ops T0 m p listed γ w a){i:Nat}{o:Oper}(ho:ops[i]?=some o)(dJ:i<p)
  (hu:listed.getD i true=false)(bV:∀j∈Zb o,listed.getD j false=true)(bU:(dop P gl orc (Xm P ops o) (Xi P gl orc ops T0 m i).1 m (Xi P gl orc ops T0 m i).2).1):
  wpOpIn (FW r) 0 P ops Q i (fun a' w'=>∃γ',RJ N w0 r aq S Y P gl orc ops T0 m p (listed.setIfInBounds i true) γ' w' a') a w:=by
 have hi:i<ops.size:=(zzby.1 ho).1
 have zP:∀t∈o.looksAt ops,aC w γ ((Xi P gl orc ops T0 m i).1.getD t .junk) (a.tmps.getD t undef):=fun t ht=>by
  rw[aw8 (P:=P) (gl:=gl) (orc:=orc) (T0:=T0) (m:=m) hc hI.size ho dJ hu bV ht];exact hI.tt t
 have eR:∀x∈o.op.operands,aC w γ (ev gl (Xi P gl orc ops T0 m i).1 (aB x)) (a.eval x):=fun x hx=>by
  cases x with
  |tmp t=>exact zP t (by simp only[Oper.looksAt,zzam,zzfn];exact .inl ⟨.tmp t,by simpa using hx,rfl⟩)
  |const v=>exact Ke w γ v
  |func f=>exact .fn rfl (fun i c v h=>by simp at h) rfl fun i c v h=>by simp at h
  |global g=>exact(hI.g g).gK
 have hB:∀id cells,m.boxes[id]?=some cells->Bc P gl orc ops T0 m p listed id=some cells:=fun id cells h=>afd h
 have fin:∀{v:Value}{w':World}{γ':G},Ev w γ w' γ'->au N w0 aq γ' w' (Bc P gl orc ops T0 m p (listed.setIfInBounds i true)) m.L->
   aC w' γ' (dop P gl orc (Xm P ops o) (Xi P gl orc ops T0 m i).1 m (Xi P gl orc ops T0 m i).2).2.1 v->∃γ',RJ N w0 r aq S Y P gl orc ops T0 m p (listed.setIfInBounds i true) γ' w' (a.put o.dst v):=fun{v w' γ'}he hm hr=>by
  refine⟨γ',by simp[hI.size],fun j ek oD=>by rw[Qu zE];exact hI.tail j ek oD,FP.set hI.clo ho (by rw[hI.size];exact hi) bV,hm,hI.ls.mono he,hI.rd.aW he.cK,?_,fun t=>?_,?_,fun g=>(hI.g g).mono he.cT,hI.y.mono he.cK,hI.e.trans he.cK⟩
  ·cases hd:o.dst<;>simp[Act.put,hI.tl]
  ·rw[amE hc hI.size ho dJ];by_cases hd:o.dst=some t
   ·by_cases ht:t<T0.length
    ·rw[if_pos ⟨hd,ht⟩,hd];have:(a.put (some t) v).tmps.getD t undef=v:=by simp[Act.put,hI.tl,ht]
     rw[this];exact hr
    rw[if_neg (by simp[ht]),hd];have:(a.put (some t) v).tmps.getD t undef=a.tmps.getD t undef:=by simp[Act.put,hI.tl,ht]
    rw[this];exact(hI.tt t).mono he
   rw[if_neg (by simp[hd])]
   have:(a.put o.dst v).tmps.getD t undef=a.tmps.getD t undef:=by
    cases zK:o.dst with
    |none=>rfl
    |some d=>simp only[Act.put];simp;rw[zzcs (by rintro rfl;exact hd zK)]
   rw[this];exact(hI.tt t).mono he
  cases hd:o.dst<;>exact hI.d.aW he.cK
 have dX:=Wn (P:=P) (gl:=gl) (orc:=orc) (T0:=T0) (m:=m) ho
 have FQ:∀cells,(dop P gl orc (Xm P ops o) (Xi P gl orc ops T0 m i).1 m (Xi P gl orc ops T0 m i).2).2.2=(Xi P gl orc ops T0 m i).2++[cells]->JI P gl orc ops T0 m i=true/\(Xi P gl orc ops T0 m p).2[k8 P gl orc ops T0 m i]?=some cells:=fun cells h=>by
  refine⟨by simp only[JI,k8,dX,h];simp,?_⟩;have:=X3 (P:=P) (gl:=gl) (orc:=orc) (ops:=ops) (T0:=T0) (m:=m) (i:=i+1) (p-(i+1)) (q:=k8 P gl orc ops T0 m i) (c:=cells) (by rw[dX];simp only[h,k8];simp);rwa [show i+1+(p-(i+1))=p by omega]at this
 have o9:(dop P gl orc (Xm P ops o) (Xi P gl orc ops T0 m i).1 m (Xi P gl orc ops T0 m i).2).2.2=(Xi P gl orc ops T0 m i).2->Bc P gl orc ops T0 m p (listed.setIfInBounds i true)=Bc P gl orc ops T0 m p listed:=fun h=>
  X4 (by simp only[JI,k8,dX,h];simp)
 have rz:listed.getD i false=false:=by rw[Qz (by rw[hI.size];exact hi) false true];exact hu
 have box:∀{cells:List AV}{arr:Array Value}{te:TypeId},ak w γ cells arr.toList->cells.all Qw=true->
   (dop P gl orc (Xm P ops o) (Xi P gl orc ops T0 m i).1 m (Xi P gl orc ops T0 m i).2).2=(.ptr (m.boxes.length+(Xi P gl orc ops T0 m i).2.length) 0,(Xi P gl orc ops T0 m i).2++[cells])->
   (execOp a.eval o).run P w=.ok (.value (.pointer (some ⟨w.heap.size,0,none⟩))) (w.alloc (.cells arr te))->
   o.wpIn (FW r) 0 P a w (fun a' w'=>∃γ',RJ N w0 r aq S Y P gl orc ops T0 m p (listed.setIfInBounds i true) γ' w' a') Q:=fun{cells arr te}hr bO hd bn=>by
  obtain⟨qV,qY⟩:=FQ cells (by rw[hd]);have aK:=Be (p:=p) qV rz;refine Zm bn (fin (hI.mm.dB _ aK _) ?_ ?_)
  ·rw[OH dJ (by rw[hI.size];exact hi) qV qY];exact hI.mm.fG _ aK hr.toP (Yq hr bO)
  rw[hd];exact .ptr (by simp[G.box,k8])
 simp only[wpOpIn,ho];cases hg:o.guard with
 |none=>
  have hw:Region.wanted o (yielded ops a.tmps)=true:=by simp[Region.wanted,hg]
  rw[if_pos hw];have e1:(Xm P ops o).guard=none:=by simp[Xm,hg]
  cases X6:tr P o with
  |alloc zs=>
   have hd:dop P gl orc (Xm P ops o) (Xi P gl orc ops T0 m i).1 m (Xi P gl orc ops T0 m i).2=(zs.all Qw=true,.ptr (m.boxes.length+(Xi P gl orc ops T0 m i).2.length) 0,(Xi P gl orc ops T0 m i).2++[zs]):=by
    have e2:(Xm P ops o).op=.alloc zs:=X6;simp only[dop,e1,e2]
   rw[hd]at bU;obtain⟨t,X7,hz⟩:=X5 X6;obtain⟨i',z,di,jm,hr⟩:=jk (w:=w) (γ:=γ) hz;refine box (te:=t) hr bU (by rw[hd]) ?_;obtain⟨d',op',ty',arI,af',gu'⟩:=o;simp only at X7;subst X7;simp[execOp,Instr.alloc,zeroValue,typeInfo,di,jm,newVar,newRow]
  |box x=>
   have hd:dop P gl orc (Xm P ops o) (Xi P gl orc ops T0 m i).1 m (Xi P gl orc ops T0 m i).2=(bare (ev gl (Xi P gl orc ops T0 m i).1 x)=true/\(cellsOf (ev gl (Xi P gl orc ops T0 m i).1 x)).all Qw=true,
     .ptr (m.boxes.length+(Xi P gl orc ops T0 m i).2.length) 0,(Xi P gl orc ops T0 m i).2++[cellsOf (ev gl (Xi P gl orc ops T0 m i).1 x)]):=by
    have e2:(Xm P ops o).op=.box x:=X6;simp only[dop,e1,e2]
   rw[hd]at bU;obtain⟨t,y,X7,rfl⟩:=amD X6;have hry:=eR y (by rw[X7];simp[Op.operands]);refine box (te:=t) (kV hry bU.1) bU.2 (by rw[hd]) ?_;obtain⟨d',op',ty',arI,af',gu'⟩:=o;simp only at X7;subst X7;simp[execOp,Instr.box,newVar,newRow]
  |mks sz bytes zs x y=>
   obtain⟨t,l,c,te,i',X7,rfl,rfl,hu,di,rfl,rfl,CS⟩:=amC X6;have e2:(Xm P ops o).op=.mks i'.size i'.bytes zs (aB l) (aB c):=X6;simp only[dop,e1,e2]at bU FQ;have hl:=eR l (by rw[X7];simp[Op.operands]);have hc:=eR c (by rw[X7];simp[Op.operands]);split at bU
   case h_2=>exact bU.elim
   rename_i k1 n1 k2 n2 q1 q2;rw[q1]at hl;rw[q2]at hc;obtain⟨⟨g0,g1,g2,g3⟩,g4,g5⟩:=bU;obtain⟨i2,z,hi2,hz,K1⟩:=jk (w:=w) (γ:=γ) CS;rw[di]at hi2;cases hi2
   have hd:dop P gl orc (Xm P ops o) (Xi P gl orc ops T0 m i).1 m (Xi P gl orc ops T0 m i).2=((0<=n1/\n1<=n2/\i'.bytes*n2<=281474976710656/\n2<=9223372036854775807)/\zs.length=i'.size/\zs.all Qw=true,.bs (m.boxes.length+(Xi P gl orc ops T0 m i).2.length) 0 n1.toNat i'.size,(Xi P gl orc ops T0 m i).2++[bK n2.toNat zs]):=by
    simp only[dop,e1,e2,q1,q2]
   have bn:=run_make (P:=P) w t te i' z hu di hz k1 k2 n1 n2 g0 zE g2 g3;obtain⟨zq,iC⟩:=afg (P:=P) (te:=te) (n:=n2.toNat) K1 g5 g4;obtain⟨qV,qY⟩:=FQ (bK n2.toNat zs) (by simp only[q1,q2]);have aK:=Be (p:=p) qV rz
   have arJ:(execOp a.eval o).run P w=.ok (.value (.slice (some ⟨w.heap.size,0,none⟩) n1.toNat n2.toNat)) (w.alloc (.cells (madeCells z.cells (n2.toNat*i'.size)) te)):=by
    obtain⟨d',op',ty',arI,af',gu'⟩:=o;simp only at X7;subst X7;simp[execOp,hl.aI,hc.aI,bn]
   refine Zm arJ (fin (hI.mm.dB _ aK _) ?_ ?_)
   ·rw[OH dJ (by rw[hI.size];exact hi) qV qY];exact hI.mm.fG _ aK zq iC
   rw[hd];exact .bs (arr:=madeCells z.cells (n2.toNat*i'.size)) (e:=te) (by simp[G.box,k8]) zE (by show(w.heap.push _)[w.heap.size]?=_;simp) (by rw[zzbw,size_madeCells];exact zzab _)
  |_=>
   have hd:dop P gl orc (Xm P ops o) (Xi P gl orc ops T0 m i).1 m (Xi P gl orc ops T0 m i).2=((rop P gl orc (ev gl (Xi P gl orc ops T0 m i).1) m o.dst (tr P o)).1,(rop P gl orc (ev gl (Xi P gl orc ops T0 m i).1) m o.dst (tr P o)).2,(Xi P gl orc ops T0 m i).2):=by
    have e2:(Xm P ops o).op=tr P o:=rfl;rw[X6]at e2;simp only[dop,e1,e2,X6];rfl
   rw[hd]at bU;have qD:=o9 (by rw[hd]);rw[hd,qD]at fin;exact Qde hI.mm hB hI.g eR bU r _ Q fun v w' γ' h1 h2 h3=>fin h1 h2 h3
 |some q=>
  obtain⟨j,want⟩:=q;have e1:(Xm P ops o).guard=some ((ops[j]?).bind (·.dst),want):=by simp[Xm,hg]
  cases hj:(ops[j]?).bind (·.dst)with
  |none=>
   rw[hj]at e1;simp only[dop,e1]at bU
  |some t=>
   rw[hj]at e1;have iR:t∈o.looksAt ops:=by simp[Oper.looksAt,hg,hj]
   have aT:=zP t iR;cases pe:JH want ((Xi P gl orc ops T0 m i).1.getD t .junk)with
   |none=>simp only[dop,e1,pe]at bU
   |some gw=>
    have hd:dop P gl orc (Xm P ops o) (Xi P gl orc ops T0 m i).1 m (Xi P gl orc ops T0 m i).2=(gok gl (Xi P gl orc ops T0 m i).1 gw (gxs (tr P o) (Xm P ops o).xs)/\(gw=true->(rop P gl orc (evG gl (Xi P gl orc ops T0 m i).1 (tr P o)) m o.dst (tr P o)).1),
      .gd gw (rop P gl orc (evG gl (Xi P gl orc ops T0 m i).1 (tr P o)) m o.dst (tr P o)).2,(Xi P gl orc ops T0 m i).2):=by
     simp only[dop,e1,pe];rfl
    rw[hd]at bU;have qD:=o9 (by rw[hd]);rw[hd,qD]at fin
    have XZ:Region.wanted o (yielded ops a.tmps)=gw:=by
     have hyv:∀b,a.tmps.getD t undef=.bool b->yielded ops a.tmps j=some b:=fun b hb=>by
      have ck:t<a.tmps.size:=by
       rcases zzaa t a.tmps.size with h|h
       ·exact h
       simp[zzcv h,undef]at hb
      simp[ck]at hb;simp only[yielded,hj,zzbz,zzaj ck,hb]
     have hyu:a.tmps.getD t undef=undef->yielded ops a.tmps j=none:=fun hb=>by
      rcases zzaa t a.tmps.size with ck|h
      ·simp[ck]at hb;simp only[yielded,hj,zzbz,zzaj ck,hb];rfl
      simp only[yielded,hj,zzbz,zzcv h]
     generalize(Xi P gl orc ops T0 m i).1.getD t .junk=gv at pe aT;cases gv with
     |bool g=>
      simp only[JH,Option.some.injEq]at pe;subst pe;simp only[Region.wanted,hg,hyv g aT.bB];cases g<;>cases want<;>rfl
     |gd d x=>
      cases d with
      |false=>
       simp only[Region.wanted,hg,hyu aT.Oz];cases x<;>simp[JH]at pe<;>subst pe<;>cases want<;>rfl
      |true=>
       cases x<;>simp[JH]at pe;rename_i b;subst pe;simp only[Region.wanted,hg,hyv b (aT.CP rfl).bB];cases b<;>cases want<;>rfl
     |_=>simp[JH]at pe
    rw[XZ];obtain⟨h1,h2⟩:=bU;cases TX:gw with
    |true=>
     rw[TX]at h1 h2 fin;simp only[if_true];refine Qde (e:=evG gl (Xi P gl orc ops T0 m i).1 (tr P o)) hI.mm hB hI.g (fun x hx=>?_) (h2 rfl) r _ Q fun v w' γ' q1 q2 q3=>fin q1 q2 (.gd (fun _=>q3) (fun h=>by cases h));unfold evG;cases iE:rawOp (tr P o)with
     |true=>exact eR x hx
     |false=>
      refine Bb (eR x hx) fun g' b hgb=>C4 h1 (aB x) ?_ g' b hgb rfl;simp only[gxs,iE,cond_false];simp[Xm,hg];exact⟨x,by simpa using hx,rfl⟩
    |false=>
     rw[TX]at fin;simp only[zzbp,if_false];exact⟨fun _ _=>trivial,fin (Ev.refl _ _) hI.mm (.gd (fun h=>by cases h) (fun _=>rfl))⟩
def FR{Q:Exit->Act->World->Prop}{K:AS->Prop}(hQ:∀γ w s a,K s->fc N w0 r aq S P gl Y γ w s a->Q .normal a w)(hc:zw ops p=true)
  (amF:∀i o,i<p->ops[i]?=some o->(dop P gl orc (Xm P ops o) (Xi P gl orc ops T0 m i).1 m (Xi P gl orc ops T0 m i).2).1)
  (gW:Zy P gl orc Y ((ops.toList.drop p).map (Xm P ops)) ⟨(Xi P gl orc ops T0 m p).1,{m with boxes:=m.boxes++(Xi P gl orc ops T0 m p).2}⟩ K):
  ∀(aX:Nat)(listed:Array Bool)(γ:G)(w:World)(a:Act),RJ N w0 r aq S Y P gl orc ops T0 m p listed γ w a->uc ops listed<=aX->wpAnyIn (FW r) 0 P .any ops Q aX listed a w:=by
 obtain⟨hp,cU⟩:=Zq hc
 have full:∀(aX:Nat)(listed:Array Bool)(γ:G)(w:World)(a:Act),RJ N w0 r aq S Y P gl orc ops T0 m p listed γ w a->uc ops listed<=aX->(∀i,i<p->listed.getD i false=true)->wpAnyIn (FW r) 0 P .any ops Q aX listed a w:=by
  intro aX listed γ w a hI jx bF;refine Qdz hQ hc aX p listed γ w _ a (zzab _) hp hI.size bF hI.tail jx gW ⟨?_,hI.ls,hI.rd,⟨?_,fun t x v hx hv=>?_⟩,hI.d,hI.g,hI.y,hI.e⟩
  ·have:=hI.mm;rw[aff bF]at this;exact this
  ·simp[jt,hI.tl]
  have h1:=hI.tt t
  have hAt:At P gl orc ops T0 m p listed t=x:=by
   have iD:(Xi P gl orc ops T0 m p).1.getD t .junk=x:=by simp only at hx;simp[List.getD,hx]
   unfold At;split
   ·exact iD
   rename_i hw;rw[<- iD];refine(Qem p fun j hj hd=>hw ?_).symm;unfold wr;rw[zzbx];exact⟨j,zzbb.2 hj,by rw[bF j hj,hd];simp⟩
  rw[hAt]at h1;have:a.tmps.getD t undef=v:=by simp at hv;simp[hv]
  rwa [this]at h1
 intro aX;induction aX with
 |zero=>
  intro listed γ w a hI jx
  exact full 0 listed γ w a hI jx fun i hi=>by
   rw[Qz (by rw[hI.size];omega) false true];exact Qdx (zzff.1 jx) zE
 |succ aX ih=>
  intro listed γ w a hI jx;by_cases bF:∀i,i<p->listed.getD i false=true
  ·exact full (aX+1) listed γ w a hI jx bF
  have hex:∃k,k<p/\listed.getD k true=false:=by
   refine Classical.byContradiction fun hn=>bF fun i hi=>?_;rw[Qz (by rw[hI.size];omega) false true];cases hl:listed.getD i true with
   |true=>rfl
   |false=>exact absurd ⟨i,hi,hl⟩ hn
  obtain⟨k,hk,X8⟩:=hex;refine⟨fun hr=>?_,fun i hi=>?_⟩
  ·obtain⟨j,hj⟩:=Ur hc hI.size k k (zzab _) zE X8;rw[hr]at hj;cases hj
  obtain⟨ai,hu,o,ho,bV⟩:=Us hc hi
  have dJ:i<p:=by
   rcases zzaa i p with h|h
   ·exact h
   have:=Qbk hI.clo ho ((cU i o ho).2.2 h) bV i k zE zE;rw[Qz (by rw[hI.size];omega) false true,X8]at this;cases this
  refine wpOpIn_mono ?_ (Ld hc hI ho dJ hu bV (amF i o dJ ho));rintro a' w' ⟨γ',gX⟩;refine ih _ γ' w' a' gX ?_;have:=jv hI.size ai hu;omega
def wQ{Q:Exit->Act->World->Prop}{K:AS->Prop}{γ:G}{w:World}{s:AS}{a:Act}(hQ:∀γ w s a,K s->fc N w0 r aq S P gl Y γ w s a->Q .normal a w)(hc:zw ops p=true)
  (h:vcD P gl orc Y ((ops.toList.drop p).map (Xm P ops)) K ((ops.toList.take p).map (Xm P ops)) s.T s.m [])(hs:fc N w0 r aq S P gl Y γ w s a):
  wpAnyIn (FW r) 0 P .any ops Q ops.size (Array.replicate ops.size false) a {w with drawn:=w.drawn+1}:=by
 have hp:=(Zq hc).1;obtain⟨h1,h2⟩:=OF (P:=P) (gl:=gl) (orc:=orc) (T0:=s.T) (m:=s.m) ((ops.toList.drop p).map (Xm P ops)) K hp p 0 zd (by rw[zzde];exact h);refine FR (T0:=s.T) (m:=s.m) hQ hc (fun i o hi ho=>h1 i o (zzbt _) hi ho) h2 ops.size _ γ w.drew a ⟨zd,fun i _ hi=>by simp[hi],fun i o h=>(by rcases zzaa i ops.size with h'|h'<;>simp[h']at h),?_,hs.ls.mono (Ev.drew w γ),hs.rd.aW (Ev.drew w γ).cK,?_,fun t=>?_,hs.d.aW (Ev.drew w γ).cK,fun g=>(hs.g g).mono (Ev.drew w γ).cT,hs.y.mono (Ev.drew w γ).cK,hs.e.trans (Ev.drew w γ).cK⟩ ?_
 ·have hB:Bc P gl orc ops s.T s.m p (Array.replicate ops.size false)=s.m.B:=by
   funext id;unfold Bc;simp only[AM.B];split
   ·rfl
   rename_i aK;rw[if_neg,zzaw zE];rw[zzbx];rintro⟨j,_,hj⟩
   have:(Array.replicate ops.size false).getD j false=false:=by
    rcases zzaa j ops.size with h|h<;>simp[h]
   rw[this]at hj;cases hj
  rw[hB];exact hs.m.drew
 ·have:=hs.t.1;simp at this;omega
 ·have hw:wr ops p (Array.replicate ops.size false) t=false:=by
   unfold wr;rw[zzec];intro j _
   have:(Array.replicate ops.size false).getD j false=false:=by
    rcases zzaa j ops.size with h|h<;>simp[h]
   rw[this];simp
  unfold At;rw[hw];simp only[zzbp,if_false];have:=(hs.t.mono (Ev.drew w γ)).get t;simpa[List.getD]using this
 unfold uc;exact zzbg (zzev) zd
end
open Go Go.RowKit
def X9(o:Oper):Bool:=o.guard.isNone
def arK(f:FuncId):Bool:=f==276||f==198||f==122||f==179||f==23||f==26||f==16||f==17||f==70||f==71
def aj4(o:Oper):Bool:=match o.op with
 |.call ⟨.value (.tmp _),_,_⟩=>o.dst.isSome
 |.call ⟨.value (.func f),_,_⟩=>o.dst.isSome&&arK f
 |.call ⟨.builtin .copy,_,_⟩=>true
 |.call ⟨.builtin .append,_,_⟩=>o.dst.isSome
 |.store _ _ _=>true
 |.mapUpdate _ _ _ _=>true
 |.mapEntry _ _ _=>true
 |.entryStore _ _ _ _=>true
 |_=>false
def Da(o:Oper):Bool:=aj4 o||(match o.op with
 |.alloc _|.box _ _|.makeMap _ _|.range _ _=>true
 |_=>false)
def arL(f:FuncId):Bool:=f==23
def arM(o:Oper):Bool:=match o.op with
 |.call ⟨.value (.func f),_,_⟩=>arL f
 |_=>false
def eH(ops:Array Oper)(p:Oper->Bool)(i:Nat):Bool:=match ops[i]? with
 |some o=>p o
 |none=>false
def RL(ops:Array Oper):List Nat->Bool
 |j::j'::r=>(match ops[j']? with|some o=>(Zb o).contains j|none=>false)&&RL ops (j'::r)
 |_=>true
def nI(ops:Array Oper)(p:Nat):Option (List Nat):=
 let js:=(List.range p).filter (eH ops Da)
 if(List.range p).any (eH ops aj4)&&RL ops js&&((List.range p).all (eH ops X9)||(List.range p).any (eH ops arM))&&(List.range p).all (fun i=>ops[i]?.isSome)then some js else none
inductive Fg
 |eff
 |pre
 |oth
def FT(ops:Array Oper):Nat->List Nat->List Nat
 |0,s=>s
 |k+1,s=>bif s.any fun i=>wM ops i k then FT ops k (k::s)else FT ops k s
def uL{ops:Array Oper}{listed:Array Bool}(h:FP ops listed):∀(k:Nat)(s:List Nat),(∀i∈s,listed.getD i false=true)->∀i∈FT ops k s,listed.getD i false=true
 |0,_,hs,i,hi=>hs i hi
 |k+1,s,hs,i,hi=>by
  simp only[FT]at hi;cases hc:s.any fun i=>wM ops i k with
  |false=>rw[hc]at hi;exact uL h k s hs i hi
  |true=>
   rw[hc]at hi;refine uL h k (k::s) (fun j hj=>?_) i hi;rcases zzat.1 hj with rfl|hj
   ·obtain⟨x,hx,hw⟩:=zzbx.1 hc;unfold wM at hw;split at hw
    ·rename_i o ho;exact h x o (hs x hx) ho j (by simpa using hw)
    cases hw
   exact hs j hj
def mJ(ops:Array Oper)(js:List Nat)(i:Nat):Bool:=match js with
 |j::_=>(FT ops j [j]).contains i
 |[]=>false
def Jv(ops:Array Oper)(js:List Nat)(i:Nat):Fg:=bif js.contains i then .eff else bif mJ ops js i then .pre else .oth
def flags(ops:Array Oper)(p:Nat)(js:List Nat):List Fg:=(List.range p).map (Jv ops js)
section
variable (P:Program) (gl:Nat->AV) (orc:Nat->FuncId->List AV->AV) (Y:YT)
def memEff:aF->Bool
 |.store _ _ _|.cpy _ _ _|.mupd _ _ _ _|.ment _ _ _ _|.esto _ _ _|.alloc _|.box _|.mkmap _|.rng _|.app _ _ _ _=>true
 |_=>false
def effV(v:AV):aF->AV
 |.alloc _|.box _|.mkmap _|.rng _|.ment _ _ _ _|.app _ _ _ _=>v
 |_=>.junk
def effC(e:bN->AV)(m:AM)(dst:Option Nat)(av:AV)(m1:AM):aF->Prop
 |.call f args=>(match e f with
  |.fn g first cap=>an P gl Y g (first++args.map e++cap) m (fun x m2=>x=av/\m2=m1)
  |_=>False)
 |so=>memEff so=true/\(sop P gl orc e m dst so).1/\av=effV (sop P gl orc e m dst so).2.1 so/\m1=(sop P gl orc e m dst so).2.2
def Ya(T:List AV)(o:SO):Prop:=match o.guard with
 |none=>True
 |some (some t,b)=>T.getD t .junk=.bool b
 |some (none,_)=>False
def uM(l2:List SO)(K:AS->Prop)(m:AM)(ms:List (AV×AM)):List SO->List Fg->List (AV×AM)->AM->List AV->Prop
 |[],_,q,mc,T=>q=[]/\Zy P gl orc Y l2 ⟨T,mc⟩ K
 |_::_,[],_,_,_=>False
 |o::r,.eff::fl,q,mc,T=>(match q with
  |[]=>False
  |x::q=>Ya T o/\effC P gl orc Y (ev gl T) mc o.dst x.1 x.2 o.op/\uM l2 K m ms r fl q x.2 (put T o.dst x.1))
 |o::r,.pre::fl,q,mc,T=>Ya T o/\(rop P gl orc (ev gl T) m o.dst o.op).1/\uM l2 K m ms r fl q mc (put T o.dst (rop P gl orc (ev gl T) m o.dst o.op).2)
 |o::r,.oth::fl,q,mc,T=>Ya T o/\(rop P gl orc (ev gl T) m o.dst o.op).1/\(∀x∈ms,rop P gl orc (ev gl T) x.2 o.dst o.op=rop P gl orc (ev gl T) m o.dst o.op)/\uM l2 K m ms r fl q mc (put T o.dst (rop P gl orc (ev gl T) m o.dst o.op).2)
def rdC(e:bN->AV)(m:AM)(dst:Option Nat)(x:AM):aF->Prop
 |.call f args=>(match e f with
  |.fn g first cap=>an P gl Y g (first++args.map e++cap) x (fun y m2=>y=(rop P gl orc e m dst (.call f args)).2/\m2=x)
  |_=>False)
 |_=>False
def arN(m:AM)(ms:List (AV×AM))(e:bN->AV)(dst:Option Nat)(so:aF):Prop:=
 ((rop P gl orc e m dst so).1/\∀x∈ms,rop P gl orc e x.2 dst so=rop P gl orc e m dst so)\/(rdC P gl orc Y e m dst m so/\∀x∈ms,rdC P gl orc Y e m dst x.2 so)
def iF(l2:List SO)(K:AS->Prop)(m:AM)(ms:List (AV×AM)):List SO->List Fg->List (AV×AM)->AM->List AV->Prop
 |[],_,q,mc,T=>q=[]/\Zy P gl orc Y l2 ⟨T,mc⟩ K
 |_::_,[],_,_,_=>False
 |o::r,.eff::fl,q,mc,T=>(match q with
  |[]=>False
  |x::q=>Ya T o/\effC P gl orc Y (ev gl T) mc o.dst x.1 x.2 o.op/\iF l2 K m ms r fl q x.2 (put T o.dst x.1))
 |o::r,.pre::fl,q,mc,T=>Ya T o/\(rop P gl orc (ev gl T) m o.dst o.op).1/\iF l2 K m ms r fl q mc (put T o.dst (rop P gl orc (ev gl T) m o.dst o.op).2)
 |o::r,.oth::fl,q,mc,T=>Ya T o/\arN P gl orc Y m ms (ev gl T) o.dst o.op/\iF l2 K m ms r fl q mc (put T o.dst (rop P gl orc (ev gl T) m o.dst o.op).2)
def OL{l2:List SO}{K:AS->Prop}{m:AM}{ms:List (AV×AM)}:∀{l:List SO}{fl:List Fg}{q:List (AV×AM)}{mc:AM}{T:List AV},uM P gl orc Y l2 K m ms l fl q mc T->iF P gl orc Y l2 K m ms l fl q mc T
 |[],fl,q,mc,T,h=>by simp only[uM]at h;simp only[iF];exact h
 |_::_,[],_,_,_,h=>by simp only[uM]at h
 |o::r,.eff::fl,[],mc,T,h=>by simp only[uM]at h
 |o::r,.eff::fl,x::q,mc,T,h=>by
  simp only[uM]at h;simp only[iF];exact⟨h.1,h.2.1,OL h.2.2⟩
 |o::r,.pre::fl,q,mc,T,h=>by
  simp only[uM]at h;simp only[iF];exact⟨h.1,h.2.1,OL h.2.2⟩
 |o::r,.oth::fl,q,mc,T,h=>by
  simp only[uM]at h;simp only[iF];exact⟨h.1,.inl ⟨h.2.1,h.2.2.1⟩,OL h.2.2.2⟩
end
def Le:List (Nat×AV)->Nat->Option AV
 |[],_=>none
 |(k,a)::r,d=>if k=d then some a else Le r d
def Xc:List Nat->List (AV×AM)->List (Nat×AV)
 |j::js,x::q=>(j,x.1)::Xc js q
 |_,_=>[]
def Uh(listed:Array Bool):AM->List Nat->List (AV×AM)->AM
 |m,j::js,x::q=>if listed.getD j false then Uh listed x.2 js q else m
 |m,_,_=>m
def Vw(m:AM)(ms:List (AV×AM)):Nat->AM
 |0=>m
 |a+1=>(ms.getD a (.junk,m)).2
def chn(listed:Array Bool):List Nat->Prop
 |j::j'::r=>(listed.getD j' false=true->listed.getD j false=true)/\chn listed (j'::r)
 |_=>True
section
variable {N:Nat} {w0:fF} {r:Option Nat} {aq:Nat->Nat->Prop} {S:G×World} {Y:YT} {P:Program} {gl:Nat->AV} {orc:Nat->FuncId->List AV->AV} {ops:Array Oper} {T0:List AV} {m:AM} {p:Nat}
def wR(listed:Array Bool):∀(js:List Nat)(ms:List (AV×AM))(m:AM),Uh listed m js ms=m\/∃x∈ms,Uh listed m js ms=x.2
 |[],ms,m=>.inl (by cases ms<;>rfl)
 |j::js,[],m=>.inl rfl
 |j::js,x::q,m=>by
  simp only[Uh];split
  ·rcases wR listed js q x.2 with h|⟨y,hy,h⟩
   ·exact .inr ⟨x,zd,h⟩
   exact .inr ⟨y,by simp[hy],h⟩
  exact .inl rfl
def Jf{listed:Array Bool}:∀{js:List Nat}{ms:List (AV×AM)}{m:AM}{a:Nat},js.length=ms.length->a<=js.length->(∀b j,b<a->js[b]?=some j->listed.getD j false=true)->(∀j,js[a]?=some j->listed.getD j false=false)->
  Uh listed m js ms=Vw m ms a
 |[],[],m,a,_,ha,_,_=>by
  have:a=0:=by simpa using ha
  subst this;rfl
 |[],_::_,_,_,h,_,_,_=>by simp at h
 |_::_,[],_,_,h,_,_,_=>by simp at h
 |j::js,x::q,m,0,_,_,_,h=>by
  simp only[Uh,Vw];rw[h j rfl];rfl
 |j::js,x::q,m,a+1,hl,ha,h1,h2=>by
  simp only[Uh];rw[h1 0 j zE rfl,if_pos rfl];rw[Jf (a:=a) (by simpa using hl) (by simpa using ha) (fun b j hb hj=>h1 (b+1) j zE (by simpa using hj)) (fun j hj=>h2 j (by simpa using hj))];cases a with
  |zero=>rfl
  |succ a=>
   simp only[Vw,List.getD_cons_succ];have:a<q.length:=by simp at ha hl;omega
   simp[List.getD,this]
def rA{listed OM:Array Bool}:∀{js:List Nat}{ms:List (AV×AM)}{m:AM},(∀j∈js,OM.getD j false=listed.getD j false)->Uh OM m js ms=Uh listed m js ms
 |[],_,_,_=>rfl
 |_::_,[],_,_=>rfl
 |j::js,x::q,m,h=>by
  simp only[Uh];rw[h j zd,rA fun j hj=>h j (by simp[hj])]
def Qbu{listed:Array Bool}:∀{js:List Nat},chn listed js->∀{a b j j':Nat},a<b->js[a]?=some j->js[b]?=some j'->listed.getD j' false=true->listed.getD j false=true
 |[],_,a,b,j,j',_,h,_,_=>by simp at h
 |[x],_,a,b,j,j',hab,h,h',_=>by
  have:=(zza.1 h').1;simp at this;omega
 |x::y::r,hc,0,1,j,j',_,h,h',hl=>by
  simp at h h';subst h;subst h';exact hc.1 hl
 |x::y::r,hc,0,b+2,j,j',_,h,h',hl=>by
  simp at h;subst h;exact hc.1 (Qbu hc.2 (a:=0) (b:=b+1) zE rfl (by simpa using h') hl)
 |x::y::r,hc,a+1,b+1,j,j',hab,h,h',hl=>Qbu hc.2 (a:=a) (b:=b) zE (by simpa using h) (by simpa using h') hl
def uN{listed:Array Bool}{i:Nat}:∀{js:List Nat},chn listed js->(∀a j,js[a]?=some j->js[a+1]?=some i->listed.getD j false=true)->chn (listed.setIfInBounds i true) js
 |[],_,_=>trivial
 |[_],_,_=>trivial
 |j::j'::r,hc,h=>by
  refine⟨fun hl=>?_,uN hc.2 fun a x hx iD=>h (a+1) x (by simpa using hx) (by simpa using iD)⟩
  have mono:∀k,listed.getD k false=true->(listed.setIfInBounds i true).getD k false=true:=fun k hk=>by
   by_cases ry:i=k
   ·subst ry
    have:i<listed.size:=by
     rcases zzaa i listed.size with h|h
     ·exact h
     simp[zzbo.2 h]at hk
    exact Xu this
   rw[Qu (Ne.symm ry)];exact hk
  by_cases eE:i=j'
  ·subst eE;exact mono j (h 0 j rfl rfl)
  rw[Qu (Ne.symm eE)]at hl;exact mono j (hc.1 hl)
def Jd{l:List Nat}(h:l.Nodup){a b i:Nat}(h1:l[a]?=some i)(h2:l[b]?=some i):a=b:=by
 obtain⟨ha,ea⟩:=zza.1 h1;obtain⟨hb,eb⟩:=zza.1 h2;rcases zzeb a b with h'|h'|h'
 ·exact absurd (ea.trans eb.symm) (zzdr.1 h a b ha hb h')
 ·exact h'
 exact absurd (eb.trans ea.symm) (zzdr.1 h b a hb ha h')
def Db(P:Program)(gl:Nat->AV)(orc:Nat->FuncId->List AV->AV)(ops:Array Oper)(m:AM)(L:List (Nat×AV))(i:Nat)(T:List AV):AV:=match Le L i with
 |some av=>av
 |none=>match ops[i]? with
  |some o=>(rop P gl orc (ev gl T) m o.dst (tr P o)).2
  |none=>.junk
def bW(P:Program)(gl:Nat->AV)(orc:Nat->FuncId->List AV->AV)(ops:Array Oper)(T0:List AV)(m:AM)(L:List (Nat×AV)):Nat->List AV
 |0=>T0
 |k+1=>match ops[k]? with
  |some o=>put (bW P gl orc ops T0 m L k) o.dst (Db P gl orc ops m L k (bW P gl orc ops T0 m L k))
  |none=>bW P gl orc ops T0 m L k
def Qdn{L:List (Nat×AV)}{k:Nat}{o:Oper}(h:ops[k]?=some o):bW P gl orc ops T0 m L (k+1)=put (bW P gl orc ops T0 m L k) o.dst (Db P gl orc ops m L k (bW P gl orc ops T0 m L k)):=by
 simp only[bW,h]
def Qen{L:List (Nat×AV)}:∀k,(bW P gl orc ops T0 m L k).length=T0.length
 |0=>rfl
 |k+1=>by
  cases h:ops[k]? with
  |none=>simp only[bW,h];exact Qen k
  |some o=>rw[Qdn h,wO];exact Qen k
def Qbi{L:List (Nat×AV)}{t:Nat}:∀k,(∀j,j<k->Vr ops j≠some t)->(bW P gl orc ops T0 m L (k)).getD t .junk=T0.getD t .junk
 |0,_=>rfl
 |k+1,h=>by
  cases ho:ops[k]? with
  |none=>simp only[bW,ho];exact Qbi k fun j hj=>h j zE
  |some o=>
   rw[Qdn ho,Qcj (by have:=h k zE;simpa[Vr,ho]using this)];exact Qbi k fun j hj=>h j zE
def jy{L:List (Nat×AV)}{t k:Nat}:∀n,(∀j,k<=j->j<k+n->Vr ops j≠some t)->(bW P gl orc ops T0 m L (k+n)).getD t .junk=(bW P gl orc ops T0 m L (k)).getD t .junk
 |0,_=>rfl
 |n+1,h=>by
  rw[<- zzao];cases ho:ops[k+n]? with
  |none=>simp only[bW,ho];exact jy n fun j h1 h2=>h j h1 zE
  |some o=>
   rw[Qdn ho,Qcj (by have:=h (k+n) zE zE;simpa[Vr,ho]using this)];exact jy n fun j h1 h2=>h j h1 zE
def pn(P:Program)(gl:Nat->AV)(orc:Nat->FuncId->List AV->AV)(ops:Array Oper)(T0:List AV)(m:AM)(L:List (Nat×AV))(p:Nat)(listed:Array Bool)(t:Nat):AV:=
 if wr ops p listed t then(bW P gl orc ops T0 m L (p)).getD t .junk else T0.getD t .junk
def aj5{L:List (Nat×AV)}(hc:zw ops p=true){listed:Array Bool}(hsz:listed.size=ops.size){i:Nat}{o:Oper}(ho:ops[i]?=some o)(dJ:i<p)(hu:listed.getD i true=false)(bV:∀j∈Zb o,listed.getD j false=true)
  {t:Nat}(ht:t∈o.looksAt ops):(bW P gl orc ops T0 m L (i)).getD t .junk=pn P gl orc ops T0 m L p listed t:=by
 have hi:i<ops.size:=(zzby.1 ho).1;obtain⟨hp,cU⟩:=Zq hc;unfold pn;by_cases hex:∃j,j<p/\Vr ops j=some t/\j≠i
 ·obtain⟨j,hj,hd,aM⟩:=hex;obtain⟨AT,hja⟩:=((cU i o ho).2.1 dJ).1 t ht j hj hd aM
  have hw:wr ops p listed t=true:=by
   unfold wr;rw[zzbx];exact⟨j,zzbb.2 hj,by rw[bV j hja,hd];simp⟩
  rw[if_pos hw]
  have:=jy (P:=P) (gl:=gl) (orc:=orc) (ops:=ops) (T0:=T0) (m:=m) (L:=L) (t:=t) (k:=i) (p-i) fun k dw dD OJ=>by
   have hk:k<ops.size:=zE
   have OK:ops[k]?=some ops[k]:=zzaj hk;have:=((cU k _ OK).2.1 zE).2 j zE t hd;simp[Vr,OK]at OJ;exact this OJ
  rw[show i+(p-i)=p by omega]at this;exact this.symm
 have hw:wr ops p listed t=false:=by
  unfold wr;rw[zzec];intro j hj;simp only[zzak,beq_iff_eq,not_and];intro hl hd;by_cases AT:j=i
  ·subst AT;rw[Qz zE false true,hu]at hl;cases hl
  exact hex ⟨j,zzbb.1 hj,hd,AT⟩
 rw[hw];simp only[zzbp,if_false];exact Qbi i fun j hj hd=>hex ⟨j,zE,hd,zE⟩
def Dc{L:List (Nat×AV)}(hc:zw ops p=true){listed:Array Bool}(hsz:listed.size=ops.size){i:Nat}{o:Oper}(ho:ops[i]?=some o)(dJ:i<p){t:Nat}:
  pn P gl orc ops T0 m L p (listed.setIfInBounds i true) t=if o.dst=some t/\t<T0.length then Db P gl orc ops m L i (bW P gl orc ops T0 m L i)else pn P gl orc ops T0 m L p listed t:=by
 have hi:i<ops.size:=(zzby.1 ho).1;obtain⟨hp,cU⟩:=Zq hc;by_cases hd:o.dst=some t
 ·have hw:wr ops p (listed.setIfInBounds i true) t=true:=by
   unfold wr;rw[zzbx];exact⟨i,zzbb.2 dJ,by rw[Xu zE];simp[Vr,ho,hd]⟩
  have hl:=jy (P:=P) (gl:=gl) (orc:=orc) (ops:=ops) (T0:=T0) (m:=m) (L:=L) (t:=t) (k:=i+1) (p-(i+1)) fun k dw dD OJ=>by
   have hk:k<ops.size:=zE
   have OK:ops[k]?=some ops[k]:=zzaj hk;have:=((cU k _ OK).2.1 zE).2 i zE t (by simp[Vr,ho,hd]);simp[Vr,OK]at OJ;exact this OJ
  rw[show i+1+(p-(i+1))=p by omega]at hl;by_cases ht:t<T0.length
  ·rw[if_pos ⟨hd,ht⟩];unfold pn;rw[if_pos hw,hl,Qdn ho,hd];exact mH (by rw[Qen];exact ht)
  rw[if_neg (by simp[ht])]
  have h1:∀k,(bW P gl orc ops T0 m L (k)).getD t .junk=.junk:=fun k=>by
   have:=Qen (P:=P) (gl:=gl) (orc:=orc) (ops:=ops) (T0:=T0) (m:=m) (L:=L) k;simp only[List.getD];rw[zzaw zE];rfl
  have h2:T0.getD t .junk=.junk:=h1 0;unfold pn;rw[h1 p,h2];simp
 rw[if_neg (by simp[hd])]
 have hw:wr ops p (listed.setIfInBounds i true) t=wr ops p listed t:=by
  unfold wr;congr 1;funext j;by_cases hj:j=i
  ·subst hj;have hb:(o.dst==some t)=false:=by simpa using hd
   simp[Vr,ho,hb]
  rw[Qu hj]
 unfold pn;rw[hw]
structure rB (N:Nat) (w0:fF) (r:Option Nat) (aq:Nat->Nat->Prop) (S:G×World) (Y:YT) (P:Program) (gl:Nat->AV) (orc:Nat->FuncId->List AV->AV) (ops:Array Oper) (T0:List AV) (m:AM) (ms:List (AV×AM)) (js:List Nat) (L:List (Nat×AV)) (p:Nat) (listed:Array Bool) (γ:G) (w:World) (a:Act):Prop where
 size:listed.size=ops.size
 tail:∀i,p<=i->i<ops.size->listed.getD i true=false
 ch:chn listed js
 clo:∀i o,listed.getD i false=true->ops[i]?=some o->∀j∈Zb o,listed.getD j false=true
 mm:au N w0 aq γ w (Uh listed m js ms).B (Uh listed m js ms).L
 ls:cZ γ w (Uh listed m js ms)
 rd:Rdr r γ w
 tl:a.tmps.size=T0.length
 tt:∀t,aC w γ (pn P gl orc ops T0 m L p listed t) (a.tmps.getD t undef)
 d:Dfr S.2.heap.size γ w a.defers
 g:∀g,aC w γ.cT (gl g) (.pointer (some ⟨g,0,none⟩))
 y:YOK N w0 aq P Y γ w
 e:eP S.2 S.1 w γ
def FU:∀(js:List Nat)(ms:List (AV×AM))(d:Nat),d ∉ js->Le (Xc js ms) d=none
 |[],_,_,_=>rfl
 |_::_,[],_,_=>rfl
 |j::js,x::q,d,h=>by
  simp only[Xc,Le];rw[if_neg (by rintro rfl;exact h zd)];exact FU js q d fun h'=>h (by simp[h'])
def FV:∀(js:List Nat)(ms:List (AV×AM))(a i:Nat)(x:AV×AM),js.Nodup->js[a]?=some i->ms[a]?=some x->Le (Xc js ms) i=some x.1
 |[],_,_,_,_,_,h,_=>by simp at h
 |_::_,[],_,_,_,_,_,h=>by simp at h
 |j::js,y::q,0,i,x,_,h,hx=>by
  simp at h hx;subst h;subst hx;simp only[Xc,Le,if_true]
 |j::js,y::q,a+1,i,x,hn,h,hx=>by
  have qB:=List.nodup_cons.1 hn;have h':js[a]?=some i:=by simpa using h
  simp only[Xc,Le];rw[if_neg (by rintro rfl;exact qB.1 (zzac h'))];exact FV js q a i x qB.2 h' (by simpa using hx)
def jH{js:List Nat}{ms:List (AV×AM)}{a i:Nat}{x:AV×AM}(hn:js.Nodup)(h:js[a]?=some i)(hx:ms[a]?=some x)(T:List AV):Db P gl orc ops m (Xc js ms) i T=x.1:=by
 unfold Db;rw[FV js ms a i x hn h hx]
def pq{js:List Nat}{ms:List (AV×AM)}{i:Nat}{o:Oper}(h:i ∉ js)(ho:ops[i]?=some o)(T:List AV):Db P gl orc ops m (Xc js ms) i T=(rop P gl orc (ev gl T) m o.dst (tr P o)).2:=by
 unfold Db;rw[FU js ms i h,ho]
def wU{γ:G}{w:World}{a:Act}{o:Oper}{T:List AV}(wV:Ya T (Xm P ops o))(zP:∀t∈o.looksAt ops,aC w γ (T.getD t .junk) (a.tmps.getD t undef)):Region.wanted o (yielded ops a.tmps)=true:=by
 cases hg:o.guard with
 |none=>simp[Region.wanted,hg]
 |some jw=>
  obtain⟨j,want⟩:=jw;have e1:(Xm P ops o).guard=some ((ops[j]?).bind (·.dst),want):=by simp[Xm,hg]
  unfold Ya at wV;rw[e1]at wV;cases hj:(ops[j]?).bind (·.dst)with
  |none=>rw[hj]at wV;exact wV.elim
  |some t=>
   rw[hj]at wV;simp only at wV;have iR:t∈o.looksAt ops:=by simp[Oper.looksAt,hg,hj]
   have aT:=zP t iR;rw[wV]at aT;have hb:=aT.bB
   have ck:t<a.tmps.size:=by
    rcases zzaa t a.tmps.size with h|h
    ·exact h
    simp[zzcv h,undef]at hb
   simp[ck]at hb;have hy:yielded ops a.tmps j=some want:=by simp only[yielded,hj,zzbz,zzaj ck,hb]
   simp only[Region.wanted,hg,hy];cases want<;>rfl
def Qcn{ms:List (AV×AM)}{js:List Nat}(hc:zw ops p=true){Q:Exit->Act->World->Prop}{listed:Array Bool}{γ:G}{w:World}{a:Act}
  (hI:rB N w0 r aq S Y P gl orc ops T0 m ms js (Xc js ms) p listed γ w a){i:Nat}{o:Oper}(ho:ops[i]?=some o)(dJ:i<p)(wV:Ya (bW P gl orc ops T0 m (Xc js ms) i) (Xm P ops o))(aH:js.length=ms.length)(qC:js.Nodup)
  (hu:listed.getD i true=false)(bV:∀j∈Zb o,listed.getD j false=true)(jI:∀a j,js[a]?=some j->js[a+1]?=some i->listed.getD j false=true)
  (aM:i ∉ js->((rop P gl orc (ev gl (bW P gl orc ops T0 m (Xc js ms) i)) m o.dst (tr P o)).1/\(mJ ops js i=false->∀x∈ms,rop P gl orc (ev gl (bW P gl orc ops T0 m (Xc js ms) i)) x.2 o.dst (tr P o)=rop P gl orc (ev gl (bW P gl orc ops T0 m (Xc js ms) i)) m o.dst (tr P o)))\/(rdC P gl orc Y (ev gl (bW P gl orc ops T0 m (Xc js ms) i)) m o.dst m (tr P o)/\∀x∈ms,rdC P gl orc Y (ev gl (bW P gl orc ops T0 m (Xc js ms) i)) m o.dst x.2 (tr P o)))
  (A5:∀k x,js[k]?=some i->ms[k]?=some x->effC P gl orc Y (ev gl (bW P gl orc ops T0 m (Xc js ms) i)) (Vw m ms k) o.dst x.1 x.2 (tr P o)):
  wpOpIn (FW r) 0 P ops Q i (fun a' w'=>∃γ',rB N w0 r aq S Y P gl orc ops T0 m ms js (Xc js ms) p (listed.setIfInBounds i true) γ' w' a'/\∀t,o.dst≠some t->a'.tmps.getD t undef=a.tmps.getD t undef) a w:=by
 have hi:i<ops.size:=(zzby.1 ho).1;have fO:i<listed.size:=by rw[hI.size];exact hi
 have zP:∀t∈o.looksAt ops,aC w γ ((bW P gl orc ops T0 m (Xc js ms) i).getD t .junk) (a.tmps.getD t undef):=fun t ht=>by
  rw[aj5 (P:=P) (gl:=gl) (orc:=orc) (T0:=T0) (m:=m) (L:=Xc js ms) hc hI.size ho dJ hu bV ht];exact hI.tt t
 have eR:∀x∈o.op.operands,aC w γ (ev gl (bW P gl orc ops T0 m (Xc js ms) i) (aB x)) (a.eval x):=fun x hx=>by
  cases x with
  |tmp t=>exact zP t (by simp only[Oper.looksAt,zzam,zzfn];exact .inl ⟨.tmp t,by simpa using hx,rfl⟩)
  |const v=>exact Ke w γ v
  |func f=>exact .fn rfl (fun i c v h=>by simp at h) rfl fun i c v h=>by simp at h
  |global g=>exact(hI.g g).gK
 have fQ:chn (listed.setIfInBounds i true) js:=uN hI.ch fun a j h1 h2=>jI a j h1 h2;have hpr:FP ops (listed.setIfInBounds i true):=FP.set hI.clo ho fO bV
 have fin:∀{v:Value}{w':World}{γ':G},eP w γ w' γ'->au N w0 aq γ' w' (Uh (listed.setIfInBounds i true) m js ms).B (Uh (listed.setIfInBounds i true) m js ms).L->cZ γ' w' (Uh (listed.setIfInBounds i true) m js ms)->
   aC w' γ' (Db P gl orc ops m (Xc js ms) i (bW P gl orc ops T0 m (Xc js ms) i)) v->∃γ',rB N w0 r aq S Y P gl orc ops T0 m ms js (Xc js ms) p (listed.setIfInBounds i true) γ' w' (a.put o.dst v)/\∀t,o.dst≠some t->(a.put o.dst v).tmps.getD t undef=a.tmps.getD t undef:=fun{v w' γ'}he hm hl hr=>by
  have aw9:∀t,o.dst≠some t->(a.put o.dst v).tmps.getD t undef=a.tmps.getD t undef:=fun t hd=>by
   cases zK:o.dst with
   |none=>rfl
   |some d=>simp only[Act.put];simp;rw[zzcs (by rintro rfl;exact hd zK)]
  refine⟨γ',⟨by simp[hI.size],fun j ek oD=>by rw[Qu zE];exact hI.tail j ek oD,fQ,hpr,hm,hl,hI.rd.aW he,?_,fun t=>?_,?_,fun g=>(hI.g g).aW he.cT,hI.y.mono he,hI.e.trans he⟩,aw9⟩
  ·cases hd:o.dst<;>simp[Act.put,hI.tl]
  ·rw[Dc hc hI.size ho dJ];by_cases hd:o.dst=some t
   ·by_cases ht:t<T0.length
    ·rw[if_pos ⟨hd,ht⟩,hd];have:(a.put (some t) v).tmps.getD t undef=v:=by simp[Act.put,hI.tl,ht]
     rw[this];exact hr
    rw[if_neg (by simp[ht]),hd];have:(a.put (some t) v).tmps.getD t undef=a.tmps.getD t undef:=by simp[Act.put,hI.tl,ht]
    rw[this];exact(hI.tt t).aW he
   rw[if_neg (by simp[hd])]
   have:(a.put o.dst v).tmps.getD t undef=a.tmps.getD t undef:=by
    cases zK:o.dst with
    |none=>rfl
    |some d=>simp only[Act.put];simp;rw[zzcs (by rintro rfl;exact hd zK)]
   rw[this];exact(hI.tt t).aW he
  cases hd:o.dst<;>exact hI.d.aW he
 simp only[wpOpIn,ho];have hw:Region.wanted o (yielded ops a.tmps)=true:=wU wV zP;rw[if_pos hw];by_cases eE:i∈js
 ·obtain⟨k,hk⟩:=zzc.1 eE;have sI:k<ms.length:=by rw[<- aH];exact(zza.1 hk).1
  obtain⟨x,hx⟩:∃x,ms[k]?=some x:=⟨ms[k],zzae sI⟩;have h1:=A5 k x hk hx;have h2:=jH (P:=P) (gl:=gl) (orc:=orc) (ops:=ops) (m:=m) qC hk hx (bW P gl orc ops T0 m (Xc js ms) i);have RK:listed.getD i false=false:=by rw[Qz fO false true];exact hu
  have Dd:∀b j,b<k->js[b]?=some j->listed.getD j false=true:=fun b j hb hj=>by
   have mM:k-1<js.length:=by have:=(zza.1 hk).1;omega
   obtain⟨j1,ek⟩:∃j1,js[k-1]?=some j1:=⟨js[k-1],zzae mM⟩;have ez:=jI (k-1) j1 ek (by rw[show k-1+1=k by omega];exact hk);rcases zzaa b (k-1)with h|h
   ·exact Qbu hI.ch h hj ek ez
   obtain rfl:b=k-1:=zE
   rw[hj]at ek;cases ek;exact ez
  have JK:Uh listed m js ms=Vw m ms k:=Jf aH (by have:=(zza.1 hk).1;omega) Dd (fun j hj=>by rw[hk]at hj;cases hj;exact RK)
  have oG:Uh (listed.setIfInBounds i true) m js ms=x.2:=by
   have:=Jf (listed:=listed.setIfInBounds i true) (m:=m) (a:=k+1) aH (by have:=(zza.1 hk).1;omega) (fun b j hb hj=>?_) (fun j hj=>?_)
   ·rw[this];simp[Vw,List.getD,hx]
   ·rcases zzaa b k with h|h
    ·have eF:j≠i:=by
      rintro rfl;have:=Jd qC hj hk;omega
     rw[Qu eF];exact Dd b j h hj
    obtain rfl:b=k:=zE
    rw[hk]at hj;cases hj;exact Xu fO
   have eF:j≠i:=by
    rintro rfl;have:=Jd qC hj hk;omega
   rw[Qu eF];cases hl:listed.getD j false with
   |false=>rfl
   |true=>rw[Qbu hI.ch (zzft k) hk hj hl]at RK;cases RK
  rw[oG,h2]at fin;have gm:=hI.mm;have gN:=hI.ls;rw[JK]at gm gN
  have zQ:fc N w0 r aq S P gl Y γ w ⟨(List.range T0.length).map fun t=>pn P gl orc ops T0 m (Xc js ms) p listed t,Vw m ms k⟩ a:=by
   refine⟨gm,gN,hI.rd,⟨by simp[hI.tl],fun t x v hx hv=>?_⟩,hI.d,hI.g,hI.y,hI.e⟩
   ·have ai:t<T0.length:=by
     rcases zzaa t T0.length with h|h
     ·exact h
     simp[zzbo.2 h]at hx
    simp[ai]at hx;have:=hI.tt t;rw[hx]at this;have CX:a.tmps.getD t undef=v:=by simp at hv;simp[hv]
    rwa [CX]at this
  have mem:∀so,tr P o=so->memEff so=true->((sop P gl orc (ev gl (bW P gl orc ops T0 m (Xc js ms) i)) (Vw m ms k) o.dst so).1/\x.1=effV (sop P gl orc (ev gl (bW P gl orc ops T0 m (Xc js ms) i)) (Vw m ms k) o.dst so).2.1 so/\x.2=(sop P gl orc (ev gl (bW P gl orc ops T0 m (Xc js ms) i)) (Vw m ms k) o.dst so).2.2)->
    o.wpIn (FW r) 0 P a w (fun a' w'=>∃γ',rB N w0 r aq S Y P gl orc ops T0 m ms js (Xc js ms) p (listed.setIfInBounds i true) γ' w' a'/\∀t,o.dst≠some t->a'.tmps.getD t undef=a.tmps.getD t undef) Q:=fun so X6 _⟨k1,k2,k3⟩=>by
   refine Ba (orc:=orc) (K:=fun av' m'=>x.1=effV av' so/\m'=x.2) gm hI.g eR ⟨by rw[X6];exact k1,by rw[X6];exact⟨k2,k3.symm⟩⟩ r _ Q fun v w' γ' av' m' hK h3 h4 h5 h6=>?_;obtain⟨hK1,rfl⟩:=hK;refine fin h4.cK h5 (gN.mono' h4 h3) ?_;rw[hK1];unfold effV;split<;>first|exact h6|exact .junk _
  cases JL:tr P o with
  |call f args=>
   rw[JL]at h1
   have oV:Qcc P gl Y (ev gl (bW P gl orc ops T0 m (Xc js ms) i)) (Vw m ms k) (fun y m2=>y=x.1/\m2=x.2) (tr P o):=by
    rw[JL];simp only[effC]at h1;simp only[Qcc];split at h1
    ·rename_i g first cap bT;simp only[bT];exact h1
    exact h1.elim
   refine Qdm zQ eR oV fun v w' γ' av' m' hK h3 h4 h5 h6=>?_;obtain⟨rfl,rfl⟩:=hK;exact fin h3 h4 h5 h6
  |_=>rw[JL]at h1;first|exact mem _ JL h1.1 h1.2|exact absurd h1.1 (by simp[memEff])
 rcases aM eE with⟨h1,h2⟩|fL
 ·have bY:Uh (listed.setIfInBounds i true) m js ms=Uh listed m js ms:=rA fun j hj=>Qu (by rintro rfl;exact eE hj);rw[bY]at fin;have gm:=hI.mm;have gN:=hI.ls
  have arO:rop P gl orc (ev gl (bW P gl orc ops T0 m (Xc js ms) i)) (Uh listed m js ms) o.dst (tr P o)=rop P gl orc (ev gl (bW P gl orc ops T0 m (Xc js ms) i)) m o.dst (tr P o):=by
   cases jh:mJ ops js i with
   |false=>
    rcases wR listed js ms m with h|⟨x,hx,h⟩
    ·rw[h]
    rw[h];exact h2 jh x hx
   |true=>
    have JK:Uh listed m js ms=m:=by
     cases js with
     |nil=>cases ms<;>rfl
     |cons j0 js=>
      simp only[mJ]at jh
      have hn:listed.getD j0 false=false:=by
       cases hl:listed.getD j0 false with
       |false=>rfl
       |true=>
        have:=uL (ops:=ops) (listed:=listed) hI.clo j0 [j0] (fun k hk=>by rw[zzbd.1 hk];exact hl) i (by simpa using jh);rw[Qz fO false true,hu]at this;cases this
      cases ms with
      |nil=>rfl
      |cons x q=>simp only[Uh,hn];rfl
    rw[JK]
  generalize Uh listed m js ms=mL at*
  refine Qde (m:=mL) gm (fun _ _ h=>h) hI.g eR (by rw[arO];exact h1) r _ Q fun v w' γ' q1 q2 q3=>?_;rw[arO]at q3;exact fin q1.cK q2 (gN.mono q1) (by rw[pq eE ho];exact q3)
 have bY:Uh (listed.setIfInBounds i true) m js ms=Uh listed m js ms:=rA fun j hj=>Qu (by rintro rfl;exact eE hj);rw[bY]at fin;have gm:=hI.mm;have gN:=hI.ls
 have hL:rdC P gl orc Y (ev gl (bW P gl orc ops T0 m (Xc js ms) i)) m o.dst (Uh listed m js ms) (tr P o):=by
  rcases wR listed js ms m with h|⟨x,hx,h⟩
  ·rw[h];exact fL.1
  rw[h];exact fL.2 x hx
 generalize Uh listed m js ms=mL at*
 have zQ:fc N w0 r aq S P gl Y γ w ⟨(List.range T0.length).map fun t=>pn P gl orc ops T0 m (Xc js ms) p listed t,mL⟩ a:=by
  refine⟨gm,gN,hI.rd,⟨by simp[hI.tl],fun t x v hx hv=>?_⟩,hI.d,hI.g,hI.y,hI.e⟩
  ·have ai:t<T0.length:=by
    rcases zzaa t T0.length with h|h
    ·exact h
    simp[zzbo.2 h]at hx
   simp[ai]at hx;have:=hI.tt t;rw[hx]at this;have CX:a.tmps.getD t undef=v:=by simp at hv;simp[hv]
   rwa [CX]at this
 cases JL:tr P o with
 |call f args=>
  rw[JL]at hL
  have oV:Qcc P gl Y (ev gl (bW P gl orc ops T0 m (Xc js ms) i)) mL (fun y m2=>y=(rop P gl orc (ev gl (bW P gl orc ops T0 m (Xc js ms) i)) m o.dst (.call f args)).2/\m2=mL) (tr P o):=by
   rw[JL];simp only[rdC]at hL;simp only[Qcc];split at hL
   ·rename_i g first cap bT;simp only[bT];exact hL
   exact hL.elim
  refine Qdm zQ eR oV fun v w' γ' av' m' hK h3 h4 h5 h6=>?_;obtain⟨rfl,rfl⟩:=hK;exact fin h3 h4 h5 (by rw[pq eE ho,JL];exact h6)
 |_=>rw[JL]at hL;exact(show False from hL).elim
def uO:∀{js:List Nat},RL ops js=true->∀a j j' o,js[a]?=some j->js[a+1]?=some j'->ops[j']?=some o->j∈Zb o
 |[],_,a,j,j',o,h,_,_=>by simp at h
 |[x],_,a,j,j',o,h,h',_=>by
  have:=(zza.1 h').1;simp at this
 |x::y::r,hc,0,j,j',o,h,h',ho=>by
  simp at h h';subst h;subst h';simp only[RL,zzak,ho]at hc;simpa using hc.1
 |x::y::r,hc,a+1,j,j',o,h,h',ho=>by
  simp only[RL,zzak]at hc;exact uO hc.2 a j j' o (by simpa using h) (by simpa using h') ho
def Qcm{js:List Nat}(h:nI ops p=some js):js=(List.range p).filter (eH ops Da)/\RL ops js=true/\∀i,i<p->∃o,ops[i]?=some o:=by
 unfold nI at h;simp only at h;split at h
 case isFalse=>cases h
 rename_i bF;cases h;simp only[zzak]at bF;refine⟨rfl,bF.1.1.2,fun i hi=>?_⟩;have h1:=zzbh.1 bF.2 i (zzbb.2 hi);exact zzci.1 h1
def fC(ops:Array Oper)(k:Nat):Nat:=((List.range k).filter (eH ops Da)).length
def FX(k:Nat):fC ops (k+1)=fC ops k+(if eH ops Da k=true then 1 else 0):=by
 simp only[fC,zzfi,zzct,zzai];cases h:eH ops Da k<;>simp[h]
def Ys{i:Nat}(hi:i<p)(hd:eH ops Da i=true):((List.range p).filter (eH ops Da))[fC ops i]?=some i:=by
 obtain⟨n,rfl⟩:∃n,p=i+(n+1):=⟨p-i-1,zE⟩;rw[List.range_add,zzct];have hl:fC ops i=((List.range i).filter (eH ops Da)).length:=rfl;rw[hl,zzal (zzab _),zzhi,zzay,zzcq,zzdg hd];simp
def ON{ms:List (AV×AM)}{js:List Nat}(l2:List SO)(K:AS->Prop)(hp:p<=ops.size)(o8:js=(List.range p).filter (eH ops Da)):∀(n k:Nat)(mc:AM),k+n=p->fC ops k<=ms.length->mc=Vw m ms (fC ops k)->
  iF P gl orc Y l2 K m ms (((ops.toList.take p).drop k).map (Xm P ops)) ((flags ops p js).drop k) (ms.drop (fC ops k)) mc (bW P gl orc ops T0 m (Xc js ms) k)->
  js.length=ms.length/\
  (
   ∀i o,k<=i->i<p->ops[i]?=some o->
   (i ∉ js->((rop P gl orc (ev gl (bW P gl orc ops T0 m (Xc js ms) i)) m o.dst (tr P o)).1/\(mJ ops js i=false->∀x∈ms,rop P gl orc (ev gl (bW P gl orc ops T0 m (Xc js ms) i)) x.2 o.dst (tr P o)=rop P gl orc (ev gl (bW P gl orc ops T0 m (Xc js ms) i)) m o.dst (tr P o)))\/(rdC P gl orc Y (ev gl (bW P gl orc ops T0 m (Xc js ms) i)) m o.dst m (tr P o)/\∀x∈ms,rdC P gl orc Y (ev gl (bW P gl orc ops T0 m (Xc js ms) i)) m o.dst x.2 (tr P o)))/\
   (∀b x,js[b]?=some i->ms[b]?=some x->effC P gl orc Y (ev gl (bW P gl orc ops T0 m (Xc js ms) i)) (Vw m ms b) o.dst x.1 x.2 (tr P o))/\Ya (bW P gl orc ops T0 m (Xc js ms) i) (Xm P ops o))/\
  Zy P gl orc Y l2 ⟨(bW P gl orc ops T0 m (Xc js ms) p),Vw m ms ms.length⟩ K:=by
 have dU:∀j,j∈js<->j<p/\eH ops Da j=true:=fun j=>by rw[o8,zzcg,zzbb]
 have qC:js.Nodup:=by rw[o8];exact(zzdl).filter _
 have TV:∀i,i<p->eH ops Da i=true->js[fC ops i]?=some i:=fun i h1 h2=>by rw[o8];exact Ys h1 h2
 have YA:∀{a b i:Nat},js[a]?=some i->js[b]?=some i->a=b:=fun{a b i}h1 h2=>Jd qC h1 h2;intro n;induction n with
 |zero=>
  intro k mc hk oF XX h;obtain rfl:k=p:=zE
  have e0:(ops.toList.take k).drop k=[]:=zzan (by simp;omega);rw[e0]at h;simp only[zzcc,iF]at h;have fN:ms.length<=fC ops k:=zzfx.1 h.1;have zJ:fC ops k=js.length:=by rw[o8];rfl
  have hcc:fC ops k=ms.length:=zE
  refine⟨zE,fun i o h1 h2=>zE,?_⟩;rw[<- hcc,<- XX];exact h.2
 |succ n ih=>
  intro k mc hk oF XX h;have ck:k<ops.size:=zE
  have ho:ops[k]?=some ops[k]:=zzaj ck
  have hd:(ops.toList.take p).drop k=ops[k]::(ops.toList.take p).drop (k+1):=by
   rw[zzaf (by simp;omega)];simp
  have eG:(flags ops p js).drop k=Jv ops js k::(flags ops p js).drop (k+1):=by
   rw[zzaf (by simp[flags];omega)];simp[flags]
  rw[hd,eG,zzay]at h;have X1:=Qdn (P:=P) (gl:=gl) (orc:=orc) (T0:=T0) (m:=m) (L:=Xc js ms) ho;have e2:(Xm P ops ops[k]).op=tr P ops[k]:=rfl;have e3:(Xm P ops ops[k]).dst=ops[k].dst:=rfl;have qZ:=FX (ops:=ops) k;cases kY:js.contains k with
  |true=>
   have RM:k∈js:=by simpa using kY
   have De:=((dU k).1 RM).2;rw[De,if_pos rfl]at qZ;rw[show Jv ops js k=.eff by simp only[Jv,kY,cond_true]]at h;simp only[iF,e2,e3]at h;split at h
   ·exact h.elim
   rename_i x q hq
   have axa:fC ops k<ms.length:=by
    rcases zzaa (fC ops k) ms.length with h'|h'
    ·exact h'
    rw[zzan h']at hq;cases hq
   have hx:ms[fC ops k]?=some x:=by
    have:(ms.drop (fC ops k))[0]?=some x:=by rw[hq];rfl
    simpa using this
   have Rl:ms.drop (fC ops (k+1))=q:=by
    rw[qZ,<- zzdx,hq];rfl
   obtain⟨hgr,h1,h2⟩:=h;have zu:=TV k zE De;have dm:=jH (P:=P) (gl:=gl) (orc:=orc) (ops:=ops) (m:=m) qC zu hx (bW P gl orc ops T0 m (Xc js ms) k);rw[dm]at X1
   obtain⟨r1,r2,r3⟩:=ih (k+1) x.2 zE zE (by rw[qZ];simp[Vw,List.getD,hx]) (by
    rw[X1,Rl];exact h2)
   refine⟨r1,fun i o hi dJ C6=>?_,r3⟩;rcases zzaa k i with fP|fP
   ·exact r2 i o fP dJ C6
   obtain rfl:i=k:=zE
   rw[ho]at C6;cases C6;refine⟨fun h=>absurd RM h,fun b y hb hy=>?_,hgr⟩;obtain rfl:=YA hb zu;rw[hx]at hy;cases hy;rw[<- XX];exact h1
  |false=>
   have RM:k ∉ js:=by simpa using kY
   have De:eH ops Da k=false:=by
    cases FY:eH ops Da k with
    |false=>rfl
    |true=>exact absurd ((dU k).2 ⟨zE,FY⟩) RM
   rw[De,if_neg zd,zzcq]at qZ
   obtain⟨hgr,h1,h3⟩:Ya (bW P gl orc ops T0 m (Xc js ms) k) (Xm P ops ops[k])/\(((rop P gl orc (ev gl (bW P gl orc ops T0 m (Xc js ms) k)) m ops[k].dst (tr P ops[k])).1/\(mJ ops js k=false->∀x∈ms,rop P gl orc (ev gl (bW P gl orc ops T0 m (Xc js ms) k)) x.2 ops[k].dst (tr P ops[k])=rop P gl orc (ev gl (bW P gl orc ops T0 m (Xc js ms) k)) m ops[k].dst (tr P ops[k])))\/(rdC P gl orc Y (ev gl (bW P gl orc ops T0 m (Xc js ms) k)) m ops[k].dst m (tr P ops[k])/\∀x∈ms,rdC P gl orc Y (ev gl (bW P gl orc ops T0 m (Xc js ms) k)) m ops[k].dst x.2 (tr P ops[k])))/\
     iF P gl orc Y l2 K m ms (((ops.toList.take p).drop (k+1)).map (Xm P ops)) ((flags ops p js).drop (k+1)) (ms.drop (fC ops k)) mc (put (bW P gl orc ops T0 m (Xc js ms) k) ops[k].dst (rop P gl orc (ev gl (bW P gl orc ops T0 m (Xc js ms) k)) m ops[k].dst (tr P ops[k])).2):=by
    cases jh:mJ ops js k with
    |true=>
     rw[show Jv ops js k=.pre by simp only[Jv,kY,jh,cond_true,cond_false]]at h;simp only[iF,e2,e3]at h;exact⟨h.1,.inl ⟨h.2.1,fun h=>(by cases h)⟩,h.2.2⟩
    |false=>
     rw[show Jv ops js k=.oth by simp only[Jv,kY,jh,cond_false]]at h;simp only[iF,e2,e3]at h;exact⟨h.1,h.2.1.imp_left fun h=>⟨h.1,fun _=>h.2⟩,h.2.2⟩
   rw[pq RM ho]at X1;obtain⟨r1,r2,r3⟩:=ih (k+1) mc zE zE (by rw[qZ];exact XX) (by rw[X1,qZ];exact h3);refine⟨r1,fun i o hi dJ C6=>?_,r3⟩;rcases zzaa k i with fP|fP
   ·exact r2 i o fP dJ C6
   obtain rfl:i=k:=zE
   rw[ho]at C6;cases C6;refine⟨fun _=>h1,fun b y hb=>absurd (zzac hb) RM,hgr⟩
def sJ{Q:Exit->Act->World->Prop}{K:AS->Prop}{γ:G}{w:World}{s:AS}{a:Act}{js:List Nat}(hQ:∀γ w s a,K s->fc N w0 r aq S P gl Y γ w s a->Q .normal a w)(hc:zw ops p=true)(hj:nI ops p=some js)
  {ms:List (AV×AM)}(h:iF P gl orc Y ((ops.toList.drop p).map (Xm P ops)) K s.m ms ((ops.toList.take p).map (Xm P ops)) (flags ops p js) ms s.m s.T)(hs:fc N w0 r aq S P gl Y γ w s a):
  wpAnyIn (FW r) 0 P .any ops Q ops.size (Array.replicate ops.size false) a {w with drawn:=w.drawn+1}:=by
 obtain⟨hp,cU⟩:=Zq hc;obtain⟨o8,hjc,pz⟩:=Qcm hj;have qC:js.Nodup:=by rw[o8];exact(zzdl).filter _
 have Df:∀j∈js,j<p:=fun j h=>by rw[o8,zzcg]at h;exact zzbb.1 h.1
 obtain⟨aH,h1,h2⟩:=ON (P:=P) (gl:=gl) (orc:=orc) (T0:=s.T) (m:=s.m) ((ops.toList.drop p).map (Xm P ops)) K hp o8 p 0 s.m zd (by simp[fC]) (by simp[fC,Vw]) (by simpa[bW,fC]using h)
 have full:∀(aX:Nat)(listed:Array Bool)(γ:G)(w:World)(a:Act),rB N w0 r aq S Y P gl orc ops s.T s.m ms js (Xc js ms) p listed γ w a->uc ops listed<=aX->(∀i,i<p->listed.getD i false=true)->wpAnyIn (FW r) 0 P .any ops Q aX listed a w:=by
  intro aX listed γ w a hI jx bF;have hml:Uh listed s.m js ms=Vw s.m ms ms.length:=Jf aH zE (fun b j _ hb=>bF j (Df j (zzac hb))) (fun j hj=>by rw[zzaw zE]at hj;cases hj);have gm:=hI.mm;have gN:=hI.ls;rw[hml]at gm gN;refine Qdz hQ hc aX p listed γ w _ a (zzab _) hp hI.size bF hI.tail jx h2 ⟨gm,gN,hI.rd,⟨?_,fun t x v hx hv=>?_⟩,hI.d,hI.g,hI.y,hI.e⟩
  ·simp[Qen,hI.tl]
  have h1:=hI.tt t
  have hAt:pn P gl orc ops s.T s.m (Xc js ms) p listed t=x:=by
   have iD:(bW P gl orc ops s.T s.m (Xc js ms) p).getD t .junk=x:=by simp only at hx;simp[List.getD,hx]
   unfold pn;split
   ·exact iD
   rename_i hw;rw[<- iD];refine(Qbi p fun j hj hd=>hw ?_).symm;unfold wr;rw[zzbx];exact⟨j,zzbb.2 hj,by rw[bF j hj,hd];simp⟩
  rw[hAt]at h1;have:a.tmps.getD t undef=v:=by simp at hv;simp[hv]
  rwa [this]at h1
 have main:∀(aX:Nat)(listed:Array Bool)(γ:G)(w:World)(a:Act),rB N w0 r aq S Y P gl orc ops s.T s.m ms js (Xc js ms) p listed γ w a->uc ops listed<=aX->wpAnyIn (FW r) 0 P .any ops Q aX listed a w:=by
  intro aX;induction aX with
  |zero=>
   intro listed γ w a hI jx
   exact full 0 listed γ w a hI jx fun i hi=>by
    rw[Qz (by rw[hI.size];omega) false true];exact Qdx (zzff.1 jx) zE
  |succ aX ih=>
   intro listed γ w a hI jx;by_cases bF:∀i,i<p->listed.getD i false=true
   ·exact full (aX+1) listed γ w a hI jx bF
   have hex:∃k,k<p/\listed.getD k true=false:=by
    refine Classical.byContradiction fun hn=>bF fun i hi=>?_;rw[Qz (by rw[hI.size];omega) false true];cases hl:listed.getD i true with
    |true=>rfl
    |false=>exact absurd ⟨i,hi,hl⟩ hn
   obtain⟨k,hk,X8⟩:=hex;refine⟨fun hr=>?_,fun i hi=>?_⟩
   ·obtain⟨j,hj⟩:=Ur hc hI.size k k (zzab _) zE X8;rw[hr]at hj;cases hj
   obtain⟨ai,hu,o,ho,bV⟩:=Us hc hi
   have dJ:i<p:=by
    rcases zzaa i p with h|h
    ·exact h
    have:=Qbk hI.clo ho ((cU i o ho).2.2 h) bV i k zE zE;rw[Qz (by rw[hI.size];omega) false true,X8]at this;cases this
   refine wpOpIn_mono ?_ (Qcn hc hI ho dJ (h1 i o (zzbt _) dJ ho).2.2 aH qC hu bV (fun a j e1 e2=>bV j (uO hjc a j i o e1 e2 ho)) (h1 i o (zzbt _) dJ ho).1 (h1 i o (zzbt _) dJ ho).2.1);rintro a' w' ⟨γ',gX,_⟩;refine ih _ γ' w' a' gX ?_;have:=jv hI.size ai hu;omega
 have rz:∀j,(Array.replicate ops.size false).getD j false=false:=fun j=>by
  rcases zzaa j ops.size with h|h<;>simp[h]
 have jI:∀YB:List Nat,chn (Array.replicate ops.size false) YB:=fun YB=>by
  induction YB with
  |nil=>trivial
  |cons j r ih=>
   cases r with
   |nil=>trivial
   |cons j' r=>exact⟨fun h=>(by rw[rz]at h;cases h),ih⟩
 have JK:Uh (Array.replicate ops.size false) s.m js ms=s.m:=Jf (a:=0) aH zE (fun b j hb=>zE) (fun j _=>rz j);refine main ops.size _ γ w.drew a ⟨zd,fun i _ hi=>by simp[hi],jI js,fun j o h=>(by rw[rz]at h;cases h),?_,?_,hs.rd.aW (Ev.drew w γ).cK,?_,fun t=>?_,hs.d.aW (Ev.drew w γ).cK,fun g=>(hs.g g).mono (Ev.drew w γ).cT,hs.y.mono (Ev.drew w γ).cK,hs.e.trans (Ev.drew w γ).cK⟩ ?_
 ·rw[JK];exact hs.m.drew
 ·rw[JK];exact hs.ls.mono (Ev.drew w γ)
 ·have:=hs.t.1;simp at this;omega
 ·have hw:wr ops p (Array.replicate ops.size false) t=false:=by
   unfold wr;rw[zzec];intro j _;rw[rz j];simp
  unfold pn;rw[hw];simp only[zzbp,if_false];have:=(hs.t.mono (Ev.drew w γ)).get t;simpa[List.getD]using this
 unfold uc;exact zzbg (zzev) zd
end
open Go
def wW(ops:Array Oper)(p:Nat)(js:List Nat):Bool:=match js.getLast? with
 |some j=>(List.range p).all fun i=>decide (i<=j)||(FT ops i [i]).contains j
 |none=>false
def bkF(ops:Array Oper)(p:Nat)(js:List Nat):List Fg:=bif wW ops p js then[.eff]else[]
def afh(fl:List Fg)(l:List SO):Bool:=!(fl.drop l.length).isEmpty
section
variable (P:Program) (gl:Nat->AV) (orc:Nat->FuncId->List AV->AV) (Y:YT)
def effR(e:bN->AV)(m:AM)(R:AV->AM->Prop):aF->Prop
 |.call f args=>(match e f with
  |.fn g first cap=>an P gl Y g (first++args.map e++cap) m R
  |_=>False)
 |_=>False
def lg(R:AV->AM->Prop)(l2:List SO)(K:AS->Prop)(m:AM)(ms:List (AV×AM)):List SO->List Fg->List (AV×AM)->AM->List AV->Prop
 |[],_,q,mc,T=>q=[]/\Zy P gl orc Y l2 ⟨T,mc⟩ K
 |_::_,[],_,_,_=>False
 |o::r,.eff::fl,q,mc,T=>(match q with
  |[]=>False
  |x::q=>Ya T o/\((q=[]->effR P gl Y (ev gl T) mc R o.op)/\(q≠[]->effC P gl orc Y (ev gl T) mc o.dst x.1 x.2 o.op))/\lg R l2 K m ms r fl q x.2 (put T o.dst x.1))
 |o::r,.pre::fl,q,mc,T=>Ya T o/\(rop P gl orc (ev gl T) m o.dst o.op).1/\lg R l2 K m ms r fl q mc (put T o.dst (rop P gl orc (ev gl T) m o.dst o.op).2)
 |o::r,.oth::fl,q,mc,T=>Ya T o/\(rop P gl orc (ev gl T) m o.dst o.op).1/\(∀x∈ms,rop P gl orc (ev gl T) x.2 o.dst o.op=rop P gl orc (ev gl T) m o.dst o.op)/\lg R l2 K m ms r fl q mc (put T o.dst (rop P gl orc (ev gl T) m o.dst o.op).2)
def jJ{l2:List SO}{K:AS->Prop}{m:AM}{ms:List (AV×AM)}{ex:List Fg}:∀{l:List SO}{fl:List Fg}{q:List (AV×AM)}{mc:AM}{T:List AV},fl.length=l.length->iF P gl orc Y l2 K m ms l (fl++ex) q mc T->iF P gl orc Y l2 K m ms l fl q mc T
 |[],[],q,mc,T,_,h=>by simpa only[iF]using h
 |[],_::_,_,_,_,hl,_=>by simp at hl
 |_::_,[],_,_,_,hl,_=>by simp at hl
 |o::r,.eff::fl,[],mc,T,hl,h=>by simp only[zzad,iF]at h
 |o::r,.eff::fl,x::q,mc,T,hl,h=>by
  simp only[zzad,iF]at h |-
  exact⟨h.1,h.2.1,jJ (by simpa using hl) h.2.2⟩
 |o::r,.pre::fl,q,mc,T,hl,h=>by
  simp only[zzad,iF]at h |-
  exact⟨h.1,h.2.1,jJ (by simpa using hl) h.2.2⟩
 |o::r,.oth::fl,q,mc,T,hl,h=>by
  simp only[zzad,iF]at h |-
  exact⟨h.1,h.2.1,jJ (by simpa using hl) h.2.2⟩
def pE{R:AV->AM->Prop}{l2:List SO}{K:AS->Prop}{m:AM}{ms:List (AV×AM)}{ex:List Fg}:∀{l:List SO}{fl:List Fg}{q:List (AV×AM)}{mc:AM}{T:List AV},fl.length=l.length->lg P gl orc Y R l2 K m ms l (fl++ex) q mc T->lg P gl orc Y R l2 K m ms l fl q mc T
 |[],[],q,mc,T,_,h=>by simpa only[lg]using h
 |[],_::_,_,_,_,hl,_=>by simp at hl
 |_::_,[],_,_,_,hl,_=>by simp at hl
 |o::r,.eff::fl,[],mc,T,hl,h=>by simp only[zzad,lg]at h
 |o::r,.eff::fl,x::q,mc,T,hl,h=>by
  simp only[zzad,lg]at h |-
  exact⟨h.1,h.2.1,pE (by simpa using hl) h.2.2⟩
 |o::r,.pre::fl,q,mc,T,hl,h=>by
  simp only[zzad,lg]at h |-
  exact⟨h.1,h.2.1,pE (by simpa using hl) h.2.2⟩
 |o::r,.oth::fl,q,mc,T,hl,h=>by
  simp only[zzad,lg]at h |-
  exact⟨h.1,h.2.1,h.2.2.1,pE (by simpa using hl) h.2.2.2⟩
end
section
variable {N:Nat} {w0:fF} {r:Option Nat} {aq:Nat->Nat->Prop} {S:G×World} {Y:YT} {P:Program} {gl:Nat->AV} {orc:Nat->FuncId->List AV->AV} {ops:Array Oper} {T0:List AV} {m:AM} {p:Nat}
def wX{x x':AV×AM}{i:Nat}:∀{js:List Nat}{ms:List (AV×AM)}{jl:Nat},js[ms.length]?=some jl->i≠jl->Le (Xc js (ms++[x])) i=Le (Xc js (ms++[x'])) i
 |[],_,_,h,_=>by simp at h
 |j::js,[],jl,h,hi=>by
  simp at h;subst h;simp only[zzah,Xc,Le];rw[if_neg (Ne.symm hi),if_neg (Ne.symm hi)]
 |j::js,y::ms,jl,h,hi=>by
  simp only[zzad,Xc,Le];rw[wX (ms:=ms) (by simpa using h) hi]
def FZ{L L':List (Nat×AV)}{jl:Nat}(h:∀i,i<jl->Le L i=Le L' i):∀k,k<=jl->bW P gl orc ops T0 m L k=bW P gl orc ops T0 m L' k
 |0,_=>rfl
 |k+1,hk=>by
  have ih:=FZ h k zE;simp only[bW];rw[ih];cases ho:ops[k]? with
  |none=>rfl
  |some o=>
   simp only;congr 1;simp only[Db];rw[h k zE]
def Lg{L L':List (Nat×AV)}(hc:zw ops p=true){listed:Array Bool}{jl:Nat}(oF:FP ops listed)(uK:listed.getD jl false=false)(hL:∀i,i<jl->Le L i=Le L' i)
  (YC:∀k,jl<k->k<p->(FT ops k [k]).contains jl=true)(hjp:jl<p)(t:Nat):pn P gl orc ops T0 m L p listed t=pn P gl orc ops T0 m L' p listed t:=by
 obtain⟨hp,cU⟩:=Zq hc;unfold pn;cases hw:wr ops p listed t with
 |false=>simp
 |true=>
  simp only[if_true];unfold wr at hw;obtain⟨j,hj,hjd⟩:=zzbx.1 hw;simp only[zzak,beq_iff_eq]at hjd;obtain⟨hl,hd⟩:=hjd;have axb:=zzbb.1 hj
  have ai:j<jl:=by
   rcases zzeb j jl with h|h|h
   ·exact h
   ·subst h;rw[hl]at uK;cases uK
   have:=uL oF j [j] (fun k hk=>by rw[zzbd.1 hk];exact hl) jl (by simpa using YC j h axb);rw[this]at uK;cases uK
  have sK:∀(L:List (Nat×AV)),(bW P gl orc ops T0 m L p).getD t .junk=(bW P gl orc ops T0 m L jl).getD t .junk:=fun L=>by
   have:=jy (P:=P) (gl:=gl) (orc:=orc) (ops:=ops) (T0:=T0) (m:=m) (L:=L) (t:=t) (k:=jl) (p-jl) fun k dw dD OJ=>by
    have hk:k<ops.size:=zE
    have OK:ops[k]?=some ops[k]:=zzaj hk;have:=((cU k _ OK).2.1 zE).2 j zE t hd;simp[Vr,OK]at OJ;exact this OJ
   rwa [show jl+(p-jl)=p by omega]at this
  rw[sK L,sK L',FZ hL jl (zzab _)]
def Lh{ms:List (AV×AM)}{x:AV×AM}{js:List Nat}{R:AV->AM->Prop}(hc:zw ops p=true){Q:Exit->Act->World->Prop}{listed:Array Bool}{γ:G}{w:World}{a:Act}
  (hI:rB N w0 r aq S Y P gl orc ops T0 m (ms++[x]) js (Xc js (ms++[x])) p listed γ w a){i:Nat}{o:Oper}(ho:ops[i]?=some o)(dJ:i<p)(wV:Ya (bW P gl orc ops T0 m (Xc js (ms++[x])) i) (Xm P ops o))(aH:js.length=(ms++[x]).length)(qC:js.Nodup)
  (hk:js[ms.length]?=some i)(hu:listed.getD i true=false)(bV:∀j∈Zb o,listed.getD j false=true)(jI:∀a j,js[a]?=some j->js[a+1]?=some i->j∈Zb o)
  (axc:∀x':AV×AM,R x'.1 x'.2->∀t,pn P gl orc ops T0 m (Xc js (ms++[x'])) p listed t=pn P gl orc ops T0 m (Xc js (ms++[x])) p listed t)
  (A5:effR P gl Y (ev gl (bW P gl orc ops T0 m (Xc js (ms++[x])) i)) (Vw m (ms++[x]) ms.length) R (tr P o)):
  wpOpIn (FW r) 0 P ops Q i (fun a' w'=>∃γ' x',R x'.1 x'.2/\rB N w0 r aq S Y P gl orc ops T0 m (ms++[x']) js (Xc js (ms++[x'])) p (listed.setIfInBounds i true) γ' w' a') a w:=by
 have hi:i<ops.size:=(zzby.1 ho).1;have fO:i<listed.size:=by rw[hI.size];exact hi
 have zP:∀t∈o.looksAt ops,aC w γ ((bW P gl orc ops T0 m (Xc js (ms++[x])) i).getD t .junk) (a.tmps.getD t undef):=fun t ht=>by
  rw[aj5 (P:=P) (gl:=gl) (orc:=orc) (T0:=T0) (m:=m) (L:=Xc js (ms++[x])) hc hI.size ho dJ hu bV ht];exact hI.tt t
 have eR:∀y∈o.op.operands,aC w γ (ev gl (bW P gl orc ops T0 m (Xc js (ms++[x])) i) (aB y)) (a.eval y):=fun y hy=>by
  cases y with
  |tmp t=>exact zP t (by simp only[Oper.looksAt,zzam,zzfn];exact .inl ⟨.tmp t,by simpa using hy,rfl⟩)
  |const v=>exact Ke w γ v
  |func f=>exact .fn rfl (fun i c v h=>by simp at h) rfl fun i c v h=>by simp at h
  |global g=>exact(hI.g g).gK
 have fQ:chn (listed.setIfInBounds i true) js:=uN hI.ch fun a j h1 h2=>bV j (jI a j h1 h2);have hpr:FP ops (listed.setIfInBounds i true):=FP.set hI.clo ho fO bV;have RK:listed.getD i false=false:=by rw[Qz fO false true];exact hu
 have Dd:∀b j,b<ms.length->js[b]?=some j->listed.getD j false=true:=fun b j hb hj=>by
  have mM:ms.length-1<js.length:=by simp at aH;omega
  obtain⟨j1,ek⟩:∃j1,js[ms.length-1]?=some j1:=⟨js[ms.length-1],zzae mM⟩;have ez:=bV j1 (jI (ms.length-1) j1 ek (by rw[show ms.length-1+1=ms.length by omega];exact hk));rcases zzaa b (ms.length-1)with h|h
  ·exact Qbu hI.ch h hj ek ez
  obtain rfl:b=ms.length-1:=zE
  rw[hj]at ek;cases ek;exact ez
 have JK:Uh listed m js (ms++[x])=Vw m (ms++[x]) ms.length:=Jf aH (by simp at aH;omega) Dd (fun j hj=>by rw[hk]at hj;cases hj;exact RK)
 have oG:∀x':AV×AM,Uh (listed.setIfInBounds i true) m js (ms++[x'])=x'.2:=fun x'=>by
  have:=Jf (listed:=listed.setIfInBounds i true) (m:=m) (ms:=ms++[x']) (js:=js) (a:=ms.length+1) (by simp at aH |-;omega) (by simp at aH;omega) (fun b j hb hj=>?_) (fun j hj=>by rw[zzaw (by simp at aH;omega)]at hj;cases hj)
  ·rw[this];simp[Vw,List.getD]
  rcases zzaa b ms.length with h|h
  ·have eF:j≠i:=by
    rintro rfl;have:=Jd qC hj hk;omega
   rw[Qu eF];exact Dd b j h hj
  obtain rfl:b=ms.length:=zE
  rw[hk]at hj;cases hj;exact Xu fO
 simp only[wpOpIn,ho];have hw:Region.wanted o (yielded ops a.tmps)=true:=wU wV zP;rw[if_pos hw];have gm:=hI.mm;have gN:=hI.ls;rw[JK]at gm gN
 have zQ:fc N w0 r aq S P gl Y γ w ⟨(List.range T0.length).map fun t=>pn P gl orc ops T0 m (Xc js (ms++[x])) p listed t,Vw m (ms++[x]) ms.length⟩ a:=by
  refine⟨gm,gN,hI.rd,⟨by simp[hI.tl],fun t x v hx hv=>?_⟩,hI.d,hI.g,hI.y,hI.e⟩
  have ai:t<T0.length:=by
   rcases zzaa t T0.length with h|h
   ·exact h
   simp[zzbo.2 h]at hx
  simp[ai]at hx;have:=hI.tt t;rw[hx]at this;have CX:a.tmps.getD t undef=v:=by simp at hv;simp[hv]
  rwa [CX]at this
 have oV:Qcc P gl Y (ev gl (bW P gl orc ops T0 m (Xc js (ms++[x])) i)) (Vw m (ms++[x]) ms.length) R (tr P o):=by
  cases JL:tr P o with
  |call f args=>
   rw[JL]at A5;simp only[effR]at A5;simp only[Qcc];split at A5
   ·rename_i g first cap bT;simp only[bT];exact A5
   exact A5.elim
  |_=>rw[JL]at A5;exact A5.elim
 refine Qdm zQ eR oV fun v w' γ' av' m' hK he hm hl hr=>?_;have dm:=jH (P:=P) (gl:=gl) (orc:=orc) (ops:=ops) (m:=m) (ms:=ms++[(av',m')]) (x:=(av',m')) qC hk zd (bW P gl orc ops T0 m (Xc js (ms++[(av',m')])) i);have hsw:=axc (av',m') hK;refine⟨γ',(av',m'),hK,by simp[hI.size],fun j ek oD=>by rw[Qu zE];exact hI.tail j ek oD,fQ,hpr,by rw[oG];exact hm,by rw[oG];exact hl,hI.rd.aW he,?_,fun t=>?_,?_,fun g=>(hI.g g).aW he.cT,hI.y.mono he,hI.e.trans he⟩
 ·cases hd:o.dst<;>simp[Act.put,hI.tl]
 ·rw[Dc hc hI.size ho dJ,hsw];by_cases hd:o.dst=some t
  ·by_cases ht:t<T0.length
   ·rw[if_pos ⟨hd,ht⟩,hd];have:(a.put (some t) v).tmps.getD t undef=v:=by simp[Act.put,hI.tl,ht]
    rw[this,dm];exact hr
   rw[if_neg (by simp[ht]),hd];have:(a.put (some t) v).tmps.getD t undef=a.tmps.getD t undef:=by simp[Act.put,hI.tl,ht]
   rw[this];exact(hI.tt t).aW he
  rw[if_neg (by simp[hd])]
  have:(a.put o.dst v).tmps.getD t undef=a.tmps.getD t undef:=by
   cases zK:o.dst with
   |none=>rfl
   |some d=>simp only[Act.put];simp;rw[zzcs (by rintro rfl;exact hd zK)]
  rw[this];exact(hI.tt t).aW he
 cases hd:o.dst<;>exact hI.d.aW he
def OO{R:AV->AM->Prop}{ms:List (AV×AM)}{js:List Nat}(l2:List SO)(K:AS->Prop)(hp:p<=ops.size)(hj:nI ops p=some js):∀(n k:Nat)(mc:AM),k+n=p->fC ops k<=ms.length->mc=Vw m ms (fC ops k)->
  lg P gl orc Y R l2 K m ms (((ops.toList.take p).drop k).map (Xm P ops)) ((flags ops p js).drop k) (ms.drop (fC ops k)) mc (bW P gl orc ops T0 m (Xc js ms) k)->
  js.length=ms.length/\
  (
   ∀i o,k<=i->i<p->ops[i]?=some o->
   (i ∉ js->(rop P gl orc (ev gl (bW P gl orc ops T0 m (Xc js ms) i)) m o.dst (tr P o)).1/\(mJ ops js i=false->∀x∈ms,rop P gl orc (ev gl (bW P gl orc ops T0 m (Xc js ms) i)) x.2 o.dst (tr P o)=rop P gl orc (ev gl (bW P gl orc ops T0 m (Xc js ms) i)) m o.dst (tr P o)))/\
   (∀b x,js[b]?=some i->ms[b]?=some x->(b+1=ms.length->effR P gl Y (ev gl (bW P gl orc ops T0 m (Xc js ms) i)) (Vw m ms b) R (tr P o))/\(b+1≠ms.length->effC P gl orc Y (ev gl (bW P gl orc ops T0 m (Xc js ms) i)) (Vw m ms b) o.dst x.1 x.2 (tr P o)))/\Ya (bW P gl orc ops T0 m (Xc js ms) i) (Xm P ops o))/\
  Zy P gl orc Y l2 ⟨(bW P gl orc ops T0 m (Xc js ms) p),Vw m ms ms.length⟩ K:=by
 obtain⟨o8,_,pz⟩:=Qcm hj;have dU:∀j,j∈js<->j<p/\eH ops Da j=true:=fun j=>by rw[o8,zzcg,zzbb]
 have qC:js.Nodup:=by rw[o8];exact(zzdl).filter _
 have TV:∀i,i<p->eH ops Da i=true->js[fC ops i]?=some i:=fun i h1 h2=>by rw[o8];exact Ys h1 h2
 have YA:∀{a b i:Nat},js[a]?=some i->js[b]?=some i->a=b:=fun{a b i}h1 h2=>Jd qC h1 h2;intro n;induction n with
 |zero=>
  intro k mc hk oF XX h;obtain rfl:k=p:=zE
  have e0:(ops.toList.take k).drop k=[]:=zzan (by simp;omega);rw[e0]at h;simp only[zzcc,lg]at h;have fN:ms.length<=fC ops k:=zzfx.1 h.1;have zJ:fC ops k=js.length:=by rw[o8];rfl
  have hcc:fC ops k=ms.length:=zE
  refine⟨zE,fun i o h1 h2=>zE,?_⟩;rw[<- hcc,<- XX];exact h.2
 |succ n ih=>
  intro k mc hk oF XX h;have ck:k<ops.size:=zE
  have ho:ops[k]?=some ops[k]:=zzaj ck
  have hd:(ops.toList.take p).drop k=ops[k]::(ops.toList.take p).drop (k+1):=by
   rw[zzaf (by simp;omega)];simp
  have eG:(flags ops p js).drop k=Jv ops js k::(flags ops p js).drop (k+1):=by
   rw[zzaf (by simp[flags];omega)];simp[flags]
  rw[hd,eG,zzay]at h;have X1:=Qdn (P:=P) (gl:=gl) (orc:=orc) (T0:=T0) (m:=m) (L:=Xc js ms) ho;have e2:(Xm P ops ops[k]).op=tr P ops[k]:=rfl;have e3:(Xm P ops ops[k]).dst=ops[k].dst:=rfl;have qZ:=FX (ops:=ops) k;cases kY:js.contains k with
  |true=>
   have RM:k∈js:=by simpa using kY
   have De:=((dU k).1 RM).2;rw[De,if_pos rfl]at qZ;rw[show Jv ops js k=.eff by simp only[Jv,kY,cond_true]]at h;simp only[lg,e2,e3]at h;split at h
   ·exact h.elim
   rename_i x q hq
   have axa:fC ops k<ms.length:=by
    rcases zzaa (fC ops k) ms.length with h'|h'
    ·exact h'
    rw[zzan h']at hq;cases hq
   have hx:ms[fC ops k]?=some x:=by
    have:(ms.drop (fC ops k))[0]?=some x:=by rw[hq];rfl
    simpa using this
   have Rl:ms.drop (fC ops (k+1))=q:=by
    rw[qZ,<- zzdx,hq];rfl
   obtain⟨hgr,h1,h2⟩:=h;have zu:=TV k zE De;have dm:=jH (P:=P) (gl:=gl) (orc:=orc) (ops:=ops) (m:=m) qC zu hx (bW P gl orc ops T0 m (Xc js ms) k);rw[dm]at X1
   obtain⟨r1,r2,r3⟩:=ih (k+1) x.2 zE zE (by rw[qZ];simp[Vw,List.getD,hx]) (by
    rw[X1,Rl];exact h2)
   refine⟨r1,fun i o hi dJ C6=>?_,r3⟩;rcases zzaa k i with fP|fP
   ·exact r2 i o fP dJ C6
   obtain rfl:i=k:=zE
   rw[ho]at C6;cases C6;refine⟨fun h=>absurd RM h,fun b y hb hy=>?_,hgr⟩;obtain rfl:=YA hb zu;rw[hx]at hy;cases hy;rw[<- XX]
   have hqe:q=[]<->fC ops i+1=ms.length:=by
    rw[<- Rl,qZ,zzfx];omega
   exact⟨fun h=>h1.1 (hqe.2 h),fun h=>h1.2 fun e=>h (hqe.1 e)⟩
  |false=>
   have RM:k ∉ js:=by simpa using kY
   have De:eH ops Da k=false:=by
    cases FY:eH ops Da k with
    |false=>rfl
    |true=>exact absurd ((dU k).2 ⟨zE,FY⟩) RM
   rw[De,if_neg zd,zzcq]at qZ
   obtain⟨hgr,h1,h2,h3⟩:Ya (bW P gl orc ops T0 m (Xc js ms) k) (Xm P ops ops[k])/\(rop P gl orc (ev gl (bW P gl orc ops T0 m (Xc js ms) k)) m ops[k].dst (tr P ops[k])).1/\(mJ ops js k=false->∀x∈ms,rop P gl orc (ev gl (bW P gl orc ops T0 m (Xc js ms) k)) x.2 ops[k].dst (tr P ops[k])=rop P gl orc (ev gl (bW P gl orc ops T0 m (Xc js ms) k)) m ops[k].dst (tr P ops[k]))/\
     lg P gl orc Y R l2 K m ms (((ops.toList.take p).drop (k+1)).map (Xm P ops)) ((flags ops p js).drop (k+1)) (ms.drop (fC ops k)) mc (put (bW P gl orc ops T0 m (Xc js ms) k) ops[k].dst (rop P gl orc (ev gl (bW P gl orc ops T0 m (Xc js ms) k)) m ops[k].dst (tr P ops[k])).2):=by
    cases jh:mJ ops js k with
    |true=>
     rw[show Jv ops js k=.pre by simp only[Jv,kY,jh,cond_true,cond_false]]at h;simp only[lg,e2,e3]at h;exact⟨h.1,h.2.1,fun h=>(by cases h),h.2.2⟩
    |false=>
     rw[show Jv ops js k=.oth by simp only[Jv,kY,jh,cond_false]]at h;simp only[lg,e2,e3]at h;exact⟨h.1,h.2.1,fun _=>h.2.2.1,h.2.2.2⟩
   rw[pq RM ho]at X1;obtain⟨r1,r2,r3⟩:=ih (k+1) mc zE zE (by rw[qZ];exact XX) (by rw[X1,qZ];exact h3);refine⟨r1,fun i o hi dJ C6=>?_,r3⟩;rcases zzaa k i with fP|fP
   ·exact r2 i o fP dJ C6
   obtain rfl:i=k:=zE
   rw[ho]at C6;cases C6;refine⟨fun _=>⟨h1,h2⟩,fun b y hb=>absurd (zzac hb) RM,hgr⟩
def F0{Q:Exit->Act->World->Prop}{K:AS->Prop}{γ:G}{w:World}{s:AS}{a:Act}{js:List Nat}(hQ:∀γ w s a,K s->fc N w0 r aq S P gl Y γ w s a->Q .normal a w)(hc:zw ops p=true)(hj:nI ops p=some js)
  {R:AV->AM->Prop}{ms:List (AV×AM)}(iS:∀(jl:Nat),js[ms.length]?=some jl->∀(x x':AV×AM),R x.1 x.2->R x'.1 x'.2->∀listed:Array Bool,FP ops listed->listed.getD jl false=false->∀t,pn P gl orc ops s.T s.m (Xc js (ms++[x'])) p listed t=pn P gl orc ops s.T s.m (Xc js (ms++[x])) p listed t)(hR:∃x:AV×AM,R x.1 x.2)(h:∀x:AV×AM,R x.1 x.2->lg P gl orc Y R ((ops.toList.drop p).map (Xm P ops)) K s.m (ms++[x]) ((ops.toList.take p).map (Xm P ops)) (flags ops p js) (ms++[x]) s.m s.T)(hs:fc N w0 r aq S P gl Y γ w s a):
  wpAnyIn (FW r) 0 P .any ops Q ops.size (Array.replicate ops.size false) a {w with drawn:=w.drawn+1}:=by
 obtain⟨hp,cU⟩:=Zq hc;obtain⟨o8,hjc,pz⟩:=Qcm hj;have qC:js.Nodup:=by rw[o8];exact(zzdl).filter _
 have Df:∀j∈js,j<p:=fun j h=>by rw[o8,zzcg]at h;exact zzbb.1 h.1
 have bF:=fun(x:AV×AM)(hx:R x.1 x.2)=>OO (P:=P) (gl:=gl) (orc:=orc) (T0:=s.T) (m:=s.m) ((ops.toList.drop p).map (Xm P ops)) K hp hj p 0 s.m zd (by simp[fC]) (by simp[fC,Vw]) (by simpa[bW,fC]using h x hx);obtain⟨x0,hx0⟩:=hR;have dy:js.length=ms.length+1:=by have:=(bF x0 hx0).1;simpa using this
 obtain⟨jl,uK⟩:∃jl,js[ms.length]?=some jl:=⟨_,zzae zE⟩
 have full:∀(x:AV×AM),R x.1 x.2->∀(aX:Nat)(listed:Array Bool)(γ:G)(w:World)(a:Act),rB N w0 r aq S Y P gl orc ops s.T s.m (ms++[x]) js (Xc js (ms++[x])) p listed γ w a->uc ops listed<=aX->(∀i,i<p->listed.getD i false=true)->wpAnyIn (FW r) 0 P .any ops Q aX listed a w:=by
  intro x hx aX listed γ w a hI jx arP;obtain⟨aH,h1,h2⟩:=bF x hx;have bF:=arP;have hml:Uh listed s.m js (ms++[x])=Vw s.m (ms++[x]) (ms++[x]).length:=Jf aH zE (fun b j _ hb=>bF j (Df j (zzac hb))) (fun j hj=>by rw[zzaw zE]at hj;cases hj);have gm:=hI.mm;have gN:=hI.ls;rw[hml]at gm gN;refine Qdz hQ hc aX p listed γ w _ a (zzab _) hp hI.size bF hI.tail jx h2 ⟨gm,gN,hI.rd,⟨?_,fun t y v hy hv=>?_⟩,hI.d,hI.g,hI.y,hI.e⟩
  ·simp[Qen,hI.tl]
  have h1:=hI.tt t
  have hAt:pn P gl orc ops s.T s.m (Xc js (ms++[x])) p listed t=y:=by
   have iD:(bW P gl orc ops s.T s.m (Xc js (ms++[x])) p).getD t .junk=y:=by simp only at hy;simp[List.getD,hy]
   unfold pn;split
   ·exact iD
   rename_i hw;rw[<- iD];refine(Qbi p fun j hj hd=>hw ?_).symm;unfold wr;rw[zzbx];exact⟨j,zzbb.2 hj,by rw[bF j hj,hd];simp⟩
  rw[hAt]at h1;have:a.tmps.getD t undef=v:=by simp at hv;simp[hv]
  rwa [this]at h1
 have main:∀(aX:Nat)(x:AV×AM),R x.1 x.2->∀(listed:Array Bool)(γ:G)(w:World)(a:Act),rB N w0 r aq S Y P gl orc ops s.T s.m (ms++[x]) js (Xc js (ms++[x])) p listed γ w a->uc ops listed<=aX->wpAnyIn (FW r) 0 P .any ops Q aX listed a w:=by
  intro aX;induction aX with
  |zero=>
   intro x hx listed γ w a hI jx
   exact full x hx 0 listed γ w a hI jx fun i hi=>by
    rw[Qz (by rw[hI.size];omega) false true];exact Qdx (zzff.1 jx) zE
  |succ aX ih=>
   intro x hx listed γ w a hI jx;by_cases hall2:∀i,i<p->listed.getD i false=true
   ·exact full x hx (aX+1) listed γ w a hI jx hall2
   have hex:∃k,k<p/\listed.getD k true=false:=by
    refine Classical.byContradiction fun hn=>hall2 fun i hi=>?_;rw[Qz (by rw[hI.size];omega) false true];cases hl:listed.getD i true with
    |true=>rfl
    |false=>exact absurd ⟨i,hi,hl⟩ hn
   obtain⟨k,hk,X8⟩:=hex;refine⟨fun hr=>?_,fun i hi=>?_⟩
   ·obtain⟨j,hj⟩:=Ur hc hI.size k k (zzab _) zE X8;rw[hr]at hj;cases hj
   obtain⟨ai,hu,o,ho,bV⟩:=Us hc hi
   have dJ:i<p:=by
    rcases zzaa i p with h|h
    ·exact h
    have:=Qbk hI.clo ho ((cU i o ho).2.2 h) bV i k zE zE;rw[Qz (by rw[hI.size];omega) false true,X8]at this;cases this
   obtain⟨aH,h1,_⟩:=bF x hx;obtain⟨h1a,h1b,h1g⟩:=h1 i o (zzbt _) dJ ho;by_cases eE:i=jl
   ·subst eE;refine wpOpIn_mono ?_ (Lh hc hI ho dJ h1g aH qC uK hu bV (fun a j e1 e2=>uO hjc a j i o e1 e2 ho) (fun x' iD=>iS i uK x x' hx iD listed hI.clo (by rw[Qz (by rw[hI.size];exact ai) false true];exact hu)) ((h1b ms.length x uK zd).1 zd));rintro a' w' ⟨γ',x',iD,gX⟩;refine ih x' iD _ γ' w' a' gX ?_;have:=jv hI.size ai hu;omega
   refine wpOpIn_mono ?_ (Qcn hc hI ho dJ h1g aH qC hu bV (fun a j e1 e2=>bV j (uO hjc a j i o e1 e2 ho)) (fun h=>.inl (h1a h)) (fun k y e1 e2=>(h1b k y e1 e2).2 fun e=>eE (by
    have hk:k=ms.length:=by simpa using e
    subst hk;rw[uK]at e1;exact(Option.some.inj e1).symm)))
   rintro a' w' ⟨γ',gX,_⟩;refine ih x hx _ γ' w' a' gX ?_;have:=jv hI.size ai hu;omega
 have rz:∀j,(Array.replicate ops.size false).getD j false=false:=fun j=>by
  rcases zzaa j ops.size with h|h<;>simp[h]
 have jI:∀YB:List Nat,chn (Array.replicate ops.size false) YB:=fun YB=>by
  induction YB with
  |nil=>trivial
  |cons j r ih=>
   cases r with
   |nil=>trivial
   |cons j' r=>exact⟨fun h=>(by rw[rz]at h;cases h),ih⟩
 have JK:Uh (Array.replicate ops.size false) s.m js (ms++[x0])=s.m:=Jf (a:=0) (bF x0 hx0).1 zE (fun b j hb=>zE) (fun j _=>rz j);refine main ops.size x0 hx0 _ γ w.drew a ⟨zd,fun i _ hi=>by simp[hi],jI js,fun j o h=>(by rw[rz]at h;cases h),?_,?_,hs.rd.aW (Ev.drew w γ).cK,?_,fun t=>?_,hs.d.aW (Ev.drew w γ).cK,fun g=>(hs.g g).mono (Ev.drew w γ).cT,hs.y.mono (Ev.drew w γ).cK,hs.e.trans (Ev.drew w γ).cK⟩ ?_
 ·rw[JK];exact hs.m.drew
 ·rw[JK];exact hs.ls.mono (Ev.drew w γ)
 ·have:=hs.t.1;simp at this;omega
 ·have hw:wr ops p (Array.replicate ops.size false) t=false:=by
   unfold wr;rw[zzec];intro j _;rw[rz j];simp
  unfold pn;rw[hw];simp only[zzbp,if_false];have:=(hs.t.mono (Ev.drew w γ)).get t;simpa[List.getD]using this
 unfold uc;exact zzbg (zzev) zd
def F1{Q:Exit->Act->World->Prop}{K:AS->Prop}{γ:G}{w:World}{s:AS}{a:Act}{js:List Nat}(hQ:∀γ w s a,K s->fc N w0 r aq S P gl Y γ w s a->Q .normal a w)(hc:zw ops p=true)(hj:nI ops p=some js)
  (hbk:wW ops p js=true){R:AV->AM->Prop}{ms:List (AV×AM)}(hR:∃x:AV×AM,R x.1 x.2)(h:∀x:AV×AM,R x.1 x.2->lg P gl orc Y R ((ops.toList.drop p).map (Xm P ops)) K s.m (ms++[x]) ((ops.toList.take p).map (Xm P ops)) (flags ops p js) (ms++[x]) s.m s.T)(hs:fc N w0 r aq S P gl Y γ w s a):
  wpAnyIn (FW r) 0 P .any ops Q ops.size (Array.replicate ops.size false) a {w with drawn:=w.drawn+1}:=by
 obtain⟨hp,cU⟩:=Zq hc;obtain⟨o8,hjc,pz⟩:=Qcm hj;have Df:∀j∈js,j<p:=fun j h=>by rw[o8,zzcg]at h;exact zzbb.1 h.1
 have bF:=fun(x:AV×AM)(hx:R x.1 x.2)=>OO (P:=P) (gl:=gl) (orc:=orc) (T0:=s.T) (m:=s.m) ((ops.toList.drop p).map (Xm P ops)) K hp hj p 0 s.m zd (by simp[fC]) (by simp[fC,Vw]) (by simpa[bW,fC]using h x hx);obtain⟨x0,hx0⟩:=hR;have dy:js.length=ms.length+1:=by have:=(bF x0 hx0).1;simpa using this
 refine F0 hQ hc hj (fun jl uK x x' _ _ listed C7 RK t=>?_) ⟨x0,hx0⟩ h hs
 have YC:∀k,jl<k->k<p->(FT ops k [k]).contains jl=true:=fun k dw dD=>by
  unfold wW at hbk;have hg:js.getLast?=some jl:=by rw[zzfj,dy];simpa using uK
  rw[hg]at hbk;have:=zzbh.1 hbk k (zzbb.2 dD);simp only[zzhg,decide_eq_true_eq]at this;obtain h|h:=this
  ·omega
  exact h
 exact Lg hc C7 RK (fun j hj=>wX uK zE) YC (Df _ (zzac uK)) t
end
open Go Go.RowKit
def arQ(f:FuncId):Bool:=f==70
def arR(o:Oper):Bool:=match o.op with
 |.call ⟨.value (.func f),_,_⟩=>arQ f
 |_=>false
def amG(ops:Array Oper)(j j':Nat):Bool:=match ops[j']? with
 |some o=>(Zb o).contains j
 |none=>false
def Dg(ops:Array Oper):List Nat->List (Nat×Nat)
 |j::j'::r=>(if amG ops j j'=true then[]else[(j,j')])++Dg ops (j'::r)
 |_=>[]
def arS(o:Oper):Bool:=match o.op with
 |.alloc _=>true
 |_=>false
def OP(ops:Array Oper)(p:Nat):Option (List Nat×Nat×Nat×Nat):=
 let js:=(List.range p).filter (eH ops Da)
 match Dg ops js with
 |[(j,z)]=>(match ops[z]? with
  |some o=>(match o.dst with
   |some t=>if arS o&&o.guard.isNone&&(List.range p).any (eH ops arR)&&(List.range p).all (eH ops X9)&&(List.range p).all (fun i=>match ops[i]? with
    |some o'=>!(Zb o').contains z||(Zb o').contains j
    |none=>false)then some (js,j,z,t)else none
   |none=>none)
  |none=>none)
 |_=>none
def F3{ops:Array Oper}:∀{js:List Nat}(a j j':Nat)(o:Oper),js[a]?=some j->js[a+1]?=some j'->ops[j']?=some o->j∈Zb o\/(j,j')∈Dg ops js
 |[],a,j,j',o,h,_,_=>by simp at h
 |[x],a,j,j',o,h,h',_=>by
  have:=(zza.1 h').1;simp at this
 |x::y::r,0,j,j',o,h,h',ho=>by
  simp at h h';subst h;subst h';rw[Dg];by_cases hl:amG ops x y=true
  ·left;unfold amG at hl;rw[ho]at hl;simpa using hl
  right;rw[if_neg hl];simp
 |x::y::r,a+1,j,j',o,h,h',ho=>by
  rcases F3 (js:=y::r) a j j' o (by simpa using h) (by simpa using h') ho with h1|h1
  ·exact .inl h1
  right;rw[Dg];exact List.mem_append_right _ h1
def OQ{ops:Array Oper}:∀{js:List Nat}{j j':Nat},(j,j')∈Dg ops js->∃a,js[a]?=some j/\js[a+1]?=some j'
 |[],_,_,h=>by simp[Dg]at h
 |[x],_,_,h=>by simp[Dg]at h
 |x::y::r,j,j',h=>by
  rw[Dg]at h;rcases zzam.1 h with h|h
  ·split at h
   ·cases h
   simp at h;obtain⟨rfl,rfl⟩:=h;exact⟨0,rfl,rfl⟩
  obtain⟨a,h1,h2⟩:=OQ h;exact⟨a+1,by simpa using h1,by simpa using h2⟩
def Li{ops:Array Oper}{p:Nat}{js:List Nat}{jp z t:Nat}(h:OP ops p=some (js,jp,z,t)):
  js=(List.range p).filter (eH ops Da)/\(∀i,i<p->∃o,ops[i]?=some o)/\(∃oz te,ops[z]?=some oz/\oz.op=.alloc te/\oz.dst=some t/\oz.guard=none)/\(∀i o,i<p->ops[i]?=some o->z∈Zb o->jp∈Zb o)/\
  (∀a j j' o,js[a]?=some j->js[a+1]?=some j'->ops[j']?=some o->j∈Zb o\/(j=jp/\j'=z))/\∃a,js[a]?=some jp/\js[a+1]?=some z:=by
 unfold OP at h;simp only at h;split at h
 case h_2=>cases h
 rename_i j z' hof;split at h
 case h_2=>cases h
 rename_i oz YD;split at h
 case h_2=>cases h
 rename_i t' ht;split at h
 case isFalse=>cases h
 rename_i bF;simp only[Option.some.injEq,Prod.mk.injEq]at h;obtain⟨rfl,rfl,rfl,rfl⟩:=h;simp only[zzak]at bF;obtain⟨⟨⟨⟨h1,h2⟩,_⟩,_⟩,h5⟩:=bF
 have gO:∀i,i<p->∃o,ops[i]?=some o/\(!(Zb o).contains z'||(Zb o).contains j)=true:=fun i hi=>by
  have:=zzbh.1 h5 i (zzbb.2 hi);split at this
  ·rename_i o ho;exact⟨o,ho,this⟩
  cases this
 refine⟨rfl,fun i hi=>let⟨o,ho,_⟩:=gO i hi;⟨o,ho⟩,?_,fun i o hi ho hz=>?_,fun a x y o hx hy ho=>?_,OQ (by rw[hof];simp)⟩
 ·unfold arS at h1;split at h1
  ·rename_i te eR;exact⟨oz,te,YD,eR,ht,by simpa using h2⟩
  cases h1
 ·obtain⟨o',cW,hc⟩:=gO i hi;rw[ho]at cW;cases cW;have hz':(Zb o).contains z'=true:=by simpa using hz
  rw[hz']at hc;simpa using hc
 rcases F3 a x y o hx hy ho with h|h
 ·exact .inl h
 rw[hof]at h;simp at h;exact .inr h
section
variable {N:Nat} {w0:fF} {r:Option Nat} {aq:Nat->Nat->Prop} {S:G×World} {Y:YT} {P:Program} {gl:Nat->AV} {orc:Nat->FuncId->List AV->AV} {ops:Array Oper} {T0:List AV} {m:AM} {p:Nat} {γ:G} {w:World} {B:Nat->Option (List AV)} {L:Nat->Option Nat}
def Chg.trans{γ' EF:G}{w' uG:World}(h:Chg γ w γ' w')(k:Chg γ' w' EF uG):Chg γ w EF uG where
 os:=k.os.trans h.os
 tape:=k.tape.trans h.tape
 output:=k.output.trans h.output
 size:=zzbg h.size k.size
 same b hb hn:=by
  have qB:¬OI γ' b:=fun ho=>by
   rcases h.oi b ho with ho|ho
   ·exact hn ho
   omega
  rw[k.same b (zzaz hb h.size) qB,h.same b hb hn]
 ro b o hb hr:=by
  obtain⟨h1,h2⟩:=h.ro b o hb hr;obtain⟨k1,k2⟩:=k.ro b o (zzaz hb h.size) h1;exact⟨k1,k2.trans h2⟩
 oi b hb:=by
  rcases k.oi b hb with hb|hb
  ·exact h.oi b hb
  exact .inr (zzbg h.size hb)
 ron b o hr:=by
  rcases k.ron b o hr with hr|hr|hr
  ·exact h.ron b o hr
  ·rcases h.oi b hr with hr|hr
   ·exact .inr (.inl hr)
   exact .inr (.inr hr)
  exact .inr (.inr (zzbg h.size hr))
def arT(γs:G)(ws:World)(arr:Array Value)(te:TypeId):fF where
 p γ w:=Chg γs ws γ w/\ws.heap.size<w.heap.size/\w.heap[ws.heap.size]?=some (.cells arr te (0,0))/\¬OI γ ws.heap.size/\∀o,¬γ.ro ws.heap.size o
 st γ w γ' w':=by
  rintro⟨h1,h2,h3,h4,h5⟩ c;refine⟨h1.trans c,zzaz h2 c.size,?_,?_,?_⟩
  ·rw[c.same _ h2 h4];exact h3
  ·intro h;rcases c.oi _ h with h|h
   ·exact h4 h
   omega
  intro o h;rcases c.ron _ _ h with h|h|h
  ·exact h5 o h
  ·exact h4 h
  omega
def au.wY(hm:au N w0 aq γ w B L)(o:Obj):Ev w γ (w.alloc o) γ:=
 ⟨zd,fun b o' hb hr=>⟨hr,cell_of_heap (Below.heap_alloc w o b hb)⟩,fun _ _ h=>h,fun _=>zzab _,fun _ _ h=>h,rfl,
  fun i b _ ho=>⟨ho,fun arr e he=>⟨arr,by rw[Below.heap_alloc w o b (hm.own i b ho).2.1];exact he,zzab _⟩,fun _ h=>h⟩,
  fun b hb=>⟨hb,Below.heap_alloc w o b (hm.sp b hb).2.1⟩,Sz.of_same (Below.heap_alloc w o)⟩
def au.axd(hm:au N w0 aq γ w B L)(o:Obj)(w1:fF)(h1:w1.p γ (w.alloc o)):au N w1 aq γ (w.alloc o) B L where
 bs:=h1
 hN:=by have:=hm.hN;simp;omega
 aq:=hm.aq
 robd b o h:=by have:=hm.robd b o h;simp;omega
 box id cells b hb h1:=by
  obtain⟨arr,e,h2,h3,h4⟩:=hm.box id cells b hb h1;exact⟨arr,e,by rw[Below.heap_alloc w o b (aS h2)];exact h2,h3.mono (hm.wY o),h4⟩
 β id b hb:=by
  obtain⟨h1,h2,h3⟩:=hm.β id b hb;exact⟨h1,by simp;omega,h3⟩
 inj:=hm.inj
 own id b hb:=by
  obtain⟨h1,h2,h3⟩:=hm.own id b hb;exact⟨h1,by simp;omega,h3⟩
 oinj:=hm.oinj
 sp b hb:=by
  obtain⟨h1,h2,h3⟩:=hm.sp b hb;exact⟨h1,by simp;omega,h3⟩
 mm id b hb:=by
  obtain⟨h1,h2,h3,h4,h5,h6,h8,h7⟩:=hm.mm id b hb;exact⟨h1,by simp;omega,h3,h4,h5,h6,h8,h7.mono (hm.wY o).cK.AR (Below.heap_alloc w o b h2)⟩
 minj:=hm.minj
 len:=hm.len
 cur0:=hm.cur0
def au.pF(hm:au N w0 aq γ w B L)(id:Nat)(aK:B id=none)(D:Nat):Ev w γ w (γ.box id D) where
 size:=zzab _
 ro b o' hb hr:=⟨hr,rfl⟩
 β i b hb:=by
  have:i≠id:=by rintro rfl;obtain⟨_,_,_,_,c,hc⟩:=hm.β i b hb;rw[aK]at hc;cases hc
  simp[G.box,this,hb]
 cur _:=zzab _
 mm _ _ h:=h
 lp:=rfl
 own i b _ ho:=⟨ho,fun arr e he=>⟨arr,he,zzab _⟩,fun _ h=>h⟩
 sp b hb:=⟨hb,rfl⟩
 ss:=Sz.refl w
def au.arU(hm:au N w0 aq γ w B L)(w1:fF){D id:Nat}(aK:B id=none){cells:List AV}{arr:Array Value}{te:TypeId}(hN:N<=D)(hh:w.heap[D]?=some (.cells arr te (0,0)))(qT:¬OI γ D)(c9:∀o,¬γ.ro D o)
  (hr:cF w γ cells arr.toList)(Q5:∀v∈arr.toList,v.oneCell'=true)(hp:w1.p (γ.box id D) w):au N w1 aq (γ.box id D) w (fun i=>if i=id then some cells else B i) L where
 bs:=hp
 hN:=hm.hN
 aq:=hm.aq
 robd:=hm.robd
 box i cs b hb h1:=by
  by_cases hi:i=id
  ·subst hi;simp at hb;subst hb;simp[G.box]at h1;subst h1;exact⟨arr,te,hh,hr.mono (hm.pF i aK D),Q5⟩
  simp[hi]at hb;simp[G.box,hi]at h1;obtain⟨bR,e',h2,h3,h4⟩:=hm.box i cs b hb h1;exact⟨bR,e',h2,h3.mono (hm.pF id aK D),h4⟩
 β i b hb:=by
  by_cases hi:i=id
  ·subst hi;simp[G.box]at hb;subst hb;exact⟨hN,aS hh,c9,fun i' h=>qT (.inr (.inl ⟨i',h⟩)),cells,zd⟩
  simp[G.box,hi]at hb;obtain⟨h1,h2,h3,h4,c,hc⟩:=hm.β i b hb;exact⟨h1,h2,h3,h4,c,by simp[hi,hc]⟩
 inj i i' b h h':=by
  by_cases hi:i=id<;>by_cases di:i'=id
  ·exact .inr (.inr (by rw[hi,di]))
  ·simp[G.box,hi]at h;simp[G.box,di]at h';subst h;exact absurd (.inl ⟨i',h'⟩) qT
  ·simp[G.box,di]at h';simp[G.box,hi]at h;subst h';exact absurd (.inl ⟨i,h⟩) qT
  simp[G.box,hi]at h;simp[G.box,di]at h';simp only[if_neg hi,if_neg di];exact hm.inj i i' b h h'
 own:=hm.own
 oinj:=hm.oinj
 sp b hb:=by
  obtain⟨h1,h2,h3,h4,h5⟩:=hm.sp b hb;refine⟨h1,h2,h3,fun i hi=>?_,h5⟩;by_cases aK:i=id
  ·simp[G.box,aK]at hi;subst hi;exact qT (.inr (.inr (.inl hb)))
  simp[G.box,aK]at hi;exact h4 i hi
 mm i' b hb:=by
  obtain⟨h1,h2,h3,h4,h5,h6,h8,h7⟩:=hm.mm i' b hb
  have aM:i'≠id:=by
   rintro rfl;obtain⟨_,_,hx,_⟩:=h7;rw[aK]at hx;cases hx
  refine⟨h1,h2,h3,fun i hi=>?_,h5,h6,by simp[G.box,aM,h8],?_⟩
  ·by_cases aK:i=id
   ·simp[G.box,aK]at hi;subst hi;exact qT (.inr (.inr (.inr ⟨i',hb⟩)))
   simp[G.box,aK]at hi;exact h4 i hi
  simp only[aM,if_false];exact h7.mono (hm.pF id aK D).cK.AR rfl
 minj:=hm.minj
 len:=hm.len
 cur0:=hm.cur0
def Dh{l:Array Bool}{i j:Nat}:(l.setIfInBounds i true).setIfInBounds j true=(l.setIfInBounds j true).setIfInBounds i true:=by
 by_cases h:i=j
 ·rw[h]
 exact Array.setIfInBounds_comm _ _ h
structure axe (N:Nat) (w0:fF) (r:Option Nat) (aq:Nat->Nat->Prop) (S:G×World) (Y:YT) (P:Program) (gl:Nat->AV) (orc:Nat->FuncId->List AV->AV) (ops:Array Oper) (T0:List AV) (m:AM) (ms:List (AV×AM)) (js:List Nat) (L:List (Nat×AV)) (p jp z t:Nat) (zs:List AV) (listed l0:Array Bool) (γs:G) (ws:World) (arr:Array Value) (te:TypeId) (γ:G) (w:World) (a:Act):Prop where
 eq:listed=l0.setIfInBounds z true
 zl:l0.getD z false=false
 pl:l0.getD jp false=false
 clo:FP ops listed
 inv:rB N (arT γs ws arr te) r aq S Y P gl orc ops T0 m ms js L p l0 γ w a
 st:w0.p γs ws
 hN:N<=ws.heap.size
 slot:t<T0.length->a.tmps.getD t undef=.pointer (some ⟨ws.heap.size,0,none⟩)
 zr:∀w γ,ak w γ zs arr.toList
 zc:zs.all Qw=true
def F4{Q:Exit->Act->World->Prop}{K:AS->Prop}{γ:G}{w:World}{s:AS}{a:Act}{js:List Nat}{jp z t:Nat}(hQ:∀γ w s a,K s->fc N w0 r aq S P gl Y γ w s a->Q .normal a w)(hc:zw ops p=true)(heZ:OP ops p=some (js,jp,z,t))
  (hY:∀i as m K,¬Y i as m K){ms:List (AV×AM)}(h:iF P gl orc Y ((ops.toList.drop p).map (Xm P ops)) K s.m ms ((ops.toList.take p).map (Xm P ops)) (flags ops p js) ms s.m s.T)(hT:s.T.getD t .junk=.junk)(hs:fc N w0 r aq S P gl Y γ w s a):
  wpAnyIn (FW r) 0 P .any ops Q ops.size (Array.replicate ops.size false) a {w with drawn:=w.drawn+1}:=by
 obtain⟨hp,cU⟩:=Zq hc;obtain⟨o8,pz,⟨oz,te,YD,eR,hdz,hgz⟩,hzp,aj6,az,haz,ue⟩:=Li heZ;have qC:js.Nodup:=by rw[o8];exact(zzdl).filter _
 have Df:∀j∈js,j<p:=fun j h=>by rw[o8,zzcg]at h;exact zzbb.1 h.1
 have axf:=zzac ue;have axg:=zzac haz;have afi:=Df z axf;have azw:=Df jp axg
 have hpz:jp≠z:=by
  rintro rfl;have:=Jd qC haz ue;omega
 obtain⟨aH,h1,h2⟩:=ON (P:=P) (gl:=gl) (orc:=orc) (T0:=s.T) (m:=s.m) ((ops.toList.drop p).map (Xm P ops)) K hp o8 p 0 s.m zd (by simp[fC]) (by simp[fC,Vw]) (by simpa[bW,fC]using h);have hyk:∀(w0:fF)(γ:G)(w:World),YOK N w0 aq P Y γ w:=fun _ _ _ _ _ _ i as m K _ _ _ _ hyy=>(hY i as m K hyy).elim;obtain⟨xz,hxz⟩:∃xz,ms[az+1]?=some xz:=⟨ms[az+1]'(by have:=(zza.1 ue).1;omega),zzae _⟩;have YF:=(h1 z oz (zzbt _) afi YD).2.1 (az+1) xz ue hxz
 have JL:∃zs,zc P te=some zs/\tr P oz=.alloc zs:=by
  obtain⟨dst,op,ty,pos,after,guard⟩:=oz;simp only at eR;subst eR;simp only[tr]at YF |-
  cases hzc:zc P te with
  |none=>rw[hzc]at YF;exact absurd YF.1 (by simp[memEff])
  |some zs=>exact⟨zs,rfl,rfl⟩
 obtain⟨zs,hzc,JL⟩:=JL;rw[JL]at YF;obtain⟨_,e1,e2,e3⟩:=YF;have e1:zs.all Qw=true:=e1;have e2:xz.1=.ptr (Vw s.m ms (az+1)).boxes.length 0:=e2;have e3:xz.2={Vw s.m ms (az+1)with boxes:=(Vw s.m ms (az+1)).boxes++[zs]}:=e3
 have full:∀(aX:Nat)(listed:Array Bool)(γ:G)(w:World)(a:Act),rB N w0 r aq S Y P gl orc ops s.T s.m ms js (Xc js ms) p listed γ w a->uc ops listed<=aX->(∀i,i<p->listed.getD i false=true)->wpAnyIn (FW r) 0 P .any ops Q aX listed a w:=by
  intro aX listed γ w a hI jx bF;have hml:Uh listed s.m js ms=Vw s.m ms ms.length:=Jf aH zE (fun b j _ hb=>bF j (Df j (zzac hb))) (fun j hj=>by rw[zzaw zE]at hj;cases hj);have gm:=hI.mm;have gN:=hI.ls;rw[hml]at gm gN;refine Qdz hQ hc aX p listed γ w _ a (zzab _) hp hI.size bF hI.tail jx h2 ⟨gm,gN,hI.rd,⟨?_,fun t x v hx hv=>?_⟩,hI.d,hI.g,hI.y,hI.e⟩
  ·simp[Qen,hI.tl]
  have h1:=hI.tt t
  have hAt:pn P gl orc ops s.T s.m (Xc js ms) p listed t=x:=by
   have iD:(bW P gl orc ops s.T s.m (Xc js ms) p).getD t .junk=x:=by simp only at hx;simp[List.getD,hx]
   unfold pn;split
   ·exact iD
   rename_i hw;rw[<- iD];refine(Qbi p fun j hj hd=>hw ?_).symm;unfold wr;rw[zzbx];exact⟨j,zzbb.2 hj,by rw[bF j hj,hd];simp⟩
  rw[hAt]at h1;have:a.tmps.getD t undef=v:=by simp at hv;simp[hv]
  rwa [this]at h1
 have main:∀(aX:Nat)(listed:Array Bool)(γ:G)(w:World)(a:Act),(rB N w0 r aq S Y P gl orc ops s.T s.m ms js (Xc js ms) p listed γ w a\/∃l0 γs ws arr zn,axe N w0 r aq S Y P gl orc ops s.T s.m ms js (Xc js ms) p jp z t zs listed l0 γs ws arr zn γ w a)->
   uc ops listed<=aX->wpAnyIn (FW r) 0 P .any ops Q aX listed a w:=by
  intro aX;induction aX with
  |zero=>
   intro listed γ w a hI jx;obtain hI|⟨l0,γs,ws,arr,zn,hH⟩:=hI
   ·exact full 0 listed γ w a hI jx fun i hi=>by
     rw[Qz (by rw[hI.size];omega) false true];exact Qdx (zzff.1 jx) zE
   exfalso;have hsz:listed.size=ops.size:=by rw[hH.eq];simp[hH.inv.size]
   have:=Qdx (ops:=ops) (listed:=listed) (zzff.1 jx) (i:=jp) zE;rw[<- Qz (by rw[hsz];omega) false true,hH.eq,Qu hpz,hH.pl]at this;cases this
  |succ aX ih=>
   intro listed γ w a hI jx;obtain hI|⟨l0,γs,ws,arr,zn,hH⟩:=hI
   ·by_cases bF:∀i,i<p->listed.getD i false=true
    ·exact full (aX+1) listed γ w a hI jx bF
    have hex:∃k,k<p/\listed.getD k true=false:=by
     refine Classical.byContradiction fun hn=>bF fun i hi=>?_;rw[Qz (by rw[hI.size];omega) false true];cases hl:listed.getD i true with
     |true=>rfl
     |false=>exact absurd ⟨i,hi,hl⟩ hn
    obtain⟨k,hk,X8⟩:=hex;refine⟨fun hr=>?_,fun i hi=>?_⟩
    ·obtain⟨j,hj⟩:=Ur hc hI.size k k (zzab _) zE X8;rw[hr]at hj;cases hj
    obtain⟨ai,hu,o,ho,bV⟩:=Us hc hi
    have dJ:i<p:=by
     rcases zzaa i p with h|h
     ·exact h
     have:=Qbk hI.clo ho ((cU i o ho).2.2 h) bV i k zE zE;rw[Qz (by rw[hI.size];omega) false true,X8]at this;cases this
    have huf:listed.getD i false=false:=by rw[Qz (by rw[hI.size];exact ai) false true];exact hu
    by_cases hear:i=z/\listed.getD jp false=false
    ·
     obtain⟨rfl,hjp⟩:=hear;rw[YD]at ho;cases ho;obtain⟨iz,zv,hi1,hi2,hi3⟩:=jk (P:=P) (w:=w) (γ:=γ) hzc
     have arV:∀w γ,ak w γ zs zv.cells.toList:=fun w γ=>by
      obtain⟨i',z',q1,q2,q3⟩:=jk (P:=P) (w:=w) (γ:=γ) hzc;rw[hi1]at q1;cases q1;rw[hi2]at q2;cases q2;exact q3
     have bn:(execOp a.eval oz).run P w=.ok (.value (.pointer (some ⟨w.heap.size,0,none⟩))) (w.alloc (.cells zv.cells te)):=by
      obtain⟨dst,op,ty,pos,after,guard⟩:=oz;simp only at eR;subst eR;simp[execOp,Instr.alloc,zeroValue,typeInfo,hi1,hi2,newVar,newRow]
     simp only[wpOpIn,YD];rw[if_pos (by simp[Region.wanted,hgz])];refine Zm bn (ih _ γ _ _ (.inr ⟨listed,γ,w,zv.cells,te,⟨rfl,huf,hjp,FP.set hI.clo YD (by rw[hI.size];exact ai) bV,?_,hI.mm.bs,hI.mm.hN,?_,arV,e1⟩⟩) ?_)
     ·have bT:=hI.mm.wY (.cells zv.cells te);refine⟨hI.size,hI.tail,hI.ch,hI.clo,hI.mm.axd _ _ ?_,hI.ls.mono bT,hI.rd.aW bT.cK,by simp[Act.put,hdz,hI.tl],fun t'=>?_,?_,fun g=>(hI.g g).aW bT.cK.cT,hyk _ _ _,hI.e.trans bT.cK⟩
      ·refine⟨⟨rfl,rfl,rfl,zd,fun b hb _=>Below.heap_alloc w _ b hb,bT.ro,fun _ h=>.inl h,fun _ _ h=>.inl h⟩,zd,heap_alloc_new w _,?_,fun o' cW=>?_⟩
       ·rintro(⟨id,h⟩|⟨id,h⟩|h|⟨id,h⟩)
        ·have:=(hI.mm.β id _ h).2.1;omega
        ·have:=(hI.mm.own id _ h).2.1;omega
        ·have:=(hI.mm.sp _ h).2.1;omega
        have:=(hI.mm.mm id _ h).2.1;omega
       have:=hI.mm.robd _ _ cW;omega
      ·rw[hdz];by_cases htt:t'=t
       ·subst htt
        have hA:pn P gl orc ops s.T s.m (Xc js ms) p listed t'=.junk:=by
         unfold pn;rw[if_neg,hT];intro hw;unfold wr at hw;obtain⟨j,hj,hjw⟩:=zzbx.1 hw;simp only[zzak,beq_iff_eq]at hjw
         have hjz:j=i:=by
          rcases zzeb j i with ck|A5|pe
          ·exact absurd hdz (((cU i oz YD).2.1 afi).2 j ck t' hjw.2)
          ·exact A5
          obtain⟨oj,hoj⟩:=pz j (zzbb.1 hj);have:=((cU j oj hoj).2.1 (zzbb.1 hj)).2 i pe t' (by simp[Vr,YD,hdz]);have h2:=hjw.2;simp[Vr,hoj]at h2;exact absurd h2 this
         rw[hjz,huf]at hjw;exact absurd hjw.1 zd
        rw[hA];exact .junk _
       have:(a.put (some t) (.pointer (some ⟨w.heap.size,0,none⟩))).tmps.getD t' undef=a.tmps.getD t' undef:=by
        simp only[Act.put];simp;rw[zzcs (Ne.symm htt)]
       rw[this];exact(hI.tt t').aW bT.cK
      rw[hdz];exact hI.d.aW bT.cK
     ·intro iR;rw[hdz];have:t<a.tmps.size:=by rw[hI.tl];exact iR
      simp[Act.put,this]
     have:=jv hI.size ai hu;omega
    have jI:∀a j,js[a]?=some j->js[a+1]?=some i->listed.getD j false=true:=fun a j e1 e2=>by
     rcases aj6 a j i o e1 e2 ho with h|⟨rfl,rfl⟩
     ·exact bV j h
     cases hl:listed.getD j false with
     |true=>rfl
     |false=>exact absurd ⟨rfl,hl⟩ hear
    refine wpOpIn_mono ?_ (Qcn hc hI ho dJ (h1 i o (zzbt _) dJ ho).2.2 aH qC hu bV jI (h1 i o (zzbt _) dJ ho).1 (h1 i o (zzbt _) dJ ho).2.1);rintro a' w' ⟨γ',gX,_⟩;refine ih _ γ' w' a' (.inl gX) ?_;have:=jv hI.size ai hu;omega
   have hsz:listed.size=ops.size:=by rw[hH.eq];simp[hH.inv.size]
   have kW:∀k d,k≠z->listed.getD k d=l0.getD k d:=fun k d hk=>by rw[hH.eq,Qu hk]
   have amH:listed.getD jp false=false:=by rw[kW jp false hpz];exact hH.pl
   have arW:jp<listed.size:=by rw[hsz];omega
   have arX:z<l0.size:=by rw[hH.inv.size];omega
   refine⟨fun hr=>?_,fun i hi=>?_⟩
   ·obtain⟨j,hj⟩:=Ur hc hsz jp jp (zzab _) zE (by rw[Qz arW true false];exact amH);rw[hr]at hj;cases hj
   obtain⟨ai,hu,o,ho,bV⟩:=Us hc hi
   have dJ:i<p:=by
    rcases zzaa i p with h|h
    ·exact h
    have:=Qbk hH.clo ho ((cU i o ho).2.2 h) bV i jp zE zE;rw[amH]at this;cases this
   have hiz:i≠z:=by
    rintro rfl;rw[hH.eq,Xu arX]at hu;cases hu
   have aj7:∀j∈Zb o,l0.getD j false=true:=fun j hj=>by
    have hjz:j≠z:=by
     rintro rfl;have:=bV jp (hzp i o dJ ho hj);rw[amH]at this;cases this
    rw[<- kW j false hjz];exact bV j hj
   have hu0:l0.getD i true=false:=by rw[<- kW i true hiz];exact hu
   have jI:∀a j,js[a]?=some j->js[a+1]?=some i->l0.getD j false=true:=fun a j e1 e2=>by
    rcases aj6 a j i o e1 e2 ho with h|⟨_,h⟩
    ·exact aj7 j h
    exact absurd h hiz
   refine wpOpIn_mono ?_ (Qcn (w0:=arT γs ws arr zn) hc hH.inv ho dJ (h1 i o (zzbt _) dJ ho).2.2 aH qC hu0 aj7 jI (h1 i o (zzbt _) dJ ho).1 (h1 i o (zzbt _) dJ ho).2.1);rintro a' w' ⟨γ',gX,iS⟩;have arY:listed.setIfInBounds i true=(l0.setIfInBounds i true).setIfInBounds z true:=by rw[hH.eq];exact Dh
   have hdt:o.dst≠some t:=by
    rcases zzeb i z with ck|A5|pe
    ·intro hd;exact((cU z oz YD).2.1 afi).2 i ck t (by simp[Vr,ho,hd]) hdz
    ·exact absurd A5 hiz
    exact((cU i o ho).2.1 dJ).2 z pe t (by simp[Vr,YD,hdz])
   have aj8:t<s.T.length->a'.tmps.getD t undef=.pointer (some ⟨ws.heap.size,0,none⟩):=fun iR=>by rw[iS t hdt];exact hH.slot iR
   have jx:uc ops (listed.setIfInBounds i true)<=aX:=by
    have:=jv hsz ai hu;omega
   by_cases eE:i=jp
   ·subst eE;have C7:=FP.set hH.clo ho (by rw[hsz];exact ai) bV;refine ih _ (γ'.box (Vw s.m ms (az+1)).boxes.length ws.heap.size) w' a' (.inl ?_) jx;rw[arY]at C7 |-
    obtain⟨c1,c2,c3,c4,c5⟩:=gX.mm.bs;have amI:i<l0.size:=by rw[hH.inv.size];exact ai
    have hz0:(l0.setIfInBounds i true).getD z false=false:=by rw[Qu (Ne.symm hiz)];exact hH.zl
    have Dd:∀b j,b<az+1->js[b]?=some j->(l0.setIfInBounds i true).getD j false=true:=fun b j hb hj=>by
     rcases zzaa b az with ck|bz
     ·exact Qbu gX.ch ck hj haz (Xu amI)
     obtain rfl:b=az:=zE
     rw[haz]at hj;cases hj;exact Xu amI
    have azx:az+1<js.length:=(zza.1 ue).1;have oG:Uh (l0.setIfInBounds i true) s.m js ms=Vw s.m ms (az+1):=Jf aH zE Dd (fun j hj=>by rw[ue]at hj;cases hj;exact hz0)
    have zo:Uh ((l0.setIfInBounds i true).setIfInBounds z true) s.m js ms=xz.2:=by
     have:=Jf (listed:=(l0.setIfInBounds i true).setIfInBounds z true) (m:=s.m) (a:=az+2) aH zE (fun b j hb hj=>?_) (fun j hj=>?_)
     ·rw[this];simp[Vw,List.getD,hxz]
     ·rcases zzaa b (az+1)with h|h
      ·have hjz:j≠z:=by
        rintro rfl;have:=Jd qC hj ue;omega
       rw[Qu hjz];exact Dd b j h hj
      obtain rfl:b=az+1:=zE
      rw[ue]at hj;cases hj;exact Xu (by simpa using arX)
     have hjz:j≠z:=by
      rintro rfl;have:=Jd qC hj ue;omega
     rw[Qu hjz];cases hl:(l0.setIfInBounds i true).getD j false with
     |false=>rfl
     |true=>
      have:=Qbu gX.ch (zzft (az+1)) ue hj hl;rw[hz0]at this;cases this
    have gm:=gX.mm;have gN:=gX.ls;rw[oG]at gm gN;have aK:(Vw s.m ms (az+1)).B (Vw s.m ms (az+1)).boxes.length=none:=by simp[AM.B]
    have bT:=gm.pF _ aK ws.heap.size;refine⟨by simp[hH.inv.size],fun j ek oD=>by rw[Qu zE];exact gX.tail j ek oD,uN gX.ch (fun b j g1 g2=>?_),C7,?_,?_,gX.rd.aW bT.cK,gX.tl,fun t'=>?_,gX.d.aW bT.cK,fun g=>(gX.g g).aW bT.cK.cT,hyk _ _ _,gX.e.trans bT.cK⟩
    ·have:b+1=az+1:=Jd qC g2 ue;obtain rfl:b=az:=zE
     exact Dd _ j (zzft _) g1
    ·rw[zo,e3];have hmA:=gm.arU w0 (te:=zn) aK hH.hN c3 c4 c5 (hH.zr w' γ').toP (Yq (hH.zr w' γ') hH.zc) (w0.st γs ws _ w' hH.st ⟨c1.os,c1.tape,c1.output,c1.size,c1.same,c1.ro,fun b hb=>?_,c1.ron⟩)
     ·have hB:({Vw s.m ms (az+1)with boxes:=(Vw s.m ms (az+1)).boxes++[zs]}:AM).B=fun i=>if i=(Vw s.m ms (az+1)).boxes.length then some zs else(Vw s.m ms (az+1)).B i:=TW _ _;rw[hB];exact hmA
     obtain⟨i',di⟩|hb|hb:=hb
     ·by_cases h:i'=(Vw s.m ms (az+1)).boxes.length
      ·simp[G.box,h]at di;exact .inr zE
      simp[G.box,h]at di;exact c1.oi b (.inl ⟨i',di⟩)
     ·exact c1.oi b (.inr (.inl hb))
     exact c1.oi b (.inr (.inr hb))
    ·rw[zo,e3];exact gN.mono' bT rfl
    rw[Dc hc (by simp[hH.inv.size]) YD afi];by_cases FY:oz.dst=some t'/\t'<s.T.length
    ·rw[if_pos FY];rw[hdz]at FY;obtain⟨axh,Lj⟩:=FY;cases axh;rw[jH (P:=P) (gl:=gl) (orc:=orc) (ops:=ops) (m:=s.m) qC ue hxz,e2,aj8 Lj];exact .ptr (by simp[G.box])
    rw[if_neg FY];exact(gX.tt t').mono bT
   exact ih _ γ' w' a' (.inr ⟨l0.setIfInBounds i true,γs,ws,arr,zn,arY,by rw[Qu (Ne.symm hiz)];exact hH.zl,by rw[Qu (Ne.symm eE)];exact hH.pl,FP.set hH.clo ho (by rw[hsz];exact ai) bV,gX,hH.st,hH.hN,aj8,hH.zr,hH.zc⟩) jx
 have rz:∀j,(Array.replicate ops.size false).getD j false=false:=fun j=>by
  rcases zzaa j ops.size with h|h<;>simp[h]
 have jI:∀YB:List Nat,chn (Array.replicate ops.size false) YB:=fun YB=>by
  induction YB with
  |nil=>trivial
  |cons j r ih=>
   cases r with
   |nil=>trivial
   |cons j' r=>exact⟨fun h=>(by rw[rz]at h;cases h),ih⟩
 have JK:Uh (Array.replicate ops.size false) s.m js ms=s.m:=Jf (a:=0) aH zE (fun b j hb=>zE) (fun j _=>rz j);refine main ops.size _ γ w.drew a (.inl ⟨zd,fun i _ hi=>by simp[hi],jI js,fun j o h=>(by rw[rz]at h;cases h),?_,?_,hs.rd.aW (Ev.drew w γ).cK,?_,fun t=>?_,hs.d.aW (Ev.drew w γ).cK,fun g=>(hs.g g).mono (Ev.drew w γ).cT,hs.y.mono (Ev.drew w γ).cK,hs.e.trans (Ev.drew w γ).cK⟩) ?_
 ·rw[JK];exact hs.m.drew
 ·rw[JK];exact hs.ls.mono (Ev.drew w γ)
 ·have:=hs.t.1;simp at this;omega
 ·have hw:wr ops p (Array.replicate ops.size false) t=false:=by
   unfold wr;rw[zzec];intro j _;rw[rz j];simp
  unfold pn;rw[hw];simp only[zzbp,if_false];have:=(hs.t.mono (Ev.drew w γ)).get t;simpa[List.getD]using this
 unfold uc;exact zzbg (zzev) zd
end
open Go Go.RowKit
inductive SC where
 |skip
 |ops (l:List SO)
 |draw (l l2:List SO)
 |drawE (fl:List Fg) (l l2:List SO)
 |drawZ (z:Nat) (fl:List Fg) (l l2:List SO)
 |seq (a b:SC)
 |cond (x:bN) (a b:SC)
 |block (id:Nat) (c:SC)
 |loop (c:SC)
 |exit (id:Nat)
 |scope (c:SC)
 |rfunc (g:bN) (ps:List Nat) (lV body:SC)
 |ret
 |bad
def Kj:List Nat->SC->SC
 |[],c=>c
 |0::p,.seq x _=>Kj p x
 |_::p,.seq _ x=>Kj p x
 |0::p,.cond _ x _=>Kj p x
 |_::p,.cond _ _ x=>Kj p x
 |_::p,.block _ x=>Kj p x
 |_::p,.loop x=>Kj p x
 |_::p,.scope x=>Kj p x
 |0::p,.rfunc _ _ x _=>Kj p x
 |_::p,.rfunc _ _ _ x=>Kj p x
 |_,c=>c
def zR:List Nat->SC->SC->SC
 |[],_,t=>t
 |0::p,.seq x y,t=>.seq (zR p x t) y
 |_::p,.seq y x,t=>.seq y (zR p x t)
 |0::p,.cond c x y,t=>.cond c (zR p x t) y
 |_::p,.cond c y x,t=>.cond c y (zR p x t)
 |_::p,.block n x,t=>.block n (zR p x t)
 |_::p,.loop x,t=>.loop (zR p x t)
 |_::p,.scope x,t=>.scope (zR p x t)
 |0::p,.rfunc g l x y,t=>.rfunc g l (zR p x t) y
 |_::p,.rfunc g l y x,t=>.rfunc g l y (zR p x t)
 |_,c,_=>c
def amJ(n:Nat):List Nat->List Nat
 |[]=>[n]
 |k::l=>bif n.ble k then(bif n.beq k then k::l else n::k::l)else k::amJ n l
def Di(r:List Nat):List SO->List Nat
 |[]=>r
 |o::l=>match o.dst with|some n=>amJ n (Di r l)|none=>Di r l
def arZ(r:List Nat):List Nat->List Nat
 |[]=>r
 |n::l=>amJ n (arZ r l)
def rW(r:List Nat):SC->List Nat
 |.ops l=>Di r l
 |.draw l k=>Di (Di r k) l
 |.drawE _ l k=>Di (Di r k) l
 |.drawZ _ _ l k=>Di (Di r k) l
 |.seq x y=>rW (rW r y) x
 |.cond _ x y=>rW (rW r y) x
 |.block _ x=>rW r x
 |.loop x=>rW r x
 |.scope x=>rW r x
 |.rfunc _ l x y=>rW (rW (arZ r l) y) x
 |_=>r
abbrev uf(p:List Nat)(c:SC):={x:SC // x=Kj p c}
abbrev Kq(p:List Nat)(c:SC):={x:SC->SC // ∀t,x t=zR p c t}
abbrev wT(p:List Nat)(c:SC):={x:List Nat // x=rW [] (Kj p c)}
def lq{P:Program}{ops:Array Oper}{p:Nat}{js:List Nat}(hc:zw ops p=true):(flags ops p js).length=((ops.toList.take p).map (Xm P ops)).length:=by
 have:=(Zq hc).1;simp[flags];omega
def amK{P:Program}{ops:Array Oper}{p:Nat}{js:List Nat}(hc:zw ops p=true)(h:afh (flags ops p js++bkF ops p js) ((ops.toList.take p).map (Xm P ops))=true):wW ops p js=true:=by
 unfold afh at h;rw[<- lq (js:=js) hc,zzfq]at h;unfold bkF at h;cases hb:wW ops p js with
 |true=>rfl
 |false=>rw[hb]at h;simp at h
def Yo(P:Program):Code->SC
 |.skip=>.skip
 |.region _ ops false=>.ops (ops.toList.map (Xm P ops))
 |.region _ ops true=>if P.follows .mixedOrders&&zw ops (TY ops)then(match nI ops (TY ops)with
  |some js=>.drawE (flags ops (TY ops) js++bkF ops (TY ops) js) ((ops.toList.take (TY ops)).map (Xm P ops)) ((ops.toList.drop (TY ops)).map (Xm P ops))
  |none=>(match OP ops (TY ops)with
   |some (js,_,_,t)=>.drawZ t (flags ops (TY ops) js) ((ops.toList.take (TY ops)).map (Xm P ops)) ((ops.toList.drop (TY ops)).map (Xm P ops))
   |none=>.draw ((ops.toList.take (TY ops)).map (Xm P ops)) ((ops.toList.drop (TY ops)).map (Xm P ops))))else .bad
 |.seq a b=>.seq (Yo P a) (Yo P b)
 |.cond c a b=>.cond (aB c) (Yo P a) (Yo P b)
 |.block id c=>.block id (Yo P c)
 |.loop c=>.loop (Yo P c)
 |.exit id=>.exit id
 |.label _=>.skip
 |.scope c=>.scope (Yo P c)
 |.rangeFunc g ps lV body=>.rfunc (aB g) ps.toList (Yo P lV) (Yo P body)
 |.ret=>.ret
 |_=>.bad
def qE(st:Nat->LS)(l:Nat)(x:LS):Nat->LS:=fun i=>if i=l then x else st i
def AM.at_(m:AM)(l:Nat)(x:LS):AM:={m with st:=qE m.st l x}
def AM.bu(m:AM):AM:={m with st:=qE m.st m.ln .ready,ln:=m.ln+1}
def Qas(T:List AV):List Nat->List AV->List AV
 |p::ps,x::xs=>Qas (T.set p x) ps xs
 |_,_=>T
section vc
variable (P:Program) (gl:Nat->AV) (orc:Nat->FuncId->List AV->AV) (Y:YT)
def YG(k:AS->(Exit->AS->Prop)->Prop)(Q:Exit->AS->Prop):Exit->AS->Prop
 |.normal,s=>k s Q
 |ex,s=>Q ex s
def rC(id:Nat)(Q:Exit->AS->Prop):Exit->AS->Prop
 |.exit id',s=>if id'=id then Q .normal s else Q (.exit id') s
 |ex,s=>Q ex s
def wZ(Q:Exit->AS->Prop):Exit->AS->Prop
 |.goto _,_=>False
 |ex,s=>Q ex s
def nJ(I:AS->Prop)(μ:AS->Nat)(s:AS)(Q:Exit->AS->Prop):Exit->AS->Prop
 |.normal,s'=>I s'/\μ s'<μ s
 |ex,s'=>Q ex s'
def Ll(l:Nat)(K:Bool->AM->Prop):Exit->AS->Prop
 |.normal,s=>K true (s.m.at_ l .ready)
 |.ret,s=>K false (s.m.at_ l (.done .ret))
 |.exit id,s=>K false (s.m.at_ l (.done (.exit id)))
 |_,_=>False
def F5(l:Nat)(k:AS->Prop):Exit->AS->Prop
 |.normal,s=>s.m.st l=.ready/\k ⟨s.T,s.m.at_ l .busy⟩
 |_,_=>False
def zS(l:Nat)(T:List AV)(m:AM)(Q:Exit->AS->Prop):LS->Prop
 |.ready=>Q .normal ⟨T,m.at_ l .gone⟩
 |.done ex=>Q ex ⟨T,m.at_ l .gone⟩
 |_=>False
def Yin(l n:Nat)(k:List AV->AM->(Bool->AM->Prop)->Prop):YT:=fun l' args m K=>if l'=l then m.st l=.ready/\args.length=n/\k args m K else Y l' args m K
def vc:SC->AS->(Exit->AS->Prop)->Prop
 |.skip,s,Q=>Q .normal s
 |.ops l,s,Q=>Zy P gl orc Y l s (Q .normal)
 |.draw l l2,s,Q=>vcD P gl orc Y l2 (Q .normal) l s.T s.m []
 |.drawE fl l l2,s,Q=>vcD P gl orc Y l2 (Q .normal) l s.T s.m []\/(∃ms,uM P gl orc Y l2 (Q .normal) s.m ms l fl ms s.m s.T)\/(afh fl l=true/\∃(ms:List (AV×AM))(R:AV->AM->Prop),(∃x:AV×AM,R x.1 x.2)/\∀x:AV×AM,R x.1 x.2->lg P gl orc Y R l2 (Q .normal) s.m (ms++[x]) l fl (ms++[x]) s.m s.T)\/∃ms,iF P gl orc Y l2 (Q .normal) s.m ms l fl ms s.m s.T
 |.drawZ z fl l l2,s,Q=>(∀i as m K,¬Y i as m K)/\s.T.getD z .junk=.junk/\∃ms,iF P gl orc Y l2 (Q .normal) s.m ms l fl ms s.m s.T
 |.seq a b,s,Q=>vc a s (YG (vc b) Q)
 |.cond x a b,s,Q=>match ev gl s.T x with
  |.bool t=>(t=true->vc a s Q)/\(t=false->vc b s Q)
  |_=>False
 |.block id c,s,Q=>vc c s (rC id Q)
 |.loop c,s,Q=>∃(I:AS->Prop)(μ:AS->Nat),I s/\∀s',I s'->vc c s' (nJ I μ s' Q)
 |.exit id,s,Q=>Q (.exit id) s
 |.scope c,s,Q=>vc c s (wZ Q)
 |.rfunc g ps lV body,s,Q=>match ev gl s.T g with
  |.fn f first cap=>s.m.st s.m.ln=.gone->an P gl (Yin Y s.m.ln ps.length fun args m K=>vc lV ⟨Qas s.T ps args,m⟩ (F5 s.m.ln fun s'=>vc body s' (Ll s.m.ln K))) f (first++[.yld s.m.ln]++cap) (s.m.bu)
    fun _ m'=>zS s.m.ln s.T m' Q (m'.st s.m.ln)
  |_=>False
 |.ret,s,Q=>Q .ret s
 |.bad,_,_=>False
end vc
section
variable {N:Nat} {w0:fF} {r:Option Nat} {aq:Nat->Nat->Prop} {S:G×World} {Y:YT} {P:Program} {gl:Nat->AV} {orc:Nat->FuncId->List AV->AV} {γ:G} {w:World}
def lift(N:Nat)(w0:fF)(r:Option Nat)(aq:Nat->Nat->Prop)(S:G×World)(P:Program)(gl:Nat->AV)(Y:YT)(Q:Exit->AS->Prop):Exit->Act->World->Prop:=fun ex a w=>∃γ s,fc N w0 r aq S P gl Y γ w s a/\Q ex s
def au.YH{B:Nat->Option (List AV)}{L:Nat->Option Nat}(hm:au N w0 aq γ w B L)(o:Obj):
  au N w0 aq {γ with sp:=fun b=>γ.sp b\/b=w.heap.size} (w.alloc o) B L/\Ev w γ (w.alloc o) {γ with sp:=fun b=>γ.sp b\/b=w.heap.size}:=by
 have bT:Ev w γ (w.alloc o) {γ with sp:=fun b=>γ.sp b\/b=w.heap.size}:=
  ⟨zd,fun b o' hb hr=>⟨hr,cell_of_heap (Below.heap_alloc w o b hb)⟩,fun _ _ h=>h,fun _=>zzab _,fun _ _ h=>h,rfl,
   fun i b _ ho=>⟨ho,fun arr e he=>⟨arr,by rw[Below.heap_alloc w o b (hm.own i b ho).2.1];exact he,zzab _⟩,fun _ h=>h⟩,
   fun b hb=>⟨.inl hb,Below.heap_alloc w o b (hm.sp b hb).2.1⟩,Sz.of_same (Below.heap_alloc w o)⟩
 refine⟨⟨w0.st _ _ _ _ hm.bs ⟨rfl,rfl,rfl,zd,fun b hb _=>Below.heap_alloc w _ b hb,bT.ro,fun b hb=>?_,fun _ _ h=>.inl h⟩,by have:=hm.hN;simp;omega,hm.aq,fun b o h=>by have:=hm.robd b o h;simp;omega,
  fun id cells b hb h1=>?_,fun id b hb=>?_,hm.inj,fun id b hb=>?_,hm.oinj,fun b hb=>?_,fun id b hb=>?_,hm.minj,hm.len,hm.cur0⟩,bT⟩
 ·obtain hb|hb|(hb|rfl)|hb:=hb
  ·exact .inl (.inl hb)
  ·exact .inl (.inr (.inl hb))
  ·exact .inl (.inr (.inr (.inl hb)))
  ·exact .inr (zzab _)
  exact .inl (.inr (.inr (.inr hb)))
 ·obtain⟨arr,e,h2,h3,h4⟩:=hm.box id cells b hb h1;exact⟨arr,e,by rw[Below.heap_alloc w _ b (aS h2)];exact h2,h3.mono bT,h4⟩
 ·obtain⟨h1,h2,h3⟩:=hm.β id b hb;exact⟨h1,by simp;omega,h3⟩
 ·obtain⟨h1,h2,h3⟩:=hm.own id b hb;exact⟨h1,by simp;omega,h3⟩
 ·obtain hb|rfl:=hb
  ·obtain⟨h1,h2,h3⟩:=hm.sp b hb;exact⟨h1,by simp;omega,h3⟩
  refine⟨hm.hN,zd,fun o' h=>?_,fun id h=>?_,fun id h=>?_⟩
  ·have:=hm.robd _ _ h;omega
  ·have:=(hm.β id _ h).2.1;omega
  have:=(hm.own id _ h).2.1;omega
 obtain⟨h1,h2,h3,h4,h5,h6,h8,h7⟩:=hm.mm id b hb;refine⟨h1,by simp;omega,h3,h4,h5,?_,h8,h7.mono bT.cK.AR (Below.heap_alloc w o b h2)⟩;rintro(h|rfl)
 ·exact h6 h
 omega
def au.aj9{B:Nat->Option (List AV)}{L:Nat->Option Nat}(hm:au N w0 aq γ w B L){D:Nat}(hD:γ.sp D){o o0:Obj}(h0:w.heap[D]?=some o0)(hnc:∀c e f,o0≠.cells c e f)(axi:∀c e f,o≠.cells c e f)
  {γ':G}(hγ:γ'=γ\/γ'={γ with sp:=fun b=>γ.sp b/\b≠D})(ar0:γ'=γ->qR (some o0) (some o)):
  au N w0 aq γ' (w.putObj D o) B L/\Ox w γ (w.putObj D o) γ'/\(∀wS γS,eP wS γS w γ->(γ'=γ\/¬γS.sp D)->eP wS γS (w.putObj D o) γ'):=by
 have ai:D<w.heap.size:=aS h0;have cR:∀b,b≠D->(w.putObj D o).heap[b]?=w.heap[b]?:=fun b hb=>World.putObj_heap_other hb;have FK:(w.putObj D o).heap[D]?=some o:=World.putObj_heap_same ai
 have bO:∀b o',(w.putObj D o).cell? ⟨b,o',none⟩=w.cell? ⟨b,o',none⟩:=fun b o'=>by
  by_cases hb:b=D
  ·subst hb;simp only[World.cell?,FK,h0];cases o<;>cases o0<;>first|rfl|exact absurd rfl (hnc _ _ _)|exact absurd rfl (axi _ _ _)
  exact cell_of_heap (cR b hb)
 have hβ:γ'.β=γ.β:=by rcases hγ with rfl|rfl<;>rfl
 have fh:γ'.own=γ.own:=by rcases hγ with rfl|rfl<;>rfl
 have dH:γ'.cur=γ.cur:=by rcases hγ with rfl|rfl<;>rfl
 have c9:γ'.ro=γ.ro:=by rcases hγ with rfl|rfl<;>rfl
 have gm:γ'.mm=γ.mm:=by rcases hγ with rfl|rfl<;>rfl
 have hlp:γ'.lp=γ.lp:=by rcases hγ with rfl|rfl<;>rfl
 have cU:∀b,γ'.sp b->γ.sp b:=by obtain rfl|rfl:=hγ;exact fun _ h=>h;exact fun _ h=>h.1
 have amL:∀b,γ.sp b->b≠D->γ'.sp b:=fun b hb h=>by
  obtain rfl|rfl:=hγ
  ·exact hb
  exact⟨hb,h⟩
 have hsz:Sz w (w.putObj D o):=fun b' arr e f h=>⟨arr,by rw[cR b' (by rintro rfl;rw[h0]at h;cases h;exact hnc _ _ _ rfl)];exact h,rfl⟩
 have afj:Ox w γ (w.putObj D o) γ':=by
  refine⟨zd,fun b o' _ hr=>⟨by rw[c9];exact hr,bO b o'⟩,fun _ _ h=>by rw[hβ];exact h,fun _=>by rw[dH];exact zzab _,fun _ _ h=>by rw[gm];exact h,fun _ _ h=>by rw[hlp];exact h,fun id b _ ho=>⟨by rw[fh];exact ho,fun arr e he=>⟨arr,?_,zzab _⟩,fun _ h=>by rw[c9]at h;exact h⟩,hsz⟩;rw[cR b (by rintro rfl;exact(hm.sp b hD).2.2.2.2 id ho)];exact he
 refine⟨⟨w0.st _ _ _ _ hm.bs ⟨rfl,rfl,rfl,zd,fun b _ qT=>cR b (by rintro rfl;exact qT (.inr (.inr (.inl hD)))),afj.ro,fun b hb=>.inl ?_,fun b o' h=>.inl (by rw[c9]at h;exact h)⟩,by simpa using hm.hN,
  fun b o' h=>hm.aq b o' (by rw[c9]at h;exact h),fun b o' h=>by rw[c9]at h;simpa using hm.robd b o' h,fun id cells b hb h1=>?_,fun id b hb=>?_,fun id id' b h h'=>hm.inj id id' b (by rw[hβ]at h;exact h) (by rw[hβ]at h';exact h'),
  fun id b hb=>?_,fun id id' b h h'=>hm.oinj id id' b (by rw[fh]at h;exact h) (by rw[fh]at h';exact h'),fun b hb=>?_,fun id b hb=>?_,fun id id' b h h'=>hm.minj id id' b (by rw[gm]at h;exact h) (by rw[gm]at h';exact h'),fun id n h=>by rw[dH];exact hm.len id n h,fun id h=>by rw[dH];exact hm.cur0 id h⟩,afj,fun wS γS e hc=>?_⟩
 ·obtain⟨id,hb⟩|⟨id,hb⟩|hb|⟨F,hb⟩:=hb
  ·rw[hβ]at hb;exact .inl ⟨id,hb⟩
  ·rw[fh]at hb;exact .inr (.inl ⟨id,hb⟩)
  ·exact .inr (.inr (.inl (cU b hb)))
  rw[gm]at hb;exact .inr (.inr (.inr ⟨F,hb⟩))
 ·rw[hβ]at h1;obtain⟨arr,e,h2,h3,h4⟩:=hm.box id cells b hb h1;exact⟨arr,e,by rw[cR b (by rintro rfl;exact(hm.sp b hD).2.2.2.1 id h1)];exact h2,h3.fA afj,h4⟩
 ·rw[hβ]at hb;obtain⟨h1,h2,h3,h4,h5⟩:=hm.β id b hb;exact⟨h1,by simpa using h2,by rw[c9];exact h3,by rw[fh];exact h4,h5⟩
 ·rw[fh]at hb;simpa using hm.own id b hb
 ·obtain⟨h1,h2,h3,h4,h5⟩:=hm.sp b (cU b hb);exact⟨h1,by simpa using h2,by rw[c9];exact h3,by rw[hβ];exact h4,by rw[fh];exact h5⟩
 ·rw[gm]at hb;obtain⟨h1,h2,h3,h4,h5,h6,h8,h7⟩:=hm.mm id b hb;exact⟨h1,by simpa using h2,by rw[c9];exact h3,by rw[hβ];exact h4,by rw[fh];exact h5,fun h=>h6 (cU b h),by rw[hβ];exact h8,h7.mono afj (cR b (by rintro rfl;exact h6 hD))⟩
 refine⟨by simpa using e.size,fun b o' hb hr=>⟨by rw[c9];exact(e.ro b o' hb hr).1,(bO b o').trans (e.ro b o' hb hr).2⟩,fun id b h=>by rw[hβ];exact e.β id b h,fun id=>by rw[dH];exact e.cur id,fun b F h=>by rw[gm];exact e.mm b F h,fun i l h=>by rw[hlp];exact e.lp i l h,fun id b oW ho=>?_,fun b hb=>?_,e.ss.trans hsz⟩
 ·rw[dH]at oW;obtain⟨g1,g2,g3⟩:=e.own id b oW ho;refine⟨by rw[fh];exact g1,fun arr te he=>?_,fun o' h=>g3 o' (by rw[c9]at h;exact h)⟩;obtain⟨bR,k1,k2⟩:=g2 arr te he;exact⟨bR,by rw[cR b (by rintro rfl;exact(hm.sp b hD).2.2.2.2 id g1)];exact k1,k2⟩
 obtain⟨g1,g2⟩:=e.sp b hb;by_cases hbD:b=D
 ·subst hbD;obtain rfl|hc:=hc
  ·refine⟨g1,g2.trans ?_⟩;rw[h0,FK];exact ar0 rfl
  exact absurd hb hc
 exact⟨amL b g1 hbD,by rw[cR b hbD];exact g2⟩
def Kb{b:Frame}{a:Act}{k:List Item}{cs:List Frame}{w:World}{c:Code}:step P (lone (b.atR a (.code (.scope c)::k)) cs w)=.next (lone (b.atR a (.code c::.inScope c::k)) cs w):=
 step_lone_go (by simp[stepG,stepG.exec,Frame.atR])
def zT{b:Frame}{a:Act}{k:List Item}{cs:List Frame}{w:World}{c:Code}:step P (lone (b.atR a (.inScope c::k)) cs w)=.next (lone (b.atR a k) cs w):=
 step_lone_go (by simp[stepG,stepG.exec,Frame.atR])
def lW{c:Code}{Q:Exit->Act->World->Prop}{a:Act}{w:World}(h:c.wpIn (FW r) 0 P (Exit.noGoto Q) a w):(Code.scope c).wpIn (FW r) 0 P Q a w:=by
 intro b k cs c9 hb hr;obtain⟨e,a₁,w₁,hq,fJ⟩:=h b (.inScope c::k) cs c9 hb hr;have h0:(lone (b.atR a (.code (.scope c)::k)) cs w).fenced P (FW r):=fenced_calm hb hr rfl;cases e with
 |normal=>exact⟨.normal,a₁,w₁,hq,.head h0 Kb (StepsIn.trans fJ (.one (fenced_calm hb hr rfl) zT))⟩
 |exit id=>
  refine⟨.exit id,a₁,w₁,hq,fun k' hk=>.head h0 Kb (fJ.1 k' (by simp[exitTo,hk])),fun A1 hk=>?_⟩;obtain⟨k₁,h1,h2⟩:=fJ.2 A1 (by simp[exitTo,hk]);exact⟨k₁,h1,.head h0 Kb h2⟩
 |goto l=>exact hq.elim
 |ret=>exact⟨_,a₁,w₁,hq,.of_steps (.one h0 Kb) fJ⟩
 |panic ch=>exact⟨_,a₁,w₁,hq,.of_steps (.one h0 Kb) fJ⟩
 |outgrown=>exact⟨_,a₁,w₁,hq,.of_steps (.one h0 Kb) fJ⟩
def F6{γ:G}{w:World}:∀(ps:List Nat)(args:List AV)(vs:List Value)(T:List AV)(arr:Array Value),args.length=ps.length->ak w γ args vs->ak w γ T arr.toList->
  ak w γ (Qas T ps args) ((ps.toArray.zip vs.toArray).foldl (fun(tmps:Array Value)(p:Nat×Value)=>tmps.setIfInBounds p.1 p.2) arr).toList:=by
 intro ps args vs T arr hl hr ht
 have e:(ps.toArray.zip vs.toArray).foldl (fun(tmps:Array Value)(p:Nat×Value)=>tmps.setIfInBounds p.1 p.2) arr=(ps.zip vs).foldl (fun(tmps:Array Value)(p:Nat×Value)=>tmps.setIfInBounds p.1 p.2) arr:=by
  rw[<- Array.foldl_toList];simp
 rw[e];clear e;induction ps generalizing args vs T arr with
 |nil=>
  cases args with
  |nil=>simpa[Qas]using ht
  |cons x xs=>simp at hl
 |cons p ps ih=>
  cases args with
  |nil=>simp at hl
  |cons x xs=>
   cases vs with
   |nil=>have:=hr.1;simp at this
   |cons v vs=>
    have h0:aC w γ x v:=hr.2 0 x v rfl rfl;have hs:ak w γ xs vs:=⟨by have:=hr.1;simpa using this,fun i x y h1 h2=>hr.2 (i+1) x y (by simpa using h1) (by simpa using h2)⟩;simp only[zzdf,zzd,Qas];refine ih xs vs _ _ (by simpa using hl) hs ?_;rw[zzdj];exact ht.set p h0
def cZ.put{m:AM}{i l:Nat}{rc:Loop}{x:LS}(h:cZ γ w m)(hi:γ.lp i=some l)(cU:γ.sp l)(hl:l<w.heap.size)(hx:Lc x rc):cZ γ (w.putObj l (.loop rc)) (m.at_ i x):=by
 refine⟨fun i'=>?_,h.2.1,h.2.2.1,fun i' l' eM=>?_⟩
 rotate_left
 ·obtain⟨q1,r,q2⟩:=h.2.2.2 i' l' eM;by_cases w8:l'=l
  ·subst w8;exact⟨q1,rc,World.putObj_heap_same hl⟩
  exact⟨q1,r,(World.putObj_heap_other w8).trans q2⟩
 by_cases di:i'=i
 ·subst di;exact .inr ⟨l,hi,cU,rc,World.putObj_heap_same hl,by simpa[AM.at_,qE]using hx⟩
 rcases h.1 i' with h'|⟨l',h0,h1,r,h2,h3⟩
 ·exact .inl (by simp[AM.at_,qE,di,h'])
 have eM:l'≠l:=by rintro rfl;exact di (h.2.2.1 _ _ _ h0 hi)
 exact .inr ⟨l',h0,h1,r,(World.putObj_heap_other eM).trans h2,by simpa[AM.at_,qE,di]using h3⟩
def G.dY(γ:G)(i l:Nat):G:={γ with lp:=fun j=>if j=i then some l else γ.lp j}
def F7(w:World){γ:G}{i l:Nat}(h:γ.lp i=none):eP w γ w (γ.dY i l):=
 ⟨zzab _,fun _ _ _ h=>⟨h,rfl⟩,fun _ _ h=>h,fun _=>zzab _,fun _ _ h=>h,fun j l' hj=>by
  have:j≠i:=by rintro rfl;rw[h]at hj;cases hj
  simp[G.dY,this,hj],fun _ _ _ h=>⟨h,fun arr _ h=>⟨arr,h,zzab _⟩,fun _ h=>h⟩,fun _ h=>⟨h,.inl rfl⟩,Sz.refl w⟩
def au.dY{B:Nat->Option (List AV)}{L:Nat->Option Nat}(hm:au N w0 aq γ w B L){i l:Nat}(h:γ.lp i=none):au N w0 aq (γ.dY i l) w B L:=by
 have bT:=(F7 w h (l:=l)).AR;refine⟨w0.st _ _ _ _ hm.bs ⟨rfl,rfl,rfl,zzab _,fun _ _ _=>rfl,fun _ _ _ h=>⟨h,rfl⟩,fun _ hb=>.inl hb,fun _ _ h=>.inl h⟩,hm.hN,hm.aq,hm.robd,fun id cells b hb h1=>?_,hm.β,hm.inj,hm.own,hm.oinj,hm.sp,fun id b hb=>?_,hm.minj,hm.len,hm.cur0⟩
 ·obtain⟨arr,e,h2,h3,h4⟩:=hm.box id cells b hb h1;exact⟨arr,e,h2,h3.fA bT,h4⟩
 obtain⟨h1,h2,h3,h4,h5,h6,h8,h7⟩:=hm.mm id b hb;exact⟨h1,h2,h3,h4,h5,h6,h8,h7.mono bT rfl⟩
def pG{B:Nat->Option (List AV)}{L:Nat->Option Nat}(hm:au N w0 aq γ w B L){l:Nat}(hl:γ.sp l){rc:Loop}(h0:w.heap[l]?=some (.loop rc))(st:LoopState)(pd:Option Code):
  au N w0 aq γ (w.putObj l (.loop {rc with state:=st,pending:=pd})) B L/\eP w γ (w.putObj l (.loop {rc with state:=st,pending:=pd})) γ:=by
 obtain⟨h1,_,h3⟩:=hm.aj9 hl (o:=.loop {rc with state:=st,pending:=pd}) h0 (fun _ _ _ h=>by cases h) (fun _ _ _ h=>by cases h) (.inl rfl) (fun _=>.inr ⟨rc,st,pd,rfl,rfl⟩);exact⟨h1,h3 w γ (Ev.refl w γ).cK (.inl rfl)⟩
def F8{g:Operand}{ps:Array Tmp}{lV body:Code}
  (ihA:∀(l:Nat)(S:G×World)(γ:G)(w:World)(s:AS)(a:Act)(Q:Exit->AS->Prop),vc P gl orc Y (Yo P lV) s Q->fc N w0 (some l) aq S P gl Y γ w s a->lV.wpIn (FW (some l)) 0 P (lift N w0 (some l) aq S P gl Y Q) a w)
  (ihB:∀(l:Nat)(S:G×World)(γ:G)(w:World)(s:AS)(a:Act)(Q:Exit->AS->Prop),vc P gl orc Y (Yo P body) s Q->fc N w0 (some l) aq S P gl Y γ w s a->body.wpIn (FW (some l)) 0 P (lift N w0 (some l) aq S P gl Y Q) a w)
  {s:AS}{a:Act}{Q:Exit->AS->Prop}(h:vc P gl orc Y (Yo P (.rangeFunc g ps lV body)) s Q)(hs:fc N w0 r aq S P gl Y γ w s a):
  (Code.rangeFunc g ps lV body).wpIn (FW r) 0 P (lift N w0 r aq S P gl Y Q) a w:=by
 simp only[Yo,vc]at h;have hg:=hs.ev g;split at h
 case h_2=>exact h.elim
 rename_i f first cap e1
 rw[e1]at hg;obtain⟨fa,ca,hv,r1,r2⟩:=hg.qU;refine wpIn_rangeFunc fun fn _=>?_
 obtain⟨l,mark,w1,γ1',rc,he,oE,hsp1',hm1',hev1',hd1',WY⟩:∃(l:Nat)(mark:List Deferred)(w1:World)(γ1:G)(df:Nat),
   (Instr.enterLoop fn a.tmps ps lV body (FW r).round).run P w=.ok (l,mark) w1/\w1.heap[l]?=some (.loop {state:=.ready,pending:=none,fn,tmps:=a.tmps,params:=ps,assign:=lV,body,defers:=df})/\γ1.sp l/\
   au N w0 aq γ1 w1 s.m.B s.m.L/\Ev w γ w1 γ1/\Dfr S.2.heap.size γ1 w1 (mark++a.defers)/\w.heap.size<=l:=by
  cases r with
  |none=>
   obtain⟨oG,fK⟩:=hs.m.YH (.deferred (some []));obtain⟨zo,ar1⟩:=oG.YH (.loop {state:=.ready,pending:=none,fn,tmps:=a.tmps,params:=ps,assign:=lV,body,defers:=w.heap.size});refine⟨w.heap.size+1,_,_,_,w.heap.size,run_enterLoop_outer fn a.tmps ps lV body,?_,Or.inr zd,zo,fK.trans ar1,?_,zE⟩
   ·have:=World.alloc_heap_new (w.alloc (.deferred (some []))) (.loop {state:=.ready,pending:=none,fn,tmps:=a.tmps,params:=ps,assign:=lV,body,defers:=w.heap.size});simpa using this
   have hd:=hs.d.aW (fK.trans ar1).cK
   have o9:∀x∈a.defers,∀D,x.target=.collected D->D<w.heap.size:=fun x hx D hD=>by
    obtain⟨D',q1,_,_,q4⟩:=hs.d.2.1 x hx;rw[hD]at q1;cases q1;exact aS q4
   refine⟨hd.1,fun x hx=>?_,?_⟩
   ·simp only[zzad,zzah,zzat]at hx;obtain rfl|hx:=hx
    ·refine⟨w.heap.size,rfl,hs.d.1,.inl (.inr rfl),?_⟩;rw[Below.heap_alloc _ _ _ zd];exact World.alloc_heap_new w _
    exact hd.2.1 x hx
   simp only[zzad,zzah,zzch];refine⟨fun x hx D hD iD=>?_,hd.2.2⟩;simp at hD;have:=o9 x hx D iD;omega
  |some l0=>
   obtain⟨kW,ar2,ar3⟩:=hs.rd l0 rfl;obtain⟨oG,fK⟩:=hs.m.YH (.loop {state:=.ready,pending:=none,fn,tmps:=a.tmps,params:=ps,assign:=lV,body,defers:=ar2.defers});exact⟨w.heap.size,[],_,_,ar2.defers,run_enterLoop_inner ar3 fn a.tmps ps lV body,World.alloc_heap_new w _,Or.inr rfl,oG,fK,hs.d.aW fK.cK,zzab _⟩
 have ez:l<w1.heap.size:=aS oE;generalize dy:s.m.ln=i at h;have YI:=hs.ls.mono hev1';have aka:γ1'.lp i=none:=YI.2.1 i zE
 have FQ:∀j,γ1'.lp j≠some l:=fun j hj=>by
  rw[hev1'.lp]at hj;have:=(hs.m.sp l (hs.ls.2.2.2 j l hj).1).2.1;omega
 let γ1:=γ1'.dY i l
 have ar4:eP w1 γ1' w1 γ1:=F7 w1 aka;have fK:eP w γ w1 γ1:=hev1'.cK.trans ar4;have oG:au N w0 aq γ1 w1 s.m.B s.m.L:=hm1'.dY aka;have YJ:γ1.sp l:=hsp1';have YK:γ1.lp i=some l:=by simp[γ1,G.dY]
 have hd1:=hd1'.aW ar4
 have hE:=h (by
  rcases hs.ls.1 i with h|⟨l',h0,_⟩
  ·exact h
  rw[hs.ls.2.1 i zE]at h0;cases h0)
 have oR:ak w1 γ1 (first++[.yld i]++cap) (fa.toList++[.func (.yield l) #[] #[]]++ca.toList):=((r1.aW fK).append (ak.cons (.yld YK) ak.nil)).append (r2.aW fK)
 have axj:cZ γ1 w1 s.m.bu:=by
  refine⟨fun j=>?_,fun j hj=>?_,fun j j' l' h1 h2=>?_,fun j l' h1=>?_⟩
  ·by_cases hj:j=i
   ·subst hj;exact .inr ⟨l,YK,YJ,_,oE,by simp[AM.bu,qE,dy,Lc]⟩
   rcases YI.1 j with h|⟨l',h0,h1,r',h2,h3⟩
   ·exact .inl (by simp[AM.bu,qE,dy,hj,h])
   exact .inr ⟨l',by simp[γ1,G.dY,hj,h0],h1,r',h2,by simpa[AM.bu,qE,dy,hj]using h3⟩
  ·have OA:i+1<=j:=by simpa[AM.bu,dy]using hj
   have:j≠i:=zE
   simp[γ1,G.dY,this,YI.2.1 j zE]
  ·by_cases hj:j=i<;>by_cases OA:j'=i
   ·rw[hj,OA]
   ·simp[γ1,G.dY,hj]at h1;simp[γ1,G.dY,OA]at h2;subst h1;exact absurd h2 (FQ j')
   ·simp[γ1,G.dY,hj]at h1;simp[γ1,G.dY,OA]at h2;subst h2;exact absurd h1 (FQ j)
   simp[γ1,G.dY,hj]at h1;simp[γ1,G.dY,OA]at h2;exact YI.2.2.1 j j' l' h1 h2
  by_cases hj:j=i
  ·simp[γ1,G.dY,hj]at h1;subst h1;exact⟨YJ,_,oE⟩
  simp[γ1,G.dY,hj]at h1;exact YI.2.2.2 j l' h1
 refine⟨l,mark,w1,{target:=.fn (.func f) ca,args:=fa++#[.func (.yield l) #[] #[]]},w1,f,(fa.toList++[Value.func (.yield l) #[] #[]]++ca.toList).toArray,w1,he,?_,fun _ _=>trivial,?_,fun h=>by simp[FW,Fence.wide]at h,?_⟩
 ·have hc:a.eval (.const (.func (.yield l) #[] #[]))=.func (.yield l) #[] #[]:=rfl;simp[resolve,hv,hc,Deferred.ofValue,rangeCall]
 ·simp[invoke,Qeb hE.1]
 have YL:=hE.2 N w0 aq γ1 w1 _ oG axj (fun g=>(hs.g g).aW fK.cT) ?_ oR
 ·refine CallsIn.mono (F:=FW r) (n:=0) (show CallsIn (FW r) 0 P f _ w1 _ from YL) ?_;rintro en w3 ⟨v,γ3,r',m',rfl,g1,g2,g3,g4,g5⟩;have axk:=(g1.sp l YJ).1
  have fin:∀(RN:Loop)(pd:Option Code),w3.heap[l]?=some (.loop RN)->(∀ex,ex=Exit.normal/\pd=none\/pd=ru ex/\pd.isSome=true->RN.state≠.busy->RN.pending=pd->Q ex ⟨s.T,m'.at_ i .gone⟩->rangePost (FW r) 0 P l (lift N w0 r aq S P gl Y Q) {a with defers:=mark++a.defers} (.returned v) w3):=by
   intro RN pd ar5 ex hex hnb hpd hQ;obtain⟨hm4,ar6⟩:=pG g2 axk ar5 .exhausted RN.pending;refine⟨RN.pending,_,run_endLoop ar5 hnb,?_⟩;have bT:eP w γ (w3.putObj l (.loop {RN with state:=.exhausted})) γ3:=(fK.trans g1).trans ar6
   have zQ:fc N w0 r aq S P gl Y γ3 (w3.putObj l (.loop {RN with state:=.exhausted})) ⟨s.T,m'.at_ i .gone⟩ {a with defers:=mark++a.defers}:=by
    have afk:=g1.lp i l YK;refine⟨hm4,?_,hs.rd.aW bT,hs.t.aW bT,hd1.aW (g1.trans ar6),fun g=>(hs.g g).aW bT.cT,hs.y.mono bT,hs.e.trans bT⟩;refine⟨fun j=>?_,g3.2.1,g3.2.2.1,fun j l' eM=>?_⟩
    rotate_left
    ·obtain⟨q1,r,q2⟩:=g3.2.2.2 j l' eM;by_cases w8:l'=l
     ·subst w8;exact⟨q1,_,World.putObj_heap_same (aS q2)⟩
     exact⟨q1,r,(World.putObj_heap_other w8).trans q2⟩
    by_cases hj:j=i
    ·exact .inl (by simp[AM.at_,qE,hj])
    rcases g3.1 j with h|⟨l',h0,h1,r',h2,h3⟩
    ·exact .inl (by simp[AM.at_,qE,hj,h])
    have eM:l'≠l:=by rintro rfl;exact hj (g3.2.2.1 _ _ _ h0 afk)
    exact .inr ⟨l',h0,h1,r',(World.putObj_heap_other eM).trans h2,by simpa[AM.at_,qE,hj]using h3⟩
   generalize w3.putObj l (.loop {RN with state:=.exhausted})=w4 at zQ;rw[hpd];obtain⟨rfl,rfl⟩|⟨hex,YM⟩:=hex
   ·exact⟨γ3,_,zQ,hQ⟩
   cases ex with
   |ret=>simp only[ru]at hex;subst hex;exact wpIn_ret ⟨γ3,_,zQ,hQ⟩
   |exit id=>simp only[ru]at hex;subst hex;exact wpIn_exit ⟨γ3,_,zQ,hQ⟩
   |_=>simp only[ru]at hex;subst hex;cases YM
  have hl3:=g3.1 i;have afk:=g1.lp i l YK;cases ct:m'.st i with
  |gone=>rw[ct]at g5;exact g5.elim
  |busy=>rw[ct]at g5;exact g5.elim
  |ready=>
   rw[ct]at g5 hl3;obtain hl3|⟨l',q0,_,RN,q1,q2⟩:=hl3
   ·cases hl3
   obtain rfl:l'=l:=Option.some.inj (q0.symm.trans afk);exact fin RN none q1 .normal (.inl ⟨rfl,rfl⟩) (by rw[q2.1];simp) q2.2 g5
  |done ex=>
   rw[ct]at g5 hl3;obtain hl3|⟨l',q0,_,RN,q1,q2⟩:=hl3
   ·cases hl3
   obtain rfl:l'=l:=Option.some.inj (q0.symm.trans afk);exact fin RN _ q1 ex (.inr ⟨rfl,q2.2.2⟩) (by rw[q2.1];simp) q2.2.1 g5
 intro γ' w' YN i' args m K vs gi ar7 A1 hY l' afl;unfold Yin at hY;split at hY
 case isFalse=>exact hs.y γ' w' (fK.trans YN) i' args m K vs gi ar7 A1 hY l' afl
 rename_i di;subst di;obtain rfl:l'=l:=Option.some.inj (afl.symm.trans (YN.lp _ _ YK));obtain⟨fL,aH,hY⟩:=hY
 have OR:∃st pd,w'.heap[l']?=some (.loop {state:=st,pending:=pd,fn,tmps:=a.tmps,params:=ps,assign:=lV,body,defers:=rc}):=by
  rcases(YN.sp l' YJ).2 with h|⟨r0,st,pd,h,h'⟩
  ·rw[oE]at h;exact⟨_,_,h⟩
  rw[oE]at h;cases h;exact⟨st,pd,h'⟩
 obtain⟨st,pd,OR⟩:=OR;have amL:=(YN.sp l' YJ).1;have amM:=fK.trans YN;have hps:vs.toArray.size=ps.size:=by have:=A1.1;simp at this aH |-;omega
 refine⟨fn,_,lV,body,run_yield OR hps,roundIn_of_wpIn (F:=FW none) trivial ?_⟩
 have ar8:fc N w0 (some l') aq (γ',w') P gl Y γ' w' ⟨Qas s.T ps.toList args,m⟩ {tmps:=(ps.zip vs.toArray).foldl (fun(tmps:Array Value)(p:Nat×Value)=>tmps.setIfInBounds p.1 p.2) a.tmps,defers:=[]}:=by
  refine⟨gi,ar7,fun l hl=>?_,?_,⟨zzab _,fun x hx=>(by cases hx),List.Pairwise.nil⟩,fun g=>(hs.g g).aW amM.cT,hs.y.mono amM,(Ev.refl w' γ').cK⟩
  ·cases hl;exact⟨amL,_,OR⟩
  have:=F6 ps.toList args vs s.T a.tmps aH A1 (hs.t.aW amM);simpa using this
 refine wpIn_mono (ihA l' (γ',w') γ' w' _ _ _ hY ar8) ?_;rintro ex a2 w2 ⟨γ2,s2,Ln,hq2⟩;cases ex with
 |normal=>
  obtain⟨axl,hq2⟩:=hq2;have Bg:=Ln.ls.1 i';rw[axl]at Bg;have ar9:=Ln.e.lp _ _ afl;obtain Bg|⟨l2,q0,hsp2,rc2,q1,q2⟩:=Bg
  ·cases Bg
  obtain rfl:l'=l2:=Option.some.inj (ar9.symm.trans q0);obtain⟨hm3,RO⟩:=pG Ln.m hsp2 q1 .busy rc2.pending;refine⟨_,run_beginRound q1 q2.1,?_⟩
  have asa:fc N w0 (some l') aq (γ',w') P gl Y γ2 (w2.putObj l' (.loop {rc2 with state:=.busy})) ⟨s2.T,s2.m.at_ i' .busy⟩ a2:=
   ⟨hm3,Ln.ls.put ar9 hsp2 (aS q1) rfl,Ln.rd.aW RO,Ln.t.aW RO,Ln.d.aW RO,fun g=>(Ln.g g).aW RO.cT,Ln.y.mono RO,Ln.e.trans RO⟩
  refine wpIn_mono (ihB l' (γ',w') γ2 _ _ _ _ hq2 asa) ?_;rintro ex a4 w4 ⟨γ4,s4,hs4,hq4⟩;obtain⟨RP,rc4,q4⟩:=hs4.rd _ rfl;have amN:=hs4.e.lp _ _ afl;cases ex with
  |normal=>
   obtain⟨hm5,YO⟩:=pG hs4.m RP q4 .ready none;exact⟨_,_,run_endRound none q4,true,γ4,s4.m.at_ i' .ready,rfl,hs4.e.trans YO,hm5,hs4.ls.put amN RP (aS q4) ⟨rfl,rfl⟩,hq4⟩
  |ret=>
   obtain⟨hm5,YO⟩:=pG hs4.m RP q4 .done (some .ret);exact⟨_,_,run_endRound (some .ret) q4,false,γ4,s4.m.at_ i' (.done .ret),rfl,hs4.e.trans YO,hm5,hs4.ls.put amN RP (aS q4) ⟨rfl,rfl,rfl⟩,hq4⟩
  |exit id=>
   obtain⟨hm5,YO⟩:=pG hs4.m RP q4 .done (some (.exit id));exact⟨_,_,run_endRound (some (.exit id)) q4,false,γ4,s4.m.at_ i' (.done (.exit id)),rfl,hs4.e.trans YO,hm5,hs4.ls.put amN RP (aS q4) ⟨rfl,rfl,rfl⟩,hq4⟩
  |_=>exact hq4.elim
 |_=>exact hq2.elim
def Jl:∀(c:Code)(r:Option Nat)(S:G×World)(γ:G)(w:World)(s:AS)(a:Act)(Q:Exit->AS->Prop),vc P gl orc Y (Yo P c) s Q->fc N w0 r aq S P gl Y γ w s a->c.wpIn (FW r) 0 P (lift N w0 r aq S P gl Y Q) a w
 |.skip,r,S,γ,w,s,a,Q,h,hs=>wpIn_skip ⟨γ,s,hs,h⟩
 |.label _,r,S,γ,w,s,a,Q,h,hs=>wpIn_label ⟨γ,s,hs,h⟩
 |.region id ops false,r,S,γ,w,s,a,Q,h,hs=>by
  refine wpIn_region ?_;have:=sH (P:=P) (orc:=orc) (ops:=ops) (Q:=lift N w0 r aq S P gl Y Q) (K:=Q .normal) (fun γ w s a hK hs=>⟨γ,s,hs,hK⟩) ops.size 0 γ w s a zd (by simpa[Yo,vc]using h) hs;rwa [zzfy]
 |.region id ops true,r,S,γ,w,s,a,Q,h,hs=>by
  simp only[Yo]at h;split at h
  case isFalse=>exact h.elim
  rename_i hc;simp only[zzak]at hc;split at h
  ·rename_i j hj;obtain h|⟨ms,h⟩|⟨hb,ms,R,hR,h⟩|⟨ms,h⟩:=h
   ·exact wpIn_region_any hc.1 (wQ (Q:=lift N w0 r aq S P gl Y Q) (K:=Q .normal) (fun γ w s a hK hs=>⟨γ,s,hs,hK⟩) hc.2 h hs)
   ·exact wpIn_region_any hc.1 (sJ (Q:=lift N w0 r aq S P gl Y Q) (K:=Q .normal) (fun γ w s a hK hs=>⟨γ,s,hs,hK⟩) hc.2 hj (jJ _ _ _ _ (lq hc.2) (OL _ _ _ _ h)) hs)
   ·exact wpIn_region_any hc.1 (F1 (Q:=lift N w0 r aq S P gl Y Q) (K:=Q .normal) (fun γ w s a hK hs=>⟨γ,s,hs,hK⟩) hc.2 hj (amK hc.2 hb) hR (fun x hx=>pE _ _ _ _ (lq hc.2) (h x hx)) hs)
   exact wpIn_region_any hc.1 (sJ (Q:=lift N w0 r aq S P gl Y Q) (K:=Q .normal) (fun γ w s a hK hs=>⟨γ,s,hs,hK⟩) hc.2 hj (jJ _ _ _ _ (lq hc.2) h) hs)
  split at h
  ·rename_i js jp z t hz;obtain⟨hY,hT,ms,h⟩:=h;exact wpIn_region_any hc.1 (F4 (Q:=lift N w0 r aq S P gl Y Q) (K:=Q .normal) (fun γ w s a hK hs=>⟨γ,s,hs,hK⟩) hc.2 hz hY h hT hs)
  exact wpIn_region_any hc.1 (wQ (Q:=lift N w0 r aq S P gl Y Q) (K:=Q .normal) (fun γ w s a hK hs=>⟨γ,s,hs,hK⟩) hc.2 h hs)
 |.seq x y,r,S,γ,w,s,a,Q,h,hs=>by
  refine wpIn_seq (wpIn_mono (Jl x r S γ w s a _ h hs) ?_);rintro ex a' w' ⟨γ',s',iQ,h'⟩;cases ex with
  |normal=>exact Jl y r S γ' w' s' a' Q h' iQ
  |_=>exact⟨γ',s',iQ,h'⟩
 |.cond c x y,r,S,γ,w,s,a,Q,h,hs=>by
  simp only[Yo,vc]at h;have hr:=hs.ev c;split at h
  case h_2=>exact h.elim
  rename_i t ht;rw[ht]at hr;exact wpIn_cond_split hr.bB (fun e=>Jl x r S γ w s a Q (h.1 e) hs) fun e=>Jl y r S γ w s a Q (h.2 e) hs
 |.block id c,r,S,γ,w,s,a,Q,h,hs=>by
  refine wpIn_block (wpIn_mono (Jl c r S γ w s a _ h hs) ?_);rintro ex a' w' ⟨γ',s',iQ,h'⟩;cases ex with
  |exit id'=>
   simp only[Exit.inBlock,rC]at h' |-
   split
   ·rename_i aK;rw[if_pos aK]at h';exact⟨γ',s',iQ,h'⟩
   rename_i aK;rw[if_neg aK]at h';exact⟨γ',s',iQ,h'⟩
  |_=>exact⟨γ',s',iQ,h'⟩
 |.loop c,r,S,γ,w,s,a,Q,h,hs=>by
  obtain⟨I,μ,h0,A1⟩:=h;intro b k cs c9 hb hr
  have key:∀j γ w s a,μ s=j->I s->fc N w0 r aq S P gl Y γ w s a->∃e a' w',lift N w0 r aq S P gl Y Q e a' w'/\ArrivesIn (Machine.fenced P (FW r)) P (lone (b.atR a (.code c::.inLoop c::k)) cs w) b k cs e a' w':=by
   intro j;induction j using Nat.strongRecOn with
   |_ j ih=>
    intro γ w s a hn hI hs;obtain⟨e,a₁,w₁,⟨γ₁,s₁,hs₁,hq⟩,fJ⟩:=Jl c r S γ w s a _ (A1 s hI) hs b (.inLoop c::k) cs c9 hb hr;cases e with
    |normal=>
     obtain⟨hI₁,ai⟩:=hq;obtain⟨e₂,a₂,w₂,hq₂,asb⟩:=ih (μ s₁) (hn ▸ ai) γ₁ w₁ s₁ a₁ rfl hI₁ hs₁;exact⟨e₂,a₂,w₂,hq₂,.of_steps (StepsIn.trans fJ (.one (fenced_calm hb hr rfl) stepR_inLoop)) asb⟩
    |exit id=>exact⟨_,a₁,w₁,⟨γ₁,s₁,hs₁,hq⟩,.pass (x:=.inLoop c) rfl (fun _ _=>.inl zd) fJ⟩
    |goto l=>exact⟨_,a₁,w₁,⟨γ₁,s₁,hs₁,hq⟩,.pass (x:=.inLoop c) rfl (fun _ _=>.inl zd) fJ⟩
    |ret=>exact⟨_,a₁,w₁,⟨γ₁,s₁,hs₁,hq⟩,.pass (x:=.inLoop c) rfl (fun _ _=>.inl zd) fJ⟩
    |panic ch=>exact⟨_,a₁,w₁,⟨γ₁,s₁,hs₁,hq⟩,.pass (x:=.inLoop c) rfl (fun _ _=>.inl zd) fJ⟩
    |outgrown=>exact⟨_,a₁,w₁,⟨γ₁,s₁,hs₁,hq⟩,.pass (x:=.inLoop c) rfl (fun _ _=>.inl zd) fJ⟩
  obtain⟨e,a',w',hq,fJ⟩:=key _ γ w s a rfl h0 hs;exact⟨e,a',w',hq,.of_steps (.one (fenced_calm hb hr rfl) stepR_loop) fJ⟩
 |.exit id,r,S,γ,w,s,a,Q,h,hs=>wpIn_exit ⟨γ,s,hs,h⟩
 |.ret,r,S,γ,w,s,a,Q,h,hs=>wpIn_ret ⟨γ,s,hs,h⟩
 |.scope c,r,S,γ,w,s,a,Q,h,hs=>by
  refine lW (wpIn_mono (Jl c r S γ w s a _ h hs) ?_);rintro ex a' w' ⟨γ',s',iQ,h'⟩;cases ex with
  |goto l=>exact h'.elim
  |_=>exact⟨γ',s',iQ,h'⟩
 |.rangeFunc g ps lV body,r,S,γ,w,s,a,Q,h,hs=>F8 (fun l S γ w s a Q h hs=>Jl lV (some l) S γ w s a Q h hs) (fun l S γ w s a Q h hs=>Jl body (some l) S γ w s a Q h hs) h hs
 |.goto l,r,S,γ,w,s,a,Q,h,hs=>h.elim
 |.refuse why,r,S,γ,w,s,a,Q,h,hs=>h.elim
end
open Go Go.RowKit
section
variable {N:Nat} {w0:fF} {aq:Nat->Nat->Prop} {γ:G} {w:World} {B:Nat->Option (List AV)} {L:Nat->Option Nat} {P:Program} {gl:Nat->AV} {orc:Nat->FuncId->List AV->AV} {e:bN->AV} {m:AM}
def YP(P:Program)(t:TypeId)(x:bN):aF:=
 (match P.info? t,P.underlying t with|some i,some _=>if Jh P t then .load true i.size x else .load false 1 x|_,_=>.bad)
def YQ(hm:au N w0 aq γ w B L)(hB:∀id cells,m.boxes[id]?=some cells->B id=some cells){t:TypeId}{x:bN}{v0:Value}(h1:aC w γ (e x) v0)
  (hc:(rop P gl orc e m none (YP P t x)).1):∃b o v,v0=.pointer (some ⟨b,o,none⟩)/\(loadVar t ⟨b,o,none⟩).run P w=.ok v w/\aC w γ (rop P gl orc e m none (YP P t x)).2 v:=by
 unfold YP at hc |-
 split at hc
 case h_2=>exact hc.elim
 rename_i i d hi hd
 have main:∀(agg:Bool)(n:Nat),Jh P t=agg->(agg=true->n=i.size)->(rop P gl orc e m none (.load agg n x)).1->
   ∃b o v,v0=.pointer (some ⟨b,o,none⟩)/\(loadVar t ⟨b,o,none⟩).run P w=.ok v w/\aC w γ (rop P gl orc e m none (.load agg n x)).2 v:=by
  intro agg n bG hn hc
  have conv:∀b o v,(Instr.loadAt t (.pointer (some ⟨b,o,none⟩))).run P w=.ok v w->(loadVar t ⟨b,o,none⟩).run P w=.ok v w:=fun b o v h=>by
   simpa[Instr.loadAt,Instr.sureAddr]using h
  simp only[rop]at hc |-
  split at hc
  ·rename_i id o' he;try simp only[he]
   rw[he]at h1;obtain⟨b,hb,hv⟩:=h1.dO;cases fI:m.boxes[id]? with
   |none=>
    have e0:m.boxes.getD id []=[]:=by simp[List.getD,fI]
    rw[e0]at hc |-
    obtain⟨v,h2,h3⟩:=Qdo (P:=P) (w:=w) (γ:=γ) (b:=b) (o:=o') (cv:=fun _=>undef) hi hd bG hn (fun j c hj=>by simp at hj) (fun j c hj=>by simp at hj) hc;exact⟨b,o',v,hv,conv _ _ _ h2,h3⟩
   |some cells=>
    have e0:m.boxes.getD id []=cells:=by simp[List.getD,fI]
    rw[e0]at hc |-
    obtain⟨arr,te,g2,g3,g4⟩:=hm.box id cells b (hB id cells fI) hb
    have cA:∀(j:Nat)(c:AV),(cells.drop o')[j]?=some c->arr[o'+j]?=some (arr.getD (o'+j) undef)/\aC w γ c (arr.getD (o'+j) undef):=fun j c hj=>by
     rw[zzbm]at hj
     have ai:o'+j<arr.size:=by
      have:=(zza.1 hj).1;have h0:=g3.1;simp at h0;omega
     have hu:arr[o'+j]?=some (arr.getD (o'+j) undef):=by simp[ai]
     exact⟨hu,g3.2 _ _ _ hj (by simpa using hu)⟩
    obtain⟨v,h2,h3⟩:=Qdo (P:=P) (w:=w) (γ:=γ) (b:=b) (o:=o') (cv:=fun j=>arr.getD (o'+j) undef) hi hd bG hn (fun j c hj=>by rw[aO g2];exact(cA j c hj).1) (fun j c hj=>(cA j c hj).2) hc;exact⟨b,o',v,hv,conv _ _ _ h2,h3⟩
  ·rename_i row o' he;try simp only[he]
   rw[he]at h1;obtain⟨b,off,cv,hv,hb,bO,zH⟩:=h1.jg;have cA:∀(j:Nat)(c:AV),(row.drop o')[j]?=some c->row[o'+j]?=some c:=fun j c hj=>by rw[zzbm]at hj;exact hj
   obtain⟨v,h2,h3⟩:=Qdo (P:=P) (w:=w) (γ:=γ) (b:=b) (o:=off+o') (cv:=fun j=>cv (o'+j)) hi hd bG hn
    (fun j c hj=>by rw[zzao];exact(bO _ _ (cA j c hj)).1) (fun j c hj=>(zH _ _ (cA j c hj)).gK) hc
   exact⟨b,off+o',v,hv,conv _ _ _ h2,h3⟩
  exact hc.elim
 cases bG:Jh P t with
 |true=>simp only[bG,if_true]at hc |-;exact main true _ bG (fun _=>rfl) hc
 |false=>simp only[bG]at hc |-;exact main false 1 bG (fun h=>by cases h) hc
end
def gp(P:Program)(rs:List ResultVar):List aF:=rs.map fun
 |.tmp t=>.mv (.tmp t)
 |.cell a t=>YP P t (.tmp a)
def Ky(P:Program)(gl:Nat->AV)(orc:Nat->FuncId->List AV->AV)(s:AS):List aF->Prop×List AV
 |[]=>(True,[])
 |o::r=>((rop P gl orc (ev gl s.T) s.m none o).1/\(Ky P gl orc s r).1,(rop P gl orc (ev gl s.T) s.m none o).2::(Ky P gl orc s r).2)
def oneOf:List AV->AV
 |[a]=>a
 |l=>.aZ l
section
variable {N:Nat} {w0:fF} {r:Option Nat} {aq:Nat->Nat->Prop} {S:G×World} {Y:YT} {γ:G} {w:World} {P:Program} {gl:Nat->AV} {orc:Nat->FuncId->List AV->AV} {s:AS} {a:Act}
def OS(hs:fc N w0 r aq S P gl Y γ w s a):∀(rs:List ResultVar),(Ky P gl orc s (gp P rs)).1->
  ∃vs:List Value,(rs.mapM fun(r:ResultVar)=>(match r with|.tmp t=>pure (a.tmps.getD t undef)|.cell x t=>do loadVar t (<- asAddr (a.tmps.getD x undef)):Sem Value)).run P w=.ok vs w/\
   ak w γ (Ky P gl orc s (gp P rs)).2 vs
 |[],_=>⟨[],zd,ak.nil⟩
 |r::rs,hc=>by
  obtain⟨h1,h2⟩:=hc;obtain⟨vs,g1,g2⟩:=OS hs rs h2
  have key:∃v,(match r with|.tmp t=>pure (a.tmps.getD t undef)|.cell x t=>do loadVar t (<- asAddr (a.tmps.getD x undef)):Sem Value).run P w=.ok v w/\
    aC w γ (rop P gl orc (ev gl s.T) s.m none ((fun(r:ResultVar)=>match r with|.tmp t=>aF.mv (.tmp t)|.cell a t=>YP P t (.tmp a)) r)).2 v:=by
   cases r with
   |tmp t=>exact⟨a.tmps.getD t undef,zd,hs.ev (.tmp t)⟩
   |cell x t=>
    obtain⟨b,o,v,e1,e2,e3⟩:=YQ (P:=P) (gl:=gl) (orc:=orc) (e:=ev gl s.T) (m:=s.m) hs.m (fun _ _ h=>h) (t:=t) (x:=.tmp x) (v0:=a.tmps.getD x undef) (hs.ev (.tmp x)) h1;refine⟨v,?_,e3⟩;simp only[e1,Sem.run_bind,asAddr,Sem.run_pure,Result.andThen_ok,e2]
  obtain⟨v,k1,k2⟩:=key;refine⟨v::vs,?_,ak.cons k2 g2⟩;simp only[zzho,Sem.run_bind,k1,Result.andThen_ok,g1,Sem.run_pure]
def F9(hs:fc N w0 r aq S P gl Y γ w s a){fn:Func}(hc:(Ky P gl orc s (gp P fn.results.toList)).1):∃v,(results fn a.tmps).run P w=.ok v w/\aC w γ (oneOf (Ky P gl orc s (gp P fn.results.toList)).2) v:=by
 obtain⟨vs,h1,h2⟩:=OS (P:=P) (orc:=orc) hs fn.results.toList hc
 have bn:(results fn a.tmps).run P w=.ok (if h:vs.toArray.size=1 then vs.toArray[0]else .tuple vs.toArray) w:=by
  simp only[results,Sem.run_bind,Array.mapM_eq_mapM_toList,Sem.run_map];exact congrArg (fun(z:Result (List Value))=>(z.andThen fun a w'=>Result.ok a.toArray w').andThen fun(a:Array Value)w'=>Sem.run P (pure (if h:a.size=1 then a[0]else Value.tuple a):Sem Value) w') h1
 refine⟨_,bn,?_⟩;generalize(Ky P gl orc s (gp P fn.results.toList)).2=as at h2
 match as,vs,h2 with
 |[],[],h2=>exact .aZ rfl fun i c v h=>by simp at h
 |[],_::_,h2=>have:=h2.1;simp at this
 |_::_,[],h2=>have:=h2.1;simp at this
 |[x],[v],h2=>exact h2.2 0 x v rfl rfl
 |[x],_::_::_,h2=>have:=h2.1;simp at this
 |_::_::_,[v],h2=>have:=h2.1;simp at this
 |x::y::as,v::u::vs,h2=>
  simp only[oneOf];rw[dif_neg zd];exact .aZ (by simpa using h2.1) fun i c v' g1 g2=>h2.2 i c v' g1 (by simpa using g2)
def post(P:Program)(gl:Nat->AV)(orc:Nat->FuncId->List AV->AV)(rs:List aF)(r:AV):Exit->AS->Prop
 |.normal,s=>(Ky P gl orc s rs).1/\bJ s.m 6 (oneOf (Ky P gl orc s rs).2)=r
 |.ret,s=>(Ky P gl orc s rs).1/\bJ s.m 6 (oneOf (Ky P gl orc s rs).2)=r
 |_,_=>False
def w9(P:Program)(gl:Nat->AV)(orc:Nat->FuncId->List AV->AV)(rs:List aF)(K:AV->AM->Prop):Exit->AS->Prop
 |.normal,s=>(Ky P gl orc s rs).1/\K (oneOf (Ky P gl orc s rs).2) s.m
 |.ret,s=>(Ky P gl orc s rs).1/\K (oneOf (Ky P gl orc s rs).2) s.m
 |_,_=>False
def Y0:YT:=fun _ _ _ _=>False
def fc.y0(h:fc N w0 r aq S P gl Y γ w s a):fc N w0 r aq S P gl Y0 γ w s a:=⟨h.m,h.ls,h.rd,h.t,h.d,h.g,fun _ _ _ _ _ _ _ _ _ _ _ hY _ _=>hY.elim,h.e⟩
def sL{fn:Func}{R:Ending->World->Prop}(hS:∀b,S.1.sp b->b<S.2.heap.size):∀(ds:List Deferred)(γ:G)(w:World)(s:AS)(a:Act),a.defers=ds->fc N w0 none aq S P gl Y0 γ w s a->
  (Ky P gl orc s (gp P fn.results.toList)).1->
  (∀v w' γ',eP S.2 S.1 w' γ'->au N w0 aq γ' w' s.m.B s.m.L->cZ γ' w' s.m->aC w' γ' (oneOf (Ky P gl orc s (gp P fn.results.toList)).2) v->R (.returned v) w')->LeavesInM (FW none) 0 P fn a.tmps R ds .returning w
 |[],γ,w,s,a,_,hs,h1,hR=>by
  obtain⟨v,g1,g2⟩:=F9 (P:=P) (orc:=orc) hs h1;exact⟨v,g1,hR v w γ hs.e hs.m hs.ls g2⟩
 |d::ds,γ,w,s,a,hd,hs,hc,hR=>by
  obtain⟨D,e1,e0,e2,e3⟩:=hs.d.2.1 d (by rw[hd];simp);refine⟨zd,.inl ⟨D,w.putObj D (.deferred none),e1,run_takeDeferred e3,?_⟩⟩;have hDS:¬S.1.sp D:=fun h=>by have:=hS D h;omega
  obtain⟨gi,bT,axm⟩:=hs.m.aj9 e2 (o:=.deferred none) e3 (fun _ _ _ h=>by cases h) (fun _ _ _ h=>by cases h) (γ':={γ with sp:=fun b=>γ.sp b/\b≠D}) (.inr rfl) (fun h=>by
   have:=congrFun (congrArg G.sp h) D;simp[e2]at this)
  have hpw:=hs.d.2.2;rw[hd,zzch]at hpw;refine sL hS ds {γ with sp:=fun b=>γ.sp b/\b≠D} (w.putObj D (.deferred none)) s {a with defers:=ds} rfl ⟨gi,⟨fun i=>?_,hs.ls.2.1,hs.ls.2.2.1,fun i l hl=>?_⟩,fun l h=>(by cases h),hs.t.fA bT,⟨by simpa using hs.d.1,fun x hx=>?_,hpw.2⟩,fun g=>(hs.g g).fA bT.cT,fun _ _ _ _ _ _ _ _ _ _ _ hY _ _=>hY.elim,axm _ _ hs.e (.inr hDS)⟩ hc hR
  ·rcases hs.ls.1 i with h|⟨l,h0,h1,rc,h2,h3⟩
   ·exact .inl h
   have aM:l≠D:=by rintro rfl;rw[e3]at h2;cases h2
   exact .inr ⟨l,h0,⟨h1,aM⟩,rc,(World.putObj_heap_other aM).trans h2,h3⟩
  ·obtain⟨h1,rc,h2⟩:=hs.ls.2.2.2 i l hl;have aM:l≠D:=by rintro rfl;rw[e3]at h2;cases h2
   exact⟨⟨h1,aM⟩,rc,(World.putObj_heap_other aM).trans h2⟩
  obtain⟨D',q1,q0,q2,q3⟩:=hs.d.2.1 x (by rw[hd];simp[hx]);have aM:D'≠D:=by rintro rfl;exact hpw.1 x hx D' e1 q1
  exact⟨D',q1,q0,⟨q2,aM⟩,(World.putObj_heap_other aM).trans q3⟩
def afm(w0:World):fF where
 p γ w:=Below w0.heap.size w0 w/\∀b,OI γ b->w0.heap.size<=b
 st γ w γ' w' h hc:=by
  refine⟨h.1.trans ⟨hc.os,hc.tape,hc.output,hc.size,fun b hb=>hc.same b (zzaz hb h.1.size) fun ho=>?_⟩,fun b hb=>?_⟩
  ·have:=h.2 b ho;omega
  rcases hc.oi b hb with hb|hb
  ·exact h.2 b hb
  exact zzbg h.1.size hb
def RQ{as:List AV}{vs:List Value}{k:Nat}(h:ak w γ as vs):ak w γ (as++List.replicate (k-as.length) .junk) (vs.toArray++Array.replicate (k-vs.toArray.size) undef).toList:=by
 have aH:=h.1
 have h2:ak w γ (List.replicate (k-as.length) .junk) (List.replicate (k-vs.length) undef):=⟨by simp[aH],fun i x v hx _=>by
  rw[zzcp]at hx;split at hx
  ·cases hx;exact .junk _
  cases hx⟩
 simpa using h.append h2
def dz(P:Program)(f:FuncId)(sc:SC)(rs:List aF)(n:Nat):Prop:=
 ∃fn c,P.funcs[f]?=some fn/\fn.body=some c/\(fn.name== "runtime.NumGoroutine")=false/\Yo P c=sc/\gp P fn.results.toList=rs/\fn.ntmps=n
def fco{P:Program}{f:FuncId}{fn:Func}{c:Code}{sc:SC}{rs:List aF}{n:Nat}(h:P.funcs[f]?=some fn)(hb:fn.body=some c)(hk:((fn.name== "runtime.NumGoroutine"),Yo P c,gp P fn.results.toList,fn.ntmps)=(false,sc,rs,n)):dz P f sc rs n:=by
 obtain⟨h1,h2⟩:=Prod.mk.inj hk;obtain⟨h2,h3⟩:=Prod.mk.inj h2;obtain⟨h3,h4⟩:=Prod.mk.inj h3;exact⟨fn,c,h,hb,h1,h2,h3,h4⟩
def aJ{P:Program}{f:FuncId}{fn:Func}{c:Code}{sc:SC}{rs:List aF}{n:Nat}(h:P.funcs[f]?=some fn)(hb:fn.body=some c:=by rfl)(hk:((fn.name== "runtime.NumGoroutine"),Yo P c,gp P fn.results.toList,fn.ntmps)=(false,sc,rs,n):=by kernel_rfl):dz P f sc rs n:=fco h hb hk
def amO{f:FuncId}{sc:SC}{rs:List aF}{n:Nat}(hc:dz P f sc rs n)(orc:Nat->FuncId->List AV->AV){as:List AV}{m:AM}{K:AV->AM->Prop}
  (h:vc P gl orc Y sc ⟨as++List.replicate (n-as.length) .junk,m⟩ (w9 P gl orc rs K)){vs:List Value}(hm:au N w0 aq γ w m.B m.L)(hl:cZ γ w m)(hg:∀g,aC w γ.cT (gl g) (.pointer (some ⟨g,0,none⟩)))
  (hy:YOK N w0 aq P Y γ w)(hr:ak w γ as vs):
  CallsIn (FW none) 0 P f vs.toArray w fun e w'=>∃v γ' r m',e=.returned v/\eP w γ w' γ'/\au N w0 aq γ' w' m'.B m'.L/\cZ γ' w' m'/\aC w' γ' r v/\K r m':=by
 obtain⟨fn,c,hf,hb,akb,rfl,rfl,rfl⟩:=hc;refine callsIn_of_wp_marks (F:=FW none) hf hb trivial ?_
 have hs:fc N w0 none aq (γ,w) P gl Y γ w ⟨as++List.replicate (fn.ntmps-as.length) .junk,m⟩ {tmps:=vs.toArray++Array.replicate (fn.ntmps-vs.toArray.size) undef,defers:=[]}:=
  ⟨hm,hl,fun l h=>(by cases h),RQ hr,⟨zzab _,fun x hx=>(by cases hx),List.Pairwise.nil⟩,hg,hy,(Ev.refl w γ).cK⟩
 refine wpIn_mono (Jl c none (γ,w) γ w _ _ _ h hs) ?_
 have fin:∀γ' w' s a,fc N w0 none aq (γ,w) P gl Y γ' w' s a->(Ky P gl orc s (gp P fn.results.toList)).1/\K (oneOf (Ky P gl orc s (gp P fn.results.toList)).2) s.m->
   LeavesInM (FW none) 0 P fn a.tmps (fun e w'=>∃v γ' r m',e=.returned v/\eP w γ w' γ'/\au N w0 aq γ' w' m'.B m'.L/\cZ γ' w' m'/\aC w' γ' r v/\K r m') a.defers .returning w':=
  fun γ' w' s a iQ hc=>sL (S:=(γ,w)) (fun b hb=>(hm.sp b hb).2.1) a.defers γ' w' s a rfl iQ.y0 hc.1 fun v uG EF q1 q2 q3 q4=>⟨v,EF,_,_,rfl,q1,q2,q3,q4,hc.2⟩
 rintro ex a w' ⟨γ',s,iQ,h'⟩;cases ex with
 |normal=>exact fin γ' w' s a iQ h'
 |ret=>exact fin γ' w' s a iQ h'
 |_=>exact h'.elim
def dz.bD{f:FuncId}{sc:SC}{rs:List aF}{n:Nat}(hc:dz P f sc rs n):bD P f:=by
 obtain⟨fn,c,hf,hb,akb,_⟩:=hc;exact⟨fn,hf,by simp[hb],akb⟩
def YR{f:FuncId}{sc:SC}{rs:List aF}{n:Nat}(hc:dz P f sc rs n)(orc:Nat->FuncId->List AV->AV){as:List AV}{m:AM}{K:AV->AM->Prop}
  (h:vc P gl orc Y sc ⟨as++List.replicate (n-as.length) .junk,m⟩ (w9 P gl orc rs K)):an P gl Y f as m K:=
 ⟨hc.bD,fun _ _ _ _ _ _ hm hl hg hy hr=>amO hc orc h hm hl hg hy hr⟩
def AM.none:AM:=⟨[],[],fun _=>.gone,0⟩
def Ga{f:FuncId}{as:List AV}{r:AV}(h:an P gl Y0 f as ⟨[],[],fun _=>.gone,0⟩ fun x m'=>bJ m' 6 x=r):Pure P gl f as r:=by
 refine⟨h.1,fun ro w vs ji hr=>?_⟩;refine(callsIn_wide (n:=0)).1 ?_
 let γ0:G:=G0 fun b o=>ro b o/\b<w.heap.size
 have bT:Ev w (G0 ro) w γ0:=⟨zzab _,fun b o hb h=>⟨⟨h,hb⟩,rfl⟩,fun _ _ h=>(by cases h),fun _=>zzab _,fun _ _ h=>(by cases h),rfl,fun _ _ _ h=>(by cases h),fun _ h=>h.elim,Sz.refl w⟩
 have hm:au w.heap.size (afm w) ro γ0 w (⟨[],[],fun _=>.gone,0⟩:AM).B (⟨[],[],fun _=>.gone,0⟩:AM).L:=by
  refine⟨⟨Below.refl _ _,fun b hb=>?_⟩,zzab _,fun b o h=>.inl h.1,fun b o h=>h.2,fun id cells b h=>by simp[AM.B]at h,fun id b h=>(by cases h),fun id id' b h=>(by cases h),fun id b h=>(by cases h),fun id id' b h=>(by cases h),fun b h=>h.elim,fun id b h=>(by cases h),fun id id' b h=>(by cases h),fun id n h=>by simp[AM.L]at h,fun _ _=>rfl⟩;obtain⟨_,hb⟩|⟨_,hb⟩|hb|⟨_,hb⟩:=hb
  ·cases hb
  ·cases hb
  ·exact hb.elim
  cases hb
 refine CallsIn.mono (h.2 _ _ _ _ _ _ hm ⟨fun _=>.inl rfl,fun _ _=>rfl,fun _ _ _ h=>(by cases h),fun _ _ h=>(by cases h)⟩ (fun g=>(ji g).mono bT) (fun _ _ _ _ _ _ _ _ _ _ _ hY _ _=>hY.elim) (hr.mono bT)) ?_;rintro e w' ⟨v,γ',x,m',rfl,_,h2,_,h4,h5⟩;refine⟨v,rfl,h2.bs.1,?_⟩;rw[<- h5];exact kU h2 (fun _ _ h=>h) h2.aq 6 _ v h4 fun _ id b hb o=>.inr (h2.β id b hb).1
def afn{f:FuncId}{sc:SC}{rs:List aF}{n:Nat}(hc:dz P f sc rs n)(orc:Nat->FuncId->List AV->AV){as:List AV}{r:AV}
  (h:vc P gl orc Y0 sc ⟨as++List.replicate (n-as.length) .junk,⟨[],[],fun _=>.gone,0⟩⟩ (post P gl orc rs r)):Pure P gl f as r:=by
 have asd:post P gl orc rs r=w9 P gl orc rs fun x m'=>bJ m' 6 x=r:=by
  funext ex s;cases ex<;>rfl
 rw[asd]at h;exact Ga (YR hc orc h)
end
end Go.Abs
