import Derived.Test.YtnopaopphmjnmaaGreatDoorMLMD
import Derived.RangeFuncNested
set_option linter.all false
namespace Go.Abs
open Go Go.RowKit
def Vq(o:Oper):List Nat:=(o.after.toList.filter fun e=>Region.binds .any e).map (·.on)
def wg(ops:Array Oper)(i j:Nat):Bool:=
 match ops[i]? with
 |some o=>(Vq o).contains j
 |none=>false
def CH(ops:Array Oper)(i:Nat):Bool:=(List.range i).all fun j=>(List.range (i-j)).any fun d=>wg ops (i-d) j
def wj(ops:Array Oper):Nat->Nat
 |0=>0
 |k+1=>if CH ops k then wj ops k else k+1
def jd(ops:Array Oper):Nat:=wj ops ops.size
def Yr(ops:Array Oper)(i:Nat):Option Nat:=(ops[i]?).bind (·.dst)
def zq(ops:Array Oper)(p:Nat):Bool:=
 decide (p<=ops.size)&&(List.range ops.size).all fun i=>
  match ops[i]? with
  |none=>false
  |some o=>(Vq o).all (fun j=>decide (j<i))&&
   (
    if i<p then
    ((o.looksAt ops).all fun t=>(List.range p).all fun j=>!(Yr ops j==some t)||j==i||(decide (j<i)&&(Vq o).contains j))&&
    ((List.range i).all fun j=>(Yr ops j).isNone||!(Yr ops j==o.dst))
   else CH ops i)
section
variable (P:Program) (gl:Nat->AV) (orc:Nat->FuncId->List AV->AV)
def dop(o:SO)(T:List AV)(m:AM)(nb:List (List AV)):Prop×AV×List (List AV):=
 match o.guard with
 |none=>match o.op with
  |.alloc zs=>(zs.all Qv=true,.ptr (m.boxes.length+nb.length) 0,nb++[zs])
  |.box x=>(bare (ev gl T x)=true/\(cellsOf (ev gl T x)).all Qv=true,.ptr (m.boxes.length+nb.length) 0,nb++[cellsOf (ev gl T x)])
  |.mks sz bytes zs l c=>(match ev gl T l,ev gl T c with
   |.int _ l,.int _ c=>((0<=l/\l<=c/\bytes*c<=281474976710656/\c<=9223372036854775807)/\zs.length=sz/\zs.all Qv=true,.bs (m.boxes.length+nb.length) 0 l.toNat sz,nb++[bG c.toNat zs])
   |_,_=>(False,.junk,nb))
  |op=>((rop P gl orc (ev gl T) m o.dst op).1,(rop P gl orc (ev gl T) m o.dst op).2,nb)
 |some (some t,want)=>match Iw want (T.getD t .junk)with
  |some gw=>(gok gl T gw (gxs o.op o.xs)/\(gw=true->(rop P gl orc (evG gl T o.op) m o.dst o.op).1),.gd gw (rop P gl orc (evG gl T o.op) m o.dst o.op).2,nb)
  |none=>(False,.junk,nb)
 |some (none,_)=>(False,.junk,nb)
def vcD(Y:YT)(l2:List SO)(K:AS->Prop):List SO->List AV->AM->List (List AV)->Prop
 |[],T,m,nb=>Zx P gl orc Y l2 ⟨T,{m with boxes:=m.boxes++nb}⟩ K
 |o::r,T,m,nb=>(dop P gl orc o T m nb).1/\vcD Y l2 K r (put T o.dst (dop P gl orc o T m nb).2.1) m (dop P gl orc o T m nb).2.2
def Xf(ops:Array Oper)(T0:List AV)(m:AM):Nat->List AV×List (List AV)
 |0=>(T0,[])
 |k+1=>match ops[k]? with
  |some o=>(put (Xf ops T0 m k).1 o.dst (dop P gl orc (Xn P ops o) (Xf ops T0 m k).1 m (Xf ops T0 m k).2).2.1,(dop P gl orc (Xn P ops o) (Xf ops T0 m k).1 m (Xf ops T0 m k).2).2.2)
  |none=>Xf ops T0 m k
end
section
variable {N:Nat} {w0:ir} {r:Option Nat} {aq:Nat->Nat->Prop} {S:G×World} {Y:YT} {P:Program} {gl:Nat->AV} {orc:Nat->FuncId->List AV->AV} {ops:Array Oper} {T0:List AV} {m:AM} {p:Nat}
def Wd{k:Nat}{o:Oper}(h:ops[k]?=some o):Xf P gl orc ops T0 m (k+1)=
  (put (Xf P gl orc ops T0 m k).1 o.dst (dop P gl orc (Xn P ops o) (Xf P gl orc ops T0 m k).1 m (Xf P gl orc ops T0 m k).2).2.1,(dop P gl orc (Xn P ops o) (Xf P gl orc ops T0 m k).1 m (Xf P gl orc ops T0 m k).2).2.2):=by
 simp only[Xf,h]
def NU(l2:List SO)(K:AS->Prop)(hp:p<=ops.size):∀(n k:Nat),k+n=p->vcD P gl orc Y l2 K (((ops.toList.take p).drop k).map (Xn P ops)) (Xf P gl orc ops T0 m k).1 m (Xf P gl orc ops T0 m k).2->
  (∀i o,k<=i->i<p->ops[i]?=some o->(dop P gl orc (Xn P ops o) (Xf P gl orc ops T0 m i).1 m (Xf P gl orc ops T0 m i).2).1)/\
  Zx P gl orc Y l2 ⟨(Xf P gl orc ops T0 m p).1,{m with boxes:=m.boxes++(Xf P gl orc ops T0 m p).2}⟩ K
 |0,k,hk,h=>by
  obtain rfl:k=p:=by omega
  have:(ops.toList.take k).drop k=[]:=zzam (by simp;omega);rw[this]at h;exact⟨fun i o h1 h2=>by omega,h⟩
 |n+1,k,hk,h=>by
  have ai:k<ops.size:=by omega
  have ho:ops[k]?=some ops[k]:=zzaj ai
  have hd:(ops.toList.take p).drop k=ops[k]::(ops.toList.take p).drop (k+1):=by
   rw[zzaf (by simp;omega)];simp
  rw[hd,zzaz]at h;obtain⟨h1,h2⟩:=h;have WT:=Wd (P:=P) (gl:=gl) (orc:=orc) (T0:=T0) (m:=m) ho;have:=NU l2 K hp n (k+1) (by omega) (by rw[WT];exact h2);refine⟨fun i o hi eT CI=>?_,this.2⟩;rcases zzaa k i with fR|fR
  ·exact this.1 i o fR eT CI
  obtain rfl:i=k:=by omega
  rw[ho]at CI;cases CI;exact h1
def wm(T:List AV)(d:Option Nat)(x:AV):(put T d x).length=T.length:=by cases d<;>simp[put]
def je:∀k,(Xf P gl orc ops T0 m k).1.length=T0.length
 |0=>rfl
 |k+1=>by
  cases h:ops[k]? with
  |none=>simp only[Xf,h];exact je k
  |some o=>rw[Wd h,wm];exact je k
def Qcb{T:List AV}{d:Option Nat}{x:AV}{t:Nat}(h:d≠some t):(put T d x).getD t .junk=T.getD t .junk:=by
 cases d with
 |none=>rfl
 |some d=>simp only[put,List.getD];rw[zzbe (by rintro rfl;exact h rfl)]
def mC{T:List AV}{t:Nat}{x:AV}(h:t<T.length):(put T (some t) x).getD t .junk=x:=by
 simp[put,List.getD,h]
def Qec{t:Nat}:∀k,(∀j,j<k->Yr ops j≠some t)->(Xf P gl orc ops T0 m k).1.getD t .junk=T0.getD t .junk
 |0,_=>rfl
 |k+1,h=>by
  cases ho:ops[k]? with
  |none=>simp only[Xf,ho];exact Qec k fun j hj=>h j (by omega)
  |some o=>
   rw[Wd ho,Qcb (by have:=h k (by omega);simpa[Yr,ho]using this)];exact Qec k fun j hj=>h j (by omega)
def kR{t k:Nat}:∀n,(∀j,k<=j->j<k+n->Yr ops j≠some t)->(Xf P gl orc ops T0 m (k+n)).1.getD t .junk=(Xf P gl orc ops T0 m k).1.getD t .junk
 |0,_=>rfl
 |n+1,h=>by
  rw[<- zzan];cases ho:ops[k+n]? with
  |none=>simp only[Xf,ho];exact kR n fun j h1 h2=>h j h1 (by omega)
  |some o=>
   rw[Wd ho,Qcb (by have:=h (k+n) (by omega) (by omega);simpa[Yr,ho]using this)];exact kR n fun j h1 h2=>h j h1 (by omega)
def alJ{o:Oper}{T:List AV}{nb:List (List AV)}:
  ((dop P gl orc (Xn P ops o) T m nb).2.2=nb)\/(∃cells,(dop P gl orc (Xn P ops o) T m nb).2.2=nb++[cells]):=by
 unfold dop;split
 ·split
  ·exact .inr ⟨_,rfl⟩
  ·exact .inr ⟨_,rfl⟩
  ·split
   ·exact .inr ⟨_,rfl⟩
   exact .inl rfl
  exact .inl rfl
 ·split
  ·exact .inl rfl
  exact .inl rfl
 exact .inl rfl
def kS(P:Program)(gl:Nat->AV)(orc:Nat->FuncId->List AV->AV)(ops:Array Oper)(T0:List AV)(m:AM)(k:Nat):Nat:=(Xf P gl orc ops T0 m k).2.length
def NV(k:Nat):(Xf P gl orc ops T0 m (k+1)).2=(Xf P gl orc ops T0 m k).2\/∃cells,(Xf P gl orc ops T0 m (k+1)).2=(Xf P gl orc ops T0 m k).2++[cells]:=by
 cases ho:ops[k]? with
 |none=>exact .inl (by simp only[Xf,ho])
 |some o=>rw[Wd ho];exact alJ
def E7(k:Nat):kS P gl orc ops T0 m (k+1)=kS P gl orc ops T0 m k\/kS P gl orc ops T0 m (k+1)=kS P gl orc ops T0 m k+1:=by
 unfold kS;rcases NV (P:=P) (gl:=gl) (orc:=orc) (ops:=ops) (T0:=T0) (m:=m) k with h|⟨c,h⟩
 ·rw[h];exact .inl rfl
 rw[h];exact .inr (by simp)
def E8{j:Nat}:∀n,kS P gl orc ops T0 m j<=kS P gl orc ops T0 m (j+n)
 |0=>zzab _
 |n+1=>by
  have:=E8 (j:=j) n;rcases E7 (P:=P) (gl:=gl) (orc:=orc) (ops:=ops) (T0:=T0) (m:=m) (j+n)with h|h<;>rw[<- zzan]<;>omega
def WU{i j:Nat}(h:i<=j):kS P gl orc ops T0 m i<=kS P gl orc ops T0 m j:=by
 have:=E8 (P:=P) (gl:=gl) (orc:=orc) (ops:=ops) (T0:=T0) (m:=m) (j:=i) (j-i);rwa [show i+(j-i)=j by omega]at this
def WV{i:Nat}:∀n{q:Nat}{c:List AV},(Xf P gl orc ops T0 m i).2[q]?=some c->(Xf P gl orc ops T0 m (i+n)).2[q]?=some c
 |0,_,_,h=>h
 |n+1,q,c,h=>by
  have ih:=WV n h;rw[<- zzan];rcases NV (P:=P) (gl:=gl) (orc:=orc) (ops:=ops) (T0:=T0) (m:=m) (i+n)with e|⟨c',e⟩
  ·rw[e];exact ih
  rw[e,zzag (zza.1 ih).1];exact ih
def Iy(P:Program)(gl:Nat->AV)(orc:Nat->FuncId->List AV->AV)(ops:Array Oper)(T0:List AV)(m:AM)(i:Nat):Bool:=kS P gl orc ops T0 m (i+1)==kS P gl orc ops T0 m i+1
def E9{q:Nat}:∀k,q<kS P gl orc ops T0 m k->∃i,i<k/\Iy P gl orc ops T0 m i=true/\kS P gl orc ops T0 m i=q
 |0,h=>by simp[kS,Xf]at h
 |k+1,h=>by
  rcases zzaa q (kS P gl orc ops T0 m k)with h'|h'
  ·obtain⟨i,h1,h2,h3⟩:=E9 k h';exact⟨i,by omega,h2,h3⟩
  rcases E7 (P:=P) (gl:=gl) (orc:=orc) (ops:=ops) (T0:=T0) (m:=m) k with e|e
  ·omega
  exact⟨k,by omega,by simp[Iy,e],by omega⟩
def AO(P:Program)(gl:Nat->AV)(orc:Nat->FuncId->List AV->AV)(ops:Array Oper)(T0:List AV)(m:AM)(p:Nat)(listed:Array Bool)(id:Nat):Option (List AV):=
 if id<m.boxes.length then m.boxes[id]?
 else if(List.range p).any fun i=>listed.getD i false&&(Iy P gl orc ops T0 m i&&decide (m.boxes.length+kS P gl orc ops T0 m i=id))then(Xf P gl orc ops T0 m p).2[id-m.boxes.length]? else none
def wr(ops:Array Oper)(p:Nat)(listed:Array Bool)(t:Nat):Bool:=(List.range p).any fun i=>listed.getD i false&&(Yr ops i==some t)
def At(P:Program)(gl:Nat->AV)(orc:Nat->FuncId->List AV->AV)(ops:Array Oper)(T0:List AV)(m:AM)(p:Nat)(listed:Array Bool)(t:Nat):AV:=
 if wr ops p listed t then(Xf P gl orc ops T0 m p).1.getD t .junk else T0.getD t .junk
structure QS (N:Nat) (w0:ir) (r:Option Nat) (aq:Nat->Nat->Prop) (S:G×World) (Y:YT) (P:Program) (gl:Nat->AV) (orc:Nat->FuncId->List AV->AV) (ops:Array Oper) (T0:List AV) (m:AM) (p:Nat) (listed:Array Bool) (γ:G) (w:World) (a:Act):Prop where
 size:listed.size=ops.size
 tail:∀i,p<=i->i<ops.size->listed.getD i true=false
 clo:∀i o,listed.getD i false=true->ops[i]?=some o->∀j∈Vq o,listed.getD j false=true
 mm:au N w0 aq γ w (AO P gl orc ops T0 m p listed) m.L
 ls:cO γ w m
 rd:Rdr r γ w
 tl:a.tmps.size=T0.length
 tt:∀t,aB w γ (At P gl orc ops T0 m p listed t) (a.tmps.getD t undef)
 d:Dfr S.2.heap.size γ w a.defers
 g:∀g,aB w γ.cT (gl g) (.pointer (some ⟨g,0,none⟩))
 y:YOK N w0 aq P Y γ w
 e:eD S.2 S.1 w γ
def Zz{listed:Array Bool}{i:Nat}{b:Bool}(h:i<listed.size):(listed.setIfInBounds i true).getD i b=true:=by
 simp[h]
def Qx{listed:Array Bool}{i j:Nat}{b:Bool}(h:j≠i):(listed.setIfInBounds i true).getD j b=listed.getD j b:=by
 simp[zzdd (Ne.symm h)]
def aeA{listed:Array Bool}{id:Nat}{cells:List AV}(h:m.boxes[id]?=some cells):AO P gl orc ops T0 m p listed id=some cells:=by
 unfold AO;rw[if_pos (zza.1 h).1];exact h
def WW{listed:Array Bool}{i:Nat}(hn:Iy P gl orc ops T0 m i=false):AO P gl orc ops T0 m p (listed.setIfInBounds i true)=AO P gl orc ops T0 m p listed:=by
 funext id;unfold AO;congr 1
 have:((List.range p).any fun j=>(listed.setIfInBounds i true).getD j false&&(Iy P gl orc ops T0 m j&&decide (m.boxes.length+kS P gl orc ops T0 m j=id)))=
   ((List.range p).any fun j=>listed.getD j false&&(Iy P gl orc ops T0 m j&&decide (m.boxes.length+kS P gl orc ops T0 m j=id))):=by
  congr 1;funext j;by_cases hj:j=i
  ·subst hj;simp[hn]
  rw[Qx hj]
 rw[this]
def aeB{i j:Nat}(hi:Iy P gl orc ops T0 m i=true)(hj:Iy P gl orc ops T0 m j=true)(h:kS P gl orc ops T0 m i=kS P gl orc ops T0 m j):i=j:=by
 simp only[Iy,beq_iff_eq]at hi hj;rcases zzfm i j with h'|h'|h'
 ·have:=WU (P:=P) (gl:=gl) (orc:=orc) (ops:=ops) (T0:=T0) (m:=m) (i:=i+1) (j:=j) h';omega
 ·exact h'
 have:=WU (P:=P) (gl:=gl) (orc:=orc) (ops:=ops) (T0:=T0) (m:=m) (i:=j+1) (j:=i) h';omega
def AP{listed:Array Bool}{i:Nat}(hn:Iy P gl orc ops T0 m i=true)(hl:listed.getD i false=false):AO P gl orc ops T0 m p listed (m.boxes.length+kS P gl orc ops T0 m i)=none:=by
 unfold AO;rw[if_neg (by omega),if_neg];intro h;obtain⟨j,_,h⟩:=zzbz.1 h;simp only[zzak,decide_eq_true_eq]at h;obtain⟨h1,h2,h3⟩:=h;have:=aeB h2 hn (by omega);subst this;rw[hl]at h1;cases h1
def NW{listed:Array Bool}{i:Nat}{cells:List AV}(eT:i<p)(hsz:i<listed.size)(hn:Iy P gl orc ops T0 m i=true)(hc:(Xf P gl orc ops T0 m p).2[kS P gl orc ops T0 m i]?=some cells):
  AO P gl orc ops T0 m p (listed.setIfInBounds i true)=fun id=>if id=m.boxes.length+kS P gl orc ops T0 m i then some cells else AO P gl orc ops T0 m p listed id:=by
 funext id;by_cases aN:id=m.boxes.length+kS P gl orc ops T0 m i
 ·rw[if_pos aN];unfold AO;rw[if_neg (by omega),if_pos]
  ·rw[aN,zzdq];exact hc
  rw[zzbz];exact⟨i,zzbf.2 eT,by rw[Zz hsz,hn];simp[aN]⟩
 rw[if_neg aN];unfold AO;congr 1
 have:((List.range p).any fun j=>(listed.setIfInBounds i true).getD j false&&(Iy P gl orc ops T0 m j&&decide (m.boxes.length+kS P gl orc ops T0 m j=id)))=
   ((List.range p).any fun j=>listed.getD j false&&(Iy P gl orc ops T0 m j&&decide (m.boxes.length+kS P gl orc ops T0 m j=id))):=by
  congr 1;funext j;by_cases hj:j=i
  ·subst hj;have:decide (m.boxes.length+kS P gl orc ops T0 m j=id)=false:=by simp;omega
   simp[this]
  rw[Qx hj]
 rw[this]
def aeC{listed:Array Bool}(bR:∀i,i<p->listed.getD i false=true):AO P gl orc ops T0 m p listed=({m with boxes:=m.boxes++(Xf P gl orc ops T0 m p).2}:AM).B:=by
 funext id;unfold AO;simp only[AM.B];split
 ·rename_i h;rw[zzag h]
 rename_i h;rw[zzal (by omega)];split
 ·rfl
 rename_i hn;rcases zzaa (id-m.boxes.length) (Xf P gl orc ops T0 m p).2.length with hq|hq
 ·obtain⟨i,h1,h2,h3⟩:=E9 (P:=P) (gl:=gl) (orc:=orc) (ops:=ops) (T0:=T0) (m:=m) (q:=id-m.boxes.length) p hq;exfalso;apply hn;rw[zzbz];exact⟨i,zzbf.2 h1,by rw[bR i h1,h2];simp;omega⟩
 rw[zzay hq]
def AQ{α:Type}{f g:α->Bool}:∀{l:List α}{x:α},(∀y,f y=true->g y=true)->x∈l->g x=true->f x=false->l.countP f<l.countP g
 |y::l,x,hfg,hx,hg,hf=>by
  have ck:l.countP f<=l.countP g:=List.countP_mono_left fun y _=>hfg y;rw[List.countP_cons,List.countP_cons];rcases zzat.1 hx with rfl|hx
  ·rw[hg,hf];simp;omega
  have:=AQ hfg hx hg hf;by_cases h1:f y=true
  ·rw[h1,hfg y h1];simp;omega
  have oO:f y=false:=by simpa using h1
  rw[oO];simp only[zzbq,if_false,zzcq];exact zzbc this (zzgy _ _)
def uc(ops:Array Oper)(listed:Array Bool):Nat:=(List.range ops.size).countP fun i=>!listed.getD i true
def wq{listed:Array Bool}{i:Nat}(hsz:listed.size=ops.size)(hi:i<ops.size)(hl:listed.getD i true=false):uc ops (listed.setIfInBounds i true)<uc ops listed:=by
 unfold uc;refine AQ (x:=i) (fun j hj=>?_) (zzbf.2 hi) (by rw[hl];rfl) (by rw[Zz (by omega)];rfl);by_cases Ar:j=i
 ·subst Ar;rw[hl];rfl
 rw[Qx Ar]at hj;exact hj
def oT{listed:Array Bool}(h:uc ops listed=0){i:Nat}(hi:i<ops.size):listed.getD i true=true:=by
 unfold uc at h;have:=List.countP_eq_zero.1 h i (zzbf.2 hi);simpa using this
def Xm{listed:Array Bool}{i:Nat}(hi:i<listed.size)(b b':Bool):listed.getD i b=listed.getD i b':=by simp[hi]
def Zv(h:zq ops p=true):p<=ops.size/\∀i o,ops[i]?=some o->(∀j∈Vq o,j<i)/\
  (i<p->(∀t∈o.looksAt ops,∀j,j<p->Yr ops j=some t->j≠i->j<i/\j∈Vq o)/\(∀j,j<i->∀t,Yr ops j=some t->o.dst≠some t))/\
  (p<=i->CH ops i=true):=by
 unfold zq at h;simp only[zzak,decide_eq_true_eq,zzbh]at h;obtain⟨hp,h⟩:=h;refine⟨hp,fun i o ho=>?_⟩;have hi:i<ops.size:=(zzbw.1 ho).1;have:=h i (zzbf.2 hi);simp only[ho,zzak,zzbh,decide_eq_true_eq]at this;obtain⟨h1,h2⟩:=this;refine⟨h1,fun eT=>?_,fun eT=>?_⟩
 ·rw[if_pos eT]at h2;simp only[zzak,zzbh]at h2;obtain⟨h3,h4⟩:=h2;refine⟨fun t ht j hj hd aK=>?_,fun j hj t hd c9=>?_⟩
  ·have:=h3 t ht j (zzbf.2 hj);simp[hd,aK]at this;exact⟨this.1,this.2⟩
  have:=h4 j (zzbf.2 hj);simp[hd,c9]at this
 rw[if_neg (by omega)]at h2;exact h2
def QT(ops:Array Oper)(listed:Array Bool):Prop:=∀i o,listed.getD i false=true->ops[i]?=some o->∀j∈Vq o,listed.getD j false=true
def QT.set{listed:Array Bool}(h:QT ops listed){i:Nat}{o:Oper}(ho:ops[i]?=some o)(hsz:i<listed.size)(cM:∀j∈Vq o,listed.getD j false=true):QT ops (listed.setIfInBounds i true):=by
 have ajo:∀k,listed.getD k false=true->(listed.setIfInBounds i true).getD k false=true:=fun k hk=>by
  by_cases qT:i=k
  ·subst qT;exact Zz hsz
  rw[Qx (Ne.symm qT)];exact hk
 intro k o' hk c9 j hj;by_cases qT:i=k
 ·subst qT;rw[ho]at c9;cases c9;exact ajo j (cM j hj)
 rw[Qx (Ne.symm qT)]at hk;exact ajo j (h k o' hk c9 j hj)
def jf{listed:Array Bool}(QU:QT ops listed){i:Nat}{o:Oper}(ho:ops[i]?=some o)(ht:CH ops i=true)(cM:∀j∈Vq o,listed.getD j false=true):∀(n j:Nat),j<i->i-j<=n->listed.getD j false=true
 |0,j,h1,h2=>by omega
 |n+1,j,h1,h2=>by
  obtain⟨d,hd,hw⟩:=zzbz.1 (zzbh.1 ht j (zzbf.2 h1));have hdl:=zzbf.1 hd;unfold wg at hw;split at hw
  ·rename_i o' c9;have hm:j∈Vq o':=by simpa using hw
   by_cases h0:d=0
   ·subst h0;rw[zzfg,ho]at c9;cases c9;exact cM j hm
   exact QU (i-d) o' (jf QU ho ht cM n (i-d) (by omega) (by omega)) c9 j hm
  cases hw
def nB{o:Oper}{j:Nat}:j∈Vq o<->∃e∈o.after,Region.binds .any e=true/\e.on=j:=by
 simp[Vq];constructor
 ·rintro⟨e,⟨h1,h2⟩,rfl⟩;exact⟨e,h1,h2,rfl⟩
 rintro⟨e,h1,h2,rfl⟩;exact⟨e,⟨h1,h2⟩,rfl⟩
def Wq(hc:zq ops p=true){listed:Array Bool}(hsz:listed.size=ops.size):∀(n i:Nat),i<=n->i<ops.size->listed.getD i true=false->∃j,j∈Region.ready .any ops listed
 |0,i,bI,hi,hl=>by
  obtain rfl:i=0:=by omega
  have ho:ops[0]?=some ops[0]:=zzaj hi;refine⟨0,mem_ready.2 ⟨hl,ops[0],ho,fun e he hb=>?_⟩⟩;have:=((Zv hc).2 0 _ ho).1 e.on (nB.2 ⟨e,he,hb,rfl⟩);omega
 |n+1,i,bI,hi,hl=>by
  by_cases hex:∃j,j<i/\listed.getD j true=false
  ·obtain⟨j,hj,QV⟩:=hex;exact Wq hc hsz n j (by omega) (by omega) QV
  have ho:ops[i]?=some ops[i]:=zzaj hi;refine⟨i,mem_ready.2 ⟨hl,ops[i],ho,fun e he hb=>?_⟩⟩;have ai:=((Zv hc).2 i _ ho).1 e.on (nB.2 ⟨e,he,hb,rfl⟩)
  have:listed.getD e.on true=true:=by
   cases h:listed.getD e.on true with
   |true=>rfl
   |false=>exact absurd ⟨e.on,ai,h⟩ hex
  rw[Xm (by omega) false true];exact this
def Ws(hc:zq ops p=true){listed:Array Bool}{i:Nat}(hr:i∈Region.ready .any ops listed):i<ops.size/\listed.getD i true=false/\∃o,ops[i]?=some o/\∀j∈Vq o,listed.getD j false=true:=by
 obtain⟨h1,o,ho,h2⟩:=mem_ready.1 hr;refine⟨(zzbw.1 ho).1,h1,o,ho,fun j hj=>?_⟩;obtain⟨e,he,hb,rfl⟩:=nB.1 hj;exact h2 e he hb
def nC{Q:Exit->Act->World->Prop}{K:AS->Prop}(hQ:∀γ w s a,K s->eZ N w0 r aq S P gl Y γ w s a->Q .normal a w)(hc:zq ops p=true):
  ∀(bz k:Nat)(listed:Array Bool)(γ:G)(w:World)(s:AS)(a:Act),p<=k->k<=ops.size->listed.size=ops.size->(∀j,j<k->listed.getD j false=true)->(∀j,k<=j->j<ops.size->listed.getD j true=false)->
   uc ops listed<=bz->Zx P gl orc Y ((ops.toList.drop k).map (Xn P ops)) s K->eZ N w0 r aq S P gl Y γ w s a->wpAnyIn (FW r) 0 P .any ops Q bz listed a w:=by
 intro bz;induction bz with
 |zero=>
  intro k listed γ w s a Fa hk hsz NX hhi uk h hs
  have D5:k=ops.size:=by
   rcases zzaa k ops.size with h'|h'
   ·have:=oT (zzgf.1 uk) h';rw[hhi k (zzab _) h']at this;cases this
   omega
  have hd:ops.toList.drop k=[]:=zzam (by simp;omega);rw[hd]at h;refine⟨?_,hQ γ w s a h hs⟩;rw[List.eq_nil_iff_forall_not_mem];intro i hi;obtain⟨ai,hu,_⟩:=Ws hc hi;have:=oT (zzgf.1 uk) ai;rw[hu]at this;cases this
 |succ bz ih=>
  intro k listed γ w s a Fa hk hsz NX hhi uk h hs;refine⟨fun hr=>?_,fun i hi=>?_⟩
  ·have D5:k=ops.size:=by
    rcases zzaa k ops.size with h'|h'
    ·obtain⟨j,hj⟩:=Wq hc hsz k k (zzab _) h' (hhi k (zzab _) h');rw[hr]at hj;cases hj
    omega
   have hd:ops.toList.drop k=[]:=zzam (by simp;omega);rw[hd]at h;exact hQ γ w s a h hs
  obtain⟨ai,hu,o,ho,cM⟩:=Ws hc hi
  have fR:k<=i:=by
   rcases zzaa i k with h'|h'
   ·have:=NX i h';rw[Xm (by omega) false true,hu]at this;cases this
   exact h'
  have qT:i=k:=by
   rcases zzaa k i with h'|h'
   ·have QU:QT ops listed:=fun x ox hx hox j hj=>by
     have hxk:x<k:=by
      rcases zzaa x k with h1|h1
      ·exact h1
      have hxs:x<ops.size:=(zzbw.1 hox).1;rw[Xm (by omega) false true,hhi x h1 hxs]at hx;cases hx
     have:=((Zv hc).2 x ox hox).1 j hj;exact NX j (by omega)
    have:=jf QU ho (((Zv hc).2 i o ho).2.2 (by omega)) cM i k h' (by omega);rw[Xm (by omega) false true,hhi k (zzab _) (by omega)]at this;cases this
   omega
  subst qT;refine wpOpIn_mono ?_ (we ai hs h);rintro a' w' ⟨γ',s',iH,h'⟩;refine ih (i+1) _ γ' w' s' a' (by omega) ai (by simp[hsz]) (fun j hj=>?_) (fun j ek ql=>?_) ?_ h' iH
  ·rcases zzaa j i with h'|h'
   ·rw[Qx (by omega)];exact NX j h'
   obtain rfl:j=i:=by omega
   exact Zz (by omega)
  ·rw[Qx (by omega)];exact hhi j (by omega) ql
  have:=wq hsz ai hu;omega
def aeD{P:Program}{w:World}{γ:G}{te:TypeId}{zs:List AV}{i:TypeInfo}{z:Value}{n:Nat}(JW:ak w γ zs z.cells.toList)(g5:zs.all Qv=true)(g4:zs.length=i.size):
  cD w γ (bG n zs) (madeCells z.cells (n*i.size)).toList/\∀v∈(madeCells z.cells (n*i.size)).toList,v.oneCell'=true:=by
 have lP:=Ud JW g5;have EZ:z.cells.size=zs.length:=by have:=JW.1;simp at this;omega
 refine⟨⟨by simp[Kj,size_madeCells,g4],fun k c v j1 j2=>?_⟩,fun v hv=>?_⟩
 ·obtain⟨q1,q2⟩:=kQ j1
  have h0:0<zs.length:=by
   rcases zzcn zs.length with h0|h0
   ·simp[h0]at q1
   exact h0
  have ai:k%zs.length<z.cells.size:=by rw[EZ];exact zze _ h0
  have Cy:v=z.cells[k%zs.length]:=by
   simp only[madeCells,zzcd,zzgg]at j2;rw[zzaj (by simp;rw[<- g4];exact q1)]at j2;simp[EZ]at j2;rw[<- j2,getElem!_pos z.cells _ ai]
  subst Cy;exact JW.2 _ c _ q2 (by simp[ai])
 simp[madeCells]at hv;obtain⟨k,hk,rfl⟩:=hv
 have h0:0<z.cells.size:=by
  rcases zzcn z.cells.size with h0|h0
  ·rw[h0]at EZ;rw[<- g4,<- EZ]at hk;simp at hk
  exact h0
 have ai:k%z.cells.size<z.cells.size:=zze _ h0;rw[getElem!_pos z.cells _ ai];exact lP _ (by simp)
def alK{o:Oper}{sz bytes:Nat}{zs:List AV}{x y:bK}(h:tr P o=.mks sz bytes zs x y):∃t l c te i,o.op=.makeSlice t l c/\x=aA l/\y=aA c/\P.underlying t=some (.slice te)/\P.info? te=some i/\sz=i.size/\bytes=i.bytes/\zc P te=some zs:=by
 obtain⟨dst,op,ty,pos,after,guard⟩:=o;cases op
 case makeSlice t l c=>
  simp only[tr]at h;split at h
  ·rename_i te hu;split at h
   ·split at h<;>cases h
   ·rename_i i hi _;split at h
    ·rename_i zs' hz;cases h;exact⟨t,_,_,te,i,rfl,rfl,rfl,hu,hi,rfl,rfl,hz⟩
    cases h
   cases h
  cases h
 case call c=>
  simp only[tr,Zr]at h;repeat' split at h
  all_goals cases h
 case build t parts=>
  simp only[tr,Wj]at h;repeat' split at h
  all_goals cases h
 case slice t x lo hi mx=>cases mx<;>simp only[tr]at h<;>(repeat' split at h)<;>cases h
 case makeFunc fn a b=>cases fn<;>cases h
 case next x s=>cases s<;>cases h
 case makeMap t r=>cases r<;>simp only[tr]at h<;>(repeat' split at h)<;>cases h
 case binOp op t x y t'=>
  simp only[tr,mz,Qch,zi]at h;repeat' split at h
  all_goals cases h
 all_goals first|(cases h;done)|(
  simp only[tr]at h;repeat' split at h
  all_goals cases h)
def wz(c:Call)(zs:List AV):Zr P c≠.alloc zs:=by
 intro h;obtain⟨callee,args,ts⟩:=c;cases callee with
 |builtin b=>cases b<;>simp only[Zr]at h<;>(repeat' split at h)<;>cases h
 |_=>cases h
def CJ(c:Call)(x:bK):Zr P c≠.box x:=by
 intro h;obtain⟨callee,args,ts⟩:=c;cases callee with
 |builtin b=>cases b<;>simp only[Zr]at h<;>(repeat' split at h)<;>cases h
 |_=>cases h
def WX{o:Oper}{zs:List AV}(h:tr P o=.alloc zs):∃t,o.op=.alloc t/\zc P t=some zs:=by
 obtain⟨dst,op,ty,pos,after,guard⟩:=o;cases op
 case alloc t=>
  simp only[tr]at h;split at h
  ·rename_i zs' hz;cases h;exact⟨t,rfl,hz⟩
  cases h
 case call c=>exact absurd h (wz c zs)
 case build t parts=>
  simp only[tr,Wj]at h;repeat' split at h
  all_goals cases h
 case slice t x lo hi mx=>cases mx<;>simp only[tr]at h<;>(repeat' split at h)<;>cases h
 case makeFunc fn a b=>cases fn<;>cases h
 case next x s=>cases s<;>cases h
 case makeMap t r=>cases r<;>simp only[tr]at h<;>(repeat' split at h)<;>cases h
 case binOp op t x y t'=>
  simp only[tr,mz,Qch,zi]at h;repeat' split at h
  all_goals cases h
 all_goals first|(cases h;done)|(
  simp only[tr]at h;repeat' split at h
  all_goals cases h)
def alL{o:Oper}{x:bK}(h:tr P o=.box x):∃t y,o.op=.box t y/\x=aA y:=by
 obtain⟨dst,op,ty,pos,after,guard⟩:=o;cases op
 case box t y=>cases h;exact⟨t,y,rfl,rfl⟩
 case call c=>exact absurd h (CJ c x)
 case build t parts=>
  simp only[tr,Wj]at h;repeat' split at h
  all_goals cases h
 case slice t x lo hi mx=>cases mx<;>simp only[tr]at h<;>(repeat' split at h)<;>cases h
 case makeFunc fn a b=>cases fn<;>cases h
 case next x s=>cases s<;>cases h
 case makeMap t r=>cases r<;>simp only[tr]at h<;>(repeat' split at h)<;>cases h
 case binOp op t x y t'=>
  simp only[tr,mz,Qch,zi]at h;repeat' split at h
  all_goals cases h
 all_goals first|(cases h;done)|(
  simp only[tr]at h;repeat' split at h
  all_goals cases h)
def avV(hc:zq ops p=true){listed:Array Bool}(hsz:listed.size=ops.size){i:Nat}{o:Oper}(ho:ops[i]?=some o)(eT:i<p)(hu:listed.getD i true=false)(cM:∀j∈Vq o,listed.getD j false=true)
  {t:Nat}(ht:t∈o.looksAt ops):(Xf P gl orc ops T0 m i).1.getD t .junk=At P gl orc ops T0 m p listed t:=by
 have hi:i<ops.size:=(zzbw.1 ho).1;obtain⟨hp,dy⟩:=Zv hc;unfold At;by_cases hex:∃j,j<p/\Yr ops j=some t/\j≠i
 ·obtain⟨j,hj,hd,aK⟩:=hex;obtain⟨Ar,hja⟩:=((dy i o ho).2.1 eT).1 t ht j hj hd aK
  have hw:wr ops p listed t=true:=by
   unfold wr;rw[zzbz];exact⟨j,zzbf.2 hj,by rw[cM j hja,hd];simp⟩
  rw[if_pos hw]
  have:=kR (P:=P) (gl:=gl) (orc:=orc) (ops:=ops) (T0:=T0) (m:=m) (t:=t) (k:=i) (p-i) fun k cV dw NY=>by
   have hk:k<ops.size:=by omega
   have NZ:ops[k]?=some ops[k]:=zzaj hk;have:=((dy k _ NZ).2.1 (by omega)).2 j (by omega) t hd;simp[Yr,NZ]at NY;exact this NY
  rw[show i+(p-i)=p by omega]at this;exact this.symm
 have hw:wr ops p listed t=false:=by
  unfold wr;rw[zzem];intro j hj;simp only[zzak,beq_iff_eq,not_and];intro hl hd;by_cases Ar:j=i
  ·subst Ar;rw[Xm (by omega) false true,hu]at hl;cases hl
  exact hex ⟨j,zzbf.1 hj,hd,Ar⟩
 rw[hw];simp only[zzbq,if_false];exact Qec i fun j hj hd=>hex ⟨j,by omega,hd,by omega⟩
def alN(hc:zq ops p=true){listed:Array Bool}(hsz:listed.size=ops.size){i:Nat}{o:Oper}(ho:ops[i]?=some o)(eT:i<p){t:Nat}:
  At P gl orc ops T0 m p (listed.setIfInBounds i true) t=if o.dst=some t/\t<T0.length then(dop P gl orc (Xn P ops o) (Xf P gl orc ops T0 m i).1 m (Xf P gl orc ops T0 m i).2).2.1 else At P gl orc ops T0 m p listed t:=by
 have hi:i<ops.size:=(zzbw.1 ho).1;obtain⟨hp,dy⟩:=Zv hc;by_cases hd:o.dst=some t
 ·have hw:wr ops p (listed.setIfInBounds i true) t=true:=by
   unfold wr;rw[zzbz];exact⟨i,zzbf.2 eT,by rw[Zz (by omega)];simp[Yr,ho,hd]⟩
  have hl:=kR (P:=P) (gl:=gl) (orc:=orc) (ops:=ops) (T0:=T0) (m:=m) (t:=t) (k:=i+1) (p-(i+1)) fun k cV dw NY=>by
   have hk:k<ops.size:=by omega
   have NZ:ops[k]?=some ops[k]:=zzaj hk;have:=((dy k _ NZ).2.1 (by omega)).2 i (by omega) t (by simp[Yr,ho,hd]);simp[Yr,NZ]at NY;exact this NY
  rw[show i+1+(p-(i+1))=p by omega]at hl;by_cases ht:t<T0.length
  ·rw[if_pos ⟨hd,ht⟩];unfold At;rw[if_pos hw,hl,Wd ho,hd];exact mC (by rw[je];exact ht)
  rw[if_neg (by simp[ht])]
  have h1:∀k,(Xf P gl orc ops T0 m k).1.getD t .junk=.junk:=fun k=>by
   have:=je (P:=P) (gl:=gl) (orc:=orc) (ops:=ops) (T0:=T0) (m:=m) k;simp only[List.getD];rw[zzay (by omega)];rfl
  have h2:T0.getD t .junk=.junk:=h1 0;unfold At;rw[h1 p,h2];simp
 rw[if_neg (by simp[hd])]
 have hw:wr ops p (listed.setIfInBounds i true) t=wr ops p listed t:=by
  unfold wr;congr 1;funext j;by_cases hj:j=i
  ·subst hj;have hb:(o.dst==some t)=false:=by simpa using hd
   simp[Yr,ho,hb]
  rw[Qx hj]
 unfold At;rw[hw]
def J9(hc:zq ops p=true){Q:Exit->Act->World->Prop}{listed:Array Bool}{γ:G}{w:World}{a:Act}(hI:QS N w0 r aq S Y P gl orc ops T0 m p listed γ w a){i:Nat}{o:Oper}(ho:ops[i]?=some o)(eT:i<p)
  (hu:listed.getD i true=false)(cM:∀j∈Vq o,listed.getD j false=true)(bS:(dop P gl orc (Xn P ops o) (Xf P gl orc ops T0 m i).1 m (Xf P gl orc ops T0 m i).2).1):
  wpOpIn (FW r) 0 P ops Q i (fun a' w'=>∃γ',QS N w0 r aq S Y P gl orc ops T0 m p (listed.setIfInBounds i true) γ' w' a') a w:=by
 have hi:i<ops.size:=(zzbw.1 ho).1
 have zu:∀t∈o.looksAt ops,aB w γ ((Xf P gl orc ops T0 m i).1.getD t .junk) (a.tmps.getD t undef):=fun t ht=>by
  rw[avV (P:=P) (gl:=gl) (orc:=orc) (T0:=T0) (m:=m) hc hI.size ho eT hu cM ht];exact hI.tt t
 have gi:∀x∈o.op.operands,aB w γ (ev gl (Xf P gl orc ops T0 m i).1 (aA x)) (a.eval x):=fun x hx=>by
  cases x with
  |tmp t=>exact zu t (by simp only[Oper.looksAt,zzao,zzfh];exact .inl ⟨.tmp t,by simpa using hx,rfl⟩)
  |const v=>exact Jw w γ v
  |func f=>exact .fn rfl (fun i c v h=>by simp at h) rfl fun i c v h=>by simp at h
  |global g=>exact(hI.g g).gD
 have hB:∀id cells,m.boxes[id]?=some cells->AO P gl orc ops T0 m p listed id=some cells:=fun id cells h=>aeA h
 have fin:∀{v:Value}{w':World}{γ':G},Ev w γ w' γ'->au N w0 aq γ' w' (AO P gl orc ops T0 m p (listed.setIfInBounds i true)) m.L->
   aB w' γ' (dop P gl orc (Xn P ops o) (Xf P gl orc ops T0 m i).1 m (Xf P gl orc ops T0 m i).2).2.1 v->∃γ',QS N w0 r aq S Y P gl orc ops T0 m p (listed.setIfInBounds i true) γ' w' (a.put o.dst v):=fun{v w' γ'}he hm hr=>by
  refine⟨γ',by simp[hI.size],fun j ek ql=>by rw[Qx (by omega)];exact hI.tail j ek ql,QT.set hI.clo ho (by rw[hI.size];exact hi) cM,hm,hI.ls.mono he,hI.rd.bq he.dD,?_,fun t=>?_,?_,fun g=>(hI.g g).mono he.cT,hI.y.mono he.dD,hI.e.trans he.dD⟩
  ·cases hd:o.dst<;>simp[Act.put,hI.tl]
  ·rw[alN hc hI.size ho eT];by_cases hd:o.dst=some t
   ·by_cases ht:t<T0.length
    ·rw[if_pos ⟨hd,ht⟩,hd];have:(a.put (some t) v).tmps.getD t undef=v:=by simp[Act.put,hI.tl,ht]
     rw[this];exact hr
    rw[if_neg (by simp[ht]),hd];have:(a.put (some t) v).tmps.getD t undef=a.tmps.getD t undef:=by simp[Act.put,hI.tl,ht]
    rw[this];exact(hI.tt t).mono he
   rw[if_neg (by simp[hd])]
   have:(a.put o.dst v).tmps.getD t undef=a.tmps.getD t undef:=by
    cases Cv:o.dst with
    |none=>rfl
    |some d=>simp only[Act.put];simp;rw[zzdd (by rintro rfl;exact hd Cv)]
   rw[this];exact(hI.tt t).mono he
  cases hd:o.dst<;>exact hI.d.bq he.dD
 have dJ:=Wd (P:=P) (gl:=gl) (orc:=orc) (T0:=T0) (m:=m) ho
 have Fb:∀cells,(dop P gl orc (Xn P ops o) (Xf P gl orc ops T0 m i).1 m (Xf P gl orc ops T0 m i).2).2.2=(Xf P gl orc ops T0 m i).2++[cells]->Iy P gl orc ops T0 m i=true/\(Xf P gl orc ops T0 m p).2[kS P gl orc ops T0 m i]?=some cells:=fun cells h=>by
  refine⟨by simp only[Iy,kS,dJ,h];simp,?_⟩;have:=WV (P:=P) (gl:=gl) (orc:=orc) (ops:=ops) (T0:=T0) (m:=m) (i:=i+1) (p-(i+1)) (q:=kS P gl orc ops T0 m i) (c:=cells) (by rw[dJ];simp only[h,kS];simp);rwa [show i+1+(p-(i+1))=p by omega]at this
 have oS:(dop P gl orc (Xn P ops o) (Xf P gl orc ops T0 m i).1 m (Xf P gl orc ops T0 m i).2).2.2=(Xf P gl orc ops T0 m i).2->AO P gl orc ops T0 m p (listed.setIfInBounds i true)=AO P gl orc ops T0 m p listed:=fun h=>
  WW (by simp only[Iy,kS,dJ,h];simp)
 have AR:listed.getD i false=false:=by rw[Xm (by rw[hI.size];exact hi) false true];exact hu
 have box:∀{cells:List AV}{arr:Array Value}{te:TypeId},ak w γ cells arr.toList->cells.all Qv=true->
   (dop P gl orc (Xn P ops o) (Xf P gl orc ops T0 m i).1 m (Xf P gl orc ops T0 m i).2).2=(.ptr (m.boxes.length+(Xf P gl orc ops T0 m i).2.length) 0,(Xf P gl orc ops T0 m i).2++[cells])->
   (execOp a.eval o).run P w=.ok (.value (.pointer (some ⟨w.heap.size,0,none⟩))) (w.alloc (.cells arr te))->
   o.wpIn (FW r) 0 P a w (fun a' w'=>∃γ',QS N w0 r aq S Y P gl orc ops T0 m p (listed.setIfInBounds i true) γ' w' a') Q:=fun{cells arr te}hr bL hd aZ=>by
  obtain⟨qI,qL⟩:=Fb cells (by rw[hd]);have aN:=AP (p:=p) qI AR;refine Zn aZ (fin (hI.mm.dm _ aN _) ?_ ?_)
  ·rw[NW eT (by rw[hI.size];exact hi) qI qL];exact hI.mm.fk _ aN hr.toP (Ud hr bL)
  rw[hd];exact .ptr (by simp[G.box,kS])
 simp only[wpOpIn,ho];cases hg:o.guard with
 |none=>
  have hw:Region.wanted o (yielded ops a.tmps)=true:=by simp[Region.wanted,hg]
  rw[if_pos hw];have e1:(Xn P ops o).guard=none:=by simp[Xn,hg]
  cases WY:tr P o with
  |alloc zs=>
   have hd:dop P gl orc (Xn P ops o) (Xf P gl orc ops T0 m i).1 m (Xf P gl orc ops T0 m i).2=(zs.all Qv=true,.ptr (m.boxes.length+(Xf P gl orc ops T0 m i).2.length) 0,(Xf P gl orc ops T0 m i).2++[zs]):=by
    have e2:(Xn P ops o).op=.alloc zs:=WY;simp only[dop,e1,e2]
   rw[hd]at bS;obtain⟨t,WZ,hz⟩:=WX WY;obtain⟨i',z,dV,iZ,hr⟩:=qM (w:=w) (γ:=γ) hz;refine box (te:=t) hr bS (by rw[hd]) ?_;obtain⟨d',op',ty',aqH,af',gu'⟩:=o;simp only at WZ;subst WZ;simp[execOp,Instr.alloc,zeroValue,typeInfo,dV,iZ,newVar,newRow]
  |box x=>
   have hd:dop P gl orc (Xn P ops o) (Xf P gl orc ops T0 m i).1 m (Xf P gl orc ops T0 m i).2=(bare (ev gl (Xf P gl orc ops T0 m i).1 x)=true/\(cellsOf (ev gl (Xf P gl orc ops T0 m i).1 x)).all Qv=true,
     .ptr (m.boxes.length+(Xf P gl orc ops T0 m i).2.length) 0,(Xf P gl orc ops T0 m i).2++[cellsOf (ev gl (Xf P gl orc ops T0 m i).1 x)]):=by
    have e2:(Xn P ops o).op=.box x:=WY;simp only[dop,e1,e2]
   rw[hd]at bS;obtain⟨t,y,WZ,rfl⟩:=alL WY;have hry:=gi y (by rw[WZ];simp[Op.operands]);refine box (te:=t) (kM hry bS.1) bS.2 (by rw[hd]) ?_;obtain⟨d',op',ty',aqH,af',gu'⟩:=o;simp only at WZ;subst WZ;simp[execOp,Instr.box,newVar,newRow]
  |mks sz bytes zs x y=>
   obtain⟨t,l,c,te,i',WZ,rfl,rfl,hu,dV,rfl,rfl,Cs⟩:=alK WY;have e2:(Xn P ops o).op=.mks i'.size i'.bytes zs (aA l) (aA c):=WY;simp only[dop,e1,e2]at bS Fb;have hl:=gi l (by rw[WZ];simp[Op.operands]);have hc:=gi c (by rw[WZ];simp[Op.operands]);split at bS
   case h_2=>exact bS.elim
   rename_i k1 n1 k2 n2 q1 q2;rw[q1]at hl;rw[q2]at hc;obtain⟨⟨g0,g1,g2,g3⟩,g4,g5⟩:=bS;obtain⟨i2,z,hi2,hz,JW⟩:=qM (w:=w) (γ:=γ) Cs;rw[dV]at hi2;cases hi2
   have hd:dop P gl orc (Xn P ops o) (Xf P gl orc ops T0 m i).1 m (Xf P gl orc ops T0 m i).2=((0<=n1/\n1<=n2/\i'.bytes*n2<=281474976710656/\n2<=9223372036854775807)/\zs.length=i'.size/\zs.all Qv=true,.bs (m.boxes.length+(Xf P gl orc ops T0 m i).2.length) 0 n1.toNat i'.size,(Xf P gl orc ops T0 m i).2++[bG n2.toNat zs]):=by
    simp only[dop,e1,e2,q1,q2]
   have aZ:=run_make (P:=P) w t te i' z hu dV hz k1 k2 n1 n2 g0 (by omega) g2 g3;obtain⟨y6,iu⟩:=aeD (P:=P) (te:=te) (n:=n2.toNat) JW g5 g4;obtain⟨qI,qL⟩:=Fb (bG n2.toNat zs) (by simp only[q1,q2]);have aN:=AP (p:=p) qI AR
   have aqI:(execOp a.eval o).run P w=.ok (.value (.slice (some ⟨w.heap.size,0,none⟩) n1.toNat n2.toNat)) (w.alloc (.cells (madeCells z.cells (n2.toNat*i'.size)) te)):=by
    obtain⟨d',op',ty',aqH,af',gu'⟩:=o;simp only at WZ;subst WZ;simp[execOp,hl.aG,hc.aG,aZ]
   refine Zn aqI (fin (hI.mm.dm _ aN _) ?_ ?_)
   ·rw[NW eT (by rw[hI.size];exact hi) qI qL];exact hI.mm.fk _ aN y6 iu
   rw[hd];exact .bs (arr:=madeCells z.cells (n2.toNat*i'.size)) (e:=te) (by simp[G.box,kS]) (by omega) (by show(w.heap.push _)[w.heap.size]?=_;simp) (by rw[zzbv,size_madeCells];exact zzab _)
  |_=>
   have hd:dop P gl orc (Xn P ops o) (Xf P gl orc ops T0 m i).1 m (Xf P gl orc ops T0 m i).2=((rop P gl orc (ev gl (Xf P gl orc ops T0 m i).1) m o.dst (tr P o)).1,(rop P gl orc (ev gl (Xf P gl orc ops T0 m i).1) m o.dst (tr P o)).2,(Xf P gl orc ops T0 m i).2):=by
    have e2:(Xn P ops o).op=tr P o:=rfl;rw[WY]at e2;simp only[dop,e1,e2,WY];rfl
   rw[hd]at bS;have tK:=oS (by rw[hd]);rw[hd,tK]at fin;exact Qct hI.mm hB hI.g gi bS r _ Q fun v w' γ' h1 h2 h3=>fin h1 h2 h3
 |some q=>
  obtain⟨j,want⟩:=q;have e1:(Xn P ops o).guard=some ((ops[j]?).bind (·.dst),want):=by simp[Xn,hg]
  cases hj:(ops[j]?).bind (·.dst)with
  |none=>
   rw[hj]at e1;simp only[dop,e1]at bS
  |some t=>
   rw[hj]at e1;have mD:t∈o.looksAt ops:=by simp[Oper.looksAt,hg,hj]
   have aR:=zu t mD;cases tJ:Iw want ((Xf P gl orc ops T0 m i).1.getD t .junk)with
   |none=>simp only[dop,e1,tJ]at bS
   |some gw=>
    have hd:dop P gl orc (Xn P ops o) (Xf P gl orc ops T0 m i).1 m (Xf P gl orc ops T0 m i).2=(gok gl (Xf P gl orc ops T0 m i).1 gw (gxs (tr P o) (Xn P ops o).xs)/\(gw=true->(rop P gl orc (evG gl (Xf P gl orc ops T0 m i).1 (tr P o)) m o.dst (tr P o)).1),
      .gd gw (rop P gl orc (evG gl (Xf P gl orc ops T0 m i).1 (tr P o)) m o.dst (tr P o)).2,(Xf P gl orc ops T0 m i).2):=by
     simp only[dop,e1,tJ];rfl
    rw[hd]at bS;have tK:=oS (by rw[hd]);rw[hd,tK]at fin
    have WR:Region.wanted o (yielded ops a.tmps)=gw:=by
     have hyv:∀b,a.tmps.getD t undef=.bool b->yielded ops a.tmps j=some b:=fun b hb=>by
      have cK:t<a.tmps.size:=by
       rcases zzaa t a.tmps.size with h|h
       ·exact h
       simp[zzct h,undef]at hb
      simp[cK]at hb;simp only[yielded,hj,zzcg,zzaj cK,hb]
     have hyu:a.tmps.getD t undef=undef->yielded ops a.tmps j=none:=fun hb=>by
      rcases zzaa t a.tmps.size with cK|h
      ·simp[cK]at hb;simp only[yielded,hj,zzcg,zzaj cK,hb];rfl
      simp only[yielded,hj,zzcg,zzct h]
     generalize(Xf P gl orc ops T0 m i).1.getD t .junk=gv at tJ aR;cases gv with
     |bool g=>
      simp only[Iw,Option.some.injEq]at tJ;subst tJ;simp only[Region.wanted,hg,hyv g aR.bA];cases g<;>cases want<;>rfl
     |gd d x=>
      cases d with
      |false=>
       simp only[Region.wanted,hg,hyu aR.NN];cases x<;>simp[Iw]at tJ<;>subst tJ<;>cases want<;>rfl
      |true=>
       cases x<;>simp[Iw]at tJ;rename_i b;subst tJ;simp only[Region.wanted,hg,hyv b (aR.Cp rfl).bA];cases b<;>cases want<;>rfl
     |_=>simp[Iw]at tJ
    rw[WR];obtain⟨h1,h2⟩:=bS;cases Tg:gw with
    |true=>
     rw[Tg]at h1 h2 fin;simp only[if_true];refine Qct (e:=evG gl (Xf P gl orc ops T0 m i).1 (tr P o)) hI.mm hB hI.g (fun x hx=>?_) (h2 rfl) r _ Q fun v w' γ' q1 q2 q3=>fin q1 q2 (.gd (fun _=>q3) (fun h=>by cases h));unfold evG;cases gI:rawOp (tr P o)with
     |true=>exact gi x hx
     |false=>
      refine AN (gi x hx) fun g' b hgb=>CG h1 (aA x) ?_ g' b hgb rfl;simp only[gxs,gI,cond_false];simp[Xn,hg];exact⟨x,by simpa using hx,rfl⟩
    |false=>
     rw[Tg]at fin;simp only[zzbq,if_false];exact⟨fun _ _=>trivial,fin (Ev.refl _ _) hI.mm (.gd (fun h=>by cases h) (fun _=>rfl))⟩
def Fc{Q:Exit->Act->World->Prop}{K:AS->Prop}(hQ:∀γ w s a,K s->eZ N w0 r aq S P gl Y γ w s a->Q .normal a w)(hc:zq ops p=true)
  (alO:∀i o,i<p->ops[i]?=some o->(dop P gl orc (Xn P ops o) (Xf P gl orc ops T0 m i).1 m (Xf P gl orc ops T0 m i).2).1)
  (gQ:Zx P gl orc Y ((ops.toList.drop p).map (Xn P ops)) ⟨(Xf P gl orc ops T0 m p).1,{m with boxes:=m.boxes++(Xf P gl orc ops T0 m p).2}⟩ K):
  ∀(bz:Nat)(listed:Array Bool)(γ:G)(w:World)(a:Act),QS N w0 r aq S Y P gl orc ops T0 m p listed γ w a->uc ops listed<=bz->wpAnyIn (FW r) 0 P .any ops Q bz listed a w:=by
 obtain⟨hp,dy⟩:=Zv hc
 have full:∀(bz:Nat)(listed:Array Bool)(γ:G)(w:World)(a:Act),QS N w0 r aq S Y P gl orc ops T0 m p listed γ w a->uc ops listed<=bz->(∀i,i<p->listed.getD i false=true)->wpAnyIn (FW r) 0 P .any ops Q bz listed a w:=by
  intro bz listed γ w a hI uk bR;refine nC hQ hc bz p listed γ w _ a (zzab _) hp hI.size bR hI.tail uk gQ ⟨?_,hI.ls,hI.rd,⟨?_,fun t x v hx hv=>?_⟩,hI.d,hI.g,hI.y,hI.e⟩
  ·have:=hI.mm;rw[aeC bR]at this;exact this
  ·simp[je,hI.tl]
  have h1:=hI.tt t
  have hAt:At P gl orc ops T0 m p listed t=x:=by
   have kL:(Xf P gl orc ops T0 m p).1.getD t .junk=x:=by simp only at hx;simp[List.getD,hx]
   unfold At;split
   ·exact kL
   rename_i hw;rw[<- kL];refine(Qec p fun j hj hd=>hw ?_).symm;unfold wr;rw[zzbz];exact⟨j,zzbf.2 hj,by rw[bR j hj,hd];simp⟩
  rw[hAt]at h1;have:a.tmps.getD t undef=v:=by simp at hv;simp[hv]
  rwa [this]at h1
 intro bz;induction bz with
 |zero=>
  intro listed γ w a hI uk
  exact full 0 listed γ w a hI uk fun i hi=>by
   rw[Xm (by rw[hI.size];omega) false true];exact oT (zzgf.1 uk) (by omega)
 |succ bz ih=>
  intro listed γ w a hI uk;by_cases bR:∀i,i<p->listed.getD i false=true
  ·exact full (bz+1) listed γ w a hI uk bR
  have hex:∃k,k<p/\listed.getD k true=false:=by
   refine Classical.byContradiction fun hn=>bR fun i hi=>?_;rw[Xm (by rw[hI.size];omega) false true];cases hl:listed.getD i true with
   |true=>rfl
   |false=>exact absurd ⟨i,hi,hl⟩ hn
  obtain⟨k,hk,hlk⟩:=hex;refine⟨fun hr=>?_,fun i hi=>?_⟩
  ·obtain⟨j,hj⟩:=Wq hc hI.size k k (zzab _) (by omega) hlk;rw[hr]at hj;cases hj
  obtain⟨ai,hu,o,ho,cM⟩:=Ws hc hi
  have eT:i<p:=by
   rcases zzaa i p with h|h
   ·exact h
   have:=jf hI.clo ho ((dy i o ho).2.2 h) cM i k (by omega) (by omega);rw[Xm (by rw[hI.size];omega) false true,hlk]at this;cases this
  refine wpOpIn_mono ?_ (J9 hc hI ho eT hu cM (alO i o eT ho));rintro a' w' ⟨γ',zw⟩;refine ih _ γ' w' a' zw ?_;have:=wq hI.size ai hu;omega
def wA{Q:Exit->Act->World->Prop}{K:AS->Prop}{γ:G}{w:World}{s:AS}{a:Act}(hQ:∀γ w s a,K s->eZ N w0 r aq S P gl Y γ w s a->Q .normal a w)(hc:zq ops p=true)
  (h:vcD P gl orc Y ((ops.toList.drop p).map (Xn P ops)) K ((ops.toList.take p).map (Xn P ops)) s.T s.m [])(hs:eZ N w0 r aq S P gl Y γ w s a):
  wpAnyIn (FW r) 0 P .any ops Q ops.size (Array.replicate ops.size false) a {w with drawn:=w.drawn+1}:=by
 have hp:=(Zv hc).1;obtain⟨h1,h2⟩:=NU (P:=P) (gl:=gl) (orc:=orc) (T0:=s.T) (m:=s.m) ((ops.toList.drop p).map (Xn P ops)) K hp p 0 (by simp) (by rw[zzde];exact h);refine Fc (T0:=s.T) (m:=s.m) hQ hc (fun i o hi ho=>h1 i o (zzcc _) hi ho) h2 ops.size _ γ w.drew a ⟨by simp,fun i _ hi=>by simp[hi],fun i o h=>(by rcases zzaa i ops.size with h'|h'<;>simp[h']at h),?_,hs.ls.mono (Ev.drew w γ),hs.rd.bq (Ev.drew w γ).dD,?_,fun t=>?_,hs.d.bq (Ev.drew w γ).dD,fun g=>(hs.g g).mono (Ev.drew w γ).cT,hs.y.mono (Ev.drew w γ).dD,hs.e.trans (Ev.drew w γ).dD⟩ ?_
 ·have hB:AO P gl orc ops s.T s.m p (Array.replicate ops.size false)=s.m.B:=by
   funext id;unfold AO;simp only[AM.B];split
   ·rfl
   rename_i aN;rw[if_neg,zzay (by omega)];rw[zzbz];rintro⟨j,_,hj⟩
   have:(Array.replicate ops.size false).getD j false=false:=by
    rcases zzaa j ops.size with h|h<;>simp[h]
   rw[this]at hj;cases hj
  rw[hB];exact hs.m.drew
 ·have:=hs.t.1;simp at this;omega
 ·have hw:wr ops p (Array.replicate ops.size false) t=false:=by
   unfold wr;rw[zzem];intro j _
   have:(Array.replicate ops.size false).getD j false=false:=by
    rcases zzaa j ops.size with h|h<;>simp[h]
   rw[this];simp
  unfold At;rw[hw];simp only[zzbq,if_false];have:=(hs.t.mono (Ev.drew w γ)).get t;simpa[List.getD]using this
 unfold uc;exact zzbn (zzfq) (by simp)
end
open Go Go.RowKit
def alP(o:Oper):Bool:=o.guard.isNone
def aqJ(f:FuncId):Bool:=f==276||f==198||f==122||f==179||f==23||f==26||f==16||f==17
def ajp(o:Oper):Bool:=match o.op with
 |.call ⟨.value (.tmp _),_,_⟩=>o.dst.isSome
 |.call ⟨.value (.func f),_,_⟩=>o.dst.isSome&&aqJ f
 |.call ⟨.builtin .copy,_,_⟩=>true
 |.call ⟨.builtin .append,_,_⟩=>o.dst.isSome
 |.store _ _ _=>true
 |.mapUpdate _ _ _ _=>true
 |.mapEntry _ _ _=>true
 |.entryStore _ _ _ _=>true
 |_=>false
def lR(o:Oper):Bool:=ajp o||(match o.op with
 |.alloc _|.box _ _|.makeMap _ _|.range _ _=>true
 |_=>false)
def aqK(f:FuncId):Bool:=f==23
def aqL(o:Oper):Bool:=match o.op with
 |.call ⟨.value (.func f),_,_⟩=>aqK f
 |_=>false
def gJ(ops:Array Oper)(p:Oper->Bool)(i:Nat):Bool:=match ops[i]? with
 |some o=>p o
 |none=>false
def QW(ops:Array Oper):List Nat->Bool
 |j::j'::r=>(match ops[j']? with|some o=>(Vq o).contains j|none=>false)&&QW ops (j'::r)
 |_=>true
def jg(ops:Array Oper)(p:Nat):Option (List Nat):=
 let js:=(List.range p).filter (gJ ops lR)
 if(List.range p).any (gJ ops ajp)&&QW ops js&&((List.range p).all (gJ ops alP)||(List.range p).any (gJ ops aqL))&&(List.range p).all (fun i=>ops[i]?.isSome)then some js else none
inductive Fg
 |eff
 |pre
 |oth
def Fe(ops:Array Oper):Nat->List Nat->List Nat
 |0,s=>s
 |k+1,s=>bif s.any fun i=>wg ops i k then Fe ops k (k::s)else Fe ops k s
def um{ops:Array Oper}{listed:Array Bool}(h:QT ops listed):∀(k:Nat)(s:List Nat),(∀i∈s,listed.getD i false=true)->∀i∈Fe ops k s,listed.getD i false=true
 |0,_,hs,i,hi=>hs i hi
 |k+1,s,hs,i,hi=>by
  simp only[Fe]at hi;cases hc:s.any fun i=>wg ops i k with
  |false=>rw[hc]at hi;exact um h k s hs i hi
  |true=>
   rw[hc]at hi;refine um h k (k::s) (fun j hj=>?_) i hi;rcases zzat.1 hj with rfl|hj
   ·obtain⟨x,hx,hw⟩:=zzbz.1 hc;unfold wg at hw;split at hw
    ·rename_i o ho;exact h x o (hs x hx) ho j (by simpa using hw)
    cases hw
   exact hs j hj
def mE(ops:Array Oper)(js:List Nat)(i:Nat):Bool:=match js with
 |j::_=>(Fe ops j [j]).contains i
 |[]=>false
def Jo(ops:Array Oper)(js:List Nat)(i:Nat):Fg:=bif js.contains i then .eff else bif mE ops js i then .pre else .oth
def flags(ops:Array Oper)(p:Nat)(js:List Nat):List Fg:=(List.range p).map (Jo ops js)
section
variable (P:Program) (gl:Nat->AV) (orc:Nat->FuncId->List AV->AV) (Y:YT)
def memEff:aD->Bool
 |.store _ _ _|.cpy _ _ _|.mupd _ _ _ _|.ment _ _ _ _|.esto _ _ _|.alloc _|.box _|.mkmap _|.rng _|.app _ _ _ _=>true
 |_=>false
def effV(v:AV):aD->AV
 |.alloc _|.box _|.mkmap _|.rng _|.ment _ _ _ _|.app _ _ _ _=>v
 |_=>.junk
def effC(e:bK->AV)(m:AM)(dst:Option Nat)(av:AV)(m1:AM):aD->Prop
 |.call f args=>(match e f with
  |.fn g first cap=>an P gl Y g (first++args.map e++cap) m (fun x m2=>x=av/\m2=m1)
  |_=>False)
 |so=>memEff so=true/\(sop P gl orc e m dst so).1/\av=effV (sop P gl orc e m dst so).2.1 so/\m1=(sop P gl orc e m dst so).2.2
def Vx(T:List AV)(o:SO):Prop:=match o.guard with
 |none=>True
 |some (some t,b)=>T.getD t .junk=.bool b
 |some (none,_)=>False
def uo(l2:List SO)(K:AS->Prop)(m:AM)(ms:List (AV×AM)):List SO->List Fg->List (AV×AM)->AM->List AV->Prop
 |[],_,q,mc,T=>q=[]/\Zx P gl orc Y l2 ⟨T,mc⟩ K
 |_::_,[],_,_,_=>False
 |o::r,.eff::fl,q,mc,T=>(match q with
  |[]=>False
  |x::q=>Vx T o/\effC P gl orc Y (ev gl T) mc o.dst x.1 x.2 o.op/\uo l2 K m ms r fl q x.2 (put T o.dst x.1))
 |o::r,.pre::fl,q,mc,T=>Vx T o/\(rop P gl orc (ev gl T) m o.dst o.op).1/\uo l2 K m ms r fl q mc (put T o.dst (rop P gl orc (ev gl T) m o.dst o.op).2)
 |o::r,.oth::fl,q,mc,T=>Vx T o/\(rop P gl orc (ev gl T) m o.dst o.op).1/\(∀x∈ms,rop P gl orc (ev gl T) x.2 o.dst o.op=rop P gl orc (ev gl T) m o.dst o.op)/\uo l2 K m ms r fl q mc (put T o.dst (rop P gl orc (ev gl T) m o.dst o.op).2)
def rdC(e:bK->AV)(m:AM)(dst:Option Nat)(x:AM):aD->Prop
 |.call f args=>(match e f with
  |.fn g first cap=>an P gl Y g (first++args.map e++cap) x (fun y m2=>y=(rop P gl orc e m dst (.call f args)).2/\m2=x)
  |_=>False)
 |_=>False
def aqM(m:AM)(ms:List (AV×AM))(e:bK->AV)(dst:Option Nat)(so:aD):Prop:=
 ((rop P gl orc e m dst so).1/\∀x∈ms,rop P gl orc e x.2 dst so=rop P gl orc e m dst so)\/(rdC P gl orc Y e m dst m so/\∀x∈ms,rdC P gl orc Y e m dst x.2 so)
def jh(l2:List SO)(K:AS->Prop)(m:AM)(ms:List (AV×AM)):List SO->List Fg->List (AV×AM)->AM->List AV->Prop
 |[],_,q,mc,T=>q=[]/\Zx P gl orc Y l2 ⟨T,mc⟩ K
 |_::_,[],_,_,_=>False
 |o::r,.eff::fl,q,mc,T=>(match q with
  |[]=>False
  |x::q=>Vx T o/\effC P gl orc Y (ev gl T) mc o.dst x.1 x.2 o.op/\jh l2 K m ms r fl q x.2 (put T o.dst x.1))
 |o::r,.pre::fl,q,mc,T=>Vx T o/\(rop P gl orc (ev gl T) m o.dst o.op).1/\jh l2 K m ms r fl q mc (put T o.dst (rop P gl orc (ev gl T) m o.dst o.op).2)
 |o::r,.oth::fl,q,mc,T=>Vx T o/\aqM P gl orc Y m ms (ev gl T) o.dst o.op/\jh l2 K m ms r fl q mc (put T o.dst (rop P gl orc (ev gl T) m o.dst o.op).2)
def N0{l2:List SO}{K:AS->Prop}{m:AM}{ms:List (AV×AM)}:∀{l:List SO}{fl:List Fg}{q:List (AV×AM)}{mc:AM}{T:List AV},uo P gl orc Y l2 K m ms l fl q mc T->jh P gl orc Y l2 K m ms l fl q mc T
 |[],fl,q,mc,T,h=>by simp only[uo]at h;simp only[jh];exact h
 |_::_,[],_,_,_,h=>by simp only[uo]at h
 |o::r,.eff::fl,[],mc,T,h=>by simp only[uo]at h
 |o::r,.eff::fl,x::q,mc,T,h=>by
  simp only[uo]at h;simp only[jh];exact⟨h.1,h.2.1,N0 h.2.2⟩
 |o::r,.pre::fl,q,mc,T,h=>by
  simp only[uo]at h;simp only[jh];exact⟨h.1,h.2.1,N0 h.2.2⟩
 |o::r,.oth::fl,q,mc,T,h=>by
  simp only[uo]at h;simp only[jh];exact⟨h.1,.inl ⟨h.2.1,h.2.2.1⟩,N0 h.2.2.2⟩
end
def Kf:List (Nat×AV)->Nat->Option AV
 |[],_=>none
 |(k,a)::r,d=>if k=d then some a else Kf r d
def Xd:List Nat->List (AV×AM)->List (Nat×AV)
 |j::js,x::q=>(j,x.1)::Xd js q
 |_,_=>[]
def Uy(listed:Array Bool):AM->List Nat->List (AV×AM)->AM
 |m,j::js,x::q=>if listed.getD j false then Uy listed x.2 js q else m
 |m,_,_=>m
def Kb(m:AM)(ms:List (AV×AM)):Nat->AM
 |0=>m
 |a+1=>(ms.getD a (.junk,m)).2
def chn(listed:Array Bool):List Nat->Prop
 |j::j'::r=>(listed.getD j' false=true->listed.getD j false=true)/\chn listed (j'::r)
 |_=>True
section
variable {N:Nat} {w0:ir} {r:Option Nat} {aq:Nat->Nat->Prop} {S:G×World} {Y:YT} {P:Program} {gl:Nat->AV} {orc:Nat->FuncId->List AV->AV} {ops:Array Oper} {T0:List AV} {m:AM} {p:Nat}
def wB(listed:Array Bool):∀(js:List Nat)(ms:List (AV×AM))(m:AM),Uy listed m js ms=m\/∃x∈ms,Uy listed m js ms=x.2
 |[],ms,m=>.inl (by cases ms<;>rfl)
 |j::js,[],m=>.inl rfl
 |j::js,x::q,m=>by
  simp only[Uy];split
  ·rcases wB listed js q x.2 with h|⟨y,hy,h⟩
   ·exact .inr ⟨x,by simp,h⟩
   exact .inr ⟨y,by simp[hy],h⟩
  exact .inl rfl
def Qay{listed:Array Bool}:∀{js:List Nat}{ms:List (AV×AM)}{m:AM}{a:Nat},js.length=ms.length->a<=js.length->(∀b j,b<a->js[b]?=some j->listed.getD j false=true)->(∀j,js[a]?=some j->listed.getD j false=false)->
  Uy listed m js ms=Kb m ms a
 |[],[],m,a,_,ha,_,_=>by
  have:a=0:=by simpa using ha
  subst this;rfl
 |[],_::_,_,_,h,_,_,_=>by simp at h
 |_::_,[],_,_,h,_,_,_=>by simp at h
 |j::js,x::q,m,0,_,_,_,h=>by
  simp only[Uy,Kb];rw[h j rfl];rfl
 |j::js,x::q,m,a+1,hl,ha,h1,h2=>by
  simp only[Uy];rw[h1 0 j (by omega) rfl,if_pos rfl];rw[Qay (a:=a) (by simpa using hl) (by simpa using ha) (fun b j hb hj=>h1 (b+1) j (by omega) (by simpa using hj)) (fun j hj=>h2 j (by simpa using hj))];cases a with
  |zero=>rfl
  |succ a=>
   simp only[Kb,List.getD_cons_succ];have:a<q.length:=by simp at ha hl;omega
   simp[List.getD,this]
def qU{listed N1:Array Bool}:∀{js:List Nat}{ms:List (AV×AM)}{m:AM},(∀j∈js,N1.getD j false=listed.getD j false)->Uy N1 m js ms=Uy listed m js ms
 |[],_,_,_=>rfl
 |_::_,[],_,_=>rfl
 |j::js,x::q,m,h=>by
  simp only[Uy];rw[h j (by simp),qU fun j hj=>h j (by simp[hj])]
def ji{listed:Array Bool}:∀{js:List Nat},chn listed js->∀{a b j j':Nat},a<b->js[a]?=some j->js[b]?=some j'->listed.getD j' false=true->listed.getD j false=true
 |[],_,a,b,j,j',_,h,_,_=>by simp at h
 |[x],_,a,b,j,j',hab,h,h',_=>by
  have:=(zza.1 h').1;simp at this;omega
 |x::y::r,hc,0,1,j,j',_,h,h',hl=>by
  simp at h h';subst h;subst h';exact hc.1 hl
 |x::y::r,hc,0,b+2,j,j',_,h,h',hl=>by
  simp at h;subst h;exact hc.1 (ji hc.2 (a:=0) (b:=b+1) (by omega) rfl (by simpa using h') hl)
 |x::y::r,hc,a+1,b+1,j,j',hab,h,h',hl=>ji hc.2 (a:=a) (b:=b) (by omega) (by simpa using h) (by simpa using h') hl
def CK{listed:Array Bool}{i:Nat}:∀{js:List Nat},chn listed js->(∀a j,js[a]?=some j->js[a+1]?=some i->listed.getD j false=true)->chn (listed.setIfInBounds i true) js
 |[],_,_=>trivial
 |[_],_,_=>trivial
 |j::j'::r,hc,h=>by
  refine⟨fun hl=>?_,CK hc.2 fun a x hx kL=>h (a+1) x (by simpa using hx) (by simpa using kL)⟩
  have mono:∀k,listed.getD k false=true->(listed.setIfInBounds i true).getD k false=true:=fun k hk=>by
   by_cases qT:i=k
   ·subst qT
    have:i<listed.size:=by
     rcases zzaa i listed.size with h|h
     ·exact h
     simp[zzbm.2 h]at hk
    exact Zz this
   rw[Qx (Ne.symm qT)];exact hk
  by_cases eM:i=j'
  ·subst eM;exact mono j (h 0 j rfl rfl)
  rw[Qx (Ne.symm eM)]at hl;exact mono j (hc.1 hl)
def Qcx{l:List Nat}(h:l.Nodup){a b i:Nat}(h1:l[a]?=some i)(h2:l[b]?=some i):a=b:=by
 obtain⟨ha,ea⟩:=zza.1 h1;obtain⟨hb,eb⟩:=zza.1 h2;rcases zzfm a b with h'|h'|h'
 ·exact absurd (ea.trans eb.symm) (zzdk.1 h a b ha hb h')
 ·exact h'
 exact absurd (eb.trans ea.symm) (zzdk.1 h b a hb ha h')
def CL(P:Program)(gl:Nat->AV)(orc:Nat->FuncId->List AV->AV)(ops:Array Oper)(m:AM)(L:List (Nat×AV))(i:Nat)(T:List AV):AV:=match Kf L i with
 |some av=>av
 |none=>match ops[i]? with
  |some o=>(rop P gl orc (ev gl T) m o.dst (tr P o)).2
  |none=>.junk
def bU(P:Program)(gl:Nat->AV)(orc:Nat->FuncId->List AV->AV)(ops:Array Oper)(T0:List AV)(m:AM)(L:List (Nat×AV)):Nat->List AV
 |0=>T0
 |k+1=>match ops[k]? with
  |some o=>put (bU P gl orc ops T0 m L k) o.dst (CL P gl orc ops m L k (bU P gl orc ops T0 m L k))
  |none=>bU P gl orc ops T0 m L k
def Qdd{L:List (Nat×AV)}{k:Nat}{o:Oper}(h:ops[k]?=some o):bU P gl orc ops T0 m L (k+1)=put (bU P gl orc ops T0 m L k) o.dst (CL P gl orc ops m L k (bU P gl orc ops T0 m L k)):=by
 simp only[bU,h]
def kT{L:List (Nat×AV)}:∀k,(bU P gl orc ops T0 m L k).length=T0.length
 |0=>rfl
 |k+1=>by
  cases h:ops[k]? with
  |none=>simp only[bU,h];exact kT k
  |some o=>rw[Qdd h,wm];exact kT k
def Qde{L:List (Nat×AV)}{t:Nat}:∀k,(∀j,j<k->Yr ops j≠some t)->(bU P gl orc ops T0 m L (k)).getD t .junk=T0.getD t .junk
 |0,_=>rfl
 |k+1,h=>by
  cases ho:ops[k]? with
  |none=>simp only[bU,ho];exact Qde k fun j hj=>h j (by omega)
  |some o=>
   rw[Qdd ho,Qcb (by have:=h k (by omega);simpa[Yr,ho]using this)];exact Qde k fun j hj=>h j (by omega)
def jj{L:List (Nat×AV)}{t k:Nat}:∀n,(∀j,k<=j->j<k+n->Yr ops j≠some t)->(bU P gl orc ops T0 m L (k+n)).getD t .junk=(bU P gl orc ops T0 m L (k)).getD t .junk
 |0,_=>rfl
 |n+1,h=>by
  rw[<- zzan];cases ho:ops[k+n]? with
  |none=>simp only[bU,ho];exact jj n fun j h1 h2=>h j h1 (by omega)
  |some o=>
   rw[Qdd ho,Qcb (by have:=h (k+n) (by omega) (by omega);simpa[Yr,ho]using this)];exact jj n fun j h1 h2=>h j h1 (by omega)
def uq(P:Program)(gl:Nat->AV)(orc:Nat->FuncId->List AV->AV)(ops:Array Oper)(T0:List AV)(m:AM)(L:List (Nat×AV))(p:Nat)(listed:Array Bool)(t:Nat):AV:=
 if wr ops p listed t then(bU P gl orc ops T0 m L (p)).getD t .junk else T0.getD t .junk
def ajq{L:List (Nat×AV)}(hc:zq ops p=true){listed:Array Bool}(hsz:listed.size=ops.size){i:Nat}{o:Oper}(ho:ops[i]?=some o)(eT:i<p)(hu:listed.getD i true=false)(cM:∀j∈Vq o,listed.getD j false=true)
  {t:Nat}(ht:t∈o.looksAt ops):(bU P gl orc ops T0 m L (i)).getD t .junk=uq P gl orc ops T0 m L p listed t:=by
 have hi:i<ops.size:=(zzbw.1 ho).1;obtain⟨hp,dy⟩:=Zv hc;unfold uq;by_cases hex:∃j,j<p/\Yr ops j=some t/\j≠i
 ·obtain⟨j,hj,hd,aK⟩:=hex;obtain⟨Ar,hja⟩:=((dy i o ho).2.1 eT).1 t ht j hj hd aK
  have hw:wr ops p listed t=true:=by
   unfold wr;rw[zzbz];exact⟨j,zzbf.2 hj,by rw[cM j hja,hd];simp⟩
  rw[if_pos hw]
  have:=jj (P:=P) (gl:=gl) (orc:=orc) (ops:=ops) (T0:=T0) (m:=m) (L:=L) (t:=t) (k:=i) (p-i) fun k cV dw NY=>by
   have hk:k<ops.size:=by omega
   have NZ:ops[k]?=some ops[k]:=zzaj hk;have:=((dy k _ NZ).2.1 (by omega)).2 j (by omega) t hd;simp[Yr,NZ]at NY;exact this NY
  rw[show i+(p-i)=p by omega]at this;exact this.symm
 have hw:wr ops p listed t=false:=by
  unfold wr;rw[zzem];intro j hj;simp only[zzak,beq_iff_eq,not_and];intro hl hd;by_cases Ar:j=i
  ·subst Ar;rw[Xm (by omega) false true,hu]at hl;cases hl
  exact hex ⟨j,zzbf.1 hj,hd,Ar⟩
 rw[hw];simp only[zzbq,if_false];exact Qde i fun j hj hd=>hex ⟨j,by omega,hd,by omega⟩
def N2{L:List (Nat×AV)}(hc:zq ops p=true){listed:Array Bool}(hsz:listed.size=ops.size){i:Nat}{o:Oper}(ho:ops[i]?=some o)(eT:i<p){t:Nat}:
  uq P gl orc ops T0 m L p (listed.setIfInBounds i true) t=if o.dst=some t/\t<T0.length then CL P gl orc ops m L i (bU P gl orc ops T0 m L i)else uq P gl orc ops T0 m L p listed t:=by
 have hi:i<ops.size:=(zzbw.1 ho).1;obtain⟨hp,dy⟩:=Zv hc;by_cases hd:o.dst=some t
 ·have hw:wr ops p (listed.setIfInBounds i true) t=true:=by
   unfold wr;rw[zzbz];exact⟨i,zzbf.2 eT,by rw[Zz (by omega)];simp[Yr,ho,hd]⟩
  have hl:=jj (P:=P) (gl:=gl) (orc:=orc) (ops:=ops) (T0:=T0) (m:=m) (L:=L) (t:=t) (k:=i+1) (p-(i+1)) fun k cV dw NY=>by
   have hk:k<ops.size:=by omega
   have NZ:ops[k]?=some ops[k]:=zzaj hk;have:=((dy k _ NZ).2.1 (by omega)).2 i (by omega) t (by simp[Yr,ho,hd]);simp[Yr,NZ]at NY;exact this NY
  rw[show i+1+(p-(i+1))=p by omega]at hl;by_cases ht:t<T0.length
  ·rw[if_pos ⟨hd,ht⟩];unfold uq;rw[if_pos hw,hl,Qdd ho,hd];exact mC (by rw[kT];exact ht)
  rw[if_neg (by simp[ht])]
  have h1:∀k,(bU P gl orc ops T0 m L (k)).getD t .junk=.junk:=fun k=>by
   have:=kT (P:=P) (gl:=gl) (orc:=orc) (ops:=ops) (T0:=T0) (m:=m) (L:=L) k;simp only[List.getD];rw[zzay (by omega)];rfl
  have h2:T0.getD t .junk=.junk:=h1 0;unfold uq;rw[h1 p,h2];simp
 rw[if_neg (by simp[hd])]
 have hw:wr ops p (listed.setIfInBounds i true) t=wr ops p listed t:=by
  unfold wr;congr 1;funext j;by_cases hj:j=i
  ·subst hj;have hb:(o.dst==some t)=false:=by simpa using hd
   simp[Yr,ho,hb]
  rw[Qx hj]
 unfold uq;rw[hw]
structure zx (N:Nat) (w0:ir) (r:Option Nat) (aq:Nat->Nat->Prop) (S:G×World) (Y:YT) (P:Program) (gl:Nat->AV) (orc:Nat->FuncId->List AV->AV) (ops:Array Oper) (T0:List AV) (m:AM) (ms:List (AV×AM)) (js:List Nat) (L:List (Nat×AV)) (p:Nat) (listed:Array Bool) (γ:G) (w:World) (a:Act):Prop where
 size:listed.size=ops.size
 tail:∀i,p<=i->i<ops.size->listed.getD i true=false
 ch:chn listed js
 clo:∀i o,listed.getD i false=true->ops[i]?=some o->∀j∈Vq o,listed.getD j false=true
 mm:au N w0 aq γ w (Uy listed m js ms).B (Uy listed m js ms).L
 ls:cO γ w (Uy listed m js ms)
 rd:Rdr r γ w
 tl:a.tmps.size=T0.length
 tt:∀t,aB w γ (uq P gl orc ops T0 m L p listed t) (a.tmps.getD t undef)
 d:Dfr S.2.heap.size γ w a.defers
 g:∀g,aB w γ.cT (gl g) (.pointer (some ⟨g,0,none⟩))
 y:YOK N w0 aq P Y γ w
 e:eD S.2 S.1 w γ
def Ff:∀(js:List Nat)(ms:List (AV×AM))(d:Nat),d ∉ js->Kf (Xd js ms) d=none
 |[],_,_,_=>rfl
 |_::_,[],_,_=>rfl
 |j::js,x::q,d,h=>by
  simp only[Xd,Kf];rw[if_neg (by rintro rfl;exact h (by simp))];exact Ff js q d fun h'=>h (by simp[h'])
def Fh:∀(js:List Nat)(ms:List (AV×AM))(a i:Nat)(x:AV×AM),js.Nodup->js[a]?=some i->ms[a]?=some x->Kf (Xd js ms) i=some x.1
 |[],_,_,_,_,_,h,_=>by simp at h
 |_::_,[],_,_,_,_,_,h=>by simp at h
 |j::js,y::q,0,i,x,_,h,hx=>by
  simp at h hx;subst h;subst hx;simp only[Xd,Kf,if_true]
 |j::js,y::q,a+1,i,x,hn,h,hx=>by
  have si:=List.nodup_cons.1 hn;have h':js[a]?=some i:=by simpa using h
  simp only[Xd,Kf];rw[if_neg (by rintro rfl;exact si.1 (zzad h'))];exact Fh js q a i x si.2 h' (by simpa using hx)
def oU{js:List Nat}{ms:List (AV×AM)}{a i:Nat}{x:AV×AM}(hn:js.Nodup)(h:js[a]?=some i)(hx:ms[a]?=some x)(T:List AV):CL P gl orc ops m (Xd js ms) i T=x.1:=by
 unfold CL;rw[Fh js ms a i x hn h hx]
def oV{js:List Nat}{ms:List (AV×AM)}{i:Nat}{o:Oper}(h:i ∉ js)(ho:ops[i]?=some o)(T:List AV):CL P gl orc ops m (Xd js ms) i T=(rop P gl orc (ev gl T) m o.dst (tr P o)).2:=by
 unfold CL;rw[Ff js ms i h,ho]
def wC{γ:G}{w:World}{a:Act}{o:Oper}{T:List AV}(wD:Vx T (Xn P ops o))(zu:∀t∈o.looksAt ops,aB w γ (T.getD t .junk) (a.tmps.getD t undef)):Region.wanted o (yielded ops a.tmps)=true:=by
 cases hg:o.guard with
 |none=>simp[Region.wanted,hg]
 |some jw=>
  obtain⟨j,want⟩:=jw;have e1:(Xn P ops o).guard=some ((ops[j]?).bind (·.dst),want):=by simp[Xn,hg]
  unfold Vx at wD;rw[e1]at wD;cases hj:(ops[j]?).bind (·.dst)with
  |none=>rw[hj]at wD;exact wD.elim
  |some t=>
   rw[hj]at wD;simp only at wD;have mD:t∈o.looksAt ops:=by simp[Oper.looksAt,hg,hj]
   have aR:=zu t mD;rw[wD]at aR;have hb:=aR.bA
   have cK:t<a.tmps.size:=by
    rcases zzaa t a.tmps.size with h|h
    ·exact h
    simp[zzct h,undef]at hb
   simp[cK]at hb;have hy:yielded ops a.tmps j=some want:=by simp only[yielded,hj,zzcg,zzaj cK,hb]
   simp only[Region.wanted,hg,hy];cases want<;>rfl
def sw{ms:List (AV×AM)}{js:List Nat}(hc:zq ops p=true){Q:Exit->Act->World->Prop}{listed:Array Bool}{γ:G}{w:World}{a:Act}
  (hI:zx N w0 r aq S Y P gl orc ops T0 m ms js (Xd js ms) p listed γ w a){i:Nat}{o:Oper}(ho:ops[i]?=some o)(eT:i<p)(wD:Vx (bU P gl orc ops T0 m (Xd js ms) i) (Xn P ops o))(aH:js.length=ms.length)(AG:js.Nodup)
  (hu:listed.getD i true=false)(cM:∀j∈Vq o,listed.getD j false=true)(CM:∀a j,js[a]?=some j->js[a+1]?=some i->j∈Vq o)
  (aK:i ∉ js->((rop P gl orc (ev gl (bU P gl orc ops T0 m (Xd js ms) i)) m o.dst (tr P o)).1/\(mE ops js i=false->∀x∈ms,rop P gl orc (ev gl (bU P gl orc ops T0 m (Xd js ms) i)) x.2 o.dst (tr P o)=rop P gl orc (ev gl (bU P gl orc ops T0 m (Xd js ms) i)) m o.dst (tr P o)))\/(rdC P gl orc Y (ev gl (bU P gl orc ops T0 m (Xd js ms) i)) m o.dst m (tr P o)/\∀x∈ms,rdC P gl orc Y (ev gl (bU P gl orc ops T0 m (Xd js ms) i)) m o.dst x.2 (tr P o)))
  (NR:∀k x,js[k]?=some i->ms[k]?=some x->effC P gl orc Y (ev gl (bU P gl orc ops T0 m (Xd js ms) i)) (Kb m ms k) o.dst x.1 x.2 (tr P o)):
  wpOpIn (FW r) 0 P ops Q i (fun a' w'=>∃γ',zx N w0 r aq S Y P gl orc ops T0 m ms js (Xd js ms) p (listed.setIfInBounds i true) γ' w' a') a w:=by
 have hi:i<ops.size:=(zzbw.1 ho).1;have eS:i<listed.size:=by rw[hI.size];exact hi
 have zu:∀t∈o.looksAt ops,aB w γ ((bU P gl orc ops T0 m (Xd js ms) i).getD t .junk) (a.tmps.getD t undef):=fun t ht=>by
  rw[ajq (P:=P) (gl:=gl) (orc:=orc) (T0:=T0) (m:=m) (L:=Xd js ms) hc hI.size ho eT hu cM ht];exact hI.tt t
 have gi:∀x∈o.op.operands,aB w γ (ev gl (bU P gl orc ops T0 m (Xd js ms) i) (aA x)) (a.eval x):=fun x hx=>by
  cases x with
  |tmp t=>exact zu t (by simp only[Oper.looksAt,zzao,zzfh];exact .inl ⟨.tmp t,by simpa using hx,rfl⟩)
  |const v=>exact Jw w γ v
  |func f=>exact .fn rfl (fun i c v h=>by simp at h) rfl fun i c v h=>by simp at h
  |global g=>exact(hI.g g).gD
 have lS:chn (listed.setIfInBounds i true) js:=CK hI.ch fun a j h1 h2=>cM j (CM a j h1 h2);have hpr:QT ops (listed.setIfInBounds i true):=QT.set hI.clo ho eS cM
 have fin:∀{v:Value}{w':World}{γ':G},eD w γ w' γ'->au N w0 aq γ' w' (Uy (listed.setIfInBounds i true) m js ms).B (Uy (listed.setIfInBounds i true) m js ms).L->cO γ' w' (Uy (listed.setIfInBounds i true) m js ms)->
   aB w' γ' (CL P gl orc ops m (Xd js ms) i (bU P gl orc ops T0 m (Xd js ms) i)) v->∃γ',zx N w0 r aq S Y P gl orc ops T0 m ms js (Xd js ms) p (listed.setIfInBounds i true) γ' w' (a.put o.dst v):=fun{v w' γ'}he hm hl hr=>by
  refine⟨γ',by simp[hI.size],fun j ek ql=>by rw[Qx (by omega)];exact hI.tail j ek ql,lS,hpr,hm,hl,hI.rd.bq he,?_,fun t=>?_,?_,fun g=>(hI.g g).bq he.cT,hI.y.mono he,hI.e.trans he⟩
  ·cases hd:o.dst<;>simp[Act.put,hI.tl]
  ·rw[N2 hc hI.size ho eT];by_cases hd:o.dst=some t
   ·by_cases ht:t<T0.length
    ·rw[if_pos ⟨hd,ht⟩,hd];have:(a.put (some t) v).tmps.getD t undef=v:=by simp[Act.put,hI.tl,ht]
     rw[this];exact hr
    rw[if_neg (by simp[ht]),hd];have:(a.put (some t) v).tmps.getD t undef=a.tmps.getD t undef:=by simp[Act.put,hI.tl,ht]
    rw[this];exact(hI.tt t).bq he
   rw[if_neg (by simp[hd])]
   have:(a.put o.dst v).tmps.getD t undef=a.tmps.getD t undef:=by
    cases Cv:o.dst with
    |none=>rfl
    |some d=>simp only[Act.put];simp;rw[zzdd (by rintro rfl;exact hd Cv)]
   rw[this];exact(hI.tt t).bq he
  cases hd:o.dst<;>exact hI.d.bq he
 simp only[wpOpIn,ho];have hw:Region.wanted o (yielded ops a.tmps)=true:=wC wD zu;rw[if_pos hw];by_cases eM:i∈js
 ·obtain⟨k,hk⟩:=zzby.1 eM;have oz:k<ms.length:=by rw[<- aH];exact(zza.1 hk).1
  obtain⟨x,hx⟩:∃x,ms[k]?=some x:=⟨ms[k],zzac oz⟩;have h1:=NR k x hk hx;have h2:=oU (P:=P) (gl:=gl) (orc:=orc) (ops:=ops) (m:=m) AG hk hx (bU P gl orc ops T0 m (Xd js ms) i);have QV:listed.getD i false=false:=by rw[Xm eS false true];exact hu
  have W0:∀b j,b<k->js[b]?=some j->listed.getD j false=true:=fun b j hb hj=>by
   have mF:k-1<js.length:=by have:=(zza.1 hk).1;omega
   obtain⟨j1,ek⟩:∃j1,js[k-1]?=some j1:=⟨js[k-1],zzac mF⟩;have dZ:=cM j1 (CM (k-1) j1 ek (by rw[show k-1+1=k by omega];exact hk));rcases zzaa b (k-1)with h|h
   ·exact ji hI.ch h hj ek dZ
   obtain rfl:b=k-1:=by omega
   rw[hj]at ek;cases ek;exact dZ
  have Th:Uy listed m js ms=Kb m ms k:=Qay aH (by have:=(zza.1 hk).1;omega) W0 (fun j hj=>by rw[hk]at hj;cases hj;exact QV)
  have qp:Uy (listed.setIfInBounds i true) m js ms=x.2:=by
   have:=Qay (listed:=listed.setIfInBounds i true) (m:=m) (a:=k+1) aH (by have:=(zza.1 hk).1;omega) (fun b j hb hj=>?_) (fun j hj=>?_)
   ·rw[this];simp[Kb,List.getD,hx]
   ·rcases zzaa b k with h|h
    ·have ei:j≠i:=by
      rintro rfl;have:=Qcx AG hj hk;omega
     rw[Qx ei];exact W0 b j h hj
    obtain rfl:b=k:=by omega
    rw[hk]at hj;cases hj;exact Zz eS
   have ei:j≠i:=by
    rintro rfl;have:=Qcx AG hj hk;omega
   rw[Qx ei];cases hl:listed.getD j false with
   |false=>rfl
   |true=>rw[ji hI.ch (Nat.lt_succ_self k) hk hj hl]at QV;cases QV
  rw[qp,h2]at fin;have kU:=hI.mm;have lN:=hI.ls;rw[Th]at kU lN
  have zy:eZ N w0 r aq S P gl Y γ w ⟨(List.range T0.length).map fun t=>uq P gl orc ops T0 m (Xd js ms) p listed t,Kb m ms k⟩ a:=by
   refine⟨kU,lN,hI.rd,⟨by simp[hI.tl],fun t x v hx hv=>?_⟩,hI.d,hI.g,hI.y,hI.e⟩
   ·have ai:t<T0.length:=by
     rcases zzaa t T0.length with h|h
     ·exact h
     simp[zzbm.2 h]at hx
    simp[ai]at hx;have:=hI.tt t;rw[hx]at this;have Cy:a.tmps.getD t undef=v:=by simp at hv;simp[hv]
    rwa [Cy]at this
  have mem:∀so,tr P o=so->memEff so=true->((sop P gl orc (ev gl (bU P gl orc ops T0 m (Xd js ms) i)) (Kb m ms k) o.dst so).1/\x.1=effV (sop P gl orc (ev gl (bU P gl orc ops T0 m (Xd js ms) i)) (Kb m ms k) o.dst so).2.1 so/\x.2=(sop P gl orc (ev gl (bU P gl orc ops T0 m (Xd js ms) i)) (Kb m ms k) o.dst so).2.2)->
    o.wpIn (FW r) 0 P a w (fun a' w'=>∃γ',zx N w0 r aq S Y P gl orc ops T0 m ms js (Xd js ms) p (listed.setIfInBounds i true) γ' w' a') Q:=fun so WY _⟨k1,k2,k3⟩=>by
   refine AL (orc:=orc) (K:=fun av' m'=>x.1=effV av' so/\m'=x.2) kU hI.g gi ⟨by rw[WY];exact k1,by rw[WY];exact⟨k2,k3.symm⟩⟩ r _ Q fun v w' γ' av' m' hK h3 h4 h5 h6=>?_;obtain⟨hK1,rfl⟩:=hK;refine fin h4.dD h5 (lN.mono' h4 h3) ?_;rw[hK1];unfold effV;split<;>first|exact h6|exact .junk _
  cases htr:tr P o with
  |call f args=>
   rw[htr]at h1
   have oO:Qbu P gl Y (ev gl (bU P gl orc ops T0 m (Xd js ms) i)) (Kb m ms k) (fun y m2=>y=x.1/\m2=x.2) (tr P o):=by
    rw[htr];simp only[effC]at h1;simp only[Qbu];split at h1
    ·rename_i g first cap cw;simp only[cw];exact h1
    exact h1.elim
   refine Qdc zy gi oO fun v w' γ' av' m' hK h3 h4 h5 h6=>?_;obtain⟨rfl,rfl⟩:=hK;exact fin h3 h4 h5 h6
  |_=>rw[htr]at h1;first|exact mem _ htr h1.1 h1.2|exact absurd h1.1 (by simp[memEff])
 rcases aK eM with⟨h1,h2⟩|fB
 ·have bV:Uy (listed.setIfInBounds i true) m js ms=Uy listed m js ms:=qU fun j hj=>Qx (by rintro rfl;exact eM hj);rw[bV]at fin;have kU:=hI.mm;have lN:=hI.ls
  have aqN:rop P gl orc (ev gl (bU P gl orc ops T0 m (Xd js ms) i)) (Uy listed m js ms) o.dst (tr P o)=rop P gl orc (ev gl (bU P gl orc ops T0 m (Xd js ms) i)) m o.dst (tr P o):=by
   cases iX:mE ops js i with
   |false=>
    rcases wB listed js ms m with h|⟨x,hx,h⟩
    ·rw[h]
    rw[h];exact h2 iX x hx
   |true=>
    have Th:Uy listed m js ms=m:=by
     cases js with
     |nil=>cases ms<;>rfl
     |cons j0 js=>
      simp only[mE]at iX
      have hn:listed.getD j0 false=false:=by
       cases hl:listed.getD j0 false with
       |false=>rfl
       |true=>
        have:=um (ops:=ops) (listed:=listed) hI.clo j0 [j0] (fun k hk=>by rw[zzbd.1 hk];exact hl) i (by simpa using iX);rw[Xm eS false true,hu]at this;cases this
      cases ms with
      |nil=>rfl
      |cons x q=>simp only[Uy,hn];rfl
    rw[Th]
  generalize Uy listed m js ms=mL at*
  refine Qct (m:=mL) kU (fun _ _ h=>h) hI.g gi (by rw[aqN];exact h1) r _ Q fun v w' γ' q1 q2 q3=>?_;rw[aqN]at q3;exact fin q1.dD q2 (lN.mono q1) (by rw[oV eM ho];exact q3)
 have bV:Uy (listed.setIfInBounds i true) m js ms=Uy listed m js ms:=qU fun j hj=>Qx (by rintro rfl;exact eM hj);rw[bV]at fin;have kU:=hI.mm;have lN:=hI.ls
 have hL:rdC P gl orc Y (ev gl (bU P gl orc ops T0 m (Xd js ms) i)) m o.dst (Uy listed m js ms) (tr P o):=by
  rcases wB listed js ms m with h|⟨x,hx,h⟩
  ·rw[h];exact fB.1
  rw[h];exact fB.2 x hx
 generalize Uy listed m js ms=mL at*
 have zy:eZ N w0 r aq S P gl Y γ w ⟨(List.range T0.length).map fun t=>uq P gl orc ops T0 m (Xd js ms) p listed t,mL⟩ a:=by
  refine⟨kU,lN,hI.rd,⟨by simp[hI.tl],fun t x v hx hv=>?_⟩,hI.d,hI.g,hI.y,hI.e⟩
  ·have ai:t<T0.length:=by
    rcases zzaa t T0.length with h|h
    ·exact h
    simp[zzbm.2 h]at hx
   simp[ai]at hx;have:=hI.tt t;rw[hx]at this;have Cy:a.tmps.getD t undef=v:=by simp at hv;simp[hv]
   rwa [Cy]at this
 cases htr:tr P o with
 |call f args=>
  rw[htr]at hL
  have oO:Qbu P gl Y (ev gl (bU P gl orc ops T0 m (Xd js ms) i)) mL (fun y m2=>y=(rop P gl orc (ev gl (bU P gl orc ops T0 m (Xd js ms) i)) m o.dst (.call f args)).2/\m2=mL) (tr P o):=by
   rw[htr];simp only[rdC]at hL;simp only[Qbu];split at hL
   ·rename_i g first cap cw;simp only[cw];exact hL
   exact hL.elim
  refine Qdc zy gi oO fun v w' γ' av' m' hK h3 h4 h5 h6=>?_;obtain⟨rfl,rfl⟩:=hK;exact fin h3 h4 h5 (by rw[oV eM ho,htr];exact h6)
 |_=>rw[htr]at hL;exact(show False from hL).elim
def ur:∀{js:List Nat},QW ops js=true->∀a j j' o,js[a]?=some j->js[a+1]?=some j'->ops[j']?=some o->j∈Vq o
 |[],_,a,j,j',o,h,_,_=>by simp at h
 |[x],_,a,j,j',o,h,h',_=>by
  have:=(zza.1 h').1;simp at this
 |x::y::r,hc,0,j,j',o,h,h',ho=>by
  simp at h h';subst h;subst h';simp only[QW,zzak,ho]at hc;simpa using hc.1
 |x::y::r,hc,a+1,j,j',o,h,h',ho=>by
  simp only[QW,zzak]at hc;exact ur hc.2 a j j' o (by simpa using h) (by simpa using h') ho
def Qaa{js:List Nat}(h:jg ops p=some js):js=(List.range p).filter (gJ ops lR)/\QW ops js=true/\∀i,i<p->∃o,ops[i]?=some o:=by
 unfold jg at h;simp only at h;split at h
 case isFalse=>cases h
 rename_i bR;cases h;simp only[zzak]at bR;refine⟨rfl,bR.1.1.2,fun i hi=>?_⟩;have h1:=zzbh.1 bR.2 i (zzbf.2 hi);exact zzcj.1 h1
def fS(ops:Array Oper)(k:Nat):Nat:=((List.range k).filter (gJ ops lR)).length
def Fi(k:Nat):fS ops (k+1)=fS ops k+(if gJ ops lR k=true then 1 else 0):=by
 simp only[fS,zzfb,zzcu,zzah];cases h:gJ ops lR k<;>simp[h]
def W3{i:Nat}(hi:i<p)(hd:gJ ops lR i=true):((List.range p).filter (gJ ops lR))[fS ops i]?=some i:=by
 obtain⟨n,rfl⟩:∃n,p=i+(n+1):=⟨p-i-1,by omega⟩;rw[List.range_add,zzcu];have hl:fS ops i=((List.range i).filter (gJ ops lR)).length:=rfl;rw[hl,zzal (zzab _),zzhh,zzaz,zzcq,zzdr hd];simp
def aeE{ms:List (AV×AM)}{js:List Nat}(l2:List SO)(K:AS->Prop)(hp:p<=ops.size)(hj:jg ops p=some js):∀(n k:Nat)(mc:AM),k+n=p->fS ops k<=ms.length->mc=Kb m ms (fS ops k)->
  jh P gl orc Y l2 K m ms (((ops.toList.take p).drop k).map (Xn P ops)) ((flags ops p js).drop k) (ms.drop (fS ops k)) mc (bU P gl orc ops T0 m (Xd js ms) k)->
  js.length=ms.length/\
  (
   ∀i o,k<=i->i<p->ops[i]?=some o->
   (i ∉ js->((rop P gl orc (ev gl (bU P gl orc ops T0 m (Xd js ms) i)) m o.dst (tr P o)).1/\(mE ops js i=false->∀x∈ms,rop P gl orc (ev gl (bU P gl orc ops T0 m (Xd js ms) i)) x.2 o.dst (tr P o)=rop P gl orc (ev gl (bU P gl orc ops T0 m (Xd js ms) i)) m o.dst (tr P o)))\/(rdC P gl orc Y (ev gl (bU P gl orc ops T0 m (Xd js ms) i)) m o.dst m (tr P o)/\∀x∈ms,rdC P gl orc Y (ev gl (bU P gl orc ops T0 m (Xd js ms) i)) m o.dst x.2 (tr P o)))/\
   (∀b x,js[b]?=some i->ms[b]?=some x->effC P gl orc Y (ev gl (bU P gl orc ops T0 m (Xd js ms) i)) (Kb m ms b) o.dst x.1 x.2 (tr P o))/\Vx (bU P gl orc ops T0 m (Xd js ms) i) (Xn P ops o))/\
  Zx P gl orc Y l2 ⟨(bU P gl orc ops T0 m (Xd js ms) p),Kb m ms ms.length⟩ K:=by
 obtain⟨uh,_,uu⟩:=Qaa hj;have dH:∀j,j∈js<->j<p/\gJ ops lR j=true:=fun j=>by rw[uh,zzck,zzbf]
 have AG:js.Nodup:=by rw[uh];exact(zzdt).filter _
 have Tf:∀i,i<p->gJ ops lR i=true->js[fS ops i]?=some i:=fun i h1 h2=>by rw[uh];exact W3 h1 h2
 have W4:∀{a b i:Nat},js[a]?=some i->js[b]?=some i->a=b:=fun{a b i}h1 h2=>Qcx AG h1 h2;intro n;induction n with
 |zero=>
  intro k mc hk qo WO h;obtain rfl:k=p:=by omega
  have e0:(ops.toList.take k).drop k=[]:=zzam (by simp;omega);rw[e0]at h;simp only[zzcf,jh]at h;have fE:ms.length<=fS ops k:=zzfu.1 h.1;have Cu:fS ops k=js.length:=by rw[uh];rfl
  have hcc:fS ops k=ms.length:=by omega
  refine⟨by omega,fun i o h1 h2=>by omega,?_⟩;rw[<- hcc,<- WO];exact h.2
 |succ n ih=>
  intro k mc hk qo WO h;have cK:k<ops.size:=by omega
  have ho:ops[k]?=some ops[k]:=zzaj cK
  have hd:(ops.toList.take p).drop k=ops[k]::(ops.toList.take p).drop (k+1):=by
   rw[zzaf (by simp;omega)];simp
  have gh:(flags ops p js).drop k=Jo ops js k::(flags ops p js).drop (k+1):=by
   rw[zzaf (by simp[flags];omega)];simp[flags]
  rw[hd,gh,zzaz]at h;have WT:=Qdd (P:=P) (gl:=gl) (orc:=orc) (T0:=T0) (m:=m) (L:=Xd js ms) ho;have e2:(Xn P ops ops[k]).op=tr P ops[k]:=rfl;have e3:(Xn P ops ops[k]).dst=ops[k].dst:=rfl;have qN:=Fi (ops:=ops) k;cases kP:js.contains k with
  |true=>
   have QX:k∈js:=by simpa using kP
   have CN:=((dH k).1 QX).2;rw[CN,if_pos rfl]at qN;rw[show Jo ops js k=.eff by simp only[Jo,kP,cond_true]]at h;simp only[jh,e2,e3]at h;split at h
   ·exact h.elim
   rename_i x q hq
   have avW:fS ops k<ms.length:=by
    rcases zzaa (fS ops k) ms.length with h'|h'
    ·exact h'
    rw[zzam h']at hq;cases hq
   have hx:ms[fS ops k]?=some x:=by
    have:(ms.drop (fS ops k))[0]?=some x:=by rw[hq];rfl
    simpa using this
   have P3:ms.drop (fS ops (k+1))=q:=by
    rw[qN,<- zzds,hq];rfl
   obtain⟨hgr,h1,h2⟩:=h;have y7:=Tf k (by omega) CN;have cU:=oU (P:=P) (gl:=gl) (orc:=orc) (ops:=ops) (m:=m) AG y7 hx (bU P gl orc ops T0 m (Xd js ms) k);rw[cU]at WT
   obtain⟨r1,r2,r3⟩:=ih (k+1) x.2 (by omega) (by omega) (by rw[qN];simp[Kb,List.getD,hx]) (by
    rw[WT,P3];exact h2)
   refine⟨r1,fun i o hi eT CI=>?_,r3⟩;rcases zzaa k i with fR|fR
   ·exact r2 i o fR eT CI
   obtain rfl:i=k:=by omega
   rw[ho]at CI;cases CI;refine⟨fun h=>absurd QX h,fun b y hb hy=>?_,hgr⟩;obtain rfl:=W4 hb y7;rw[hx]at hy;cases hy;rw[<- WO];exact h1
  |false=>
   have QX:k ∉ js:=by simpa using kP
   have CN:gJ ops lR k=false:=by
    cases Ti:gJ ops lR k with
    |false=>rfl
    |true=>exact absurd ((dH k).2 ⟨by omega,Ti⟩) QX
   rw[CN,if_neg (by simp),zzcq]at qN
   obtain⟨hgr,h1,h3⟩:Vx (bU P gl orc ops T0 m (Xd js ms) k) (Xn P ops ops[k])/\(((rop P gl orc (ev gl (bU P gl orc ops T0 m (Xd js ms) k)) m ops[k].dst (tr P ops[k])).1/\(mE ops js k=false->∀x∈ms,rop P gl orc (ev gl (bU P gl orc ops T0 m (Xd js ms) k)) x.2 ops[k].dst (tr P ops[k])=rop P gl orc (ev gl (bU P gl orc ops T0 m (Xd js ms) k)) m ops[k].dst (tr P ops[k])))\/(rdC P gl orc Y (ev gl (bU P gl orc ops T0 m (Xd js ms) k)) m ops[k].dst m (tr P ops[k])/\∀x∈ms,rdC P gl orc Y (ev gl (bU P gl orc ops T0 m (Xd js ms) k)) m ops[k].dst x.2 (tr P ops[k])))/\
     jh P gl orc Y l2 K m ms (((ops.toList.take p).drop (k+1)).map (Xn P ops)) ((flags ops p js).drop (k+1)) (ms.drop (fS ops k)) mc (put (bU P gl orc ops T0 m (Xd js ms) k) ops[k].dst (rop P gl orc (ev gl (bU P gl orc ops T0 m (Xd js ms) k)) m ops[k].dst (tr P ops[k])).2):=by
    cases iX:mE ops js k with
    |true=>
     rw[show Jo ops js k=.pre by simp only[Jo,kP,iX,cond_true,cond_false]]at h;simp only[jh,e2,e3]at h;exact⟨h.1,.inl ⟨h.2.1,fun h=>(by cases h)⟩,h.2.2⟩
    |false=>
     rw[show Jo ops js k=.oth by simp only[Jo,kP,iX,cond_false]]at h;simp only[jh,e2,e3]at h;exact⟨h.1,h.2.1.imp_left fun h=>⟨h.1,fun _=>h.2⟩,h.2.2⟩
   rw[oV QX ho]at WT;obtain⟨r1,r2,r3⟩:=ih (k+1) mc (by omega) (by omega) (by rw[qN];exact WO) (by rw[WT,qN];exact h3);refine⟨r1,fun i o hi eT CI=>?_,r3⟩;rcases zzaa k i with fR|fR
   ·exact r2 i o fR eT CI
   obtain rfl:i=k:=by omega
   rw[ho]at CI;cases CI;refine⟨fun _=>h1,fun b y hb=>absurd (zzad hb) QX,hgr⟩
def sx{Q:Exit->Act->World->Prop}{K:AS->Prop}{γ:G}{w:World}{s:AS}{a:Act}{js:List Nat}(hQ:∀γ w s a,K s->eZ N w0 r aq S P gl Y γ w s a->Q .normal a w)(hc:zq ops p=true)(hj:jg ops p=some js)
  {ms:List (AV×AM)}(h:jh P gl orc Y ((ops.toList.drop p).map (Xn P ops)) K s.m ms ((ops.toList.take p).map (Xn P ops)) (flags ops p js) ms s.m s.T)(hs:eZ N w0 r aq S P gl Y γ w s a):
  wpAnyIn (FW r) 0 P .any ops Q ops.size (Array.replicate ops.size false) a {w with drawn:=w.drawn+1}:=by
 obtain⟨hp,dy⟩:=Zv hc;obtain⟨uh,hjc,uu⟩:=Qaa hj;have AG:js.Nodup:=by rw[uh];exact(zzdt).filter _
 have W5:∀j∈js,j<p:=fun j h=>by rw[uh,zzck]at h;exact zzbf.1 h.1
 obtain⟨aH,h1,h2⟩:=aeE (P:=P) (gl:=gl) (orc:=orc) (T0:=s.T) (m:=s.m) ((ops.toList.drop p).map (Xn P ops)) K hp hj p 0 s.m (by simp) (by simp[fS]) (by simp[fS,Kb]) (by simpa[bU,fS]using h)
 have full:∀(bz:Nat)(listed:Array Bool)(γ:G)(w:World)(a:Act),zx N w0 r aq S Y P gl orc ops s.T s.m ms js (Xd js ms) p listed γ w a->uc ops listed<=bz->(∀i,i<p->listed.getD i false=true)->wpAnyIn (FW r) 0 P .any ops Q bz listed a w:=by
  intro bz listed γ w a hI uk bR;have hml:Uy listed s.m js ms=Kb s.m ms ms.length:=Qay aH (by omega) (fun b j _ hb=>bR j (W5 j (zzad hb))) (fun j hj=>by rw[zzay (by omega)]at hj;cases hj);have kU:=hI.mm;have lN:=hI.ls;rw[hml]at kU lN;refine nC hQ hc bz p listed γ w _ a (zzab _) hp hI.size bR hI.tail uk h2 ⟨kU,lN,hI.rd,⟨?_,fun t x v hx hv=>?_⟩,hI.d,hI.g,hI.y,hI.e⟩
  ·simp[kT,hI.tl]
  have h1:=hI.tt t
  have hAt:uq P gl orc ops s.T s.m (Xd js ms) p listed t=x:=by
   have kL:(bU P gl orc ops s.T s.m (Xd js ms) p).getD t .junk=x:=by simp only at hx;simp[List.getD,hx]
   unfold uq;split
   ·exact kL
   rename_i hw;rw[<- kL];refine(Qde p fun j hj hd=>hw ?_).symm;unfold wr;rw[zzbz];exact⟨j,zzbf.2 hj,by rw[bR j hj,hd];simp⟩
  rw[hAt]at h1;have:a.tmps.getD t undef=v:=by simp at hv;simp[hv]
  rwa [this]at h1
 have main:∀(bz:Nat)(listed:Array Bool)(γ:G)(w:World)(a:Act),zx N w0 r aq S Y P gl orc ops s.T s.m ms js (Xd js ms) p listed γ w a->uc ops listed<=bz->wpAnyIn (FW r) 0 P .any ops Q bz listed a w:=by
  intro bz;induction bz with
  |zero=>
   intro listed γ w a hI uk
   exact full 0 listed γ w a hI uk fun i hi=>by
    rw[Xm (by rw[hI.size];omega) false true];exact oT (zzgf.1 uk) (by omega)
  |succ bz ih=>
   intro listed γ w a hI uk;by_cases bR:∀i,i<p->listed.getD i false=true
   ·exact full (bz+1) listed γ w a hI uk bR
   have hex:∃k,k<p/\listed.getD k true=false:=by
    refine Classical.byContradiction fun hn=>bR fun i hi=>?_;rw[Xm (by rw[hI.size];omega) false true];cases hl:listed.getD i true with
    |true=>rfl
    |false=>exact absurd ⟨i,hi,hl⟩ hn
   obtain⟨k,hk,hlk⟩:=hex;refine⟨fun hr=>?_,fun i hi=>?_⟩
   ·obtain⟨j,hj⟩:=Wq hc hI.size k k (zzab _) (by omega) hlk;rw[hr]at hj;cases hj
   obtain⟨ai,hu,o,ho,cM⟩:=Ws hc hi
   have eT:i<p:=by
    rcases zzaa i p with h|h
    ·exact h
    have:=jf hI.clo ho ((dy i o ho).2.2 h) cM i k (by omega) (by omega);rw[Xm (by rw[hI.size];omega) false true,hlk]at this;cases this
   refine wpOpIn_mono ?_ (sw hc hI ho eT (h1 i o (zzcc _) eT ho).2.2 aH AG hu cM (fun a j e1 e2=>ur hjc a j i o e1 e2 ho) (h1 i o (zzcc _) eT ho).1 (h1 i o (zzcc _) eT ho).2.1);rintro a' w' ⟨γ',zw⟩;refine ih _ γ' w' a' zw ?_;have:=wq hI.size ai hu;omega
 have AR:∀j,(Array.replicate ops.size false).getD j false=false:=fun j=>by
  rcases zzaa j ops.size with h|h<;>simp[h]
 have CM:∀js':List Nat,chn (Array.replicate ops.size false) js':=fun js'=>by
  induction js' with
  |nil=>trivial
  |cons j r ih=>
   cases r with
   |nil=>trivial
   |cons j' r=>exact⟨fun h=>(by rw[AR]at h;cases h),ih⟩
 have Th:Uy (Array.replicate ops.size false) s.m js ms=s.m:=Qay (a:=0) aH (by omega) (fun b j hb=>by omega) (fun j _=>AR j);refine main ops.size _ γ w.drew a ⟨by simp,fun i _ hi=>by simp[hi],CM js,fun j o h=>(by rw[AR]at h;cases h),?_,?_,hs.rd.bq (Ev.drew w γ).dD,?_,fun t=>?_,hs.d.bq (Ev.drew w γ).dD,fun g=>(hs.g g).mono (Ev.drew w γ).cT,hs.y.mono (Ev.drew w γ).dD,hs.e.trans (Ev.drew w γ).dD⟩ ?_
 ·rw[Th];exact hs.m.drew
 ·rw[Th];exact hs.ls.mono (Ev.drew w γ)
 ·have:=hs.t.1;simp at this;omega
 ·have hw:wr ops p (Array.replicate ops.size false) t=false:=by
   unfold wr;rw[zzem];intro j _;rw[AR j];simp
  unfold uq;rw[hw];simp only[zzbq,if_false];have:=(hs.t.mono (Ev.drew w γ)).get t;simpa[List.getD]using this
 unfold uc;exact zzbn (zzfq) (by simp)
end
open Go
def wE(ops:Array Oper)(p:Nat)(js:List Nat):Bool:=match js.getLast? with
 |some j=>(List.range p).all fun i=>decide (i<=j)||(Fe ops i [i]).contains j
 |none=>false
def bkF(ops:Array Oper)(p:Nat)(js:List Nat):List Fg:=bif wE ops p js then[.eff]else[]
def aeF(fl:List Fg)(l:List SO):Bool:=!(fl.drop l.length).isEmpty
section
variable (P:Program) (gl:Nat->AV) (orc:Nat->FuncId->List AV->AV) (Y:YT)
def effR(e:bK->AV)(m:AM)(R:AV->AM->Prop):aD->Prop
 |.call f args=>(match e f with
  |.fn g first cap=>an P gl Y g (first++args.map e++cap) m R
  |_=>False)
 |_=>False
def kV(R:AV->AM->Prop)(l2:List SO)(K:AS->Prop)(m:AM)(ms:List (AV×AM)):List SO->List Fg->List (AV×AM)->AM->List AV->Prop
 |[],_,q,mc,T=>q=[]/\Zx P gl orc Y l2 ⟨T,mc⟩ K
 |_::_,[],_,_,_=>False
 |o::r,.eff::fl,q,mc,T=>(match q with
  |[]=>False
  |x::q=>Vx T o/\((q=[]->effR P gl Y (ev gl T) mc R o.op)/\(q≠[]->effC P gl orc Y (ev gl T) mc o.dst x.1 x.2 o.op))/\kV R l2 K m ms r fl q x.2 (put T o.dst x.1))
 |o::r,.pre::fl,q,mc,T=>Vx T o/\(rop P gl orc (ev gl T) m o.dst o.op).1/\kV R l2 K m ms r fl q mc (put T o.dst (rop P gl orc (ev gl T) m o.dst o.op).2)
 |o::r,.oth::fl,q,mc,T=>Vx T o/\(rop P gl orc (ev gl T) m o.dst o.op).1/\(∀x∈ms,rop P gl orc (ev gl T) x.2 o.dst o.op=rop P gl orc (ev gl T) m o.dst o.op)/\kV R l2 K m ms r fl q mc (put T o.dst (rop P gl orc (ev gl T) m o.dst o.op).2)
def jk{l2:List SO}{K:AS->Prop}{m:AM}{ms:List (AV×AM)}{ex:List Fg}:∀{l:List SO}{fl:List Fg}{q:List (AV×AM)}{mc:AM}{T:List AV},fl.length=l.length->jh P gl orc Y l2 K m ms l (fl++ex) q mc T->jh P gl orc Y l2 K m ms l fl q mc T
 |[],[],q,mc,T,_,h=>by simpa only[jh]using h
 |[],_::_,_,_,_,hl,_=>by simp at hl
 |_::_,[],_,_,_,hl,_=>by simp at hl
 |o::r,.eff::fl,[],mc,T,hl,h=>by simp only[zzae,jh]at h
 |o::r,.eff::fl,x::q,mc,T,hl,h=>by
  simp only[zzae,jh]at h |-
  exact⟨h.1,h.2.1,jk (by simpa using hl) h.2.2⟩
 |o::r,.pre::fl,q,mc,T,hl,h=>by
  simp only[zzae,jh]at h |-
  exact⟨h.1,h.2.1,jk (by simpa using hl) h.2.2⟩
 |o::r,.oth::fl,q,mc,T,hl,h=>by
  simp only[zzae,jh]at h |-
  exact⟨h.1,h.2.1,jk (by simpa using hl) h.2.2⟩
def oW{R:AV->AM->Prop}{l2:List SO}{K:AS->Prop}{m:AM}{ms:List (AV×AM)}{ex:List Fg}:∀{l:List SO}{fl:List Fg}{q:List (AV×AM)}{mc:AM}{T:List AV},fl.length=l.length->kV P gl orc Y R l2 K m ms l (fl++ex) q mc T->kV P gl orc Y R l2 K m ms l fl q mc T
 |[],[],q,mc,T,_,h=>by simpa only[kV]using h
 |[],_::_,_,_,_,hl,_=>by simp at hl
 |_::_,[],_,_,_,hl,_=>by simp at hl
 |o::r,.eff::fl,[],mc,T,hl,h=>by simp only[zzae,kV]at h
 |o::r,.eff::fl,x::q,mc,T,hl,h=>by
  simp only[zzae,kV]at h |-
  exact⟨h.1,h.2.1,oW (by simpa using hl) h.2.2⟩
 |o::r,.pre::fl,q,mc,T,hl,h=>by
  simp only[zzae,kV]at h |-
  exact⟨h.1,h.2.1,oW (by simpa using hl) h.2.2⟩
 |o::r,.oth::fl,q,mc,T,hl,h=>by
  simp only[zzae,kV]at h |-
  exact⟨h.1,h.2.1,h.2.2.1,oW (by simpa using hl) h.2.2.2⟩
end
section
variable {N:Nat} {w0:ir} {r:Option Nat} {aq:Nat->Nat->Prop} {S:G×World} {Y:YT} {P:Program} {gl:Nat->AV} {orc:Nat->FuncId->List AV->AV} {ops:Array Oper} {T0:List AV} {m:AM} {p:Nat}
def wG{x x':AV×AM}{i:Nat}:∀{js:List Nat}{ms:List (AV×AM)}{jl:Nat},js[ms.length]?=some jl->i≠jl->Kf (Xd js (ms++[x])) i=Kf (Xd js (ms++[x'])) i
 |[],_,_,h,_=>by simp at h
 |j::js,[],jl,h,hi=>by
  simp at h;subst h;simp only[zzai,Xd,Kf];rw[if_neg (Ne.symm hi),if_neg (Ne.symm hi)]
 |j::js,y::ms,jl,h,hi=>by
  simp only[zzae,Xd,Kf];rw[wG (ms:=ms) (by simpa using h) hi]
def Fj{L L':List (Nat×AV)}{jl:Nat}(h:∀i,i<jl->Kf L i=Kf L' i):∀k,k<=jl->bU P gl orc ops T0 m L k=bU P gl orc ops T0 m L' k
 |0,_=>rfl
 |k+1,hk=>by
  have ih:=Fj h k (by omega);simp only[bU];rw[ih];cases ho:ops[k]? with
  |none=>rfl
  |some o=>
   simp only;congr 1;simp only[CL];rw[h k (by omega)]
def Ks{L L':List (Nat×AV)}(hc:zq ops p=true){listed:Array Bool}{jl:Nat}(qo:QT ops listed)(uj:listed.getD jl false=false)(hL:∀i,i<jl->Kf L i=Kf L' i)
  (W6:∀k,jl<k->k<p->(Fe ops k [k]).contains jl=true)(hjp:jl<p)(t:Nat):uq P gl orc ops T0 m L p listed t=uq P gl orc ops T0 m L' p listed t:=by
 obtain⟨hp,dy⟩:=Zv hc;unfold uq;cases hw:wr ops p listed t with
 |false=>simp
 |true=>
  simp only[if_true];unfold wr at hw;obtain⟨j,hj,hjd⟩:=zzbz.1 hw;simp only[zzak,beq_iff_eq]at hjd;obtain⟨hl,hd⟩:=hjd;have avX:=zzbf.1 hj
  have ai:j<jl:=by
   rcases zzfm j jl with h|h|h
   ·exact h
   ·subst h;rw[hl]at uj;cases uj
   have:=um qo j [j] (fun k hk=>by rw[zzbd.1 hk];exact hl) jl (by simpa using W6 j h avX);rw[this]at uj;cases uj
  have sy:∀(L:List (Nat×AV)),(bU P gl orc ops T0 m L p).getD t .junk=(bU P gl orc ops T0 m L jl).getD t .junk:=fun L=>by
   have:=jj (P:=P) (gl:=gl) (orc:=orc) (ops:=ops) (T0:=T0) (m:=m) (L:=L) (t:=t) (k:=jl) (p-jl) fun k cV dw NY=>by
    have hk:k<ops.size:=by omega
    have NZ:ops[k]?=some ops[k]:=zzaj hk;have:=((dy k _ NZ).2.1 (by omega)).2 j (by omega) t hd;simp[Yr,NZ]at NY;exact this NY
   rwa [show jl+(p-jl)=p by omega]at this
  rw[sy L,sy L',Fj hL jl (zzab _)]
def Kx{ms:List (AV×AM)}{x:AV×AM}{js:List Nat}{R:AV->AM->Prop}(hc:zq ops p=true){Q:Exit->Act->World->Prop}{listed:Array Bool}{γ:G}{w:World}{a:Act}
  (hI:zx N w0 r aq S Y P gl orc ops T0 m (ms++[x]) js (Xd js (ms++[x])) p listed γ w a){i:Nat}{o:Oper}(ho:ops[i]?=some o)(eT:i<p)(wD:Vx (bU P gl orc ops T0 m (Xd js (ms++[x])) i) (Xn P ops o))(aH:js.length=(ms++[x]).length)(AG:js.Nodup)
  (hk:js[ms.length]?=some i)(hu:listed.getD i true=false)(cM:∀j∈Vq o,listed.getD j false=true)(CM:∀a j,js[a]?=some j->js[a+1]?=some i->j∈Vq o)
  (avY:∀x':AV×AM,R x'.1 x'.2->∀t,uq P gl orc ops T0 m (Xd js (ms++[x'])) p listed t=uq P gl orc ops T0 m (Xd js (ms++[x])) p listed t)
  (NR:effR P gl Y (ev gl (bU P gl orc ops T0 m (Xd js (ms++[x])) i)) (Kb m (ms++[x]) ms.length) R (tr P o)):
  wpOpIn (FW r) 0 P ops Q i (fun a' w'=>∃γ' x',R x'.1 x'.2/\zx N w0 r aq S Y P gl orc ops T0 m (ms++[x']) js (Xd js (ms++[x'])) p (listed.setIfInBounds i true) γ' w' a') a w:=by
 have hi:i<ops.size:=(zzbw.1 ho).1;have eS:i<listed.size:=by rw[hI.size];exact hi
 have zu:∀t∈o.looksAt ops,aB w γ ((bU P gl orc ops T0 m (Xd js (ms++[x])) i).getD t .junk) (a.tmps.getD t undef):=fun t ht=>by
  rw[ajq (P:=P) (gl:=gl) (orc:=orc) (T0:=T0) (m:=m) (L:=Xd js (ms++[x])) hc hI.size ho eT hu cM ht];exact hI.tt t
 have gi:∀y∈o.op.operands,aB w γ (ev gl (bU P gl orc ops T0 m (Xd js (ms++[x])) i) (aA y)) (a.eval y):=fun y hy=>by
  cases y with
  |tmp t=>exact zu t (by simp only[Oper.looksAt,zzao,zzfh];exact .inl ⟨.tmp t,by simpa using hy,rfl⟩)
  |const v=>exact Jw w γ v
  |func f=>exact .fn rfl (fun i c v h=>by simp at h) rfl fun i c v h=>by simp at h
  |global g=>exact(hI.g g).gD
 have lS:chn (listed.setIfInBounds i true) js:=CK hI.ch fun a j h1 h2=>cM j (CM a j h1 h2);have hpr:QT ops (listed.setIfInBounds i true):=QT.set hI.clo ho eS cM;have QV:listed.getD i false=false:=by rw[Xm eS false true];exact hu
 have W0:∀b j,b<ms.length->js[b]?=some j->listed.getD j false=true:=fun b j hb hj=>by
  have mF:ms.length-1<js.length:=by simp at aH;omega
  obtain⟨j1,ek⟩:∃j1,js[ms.length-1]?=some j1:=⟨js[ms.length-1],zzac mF⟩;have dZ:=cM j1 (CM (ms.length-1) j1 ek (by rw[show ms.length-1+1=ms.length by omega];exact hk));rcases zzaa b (ms.length-1)with h|h
  ·exact ji hI.ch h hj ek dZ
  obtain rfl:b=ms.length-1:=by omega
  rw[hj]at ek;cases ek;exact dZ
 have Th:Uy listed m js (ms++[x])=Kb m (ms++[x]) ms.length:=Qay aH (by simp at aH;omega) W0 (fun j hj=>by rw[hk]at hj;cases hj;exact QV)
 have qp:∀x':AV×AM,Uy (listed.setIfInBounds i true) m js (ms++[x'])=x'.2:=fun x'=>by
  have:=Qay (listed:=listed.setIfInBounds i true) (m:=m) (ms:=ms++[x']) (js:=js) (a:=ms.length+1) (by simp at aH |-;omega) (by simp at aH;omega) (fun b j hb hj=>?_) (fun j hj=>by rw[zzay (by simp at aH;omega)]at hj;cases hj)
  ·rw[this];simp[Kb,List.getD]
  rcases zzaa b ms.length with h|h
  ·have ei:j≠i:=by
    rintro rfl;have:=Qcx AG hj hk;omega
   rw[Qx ei];exact W0 b j h hj
  obtain rfl:b=ms.length:=by omega
  rw[hk]at hj;cases hj;exact Zz eS
 simp only[wpOpIn,ho];have hw:Region.wanted o (yielded ops a.tmps)=true:=wC wD zu;rw[if_pos hw];have kU:=hI.mm;have lN:=hI.ls;rw[Th]at kU lN
 have zy:eZ N w0 r aq S P gl Y γ w ⟨(List.range T0.length).map fun t=>uq P gl orc ops T0 m (Xd js (ms++[x])) p listed t,Kb m (ms++[x]) ms.length⟩ a:=by
  refine⟨kU,lN,hI.rd,⟨by simp[hI.tl],fun t x v hx hv=>?_⟩,hI.d,hI.g,hI.y,hI.e⟩
  have ai:t<T0.length:=by
   rcases zzaa t T0.length with h|h
   ·exact h
   simp[zzbm.2 h]at hx
  simp[ai]at hx;have:=hI.tt t;rw[hx]at this;have Cy:a.tmps.getD t undef=v:=by simp at hv;simp[hv]
  rwa [Cy]at this
 have oO:Qbu P gl Y (ev gl (bU P gl orc ops T0 m (Xd js (ms++[x])) i)) (Kb m (ms++[x]) ms.length) R (tr P o):=by
  cases htr:tr P o with
  |call f args=>
   rw[htr]at NR;simp only[effR]at NR;simp only[Qbu];split at NR
   ·rename_i g first cap cw;simp only[cw];exact NR
   exact NR.elim
  |_=>rw[htr]at NR;exact NR.elim
 refine Qdc zy gi oO fun v w' γ' av' m' hK he hm hl hr=>?_;have cU:=oU (P:=P) (gl:=gl) (orc:=orc) (ops:=ops) (m:=m) (ms:=ms++[(av',m')]) (x:=(av',m')) AG hk (by simp) (bU P gl orc ops T0 m (Xd js (ms++[(av',m')])) i);have hsw:=avY (av',m') hK;refine⟨γ',(av',m'),hK,by simp[hI.size],fun j ek ql=>by rw[Qx (by omega)];exact hI.tail j ek ql,lS,hpr,by rw[qp];exact hm,by rw[qp];exact hl,hI.rd.bq he,?_,fun t=>?_,?_,fun g=>(hI.g g).bq he.cT,hI.y.mono he,hI.e.trans he⟩
 ·cases hd:o.dst<;>simp[Act.put,hI.tl]
 ·rw[N2 hc hI.size ho eT,hsw];by_cases hd:o.dst=some t
  ·by_cases ht:t<T0.length
   ·rw[if_pos ⟨hd,ht⟩,hd];have:(a.put (some t) v).tmps.getD t undef=v:=by simp[Act.put,hI.tl,ht]
    rw[this,cU];exact hr
   rw[if_neg (by simp[ht]),hd];have:(a.put (some t) v).tmps.getD t undef=a.tmps.getD t undef:=by simp[Act.put,hI.tl,ht]
   rw[this];exact(hI.tt t).bq he
  rw[if_neg (by simp[hd])]
  have:(a.put o.dst v).tmps.getD t undef=a.tmps.getD t undef:=by
   cases Cv:o.dst with
   |none=>rfl
   |some d=>simp only[Act.put];simp;rw[zzdd (by rintro rfl;exact hd Cv)]
  rw[this];exact(hI.tt t).bq he
 cases hd:o.dst<;>exact hI.d.bq he
def N3{R:AV->AM->Prop}{ms:List (AV×AM)}{js:List Nat}(l2:List SO)(K:AS->Prop)(hp:p<=ops.size)(hj:jg ops p=some js):∀(n k:Nat)(mc:AM),k+n=p->fS ops k<=ms.length->mc=Kb m ms (fS ops k)->
  kV P gl orc Y R l2 K m ms (((ops.toList.take p).drop k).map (Xn P ops)) ((flags ops p js).drop k) (ms.drop (fS ops k)) mc (bU P gl orc ops T0 m (Xd js ms) k)->
  js.length=ms.length/\
  (
   ∀i o,k<=i->i<p->ops[i]?=some o->
   (i ∉ js->(rop P gl orc (ev gl (bU P gl orc ops T0 m (Xd js ms) i)) m o.dst (tr P o)).1/\(mE ops js i=false->∀x∈ms,rop P gl orc (ev gl (bU P gl orc ops T0 m (Xd js ms) i)) x.2 o.dst (tr P o)=rop P gl orc (ev gl (bU P gl orc ops T0 m (Xd js ms) i)) m o.dst (tr P o)))/\
   (∀b x,js[b]?=some i->ms[b]?=some x->(b+1=ms.length->effR P gl Y (ev gl (bU P gl orc ops T0 m (Xd js ms) i)) (Kb m ms b) R (tr P o))/\(b+1≠ms.length->effC P gl orc Y (ev gl (bU P gl orc ops T0 m (Xd js ms) i)) (Kb m ms b) o.dst x.1 x.2 (tr P o)))/\Vx (bU P gl orc ops T0 m (Xd js ms) i) (Xn P ops o))/\
  Zx P gl orc Y l2 ⟨(bU P gl orc ops T0 m (Xd js ms) p),Kb m ms ms.length⟩ K:=by
 obtain⟨uh,_,uu⟩:=Qaa hj;have dH:∀j,j∈js<->j<p/\gJ ops lR j=true:=fun j=>by rw[uh,zzck,zzbf]
 have AG:js.Nodup:=by rw[uh];exact(zzdt).filter _
 have Tf:∀i,i<p->gJ ops lR i=true->js[fS ops i]?=some i:=fun i h1 h2=>by rw[uh];exact W3 h1 h2
 have W4:∀{a b i:Nat},js[a]?=some i->js[b]?=some i->a=b:=fun{a b i}h1 h2=>Qcx AG h1 h2;intro n;induction n with
 |zero=>
  intro k mc hk qo WO h;obtain rfl:k=p:=by omega
  have e0:(ops.toList.take k).drop k=[]:=zzam (by simp;omega);rw[e0]at h;simp only[zzcf,kV]at h;have fE:ms.length<=fS ops k:=zzfu.1 h.1;have Cu:fS ops k=js.length:=by rw[uh];rfl
  have hcc:fS ops k=ms.length:=by omega
  refine⟨by omega,fun i o h1 h2=>by omega,?_⟩;rw[<- hcc,<- WO];exact h.2
 |succ n ih=>
  intro k mc hk qo WO h;have cK:k<ops.size:=by omega
  have ho:ops[k]?=some ops[k]:=zzaj cK
  have hd:(ops.toList.take p).drop k=ops[k]::(ops.toList.take p).drop (k+1):=by
   rw[zzaf (by simp;omega)];simp
  have gh:(flags ops p js).drop k=Jo ops js k::(flags ops p js).drop (k+1):=by
   rw[zzaf (by simp[flags];omega)];simp[flags]
  rw[hd,gh,zzaz]at h;have WT:=Qdd (P:=P) (gl:=gl) (orc:=orc) (T0:=T0) (m:=m) (L:=Xd js ms) ho;have e2:(Xn P ops ops[k]).op=tr P ops[k]:=rfl;have e3:(Xn P ops ops[k]).dst=ops[k].dst:=rfl;have qN:=Fi (ops:=ops) k;cases kP:js.contains k with
  |true=>
   have QX:k∈js:=by simpa using kP
   have CN:=((dH k).1 QX).2;rw[CN,if_pos rfl]at qN;rw[show Jo ops js k=.eff by simp only[Jo,kP,cond_true]]at h;simp only[kV,e2,e3]at h;split at h
   ·exact h.elim
   rename_i x q hq
   have avW:fS ops k<ms.length:=by
    rcases zzaa (fS ops k) ms.length with h'|h'
    ·exact h'
    rw[zzam h']at hq;cases hq
   have hx:ms[fS ops k]?=some x:=by
    have:(ms.drop (fS ops k))[0]?=some x:=by rw[hq];rfl
    simpa using this
   have P3:ms.drop (fS ops (k+1))=q:=by
    rw[qN,<- zzds,hq];rfl
   obtain⟨hgr,h1,h2⟩:=h;have y7:=Tf k (by omega) CN;have cU:=oU (P:=P) (gl:=gl) (orc:=orc) (ops:=ops) (m:=m) AG y7 hx (bU P gl orc ops T0 m (Xd js ms) k);rw[cU]at WT
   obtain⟨r1,r2,r3⟩:=ih (k+1) x.2 (by omega) (by omega) (by rw[qN];simp[Kb,List.getD,hx]) (by
    rw[WT,P3];exact h2)
   refine⟨r1,fun i o hi eT CI=>?_,r3⟩;rcases zzaa k i with fR|fR
   ·exact r2 i o fR eT CI
   obtain rfl:i=k:=by omega
   rw[ho]at CI;cases CI;refine⟨fun h=>absurd QX h,fun b y hb hy=>?_,hgr⟩;obtain rfl:=W4 hb y7;rw[hx]at hy;cases hy;rw[<- WO]
   have hqe:q=[]<->fS ops i+1=ms.length:=by
    rw[<- P3,qN,zzfu];omega
   exact⟨fun h=>h1.1 (hqe.2 h),fun h=>h1.2 fun e=>h (hqe.1 e)⟩
  |false=>
   have QX:k ∉ js:=by simpa using kP
   have CN:gJ ops lR k=false:=by
    cases Ti:gJ ops lR k with
    |false=>rfl
    |true=>exact absurd ((dH k).2 ⟨by omega,Ti⟩) QX
   rw[CN,if_neg (by simp),zzcq]at qN
   obtain⟨hgr,h1,h2,h3⟩:Vx (bU P gl orc ops T0 m (Xd js ms) k) (Xn P ops ops[k])/\(rop P gl orc (ev gl (bU P gl orc ops T0 m (Xd js ms) k)) m ops[k].dst (tr P ops[k])).1/\(mE ops js k=false->∀x∈ms,rop P gl orc (ev gl (bU P gl orc ops T0 m (Xd js ms) k)) x.2 ops[k].dst (tr P ops[k])=rop P gl orc (ev gl (bU P gl orc ops T0 m (Xd js ms) k)) m ops[k].dst (tr P ops[k]))/\
     kV P gl orc Y R l2 K m ms (((ops.toList.take p).drop (k+1)).map (Xn P ops)) ((flags ops p js).drop (k+1)) (ms.drop (fS ops k)) mc (put (bU P gl orc ops T0 m (Xd js ms) k) ops[k].dst (rop P gl orc (ev gl (bU P gl orc ops T0 m (Xd js ms) k)) m ops[k].dst (tr P ops[k])).2):=by
    cases iX:mE ops js k with
    |true=>
     rw[show Jo ops js k=.pre by simp only[Jo,kP,iX,cond_true,cond_false]]at h;simp only[kV,e2,e3]at h;exact⟨h.1,h.2.1,fun h=>(by cases h),h.2.2⟩
    |false=>
     rw[show Jo ops js k=.oth by simp only[Jo,kP,iX,cond_false]]at h;simp only[kV,e2,e3]at h;exact⟨h.1,h.2.1,fun _=>h.2.2.1,h.2.2.2⟩
   rw[oV QX ho]at WT;obtain⟨r1,r2,r3⟩:=ih (k+1) mc (by omega) (by omega) (by rw[qN];exact WO) (by rw[WT,qN];exact h3);refine⟨r1,fun i o hi eT CI=>?_,r3⟩;rcases zzaa k i with fR|fR
   ·exact r2 i o fR eT CI
   obtain rfl:i=k:=by omega
   rw[ho]at CI;cases CI;refine⟨fun _=>⟨h1,h2⟩,fun b y hb=>absurd (zzad hb) QX,hgr⟩
def Fk{Q:Exit->Act->World->Prop}{K:AS->Prop}{γ:G}{w:World}{s:AS}{a:Act}{js:List Nat}(hQ:∀γ w s a,K s->eZ N w0 r aq S P gl Y γ w s a->Q .normal a w)(hc:zq ops p=true)(hj:jg ops p=some js)
  {R:AV->AM->Prop}{ms:List (AV×AM)}(uv:∀(jl:Nat),js[ms.length]?=some jl->∀(x x':AV×AM),R x.1 x.2->R x'.1 x'.2->∀listed:Array Bool,QT ops listed->listed.getD jl false=false->∀t,uq P gl orc ops s.T s.m (Xd js (ms++[x'])) p listed t=uq P gl orc ops s.T s.m (Xd js (ms++[x])) p listed t)(hR:∃x:AV×AM,R x.1 x.2)(h:∀x:AV×AM,R x.1 x.2->kV P gl orc Y R ((ops.toList.drop p).map (Xn P ops)) K s.m (ms++[x]) ((ops.toList.take p).map (Xn P ops)) (flags ops p js) (ms++[x]) s.m s.T)(hs:eZ N w0 r aq S P gl Y γ w s a):
  wpAnyIn (FW r) 0 P .any ops Q ops.size (Array.replicate ops.size false) a {w with drawn:=w.drawn+1}:=by
 obtain⟨hp,dy⟩:=Zv hc;obtain⟨uh,hjc,uu⟩:=Qaa hj;have AG:js.Nodup:=by rw[uh];exact(zzdt).filter _
 have W5:∀j∈js,j<p:=fun j h=>by rw[uh,zzck]at h;exact zzbf.1 h.1
 have bR:=fun(x:AV×AM)(hx:R x.1 x.2)=>N3 (P:=P) (gl:=gl) (orc:=orc) (T0:=s.T) (m:=s.m) ((ops.toList.drop p).map (Xn P ops)) K hp hj p 0 s.m (by simp) (by simp[fS]) (by simp[fS,Kb]) (by simpa[bU,fS]using h x hx);obtain⟨x0,hx0⟩:=hR;have dg:js.length=ms.length+1:=by have:=(bR x0 hx0).1;simpa using this
 obtain⟨jl,uj⟩:∃jl,js[ms.length]?=some jl:=⟨_,zzac (by omega)⟩
 have full:∀(x:AV×AM),R x.1 x.2->∀(bz:Nat)(listed:Array Bool)(γ:G)(w:World)(a:Act),zx N w0 r aq S Y P gl orc ops s.T s.m (ms++[x]) js (Xd js (ms++[x])) p listed γ w a->uc ops listed<=bz->(∀i,i<p->listed.getD i false=true)->wpAnyIn (FW r) 0 P .any ops Q bz listed a w:=by
  intro x hx bz listed γ w a hI uk aqO;obtain⟨aH,h1,h2⟩:=bR x hx;have bR:=aqO;have hml:Uy listed s.m js (ms++[x])=Kb s.m (ms++[x]) (ms++[x]).length:=Qay aH (by omega) (fun b j _ hb=>bR j (W5 j (zzad hb))) (fun j hj=>by rw[zzay (by omega)]at hj;cases hj);have kU:=hI.mm;have lN:=hI.ls;rw[hml]at kU lN;refine nC hQ hc bz p listed γ w _ a (zzab _) hp hI.size bR hI.tail uk h2 ⟨kU,lN,hI.rd,⟨?_,fun t y v hy hv=>?_⟩,hI.d,hI.g,hI.y,hI.e⟩
  ·simp[kT,hI.tl]
  have h1:=hI.tt t
  have hAt:uq P gl orc ops s.T s.m (Xd js (ms++[x])) p listed t=y:=by
   have kL:(bU P gl orc ops s.T s.m (Xd js (ms++[x])) p).getD t .junk=y:=by simp only at hy;simp[List.getD,hy]
   unfold uq;split
   ·exact kL
   rename_i hw;rw[<- kL];refine(Qde p fun j hj hd=>hw ?_).symm;unfold wr;rw[zzbz];exact⟨j,zzbf.2 hj,by rw[bR j hj,hd];simp⟩
  rw[hAt]at h1;have:a.tmps.getD t undef=v:=by simp at hv;simp[hv]
  rwa [this]at h1
 have main:∀(bz:Nat)(x:AV×AM),R x.1 x.2->∀(listed:Array Bool)(γ:G)(w:World)(a:Act),zx N w0 r aq S Y P gl orc ops s.T s.m (ms++[x]) js (Xd js (ms++[x])) p listed γ w a->uc ops listed<=bz->wpAnyIn (FW r) 0 P .any ops Q bz listed a w:=by
  intro bz;induction bz with
  |zero=>
   intro x hx listed γ w a hI uk
   exact full x hx 0 listed γ w a hI uk fun i hi=>by
    rw[Xm (by rw[hI.size];omega) false true];exact oT (zzgf.1 uk) (by omega)
  |succ bz ih=>
   intro x hx listed γ w a hI uk;by_cases hall2:∀i,i<p->listed.getD i false=true
   ·exact full x hx (bz+1) listed γ w a hI uk hall2
   have hex:∃k,k<p/\listed.getD k true=false:=by
    refine Classical.byContradiction fun hn=>hall2 fun i hi=>?_;rw[Xm (by rw[hI.size];omega) false true];cases hl:listed.getD i true with
    |true=>rfl
    |false=>exact absurd ⟨i,hi,hl⟩ hn
   obtain⟨k,hk,hlk⟩:=hex;refine⟨fun hr=>?_,fun i hi=>?_⟩
   ·obtain⟨j,hj⟩:=Wq hc hI.size k k (zzab _) (by omega) hlk;rw[hr]at hj;cases hj
   obtain⟨ai,hu,o,ho,cM⟩:=Ws hc hi
   have eT:i<p:=by
    rcases zzaa i p with h|h
    ·exact h
    have:=jf hI.clo ho ((dy i o ho).2.2 h) cM i k (by omega) (by omega);rw[Xm (by rw[hI.size];omega) false true,hlk]at this;cases this
   obtain⟨aH,h1,_⟩:=bR x hx;obtain⟨h1a,h1b,h1g⟩:=h1 i o (zzcc _) eT ho;by_cases eM:i=jl
   ·subst eM;refine wpOpIn_mono ?_ (Kx hc hI ho eT h1g aH AG uj hu cM (fun a j e1 e2=>ur hjc a j i o e1 e2 ho) (fun x' kL=>uv i uj x x' hx kL listed hI.clo (by rw[Xm (by rw[hI.size];exact ai) false true];exact hu)) ((h1b ms.length x uj (by simp)).1 (by simp)));rintro a' w' ⟨γ',x',kL,zw⟩;refine ih x' kL _ γ' w' a' zw ?_;have:=wq hI.size ai hu;omega
   refine wpOpIn_mono ?_ (sw hc hI ho eT h1g aH AG hu cM (fun a j e1 e2=>ur hjc a j i o e1 e2 ho) (fun h=>.inl (h1a h)) (fun k y e1 e2=>(h1b k y e1 e2).2 fun e=>eM (by
    have hk:k=ms.length:=by simpa using e
    subst hk;rw[uj]at e1;exact(Option.some.inj e1).symm)))
   rintro a' w' ⟨γ',zw⟩;refine ih x hx _ γ' w' a' zw ?_;have:=wq hI.size ai hu;omega
 have AR:∀j,(Array.replicate ops.size false).getD j false=false:=fun j=>by
  rcases zzaa j ops.size with h|h<;>simp[h]
 have CM:∀js':List Nat,chn (Array.replicate ops.size false) js':=fun js'=>by
  induction js' with
  |nil=>trivial
  |cons j r ih=>
   cases r with
   |nil=>trivial
   |cons j' r=>exact⟨fun h=>(by rw[AR]at h;cases h),ih⟩
 have Th:Uy (Array.replicate ops.size false) s.m js (ms++[x0])=s.m:=Qay (a:=0) (bR x0 hx0).1 (by omega) (fun b j hb=>by omega) (fun j _=>AR j);refine main ops.size x0 hx0 _ γ w.drew a ⟨by simp,fun i _ hi=>by simp[hi],CM js,fun j o h=>(by rw[AR]at h;cases h),?_,?_,hs.rd.bq (Ev.drew w γ).dD,?_,fun t=>?_,hs.d.bq (Ev.drew w γ).dD,fun g=>(hs.g g).mono (Ev.drew w γ).cT,hs.y.mono (Ev.drew w γ).dD,hs.e.trans (Ev.drew w γ).dD⟩ ?_
 ·rw[Th];exact hs.m.drew
 ·rw[Th];exact hs.ls.mono (Ev.drew w γ)
 ·have:=hs.t.1;simp at this;omega
 ·have hw:wr ops p (Array.replicate ops.size false) t=false:=by
   unfold wr;rw[zzem];intro j _;rw[AR j];simp
  unfold uq;rw[hw];simp only[zzbq,if_false];have:=(hs.t.mono (Ev.drew w γ)).get t;simpa[List.getD]using this
 unfold uc;exact zzbn (zzfq) (by simp)
def Fl{Q:Exit->Act->World->Prop}{K:AS->Prop}{γ:G}{w:World}{s:AS}{a:Act}{js:List Nat}(hQ:∀γ w s a,K s->eZ N w0 r aq S P gl Y γ w s a->Q .normal a w)(hc:zq ops p=true)(hj:jg ops p=some js)
  (hbk:wE ops p js=true){R:AV->AM->Prop}{ms:List (AV×AM)}(hR:∃x:AV×AM,R x.1 x.2)(h:∀x:AV×AM,R x.1 x.2->kV P gl orc Y R ((ops.toList.drop p).map (Xn P ops)) K s.m (ms++[x]) ((ops.toList.take p).map (Xn P ops)) (flags ops p js) (ms++[x]) s.m s.T)(hs:eZ N w0 r aq S P gl Y γ w s a):
  wpAnyIn (FW r) 0 P .any ops Q ops.size (Array.replicate ops.size false) a {w with drawn:=w.drawn+1}:=by
 obtain⟨hp,dy⟩:=Zv hc;obtain⟨uh,hjc,uu⟩:=Qaa hj;have W5:∀j∈js,j<p:=fun j h=>by rw[uh,zzck]at h;exact zzbf.1 h.1
 have bR:=fun(x:AV×AM)(hx:R x.1 x.2)=>N3 (P:=P) (gl:=gl) (orc:=orc) (T0:=s.T) (m:=s.m) ((ops.toList.drop p).map (Xn P ops)) K hp hj p 0 s.m (by simp) (by simp[fS]) (by simp[fS,Kb]) (by simpa[bU,fS]using h x hx);obtain⟨x0,hx0⟩:=hR;have dg:js.length=ms.length+1:=by have:=(bR x0 hx0).1;simpa using this
 refine Fk hQ hc hj (fun jl uj x x' _ _ listed QU QV t=>?_) ⟨x0,hx0⟩ h hs
 have W6:∀k,jl<k->k<p->(Fe ops k [k]).contains jl=true:=fun k cV dw=>by
  unfold wE at hbk;have hg:js.getLast?=some jl:=by rw[zzfc,dg];simpa using uj
  rw[hg]at hbk;have:=zzbh.1 hbk k (zzbf.2 dw);simp only[zzhf,decide_eq_true_eq]at this;obtain h|h:=this
  ·omega
  exact h
 exact Ks hc QU QV (fun j hj=>wG uj (by omega)) W6 (W5 _ (zzad uj)) t
end
open Go Go.RowKit
inductive SC where
 |skip
 |ops (l:List SO)
 |draw (l l2:List SO)
 |drawE (fl:List Fg) (l l2:List SO)
 |seq (a b:SC)
 |cond (x:bK) (a b:SC)
 |block (id:Nat) (c:SC)
 |loop (c:SC)
 |exit (id:Nat)
 |scope (c:SC)
 |rfunc (g:bK) (ps:List Nat) (lT body:SC)
 |ret
 |bad
def tL:List Nat->SC->SC
 |[],c=>c
 |0::p,.seq x _=>tL p x
 |_::p,.seq _ x=>tL p x
 |0::p,.cond _ x _=>tL p x
 |_::p,.cond _ _ x=>tL p x
 |_::p,.block _ x=>tL p x
 |_::p,.loop x=>tL p x
 |_::p,.scope x=>tL p x
 |0::p,.rfunc _ _ x _=>tL p x
 |_::p,.rfunc _ _ _ x=>tL p x
 |_,c=>c
def zz:List Nat->SC->SC->SC
 |[],_,t=>t
 |0::p,.seq x y,t=>.seq (zz p x t) y
 |_::p,.seq y x,t=>.seq y (zz p x t)
 |0::p,.cond c x y,t=>.cond c (zz p x t) y
 |_::p,.cond c y x,t=>.cond c y (zz p x t)
 |_::p,.block n x,t=>.block n (zz p x t)
 |_::p,.loop x,t=>.loop (zz p x t)
 |_::p,.scope x,t=>.scope (zz p x t)
 |0::p,.rfunc g l x y,t=>.rfunc g l (zz p x t) y
 |_::p,.rfunc g l y x,t=>.rfunc g l y (zz p x t)
 |_,c,_=>c
def alQ(n:Nat):List Nat->List Nat
 |[]=>[n]
 |k::l=>bif n.ble k then(bif n.beq k then k::l else n::k::l)else k::alQ n l
def CO(r:List Nat):List SO->List Nat
 |[]=>r
 |o::l=>match o.dst with|some n=>alQ n (CO r l)|none=>CO r l
def aqP(r:List Nat):List Nat->List Nat
 |[]=>r
 |n::l=>alQ n (aqP r l)
def rW(r:List Nat):SC->List Nat
 |.ops l=>CO r l
 |.draw l k=>CO (CO r k) l
 |.drawE _ l k=>CO (CO r k) l
 |.seq x y=>rW (rW r y) x
 |.cond _ x y=>rW (rW r y) x
 |.block _ x=>rW r x
 |.loop x=>rW r x
 |.scope x=>rW r x
 |.rfunc _ l x y=>rW (rW (aqP r l) y) x
 |_=>r
abbrev tM(p:List Nat)(c:SC):={x:SC // x=tL p c}
abbrev uw(p:List Nat)(c:SC):={x:SC->SC // ∀t,x t=zz p c t}
abbrev wT(p:List Nat)(c:SC):={x:List Nat // x=rW [] (tL p c)}
def kW{P:Program}{ops:Array Oper}{p:Nat}{js:List Nat}(hc:zq ops p=true):(flags ops p js).length=((ops.toList.take p).map (Xn P ops)).length:=by
 have:=(Zv hc).1;simp[flags];omega
def alR{P:Program}{ops:Array Oper}{p:Nat}{js:List Nat}(hc:zq ops p=true)(h:aeF (flags ops p js++bkF ops p js) ((ops.toList.take p).map (Xn P ops))=true):wE ops p js=true:=by
 unfold aeF at h;rw[<- kW (js:=js) hc,zzfk]at h;unfold bkF at h;cases hb:wE ops p js with
 |true=>rfl
 |false=>rw[hb]at h;simp at h
def Ym(P:Program):Code->SC
 |.skip=>.skip
 |.region _ ops false=>.ops (ops.toList.map (Xn P ops))
 |.region _ ops true=>if P.follows .mixedOrders&&zq ops (jd ops)then(match jg ops (jd ops)with
  |some js=>.drawE (flags ops (jd ops) js++bkF ops (jd ops) js) ((ops.toList.take (jd ops)).map (Xn P ops)) ((ops.toList.drop (jd ops)).map (Xn P ops))
  |none=>.draw ((ops.toList.take (jd ops)).map (Xn P ops)) ((ops.toList.drop (jd ops)).map (Xn P ops)))else .bad
 |.seq a b=>.seq (Ym P a) (Ym P b)
 |.cond c a b=>.cond (aA c) (Ym P a) (Ym P b)
 |.block id c=>.block id (Ym P c)
 |.loop c=>.loop (Ym P c)
 |.exit id=>.exit id
 |.label _=>.skip
 |.scope c=>.scope (Ym P c)
 |.rangeFunc g ps lT body=>.rfunc (aA g) ps.toList (Ym P lT) (Ym P body)
 |.ret=>.ret
 |_=>.bad
def qq(st:Nat->LS)(l:Nat)(x:LS):Nat->LS:=fun i=>if i=l then x else st i
def AM.at_(m:AM)(l:Nat)(x:LS):AM:={m with st:=qq m.st l x}
def AM.aY(m:AM):AM:={m with st:=qq m.st m.ln .ready,ln:=m.ln+1}
def Qam(T:List AV):List Nat->List AV->List AV
 |p::ps,x::xs=>Qam (T.set p x) ps xs
 |_,_=>T
section vc
variable (P:Program) (gl:Nat->AV) (orc:Nat->FuncId->List AV->AV) (Y:YT)
def W7(k:AS->(Exit->AS->Prop)->Prop)(Q:Exit->AS->Prop):Exit->AS->Prop
 |.normal,s=>k s Q
 |ex,s=>Q ex s
def qV(id:Nat)(Q:Exit->AS->Prop):Exit->AS->Prop
 |.exit id',s=>if id'=id then Q .normal s else Q (.exit id') s
 |ex,s=>Q ex s
def wH(Q:Exit->AS->Prop):Exit->AS->Prop
 |.goto _,_=>False
 |ex,s=>Q ex s
def nD(I:AS->Prop)(μ:AS->Nat)(s:AS)(Q:Exit->AS->Prop):Exit->AS->Prop
 |.normal,s'=>I s'/\μ s'<μ s
 |ex,s'=>Q ex s'
def KA(l:Nat)(K:Bool->AM->Prop):Exit->AS->Prop
 |.normal,s=>K true (s.m.at_ l .ready)
 |.ret,s=>K false (s.m.at_ l (.done .ret))
 |.exit id,s=>K false (s.m.at_ l (.done (.exit id)))
 |_,_=>False
def Fm(l:Nat)(k:AS->Prop):Exit->AS->Prop
 |.normal,s=>s.m.st l=.ready/\k ⟨s.T,s.m.at_ l .busy⟩
 |_,_=>False
def zA(l:Nat)(T:List AV)(m:AM)(Q:Exit->AS->Prop):LS->Prop
 |.ready=>Q .normal ⟨T,m.at_ l .gone⟩
 |.done ex=>Q ex ⟨T,m.at_ l .gone⟩
 |_=>False
def Yin(l n:Nat)(k:List AV->AM->(Bool->AM->Prop)->Prop):YT:=fun l' args m K=>if l'=l then m.st l=.ready/\args.length=n/\k args m K else Y l' args m K
def vc:SC->AS->(Exit->AS->Prop)->Prop
 |.skip,s,Q=>Q .normal s
 |.ops l,s,Q=>Zx P gl orc Y l s (Q .normal)
 |.draw l l2,s,Q=>vcD P gl orc Y l2 (Q .normal) l s.T s.m []
 |.drawE fl l l2,s,Q=>vcD P gl orc Y l2 (Q .normal) l s.T s.m []\/(∃ms,uo P gl orc Y l2 (Q .normal) s.m ms l fl ms s.m s.T)\/(aeF fl l=true/\∃(ms:List (AV×AM))(R:AV->AM->Prop),(∃x:AV×AM,R x.1 x.2)/\∀x:AV×AM,R x.1 x.2->kV P gl orc Y R l2 (Q .normal) s.m (ms++[x]) l fl (ms++[x]) s.m s.T)\/∃ms,jh P gl orc Y l2 (Q .normal) s.m ms l fl ms s.m s.T
 |.seq a b,s,Q=>vc a s (W7 (vc b) Q)
 |.cond x a b,s,Q=>match ev gl s.T x with
  |.bool t=>(t=true->vc a s Q)/\(t=false->vc b s Q)
  |_=>False
 |.block id c,s,Q=>vc c s (qV id Q)
 |.loop c,s,Q=>∃(I:AS->Prop)(μ:AS->Nat),I s/\∀s',I s'->vc c s' (nD I μ s' Q)
 |.exit id,s,Q=>Q (.exit id) s
 |.scope c,s,Q=>vc c s (wH Q)
 |.rfunc g ps lT body,s,Q=>match ev gl s.T g with
  |.fn f first cap=>s.m.st s.m.ln=.gone->an P gl (Yin Y s.m.ln ps.length fun args m K=>vc lT ⟨Qam s.T ps args,m⟩ (Fm s.m.ln fun s'=>vc body s' (KA s.m.ln K))) f (first++[.yld s.m.ln]++cap) (s.m.aY)
    fun _ m'=>zA s.m.ln s.T m' Q (m'.st s.m.ln)
  |_=>False
 |.ret,s,Q=>Q .ret s
 |.bad,_,_=>False
end vc
section
variable {N:Nat} {w0:ir} {r:Option Nat} {aq:Nat->Nat->Prop} {S:G×World} {Y:YT} {P:Program} {gl:Nat->AV} {orc:Nat->FuncId->List AV->AV} {γ:G} {w:World}
def lift(N:Nat)(w0:ir)(r:Option Nat)(aq:Nat->Nat->Prop)(S:G×World)(P:Program)(gl:Nat->AV)(Y:YT)(Q:Exit->AS->Prop):Exit->Act->World->Prop:=fun ex a w=>∃γ s,eZ N w0 r aq S P gl Y γ w s a/\Q ex s
def au.W8{B:Nat->Option (List AV)}{L:Nat->Option Nat}(hm:au N w0 aq γ w B L)(o:Obj):
  au N w0 aq {γ with sp:=fun b=>γ.sp b\/b=w.heap.size} (w.alloc o) B L/\Ev w γ (w.alloc o) {γ with sp:=fun b=>γ.sp b\/b=w.heap.size}:=by
 have cw:Ev w γ (w.alloc o) {γ with sp:=fun b=>γ.sp b\/b=w.heap.size}:=
  ⟨by simp,fun b o' hb hr=>⟨hr,cell_of_heap (Below.heap_alloc w o b hb)⟩,fun _ _ h=>h,fun _=>zzab _,fun _ _ h=>h,rfl,
   fun i b _ ho=>⟨ho,fun arr e he=>⟨arr,by rw[Below.heap_alloc w o b (hm.own i b ho).2.1];exact he,zzab _⟩,fun _ h=>h⟩,
   fun b hb=>⟨.inl hb,Below.heap_alloc w o b (hm.sp b hb).2.1⟩,Sz.of_same (Below.heap_alloc w o)⟩
 refine⟨⟨w0.st _ _ _ _ hm.bs ⟨rfl,rfl,rfl,by simp,fun b hb _=>Below.heap_alloc w _ b hb,cw.ro,fun b hb=>?_,fun _ _ h=>.inl h⟩,by have:=hm.hN;simp;omega,hm.aq,fun b o h=>by have:=hm.robd b o h;simp;omega,
  fun id cells b hb h1=>?_,fun id b hb=>?_,hm.inj,fun id b hb=>?_,hm.oinj,fun b hb=>?_,fun id b hb=>?_,hm.minj,hm.len,hm.cur0⟩,cw⟩
 ·obtain hb|hb|(hb|rfl)|hb:=hb
  ·exact .inl (.inl hb)
  ·exact .inl (.inr (.inl hb))
  ·exact .inl (.inr (.inr (.inl hb)))
  ·exact .inr (zzab _)
  exact .inl (.inr (.inr (.inr hb)))
 ·obtain⟨arr,e,h2,h3,h4⟩:=hm.box id cells b hb h1;exact⟨arr,e,by rw[Below.heap_alloc w _ b (aT h2)];exact h2,h3.mono cw,h4⟩
 ·obtain⟨h1,h2,h3⟩:=hm.β id b hb;exact⟨h1,by simp;omega,h3⟩
 ·obtain⟨h1,h2,h3⟩:=hm.own id b hb;exact⟨h1,by simp;omega,h3⟩
 ·obtain hb|rfl:=hb
  ·obtain⟨h1,h2,h3⟩:=hm.sp b hb;exact⟨h1,by simp;omega,h3⟩
  refine⟨hm.hN,by simp,fun o' h=>?_,fun id h=>?_,fun id h=>?_⟩
  ·have:=hm.robd _ _ h;omega
  ·have:=(hm.β id _ h).2.1;omega
  have:=(hm.own id _ h).2.1;omega
 obtain⟨h1,h2,h3,h4,h5,h6,h8,h7⟩:=hm.mm id b hb;refine⟨h1,by simp;omega,h3,h4,h5,?_,h8,h7.mono cw.dD.D4 (Below.heap_alloc w o b h2)⟩;rintro(h|rfl)
 ·exact h6 h
 omega
def au.ajr{B:Nat->Option (List AV)}{L:Nat->Option Nat}(hm:au N w0 aq γ w B L){D:Nat}(hD:γ.sp D){o o0:Obj}(h0:w.heap[D]?=some o0)(hnc:∀c e f,o0≠.cells c e f)(avZ:∀c e f,o≠.cells c e f)
  {γ':G}(hγ:γ'=γ\/γ'={γ with sp:=fun b=>γ.sp b/\b≠D})(aqQ:γ'=γ->qF (some o0) (some o)):
  au N w0 aq γ' (w.putObj D o) B L/\NL w γ (w.putObj D o) γ'/\(∀wS γS,eD wS γS w γ->(γ'=γ\/¬γS.sp D)->eD wS γS (w.putObj D o) γ'):=by
 have ai:D<w.heap.size:=aT h0;have cL:∀b,b≠D->(w.putObj D o).heap[b]?=w.heap[b]?:=fun b hb=>World.putObj_heap_other hb;have E5:(w.putObj D o).heap[D]?=some o:=World.putObj_heap_same ai
 have bL:∀b o',(w.putObj D o).cell? ⟨b,o',none⟩=w.cell? ⟨b,o',none⟩:=fun b o'=>by
  by_cases hb:b=D
  ·subst hb;simp only[World.cell?,E5,h0];cases o<;>cases o0<;>first|rfl|exact absurd rfl (hnc _ _ _)|exact absurd rfl (avZ _ _ _)
  exact cell_of_heap (cL b hb)
 have hβ:γ'.β=γ.β:=by rcases hγ with rfl|rfl<;>rfl
 have eP:γ'.own=γ.own:=by rcases hγ with rfl|rfl<;>rfl
 have dz:γ'.cur=γ.cur:=by rcases hγ with rfl|rfl<;>rfl
 have dM:γ'.ro=γ.ro:=by rcases hγ with rfl|rfl<;>rfl
 have kU:γ'.mm=γ.mm:=by rcases hγ with rfl|rfl<;>rfl
 have hlp:γ'.lp=γ.lp:=by rcases hγ with rfl|rfl<;>rfl
 have dy:∀b,γ'.sp b->γ.sp b:=by obtain rfl|rfl:=hγ;exact fun _ h=>h;exact fun _ h=>h.1
 have alS:∀b,γ.sp b->b≠D->γ'.sp b:=fun b hb h=>by
  obtain rfl|rfl:=hγ
  ·exact hb
  exact⟨hb,h⟩
 have hsz:Sz w (w.putObj D o):=fun b' arr e f h=>⟨arr,by rw[cL b' (by rintro rfl;rw[h0]at h;cases h;exact hnc _ _ _ rfl)];exact h,rfl⟩
 have aeG:NL w γ (w.putObj D o) γ':=by
  refine⟨by simp,fun b o' _ hr=>⟨by rw[dM];exact hr,bL b o'⟩,fun _ _ h=>by rw[hβ];exact h,fun _=>by rw[dz];exact zzab _,fun _ _ h=>by rw[kU];exact h,fun _ _ h=>by rw[hlp];exact h,fun id b _ ho=>⟨by rw[eP];exact ho,fun arr e he=>⟨arr,?_,zzab _⟩,fun _ h=>by rw[dM]at h;exact h⟩,hsz⟩;rw[cL b (by rintro rfl;exact(hm.sp b hD).2.2.2.2 id ho)];exact he
 refine⟨⟨w0.st _ _ _ _ hm.bs ⟨rfl,rfl,rfl,by simp,fun b _ zh=>cL b (by rintro rfl;exact zh (.inr (.inr (.inl hD)))),aeG.ro,fun b hb=>.inl ?_,fun b o' h=>.inl (by rw[dM]at h;exact h)⟩,by simpa using hm.hN,
  fun b o' h=>hm.aq b o' (by rw[dM]at h;exact h),fun b o' h=>by rw[dM]at h;simpa using hm.robd b o' h,fun id cells b hb h1=>?_,fun id b hb=>?_,fun id id' b h h'=>hm.inj id id' b (by rw[hβ]at h;exact h) (by rw[hβ]at h';exact h'),
  fun id b hb=>?_,fun id id' b h h'=>hm.oinj id id' b (by rw[eP]at h;exact h) (by rw[eP]at h';exact h'),fun b hb=>?_,fun id b hb=>?_,fun id id' b h h'=>hm.minj id id' b (by rw[kU]at h;exact h) (by rw[kU]at h';exact h'),fun id n h=>by rw[dz];exact hm.len id n h,fun id h=>by rw[dz];exact hm.cur0 id h⟩,aeG,fun wS γS e hc=>?_⟩
 ·obtain⟨id,hb⟩|⟨id,hb⟩|hb|⟨F,hb⟩:=hb
  ·rw[hβ]at hb;exact .inl ⟨id,hb⟩
  ·rw[eP]at hb;exact .inr (.inl ⟨id,hb⟩)
  ·exact .inr (.inr (.inl (dy b hb)))
  rw[kU]at hb;exact .inr (.inr (.inr ⟨F,hb⟩))
 ·rw[hβ]at h1;obtain⟨arr,e,h2,h3,h4⟩:=hm.box id cells b hb h1;exact⟨arr,e,by rw[cL b (by rintro rfl;exact(hm.sp b hD).2.2.2.1 id h1)];exact h2,h3.eX aeG,h4⟩
 ·rw[hβ]at hb;obtain⟨h1,h2,h3,h4,h5⟩:=hm.β id b hb;exact⟨h1,by simpa using h2,by rw[dM];exact h3,by rw[eP];exact h4,h5⟩
 ·rw[eP]at hb;simpa using hm.own id b hb
 ·obtain⟨h1,h2,h3,h4,h5⟩:=hm.sp b (dy b hb);exact⟨h1,by simpa using h2,by rw[dM];exact h3,by rw[hβ];exact h4,by rw[eP];exact h5⟩
 ·rw[kU]at hb;obtain⟨h1,h2,h3,h4,h5,h6,h8,h7⟩:=hm.mm id b hb;exact⟨h1,by simpa using h2,by rw[dM];exact h3,by rw[hβ];exact h4,by rw[eP];exact h5,fun h=>h6 (dy b h),by rw[hβ];exact h8,h7.mono aeG (cL b (by rintro rfl;exact h6 hD))⟩
 refine⟨by simpa using e.size,fun b o' hb hr=>⟨by rw[dM];exact(e.ro b o' hb hr).1,(bL b o').trans (e.ro b o' hb hr).2⟩,fun id b h=>by rw[hβ];exact e.β id b h,fun id=>by rw[dz];exact e.cur id,fun b F h=>by rw[kU];exact e.mm b F h,fun i l h=>by rw[hlp];exact e.lp i l h,fun id b qn ho=>?_,fun b hb=>?_,e.ss.trans hsz⟩
 ·rw[dz]at qn;obtain⟨g1,g2,g3⟩:=e.own id b qn ho;refine⟨by rw[eP];exact g1,fun arr te he=>?_,fun o' h=>g3 o' (by rw[dM]at h;exact h)⟩;obtain⟨bT,k1,k2⟩:=g2 arr te he;exact⟨bT,by rw[cL b (by rintro rfl;exact(hm.sp b hD).2.2.2.2 id g1)];exact k1,k2⟩
 obtain⟨g1,g2⟩:=e.sp b hb;by_cases hbD:b=D
 ·subst hbD;obtain rfl|hc:=hc
  ·refine⟨g1,g2.trans ?_⟩;rw[h0,E5];exact aqQ rfl
  exact absurd hb hc
 exact⟨alS b g1 hbD,by rw[cL b hbD];exact g2⟩
def Ju{b:Frame}{a:Act}{k:List Item}{cs:List Frame}{w:World}{c:Code}:step P (lone (b.atR a (.code (.scope c)::k)) cs w)=.next (lone (b.atR a (.code c::.inScope c::k)) cs w):=
 step_lone_go (by simp[stepG,stepG.exec,Frame.atR])
def zB{b:Frame}{a:Act}{k:List Item}{cs:List Frame}{w:World}{c:Code}:step P (lone (b.atR a (.inScope c::k)) cs w)=.next (lone (b.atR a k) cs w):=
 step_lone_go (by simp[stepG,stepG.exec,Frame.atR])
def lU{c:Code}{Q:Exit->Act->World->Prop}{a:Act}{w:World}(h:c.wpIn (FW r) 0 P (Exit.noGoto Q) a w):(Code.scope c).wpIn (FW r) 0 P Q a w:=by
 intro b k cs dM hb hr;obtain⟨e,a₁,w₁,hq,fu⟩:=h b (.inScope c::k) cs dM hb hr;have h0:(lone (b.atR a (.code (.scope c)::k)) cs w).fenced P (FW r):=fenced_calm hb hr rfl;cases e with
 |normal=>exact⟨.normal,a₁,w₁,hq,.head h0 Ju (StepsIn.trans fu (.one (fenced_calm hb hr rfl) zB))⟩
 |exit id=>
  refine⟨.exit id,a₁,w₁,hq,fun k' hk=>.head h0 Ju (fu.1 k' (by simp[exitTo,hk])),fun AA hk=>?_⟩;obtain⟨k₁,h1,h2⟩:=fu.2 AA (by simp[exitTo,hk]);exact⟨k₁,h1,.head h0 Ju h2⟩
 |goto l=>exact hq.elim
 |ret=>exact⟨_,a₁,w₁,hq,.of_steps (.one h0 Ju) fu⟩
 |panic ch=>exact⟨_,a₁,w₁,hq,.of_steps (.one h0 Ju) fu⟩
 |outgrown=>exact⟨_,a₁,w₁,hq,.of_steps (.one h0 Ju) fu⟩
def Fo{γ:G}{w:World}:∀(ps:List Nat)(args:List AV)(vs:List Value)(T:List AV)(arr:Array Value),args.length=ps.length->ak w γ args vs->ak w γ T arr.toList->
  ak w γ (Qam T ps args) ((ps.toArray.zip vs.toArray).foldl (fun(tmps:Array Value)(p:Nat×Value)=>tmps.setIfInBounds p.1 p.2) arr).toList:=by
 intro ps args vs T arr hl hr ht
 have e:(ps.toArray.zip vs.toArray).foldl (fun(tmps:Array Value)(p:Nat×Value)=>tmps.setIfInBounds p.1 p.2) arr=(ps.zip vs).foldl (fun(tmps:Array Value)(p:Nat×Value)=>tmps.setIfInBounds p.1 p.2) arr:=by
  rw[<- Array.foldl_toList];simp
 rw[e];clear e;induction ps generalizing args vs T arr with
 |nil=>
  cases args with
  |nil=>simpa[Qam]using ht
  |cons x xs=>simp at hl
 |cons p ps ih=>
  cases args with
  |nil=>simp at hl
  |cons x xs=>
   cases vs with
   |nil=>have:=hr.1;simp at this
   |cons v vs=>
    have h0:aB w γ x v:=hr.2 0 x v rfl rfl;have hs:ak w γ xs vs:=⟨by have:=hr.1;simpa using this,fun i x y h1 h2=>hr.2 (i+1) x y (by simpa using h1) (by simpa using h2)⟩;simp only[zzdg,zzcz,Qam];refine ih xs vs _ _ (by simpa using hl) hs ?_;rw[zzdh];exact ht.set p h0
def cO.put{m:AM}{i l:Nat}{rc:Loop}{x:LS}(h:cO γ w m)(hi:γ.lp i=some l)(dy:γ.sp l)(hl:l<w.heap.size)(hx:J8 x rc):cO γ (w.putObj l (.loop rc)) (m.at_ i x):=by
 refine⟨fun i'=>?_,h.2.1,h.2.2.1,fun i' l' ey=>?_⟩
 rotate_left
 ·obtain⟨q1,r,q2⟩:=h.2.2.2 i' l' ey;by_cases wI:l'=l
  ·subst wI;exact⟨q1,rc,World.putObj_heap_same hl⟩
  exact⟨q1,r,(World.putObj_heap_other wI).trans q2⟩
 by_cases dV:i'=i
 ·subst dV;exact .inr ⟨l,hi,dy,rc,World.putObj_heap_same hl,by simpa[AM.at_,qq]using hx⟩
 rcases h.1 i' with h'|⟨l',h0,h1,r,h2,h3⟩
 ·exact .inl (by simp[AM.at_,qq,dV,h'])
 have ey:l'≠l:=by rintro rfl;exact dV (h.2.2.1 _ _ _ h0 hi)
 exact .inr ⟨l',h0,h1,r,(World.putObj_heap_other ey).trans h2,by simpa[AM.at_,qq,dV]using h3⟩
def G.dK(γ:G)(i l:Nat):G:={γ with lp:=fun j=>if j=i then some l else γ.lp j}
def Fp(w:World){γ:G}{i l:Nat}(h:γ.lp i=none):eD w γ w (γ.dK i l):=
 ⟨zzab _,fun _ _ _ h=>⟨h,rfl⟩,fun _ _ h=>h,fun _=>zzab _,fun _ _ h=>h,fun j l' hj=>by
  have:j≠i:=by rintro rfl;rw[h]at hj;cases hj
  simp[G.dK,this,hj],fun _ _ _ h=>⟨h,fun arr _ h=>⟨arr,h,zzab _⟩,fun _ h=>h⟩,fun _ h=>⟨h,.inl rfl⟩,Sz.refl w⟩
def au.dK{B:Nat->Option (List AV)}{L:Nat->Option Nat}(hm:au N w0 aq γ w B L){i l:Nat}(h:γ.lp i=none):au N w0 aq (γ.dK i l) w B L:=by
 have cw:=(Fp w h (l:=l)).D4;refine⟨w0.st _ _ _ _ hm.bs ⟨rfl,rfl,rfl,zzab _,fun _ _ _=>rfl,fun _ _ _ h=>⟨h,rfl⟩,fun _ hb=>.inl hb,fun _ _ h=>.inl h⟩,hm.hN,hm.aq,hm.robd,fun id cells b hb h1=>?_,hm.β,hm.inj,hm.own,hm.oinj,hm.sp,fun id b hb=>?_,hm.minj,hm.len,hm.cur0⟩
 ·obtain⟨arr,e,h2,h3,h4⟩:=hm.box id cells b hb h1;exact⟨arr,e,h2,h3.eX cw,h4⟩
 obtain⟨h1,h2,h3,h4,h5,h6,h8,h7⟩:=hm.mm id b hb;exact⟨h1,h2,h3,h4,h5,h6,h8,h7.mono cw rfl⟩
def oZ{B:Nat->Option (List AV)}{L:Nat->Option Nat}(hm:au N w0 aq γ w B L){l:Nat}(hl:γ.sp l){rc:Loop}(h0:w.heap[l]?=some (.loop rc))(st:LoopState)(pd:Option Code):
  au N w0 aq γ (w.putObj l (.loop {rc with state:=st,pending:=pd})) B L/\eD w γ (w.putObj l (.loop {rc with state:=st,pending:=pd})) γ:=by
 obtain⟨h1,_,h3⟩:=hm.ajr hl (o:=.loop {rc with state:=st,pending:=pd}) h0 (fun _ _ _ h=>by cases h) (fun _ _ _ h=>by cases h) (.inl rfl) (fun _=>.inr ⟨rc,st,pd,rfl,rfl⟩);exact⟨h1,h3 w γ (Ev.refl w γ).dD (.inl rfl)⟩
def Fq{g:Operand}{ps:Array Tmp}{lT body:Code}
  (ihA:∀(l:Nat)(S:G×World)(γ:G)(w:World)(s:AS)(a:Act)(Q:Exit->AS->Prop),vc P gl orc Y (Ym P lT) s Q->eZ N w0 (some l) aq S P gl Y γ w s a->lT.wpIn (FW (some l)) 0 P (lift N w0 (some l) aq S P gl Y Q) a w)
  (ihB:∀(l:Nat)(S:G×World)(γ:G)(w:World)(s:AS)(a:Act)(Q:Exit->AS->Prop),vc P gl orc Y (Ym P body) s Q->eZ N w0 (some l) aq S P gl Y γ w s a->body.wpIn (FW (some l)) 0 P (lift N w0 (some l) aq S P gl Y Q) a w)
  {s:AS}{a:Act}{Q:Exit->AS->Prop}(h:vc P gl orc Y (Ym P (.rangeFunc g ps lT body)) s Q)(hs:eZ N w0 r aq S P gl Y γ w s a):
  (Code.rangeFunc g ps lT body).wpIn (FW r) 0 P (lift N w0 r aq S P gl Y Q) a w:=by
 simp only[Ym,vc]at h;have hg:=hs.ev g;split at h
 case h_2=>exact h.elim
 rename_i f first cap e1
 rw[e1]at hg;obtain⟨fa,ca,hv,r1,r2⟩:=hg.qH;refine wpIn_rangeFunc fun fn _=>?_
 obtain⟨l,mark,w1,γ1',rc,he,ow,hsp1',hm1',hev1',hd1',VT⟩:∃(l:Nat)(mark:List Deferred)(w1:World)(γ1:G)(df:Nat),
   (Instr.enterLoop fn a.tmps ps lT body (FW r).round).run P w=.ok (l,mark) w1/\w1.heap[l]?=some (.loop {state:=.ready,pending:=none,fn,tmps:=a.tmps,params:=ps,assign:=lT,body,defers:=df})/\γ1.sp l/\
   au N w0 aq γ1 w1 s.m.B s.m.L/\Ev w γ w1 γ1/\Dfr S.2.heap.size γ1 w1 (mark++a.defers)/\w.heap.size<=l:=by
  cases r with
  |none=>
   obtain⟨qp,fA⟩:=hs.m.W8 (.deferred (some []));obtain⟨CB,aqR⟩:=qp.W8 (.loop {state:=.ready,pending:=none,fn,tmps:=a.tmps,params:=ps,assign:=lT,body,defers:=w.heap.size});refine⟨w.heap.size+1,_,_,_,w.heap.size,run_enterLoop_outer fn a.tmps ps lT body,?_,Or.inr (by simp),CB,fA.trans aqR,?_,by omega⟩
   ·have:=World.alloc_heap_new (w.alloc (.deferred (some []))) (.loop {state:=.ready,pending:=none,fn,tmps:=a.tmps,params:=ps,assign:=lT,body,defers:=w.heap.size});simpa using this
   have hd:=hs.d.bq (fA.trans aqR).dD
   have oS:∀x∈a.defers,∀D,x.target=.collected D->D<w.heap.size:=fun x hx D hD=>by
    obtain⟨D',q1,_,_,q4⟩:=hs.d.2.1 x hx;rw[hD]at q1;cases q1;exact aT q4
   refine⟨hd.1,fun x hx=>?_,?_⟩
   ·simp only[zzae,zzai,zzat]at hx;obtain rfl|hx:=hx
    ·refine⟨w.heap.size,rfl,hs.d.1,.inl (.inr rfl),?_⟩;rw[Below.heap_alloc _ _ _ (by simp)];exact World.alloc_heap_new w _
    exact hd.2.1 x hx
   simp only[zzae,zzai,zzbx];refine⟨fun x hx D hD kL=>?_,hd.2.2⟩;simp at hD;have:=oS x hx D kL;omega
  |some l0=>
   obtain⟨oy,aqS,aqT⟩:=hs.rd l0 rfl;obtain⟨qp,fA⟩:=hs.m.W8 (.loop {state:=.ready,pending:=none,fn,tmps:=a.tmps,params:=ps,assign:=lT,body,defers:=aqS.defers});exact⟨w.heap.size,[],_,_,aqS.defers,run_enterLoop_inner aqT fn a.tmps ps lT body,World.alloc_heap_new w _,Or.inr rfl,qp,fA,hs.d.bq fA.dD,zzab _⟩
 have dZ:l<w1.heap.size:=aT ow;generalize dg:s.m.ln=i at h;have W9:=hs.ls.mono hev1';have ajs:γ1'.lp i=none:=W9.2.1 i (by omega)
 have Fb:∀j,γ1'.lp j≠some l:=fun j hj=>by
  rw[hev1'.lp]at hj;have:=(hs.m.sp l (hs.ls.2.2.2 j l hj).1).2.1;omega
 let γ1:=γ1'.dK i l
 have aqU:eD w1 γ1' w1 γ1:=Fp w1 ajs;have fA:eD w γ w1 γ1:=hev1'.dD.trans aqU;have qp:au N w0 aq γ1 w1 s.m.B s.m.L:=hm1'.dK ajs;have XA:γ1.sp l:=hsp1';have XB:γ1.lp i=some l:=by simp[γ1,G.dK]
 have hd1:=hd1'.bq aqU
 have hE:=h (by
  rcases hs.ls.1 i with h|⟨l',h0,_⟩
  ·exact h
  rw[hs.ls.2.1 i (by omega)]at h0;cases h0)
 have oJ:ak w1 γ1 (first++[.yld i]++cap) (fa.toList++[.func (.yield l) #[] #[]]++ca.toList):=((r1.bq fA).append (ak.cons (.yld XB) ak.nil)).append (r2.bq fA)
 have av0:cO γ1 w1 s.m.aY:=by
  refine⟨fun j=>?_,fun j hj=>?_,fun j j' l' h1 h2=>?_,fun j l' h1=>?_⟩
  ·by_cases hj:j=i
   ·subst hj;exact .inr ⟨l,XB,XA,_,ow,by simp[AM.aY,qq,dg,J8]⟩
   rcases W9.1 j with h|⟨l',h0,h1,r',h2,h3⟩
   ·exact .inl (by simp[AM.aY,qq,dg,hj,h])
   exact .inr ⟨l',by simp[γ1,G.dK,hj,h0],h1,r',h2,by simpa[AM.aY,qq,dg,hj]using h3⟩
  ·have NO:i+1<=j:=by simpa[AM.aY,dg]using hj
   have:j≠i:=by omega
   simp[γ1,G.dK,this,W9.2.1 j (by omega)]
  ·by_cases hj:j=i<;>by_cases NO:j'=i
   ·rw[hj,NO]
   ·simp[γ1,G.dK,hj]at h1;simp[γ1,G.dK,NO]at h2;subst h1;exact absurd h2 (Fb j')
   ·simp[γ1,G.dK,hj]at h1;simp[γ1,G.dK,NO]at h2;subst h2;exact absurd h1 (Fb j)
   simp[γ1,G.dK,hj]at h1;simp[γ1,G.dK,NO]at h2;exact W9.2.2.1 j j' l' h1 h2
  by_cases hj:j=i
  ·simp[γ1,G.dK,hj]at h1;subst h1;exact⟨XA,_,ow⟩
  simp[γ1,G.dK,hj]at h1;exact W9.2.2.2 j l' h1
 refine⟨l,mark,w1,{target:=.fn (.func f) ca,args:=fa++#[.func (.yield l) #[] #[]]},w1,f,(fa.toList++[Value.func (.yield l) #[] #[]]++ca.toList).toArray,w1,he,?_,fun _ _=>trivial,?_,fun h=>by simp[FW,Fence.wide]at h,?_⟩
 ·have hc:a.eval (.const (.func (.yield l) #[] #[]))=.func (.yield l) #[] #[]:=rfl;simp[resolve,hv,hc,Deferred.ofValue,rangeCall]
 ·simp[invoke,Qdr hE.1]
 have XC:=hE.2 N w0 aq γ1 w1 _ qp av0 (fun g=>(hs.g g).bq fA.cT) ?_ oJ
 ·refine CallsIn.mono (F:=FW r) (n:=0) (show CallsIn (FW r) 0 P f _ w1 _ from XC) ?_;rintro en w3 ⟨v,γ3,r',m',rfl,g1,g2,g3,g4,g5⟩;have av1:=(g1.sp l XA).1
  have fin:∀(QY:Loop)(pd:Option Code),w3.heap[l]?=some (.loop QY)->(∀ex,ex=Exit.normal/\pd=none\/pd=qS ex/\pd.isSome=true->QY.state≠.busy->QY.pending=pd->Q ex ⟨s.T,m'.at_ i .gone⟩->rangePost (FW r) 0 P l (lift N w0 r aq S P gl Y Q) {a with defers:=mark++a.defers} (.returned v) w3):=by
   intro QY pd aqV ex hex hnb hpd hQ;obtain⟨hm4,aqW⟩:=oZ g2 av1 aqV .exhausted QY.pending;refine⟨QY.pending,_,run_endLoop aqV hnb,?_⟩;have cw:eD w γ (w3.putObj l (.loop {QY with state:=.exhausted})) γ3:=(fA.trans g1).trans aqW
   have zy:eZ N w0 r aq S P gl Y γ3 (w3.putObj l (.loop {QY with state:=.exhausted})) ⟨s.T,m'.at_ i .gone⟩ {a with defers:=mark++a.defers}:=by
    have aeH:=g1.lp i l XB;refine⟨hm4,?_,hs.rd.bq cw,hs.t.bq cw,hd1.bq (g1.trans aqW),fun g=>(hs.g g).bq cw.cT,hs.y.mono cw,hs.e.trans cw⟩;refine⟨fun j=>?_,g3.2.1,g3.2.2.1,fun j l' ey=>?_⟩
    rotate_left
    ·obtain⟨q1,r,q2⟩:=g3.2.2.2 j l' ey;by_cases wI:l'=l
     ·subst wI;exact⟨q1,_,World.putObj_heap_same (aT q2)⟩
     exact⟨q1,r,(World.putObj_heap_other wI).trans q2⟩
    by_cases hj:j=i
    ·exact .inl (by simp[AM.at_,qq,hj])
    rcases g3.1 j with h|⟨l',h0,h1,r',h2,h3⟩
    ·exact .inl (by simp[AM.at_,qq,hj,h])
    have ey:l'≠l:=by rintro rfl;exact hj (g3.2.2.1 _ _ _ h0 aeH)
    exact .inr ⟨l',h0,h1,r',(World.putObj_heap_other ey).trans h2,by simpa[AM.at_,qq,hj]using h3⟩
   generalize w3.putObj l (.loop {QY with state:=.exhausted})=w4 at zy;rw[hpd];obtain⟨rfl,rfl⟩|⟨hex,XD⟩:=hex
   ·exact⟨γ3,_,zy,hQ⟩
   cases ex with
   |ret=>simp only[qS]at hex;subst hex;exact wpIn_ret ⟨γ3,_,zy,hQ⟩
   |exit id=>simp only[qS]at hex;subst hex;exact wpIn_exit ⟨γ3,_,zy,hQ⟩
   |_=>simp only[qS]at hex;subst hex;cases XD
  have hl3:=g3.1 i;have aeH:=g1.lp i l XB;cases cc:m'.st i with
  |gone=>rw[cc]at g5;exact g5.elim
  |busy=>rw[cc]at g5;exact g5.elim
  |ready=>
   rw[cc]at g5 hl3;obtain hl3|⟨l',q0,_,QY,q1,q2⟩:=hl3
   ·cases hl3
   obtain rfl:l'=l:=Option.some.inj (q0.symm.trans aeH);exact fin QY none q1 .normal (.inl ⟨rfl,rfl⟩) (by rw[q2.1];simp) q2.2 g5
  |done ex=>
   rw[cc]at g5 hl3;obtain hl3|⟨l',q0,_,QY,q1,q2⟩:=hl3
   ·cases hl3
   obtain rfl:l'=l:=Option.some.inj (q0.symm.trans aeH);exact fin QY _ q1 ex (.inr ⟨rfl,q2.2.2⟩) (by rw[q2.1];simp) q2.2.1 g5
 intro γ' w' XE i' args m K vs fO aqX AA hY l' aeI;unfold Yin at hY;split at hY
 case isFalse=>exact hs.y γ' w' (fA.trans XE) i' args m K vs fO aqX AA hY l' aeI
 rename_i dV;subst dV;obtain rfl:l'=l:=Option.some.inj (aeI.symm.trans (XE.lp _ _ XB));obtain⟨fB,aH,hY⟩:=hY
 have N4:∃st pd,w'.heap[l']?=some (.loop {state:=st,pending:=pd,fn,tmps:=a.tmps,params:=ps,assign:=lT,body,defers:=rc}):=by
  rcases(XE.sp l' XA).2 with h|⟨r0,st,pd,h,h'⟩
  ·rw[ow]at h;exact⟨_,_,h⟩
  rw[ow]at h;cases h;exact⟨st,pd,h'⟩
 obtain⟨st,pd,N4⟩:=N4;have alS:=(XE.sp l' XA).1;have alT:=fA.trans XE;have hps:vs.toArray.size=ps.size:=by have:=AA.1;simp at this aH |-;omega
 refine⟨fn,_,lT,body,run_yield N4 hps,roundIn_of_wpIn (F:=FW none) trivial ?_⟩
 have aqY:eZ N w0 (some l') aq (γ',w') P gl Y γ' w' ⟨Qam s.T ps.toList args,m⟩ {tmps:=(ps.zip vs.toArray).foldl (fun(tmps:Array Value)(p:Nat×Value)=>tmps.setIfInBounds p.1 p.2) a.tmps,defers:=[]}:=by
  refine⟨fO,aqX,fun l hl=>?_,?_,⟨zzab _,fun x hx=>(by cases hx),List.Pairwise.nil⟩,fun g=>(hs.g g).bq alT.cT,hs.y.mono alT,(Ev.refl w' γ').dD⟩
  ·cases hl;exact⟨alS,_,N4⟩
  have:=Fo ps.toList args vs s.T a.tmps aH AA (hs.t.bq alT);simpa using this
 refine wpIn_mono (ihA l' (γ',w') γ' w' _ _ _ hY aqY) ?_;rintro ex a2 w2 ⟨γ2,s2,KB,hq2⟩;cases ex with
 |normal=>
  obtain⟨av2,hq2⟩:=hq2;have AT:=KB.ls.1 i';rw[av2]at AT;have aqZ:=KB.e.lp _ _ aeI;obtain AT|⟨l2,q0,hsp2,rc2,q1,q2⟩:=AT
  ·cases AT
  obtain rfl:l'=l2:=Option.some.inj (aqZ.symm.trans q0);obtain⟨hm3,QZ⟩:=oZ KB.m hsp2 q1 .busy rc2.pending;refine⟨_,run_beginRound q1 q2.1,?_⟩
  have aq0:eZ N w0 (some l') aq (γ',w') P gl Y γ2 (w2.putObj l' (.loop {rc2 with state:=.busy})) ⟨s2.T,s2.m.at_ i' .busy⟩ a2:=
   ⟨hm3,KB.ls.put aqZ hsp2 (aT q1) rfl,KB.rd.bq QZ,KB.t.bq QZ,KB.d.bq QZ,fun g=>(KB.g g).bq QZ.cT,KB.y.mono QZ,KB.e.trans QZ⟩
  refine wpIn_mono (ihB l' (γ',w') γ2 _ _ _ _ hq2 aq0) ?_;rintro ex a4 w4 ⟨γ4,s4,hs4,hq4⟩;obtain⟨Q0,rc4,q4⟩:=hs4.rd _ rfl;have alU:=hs4.e.lp _ _ aeI;cases ex with
  |normal=>
   obtain⟨hm5,XF⟩:=oZ hs4.m Q0 q4 .ready none;exact⟨_,_,run_endRound none q4,true,γ4,s4.m.at_ i' .ready,rfl,hs4.e.trans XF,hm5,hs4.ls.put alU Q0 (aT q4) ⟨rfl,rfl⟩,hq4⟩
  |ret=>
   obtain⟨hm5,XF⟩:=oZ hs4.m Q0 q4 .done (some .ret);exact⟨_,_,run_endRound (some .ret) q4,false,γ4,s4.m.at_ i' (.done .ret),rfl,hs4.e.trans XF,hm5,hs4.ls.put alU Q0 (aT q4) ⟨rfl,rfl,rfl⟩,hq4⟩
  |exit id=>
   obtain⟨hm5,XF⟩:=oZ hs4.m Q0 q4 .done (some (.exit id));exact⟨_,_,run_endRound (some (.exit id)) q4,false,γ4,s4.m.at_ i' (.done (.exit id)),rfl,hs4.e.trans XF,hm5,hs4.ls.put alU Q0 (aT q4) ⟨rfl,rfl,rfl⟩,hq4⟩
  |_=>exact hq4.elim
 |_=>exact hq2.elim
def Jf:∀(c:Code)(r:Option Nat)(S:G×World)(γ:G)(w:World)(s:AS)(a:Act)(Q:Exit->AS->Prop),vc P gl orc Y (Ym P c) s Q->eZ N w0 r aq S P gl Y γ w s a->c.wpIn (FW r) 0 P (lift N w0 r aq S P gl Y Q) a w
 |.skip,r,S,γ,w,s,a,Q,h,hs=>wpIn_skip ⟨γ,s,hs,h⟩
 |.label _,r,S,γ,w,s,a,Q,h,hs=>wpIn_label ⟨γ,s,hs,h⟩
 |.region id ops false,r,S,γ,w,s,a,Q,h,hs=>by
  refine wpIn_region ?_;have:=sv (P:=P) (orc:=orc) (ops:=ops) (Q:=lift N w0 r aq S P gl Y Q) (K:=Q .normal) (fun γ w s a hK hs=>⟨γ,s,hs,hK⟩) ops.size 0 γ w s a (by simp) (by simpa[Ym,vc]using h) hs;rwa [zzfv]
 |.region id ops true,r,S,γ,w,s,a,Q,h,hs=>by
  simp only[Ym]at h;split at h
  case isFalse=>exact h.elim
  rename_i hc;simp only[zzak]at hc;split at h
  ·rename_i j hj;obtain h|⟨ms,h⟩|⟨hb,ms,R,hR,h⟩|⟨ms,h⟩:=h
   ·exact wpIn_region_any hc.1 (wA (Q:=lift N w0 r aq S P gl Y Q) (K:=Q .normal) (fun γ w s a hK hs=>⟨γ,s,hs,hK⟩) hc.2 h hs)
   ·exact wpIn_region_any hc.1 (sx (Q:=lift N w0 r aq S P gl Y Q) (K:=Q .normal) (fun γ w s a hK hs=>⟨γ,s,hs,hK⟩) hc.2 hj (jk _ _ _ _ (kW hc.2) (N0 _ _ _ _ h)) hs)
   ·exact wpIn_region_any hc.1 (Fl (Q:=lift N w0 r aq S P gl Y Q) (K:=Q .normal) (fun γ w s a hK hs=>⟨γ,s,hs,hK⟩) hc.2 hj (alR hc.2 hb) hR (fun x hx=>oW _ _ _ _ (kW hc.2) (h x hx)) hs)
   exact wpIn_region_any hc.1 (sx (Q:=lift N w0 r aq S P gl Y Q) (K:=Q .normal) (fun γ w s a hK hs=>⟨γ,s,hs,hK⟩) hc.2 hj (jk _ _ _ _ (kW hc.2) h) hs)
  exact wpIn_region_any hc.1 (wA (Q:=lift N w0 r aq S P gl Y Q) (K:=Q .normal) (fun γ w s a hK hs=>⟨γ,s,hs,hK⟩) hc.2 h hs)
 |.seq x y,r,S,γ,w,s,a,Q,h,hs=>by
  refine wpIn_seq (wpIn_mono (Jf x r S γ w s a _ h hs) ?_);rintro ex a' w' ⟨γ',s',iH,h'⟩;cases ex with
  |normal=>exact Jf y r S γ' w' s' a' Q h' iH
  |_=>exact⟨γ',s',iH,h'⟩
 |.cond c x y,r,S,γ,w,s,a,Q,h,hs=>by
  simp only[Ym,vc]at h;have hr:=hs.ev c;split at h
  case h_2=>exact h.elim
  rename_i t ht;rw[ht]at hr;exact wpIn_cond_split hr.bA (fun e=>Jf x r S γ w s a Q (h.1 e) hs) fun e=>Jf y r S γ w s a Q (h.2 e) hs
 |.block id c,r,S,γ,w,s,a,Q,h,hs=>by
  refine wpIn_block (wpIn_mono (Jf c r S γ w s a _ h hs) ?_);rintro ex a' w' ⟨γ',s',iH,h'⟩;cases ex with
  |exit id'=>
   simp only[Exit.inBlock,qV]at h' |-
   split
   ·rename_i aN;rw[if_pos aN]at h';exact⟨γ',s',iH,h'⟩
   rename_i aN;rw[if_neg aN]at h';exact⟨γ',s',iH,h'⟩
  |_=>exact⟨γ',s',iH,h'⟩
 |.loop c,r,S,γ,w,s,a,Q,h,hs=>by
  obtain⟨I,μ,h0,AA⟩:=h;intro b k cs dM hb hr
  have key:∀j γ w s a,μ s=j->I s->eZ N w0 r aq S P gl Y γ w s a->∃e a' w',lift N w0 r aq S P gl Y Q e a' w'/\ArrivesIn (Machine.fenced P (FW r)) P (lone (b.atR a (.code c::.inLoop c::k)) cs w) b k cs e a' w':=by
   intro j;induction j using Nat.strongRecOn with
   |_ j ih=>
    intro γ w s a hn hI hs;obtain⟨e,a₁,w₁,⟨γ₁,s₁,hs₁,hq⟩,fu⟩:=Jf c r S γ w s a _ (AA s hI) hs b (.inLoop c::k) cs dM hb hr;cases e with
    |normal=>
     obtain⟨hI₁,ai⟩:=hq;obtain⟨e₂,a₂,w₂,hq₂,aq1⟩:=ih (μ s₁) (hn ▸ ai) γ₁ w₁ s₁ a₁ rfl hI₁ hs₁;exact⟨e₂,a₂,w₂,hq₂,.of_steps (StepsIn.trans fu (.one (fenced_calm hb hr rfl) stepR_inLoop)) aq1⟩
    |exit id=>exact⟨_,a₁,w₁,⟨γ₁,s₁,hs₁,hq⟩,.pass (x:=.inLoop c) rfl (fun _ _=>.inl (by simp)) fu⟩
    |goto l=>exact⟨_,a₁,w₁,⟨γ₁,s₁,hs₁,hq⟩,.pass (x:=.inLoop c) rfl (fun _ _=>.inl (by simp)) fu⟩
    |ret=>exact⟨_,a₁,w₁,⟨γ₁,s₁,hs₁,hq⟩,.pass (x:=.inLoop c) rfl (fun _ _=>.inl (by simp)) fu⟩
    |panic ch=>exact⟨_,a₁,w₁,⟨γ₁,s₁,hs₁,hq⟩,.pass (x:=.inLoop c) rfl (fun _ _=>.inl (by simp)) fu⟩
    |outgrown=>exact⟨_,a₁,w₁,⟨γ₁,s₁,hs₁,hq⟩,.pass (x:=.inLoop c) rfl (fun _ _=>.inl (by simp)) fu⟩
  obtain⟨e,a',w',hq,fu⟩:=key _ γ w s a rfl h0 hs;exact⟨e,a',w',hq,.of_steps (.one (fenced_calm hb hr rfl) stepR_loop) fu⟩
 |.exit id,r,S,γ,w,s,a,Q,h,hs=>wpIn_exit ⟨γ,s,hs,h⟩
 |.ret,r,S,γ,w,s,a,Q,h,hs=>wpIn_ret ⟨γ,s,hs,h⟩
 |.scope c,r,S,γ,w,s,a,Q,h,hs=>by
  refine lU (wpIn_mono (Jf c r S γ w s a _ h hs) ?_);rintro ex a' w' ⟨γ',s',iH,h'⟩;cases ex with
  |goto l=>exact h'.elim
  |_=>exact⟨γ',s',iH,h'⟩
 |.rangeFunc g ps lT body,r,S,γ,w,s,a,Q,h,hs=>Fq (fun l S γ w s a Q h hs=>Jf lT (some l) S γ w s a Q h hs) (fun l S γ w s a Q h hs=>Jf body (some l) S γ w s a Q h hs) h hs
 |.goto l,r,S,γ,w,s,a,Q,h,hs=>h.elim
 |.refuse why,r,S,γ,w,s,a,Q,h,hs=>h.elim
end
open Go Go.RowKit
section
variable {N:Nat} {w0:ir} {aq:Nat->Nat->Prop} {γ:G} {w:World} {B:Nat->Option (List AV)} {L:Nat->Option Nat} {P:Program} {gl:Nat->AV} {orc:Nat->FuncId->List AV->AV} {e:bK->AV} {m:AM}
def XG(P:Program)(t:TypeId)(x:bK):aD:=
 (match P.info? t,P.underlying t with|some i,some _=>if Ja P t then .load true i.size x else .load false 1 x|_,_=>.bad)
def XH(hm:au N w0 aq γ w B L)(hB:∀id cells,m.boxes[id]?=some cells->B id=some cells){t:TypeId}{x:bK}{v0:Value}(h1:aB w γ (e x) v0)
  (hc:(rop P gl orc e m none (XG P t x)).1):∃b o v,v0=.pointer (some ⟨b,o,none⟩)/\(loadVar t ⟨b,o,none⟩).run P w=.ok v w/\aB w γ (rop P gl orc e m none (XG P t x)).2 v:=by
 unfold XG at hc |-
 split at hc
 case h_2=>exact hc.elim
 rename_i i d hi hd
 have main:∀(agg:Bool)(n:Nat),Ja P t=agg->(agg=true->n=i.size)->(rop P gl orc e m none (.load agg n x)).1->
   ∃b o v,v0=.pointer (some ⟨b,o,none⟩)/\(loadVar t ⟨b,o,none⟩).run P w=.ok v w/\aB w γ (rop P gl orc e m none (.load agg n x)).2 v:=by
  intro agg n bE hn hc
  have conv:∀b o v,(Instr.loadAt t (.pointer (some ⟨b,o,none⟩))).run P w=.ok v w->(loadVar t ⟨b,o,none⟩).run P w=.ok v w:=fun b o v h=>by
   simpa[Instr.loadAt,Instr.sureAddr]using h
  simp only[rop]at hc |-
  split at hc
  ·rename_i id o' he;try simp only[he]
   rw[he]at h1;obtain⟨b,hb,hv⟩:=h1.dF;cases gE:m.boxes[id]? with
   |none=>
    have e0:m.boxes.getD id []=[]:=by simp[List.getD,gE]
    rw[e0]at hc |-
    obtain⟨v,h2,h3⟩:=Qdf (P:=P) (w:=w) (γ:=γ) (b:=b) (o:=o') (cv:=fun _=>undef) hi hd bE hn (fun j c hj=>by simp at hj) (fun j c hj=>by simp at hj) hc;exact⟨b,o',v,hv,conv _ _ _ h2,h3⟩
   |some cells=>
    have e0:m.boxes.getD id []=cells:=by simp[List.getD,gE]
    rw[e0]at hc |-
    obtain⟨arr,te,g2,g3,g4⟩:=hm.box id cells b (hB id cells gE) hb
    have cp:∀(j:Nat)(c:AV),(cells.drop o')[j]?=some c->arr[o'+j]?=some (arr.getD (o'+j) undef)/\aB w γ c (arr.getD (o'+j) undef):=fun j c hj=>by
     rw[zzbk]at hj
     have ai:o'+j<arr.size:=by
      have:=(zza.1 hj).1;have h0:=g3.1;simp at h0;omega
     have hu:arr[o'+j]?=some (arr.getD (o'+j) undef):=by simp[ai]
     exact⟨hu,g3.2 _ _ _ hj (by simpa using hu)⟩
    obtain⟨v,h2,h3⟩:=Qdf (P:=P) (w:=w) (γ:=γ) (b:=b) (o:=o') (cv:=fun j=>arr.getD (o'+j) undef) hi hd bE hn (fun j c hj=>by rw[aM g2];exact(cp j c hj).1) (fun j c hj=>(cp j c hj).2) hc;exact⟨b,o',v,hv,conv _ _ _ h2,h3⟩
  ·rename_i row o' he;try simp only[he]
   rw[he]at h1;obtain⟨b,off,cv,hv,hb,bL,zj⟩:=h1.iW;have cp:∀(j:Nat)(c:AV),(row.drop o')[j]?=some c->row[o'+j]?=some c:=fun j c hj=>by rw[zzbk]at hj;exact hj
   obtain⟨v,h2,h3⟩:=Qdf (P:=P) (w:=w) (γ:=γ) (b:=b) (o:=off+o') (cv:=fun j=>cv (o'+j)) hi hd bE hn
    (fun j c hj=>by rw[zzan];exact(bL _ _ (cp j c hj)).1) (fun j c hj=>(zj _ _ (cp j c hj)).gD) hc
   exact⟨b,off+o',v,hv,conv _ _ _ h2,h3⟩
  exact hc.elim
 cases bE:Ja P t with
 |true=>simp only[bE,if_true]at hc |-;exact main true _ bE (fun _=>rfl) hc
 |false=>simp only[bE]at hc |-;exact main false 1 bE (fun h=>by cases h) hc
end
def fT(P:Program)(rs:List ResultVar):List aD:=rs.map fun
 |.tmp t=>.mv (.tmp t)
 |.cell a t=>XG P t (.tmp a)
def Km(P:Program)(gl:Nat->AV)(orc:Nat->FuncId->List AV->AV)(s:AS):List aD->Prop×List AV
 |[]=>(True,[])
 |o::r=>((rop P gl orc (ev gl s.T) s.m none o).1/\(Km P gl orc s r).1,(rop P gl orc (ev gl s.T) s.m none o).2::(Km P gl orc s r).2)
def oneOf:List AV->AV
 |[a]=>a
 |l=>.aW l
section
variable {N:Nat} {w0:ir} {r:Option Nat} {aq:Nat->Nat->Prop} {S:G×World} {Y:YT} {γ:G} {w:World} {P:Program} {gl:Nat->AV} {orc:Nat->FuncId->List AV->AV} {s:AS} {a:Act}
def N5(hs:eZ N w0 r aq S P gl Y γ w s a):∀(rs:List ResultVar),(Km P gl orc s (fT P rs)).1->
  ∃vs:List Value,(rs.mapM fun(r:ResultVar)=>(match r with|.tmp t=>pure (a.tmps.getD t undef)|.cell x t=>do loadVar t (<- asAddr (a.tmps.getD x undef)):Sem Value)).run P w=.ok vs w/\
   ak w γ (Km P gl orc s (fT P rs)).2 vs
 |[],_=>⟨[],by simp,ak.nil⟩
 |r::rs,hc=>by
  obtain⟨h1,h2⟩:=hc;obtain⟨vs,g1,g2⟩:=N5 hs rs h2
  have key:∃v,(match r with|.tmp t=>pure (a.tmps.getD t undef)|.cell x t=>do loadVar t (<- asAddr (a.tmps.getD x undef)):Sem Value).run P w=.ok v w/\
    aB w γ (rop P gl orc (ev gl s.T) s.m none ((fun(r:ResultVar)=>match r with|.tmp t=>aD.mv (.tmp t)|.cell a t=>XG P t (.tmp a)) r)).2 v:=by
   cases r with
   |tmp t=>exact⟨a.tmps.getD t undef,by simp,hs.ev (.tmp t)⟩
   |cell x t=>
    obtain⟨b,o,v,e1,e2,e3⟩:=XH (P:=P) (gl:=gl) (orc:=orc) (e:=ev gl s.T) (m:=s.m) hs.m (fun _ _ h=>h) (t:=t) (x:=.tmp x) (v0:=a.tmps.getD x undef) (hs.ev (.tmp x)) h1;refine⟨v,?_,e3⟩;simp only[e1,Sem.run_bind,asAddr,Sem.run_pure,Result.andThen_ok,e2]
  obtain⟨v,k1,k2⟩:=key;refine⟨v::vs,?_,ak.cons k2 g2⟩;simp only[zzhm,Sem.run_bind,k1,Result.andThen_ok,g1,Sem.run_pure]
def Fs(hs:eZ N w0 r aq S P gl Y γ w s a){fn:Func}(hc:(Km P gl orc s (fT P fn.results.toList)).1):∃v,(results fn a.tmps).run P w=.ok v w/\aB w γ (oneOf (Km P gl orc s (fT P fn.results.toList)).2) v:=by
 obtain⟨vs,h1,h2⟩:=N5 (P:=P) (orc:=orc) hs fn.results.toList hc
 have aZ:(results fn a.tmps).run P w=.ok (if h:vs.toArray.size=1 then vs.toArray[0]else .tuple vs.toArray) w:=by
  simp only[results,Sem.run_bind,Array.mapM_eq_mapM_toList,Sem.run_map];exact congrArg (fun(z:Result (List Value))=>(z.andThen fun a w'=>Result.ok a.toArray w').andThen fun(a:Array Value)w'=>Sem.run P (pure (if h:a.size=1 then a[0]else Value.tuple a):Sem Value) w') h1
 refine⟨_,aZ,?_⟩;generalize(Km P gl orc s (fT P fn.results.toList)).2=as at h2
 match as,vs,h2 with
 |[],[],h2=>exact .aW rfl fun i c v h=>by simp at h
 |[],_::_,h2=>have:=h2.1;simp at this
 |_::_,[],h2=>have:=h2.1;simp at this
 |[x],[v],h2=>exact h2.2 0 x v rfl rfl
 |[x],_::_::_,h2=>have:=h2.1;simp at this
 |_::_::_,[v],h2=>have:=h2.1;simp at this
 |x::y::as,v::u::vs,h2=>
  simp only[oneOf];rw[dif_neg (by simp)];exact .aW (by simpa using h2.1) fun i c v' g1 g2=>h2.2 i c v' g1 (by simpa using g2)
def post(P:Program)(gl:Nat->AV)(orc:Nat->FuncId->List AV->AV)(rs:List aD)(r:AV):Exit->AS->Prop
 |.normal,s=>(Km P gl orc s rs).1/\bF s.m 6 (oneOf (Km P gl orc s rs).2)=r
 |.ret,s=>(Km P gl orc s rs).1/\bF s.m 6 (oneOf (Km P gl orc s rs).2)=r
 |_,_=>False
def wJ(P:Program)(gl:Nat->AV)(orc:Nat->FuncId->List AV->AV)(rs:List aD)(K:AV->AM->Prop):Exit->AS->Prop
 |.normal,s=>(Km P gl orc s rs).1/\K (oneOf (Km P gl orc s rs).2) s.m
 |.ret,s=>(Km P gl orc s rs).1/\K (oneOf (Km P gl orc s rs).2) s.m
 |_,_=>False
def Y0:YT:=fun _ _ _ _=>False
def eZ.y0(h:eZ N w0 r aq S P gl Y γ w s a):eZ N w0 r aq S P gl Y0 γ w s a:=⟨h.m,h.ls,h.rd,h.t,h.d,h.g,fun _ _ _ _ _ _ _ _ _ _ _ hY _ _=>hY.elim,h.e⟩
def sA{fn:Func}{R:Ending->World->Prop}(hS:∀b,S.1.sp b->b<S.2.heap.size):∀(ds:List Deferred)(γ:G)(w:World)(s:AS)(a:Act),a.defers=ds->eZ N w0 none aq S P gl Y0 γ w s a->
  (Km P gl orc s (fT P fn.results.toList)).1->
  (∀v w' γ',eD S.2 S.1 w' γ'->au N w0 aq γ' w' s.m.B s.m.L->cO γ' w' s.m->aB w' γ' (oneOf (Km P gl orc s (fT P fn.results.toList)).2) v->R (.returned v) w')->LeavesInM (FW none) 0 P fn a.tmps R ds .returning w
 |[],γ,w,s,a,_,hs,h1,hR=>by
  obtain⟨v,g1,g2⟩:=Fs (P:=P) (orc:=orc) hs h1;exact⟨v,g1,hR v w γ hs.e hs.m hs.ls g2⟩
 |d::ds,γ,w,s,a,hd,hs,hc,hR=>by
  obtain⟨D,e1,e0,e2,e3⟩:=hs.d.2.1 d (by rw[hd];simp);refine⟨by simp,.inl ⟨D,w.putObj D (.deferred none),e1,run_takeDeferred e3,?_⟩⟩;have hDS:¬S.1.sp D:=fun h=>by have:=hS D h;omega
  obtain⟨fO,cw,av3⟩:=hs.m.ajr e2 (o:=.deferred none) e3 (fun _ _ _ h=>by cases h) (fun _ _ _ h=>by cases h) (γ':={γ with sp:=fun b=>γ.sp b/\b≠D}) (.inr rfl) (fun h=>by
   have:=congrFun (congrArg G.sp h) D;simp[e2]at this)
  have hpw:=hs.d.2.2;rw[hd,zzbx]at hpw;refine sA hS ds {γ with sp:=fun b=>γ.sp b/\b≠D} (w.putObj D (.deferred none)) s {a with defers:=ds} rfl ⟨fO,⟨fun i=>?_,hs.ls.2.1,hs.ls.2.2.1,fun i l hl=>?_⟩,fun l h=>(by cases h),hs.t.eX cw,⟨by simpa using hs.d.1,fun x hx=>?_,hpw.2⟩,fun g=>(hs.g g).eX cw.cT,fun _ _ _ _ _ _ _ _ _ _ _ hY _ _=>hY.elim,av3 _ _ hs.e (.inr hDS)⟩ hc hR
  ·rcases hs.ls.1 i with h|⟨l,h0,h1,rc,h2,h3⟩
   ·exact .inl h
   have aK:l≠D:=by rintro rfl;rw[e3]at h2;cases h2
   exact .inr ⟨l,h0,⟨h1,aK⟩,rc,(World.putObj_heap_other aK).trans h2,h3⟩
  ·obtain⟨h1,rc,h2⟩:=hs.ls.2.2.2 i l hl;have aK:l≠D:=by rintro rfl;rw[e3]at h2;cases h2
   exact⟨⟨h1,aK⟩,rc,(World.putObj_heap_other aK).trans h2⟩
  obtain⟨D',q1,q0,q2,q3⟩:=hs.d.2.1 x (by rw[hd];simp[hx]);have aK:D'≠D:=by rintro rfl;exact hpw.1 x hx D' e1 q1
  exact⟨D',q1,q0,⟨q2,aK⟩,(World.putObj_heap_other aK).trans q3⟩
def aeJ(w0:World):ir where
 p γ w:=Below w0.heap.size w0 w/\∀b,OI γ b->w0.heap.size<=b
 st γ w γ' w' h hc:=by
  refine⟨h.1.trans ⟨hc.os,hc.tape,hc.output,hc.size,fun b hb=>hc.same b (zzbc hb h.1.size) fun ho=>?_⟩,fun b hb=>?_⟩
  ·have:=h.2 b ho;omega
  rcases hc.oi b hb with hb|hb
  ·exact h.2 b hb
  exact zzbn h.1.size hb
def Q1{as:List AV}{vs:List Value}{k:Nat}(h:ak w γ as vs):ak w γ (as++List.replicate (k-as.length) .junk) (vs.toArray++Array.replicate (k-vs.toArray.size) undef).toList:=by
 have aH:=h.1
 have h2:ak w γ (List.replicate (k-as.length) .junk) (List.replicate (k-vs.length) undef):=⟨by simp[aH],fun i x v hx _=>by
  rw[zzcp]at hx;split at hx
  ·cases hx;exact .junk _
  cases hx⟩
 simpa using h.append h2
def dh(P:Program)(f:FuncId)(sc:SC)(rs:List aD)(n:Nat):Prop:=
 ∃fn c,P.funcs[f]?=some fn/\fn.body=some c/\(fn.name== "runtime.NumGoroutine")=false/\Ym P c=sc/\fT P fn.results.toList=rs/\fn.ntmps=n
def fco{P:Program}{f:FuncId}{fn:Func}{c:Code}{sc:SC}{rs:List aD}{n:Nat}(h:P.funcs[f]?=some fn)(hb:fn.body=some c)(hk:((fn.name== "runtime.NumGoroutine"),Ym P c,fT P fn.results.toList,fn.ntmps)=(false,sc,rs,n)):dh P f sc rs n:=by
 obtain⟨h1,h2⟩:=Prod.mk.inj hk;obtain⟨h2,h3⟩:=Prod.mk.inj h2;obtain⟨h3,h4⟩:=Prod.mk.inj h3;exact⟨fn,c,h,hb,h1,h2,h3,h4⟩
def aI{P:Program}{f:FuncId}{fn:Func}{c:Code}{sc:SC}{rs:List aD}{n:Nat}(h:P.funcs[f]?=some fn)(hb:fn.body=some c:=by rfl)(hk:((fn.name== "runtime.NumGoroutine"),Ym P c,fT P fn.results.toList,fn.ntmps)=(false,sc,rs,n):=by kernel_rfl):dh P f sc rs n:=fco h hb hk
def alV{f:FuncId}{sc:SC}{rs:List aD}{n:Nat}(hc:dh P f sc rs n)(orc:Nat->FuncId->List AV->AV){as:List AV}{m:AM}{K:AV->AM->Prop}
  (h:vc P gl orc Y sc ⟨as++List.replicate (n-as.length) .junk,m⟩ (wJ P gl orc rs K)){vs:List Value}(hm:au N w0 aq γ w m.B m.L)(hl:cO γ w m)(hg:∀g,aB w γ.cT (gl g) (.pointer (some ⟨g,0,none⟩)))
  (hy:YOK N w0 aq P Y γ w)(hr:ak w γ as vs):
  CallsIn (FW none) 0 P f vs.toArray w fun e w'=>∃v γ' r m',e=.returned v/\eD w γ w' γ'/\au N w0 aq γ' w' m'.B m'.L/\cO γ' w' m'/\aB w' γ' r v/\K r m':=by
 obtain⟨fn,c,hf,hb,ajt,rfl,rfl,rfl⟩:=hc;refine callsIn_of_wp_marks (F:=FW none) hf hb trivial ?_
 have hs:eZ N w0 none aq (γ,w) P gl Y γ w ⟨as++List.replicate (fn.ntmps-as.length) .junk,m⟩ {tmps:=vs.toArray++Array.replicate (fn.ntmps-vs.toArray.size) undef,defers:=[]}:=
  ⟨hm,hl,fun l h=>(by cases h),Q1 hr,⟨zzab _,fun x hx=>(by cases hx),List.Pairwise.nil⟩,hg,hy,(Ev.refl w γ).dD⟩
 refine wpIn_mono (Jf c none (γ,w) γ w _ _ _ h hs) ?_
 have fin:∀γ' w' s a,eZ N w0 none aq (γ,w) P gl Y γ' w' s a->(Km P gl orc s (fT P fn.results.toList)).1/\K (oneOf (Km P gl orc s (fT P fn.results.toList)).2) s.m->
   LeavesInM (FW none) 0 P fn a.tmps (fun e w'=>∃v γ' r m',e=.returned v/\eD w γ w' γ'/\au N w0 aq γ' w' m'.B m'.L/\cO γ' w' m'/\aB w' γ' r v/\K r m') a.defers .returning w':=
  fun γ' w' s a iH hc=>sA (S:=(γ,w)) (fun b hb=>(hm.sp b hb).2.1) a.defers γ' w' s a rfl iH.y0 hc.1 fun v zg JO q1 q2 q3 q4=>⟨v,JO,_,_,rfl,q1,q2,q3,q4,hc.2⟩
 rintro ex a w' ⟨γ',s,iH,h'⟩;cases ex with
 |normal=>exact fin γ' w' s a iH h'
 |ret=>exact fin γ' w' s a iH h'
 |_=>exact h'.elim
def dh.bC{f:FuncId}{sc:SC}{rs:List aD}{n:Nat}(hc:dh P f sc rs n):bC P f:=by
 obtain⟨fn,c,hf,hb,ajt,_⟩:=hc;exact⟨fn,hf,by simp[hb],ajt⟩
def XI{f:FuncId}{sc:SC}{rs:List aD}{n:Nat}(hc:dh P f sc rs n)(orc:Nat->FuncId->List AV->AV){as:List AV}{m:AM}{K:AV->AM->Prop}
  (h:vc P gl orc Y sc ⟨as++List.replicate (n-as.length) .junk,m⟩ (wJ P gl orc rs K)):an P gl Y f as m K:=
 ⟨hc.bC,fun _ _ _ _ _ _ hm hl hg hy hr=>alV hc orc h hm hl hg hy hr⟩
def AM.none:AM:=⟨[],[],fun _=>.gone,0⟩
def Ft{f:FuncId}{as:List AV}{r:AV}(h:an P gl Y0 f as ⟨[],[],fun _=>.gone,0⟩ fun x m'=>bF m' 6 x=r):Pure P gl f as r:=by
 refine⟨h.1,fun ro w vs lM hr=>?_⟩;refine(callsIn_wide (n:=0)).1 ?_
 let γ0:G:=G0 fun b o=>ro b o/\b<w.heap.size
 have cw:Ev w (G0 ro) w γ0:=⟨zzab _,fun b o hb h=>⟨⟨h,hb⟩,rfl⟩,fun _ _ h=>(by cases h),fun _=>zzab _,fun _ _ h=>(by cases h),rfl,fun _ _ _ h=>(by cases h),fun _ h=>h.elim,Sz.refl w⟩
 have hm:au w.heap.size (aeJ w) ro γ0 w (⟨[],[],fun _=>.gone,0⟩:AM).B (⟨[],[],fun _=>.gone,0⟩:AM).L:=by
  refine⟨⟨Below.refl _ _,fun b hb=>?_⟩,zzab _,fun b o h=>.inl h.1,fun b o h=>h.2,fun id cells b h=>by simp[AM.B]at h,fun id b h=>(by cases h),fun id id' b h=>(by cases h),fun id b h=>(by cases h),fun id id' b h=>(by cases h),fun b h=>h.elim,fun id b h=>(by cases h),fun id id' b h=>(by cases h),fun id n h=>by simp[AM.L]at h,fun _ _=>rfl⟩;obtain⟨_,hb⟩|⟨_,hb⟩|hb|⟨_,hb⟩:=hb
  ·cases hb
  ·cases hb
  ·exact hb.elim
  cases hb
 refine CallsIn.mono (h.2 _ _ _ _ _ _ hm ⟨fun _=>.inl rfl,fun _ _=>rfl,fun _ _ _ h=>(by cases h),fun _ _ h=>(by cases h)⟩ (fun g=>(lM g).mono cw) (fun _ _ _ _ _ _ _ _ _ _ _ hY _ _=>hY.elim) (hr.mono cw)) ?_;rintro e w' ⟨v,γ',x,m',rfl,_,h2,_,h4,h5⟩;refine⟨v,rfl,h2.bs.1,?_⟩;rw[<- h5];exact kK h2 (fun _ _ h=>h) h2.aq 6 _ v h4 fun _ id b hb o=>.inr (h2.β id b hb).1
def aeK{f:FuncId}{sc:SC}{rs:List aD}{n:Nat}(hc:dh P f sc rs n)(orc:Nat->FuncId->List AV->AV){as:List AV}{r:AV}
  (h:vc P gl orc Y0 sc ⟨as++List.replicate (n-as.length) .junk,⟨[],[],fun _=>.gone,0⟩⟩ (post P gl orc rs r)):Pure P gl f as r:=by
 have aq2:post P gl orc rs r=wJ P gl orc rs fun x m'=>bF m' 6 x=r:=by
  funext ex s;cases ex<;>rfl
 rw[aq2]at h;exact Ft (XI hc orc h)
end
end Go.Abs
