import Derived.Test.YtnopaopphmjnmaaGreatDoorMEMD
import Derived.RangeFuncNested
set_option linter.all false
namespace Go.Abs
open Go Go.RowKit
def Vt(o:Oper):List Nat:=(o.after.toList.filter fun e=>Region.binds .any e).map (·.on)
def wz(ops:Array Oper)(i j:Nat):Bool:=
 match ops[i]? with
 |some o=>(Vt o).contains j
 |none=>false
def CK(ops:Array Oper)(i:Nat):Bool:=(List.range i).all fun j=>(List.range (i-j)).any fun d=>wz ops (i-d) j
def wA(ops:Array Oper):Nat->Nat
 |0=>0
 |k+1=>if CK ops k then wA ops k else k+1
def jk(ops:Array Oper):Nat:=wA ops ops.size
def Ye(ops:Array Oper)(i:Nat):Option Nat:=(ops[i]?).bind (·.dst)
def wB(ops:Array Oper)(p:Nat):Bool:=
 decide (p<=ops.size)&&(List.range ops.size).all fun i=>
  match ops[i]? with
  |none=>false
  |some o=>(Vt o).all (fun j=>decide (j<i))&&
   (
    if i<p then
    ((o.looksAt ops).all fun t=>(List.range p).all fun j=>!(Ye ops j==some t)||j==i||(decide (j<i)&&(Vt o).contains j))&&
    ((List.range i).all fun j=>(Ye ops j).isNone||!(Ye ops j==o.dst))
   else CK ops i)
section
variable (P:Program) (gl:Nat->AV) (orc:Nat->FuncId->List AV->AV)
def dop(o:SO)(T:List AV)(m:AM)(nb:List (List AV)):Prop×AV×List (List AV):=
 match o.guard with
 |none=>match o.op with
  |.alloc zs=>(zs.all Qv=true,.ptr (m.boxes.length+nb.length) 0,nb++[zs])
  |.box x=>(bare (ev gl T x)=true/\(cellsOf (ev gl T x)).all Qv=true,.ptr (m.boxes.length+nb.length) 0,nb++[cellsOf (ev gl T x)])
  |.mks sz bytes zs l c=>(match ev gl T l,ev gl T c with
   |.int _ l,.int _ c=>((0<=l/\l<=c/\bytes*c<=281474976710656/\c<=9223372036854775807)/\zs.length=sz/\zs.all Qv=true,.bs (m.boxes.length+nb.length) 0 l.toNat sz,nb++[bG c.toNat zs])
   |_,_=>(False,.junk,nb))
  |op=>((rop P gl orc (ev gl T) m o.dst op).1,(rop P gl orc (ev gl T) m o.dst op).2,nb)
 |some (some t,want)=>match IF want (T.getD t .junk)with
  |some gw=>(gok gl T gw (gxs o.op o.xs)/\(gw=true->(rop P gl orc (evG gl T o.op) m o.dst o.op).1),.gd gw (rop P gl orc (evG gl T o.op) m o.dst o.op).2,nb)
  |none=>(False,.junk,nb)
 |some (none,_)=>(False,.junk,nb)
def vcD(Y:YT)(l2:List SO)(K:AS->Prop):List SO->List AV->AM->List (List AV)->Prop
 |[],T,m,nb=>Zx P gl orc Y l2 ⟨T,{m with boxes:=m.boxes++nb}⟩ K
 |o::r,T,m,nb=>(dop P gl orc o T m nb).1/\vcD Y l2 K r (put T o.dst (dop P gl orc o T m nb).2.1) m (dop P gl orc o T m nb).2.2
def Xg(ops:Array Oper)(T0:List AV)(m:AM):Nat->List AV×List (List AV)
 |0=>(T0,[])
 |k+1=>match ops[k]? with
  |some o=>(put (Xg ops T0 m k).1 o.dst (dop P gl orc (Xf P ops o) (Xg ops T0 m k).1 m (Xg ops T0 m k).2).2.1,(dop P gl orc (Xf P ops o) (Xg ops T0 m k).1 m (Xg ops T0 m k).2).2.2)
  |none=>Xg ops T0 m k
end
section
variable {N:Nat} {w0:iy} {r:Option Nat} {aq:Nat->Nat->Prop} {S:G×World} {Y:YT} {P:Program} {gl:Nat->AV} {orc:Nat->FuncId->List AV->AV} {ops:Array Oper} {T0:List AV} {m:AM} {p:Nat}
def Wj{k:Nat}{o:Oper}(h:ops[k]?=some o):Xg P gl orc ops T0 m (k+1)=
  (put (Xg P gl orc ops T0 m k).1 o.dst (dop P gl orc (Xf P ops o) (Xg P gl orc ops T0 m k).1 m (Xg P gl orc ops T0 m k).2).2.1,(dop P gl orc (Xf P ops o) (Xg P gl orc ops T0 m k).1 m (Xg P gl orc ops T0 m k).2).2.2):=by
 simp only[Xg,h]
def N7(l2:List SO)(K:AS->Prop)(hp:p<=ops.size):∀(n k:Nat),k+n=p->vcD P gl orc Y l2 K (((ops.toList.take p).drop k).map (Xf P ops)) (Xg P gl orc ops T0 m k).1 m (Xg P gl orc ops T0 m k).2->
  (∀i o,k<=i->i<p->ops[i]?=some o->(dop P gl orc (Xf P ops o) (Xg P gl orc ops T0 m i).1 m (Xg P gl orc ops T0 m i).2).1)/\
  Zx P gl orc Y l2 ⟨(Xg P gl orc ops T0 m p).1,{m with boxes:=m.boxes++(Xg P gl orc ops T0 m p).2}⟩ K
 |0,k,hk,h=>by
  obtain rfl:k=p:=by omega
  have:(ops.toList.take k).drop k=[]:=zzal (by simp;omega);rw[this]at h;exact⟨fun i o h1 h2=>by omega,h⟩
 |n+1,k,hk,h=>by
  have ai:k<ops.size:=by omega
  have ho:ops[k]?=some ops[k]:=zzai ai
  have hd:(ops.toList.take p).drop k=ops[k]::(ops.toList.take p).drop (k+1):=by
   rw[zzaf (by simp;omega)];simp
  rw[hd,zzay]at h;obtain⟨h1,h2⟩:=h;have Fc:=Wj (P:=P) (gl:=gl) (orc:=orc) (T0:=T0) (m:=m) ho;have:=N7 l2 K hp n (k+1) (by omega) (by rw[Fc];exact h2);refine⟨fun i o hi ey CL=>?_,this.2⟩;rcases zzaa k i with fH|fH
  ·exact this.1 i o fH ey CL
  obtain rfl:i=k:=by omega
  rw[ho]at CL;cases CL;exact h1
def wC(T:List AV)(d:Option Nat)(x:AV):(put T d x).length=T.length:=by cases d<;>simp[put]
def jm:∀k,(Xg P gl orc ops T0 m k).1.length=T0.length
 |0=>rfl
 |k+1=>by
  cases h:ops[k]? with
  |none=>simp only[Xg,h];exact jm k
  |some o=>rw[Wj h,wC];exact jm k
def Qci{T:List AV}{d:Option Nat}{x:AV}{t:Nat}(h:d≠some t):(put T d x).getD t .junk=T.getD t .junk:=by
 cases d with
 |none=>rfl
 |some d=>simp only[put,List.getD];rw[zzbe (by rintro rfl;exact h rfl)]
def Ws{T:List AV}{t:Nat}{x:AV}(h:t<T.length):(put T (some t) x).getD t .junk=x:=by
 simp[put,List.getD,h]
def Qem{t:Nat}:∀k,(∀j,j<k->Ye ops j≠some t)->(Xg P gl orc ops T0 m k).1.getD t .junk=T0.getD t .junk
 |0,_=>rfl
 |k+1,h=>by
  cases ho:ops[k]? with
  |none=>simp only[Xg,ho];exact Qem k fun j hj=>h j (by omega)
  |some o=>
   rw[Wj ho,Qci (by have:=h k (by omega);simpa[Ye,ho]using this)];exact Qem k fun j hj=>h j (by omega)
def kY{t k:Nat}:∀n,(∀j,k<=j->j<k+n->Ye ops j≠some t)->(Xg P gl orc ops T0 m (k+n)).1.getD t .junk=(Xg P gl orc ops T0 m k).1.getD t .junk
 |0,_=>rfl
 |n+1,h=>by
  rw[<- zzam];cases ho:ops[k+n]? with
  |none=>simp only[Xg,ho];exact kY n fun j h1 h2=>h j h1 (by omega)
  |some o=>
   rw[Wj ho,Qci (by have:=h (k+n) (by omega) (by omega);simpa[Ye,ho]using this)];exact kY n fun j h1 h2=>h j h1 (by omega)
def alJ{o:Oper}{T:List AV}{nb:List (List AV)}:
  ((dop P gl orc (Xf P ops o) T m nb).2.2=nb)\/(∃cells,(dop P gl orc (Xf P ops o) T m nb).2.2=nb++[cells]):=by
 unfold dop;split
 ·split
  ·exact .inr ⟨_,rfl⟩
  ·exact .inr ⟨_,rfl⟩
  ·split
   ·exact .inr ⟨_,rfl⟩
   exact .inl rfl
  exact .inl rfl
 ·split
  ·exact .inl rfl
  exact .inl rfl
 exact .inl rfl
def kZ(P:Program)(gl:Nat->AV)(orc:Nat->FuncId->List AV->AV)(ops:Array Oper)(T0:List AV)(m:AM)(k:Nat):Nat:=(Xg P gl orc ops T0 m k).2.length
def N8(k:Nat):(Xg P gl orc ops T0 m (k+1)).2=(Xg P gl orc ops T0 m k).2\/∃cells,(Xg P gl orc ops T0 m (k+1)).2=(Xg P gl orc ops T0 m k).2++[cells]:=by
 cases ho:ops[k]? with
 |none=>exact .inl (by simp only[Xg,ho])
 |some o=>rw[Wj ho];exact alJ
def Fe(k:Nat):kZ P gl orc ops T0 m (k+1)=kZ P gl orc ops T0 m k\/kZ P gl orc ops T0 m (k+1)=kZ P gl orc ops T0 m k+1:=by
 unfold kZ;rcases N8 (P:=P) (gl:=gl) (orc:=orc) (ops:=ops) (T0:=T0) (m:=m) k with h|⟨c,h⟩
 ·rw[h];exact .inl rfl
 rw[h];exact .inr (by simp)
def Ff{j:Nat}:∀n,kZ P gl orc ops T0 m j<=kZ P gl orc ops T0 m (j+n)
 |0=>zzab _
 |n+1=>by
  have:=Ff (j:=j) n;rcases Fe (P:=P) (gl:=gl) (orc:=orc) (ops:=ops) (T0:=T0) (m:=m) (j+n)with h|h<;>rw[<- zzam]<;>omega
def WR{i j:Nat}(h:i<=j):kZ P gl orc ops T0 m i<=kZ P gl orc ops T0 m j:=by
 have:=Ff (P:=P) (gl:=gl) (orc:=orc) (ops:=ops) (T0:=T0) (m:=m) (j:=i) (j-i);rwa [show i+(j-i)=j by omega]at this
def WS{i:Nat}:∀n{q:Nat}{c:List AV},(Xg P gl orc ops T0 m i).2[q]?=some c->(Xg P gl orc ops T0 m (i+n)).2[q]?=some c
 |0,_,_,h=>h
 |n+1,q,c,h=>by
  have ih:=WS n h;rw[<- zzam];rcases N8 (P:=P) (gl:=gl) (orc:=orc) (ops:=ops) (T0:=T0) (m:=m) (i+n)with e|⟨c',e⟩
  ·rw[e];exact ih
  rw[e,zzag (zza.1 ih).1];exact ih
def IG(P:Program)(gl:Nat->AV)(orc:Nat->FuncId->List AV->AV)(ops:Array Oper)(T0:List AV)(m:AM)(i:Nat):Bool:=kZ P gl orc ops T0 m (i+1)==kZ P gl orc ops T0 m i+1
def Fh{q:Nat}:∀k,q<kZ P gl orc ops T0 m k->∃i,i<k/\IG P gl orc ops T0 m i=true/\kZ P gl orc ops T0 m i=q
 |0,h=>by simp[kZ,Xg]at h
 |k+1,h=>by
  rcases zzaa q (kZ P gl orc ops T0 m k)with h'|h'
  ·obtain⟨i,h1,h2,h3⟩:=Fh k h';exact⟨i,by omega,h2,h3⟩
  rcases Fe (P:=P) (gl:=gl) (orc:=orc) (ops:=ops) (T0:=T0) (m:=m) k with e|e
  ·omega
  exact⟨k,by omega,by simp[IG,e],by omega⟩
def AO(P:Program)(gl:Nat->AV)(orc:Nat->FuncId->List AV->AV)(ops:Array Oper)(T0:List AV)(m:AM)(p:Nat)(listed:Array Bool)(id:Nat):Option (List AV):=
 if id<m.boxes.length then m.boxes[id]?
 else if(List.range p).any fun i=>listed.getD i false&&(IG P gl orc ops T0 m i&&decide (m.boxes.length+kZ P gl orc ops T0 m i=id))then(Xg P gl orc ops T0 m p).2[id-m.boxes.length]? else none
def wr(ops:Array Oper)(p:Nat)(listed:Array Bool)(t:Nat):Bool:=(List.range p).any fun i=>listed.getD i false&&(Ye ops i==some t)
def At(P:Program)(gl:Nat->AV)(orc:Nat->FuncId->List AV->AV)(ops:Array Oper)(T0:List AV)(m:AM)(p:Nat)(listed:Array Bool)(t:Nat):AV:=
 if wr ops p listed t then(Xg P gl orc ops T0 m p).1.getD t .junk else T0.getD t .junk
structure Q3 (N:Nat) (w0:iy) (r:Option Nat) (aq:Nat->Nat->Prop) (S:G×World) (Y:YT) (P:Program) (gl:Nat->AV) (orc:Nat->FuncId->List AV->AV) (ops:Array Oper) (T0:List AV) (m:AM) (p:Nat) (listed:Array Bool) (γ:G) (w:World) (a:Act):Prop where
 size:listed.size=ops.size
 tail:∀i,p<=i->i<ops.size->listed.getD i true=false
 clo:∀i o,listed.getD i false=true->ops[i]?=some o->∀j∈Vt o,listed.getD j false=true
 mm:au N w0 aq γ w (AO P gl orc ops T0 m p listed) m.L
 ls:cW γ w m
 rd:Rdr r γ w
 tl:a.tmps.size=T0.length
 tt:∀t,aB w γ (At P gl orc ops T0 m p listed t) (a.tmps.getD t undef)
 d:Dfr S.2.heap.size γ w a.defers
 g:∀g,aB w γ.dg (gl g) (.pointer (some ⟨g,0,none⟩))
 y:YOK N w0 aq P Y γ w
 e:eM S.2 S.1 w γ
def Zz{listed:Array Bool}{i:Nat}{b:Bool}(h:i<listed.size):(listed.setIfInBounds i true).getD i b=true:=by
 simp[h]
def Qx{listed:Array Bool}{i j:Nat}{b:Bool}(h:j≠i):(listed.setIfInBounds i true).getD j b=listed.getD j b:=by
 simp[zzdf (Ne.symm h)]
def aeC{listed:Array Bool}{id:Nat}{cells:List AV}(h:m.boxes[id]?=some cells):AO P gl orc ops T0 m p listed id=some cells:=by
 unfold AO;rw[if_pos (zza.1 h).1];exact h
def WT{listed:Array Bool}{i:Nat}(hn:IG P gl orc ops T0 m i=false):AO P gl orc ops T0 m p (listed.setIfInBounds i true)=AO P gl orc ops T0 m p listed:=by
 funext id;unfold AO;congr 1
 have:((List.range p).any fun j=>(listed.setIfInBounds i true).getD j false&&(IG P gl orc ops T0 m j&&decide (m.boxes.length+kZ P gl orc ops T0 m j=id)))=
   ((List.range p).any fun j=>listed.getD j false&&(IG P gl orc ops T0 m j&&decide (m.boxes.length+kZ P gl orc ops T0 m j=id))):=by
  congr 1;funext j;by_cases hj:j=i
  ·subst hj;simp[hn]
  rw[Qx hj]
 rw[this]
def aeD{i j:Nat}(hi:IG P gl orc ops T0 m i=true)(hj:IG P gl orc ops T0 m j=true)(h:kZ P gl orc ops T0 m i=kZ P gl orc ops T0 m j):i=j:=by
 simp only[IG,beq_iff_eq]at hi hj;rcases zzeo i j with h'|h'|h'
 ·have:=WR (P:=P) (gl:=gl) (orc:=orc) (ops:=ops) (T0:=T0) (m:=m) (i:=i+1) (j:=j) h';omega
 ·exact h'
 have:=WR (P:=P) (gl:=gl) (orc:=orc) (ops:=ops) (T0:=T0) (m:=m) (i:=j+1) (j:=i) h';omega
def AP{listed:Array Bool}{i:Nat}(hn:IG P gl orc ops T0 m i=true)(hl:listed.getD i false=false):AO P gl orc ops T0 m p listed (m.boxes.length+kZ P gl orc ops T0 m i)=none:=by
 unfold AO;rw[if_neg (by omega),if_neg];intro h;obtain⟨j,_,h⟩:=zzbx.1 h;simp only[zzak,decide_eq_true_eq]at h;obtain⟨h1,h2,h3⟩:=h;have:=aeD h2 hn (by omega);subst this;rw[hl]at h1;cases h1
def N9{listed:Array Bool}{i:Nat}{cells:List AV}(ey:i<p)(hsz:i<listed.size)(hn:IG P gl orc ops T0 m i=true)(hc:(Xg P gl orc ops T0 m p).2[kZ P gl orc ops T0 m i]?=some cells):
  AO P gl orc ops T0 m p (listed.setIfInBounds i true)=fun id=>if id=m.boxes.length+kZ P gl orc ops T0 m i then some cells else AO P gl orc ops T0 m p listed id:=by
 funext id;by_cases aN:id=m.boxes.length+kZ P gl orc ops T0 m i
 ·rw[if_pos aN];unfold AO;rw[if_neg (by omega),if_pos]
  ·rw[aN,zzds];exact hc
  rw[zzbx];exact⟨i,zzbd.2 ey,by rw[Zz hsz,hn];simp[aN]⟩
 rw[if_neg aN];unfold AO;congr 1
 have:((List.range p).any fun j=>(listed.setIfInBounds i true).getD j false&&(IG P gl orc ops T0 m j&&decide (m.boxes.length+kZ P gl orc ops T0 m j=id)))=
   ((List.range p).any fun j=>listed.getD j false&&(IG P gl orc ops T0 m j&&decide (m.boxes.length+kZ P gl orc ops T0 m j=id))):=by
  congr 1;funext j;by_cases hj:j=i
  ·subst hj;have:decide (m.boxes.length+kZ P gl orc ops T0 m j=id)=false:=by simp;omega
   simp[this]
  rw[Qx hj]
 rw[this]
def aeE{listed:Array Bool}(bP:∀i,i<p->listed.getD i false=true):AO P gl orc ops T0 m p listed=({m with boxes:=m.boxes++(Xg P gl orc ops T0 m p).2}:AM).B:=by
 funext id;unfold AO;simp only[AM.B];split
 ·rename_i h;rw[zzag h]
 rename_i h;rw[zzan (by omega)];split
 ·rfl
 rename_i hn;rcases zzaa (id-m.boxes.length) (Xg P gl orc ops T0 m p).2.length with hq|hq
 ·obtain⟨i,h1,h2,h3⟩:=Fh (P:=P) (gl:=gl) (orc:=orc) (ops:=ops) (T0:=T0) (m:=m) (q:=id-m.boxes.length) p hq;exfalso;apply hn;rw[zzbx];exact⟨i,zzbd.2 h1,by rw[bP i h1,h2];simp;omega⟩
 rw[zzau hq]
def AQ{α:Type}{f g:α->Bool}:∀{l:List α}{x:α},(∀y,f y=true->g y=true)->x∈l->g x=true->f x=false->l.countP f<l.countP g
 |y::l,x,hfg,hx,hg,hf=>by
  have bZ:l.countP f<=l.countP g:=List.countP_mono_left fun y _=>hfg y;rw[List.countP_cons,List.countP_cons];rcases zzaw.1 hx with rfl|hx
  ·rw[hg,hf];simp;omega
  have:=AQ hfg hx hg hf;by_cases h1:f y=true
  ·rw[h1,hfg y h1];simp;omega
  have oP:f y=false:=by simpa using h1
  rw[oP];simp only[zzbq,if_false,zzco];exact zzbb this (zzgr _ _)
def uc(ops:Array Oper)(listed:Array Bool):Nat:=(List.range ops.size).countP fun i=>!listed.getD i true
def wD{listed:Array Bool}{i:Nat}(hsz:listed.size=ops.size)(hi:i<ops.size)(hl:listed.getD i true=false):uc ops (listed.setIfInBounds i true)<uc ops listed:=by
 unfold uc;refine AQ (x:=i) (fun j hj=>?_) (zzbd.2 hi) (by rw[hl];rfl) (by rw[Zz (by omega)];rfl);by_cases Au:j=i
 ·subst Au;rw[hl];rfl
 rw[Qx Au]at hj;exact hj
def oU{listed:Array Bool}(h:uc ops listed=0){i:Nat}(hi:i<ops.size):listed.getD i true=true:=by
 unfold uc at h;have:=List.countP_eq_zero.1 h i (zzbd.2 hi);simpa using this
def Xn{listed:Array Bool}{i:Nat}(hi:i<listed.size)(b b':Bool):listed.getD i b=listed.getD i b':=by simp[hi]
def Zh(h:wB ops p=true):p<=ops.size/\∀i o,ops[i]?=some o->(∀j∈Vt o,j<i)/\
  (i<p->(∀t∈o.looksAt ops,∀j,j<p->Ye ops j=some t->j≠i->j<i/\j∈Vt o)/\(∀j,j<i->∀t,Ye ops j=some t->o.dst≠some t))/\
  (p<=i->CK ops i=true):=by
 unfold wB at h;simp only[zzak,decide_eq_true_eq,zzbh]at h;obtain⟨hp,h⟩:=h;refine⟨hp,fun i o ho=>?_⟩;have hi:i<ops.size:=(zzbw.1 ho).1;have:=h i (zzbd.2 hi);simp only[ho,zzak,zzbh,decide_eq_true_eq]at this;obtain⟨h1,h2⟩:=this;refine⟨h1,fun ey=>?_,fun ey=>?_⟩
 ·rw[if_pos ey]at h2;simp only[zzak,zzbh]at h2;obtain⟨h3,h4⟩:=h2;refine⟨fun t ht j hj hd aK=>?_,fun j hj t hd dz=>?_⟩
  ·have:=h3 t ht j (zzbd.2 hj);simp[hd,aK]at this;exact⟨this.1,this.2⟩
  have:=h4 j (zzbd.2 hj);simp[hd,dz]at this
 rw[if_neg (by omega)]at h2;exact h2
def Q4(ops:Array Oper)(listed:Array Bool):Prop:=∀i o,listed.getD i false=true->ops[i]?=some o->∀j∈Vt o,listed.getD j false=true
def Q4.set{listed:Array Bool}(h:Q4 ops listed){i:Nat}{o:Oper}(ho:ops[i]?=some o)(hsz:i<listed.size)(cO:∀j∈Vt o,listed.getD j false=true):Q4 ops (listed.setIfInBounds i true):=by
 have ajm:∀k,listed.getD k false=true->(listed.setIfInBounds i true).getD k false=true:=fun k hk=>by
  by_cases qV:i=k
  ·subst qV;exact Zz hsz
  rw[Qx (Ne.symm qV)];exact hk
 intro k o' hk dz j hj;by_cases qV:i=k
 ·subst qV;rw[ho]at dz;cases dz;exact ajm j (cO j hj)
 rw[Qx (Ne.symm qV)]at hk;exact ajm j (h k o' hk dz j hj)
def jo{listed:Array Bool}(KE:Q4 ops listed){i:Nat}{o:Oper}(ho:ops[i]?=some o)(ht:CK ops i=true)(cO:∀j∈Vt o,listed.getD j false=true):∀(n j:Nat),j<i->i-j<=n->listed.getD j false=true
 |0,j,h1,h2=>by omega
 |n+1,j,h1,h2=>by
  obtain⟨d,hd,hw⟩:=zzbx.1 (zzbh.1 ht j (zzbd.2 h1));have hdl:=zzbd.1 hd;unfold wz at hw;split at hw
  ·rename_i o' dz;have hm:j∈Vt o':=by simpa using hw
   by_cases h0:d=0
   ·subst h0;rw[zzfg,ho]at dz;cases dz;exact cO j hm
   exact KE (i-d) o' (jo KE ho ht cO n (i-d) (by omega) (by omega)) dz j hm
  cases hw
def nF{o:Oper}{j:Nat}:j∈Vt o<->∃e∈o.after,Region.binds .any e=true/\e.on=j:=by
 simp[Vt];constructor
 ·rintro⟨e,⟨h1,h2⟩,rfl⟩;exact⟨e,h1,h2,rfl⟩
 rintro⟨e,h1,h2,rfl⟩;exact⟨e,⟨h1,h2⟩,rfl⟩
def Ww(hc:wB ops p=true){listed:Array Bool}(hsz:listed.size=ops.size):∀(n i:Nat),i<=n->i<ops.size->listed.getD i true=false->∃j,j∈Region.ready .any ops listed
 |0,i,bJ,hi,hl=>by
  obtain rfl:i=0:=by omega
  have ho:ops[0]?=some ops[0]:=zzai hi;refine⟨0,mem_ready.2 ⟨hl,ops[0],ho,fun e he hb=>?_⟩⟩;have:=((Zh hc).2 0 _ ho).1 e.on (nF.2 ⟨e,he,hb,rfl⟩);omega
 |n+1,i,bJ,hi,hl=>by
  by_cases hex:∃j,j<i/\listed.getD j true=false
  ·obtain⟨j,hj,KF⟩:=hex;exact Ww hc hsz n j (by omega) (by omega) KF
  have ho:ops[i]?=some ops[i]:=zzai hi;refine⟨i,mem_ready.2 ⟨hl,ops[i],ho,fun e he hb=>?_⟩⟩;have ai:=((Zh hc).2 i _ ho).1 e.on (nF.2 ⟨e,he,hb,rfl⟩)
  have:listed.getD e.on true=true:=by
   cases h:listed.getD e.on true with
   |true=>rfl
   |false=>exact absurd ⟨e.on,ai,h⟩ hex
  rw[Xn (by omega) false true];exact this
def Wx(hc:wB ops p=true){listed:Array Bool}{i:Nat}(hr:i∈Region.ready .any ops listed):i<ops.size/\listed.getD i true=false/\∃o,ops[i]?=some o/\∀j∈Vt o,listed.getD j false=true:=by
 obtain⟨h1,o,ho,h2⟩:=mem_ready.1 hr;refine⟨(zzbw.1 ho).1,h1,o,ho,fun j hj=>?_⟩;obtain⟨e,he,hb,rfl⟩:=nF.1 hj;exact h2 e he hb
def nG{Q:Exit->Act->World->Prop}{K:AS->Prop}(hQ:∀γ w s a,K s->eW N w0 r aq S P gl Y γ w s a->Q .normal a w)(hc:wB ops p=true):
  ∀(bz k:Nat)(listed:Array Bool)(γ:G)(w:World)(s:AS)(a:Act),p<=k->k<=ops.size->listed.size=ops.size->(∀j,j<k->listed.getD j false=true)->(∀j,k<=j->j<ops.size->listed.getD j true=false)->
   uc ops listed<=bz->Zx P gl orc Y ((ops.toList.drop k).map (Xf P ops)) s K->eW N w0 r aq S P gl Y γ w s a->wpAnyIn (FW r) 0 P .any ops Q bz listed a w:=by
 intro bz;induction bz with
 |zero=>
  intro k listed γ w s a Fi hk hsz Oa hhi uz h hs
  have D9:k=ops.size:=by
   rcases zzaa k ops.size with h'|h'
   ·have:=oU (zzga.1 uz) h';rw[hhi k (zzab _) h']at this;cases this
   omega
  have hd:ops.toList.drop k=[]:=zzal (by simp;omega);rw[hd]at h;refine⟨?_,hQ γ w s a h hs⟩;rw[List.eq_nil_iff_forall_not_mem];intro i hi;obtain⟨ai,hu,_⟩:=Wx hc hi;have:=oU (zzga.1 uz) ai;rw[hu]at this;cases this
 |succ bz ih=>
  intro k listed γ w s a Fi hk hsz Oa hhi uz h hs;refine⟨fun hr=>?_,fun i hi=>?_⟩
  ·have D9:k=ops.size:=by
    rcases zzaa k ops.size with h'|h'
    ·obtain⟨j,hj⟩:=Ww hc hsz k k (zzab _) h' (hhi k (zzab _) h');rw[hr]at hj;cases hj
    omega
   have hd:ops.toList.drop k=[]:=zzal (by simp;omega);rw[hd]at h;exact hQ γ w s a h hs
  obtain⟨ai,hu,o,ho,cO⟩:=Wx hc hi
  have fH:k<=i:=by
   rcases zzaa i k with h'|h'
   ·have:=Oa i h';rw[Xn (by omega) false true,hu]at this;cases this
   exact h'
  have qV:i=k:=by
   rcases zzaa k i with h'|h'
   ·have KE:Q4 ops listed:=fun x ox hx hox j hj=>by
     have hxk:x<k:=by
      rcases zzaa x k with h1|h1
      ·exact h1
      have hxs:x<ops.size:=(zzbw.1 hox).1;rw[Xn (by omega) false true,hhi x h1 hxs]at hx;cases hx
     have:=((Zh hc).2 x ox hox).1 j hj;exact Oa j (by omega)
    have:=jo KE ho (((Zh hc).2 i o ho).2.2 (by omega)) cO i k h' (by omega);rw[Xn (by omega) false true,hhi k (zzab _) (by omega)]at this;cases this
   omega
  subst qV;refine wpOpIn_mono ?_ (wq ai hs h);rintro a' w' ⟨γ',s',iM,h'⟩;refine ih (i+1) _ γ' w' s' a' (by omega) ai (by simp[hsz]) (fun j hj=>?_) (fun j dU qo=>?_) ?_ h' iM
  ·rcases zzaa j i with h'|h'
   ·rw[Qx (by omega)];exact Oa j h'
   obtain rfl:j=i:=by omega
   exact Zz (by omega)
  ·rw[Qx (by omega)];exact hhi j (by omega) qo
  have:=wD hsz ai hu;omega
def aeF{P:Program}{w:World}{γ:G}{te:TypeId}{zs:List AV}{i:TypeInfo}{z:Value}{n:Nat}(J5:ak w γ zs z.cells.toList)(g5:zs.all Qv=true)(g4:zs.length=i.size):
  cF w γ (bG n zs) (madeCells z.cells (n*i.size)).toList/\∀v∈(madeCells z.cells (n*i.size)).toList,v.oneCell'=true:=by
 have lV:=Uh J5 g5;have E7:z.cells.size=zs.length:=by have:=J5.1;simp at this;omega
 refine⟨⟨by simp[Km,size_madeCells,g4],fun k c v j1 j2=>?_⟩,fun v hv=>?_⟩
 ·obtain⟨q1,q2⟩:=kX j1
  have h0:0<zs.length:=by
   rcases zzcl zs.length with h0|h0
   ·simp[h0]at q1
   exact h0
  have ai:k%zs.length<z.cells.size:=by rw[E7];exact zzea _ h0
  have CB:v=z.cells[k%zs.length]:=by
   simp only[madeCells,zzce,zzgb]at j2;rw[zzai (by simp;rw[<- g4];exact q1)]at j2;simp[E7]at j2;rw[<- j2,getElem!_pos z.cells _ ai]
  subst CB;exact J5.2 _ c _ q2 (by simp[ai])
 simp[madeCells]at hv;obtain⟨k,hk,rfl⟩:=hv
 have h0:0<z.cells.size:=by
  rcases zzcl z.cells.size with h0|h0
  ·rw[h0]at E7;rw[<- g4,<- E7]at hk;simp at hk
  exact h0
 have ai:k%z.cells.size<z.cells.size:=zzea _ h0;rw[getElem!_pos z.cells _ ai];exact lV _ (by simp)
def alK{o:Oper}{sz bytes:Nat}{zs:List AV}{x y:bL}(h:tr P o=.mks sz bytes zs x y):∃t l c te i,o.op=.makeSlice t l c/\x=aA l/\y=aA c/\P.underlying t=some (.slice te)/\P.info? te=some i/\sz=i.size/\bytes=i.bytes/\zc P te=some zs:=by
 obtain⟨dst,op,ty,pos,after,guard⟩:=o;cases op
 case makeSlice t l c=>
  simp only[tr]at h;split at h
  ·rename_i te hu;split at h
   ·split at h<;>cases h
   ·rename_i i hi _;split at h
    ·rename_i zs' hz;cases h;exact⟨t,_,_,te,i,rfl,rfl,rfl,hu,hi,rfl,rfl,hz⟩
    cases h
   cases h
  cases h
 case call c=>
  simp only[tr,Zt]at h;repeat' split at h
  all_goals cases h
 case build t parts=>
  simp only[tr,Wo]at h;repeat' split at h
  all_goals cases h
 case slice t x lo hi mx=>cases mx<;>simp only[tr]at h<;>(repeat' split at h)<;>cases h
 case makeFunc fn a b=>cases fn<;>cases h
 case next x s=>cases s<;>cases h
 case makeMap t r=>cases r<;>simp only[tr]at h<;>(repeat' split at h)<;>cases h
 case binOp op t x y t'=>
  simp only[tr,mD,Qcr,zl]at h;repeat' split at h
  all_goals cases h
 all_goals first|(cases h;done)|(
  simp only[tr]at h;repeat' split at h
  all_goals cases h)
def wE(c:Call)(zs:List AV):Zt P c≠.alloc zs:=by
 intro h;obtain⟨callee,args,ts⟩:=c;cases callee with
 |builtin b=>cases b<;>simp only[Zt]at h<;>(repeat' split at h)<;>cases h
 |_=>cases h
def CM(c:Call)(x:bL):Zt P c≠.box x:=by
 intro h;obtain⟨callee,args,ts⟩:=c;cases callee with
 |builtin b=>cases b<;>simp only[Zt]at h<;>(repeat' split at h)<;>cases h
 |_=>cases h
def WU{o:Oper}{zs:List AV}(h:tr P o=.alloc zs):∃t,o.op=.alloc t/\zc P t=some zs:=by
 obtain⟨dst,op,ty,pos,after,guard⟩:=o;cases op
 case alloc t=>
  simp only[tr]at h;split at h
  ·rename_i zs' hz;cases h;exact⟨t,rfl,hz⟩
  cases h
 case call c=>exact absurd h (wE c zs)
 case build t parts=>
  simp only[tr,Wo]at h;repeat' split at h
  all_goals cases h
 case slice t x lo hi mx=>cases mx<;>simp only[tr]at h<;>(repeat' split at h)<;>cases h
 case makeFunc fn a b=>cases fn<;>cases h
 case next x s=>cases s<;>cases h
 case makeMap t r=>cases r<;>simp only[tr]at h<;>(repeat' split at h)<;>cases h
 case binOp op t x y t'=>
  simp only[tr,mD,Qcr,zl]at h;repeat' split at h
  all_goals cases h
 all_goals first|(cases h;done)|(
  simp only[tr]at h;repeat' split at h
  all_goals cases h)
def alL{o:Oper}{x:bL}(h:tr P o=.box x):∃t y,o.op=.box t y/\x=aA y:=by
 obtain⟨dst,op,ty,pos,after,guard⟩:=o;cases op
 case box t y=>cases h;exact⟨t,y,rfl,rfl⟩
 case call c=>exact absurd h (CM c x)
 case build t parts=>
  simp only[tr,Wo]at h;repeat' split at h
  all_goals cases h
 case slice t x lo hi mx=>cases mx<;>simp only[tr]at h<;>(repeat' split at h)<;>cases h
 case makeFunc fn a b=>cases fn<;>cases h
 case next x s=>cases s<;>cases h
 case makeMap t r=>cases r<;>simp only[tr]at h<;>(repeat' split at h)<;>cases h
 case binOp op t x y t'=>
  simp only[tr,mD,Qcr,zl]at h;repeat' split at h
  all_goals cases h
 all_goals first|(cases h;done)|(
  simp only[tr]at h;repeat' split at h
  all_goals cases h)
def av2(hc:wB ops p=true){listed:Array Bool}(hsz:listed.size=ops.size){i:Nat}{o:Oper}(ho:ops[i]?=some o)(ey:i<p)(hu:listed.getD i true=false)(cO:∀j∈Vt o,listed.getD j false=true)
  {t:Nat}(ht:t∈o.looksAt ops):(Xg P gl orc ops T0 m i).1.getD t .junk=At P gl orc ops T0 m p listed t:=by
 have hi:i<ops.size:=(zzbw.1 ho).1;obtain⟨hp,dm⟩:=Zh hc;unfold At;by_cases hex:∃j,j<p/\Ye ops j=some t/\j≠i
 ·obtain⟨j,hj,hd,aK⟩:=hex;obtain⟨Au,hja⟩:=((dm i o ho).2.1 ey).1 t ht j hj hd aK
  have hw:wr ops p listed t=true:=by
   unfold wr;rw[zzbx];exact⟨j,zzbd.2 hj,by rw[cO j hja,hd];simp⟩
  rw[if_pos hw]
  have:=kY (P:=P) (gl:=gl) (orc:=orc) (ops:=ops) (T0:=T0) (m:=m) (t:=t) (k:=i) (p-i) fun k cQ cV Fj=>by
   have hk:k<ops.size:=by omega
   have Fk:ops[k]?=some ops[k]:=zzai hk;have:=((dm k _ Fk).2.1 (by omega)).2 j (by omega) t hd;simp[Ye,Fk]at Fj;exact this Fj
  rw[show i+(p-i)=p by omega]at this;exact this.symm
 have hw:wr ops p listed t=false:=by
  unfold wr;rw[zzep];intro j hj;simp only[zzak,beq_iff_eq,not_and];intro hl hd;by_cases Au:j=i
  ·subst Au;rw[Xn (by omega) false true,hu]at hl;cases hl
  exact hex ⟨j,zzbd.1 hj,hd,Au⟩
 rw[hw];simp only[zzbq,if_false];exact Qem i fun j hj hd=>hex ⟨j,by omega,hd,by omega⟩
def alN(hc:wB ops p=true){listed:Array Bool}(hsz:listed.size=ops.size){i:Nat}{o:Oper}(ho:ops[i]?=some o)(ey:i<p){t:Nat}:
  At P gl orc ops T0 m p (listed.setIfInBounds i true) t=if o.dst=some t/\t<T0.length then(dop P gl orc (Xf P ops o) (Xg P gl orc ops T0 m i).1 m (Xg P gl orc ops T0 m i).2).2.1 else At P gl orc ops T0 m p listed t:=by
 have hi:i<ops.size:=(zzbw.1 ho).1;obtain⟨hp,dm⟩:=Zh hc;by_cases hd:o.dst=some t
 ·have hw:wr ops p (listed.setIfInBounds i true) t=true:=by
   unfold wr;rw[zzbx];exact⟨i,zzbd.2 ey,by rw[Zz (by omega)];simp[Ye,ho,hd]⟩
  have hl:=kY (P:=P) (gl:=gl) (orc:=orc) (ops:=ops) (T0:=T0) (m:=m) (t:=t) (k:=i+1) (p-(i+1)) fun k cQ cV Fj=>by
   have hk:k<ops.size:=by omega
   have Fk:ops[k]?=some ops[k]:=zzai hk;have:=((dm k _ Fk).2.1 (by omega)).2 i (by omega) t (by simp[Ye,ho,hd]);simp[Ye,Fk]at Fj;exact this Fj
  rw[show i+1+(p-(i+1))=p by omega]at hl;by_cases ht:t<T0.length
  ·rw[if_pos ⟨hd,ht⟩];unfold At;rw[if_pos hw,hl,Wj ho,hd];exact Ws (by rw[jm];exact ht)
  rw[if_neg (by simp[ht])]
  have h1:∀k,(Xg P gl orc ops T0 m k).1.getD t .junk=.junk:=fun k=>by
   have:=jm (P:=P) (gl:=gl) (orc:=orc) (ops:=ops) (T0:=T0) (m:=m) k;simp only[List.getD];rw[zzau (by omega)];rfl
  have h2:T0.getD t .junk=.junk:=h1 0;unfold At;rw[h1 p,h2];simp
 rw[if_neg (by simp[hd])]
 have hw:wr ops p (listed.setIfInBounds i true) t=wr ops p listed t:=by
  unfold wr;congr 1;funext j;by_cases hj:j=i
  ·subst hj;have hb:(o.dst==some t)=false:=by simpa using hd
   simp[Ye,ho,hb]
  rw[Qx hj]
 unfold At;rw[hw]
def KG(hc:wB ops p=true){Q:Exit->Act->World->Prop}{listed:Array Bool}{γ:G}{w:World}{a:Act}(hI:Q3 N w0 r aq S Y P gl orc ops T0 m p listed γ w a){i:Nat}{o:Oper}(ho:ops[i]?=some o)(ey:i<p)
  (hu:listed.getD i true=false)(cO:∀j∈Vt o,listed.getD j false=true)(bS:(dop P gl orc (Xf P ops o) (Xg P gl orc ops T0 m i).1 m (Xg P gl orc ops T0 m i).2).1):
  wpOpIn (FW r) 0 P ops Q i (fun a' w'=>∃γ',Q3 N w0 r aq S Y P gl orc ops T0 m p (listed.setIfInBounds i true) γ' w' a') a w:=by
 have hi:i<ops.size:=(zzbw.1 ho).1
 have zx:∀t∈o.looksAt ops,aB w γ ((Xg P gl orc ops T0 m i).1.getD t .junk) (a.tmps.getD t undef):=fun t ht=>by
  rw[av2 (P:=P) (gl:=gl) (orc:=orc) (T0:=T0) (m:=m) hc hI.size ho ey hu cO ht];exact hI.tt t
 have gq:∀x∈o.op.operands,aB w γ (ev gl (Xg P gl orc ops T0 m i).1 (aA x)) (a.eval x):=fun x hx=>by
  cases x with
  |tmp t=>exact zx t (by simp only[Oper.looksAt,zzao,zzfh];exact .inl ⟨.tmp t,by simpa using hx,rfl⟩)
  |const v=>exact Kb w γ v
  |func f=>exact .fn rfl (fun i c v h=>by simp at h) rfl fun i c v h=>by simp at h
  |global g=>exact(hI.g g).gI
 have hB:∀id cells,m.boxes[id]?=some cells->AO P gl orc ops T0 m p listed id=some cells:=fun id cells h=>aeC h
 have fin:∀{v:Value}{w':World}{γ':G},Ev w γ w' γ'->au N w0 aq γ' w' (AO P gl orc ops T0 m p (listed.setIfInBounds i true)) m.L->
   aB w' γ' (dop P gl orc (Xf P ops o) (Xg P gl orc ops T0 m i).1 m (Xg P gl orc ops T0 m i).2).2.1 v->∃γ',Q3 N w0 r aq S Y P gl orc ops T0 m p (listed.setIfInBounds i true) γ' w' (a.put o.dst v):=fun{v w' γ'}he hm hr=>by
  refine⟨γ',by simp[hI.size],fun j dU qo=>by rw[Qx (by omega)];exact hI.tail j dU qo,Q4.set hI.clo ho (by rw[hI.size];exact hi) cO,hm,hI.ls.mono he,hI.rd.bq he.dJ,?_,fun t=>?_,?_,fun g=>(hI.g g).mono he.dg,hI.y.mono he.dJ,hI.e.trans he.dJ⟩
  ·cases hd:o.dst<;>simp[Act.put,hI.tl]
  ·rw[alN hc hI.size ho ey];by_cases hd:o.dst=some t
   ·by_cases ht:t<T0.length
    ·rw[if_pos ⟨hd,ht⟩,hd];have:(a.put (some t) v).tmps.getD t undef=v:=by simp[Act.put,hI.tl,ht]
     rw[this];exact hr
    rw[if_neg (by simp[ht]),hd];have:(a.put (some t) v).tmps.getD t undef=a.tmps.getD t undef:=by simp[Act.put,hI.tl,ht]
    rw[this];exact(hI.tt t).mono he
   rw[if_neg (by simp[hd])]
   have:(a.put o.dst v).tmps.getD t undef=a.tmps.getD t undef:=by
    cases Cy:o.dst with
    |none=>rfl
    |some d=>simp only[Act.put];simp;rw[zzdf (by rintro rfl;exact hd Cy)]
   rw[this];exact(hI.tt t).mono he
  cases hd:o.dst<;>exact hI.d.bq he.dJ
 have dM:=Wj (P:=P) (gl:=gl) (orc:=orc) (T0:=T0) (m:=m) ho
 have Fl:∀cells,(dop P gl orc (Xf P ops o) (Xg P gl orc ops T0 m i).1 m (Xg P gl orc ops T0 m i).2).2.2=(Xg P gl orc ops T0 m i).2++[cells]->IG P gl orc ops T0 m i=true/\(Xg P gl orc ops T0 m p).2[kZ P gl orc ops T0 m i]?=some cells:=fun cells h=>by
  refine⟨by simp only[IG,kZ,dM,h];simp,?_⟩;have:=WS (P:=P) (gl:=gl) (orc:=orc) (ops:=ops) (T0:=T0) (m:=m) (i:=i+1) (p-(i+1)) (q:=kZ P gl orc ops T0 m i) (c:=cells) (by rw[dM];simp only[h,kZ];simp);rwa [show i+1+(p-(i+1))=p by omega]at this
 have oT:(dop P gl orc (Xf P ops o) (Xg P gl orc ops T0 m i).1 m (Xg P gl orc ops T0 m i).2).2.2=(Xg P gl orc ops T0 m i).2->AO P gl orc ops T0 m p (listed.setIfInBounds i true)=AO P gl orc ops T0 m p listed:=fun h=>
  WT (by simp only[IG,kZ,dM,h];simp)
 have AR:listed.getD i false=false:=by rw[Xn (by rw[hI.size];exact hi) false true];exact hu
 have box:∀{cells:List AV}{arr:Array Value}{te:TypeId},ak w γ cells arr.toList->cells.all Qv=true->
   (dop P gl orc (Xf P ops o) (Xg P gl orc ops T0 m i).1 m (Xg P gl orc ops T0 m i).2).2=(.ptr (m.boxes.length+(Xg P gl orc ops T0 m i).2.length) 0,(Xg P gl orc ops T0 m i).2++[cells])->
   (execOp a.eval o).run P w=.ok (.value (.pointer (some ⟨w.heap.size,0,none⟩))) (w.alloc (.cells arr te))->
   o.wpIn (FW r) 0 P a w (fun a' w'=>∃γ',Q3 N w0 r aq S Y P gl orc ops T0 m p (listed.setIfInBounds i true) γ' w' a') Q:=fun{cells arr te}hr bM hd aZ=>by
  obtain⟨qM,nA⟩:=Fl cells (by rw[hd]);have aN:=AP (p:=p) qM AR;refine Zp aZ (fin (hI.mm.dx _ aN _) ?_ ?_)
  ·rw[N9 ey (by rw[hI.size];exact hi) qM nA];exact hI.mm.fD _ aN hr.toP (Uh hr bM)
  rw[hd];exact .ptr (by simp[G.box,kZ])
 simp only[wpOpIn,ho];cases hg:o.guard with
 |none=>
  have hw:Region.wanted o (yielded ops a.tmps)=true:=by simp[Region.wanted,hg]
  rw[if_pos hw];have e1:(Xf P ops o).guard=none:=by simp[Xf,hg]
  cases WV:tr P o with
  |alloc zs=>
   have hd:dop P gl orc (Xf P ops o) (Xg P gl orc ops T0 m i).1 m (Xg P gl orc ops T0 m i).2=(zs.all Qv=true,.ptr (m.boxes.length+(Xg P gl orc ops T0 m i).2.length) 0,(Xg P gl orc ops T0 m i).2++[zs]):=by
    have e2:(Xf P ops o).op=.alloc zs:=WV;simp only[dop,e1,e2]
   rw[hd]at bS;obtain⟨t,WW,hz⟩:=WU WV;obtain⟨i',z,ee,jg,hr⟩:=qP (w:=w) (γ:=γ) hz;refine box (te:=t) hr bS (by rw[hd]) ?_;obtain⟨d',op',ty',aqO,af',gu'⟩:=o;simp only at WW;subst WW;simp[execOp,Instr.alloc,zeroValue,typeInfo,ee,jg,newVar,newRow]
  |box x=>
   have hd:dop P gl orc (Xf P ops o) (Xg P gl orc ops T0 m i).1 m (Xg P gl orc ops T0 m i).2=(bare (ev gl (Xg P gl orc ops T0 m i).1 x)=true/\(cellsOf (ev gl (Xg P gl orc ops T0 m i).1 x)).all Qv=true,
     .ptr (m.boxes.length+(Xg P gl orc ops T0 m i).2.length) 0,(Xg P gl orc ops T0 m i).2++[cellsOf (ev gl (Xg P gl orc ops T0 m i).1 x)]):=by
    have e2:(Xf P ops o).op=.box x:=WV;simp only[dop,e1,e2]
   rw[hd]at bS;obtain⟨t,y,WW,rfl⟩:=alL WV;have hry:=gq y (by rw[WW];simp[Op.operands]);refine box (te:=t) (kV hry bS.1) bS.2 (by rw[hd]) ?_;obtain⟨d',op',ty',aqO,af',gu'⟩:=o;simp only at WW;subst WW;simp[execOp,Instr.box,newVar,newRow]
  |mks sz bytes zs x y=>
   obtain⟨t,l,c,te,i',WW,rfl,rfl,hu,ee,rfl,rfl,Cv⟩:=alK WV;have e2:(Xf P ops o).op=.mks i'.size i'.bytes zs (aA l) (aA c):=WV;simp only[dop,e1,e2]at bS Fl;have hl:=gq l (by rw[WW];simp[Op.operands]);have hc:=gq c (by rw[WW];simp[Op.operands]);split at bS
   case h_2=>exact bS.elim
   rename_i k1 n1 k2 n2 q1 q2;rw[q1]at hl;rw[q2]at hc;obtain⟨⟨g0,g1,g2,g3⟩,g4,g5⟩:=bS;obtain⟨i2,z,hi2,hz,J5⟩:=qP (w:=w) (γ:=γ) Cv;rw[ee]at hi2;cases hi2
   have hd:dop P gl orc (Xf P ops o) (Xg P gl orc ops T0 m i).1 m (Xg P gl orc ops T0 m i).2=((0<=n1/\n1<=n2/\i'.bytes*n2<=281474976710656/\n2<=9223372036854775807)/\zs.length=i'.size/\zs.all Qv=true,.bs (m.boxes.length+(Xg P gl orc ops T0 m i).2.length) 0 n1.toNat i'.size,(Xg P gl orc ops T0 m i).2++[bG n2.toNat zs]):=by
    simp only[dop,e1,e2,q1,q2]
   have aZ:=run_make (P:=P) w t te i' z hu ee hz k1 k2 n1 n2 g0 (by omega) g2 g3;obtain⟨ze,iz⟩:=aeF (P:=P) (te:=te) (n:=n2.toNat) J5 g5 g4;obtain⟨qM,nA⟩:=Fl (bG n2.toNat zs) (by simp only[q1,q2]);have aN:=AP (p:=p) qM AR
   have aqP:(execOp a.eval o).run P w=.ok (.value (.slice (some ⟨w.heap.size,0,none⟩) n1.toNat n2.toNat)) (w.alloc (.cells (madeCells z.cells (n2.toNat*i'.size)) te)):=by
    obtain⟨d',op',ty',aqO,af',gu'⟩:=o;simp only at WW;subst WW;simp[execOp,hl.aG,hc.aG,aZ]
   refine Zp aqP (fin (hI.mm.dx _ aN _) ?_ ?_)
   ·rw[N9 ey (by rw[hI.size];exact hi) qM nA];exact hI.mm.fD _ aN ze iz
   rw[hd];exact .bs (arr:=madeCells z.cells (n2.toNat*i'.size)) (e:=te) (by simp[G.box,kZ]) (by omega) (by show(w.heap.push _)[w.heap.size]?=_;simp) (by rw[zzbu,size_madeCells];exact zzab _)
  |_=>
   have hd:dop P gl orc (Xf P ops o) (Xg P gl orc ops T0 m i).1 m (Xg P gl orc ops T0 m i).2=((rop P gl orc (ev gl (Xg P gl orc ops T0 m i).1) m o.dst (tr P o)).1,(rop P gl orc (ev gl (Xg P gl orc ops T0 m i).1) m o.dst (tr P o)).2,(Xg P gl orc ops T0 m i).2):=by
    have e2:(Xf P ops o).op=tr P o:=rfl;rw[WV]at e2;simp only[dop,e1,e2,WV];rfl
   rw[hd]at bS;have tT:=oT (by rw[hd]);rw[hd,tT]at fin;exact Qde hI.mm hB hI.g gq bS r _ Q fun v w' γ' h1 h2 h3=>fin h1 h2 h3
 |some q=>
  obtain⟨j,want⟩:=q;have e1:(Xf P ops o).guard=some ((ops[j]?).bind (·.dst),want):=by simp[Xf,hg]
  cases hj:(ops[j]?).bind (·.dst)with
  |none=>
   rw[hj]at e1;simp only[dop,e1]at bS
  |some t=>
   rw[hj]at e1;have mH:t∈o.looksAt ops:=by simp[Oper.looksAt,hg,hj]
   have aS:=zx t mH;cases tQ:IF want ((Xg P gl orc ops T0 m i).1.getD t .junk)with
   |none=>simp only[dop,e1,tQ]at bS
   |some gw=>
    have hd:dop P gl orc (Xf P ops o) (Xg P gl orc ops T0 m i).1 m (Xg P gl orc ops T0 m i).2=(gok gl (Xg P gl orc ops T0 m i).1 gw (gxs (tr P o) (Xf P ops o).xs)/\(gw=true->(rop P gl orc (evG gl (Xg P gl orc ops T0 m i).1 (tr P o)) m o.dst (tr P o)).1),
      .gd gw (rop P gl orc (evG gl (Xg P gl orc ops T0 m i).1 (tr P o)) m o.dst (tr P o)).2,(Xg P gl orc ops T0 m i).2):=by
     simp only[dop,e1,tQ];rfl
    rw[hd]at bS;have tT:=oT (by rw[hd]);rw[hd,tT]at fin
    have WO:Region.wanted o (yielded ops a.tmps)=gw:=by
     have hyv:∀b,a.tmps.getD t undef=.bool b->yielded ops a.tmps j=some b:=fun b hb=>by
      have cB:t<a.tmps.size:=by
       rcases zzaa t a.tmps.size with h|h
       ·exact h
       simp[zzcv h,undef]at hb
      simp[cB]at hb;simp only[yielded,hj,zzcu,zzai cB,hb]
     have hyu:a.tmps.getD t undef=undef->yielded ops a.tmps j=none:=fun hb=>by
      rcases zzaa t a.tmps.size with cB|h
      ·simp[cB]at hb;simp only[yielded,hj,zzcu,zzai cB,hb];rfl
      simp only[yielded,hj,zzcu,zzcv h]
     generalize(Xg P gl orc ops T0 m i).1.getD t .junk=gv at tQ aS;cases gv with
     |bool g=>
      simp only[IF,Option.some.injEq]at tQ;subst tQ;simp only[Region.wanted,hg,hyv g aS.bA];cases g<;>cases want<;>rfl
     |gd d x=>
      cases d with
      |false=>
       simp only[Region.wanted,hg,hyu aS.N0];cases x<;>simp[IF]at tQ<;>subst tQ<;>cases want<;>rfl
      |true=>
       cases x<;>simp[IF]at tQ;rename_i b;subst tQ;simp only[Region.wanted,hg,hyv b (aS.Cs rfl).bA];cases b<;>cases want<;>rfl
     |_=>simp[IF]at tQ
    rw[WO];obtain⟨h1,h2⟩:=bS;cases Tc:gw with
    |true=>
     rw[Tc]at h1 h2 fin;simp only[if_true];refine Qde (e:=evG gl (Xg P gl orc ops T0 m i).1 (tr P o)) hI.mm hB hI.g (fun x hx=>?_) (h2 rfl) r _ Q fun v w' γ' q1 q2 q3=>fin q1 q2 (.gd (fun _=>q3) (fun h=>by cases h));unfold evG;cases fq:rawOp (tr P o)with
     |true=>exact gq x hx
     |false=>
      refine AN (gq x hx) fun g' b hgb=>CJ h1 (aA x) ?_ g' b hgb rfl;simp only[gxs,fq,cond_false];simp[Xf,hg];exact⟨x,by simpa using hx,rfl⟩
    |false=>
     rw[Tc]at fin;simp only[zzbq,if_false];exact⟨fun _ _=>trivial,fin (Ev.refl _ _) hI.mm (.gd (fun h=>by cases h) (fun _=>rfl))⟩
def Fm{Q:Exit->Act->World->Prop}{K:AS->Prop}(hQ:∀γ w s a,K s->eW N w0 r aq S P gl Y γ w s a->Q .normal a w)(hc:wB ops p=true)
  (alO:∀i o,i<p->ops[i]?=some o->(dop P gl orc (Xf P ops o) (Xg P gl orc ops T0 m i).1 m (Xg P gl orc ops T0 m i).2).1)
  (gU:Zx P gl orc Y ((ops.toList.drop p).map (Xf P ops)) ⟨(Xg P gl orc ops T0 m p).1,{m with boxes:=m.boxes++(Xg P gl orc ops T0 m p).2}⟩ K):
  ∀(bz:Nat)(listed:Array Bool)(γ:G)(w:World)(a:Act),Q3 N w0 r aq S Y P gl orc ops T0 m p listed γ w a->uc ops listed<=bz->wpAnyIn (FW r) 0 P .any ops Q bz listed a w:=by
 obtain⟨hp,dm⟩:=Zh hc
 have full:∀(bz:Nat)(listed:Array Bool)(γ:G)(w:World)(a:Act),Q3 N w0 r aq S Y P gl orc ops T0 m p listed γ w a->uc ops listed<=bz->(∀i,i<p->listed.getD i false=true)->wpAnyIn (FW r) 0 P .any ops Q bz listed a w:=by
  intro bz listed γ w a hI uz bP;refine nG hQ hc bz p listed γ w _ a (zzab _) hp hI.size bP hI.tail uz gU ⟨?_,hI.ls,hI.rd,⟨?_,fun t x v hx hv=>?_⟩,hI.d,hI.g,hI.y,hI.e⟩
  ·have:=hI.mm;rw[aeE bP]at this;exact this
  ·simp[jm,hI.tl]
  have h1:=hI.tt t
  have hAt:At P gl orc ops T0 m p listed t=x:=by
   have jf:(Xg P gl orc ops T0 m p).1.getD t .junk=x:=by simp only at hx;simp[List.getD,hx]
   unfold At;split
   ·exact jf
   rename_i hw;rw[<- jf];refine(Qem p fun j hj hd=>hw ?_).symm;unfold wr;rw[zzbx];exact⟨j,zzbd.2 hj,by rw[bP j hj,hd];simp⟩
  rw[hAt]at h1;have:a.tmps.getD t undef=v:=by simp at hv;simp[hv]
  rwa [this]at h1
 intro bz;induction bz with
 |zero=>
  intro listed γ w a hI uz
  exact full 0 listed γ w a hI uz fun i hi=>by
   rw[Xn (by rw[hI.size];omega) false true];exact oU (zzga.1 uz) (by omega)
 |succ bz ih=>
  intro listed γ w a hI uz;by_cases bP:∀i,i<p->listed.getD i false=true
  ·exact full (bz+1) listed γ w a hI uz bP
  have hex:∃k,k<p/\listed.getD k true=false:=by
   refine Classical.byContradiction fun hn=>bP fun i hi=>?_;rw[Xn (by rw[hI.size];omega) false true];cases hl:listed.getD i true with
   |true=>rfl
   |false=>exact absurd ⟨i,hi,hl⟩ hn
  obtain⟨k,hk,hlk⟩:=hex;refine⟨fun hr=>?_,fun i hi=>?_⟩
  ·obtain⟨j,hj⟩:=Ww hc hI.size k k (zzab _) (by omega) hlk;rw[hr]at hj;cases hj
  obtain⟨ai,hu,o,ho,cO⟩:=Wx hc hi
  have ey:i<p:=by
   rcases zzaa i p with h|h
   ·exact h
   have:=jo hI.clo ho ((dm i o ho).2.2 h) cO i k (by omega) (by omega);rw[Xn (by rw[hI.size];omega) false true,hlk]at this;cases this
  refine wpOpIn_mono ?_ (KG hc hI ho ey hu cO (alO i o ey ho));rintro a' w' ⟨γ',zy⟩;refine ih _ γ' w' a' zy ?_;have:=wD hI.size ai hu;omega
def wG{Q:Exit->Act->World->Prop}{K:AS->Prop}{γ:G}{w:World}{s:AS}{a:Act}(hQ:∀γ w s a,K s->eW N w0 r aq S P gl Y γ w s a->Q .normal a w)(hc:wB ops p=true)
  (h:vcD P gl orc Y ((ops.toList.drop p).map (Xf P ops)) K ((ops.toList.take p).map (Xf P ops)) s.T s.m [])(hs:eW N w0 r aq S P gl Y γ w s a):
  wpAnyIn (FW r) 0 P .any ops Q ops.size (Array.replicate ops.size false) a {w with drawn:=w.drawn+1}:=by
 have hp:=(Zh hc).1;obtain⟨h1,h2⟩:=N7 (P:=P) (gl:=gl) (orc:=orc) (T0:=s.T) (m:=s.m) ((ops.toList.drop p).map (Xf P ops)) K hp p 0 (by simp) (by rw[zzdb];exact h);refine Fm (T0:=s.T) (m:=s.m) hQ hc (fun i o hi ho=>h1 i o (zzbz _) hi ho) h2 ops.size _ γ w.drew a ⟨by simp,fun i _ hi=>by simp[hi],fun i o h=>(by rcases zzaa i ops.size with h'|h'<;>simp[h']at h),?_,hs.ls.mono (Ev.drew w γ),hs.rd.bq (Ev.drew w γ).dJ,?_,fun t=>?_,hs.d.bq (Ev.drew w γ).dJ,fun g=>(hs.g g).mono (Ev.drew w γ).dg,hs.y.mono (Ev.drew w γ).dJ,hs.e.trans (Ev.drew w γ).dJ⟩ ?_
 ·have hB:AO P gl orc ops s.T s.m p (Array.replicate ops.size false)=s.m.B:=by
   funext id;unfold AO;simp only[AM.B];split
   ·rfl
   rename_i aN;rw[if_neg,zzau (by omega)];rw[zzbx];rintro⟨j,_,hj⟩
   have:(Array.replicate ops.size false).getD j false=false:=by
    rcases zzaa j ops.size with h|h<;>simp[h]
   rw[this]at hj;cases hj
  rw[hB];exact hs.m.drew
 ·have:=hs.t.1;simp at this;omega
 ·have hw:wr ops p (Array.replicate ops.size false) t=false:=by
   unfold wr;rw[zzep];intro j _
   have:(Array.replicate ops.size false).getD j false=false:=by
    rcases zzaa j ops.size with h|h<;>simp[h]
   rw[this];simp
  unfold At;rw[hw];simp only[zzbq,if_false];have:=(hs.t.mono (Ev.drew w γ)).get t;simpa[List.getD]using this
 unfold uc;exact zzbn (zzfn) (by simp)
end
open Go Go.RowKit
def alP(o:Oper):Bool:=o.guard.isNone
def aqQ(f:FuncId):Bool:=f==276||f==198||f==122||f==179||f==23||f==26||f==16||f==17
def ajn(o:Oper):Bool:=match o.op with
 |.call ⟨.value (.tmp _),_,_⟩=>o.dst.isSome
 |.call ⟨.value (.func f),_,_⟩=>o.dst.isSome&&aqQ f
 |.call ⟨.builtin .copy,_,_⟩=>true
 |.call ⟨.builtin .append,_,_⟩=>o.dst.isSome
 |.store _ _ _=>true
 |.mapUpdate _ _ _ _=>true
 |.mapEntry _ _ _=>true
 |.entryStore _ _ _ _=>true
 |_=>false
def AT(o:Oper):Bool:=ajn o||(match o.op with
 |.alloc _|.box _ _|.makeMap _ _|.range _ _=>true
 |_=>false)
def aqR(f:FuncId):Bool:=f==23
def aqS(o:Oper):Bool:=match o.op with
 |.call ⟨.value (.func f),_,_⟩=>aqR f
 |_=>false
def eN(ops:Array Oper)(p:Oper->Bool)(i:Nat):Bool:=match ops[i]? with
 |some o=>p o
 |none=>false
def Q5(ops:Array Oper):List Nat->Bool
 |j::j'::r=>(match ops[j']? with|some o=>(Vt o).contains j|none=>false)&&Q5 ops (j'::r)
 |_=>true
def Qdc(ops:Array Oper)(p:Nat):Option (List Nat):=
 let js:=(List.range p).filter (eN ops AT)
 if(List.range p).any (eN ops ajn)&&Q5 ops js&&((List.range p).all (eN ops alP)||(List.range p).any (eN ops aqS))&&(List.range p).all (fun i=>ops[i]?.isSome)then some js else none
inductive Fg
 |eff
 |pre
 |oth
def Fo(ops:Array Oper):Nat->List Nat->List Nat
 |0,s=>s
 |k+1,s=>bif s.any fun i=>wz ops i k then Fo ops k (k::s)else Fo ops k s
def uA{ops:Array Oper}{listed:Array Bool}(h:Q4 ops listed):∀(k:Nat)(s:List Nat),(∀i∈s,listed.getD i false=true)->∀i∈Fo ops k s,listed.getD i false=true
 |0,_,hs,i,hi=>hs i hi
 |k+1,s,hs,i,hi=>by
  simp only[Fo]at hi;cases hc:s.any fun i=>wz ops i k with
  |false=>rw[hc]at hi;exact uA h k s hs i hi
  |true=>
   rw[hc]at hi;refine uA h k (k::s) (fun j hj=>?_) i hi;rcases zzaw.1 hj with rfl|hj
   ·obtain⟨x,hx,hw⟩:=zzbx.1 hc;unfold wz at hw;split at hw
    ·rename_i o ho;exact h x o (hs x hx) ho j (by simpa using hw)
    cases hw
   exact hs j hj
def jq(ops:Array Oper)(js:List Nat)(i:Nat):Bool:=match js with
 |j::_=>(Fo ops j [j]).contains i
 |[]=>false
def Vm(ops:Array Oper)(js:List Nat)(i:Nat):Fg:=bif js.contains i then .eff else bif jq ops js i then .pre else .oth
def flags(ops:Array Oper)(p:Nat)(js:List Nat):List Fg:=(List.range p).map (Vm ops js)
section
variable (P:Program) (gl:Nat->AV) (orc:Nat->FuncId->List AV->AV) (Y:YT)
def memEff:aD->Bool
 |.store _ _ _|.cpy _ _ _|.mupd _ _ _ _|.ment _ _ _ _|.esto _ _ _|.alloc _|.box _|.mkmap _|.rng _|.app _ _ _ _=>true
 |_=>false
def effV(v:AV):aD->AV
 |.alloc _|.box _|.mkmap _|.rng _|.ment _ _ _ _|.app _ _ _ _=>v
 |_=>.junk
def effC(e:bL->AV)(m:AM)(dst:Option Nat)(av:AV)(m1:AM):aD->Prop
 |.call f args=>(match e f with
  |.fn g first cap=>an P gl Y g (first++args.map e++cap) m (fun x m2=>x=av/\m2=m1)
  |_=>False)
 |so=>memEff so=true/\(sop P gl orc e m dst so).1/\av=effV (sop P gl orc e m dst so).2.1 so/\m1=(sop P gl orc e m dst so).2.2
def Yb(T:List AV)(o:SO):Prop:=match o.guard with
 |none=>True
 |some (some t,b)=>T.getD t .junk=.bool b
 |some (none,_)=>False
def uB(l2:List SO)(K:AS->Prop)(m:AM)(ms:List (AV×AM)):List SO->List Fg->List (AV×AM)->AM->List AV->Prop
 |[],_,q,mc,T=>q=[]/\Zx P gl orc Y l2 ⟨T,mc⟩ K
 |_::_,[],_,_,_=>False
 |o::r,.eff::fl,q,mc,T=>(match q with
  |[]=>False
  |x::q=>Yb T o/\effC P gl orc Y (ev gl T) mc o.dst x.1 x.2 o.op/\uB l2 K m ms r fl q x.2 (put T o.dst x.1))
 |o::r,.pre::fl,q,mc,T=>Yb T o/\(rop P gl orc (ev gl T) m o.dst o.op).1/\uB l2 K m ms r fl q mc (put T o.dst (rop P gl orc (ev gl T) m o.dst o.op).2)
 |o::r,.oth::fl,q,mc,T=>Yb T o/\(rop P gl orc (ev gl T) m o.dst o.op).1/\(∀x∈ms,rop P gl orc (ev gl T) x.2 o.dst o.op=rop P gl orc (ev gl T) m o.dst o.op)/\uB l2 K m ms r fl q mc (put T o.dst (rop P gl orc (ev gl T) m o.dst o.op).2)
def rdC(e:bL->AV)(m:AM)(dst:Option Nat)(x:AM):aD->Prop
 |.call f args=>(match e f with
  |.fn g first cap=>an P gl Y g (first++args.map e++cap) x (fun y m2=>y=(rop P gl orc e m dst (.call f args)).2/\m2=x)
  |_=>False)
 |_=>False
def aqT(m:AM)(ms:List (AV×AM))(e:bL->AV)(dst:Option Nat)(so:aD):Prop:=
 ((rop P gl orc e m dst so).1/\∀x∈ms,rop P gl orc e x.2 dst so=rop P gl orc e m dst so)\/(rdC P gl orc Y e m dst m so/\∀x∈ms,rdC P gl orc Y e m dst x.2 so)
def k6(l2:List SO)(K:AS->Prop)(m:AM)(ms:List (AV×AM)):List SO->List Fg->List (AV×AM)->AM->List AV->Prop
 |[],_,q,mc,T=>q=[]/\Zx P gl orc Y l2 ⟨T,mc⟩ K
 |_::_,[],_,_,_=>False
 |o::r,.eff::fl,q,mc,T=>(match q with
  |[]=>False
  |x::q=>Yb T o/\effC P gl orc Y (ev gl T) mc o.dst x.1 x.2 o.op/\k6 l2 K m ms r fl q x.2 (put T o.dst x.1))
 |o::r,.pre::fl,q,mc,T=>Yb T o/\(rop P gl orc (ev gl T) m o.dst o.op).1/\k6 l2 K m ms r fl q mc (put T o.dst (rop P gl orc (ev gl T) m o.dst o.op).2)
 |o::r,.oth::fl,q,mc,T=>Yb T o/\aqT P gl orc Y m ms (ev gl T) o.dst o.op/\k6 l2 K m ms r fl q mc (put T o.dst (rop P gl orc (ev gl T) m o.dst o.op).2)
def Ob{l2:List SO}{K:AS->Prop}{m:AM}{ms:List (AV×AM)}:∀{l:List SO}{fl:List Fg}{q:List (AV×AM)}{mc:AM}{T:List AV},uB P gl orc Y l2 K m ms l fl q mc T->k6 P gl orc Y l2 K m ms l fl q mc T
 |[],fl,q,mc,T,h=>by simp only[uB]at h;simp only[k6];exact h
 |_::_,[],_,_,_,h=>by simp only[uB]at h
 |o::r,.eff::fl,[],mc,T,h=>by simp only[uB]at h
 |o::r,.eff::fl,x::q,mc,T,h=>by
  simp only[uB]at h;simp only[k6];exact⟨h.1,h.2.1,Ob h.2.2⟩
 |o::r,.pre::fl,q,mc,T,h=>by
  simp only[uB]at h;simp only[k6];exact⟨h.1,h.2.1,Ob h.2.2⟩
 |o::r,.oth::fl,q,mc,T,h=>by
  simp only[uB]at h;simp only[k6];exact⟨h.1,.inl ⟨h.2.1,h.2.2.1⟩,Ob h.2.2.2⟩
end
def Fp:List (Nat×AV)->Nat->Option AV
 |[],_=>none
 |(k,a)::r,d=>if k=d then some a else Fp r d
def Qz:List Nat->List (AV×AM)->List (Nat×AV)
 |j::js,x::q=>(j,x.1)::Qz js q
 |_,_=>[]
def Jf(listed:Array Bool):AM->List Nat->List (AV×AM)->AM
 |m,j::js,x::q=>if listed.getD j false then Jf listed x.2 js q else m
 |m,_,_=>m
def Jt(m:AM)(ms:List (AV×AM)):Nat->AM
 |0=>m
 |a+1=>(ms.getD a (.junk,m)).2
def chn(listed:Array Bool):List Nat->Prop
 |j::j'::r=>(listed.getD j' false=true->listed.getD j false=true)/\chn listed (j'::r)
 |_=>True
section
variable {N:Nat} {w0:iy} {r:Option Nat} {aq:Nat->Nat->Prop} {S:G×World} {Y:YT} {P:Program} {gl:Nat->AV} {orc:Nat->FuncId->List AV->AV} {ops:Array Oper} {T0:List AV} {m:AM} {p:Nat}
def wH(listed:Array Bool):∀(js:List Nat)(ms:List (AV×AM))(m:AM),Jf listed m js ms=m\/∃x∈ms,Jf listed m js ms=x.2
 |[],ms,m=>.inl (by cases ms<;>rfl)
 |j::js,[],m=>.inl rfl
 |j::js,x::q,m=>by
  simp only[Jf];split
  ·rcases wH listed js q x.2 with h|⟨y,hy,h⟩
   ·exact .inr ⟨x,by simp,h⟩
   exact .inr ⟨y,by simp[hy],h⟩
  exact .inl rfl
def Qbe{listed:Array Bool}:∀{js:List Nat}{ms:List (AV×AM)}{m:AM}{a:Nat},js.length=ms.length->a<=js.length->(∀b j,b<a->js[b]?=some j->listed.getD j false=true)->(∀j,js[a]?=some j->listed.getD j false=false)->
  Jf listed m js ms=Jt m ms a
 |[],[],m,a,_,ha,_,_=>by
  have:a=0:=by simpa using ha
  subst this;rfl
 |[],_::_,_,_,h,_,_,_=>by simp at h
 |_::_,[],_,_,h,_,_,_=>by simp at h
 |j::js,x::q,m,0,_,_,_,h=>by
  simp only[Jf,Jt];rw[h j rfl];rfl
 |j::js,x::q,m,a+1,hl,ha,h1,h2=>by
  simp only[Jf];rw[h1 0 j (by omega) rfl,if_pos rfl];rw[Qbe (a:=a) (by simpa using hl) (by simpa using ha) (fun b j hb hj=>h1 (b+1) j (by omega) (by simpa using hj)) (fun j hj=>h2 j (by simpa using hj))];cases a with
  |zero=>rfl
  |succ a=>
   simp only[Jt,List.getD_cons_succ];have:a<q.length:=by simp at ha hl;omega
   simp[List.getD,this]
def qW{listed Oc:Array Bool}:∀{js:List Nat}{ms:List (AV×AM)}{m:AM},(∀j∈js,Oc.getD j false=listed.getD j false)->Jf Oc m js ms=Jf listed m js ms
 |[],_,_,_=>rfl
 |_::_,[],_,_=>rfl
 |j::js,x::q,m,h=>by
  simp only[Jf];rw[h j (by simp),qW fun j hj=>h j (by simp[hj])]
def jr{listed:Array Bool}:∀{js:List Nat},chn listed js->∀{a b j j':Nat},a<b->js[a]?=some j->js[b]?=some j'->listed.getD j' false=true->listed.getD j false=true
 |[],_,a,b,j,j',_,h,_,_=>by simp at h
 |[x],_,a,b,j,j',hab,h,h',_=>by
  have:=(zza.1 h').1;simp at this;omega
 |x::y::r,hc,0,1,j,j',_,h,h',hl=>by
  simp at h h';subst h;subst h';exact hc.1 hl
 |x::y::r,hc,0,b+2,j,j',_,h,h',hl=>by
  simp at h;subst h;exact hc.1 (jr hc.2 (a:=0) (b:=b+1) (by omega) rfl (by simpa using h') hl)
 |x::y::r,hc,a+1,b+1,j,j',hab,h,h',hl=>jr hc.2 (a:=a) (b:=b) (by omega) (by simpa using h) (by simpa using h') hl
def CN{listed:Array Bool}{i:Nat}:∀{js:List Nat},chn listed js->(∀a j,js[a]?=some j->js[a+1]?=some i->listed.getD j false=true)->chn (listed.setIfInBounds i true) js
 |[],_,_=>trivial
 |[_],_,_=>trivial
 |j::j'::r,hc,h=>by
  refine⟨fun hl=>?_,CN hc.2 fun a x hx jf=>h (a+1) x (by simpa using hx) (by simpa using jf)⟩
  have mono:∀k,listed.getD k false=true->(listed.setIfInBounds i true).getD k false=true:=fun k hk=>by
   by_cases qV:i=k
   ·subst qV
    have:i<listed.size:=by
     rcases zzaa i listed.size with h|h
     ·exact h
     simp[zzbl.2 h]at hk
    exact Zz this
   rw[Qx (Ne.symm qV)];exact hk
  by_cases ek:i=j'
  ·subst ek;exact mono j (h 0 j rfl rfl)
  rw[Qx (Ne.symm ek)]at hl;exact mono j (hc.1 hl)
def Qbj{l:List Nat}(h:l.Nodup){a b i:Nat}(h1:l[a]?=some i)(h2:l[b]?=some i):a=b:=by
 obtain⟨ha,ea⟩:=zza.1 h1;obtain⟨hb,eb⟩:=zza.1 h2;rcases zzeo a b with h'|h'|h'
 ·exact absurd (ea.trans eb.symm) (zzdn.1 h a b ha hb h')
 ·exact h'
 exact absurd (eb.trans ea.symm) (zzdn.1 h b a hb ha h')
def tU(P:Program)(gl:Nat->AV)(orc:Nat->FuncId->List AV->AV)(ops:Array Oper)(m:AM)(L:List (Nat×AV))(i:Nat)(T:List AV):AV:=match Fp L i with
 |some av=>av
 |none=>match ops[i]? with
  |some o=>(rop P gl orc (ev gl T) m o.dst (tr P o)).2
  |none=>.junk
def bI(P:Program)(gl:Nat->AV)(orc:Nat->FuncId->List AV->AV)(ops:Array Oper)(T0:List AV)(m:AM)(L:List (Nat×AV)):Nat->List AV
 |0=>T0
 |k+1=>match ops[k]? with
  |some o=>put (bI P gl orc ops T0 m L k) o.dst (tU P gl orc ops m L k (bI P gl orc ops T0 m L k))
  |none=>bI P gl orc ops T0 m L k
def Ko{L:List (Nat×AV)}{k:Nat}{o:Oper}(h:ops[k]?=some o):bI P gl orc ops T0 m L (k+1)=put (bI P gl orc ops T0 m L k) o.dst (tU P gl orc ops m L k (bI P gl orc ops T0 m L k)):=by
 simp only[bI,h]
def Qcl{L:List (Nat×AV)}:∀k,(bI P gl orc ops T0 m L k).length=T0.length
 |0=>rfl
 |k+1=>by
  cases h:ops[k]? with
  |none=>simp only[bI,h];exact Qcl k
  |some o=>rw[Ko h,wC];exact Qcl k
def Qdq{L:List (Nat×AV)}{t:Nat}:∀k,(∀j,j<k->Ye ops j≠some t)->(bI P gl orc ops T0 m L (k)).getD t .junk=T0.getD t .junk
 |0,_=>rfl
 |k+1,h=>by
  cases ho:ops[k]? with
  |none=>simp only[bI,ho];exact Qdq k fun j hj=>h j (by omega)
  |some o=>
   rw[Ko ho,Qci (by have:=h k (by omega);simpa[Ye,ho]using this)];exact Qdq k fun j hj=>h j (by omega)
def Qdp{L:List (Nat×AV)}{t k:Nat}:∀n,(∀j,k<=j->j<k+n->Ye ops j≠some t)->(bI P gl orc ops T0 m L (k+n)).getD t .junk=(bI P gl orc ops T0 m L (k)).getD t .junk
 |0,_=>rfl
 |n+1,h=>by
  rw[<- zzam];cases ho:ops[k+n]? with
  |none=>simp only[bI,ho];exact Qdp n fun j h1 h2=>h j h1 (by omega)
  |some o=>
   rw[Ko ho,Qci (by have:=h (k+n) (by omega) (by omega);simpa[Ye,ho]using this)];exact Qdp n fun j h1 h2=>h j h1 (by omega)
def qX(P:Program)(gl:Nat->AV)(orc:Nat->FuncId->List AV->AV)(ops:Array Oper)(T0:List AV)(m:AM)(L:List (Nat×AV))(p:Nat)(listed:Array Bool)(t:Nat):AV:=
 if wr ops p listed t then(bI P gl orc ops T0 m L (p)).getD t .junk else T0.getD t .junk
def ajo{L:List (Nat×AV)}(hc:wB ops p=true){listed:Array Bool}(hsz:listed.size=ops.size){i:Nat}{o:Oper}(ho:ops[i]?=some o)(ey:i<p)(hu:listed.getD i true=false)(cO:∀j∈Vt o,listed.getD j false=true)
  {t:Nat}(ht:t∈o.looksAt ops):(bI P gl orc ops T0 m L (i)).getD t .junk=qX P gl orc ops T0 m L p listed t:=by
 have hi:i<ops.size:=(zzbw.1 ho).1;obtain⟨hp,dm⟩:=Zh hc;unfold qX;by_cases hex:∃j,j<p/\Ye ops j=some t/\j≠i
 ·obtain⟨j,hj,hd,aK⟩:=hex;obtain⟨Au,hja⟩:=((dm i o ho).2.1 ey).1 t ht j hj hd aK
  have hw:wr ops p listed t=true:=by
   unfold wr;rw[zzbx];exact⟨j,zzbd.2 hj,by rw[cO j hja,hd];simp⟩
  rw[if_pos hw]
  have:=Qdp (P:=P) (gl:=gl) (orc:=orc) (ops:=ops) (T0:=T0) (m:=m) (L:=L) (t:=t) (k:=i) (p-i) fun k cQ cV Fj=>by
   have hk:k<ops.size:=by omega
   have Fk:ops[k]?=some ops[k]:=zzai hk;have:=((dm k _ Fk).2.1 (by omega)).2 j (by omega) t hd;simp[Ye,Fk]at Fj;exact this Fj
  rw[show i+(p-i)=p by omega]at this;exact this.symm
 have hw:wr ops p listed t=false:=by
  unfold wr;rw[zzep];intro j hj;simp only[zzak,beq_iff_eq,not_and];intro hl hd;by_cases Au:j=i
  ·subst Au;rw[Xn (by omega) false true,hu]at hl;cases hl
  exact hex ⟨j,zzbd.1 hj,hd,Au⟩
 rw[hw];simp only[zzbq,if_false];exact Qdq i fun j hj hd=>hex ⟨j,by omega,hd,by omega⟩
def Oe{L:List (Nat×AV)}(hc:wB ops p=true){listed:Array Bool}(hsz:listed.size=ops.size){i:Nat}{o:Oper}(ho:ops[i]?=some o)(ey:i<p){t:Nat}:
  qX P gl orc ops T0 m L p (listed.setIfInBounds i true) t=if o.dst=some t/\t<T0.length then tU P gl orc ops m L i (bI P gl orc ops T0 m L i)else qX P gl orc ops T0 m L p listed t:=by
 have hi:i<ops.size:=(zzbw.1 ho).1;obtain⟨hp,dm⟩:=Zh hc;by_cases hd:o.dst=some t
 ·have hw:wr ops p (listed.setIfInBounds i true) t=true:=by
   unfold wr;rw[zzbx];exact⟨i,zzbd.2 ey,by rw[Zz (by omega)];simp[Ye,ho,hd]⟩
  have hl:=Qdp (P:=P) (gl:=gl) (orc:=orc) (ops:=ops) (T0:=T0) (m:=m) (L:=L) (t:=t) (k:=i+1) (p-(i+1)) fun k cQ cV Fj=>by
   have hk:k<ops.size:=by omega
   have Fk:ops[k]?=some ops[k]:=zzai hk;have:=((dm k _ Fk).2.1 (by omega)).2 i (by omega) t (by simp[Ye,ho,hd]);simp[Ye,Fk]at Fj;exact this Fj
  rw[show i+1+(p-(i+1))=p by omega]at hl;by_cases ht:t<T0.length
  ·rw[if_pos ⟨hd,ht⟩];unfold qX;rw[if_pos hw,hl,Ko ho,hd];exact Ws (by rw[Qcl];exact ht)
  rw[if_neg (by simp[ht])]
  have h1:∀k,(bI P gl orc ops T0 m L (k)).getD t .junk=.junk:=fun k=>by
   have:=Qcl (P:=P) (gl:=gl) (orc:=orc) (ops:=ops) (T0:=T0) (m:=m) (L:=L) k;simp only[List.getD];rw[zzau (by omega)];rfl
  have h2:T0.getD t .junk=.junk:=h1 0;unfold qX;rw[h1 p,h2];simp
 rw[if_neg (by simp[hd])]
 have hw:wr ops p (listed.setIfInBounds i true) t=wr ops p listed t:=by
  unfold wr;congr 1;funext j;by_cases hj:j=i
  ·subst hj;have hb:(o.dst==some t)=false:=by simpa using hd
   simp[Ye,ho,hb]
  rw[Qx hj]
 unfold qX;rw[hw]
structure zz (N:Nat) (w0:iy) (r:Option Nat) (aq:Nat->Nat->Prop) (S:G×World) (Y:YT) (P:Program) (gl:Nat->AV) (orc:Nat->FuncId->List AV->AV) (ops:Array Oper) (T0:List AV) (m:AM) (ms:List (AV×AM)) (js:List Nat) (L:List (Nat×AV)) (p:Nat) (listed:Array Bool) (γ:G) (w:World) (a:Act):Prop where
 size:listed.size=ops.size
 tail:∀i,p<=i->i<ops.size->listed.getD i true=false
 ch:chn listed js
 clo:∀i o,listed.getD i false=true->ops[i]?=some o->∀j∈Vt o,listed.getD j false=true
 mm:au N w0 aq γ w (Jf listed m js ms).B (Jf listed m js ms).L
 ls:cW γ w (Jf listed m js ms)
 rd:Rdr r γ w
 tl:a.tmps.size=T0.length
 tt:∀t,aB w γ (qX P gl orc ops T0 m L p listed t) (a.tmps.getD t undef)
 d:Dfr S.2.heap.size γ w a.defers
 g:∀g,aB w γ.dg (gl g) (.pointer (some ⟨g,0,none⟩))
 y:YOK N w0 aq P Y γ w
 e:eM S.2 S.1 w γ
def Fq:∀(js:List Nat)(ms:List (AV×AM))(d:Nat),d ∉ js->Fp (Qz js ms) d=none
 |[],_,_,_=>rfl
 |_::_,[],_,_=>rfl
 |j::js,x::q,d,h=>by
  simp only[Qz,Fp];rw[if_neg (by rintro rfl;exact h (by simp))];exact Fq js q d fun h'=>h (by simp[h'])
def Fs:∀(js:List Nat)(ms:List (AV×AM))(a i:Nat)(x:AV×AM),js.Nodup->js[a]?=some i->ms[a]?=some x->Fp (Qz js ms) i=some x.1
 |[],_,_,_,_,_,h,_=>by simp at h
 |_::_,[],_,_,_,_,_,h=>by simp at h
 |j::js,y::q,0,i,x,_,h,hx=>by
  simp at h hx;subst h;subst hx;simp only[Qz,Fp,if_true]
 |j::js,y::q,a+1,i,x,hn,h,hx=>by
  have sj:=List.nodup_cons.1 hn;have h':js[a]?=some i:=by simpa using h
  simp only[Qz,Fp];rw[if_neg (by rintro rfl;exact sj.1 (zzac h'))];exact Fs js q a i x sj.2 h' (by simpa using hx)
def jt{js:List Nat}{ms:List (AV×AM)}{a i:Nat}{x:AV×AM}(hn:js.Nodup)(h:js[a]?=some i)(hx:ms[a]?=some x)(T:List AV):tU P gl orc ops m (Qz js ms) i T=x.1:=by
 unfold tU;rw[Fs js ms a i x hn h hx]
def jv{js:List Nat}{ms:List (AV×AM)}{i:Nat}{o:Oper}(h:i ∉ js)(ho:ops[i]?=some o)(T:List AV):tU P gl orc ops m (Qz js ms) i T=(rop P gl orc (ev gl T) m o.dst (tr P o)).2:=by
 unfold tU;rw[Fq js ms i h,ho]
def wI{γ:G}{w:World}{a:Act}{o:Oper}{T:List AV}(wJ:Yb T (Xf P ops o))(zx:∀t∈o.looksAt ops,aB w γ (T.getD t .junk) (a.tmps.getD t undef)):Region.wanted o (yielded ops a.tmps)=true:=by
 cases hg:o.guard with
 |none=>simp[Region.wanted,hg]
 |some jw=>
  obtain⟨j,want⟩:=jw;have e1:(Xf P ops o).guard=some ((ops[j]?).bind (·.dst),want):=by simp[Xf,hg]
  unfold Yb at wJ;rw[e1]at wJ;cases hj:(ops[j]?).bind (·.dst)with
  |none=>rw[hj]at wJ;exact wJ.elim
  |some t=>
   rw[hj]at wJ;simp only at wJ;have mH:t∈o.looksAt ops:=by simp[Oper.looksAt,hg,hj]
   have aS:=zx t mH;rw[wJ]at aS;have hb:=aS.bA
   have cB:t<a.tmps.size:=by
    rcases zzaa t a.tmps.size with h|h
    ·exact h
    simp[zzcv h,undef]at hb
   simp[cB]at hb;have hy:yielded ops a.tmps j=some want:=by simp only[yielded,hj,zzcu,zzai cB,hb]
   simp only[Region.wanted,hg,hy];cases want<;>rfl
def sx{ms:List (AV×AM)}{js:List Nat}(hc:wB ops p=true){Q:Exit->Act->World->Prop}{listed:Array Bool}{γ:G}{w:World}{a:Act}
  (hI:zz N w0 r aq S Y P gl orc ops T0 m ms js (Qz js ms) p listed γ w a){i:Nat}{o:Oper}(ho:ops[i]?=some o)(ey:i<p)(wJ:Yb (bI P gl orc ops T0 m (Qz js ms) i) (Xf P ops o))(aH:js.length=ms.length)(we:js.Nodup)
  (hu:listed.getD i true=false)(cO:∀j∈Vt o,listed.getD j false=true)(CO:∀a j,js[a]?=some j->js[a+1]?=some i->j∈Vt o)
  (aK:i ∉ js->((rop P gl orc (ev gl (bI P gl orc ops T0 m (Qz js ms) i)) m o.dst (tr P o)).1/\(jq ops js i=false->∀x∈ms,rop P gl orc (ev gl (bI P gl orc ops T0 m (Qz js ms) i)) x.2 o.dst (tr P o)=rop P gl orc (ev gl (bI P gl orc ops T0 m (Qz js ms) i)) m o.dst (tr P o)))\/(rdC P gl orc Y (ev gl (bI P gl orc ops T0 m (Qz js ms) i)) m o.dst m (tr P o)/\∀x∈ms,rdC P gl orc Y (ev gl (bI P gl orc ops T0 m (Qz js ms) i)) m o.dst x.2 (tr P o)))
  (N4:∀k x,js[k]?=some i->ms[k]?=some x->effC P gl orc Y (ev gl (bI P gl orc ops T0 m (Qz js ms) i)) (Jt m ms k) o.dst x.1 x.2 (tr P o)):
  wpOpIn (FW r) 0 P ops Q i (fun a' w'=>∃γ',zz N w0 r aq S Y P gl orc ops T0 m ms js (Qz js ms) p (listed.setIfInBounds i true) γ' w' a') a w:=by
 have hi:i<ops.size:=(zzbw.1 ho).1;have gr:i<listed.size:=by rw[hI.size];exact hi
 have zx:∀t∈o.looksAt ops,aB w γ ((bI P gl orc ops T0 m (Qz js ms) i).getD t .junk) (a.tmps.getD t undef):=fun t ht=>by
  rw[ajo (P:=P) (gl:=gl) (orc:=orc) (T0:=T0) (m:=m) (L:=Qz js ms) hc hI.size ho ey hu cO ht];exact hI.tt t
 have gq:∀x∈o.op.operands,aB w γ (ev gl (bI P gl orc ops T0 m (Qz js ms) i) (aA x)) (a.eval x):=fun x hx=>by
  cases x with
  |tmp t=>exact zx t (by simp only[Oper.looksAt,zzao,zzfh];exact .inl ⟨.tmp t,by simpa using hx,rfl⟩)
  |const v=>exact Kb w γ v
  |func f=>exact .fn rfl (fun i c v h=>by simp at h) rfl fun i c v h=>by simp at h
  |global g=>exact(hI.g g).gI
 have lX:chn (listed.setIfInBounds i true) js:=CN hI.ch fun a j h1 h2=>cO j (CO a j h1 h2);have hpr:Q4 ops (listed.setIfInBounds i true):=Q4.set hI.clo ho gr cO
 have fin:∀{v:Value}{w':World}{γ':G},eM w γ w' γ'->au N w0 aq γ' w' (Jf (listed.setIfInBounds i true) m js ms).B (Jf (listed.setIfInBounds i true) m js ms).L->cW γ' w' (Jf (listed.setIfInBounds i true) m js ms)->
   aB w' γ' (tU P gl orc ops m (Qz js ms) i (bI P gl orc ops T0 m (Qz js ms) i)) v->∃γ',zz N w0 r aq S Y P gl orc ops T0 m ms js (Qz js ms) p (listed.setIfInBounds i true) γ' w' (a.put o.dst v):=fun{v w' γ'}he hm hl hr=>by
  refine⟨γ',by simp[hI.size],fun j dU qo=>by rw[Qx (by omega)];exact hI.tail j dU qo,lX,hpr,hm,hl,hI.rd.bq he,?_,fun t=>?_,?_,fun g=>(hI.g g).bq he.dg,hI.y.mono he,hI.e.trans he⟩
  ·cases hd:o.dst<;>simp[Act.put,hI.tl]
  ·rw[Oe hc hI.size ho ey];by_cases hd:o.dst=some t
   ·by_cases ht:t<T0.length
    ·rw[if_pos ⟨hd,ht⟩,hd];have:(a.put (some t) v).tmps.getD t undef=v:=by simp[Act.put,hI.tl,ht]
     rw[this];exact hr
    rw[if_neg (by simp[ht]),hd];have:(a.put (some t) v).tmps.getD t undef=a.tmps.getD t undef:=by simp[Act.put,hI.tl,ht]
    rw[this];exact(hI.tt t).bq he
   rw[if_neg (by simp[hd])]
   have:(a.put o.dst v).tmps.getD t undef=a.tmps.getD t undef:=by
    cases Cy:o.dst with
    |none=>rfl
    |some d=>simp only[Act.put];simp;rw[zzdf (by rintro rfl;exact hd Cy)]
   rw[this];exact(hI.tt t).bq he
  cases hd:o.dst<;>exact hI.d.bq he
 simp only[wpOpIn,ho];have hw:Region.wanted o (yielded ops a.tmps)=true:=wI wJ zx;rw[if_pos hw];by_cases ek:i∈js
 ·obtain⟨k,hk⟩:=zzcd.1 ek;have qv:k<ms.length:=by rw[<- aH];exact(zza.1 hk).1
  obtain⟨x,hx⟩:∃x,ms[k]?=some x:=⟨ms[k],zzad qv⟩;have h1:=N4 k x hk hx;have h2:=jt (P:=P) (gl:=gl) (orc:=orc) (ops:=ops) (m:=m) we hk hx (bI P gl orc ops T0 m (Qz js ms) i);have KF:listed.getD i false=false:=by rw[Xn gr false true];exact hu
  have WX:∀b j,b<k->js[b]?=some j->listed.getD j false=true:=fun b j hb hj=>by
   have mJ:k-1<js.length:=by have:=(zza.1 hk).1;omega
   obtain⟨j1,dU⟩:∃j1,js[k-1]?=some j1:=⟨js[k-1],zzad mJ⟩;have ew:=cO j1 (CO (k-1) j1 dU (by rw[show k-1+1=k by omega];exact hk));rcases zzaa b (k-1)with h|h
   ·exact jr hI.ch h hj dU ew
   obtain rfl:b=k-1:=by omega
   rw[hj]at dU;cases dU;exact ew
  have Td:Jf listed m js ms=Jt m ms k:=Qbe aH (by have:=(zza.1 hk).1;omega) WX (fun j hj=>by rw[hk]at hj;cases hj;exact KF)
  have qu:Jf (listed.setIfInBounds i true) m js ms=x.2:=by
   have:=Qbe (listed:=listed.setIfInBounds i true) (m:=m) (a:=k+1) aH (by have:=(zza.1 hk).1;omega) (fun b j hb hj=>?_) (fun j hj=>?_)
   ·rw[this];simp[Jt,List.getD,hx]
   ·rcases zzaa b k with h|h
    ·have eC:j≠i:=by
      rintro rfl;have:=Qbj we hj hk;omega
     rw[Qx eC];exact WX b j h hj
    obtain rfl:b=k:=by omega
    rw[hk]at hj;cases hj;exact Zz gr
   have eC:j≠i:=by
    rintro rfl;have:=Qbj we hj hk;omega
   rw[Qx eC];cases hl:listed.getD j false with
   |false=>rfl
   |true=>rw[jr hI.ch (Nat.lt_succ_self k) hk hj hl]at KF;cases KF
  rw[qu,h2]at fin;have k8:=hI.mm;have lU:=hI.ls;rw[Td]at k8 lU
  have zA:eW N w0 r aq S P gl Y γ w ⟨(List.range T0.length).map fun t=>qX P gl orc ops T0 m (Qz js ms) p listed t,Jt m ms k⟩ a:=by
   refine⟨k8,lU,hI.rd,⟨by simp[hI.tl],fun t x v hx hv=>?_⟩,hI.d,hI.g,hI.y,hI.e⟩
   ·have ai:t<T0.length:=by
     rcases zzaa t T0.length with h|h
     ·exact h
     simp[zzbl.2 h]at hx
    simp[ai]at hx;have:=hI.tt t;rw[hx]at this;have CB:a.tmps.getD t undef=v:=by simp at hv;simp[hv]
    rwa [CB]at this
  have mem:∀so,tr P o=so->memEff so=true->((sop P gl orc (ev gl (bI P gl orc ops T0 m (Qz js ms) i)) (Jt m ms k) o.dst so).1/\x.1=effV (sop P gl orc (ev gl (bI P gl orc ops T0 m (Qz js ms) i)) (Jt m ms k) o.dst so).2.1 so/\x.2=(sop P gl orc (ev gl (bI P gl orc ops T0 m (Qz js ms) i)) (Jt m ms k) o.dst so).2.2)->
    o.wpIn (FW r) 0 P a w (fun a' w'=>∃γ',zz N w0 r aq S Y P gl orc ops T0 m ms js (Qz js ms) p (listed.setIfInBounds i true) γ' w' a') Q:=fun so WV _⟨k1,k2,k3⟩=>by
   refine AL (orc:=orc) (K:=fun av' m'=>x.1=effV av' so/\m'=x.2) k8 hI.g gq ⟨by rw[WV];exact k1,by rw[WV];exact⟨k2,k3.symm⟩⟩ r _ Q fun v w' γ' av' m' hK h3 h4 h5 h6=>?_;obtain⟨hK1,rfl⟩:=hK;refine fin h4.dJ h5 (lU.mono' h4 h3) ?_;rw[hK1];unfold effV;split<;>first|exact h6|exact .junk _
  cases htr:tr P o with
  |call f args=>
   rw[htr]at h1
   have oP:Qcb P gl Y (ev gl (bI P gl orc ops T0 m (Qz js ms) i)) (Jt m ms k) (fun y m2=>y=x.1/\m2=x.2) (tr P o):=by
    rw[htr];simp only[effC]at h1;simp only[Qcb];split at h1
    ·rename_i g first cap cw;simp only[cw];exact h1
    exact h1.elim
   refine Qdo zA gq oP fun v w' γ' av' m' hK h3 h4 h5 h6=>?_;obtain⟨rfl,rfl⟩:=hK;exact fin h3 h4 h5 h6
  |_=>rw[htr]at h1;first|exact mem _ htr h1.1 h1.2|exact absurd h1.1 (by simp[memEff])
 rcases aK ek with⟨h1,h2⟩|fI
 ·have bU:Jf (listed.setIfInBounds i true) m js ms=Jf listed m js ms:=qW fun j hj=>Qx (by rintro rfl;exact ek hj);rw[bU]at fin;have k8:=hI.mm;have lU:=hI.ls
  have aqU:rop P gl orc (ev gl (bI P gl orc ops T0 m (Qz js ms) i)) (Jf listed m js ms) o.dst (tr P o)=rop P gl orc (ev gl (bI P gl orc ops T0 m (Qz js ms) i)) m o.dst (tr P o):=by
   cases jd:jq ops js i with
   |false=>
    rcases wH listed js ms m with h|⟨x,hx,h⟩
    ·rw[h]
    rw[h];exact h2 jd x hx
   |true=>
    have Td:Jf listed m js ms=m:=by
     cases js with
     |nil=>cases ms<;>rfl
     |cons j0 js=>
      simp only[jq]at jd
      have hn:listed.getD j0 false=false:=by
       cases hl:listed.getD j0 false with
       |false=>rfl
       |true=>
        have:=uA (ops:=ops) (listed:=listed) hI.clo j0 [j0] (fun k hk=>by rw[zzbg.1 hk];exact hl) i (by simpa using jd);rw[Xn gr false true,hu]at this;cases this
      cases ms with
      |nil=>rfl
      |cons x q=>simp only[Jf,hn];rfl
    rw[Td]
  generalize Jf listed m js ms=mL at*
  refine Qde (m:=mL) k8 (fun _ _ h=>h) hI.g gq (by rw[aqU];exact h1) r _ Q fun v w' γ' q1 q2 q3=>?_;rw[aqU]at q3;exact fin q1.dJ q2 (lU.mono q1) (by rw[jv ek ho];exact q3)
 have bU:Jf (listed.setIfInBounds i true) m js ms=Jf listed m js ms:=qW fun j hj=>Qx (by rintro rfl;exact ek hj);rw[bU]at fin;have k8:=hI.mm;have lU:=hI.ls
 have hL:rdC P gl orc Y (ev gl (bI P gl orc ops T0 m (Qz js ms) i)) m o.dst (Jf listed m js ms) (tr P o):=by
  rcases wH listed js ms m with h|⟨x,hx,h⟩
  ·rw[h];exact fI.1
  rw[h];exact fI.2 x hx
 generalize Jf listed m js ms=mL at*
 have zA:eW N w0 r aq S P gl Y γ w ⟨(List.range T0.length).map fun t=>qX P gl orc ops T0 m (Qz js ms) p listed t,mL⟩ a:=by
  refine⟨k8,lU,hI.rd,⟨by simp[hI.tl],fun t x v hx hv=>?_⟩,hI.d,hI.g,hI.y,hI.e⟩
  ·have ai:t<T0.length:=by
    rcases zzaa t T0.length with h|h
    ·exact h
    simp[zzbl.2 h]at hx
   simp[ai]at hx;have:=hI.tt t;rw[hx]at this;have CB:a.tmps.getD t undef=v:=by simp at hv;simp[hv]
   rwa [CB]at this
 cases htr:tr P o with
 |call f args=>
  rw[htr]at hL
  have oP:Qcb P gl Y (ev gl (bI P gl orc ops T0 m (Qz js ms) i)) mL (fun y m2=>y=(rop P gl orc (ev gl (bI P gl orc ops T0 m (Qz js ms) i)) m o.dst (.call f args)).2/\m2=mL) (tr P o):=by
   rw[htr];simp only[rdC]at hL;simp only[Qcb];split at hL
   ·rename_i g first cap cw;simp only[cw];exact hL
   exact hL.elim
  refine Qdo zA gq oP fun v w' γ' av' m' hK h3 h4 h5 h6=>?_;obtain⟨rfl,rfl⟩:=hK;exact fin h3 h4 h5 (by rw[jv ek ho,htr];exact h6)
 |_=>rw[htr]at hL;exact(show False from hL).elim
def uC:∀{js:List Nat},Q5 ops js=true->∀a j j' o,js[a]?=some j->js[a+1]?=some j'->ops[j']?=some o->j∈Vt o
 |[],_,a,j,j',o,h,_,_=>by simp at h
 |[x],_,a,j,j',o,h,h',_=>by
  have:=(zza.1 h').1;simp at this
 |x::y::r,hc,0,j,j',o,h,h',ho=>by
  simp at h h';subst h;subst h';simp only[Q5,zzak,ho]at hc;simpa using hc.1
 |x::y::r,hc,a+1,j,j',o,h,h',ho=>by
  simp only[Q5,zzak]at hc;exact uC hc.2 a j j' o (by simpa using h) (by simpa using h') ho
def Uz{js:List Nat}(h:Qdc ops p=some js):js=(List.range p).filter (eN ops AT)/\Q5 ops js=true/\∀i,i<p->∃o,ops[i]?=some o:=by
 unfold Qdc at h;simp only at h;split at h
 case isFalse=>cases h
 rename_i bP;cases h;simp only[zzak]at bP;refine⟨rfl,bP.1.1.2,fun i hi=>?_⟩;have h1:=zzbh.1 bP.2 i (zzbd.2 hi);exact zzci.1 h1
def cR(ops:Array Oper)(k:Nat):Nat:=((List.range k).filter (eN ops AT)).length
def jx(k:Nat):cR ops (k+1)=cR ops k+(if eN ops AT k=true then 1 else 0):=by
 simp only[cR,zzfb,zzcr,zzah];cases h:eN ops AT k<;>simp[h]
def KH{i:Nat}(hi:i<p)(hd:eN ops AT i=true):((List.range p).filter (eN ops AT))[cR ops i]?=some i:=by
 obtain⟨n,rfl⟩:∃n,p=i+(n+1):=⟨p-i-1,by omega⟩;rw[List.range_add,zzcr];have hl:cR ops i=((List.range i).filter (eN ops AT)).length:=rfl;rw[hl,zzan (zzab _),zzhb,zzay,zzco,zzdt hd];simp
def aeG{ms:List (AV×AM)}{js:List Nat}(l2:List SO)(K:AS->Prop)(hp:p<=ops.size)(hj:Qdc ops p=some js):∀(n k:Nat)(mc:AM),k+n=p->cR ops k<=ms.length->mc=Jt m ms (cR ops k)->
  k6 P gl orc Y l2 K m ms (((ops.toList.take p).drop k).map (Xf P ops)) ((flags ops p js).drop k) (ms.drop (cR ops k)) mc (bI P gl orc ops T0 m (Qz js ms) k)->
  js.length=ms.length/\
  (
   ∀i o,k<=i->i<p->ops[i]?=some o->
   (i ∉ js->((rop P gl orc (ev gl (bI P gl orc ops T0 m (Qz js ms) i)) m o.dst (tr P o)).1/\(jq ops js i=false->∀x∈ms,rop P gl orc (ev gl (bI P gl orc ops T0 m (Qz js ms) i)) x.2 o.dst (tr P o)=rop P gl orc (ev gl (bI P gl orc ops T0 m (Qz js ms) i)) m o.dst (tr P o)))\/(rdC P gl orc Y (ev gl (bI P gl orc ops T0 m (Qz js ms) i)) m o.dst m (tr P o)/\∀x∈ms,rdC P gl orc Y (ev gl (bI P gl orc ops T0 m (Qz js ms) i)) m o.dst x.2 (tr P o)))/\
   (∀b x,js[b]?=some i->ms[b]?=some x->effC P gl orc Y (ev gl (bI P gl orc ops T0 m (Qz js ms) i)) (Jt m ms b) o.dst x.1 x.2 (tr P o))/\Yb (bI P gl orc ops T0 m (Qz js ms) i) (Xf P ops o))/\
  Zx P gl orc Y l2 ⟨(bI P gl orc ops T0 m (Qz js ms) p),Jt m ms ms.length⟩ K:=by
 obtain⟨mG,_,lg⟩:=Uz hj;have cU:∀j,j∈js<->j<p/\eN ops AT j=true:=fun j=>by rw[mG,zzcp,zzbd]
 have we:js.Nodup:=by rw[mG];exact(zzdk).filter _
 have IA:∀i,i<p->eN ops AT i=true->js[cR ops i]?=some i:=fun i h1 h2=>by rw[mG];exact KH h1 h2
 have WY:∀{a b i:Nat},js[a]?=some i->js[b]?=some i->a=b:=fun{a b i}h1 h2=>Qbj we h1 h2;intro n;induction n with
 |zero=>
  intro k mc hk qt WM h;obtain rfl:k=p:=by omega
  have e0:(ops.toList.take k).drop k=[]:=zzal (by simp;omega);rw[e0]at h;simp only[zzcg,k6]at h;have fL:ms.length<=cR ops k:=zzfq.1 h.1;have Cx:cR ops k=js.length:=by rw[mG];rfl
  have hcc:cR ops k=ms.length:=by omega
  refine⟨by omega,fun i o h1 h2=>by omega,?_⟩;rw[<- hcc,<- WM];exact h.2
 |succ n ih=>
  intro k mc hk qt WM h;have cB:k<ops.size:=by omega
  have ho:ops[k]?=some ops[k]:=zzai cB
  have hd:(ops.toList.take p).drop k=ops[k]::(ops.toList.take p).drop (k+1):=by
   rw[zzaf (by simp;omega)];simp
  have fK:(flags ops p js).drop k=Vm ops js k::(flags ops p js).drop (k+1):=by
   rw[zzaf (by simp[flags];omega)];simp[flags]
  rw[hd,fK,zzay]at h;have Fc:=Ko (P:=P) (gl:=gl) (orc:=orc) (T0:=T0) (m:=m) (L:=Qz js ms) ho;have e2:(Xf P ops ops[k]).op=tr P ops[k]:=rfl;have e3:(Xf P ops ops[k]).dst=ops[k].dst:=rfl;have jh:=jx (ops:=ops) k;cases gL:js.contains k with
  |true=>
   have AU:k∈js:=by simpa using gL
   have oV:=((cU k).1 AU).2;rw[oV,if_pos rfl]at jh;rw[show Vm ops js k=.eff by simp only[Vm,gL,cond_true]]at h;simp only[k6,e2,e3]at h;split at h
   ·exact h.elim
   rename_i x q hq
   have KI:cR ops k<ms.length:=by
    rcases zzaa (cR ops k) ms.length with h'|h'
    ·exact h'
    rw[zzal h']at hq;cases hq
   have hx:ms[cR ops k]?=some x:=by
    have:(ms.drop (cR ops k))[0]?=some x:=by rw[hq];rfl
    simpa using this
   have hq':ms.drop (cR ops (k+1))=q:=by
    rw[jh,<- zzdv,hq];rfl
   obtain⟨hgr,h1,h2⟩:=h;have tP:=IA k (by omega) oV;have cD:=jt (P:=P) (gl:=gl) (orc:=orc) (ops:=ops) (m:=m) we tP hx (bI P gl orc ops T0 m (Qz js ms) k);rw[cD]at Fc
   obtain⟨r1,r2,r3⟩:=ih (k+1) x.2 (by omega) (by omega) (by rw[jh];simp[Jt,List.getD,hx]) (by
    rw[Fc,hq'];exact h2)
   refine⟨r1,fun i o hi ey CL=>?_,r3⟩;rcases zzaa k i with fH|fH
   ·exact r2 i o fH ey CL
   obtain rfl:i=k:=by omega
   rw[ho]at CL;cases CL;refine⟨fun h=>absurd AU h,fun b y hb hy=>?_,hgr⟩;obtain rfl:=WY hb tP;rw[hx]at hy;cases hy;rw[<- WM];exact h1
  |false=>
   have AU:k ∉ js:=by simpa using gL
   have oV:eN ops AT k=false:=by
    cases Of:eN ops AT k with
    |false=>rfl
    |true=>exact absurd ((cU k).2 ⟨by omega,Of⟩) AU
   rw[oV,if_neg (by simp),zzco]at jh
   obtain⟨hgr,h1,h3⟩:Yb (bI P gl orc ops T0 m (Qz js ms) k) (Xf P ops ops[k])/\(((rop P gl orc (ev gl (bI P gl orc ops T0 m (Qz js ms) k)) m ops[k].dst (tr P ops[k])).1/\(jq ops js k=false->∀x∈ms,rop P gl orc (ev gl (bI P gl orc ops T0 m (Qz js ms) k)) x.2 ops[k].dst (tr P ops[k])=rop P gl orc (ev gl (bI P gl orc ops T0 m (Qz js ms) k)) m ops[k].dst (tr P ops[k])))\/(rdC P gl orc Y (ev gl (bI P gl orc ops T0 m (Qz js ms) k)) m ops[k].dst m (tr P ops[k])/\∀x∈ms,rdC P gl orc Y (ev gl (bI P gl orc ops T0 m (Qz js ms) k)) m ops[k].dst x.2 (tr P ops[k])))/\
     k6 P gl orc Y l2 K m ms (((ops.toList.take p).drop (k+1)).map (Xf P ops)) ((flags ops p js).drop (k+1)) (ms.drop (cR ops k)) mc (put (bI P gl orc ops T0 m (Qz js ms) k) ops[k].dst (rop P gl orc (ev gl (bI P gl orc ops T0 m (Qz js ms) k)) m ops[k].dst (tr P ops[k])).2):=by
    cases jd:jq ops js k with
    |true=>
     rw[show Vm ops js k=.pre by simp only[Vm,gL,jd,cond_true,cond_false]]at h;simp only[k6,e2,e3]at h;exact⟨h.1,.inl ⟨h.2.1,fun h=>(by cases h)⟩,h.2.2⟩
    |false=>
     rw[show Vm ops js k=.oth by simp only[Vm,gL,jd,cond_false]]at h;simp only[k6,e2,e3]at h;exact⟨h.1,h.2.1.imp_left fun h=>⟨h.1,fun _=>h.2⟩,h.2.2⟩
   rw[jv AU ho]at Fc;obtain⟨r1,r2,r3⟩:=ih (k+1) mc (by omega) (by omega) (by rw[jh];exact WM) (by rw[Fc,jh];exact h3);refine⟨r1,fun i o hi ey CL=>?_,r3⟩;rcases zzaa k i with fH|fH
   ·exact r2 i o fH ey CL
   obtain rfl:i=k:=by omega
   rw[ho]at CL;cases CL;refine⟨fun _=>h1,fun b y hb=>absurd (zzac hb) AU,hgr⟩
def sy{Q:Exit->Act->World->Prop}{K:AS->Prop}{γ:G}{w:World}{s:AS}{a:Act}{js:List Nat}(hQ:∀γ w s a,K s->eW N w0 r aq S P gl Y γ w s a->Q .normal a w)(hc:wB ops p=true)(hj:Qdc ops p=some js)
  {ms:List (AV×AM)}(h:k6 P gl orc Y ((ops.toList.drop p).map (Xf P ops)) K s.m ms ((ops.toList.take p).map (Xf P ops)) (flags ops p js) ms s.m s.T)(hs:eW N w0 r aq S P gl Y γ w s a):
  wpAnyIn (FW r) 0 P .any ops Q ops.size (Array.replicate ops.size false) a {w with drawn:=w.drawn+1}:=by
 obtain⟨hp,dm⟩:=Zh hc;obtain⟨mG,hjc,lg⟩:=Uz hj;have we:js.Nodup:=by rw[mG];exact(zzdk).filter _
 have KJ:∀j∈js,j<p:=fun j h=>by rw[mG,zzcp]at h;exact zzbd.1 h.1
 obtain⟨aH,h1,h2⟩:=aeG (P:=P) (gl:=gl) (orc:=orc) (T0:=s.T) (m:=s.m) ((ops.toList.drop p).map (Xf P ops)) K hp hj p 0 s.m (by simp) (by simp[cR]) (by simp[cR,Jt]) (by simpa[bI,cR]using h)
 have full:∀(bz:Nat)(listed:Array Bool)(γ:G)(w:World)(a:Act),zz N w0 r aq S Y P gl orc ops s.T s.m ms js (Qz js ms) p listed γ w a->uc ops listed<=bz->(∀i,i<p->listed.getD i false=true)->wpAnyIn (FW r) 0 P .any ops Q bz listed a w:=by
  intro bz listed γ w a hI uz bP;have hml:Jf listed s.m js ms=Jt s.m ms ms.length:=Qbe aH (by omega) (fun b j _ hb=>bP j (KJ j (zzac hb))) (fun j hj=>by rw[zzau (by omega)]at hj;cases hj);have k8:=hI.mm;have lU:=hI.ls;rw[hml]at k8 lU;refine nG hQ hc bz p listed γ w _ a (zzab _) hp hI.size bP hI.tail uz h2 ⟨k8,lU,hI.rd,⟨?_,fun t x v hx hv=>?_⟩,hI.d,hI.g,hI.y,hI.e⟩
  ·simp[Qcl,hI.tl]
  have h1:=hI.tt t
  have hAt:qX P gl orc ops s.T s.m (Qz js ms) p listed t=x:=by
   have jf:(bI P gl orc ops s.T s.m (Qz js ms) p).getD t .junk=x:=by simp only at hx;simp[List.getD,hx]
   unfold qX;split
   ·exact jf
   rename_i hw;rw[<- jf];refine(Qdq p fun j hj hd=>hw ?_).symm;unfold wr;rw[zzbx];exact⟨j,zzbd.2 hj,by rw[bP j hj,hd];simp⟩
  rw[hAt]at h1;have:a.tmps.getD t undef=v:=by simp at hv;simp[hv]
  rwa [this]at h1
 have main:∀(bz:Nat)(listed:Array Bool)(γ:G)(w:World)(a:Act),zz N w0 r aq S Y P gl orc ops s.T s.m ms js (Qz js ms) p listed γ w a->uc ops listed<=bz->wpAnyIn (FW r) 0 P .any ops Q bz listed a w:=by
  intro bz;induction bz with
  |zero=>
   intro listed γ w a hI uz
   exact full 0 listed γ w a hI uz fun i hi=>by
    rw[Xn (by rw[hI.size];omega) false true];exact oU (zzga.1 uz) (by omega)
  |succ bz ih=>
   intro listed γ w a hI uz;by_cases bP:∀i,i<p->listed.getD i false=true
   ·exact full (bz+1) listed γ w a hI uz bP
   have hex:∃k,k<p/\listed.getD k true=false:=by
    refine Classical.byContradiction fun hn=>bP fun i hi=>?_;rw[Xn (by rw[hI.size];omega) false true];cases hl:listed.getD i true with
    |true=>rfl
    |false=>exact absurd ⟨i,hi,hl⟩ hn
   obtain⟨k,hk,hlk⟩:=hex;refine⟨fun hr=>?_,fun i hi=>?_⟩
   ·obtain⟨j,hj⟩:=Ww hc hI.size k k (zzab _) (by omega) hlk;rw[hr]at hj;cases hj
   obtain⟨ai,hu,o,ho,cO⟩:=Wx hc hi
   have ey:i<p:=by
    rcases zzaa i p with h|h
    ·exact h
    have:=jo hI.clo ho ((dm i o ho).2.2 h) cO i k (by omega) (by omega);rw[Xn (by rw[hI.size];omega) false true,hlk]at this;cases this
   refine wpOpIn_mono ?_ (sx hc hI ho ey (h1 i o (zzbz _) ey ho).2.2 aH we hu cO (fun a j e1 e2=>uC hjc a j i o e1 e2 ho) (h1 i o (zzbz _) ey ho).1 (h1 i o (zzbz _) ey ho).2.1);rintro a' w' ⟨γ',zy⟩;refine ih _ γ' w' a' zy ?_;have:=wD hI.size ai hu;omega
 have AR:∀j,(Array.replicate ops.size false).getD j false=false:=fun j=>by
  rcases zzaa j ops.size with h|h<;>simp[h]
 have CO:∀js':List Nat,chn (Array.replicate ops.size false) js':=fun js'=>by
  induction js' with
  |nil=>trivial
  |cons j r ih=>
   cases r with
   |nil=>trivial
   |cons j' r=>exact⟨fun h=>(by rw[AR]at h;cases h),ih⟩
 have Td:Jf (Array.replicate ops.size false) s.m js ms=s.m:=Qbe (a:=0) aH (by omega) (fun b j hb=>by omega) (fun j _=>AR j);refine main ops.size _ γ w.drew a ⟨by simp,fun i _ hi=>by simp[hi],CO js,fun j o h=>(by rw[AR]at h;cases h),?_,?_,hs.rd.bq (Ev.drew w γ).dJ,?_,fun t=>?_,hs.d.bq (Ev.drew w γ).dJ,fun g=>(hs.g g).mono (Ev.drew w γ).dg,hs.y.mono (Ev.drew w γ).dJ,hs.e.trans (Ev.drew w γ).dJ⟩ ?_
 ·rw[Td];exact hs.m.drew
 ·rw[Td];exact hs.ls.mono (Ev.drew w γ)
 ·have:=hs.t.1;simp at this;omega
 ·have hw:wr ops p (Array.replicate ops.size false) t=false:=by
   unfold wr;rw[zzep];intro j _;rw[AR j];simp
  unfold qX;rw[hw];simp only[zzbq,if_false];have:=(hs.t.mono (Ev.drew w γ)).get t;simpa[List.getD]using this
 unfold uc;exact zzbn (zzfn) (by simp)
end
open Go
def wK(ops:Array Oper)(p:Nat)(js:List Nat):Bool:=match js.getLast? with
 |some j=>(List.range p).all fun i=>decide (i<=j)||(Fo ops i [i]).contains j
 |none=>false
def bkF(ops:Array Oper)(p:Nat)(js:List Nat):List Fg:=bif wK ops p js then[.eff]else[]
def aeH(fl:List Fg)(l:List SO):Bool:=!(fl.drop l.length).isEmpty
section
variable (P:Program) (gl:Nat->AV) (orc:Nat->FuncId->List AV->AV) (Y:YT)
def effR(e:bL->AV)(m:AM)(R:AV->AM->Prop):aD->Prop
 |.call f args=>(match e f with
  |.fn g first cap=>an P gl Y g (first++args.map e++cap) m R
  |_=>False)
 |_=>False
def iB(R:AV->AM->Prop)(l2:List SO)(K:AS->Prop)(m:AM)(ms:List (AV×AM)):List SO->List Fg->List (AV×AM)->AM->List AV->Prop
 |[],_,q,mc,T=>q=[]/\Zx P gl orc Y l2 ⟨T,mc⟩ K
 |_::_,[],_,_,_=>False
 |o::r,.eff::fl,q,mc,T=>(match q with
  |[]=>False
  |x::q=>Yb T o/\((q=[]->effR P gl Y (ev gl T) mc R o.op)/\(q≠[]->effC P gl orc Y (ev gl T) mc o.dst x.1 x.2 o.op))/\iB R l2 K m ms r fl q x.2 (put T o.dst x.1))
 |o::r,.pre::fl,q,mc,T=>Yb T o/\(rop P gl orc (ev gl T) m o.dst o.op).1/\iB R l2 K m ms r fl q mc (put T o.dst (rop P gl orc (ev gl T) m o.dst o.op).2)
 |o::r,.oth::fl,q,mc,T=>Yb T o/\(rop P gl orc (ev gl T) m o.dst o.op).1/\(∀x∈ms,rop P gl orc (ev gl T) x.2 o.dst o.op=rop P gl orc (ev gl T) m o.dst o.op)/\iB R l2 K m ms r fl q mc (put T o.dst (rop P gl orc (ev gl T) m o.dst o.op).2)
def Zj(m:AM):List SO->List Fg->List (AV×AM)->List AV->List AV
 |o::r,.eff::fl,x::q,T=>Zj m r fl q (put T o.dst x.1)
 |o::r,_::fl,[],T=>(rop P gl orc (ev gl T) m o.dst o.op).2::Zj m r fl [] (put T o.dst (rop P gl orc (ev gl T) m o.dst o.op).2)
 |o::r,_::fl,x::q,T=>Zj m r fl (x::q) (put T o.dst (rop P gl orc (ev gl T) m o.dst o.op).2)
 |_,_,_,_=>[]
def jy{l2:List SO}{K:AS->Prop}{m:AM}{ms:List (AV×AM)}{ex:List Fg}:∀{l:List SO}{fl:List Fg}{q:List (AV×AM)}{mc:AM}{T:List AV},fl.length=l.length->k6 P gl orc Y l2 K m ms l (fl++ex) q mc T->k6 P gl orc Y l2 K m ms l fl q mc T
 |[],[],q,mc,T,_,h=>by simpa only[k6]using h
 |[],_::_,_,_,_,hl,_=>by simp at hl
 |_::_,[],_,_,_,hl,_=>by simp at hl
 |o::r,.eff::fl,[],mc,T,hl,h=>by simp only[zzae,k6]at h
 |o::r,.eff::fl,x::q,mc,T,hl,h=>by
  simp only[zzae,k6]at h |-
  exact⟨h.1,h.2.1,jy (by simpa using hl) h.2.2⟩
 |o::r,.pre::fl,q,mc,T,hl,h=>by
  simp only[zzae,k6]at h |-
  exact⟨h.1,h.2.1,jy (by simpa using hl) h.2.2⟩
 |o::r,.oth::fl,q,mc,T,hl,h=>by
  simp only[zzae,k6]at h |-
  exact⟨h.1,h.2.1,jy (by simpa using hl) h.2.2⟩
def Js{m:AM}{ex:List Fg}:∀{l:List SO}{fl:List Fg}{q:List (AV×AM)}{T:List AV},fl.length=l.length->Zj P gl orc m l (fl++ex) q T=Zj P gl orc m l fl q T
 |[],[],q,T,_=>by simp only[Zj]
 |[],_::_,_,_,hl=>by simp at hl
 |_::_,[],_,_,hl=>by simp at hl
 |o::r,.eff::fl,[],T,hl=>by
  simp only[zzae,Zj];rw[Js (by simpa using hl)]
 |o::r,.eff::fl,x::q,T,hl=>by
  simp only[zzae,Zj];rw[Js (by simpa using hl)]
 |o::r,.pre::fl,[],T,hl=>by
  simp only[zzae,Zj];rw[Js (by simpa using hl)]
 |o::r,.pre::fl,x::q,T,hl=>by
  simp only[zzae,Zj];rw[Js (by simpa using hl)]
 |o::r,.oth::fl,[],T,hl=>by
  simp only[zzae,Zj];rw[Js (by simpa using hl)]
 |o::r,.oth::fl,x::q,T,hl=>by
  simp only[zzae,Zj];rw[Js (by simpa using hl)]
def jH{R:AV->AM->Prop}{l2:List SO}{K:AS->Prop}{m:AM}{ms:List (AV×AM)}{ex:List Fg}:∀{l:List SO}{fl:List Fg}{q:List (AV×AM)}{mc:AM}{T:List AV},fl.length=l.length->iB P gl orc Y R l2 K m ms l (fl++ex) q mc T->iB P gl orc Y R l2 K m ms l fl q mc T
 |[],[],q,mc,T,_,h=>by simpa only[iB]using h
 |[],_::_,_,_,_,hl,_=>by simp at hl
 |_::_,[],_,_,_,hl,_=>by simp at hl
 |o::r,.eff::fl,[],mc,T,hl,h=>by simp only[zzae,iB]at h
 |o::r,.eff::fl,x::q,mc,T,hl,h=>by
  simp only[zzae,iB]at h |-
  exact⟨h.1,h.2.1,jH (by simpa using hl) h.2.2⟩
 |o::r,.pre::fl,q,mc,T,hl,h=>by
  simp only[zzae,iB]at h |-
  exact⟨h.1,h.2.1,jH (by simpa using hl) h.2.2⟩
 |o::r,.oth::fl,q,mc,T,hl,h=>by
  simp only[zzae,iB]at h |-
  exact⟨h.1,h.2.1,h.2.2.1,jH (by simpa using hl) h.2.2.2⟩
end
section
variable {N:Nat} {w0:iy} {r:Option Nat} {aq:Nat->Nat->Prop} {S:G×World} {Y:YT} {P:Program} {gl:Nat->AV} {orc:Nat->FuncId->List AV->AV} {ops:Array Oper} {T0:List AV} {m:AM} {p:Nat}
def nH{x x':AV×AM}{i:Nat}:∀{js:List Nat}{ms:List (AV×AM)}{jl:Nat},js[ms.length]?=some jl->i≠jl->Fp (Qz js (ms++[x])) i=Fp (Qz js (ms++[x'])) i
 |[],_,_,h,_=>by simp at h
 |j::js,[],jl,h,hi=>by
  simp at h;subst h;simp only[zzaj,Qz,Fp];rw[if_neg (Ne.symm hi),if_neg (Ne.symm hi)]
 |j::js,y::ms,jl,h,hi=>by
  simp only[zzae,Qz,Fp];rw[nH (ms:=ms) (by simpa using h) hi]
def wL{L L':List (Nat×AV)}{jl:Nat}(h:∀i,i<jl->Fp L i=Fp L' i):∀k,k<=jl->bI P gl orc ops T0 m L k=bI P gl orc ops T0 m L' k
 |0,_=>rfl
 |k+1,hk=>by
  have ih:=wL h k (by omega);simp only[bI];rw[ih];cases ho:ops[k]? with
  |none=>rfl
  |some o=>
   simp only;congr 1;simp only[tU];rw[h k (by omega)]
def KK{L L':List (Nat×AV)}(hc:wB ops p=true){listed:Array Bool}{jl:Nat}(qt:Q4 ops listed)(gN:listed.getD jl false=false)(hL:∀i,i<jl->Fp L i=Fp L' i)
  (WZ:∀k,jl<k->k<p->(Fo ops k [k]).contains jl=true)(hjp:jl<p)(t:Nat):qX P gl orc ops T0 m L p listed t=qX P gl orc ops T0 m L' p listed t:=by
 obtain⟨hp,dm⟩:=Zh hc;unfold qX;cases hw:wr ops p listed t with
 |false=>simp
 |true=>
  simp only[if_true];unfold wr at hw;obtain⟨j,hj,hjd⟩:=zzbx.1 hw;simp only[zzak,beq_iff_eq]at hjd;obtain⟨hl,hd⟩:=hjd;have alQ:=zzbd.1 hj
  have ai:j<jl:=by
   rcases zzeo j jl with h|h|h
   ·exact h
   ·subst h;rw[hl]at gN;cases gN
   have:=uA qt j [j] (fun k hk=>by rw[zzbg.1 hk];exact hl) jl (by simpa using WZ j h alQ);rw[this]at gN;cases gN
  have eO:∀(L:List (Nat×AV)),(bI P gl orc ops T0 m L p).getD t .junk=(bI P gl orc ops T0 m L jl).getD t .junk:=fun L=>by
   have:=Qdp (P:=P) (gl:=gl) (orc:=orc) (ops:=ops) (T0:=T0) (m:=m) (L:=L) (t:=t) (k:=jl) (p-jl) fun k cQ cV Fj=>by
    have hk:k<ops.size:=by omega
    have Fk:ops[k]?=some ops[k]:=zzai hk;have:=((dm k _ Fk).2.1 (by omega)).2 j (by omega) t hd;simp[Ye,Fk]at Fj;exact this Fj
   rwa [show jl+(p-jl)=p by omega]at this
  rw[eO L,eO L',wL hL jl (zzab _)]
def KL{ms:List (AV×AM)}{x:AV×AM}{js:List Nat}{R:AV->AM->Prop}(hc:wB ops p=true){Q:Exit->Act->World->Prop}{listed:Array Bool}{γ:G}{w:World}{a:Act}
  (hI:zz N w0 r aq S Y P gl orc ops T0 m (ms++[x]) js (Qz js (ms++[x])) p listed γ w a){i:Nat}{o:Oper}(ho:ops[i]?=some o)(ey:i<p)(wJ:Yb (bI P gl orc ops T0 m (Qz js (ms++[x])) i) (Xf P ops o))(aH:js.length=(ms++[x]).length)(we:js.Nodup)
  (hk:js[ms.length]?=some i)(hu:listed.getD i true=false)(cO:∀j∈Vt o,listed.getD j false=true)(CO:∀a j,js[a]?=some j->js[a+1]?=some i->j∈Vt o)
  (av3:∀x':AV×AM,R x'.1 x'.2->∀t,qX P gl orc ops T0 m (Qz js (ms++[x'])) p listed t=qX P gl orc ops T0 m (Qz js (ms++[x])) p listed t)
  (N4:effR P gl Y (ev gl (bI P gl orc ops T0 m (Qz js (ms++[x])) i)) (Jt m (ms++[x]) ms.length) R (tr P o)):
  wpOpIn (FW r) 0 P ops Q i (fun a' w'=>∃γ' x',R x'.1 x'.2/\zz N w0 r aq S Y P gl orc ops T0 m (ms++[x']) js (Qz js (ms++[x'])) p (listed.setIfInBounds i true) γ' w' a') a w:=by
 have hi:i<ops.size:=(zzbw.1 ho).1;have gr:i<listed.size:=by rw[hI.size];exact hi
 have zx:∀t∈o.looksAt ops,aB w γ ((bI P gl orc ops T0 m (Qz js (ms++[x])) i).getD t .junk) (a.tmps.getD t undef):=fun t ht=>by
  rw[ajo (P:=P) (gl:=gl) (orc:=orc) (T0:=T0) (m:=m) (L:=Qz js (ms++[x])) hc hI.size ho ey hu cO ht];exact hI.tt t
 have gq:∀y∈o.op.operands,aB w γ (ev gl (bI P gl orc ops T0 m (Qz js (ms++[x])) i) (aA y)) (a.eval y):=fun y hy=>by
  cases y with
  |tmp t=>exact zx t (by simp only[Oper.looksAt,zzao,zzfh];exact .inl ⟨.tmp t,by simpa using hy,rfl⟩)
  |const v=>exact Kb w γ v
  |func f=>exact .fn rfl (fun i c v h=>by simp at h) rfl fun i c v h=>by simp at h
  |global g=>exact(hI.g g).gI
 have lX:chn (listed.setIfInBounds i true) js:=CN hI.ch fun a j h1 h2=>cO j (CO a j h1 h2);have hpr:Q4 ops (listed.setIfInBounds i true):=Q4.set hI.clo ho gr cO;have KF:listed.getD i false=false:=by rw[Xn gr false true];exact hu
 have WX:∀b j,b<ms.length->js[b]?=some j->listed.getD j false=true:=fun b j hb hj=>by
  have mJ:ms.length-1<js.length:=by simp at aH;omega
  obtain⟨j1,dU⟩:∃j1,js[ms.length-1]?=some j1:=⟨js[ms.length-1],zzad mJ⟩;have ew:=cO j1 (CO (ms.length-1) j1 dU (by rw[show ms.length-1+1=ms.length by omega];exact hk));rcases zzaa b (ms.length-1)with h|h
  ·exact jr hI.ch h hj dU ew
  obtain rfl:b=ms.length-1:=by omega
  rw[hj]at dU;cases dU;exact ew
 have Td:Jf listed m js (ms++[x])=Jt m (ms++[x]) ms.length:=Qbe aH (by simp at aH;omega) WX (fun j hj=>by rw[hk]at hj;cases hj;exact KF)
 have qu:∀x':AV×AM,Jf (listed.setIfInBounds i true) m js (ms++[x'])=x'.2:=fun x'=>by
  have:=Qbe (listed:=listed.setIfInBounds i true) (m:=m) (ms:=ms++[x']) (js:=js) (a:=ms.length+1) (by simp at aH |-;omega) (by simp at aH;omega) (fun b j hb hj=>?_) (fun j hj=>by rw[zzau (by simp at aH;omega)]at hj;cases hj)
  ·rw[this];simp[Jt,List.getD]
  rcases zzaa b ms.length with h|h
  ·have eC:j≠i:=by
    rintro rfl;have:=Qbj we hj hk;omega
   rw[Qx eC];exact WX b j h hj
  obtain rfl:b=ms.length:=by omega
  rw[hk]at hj;cases hj;exact Zz gr
 simp only[wpOpIn,ho];have hw:Region.wanted o (yielded ops a.tmps)=true:=wI wJ zx;rw[if_pos hw];have k8:=hI.mm;have lU:=hI.ls;rw[Td]at k8 lU
 have zA:eW N w0 r aq S P gl Y γ w ⟨(List.range T0.length).map fun t=>qX P gl orc ops T0 m (Qz js (ms++[x])) p listed t,Jt m (ms++[x]) ms.length⟩ a:=by
  refine⟨k8,lU,hI.rd,⟨by simp[hI.tl],fun t x v hx hv=>?_⟩,hI.d,hI.g,hI.y,hI.e⟩
  have ai:t<T0.length:=by
   rcases zzaa t T0.length with h|h
   ·exact h
   simp[zzbl.2 h]at hx
  simp[ai]at hx;have:=hI.tt t;rw[hx]at this;have CB:a.tmps.getD t undef=v:=by simp at hv;simp[hv]
  rwa [CB]at this
 have oP:Qcb P gl Y (ev gl (bI P gl orc ops T0 m (Qz js (ms++[x])) i)) (Jt m (ms++[x]) ms.length) R (tr P o):=by
  cases htr:tr P o with
  |call f args=>
   rw[htr]at N4;simp only[effR]at N4;simp only[Qcb];split at N4
   ·rename_i g first cap cw;simp only[cw];exact N4
   exact N4.elim
  |_=>rw[htr]at N4;exact N4.elim
 refine Qdo zA gq oP fun v w' γ' av' m' hK he hm hl hr=>?_;have cD:=jt (P:=P) (gl:=gl) (orc:=orc) (ops:=ops) (m:=m) (ms:=ms++[(av',m')]) (x:=(av',m')) we hk (by simp) (bI P gl orc ops T0 m (Qz js (ms++[(av',m')])) i);have hsw:=av3 (av',m') hK;refine⟨γ',(av',m'),hK,by simp[hI.size],fun j dU qo=>by rw[Qx (by omega)];exact hI.tail j dU qo,lX,hpr,by rw[qu];exact hm,by rw[qu];exact hl,hI.rd.bq he,?_,fun t=>?_,?_,fun g=>(hI.g g).bq he.dg,hI.y.mono he,hI.e.trans he⟩
 ·cases hd:o.dst<;>simp[Act.put,hI.tl]
 ·rw[Oe hc hI.size ho ey,hsw];by_cases hd:o.dst=some t
  ·by_cases ht:t<T0.length
   ·rw[if_pos ⟨hd,ht⟩,hd];have:(a.put (some t) v).tmps.getD t undef=v:=by simp[Act.put,hI.tl,ht]
    rw[this,cD];exact hr
   rw[if_neg (by simp[ht]),hd];have:(a.put (some t) v).tmps.getD t undef=a.tmps.getD t undef:=by simp[Act.put,hI.tl,ht]
   rw[this];exact(hI.tt t).bq he
  rw[if_neg (by simp[hd])]
  have:(a.put o.dst v).tmps.getD t undef=a.tmps.getD t undef:=by
   cases Cy:o.dst with
   |none=>rfl
   |some d=>simp only[Act.put];simp;rw[zzdf (by rintro rfl;exact hd Cy)]
  rw[this];exact(hI.tt t).bq he
 cases hd:o.dst<;>exact hI.d.bq he
def CP{R:AV->AM->Prop}{ms:List (AV×AM)}{js:List Nat}(l2:List SO)(K:AS->Prop)(hp:p<=ops.size)(hj:Qdc ops p=some js):∀(n k:Nat)(mc:AM),k+n=p->cR ops k<=ms.length->mc=Jt m ms (cR ops k)->
  iB P gl orc Y R l2 K m ms (((ops.toList.take p).drop k).map (Xf P ops)) ((flags ops p js).drop k) (ms.drop (cR ops k)) mc (bI P gl orc ops T0 m (Qz js ms) k)->
  js.length=ms.length/\
  (
   ∀i o,k<=i->i<p->ops[i]?=some o->
   (i ∉ js->(rop P gl orc (ev gl (bI P gl orc ops T0 m (Qz js ms) i)) m o.dst (tr P o)).1/\(jq ops js i=false->∀x∈ms,rop P gl orc (ev gl (bI P gl orc ops T0 m (Qz js ms) i)) x.2 o.dst (tr P o)=rop P gl orc (ev gl (bI P gl orc ops T0 m (Qz js ms) i)) m o.dst (tr P o)))/\
   (∀b x,js[b]?=some i->ms[b]?=some x->(b+1=ms.length->effR P gl Y (ev gl (bI P gl orc ops T0 m (Qz js ms) i)) (Jt m ms b) R (tr P o))/\(b+1≠ms.length->effC P gl orc Y (ev gl (bI P gl orc ops T0 m (Qz js ms) i)) (Jt m ms b) o.dst x.1 x.2 (tr P o)))/\Yb (bI P gl orc ops T0 m (Qz js ms) i) (Xf P ops o))/\
  Zx P gl orc Y l2 ⟨(bI P gl orc ops T0 m (Qz js ms) p),Jt m ms ms.length⟩ K:=by
 obtain⟨mG,_,lg⟩:=Uz hj;have cU:∀j,j∈js<->j<p/\eN ops AT j=true:=fun j=>by rw[mG,zzcp,zzbd]
 have we:js.Nodup:=by rw[mG];exact(zzdk).filter _
 have IA:∀i,i<p->eN ops AT i=true->js[cR ops i]?=some i:=fun i h1 h2=>by rw[mG];exact KH h1 h2
 have WY:∀{a b i:Nat},js[a]?=some i->js[b]?=some i->a=b:=fun{a b i}h1 h2=>Qbj we h1 h2;intro n;induction n with
 |zero=>
  intro k mc hk qt WM h;obtain rfl:k=p:=by omega
  have e0:(ops.toList.take k).drop k=[]:=zzal (by simp;omega);rw[e0]at h;simp only[zzcg,iB]at h;have fL:ms.length<=cR ops k:=zzfq.1 h.1;have Cx:cR ops k=js.length:=by rw[mG];rfl
  have hcc:cR ops k=ms.length:=by omega
  refine⟨by omega,fun i o h1 h2=>by omega,?_⟩;rw[<- hcc,<- WM];exact h.2
 |succ n ih=>
  intro k mc hk qt WM h;have cB:k<ops.size:=by omega
  have ho:ops[k]?=some ops[k]:=zzai cB
  have hd:(ops.toList.take p).drop k=ops[k]::(ops.toList.take p).drop (k+1):=by
   rw[zzaf (by simp;omega)];simp
  have fK:(flags ops p js).drop k=Vm ops js k::(flags ops p js).drop (k+1):=by
   rw[zzaf (by simp[flags];omega)];simp[flags]
  rw[hd,fK,zzay]at h;have Fc:=Ko (P:=P) (gl:=gl) (orc:=orc) (T0:=T0) (m:=m) (L:=Qz js ms) ho;have e2:(Xf P ops ops[k]).op=tr P ops[k]:=rfl;have e3:(Xf P ops ops[k]).dst=ops[k].dst:=rfl;have jh:=jx (ops:=ops) k;cases gL:js.contains k with
  |true=>
   have AU:k∈js:=by simpa using gL
   have oV:=((cU k).1 AU).2;rw[oV,if_pos rfl]at jh;rw[show Vm ops js k=.eff by simp only[Vm,gL,cond_true]]at h;simp only[iB,e2,e3]at h;split at h
   ·exact h.elim
   rename_i x q hq
   have KI:cR ops k<ms.length:=by
    rcases zzaa (cR ops k) ms.length with h'|h'
    ·exact h'
    rw[zzal h']at hq;cases hq
   have hx:ms[cR ops k]?=some x:=by
    have:(ms.drop (cR ops k))[0]?=some x:=by rw[hq];rfl
    simpa using this
   have hq':ms.drop (cR ops (k+1))=q:=by
    rw[jh,<- zzdv,hq];rfl
   obtain⟨hgr,h1,h2⟩:=h;have tP:=IA k (by omega) oV;have cD:=jt (P:=P) (gl:=gl) (orc:=orc) (ops:=ops) (m:=m) we tP hx (bI P gl orc ops T0 m (Qz js ms) k);rw[cD]at Fc
   obtain⟨r1,r2,r3⟩:=ih (k+1) x.2 (by omega) (by omega) (by rw[jh];simp[Jt,List.getD,hx]) (by
    rw[Fc,hq'];exact h2)
   refine⟨r1,fun i o hi ey CL=>?_,r3⟩;rcases zzaa k i with fH|fH
   ·exact r2 i o fH ey CL
   obtain rfl:i=k:=by omega
   rw[ho]at CL;cases CL;refine⟨fun h=>absurd AU h,fun b y hb hy=>?_,hgr⟩;obtain rfl:=WY hb tP;rw[hx]at hy;cases hy;rw[<- WM]
   have hqe:q=[]<->cR ops i+1=ms.length:=by
    rw[<- hq',jh,zzfq];omega
   exact⟨fun h=>h1.1 (hqe.2 h),fun h=>h1.2 fun e=>h (hqe.1 e)⟩
  |false=>
   have AU:k ∉ js:=by simpa using gL
   have oV:eN ops AT k=false:=by
    cases Of:eN ops AT k with
    |false=>rfl
    |true=>exact absurd ((cU k).2 ⟨by omega,Of⟩) AU
   rw[oV,if_neg (by simp),zzco]at jh
   obtain⟨hgr,h1,h2,h3⟩:Yb (bI P gl orc ops T0 m (Qz js ms) k) (Xf P ops ops[k])/\(rop P gl orc (ev gl (bI P gl orc ops T0 m (Qz js ms) k)) m ops[k].dst (tr P ops[k])).1/\(jq ops js k=false->∀x∈ms,rop P gl orc (ev gl (bI P gl orc ops T0 m (Qz js ms) k)) x.2 ops[k].dst (tr P ops[k])=rop P gl orc (ev gl (bI P gl orc ops T0 m (Qz js ms) k)) m ops[k].dst (tr P ops[k]))/\
     iB P gl orc Y R l2 K m ms (((ops.toList.take p).drop (k+1)).map (Xf P ops)) ((flags ops p js).drop (k+1)) (ms.drop (cR ops k)) mc (put (bI P gl orc ops T0 m (Qz js ms) k) ops[k].dst (rop P gl orc (ev gl (bI P gl orc ops T0 m (Qz js ms) k)) m ops[k].dst (tr P ops[k])).2):=by
    cases jd:jq ops js k with
    |true=>
     rw[show Vm ops js k=.pre by simp only[Vm,gL,jd,cond_true,cond_false]]at h;simp only[iB,e2,e3]at h;exact⟨h.1,h.2.1,fun h=>(by cases h),h.2.2⟩
    |false=>
     rw[show Vm ops js k=.oth by simp only[Vm,gL,jd,cond_false]]at h;simp only[iB,e2,e3]at h;exact⟨h.1,h.2.1,fun _=>h.2.2.1,h.2.2.2⟩
   rw[jv AU ho]at Fc;obtain⟨r1,r2,r3⟩:=ih (k+1) mc (by omega) (by omega) (by rw[jh];exact WM) (by rw[Fc,jh];exact h3);refine⟨r1,fun i o hi ey CL=>?_,r3⟩;rcases zzaa k i with fH|fH
   ·exact r2 i o fH ey CL
   obtain rfl:i=k:=by omega
   rw[ho]at CL;cases CL;refine⟨fun _=>⟨h1,h2⟩,fun b y hb=>absurd (zzac hb) AU,hgr⟩
def sA{Q:Exit->Act->World->Prop}{K:AS->Prop}{γ:G}{w:World}{s:AS}{a:Act}{js:List Nat}(hQ:∀γ w s a,K s->eW N w0 r aq S P gl Y γ w s a->Q .normal a w)(hc:wB ops p=true)(hj:Qdc ops p=some js)
  {R:AV->AM->Prop}{ms:List (AV×AM)}(uD:∀(jl:Nat),js[ms.length]?=some jl->∀(x x':AV×AM),R x.1 x.2->R x'.1 x'.2->∀listed:Array Bool,Q4 ops listed->listed.getD jl false=false->∀t,qX P gl orc ops s.T s.m (Qz js (ms++[x'])) p listed t=qX P gl orc ops s.T s.m (Qz js (ms++[x])) p listed t)(hR:∃x:AV×AM,R x.1 x.2)(h:∀x:AV×AM,R x.1 x.2->iB P gl orc Y R ((ops.toList.drop p).map (Xf P ops)) K s.m (ms++[x]) ((ops.toList.take p).map (Xf P ops)) (flags ops p js) (ms++[x]) s.m s.T)(hs:eW N w0 r aq S P gl Y γ w s a):
  wpAnyIn (FW r) 0 P .any ops Q ops.size (Array.replicate ops.size false) a {w with drawn:=w.drawn+1}:=by
 obtain⟨hp,dm⟩:=Zh hc;obtain⟨mG,hjc,lg⟩:=Uz hj;have we:js.Nodup:=by rw[mG];exact(zzdk).filter _
 have KJ:∀j∈js,j<p:=fun j h=>by rw[mG,zzcp]at h;exact zzbd.1 h.1
 have bP:=fun(x:AV×AM)(hx:R x.1 x.2)=>CP (P:=P) (gl:=gl) (orc:=orc) (T0:=s.T) (m:=s.m) ((ops.toList.drop p).map (Xf P ops)) K hp hj p 0 s.m (by simp) (by simp[cR]) (by simp[cR,Jt]) (by simpa[bI,cR]using h x hx);obtain⟨x0,hx0⟩:=hR;have cS:js.length=ms.length+1:=by have:=(bP x0 hx0).1;simpa using this
 obtain⟨jl,gN⟩:∃jl,js[ms.length]?=some jl:=⟨_,zzad (by omega)⟩
 have full:∀(x:AV×AM),R x.1 x.2->∀(bz:Nat)(listed:Array Bool)(γ:G)(w:World)(a:Act),zz N w0 r aq S Y P gl orc ops s.T s.m (ms++[x]) js (Qz js (ms++[x])) p listed γ w a->uc ops listed<=bz->(∀i,i<p->listed.getD i false=true)->wpAnyIn (FW r) 0 P .any ops Q bz listed a w:=by
  intro x hx bz listed γ w a hI uz aqV;obtain⟨aH,h1,h2⟩:=bP x hx;have bP:=aqV;have hml:Jf listed s.m js (ms++[x])=Jt s.m (ms++[x]) (ms++[x]).length:=Qbe aH (by omega) (fun b j _ hb=>bP j (KJ j (zzac hb))) (fun j hj=>by rw[zzau (by omega)]at hj;cases hj);have k8:=hI.mm;have lU:=hI.ls;rw[hml]at k8 lU;refine nG hQ hc bz p listed γ w _ a (zzab _) hp hI.size bP hI.tail uz h2 ⟨k8,lU,hI.rd,⟨?_,fun t y v hy hv=>?_⟩,hI.d,hI.g,hI.y,hI.e⟩
  ·simp[Qcl,hI.tl]
  have h1:=hI.tt t
  have hAt:qX P gl orc ops s.T s.m (Qz js (ms++[x])) p listed t=y:=by
   have jf:(bI P gl orc ops s.T s.m (Qz js (ms++[x])) p).getD t .junk=y:=by simp only at hy;simp[List.getD,hy]
   unfold qX;split
   ·exact jf
   rename_i hw;rw[<- jf];refine(Qdq p fun j hj hd=>hw ?_).symm;unfold wr;rw[zzbx];exact⟨j,zzbd.2 hj,by rw[bP j hj,hd];simp⟩
  rw[hAt]at h1;have:a.tmps.getD t undef=v:=by simp at hv;simp[hv]
  rwa [this]at h1
 have main:∀(bz:Nat)(x:AV×AM),R x.1 x.2->∀(listed:Array Bool)(γ:G)(w:World)(a:Act),zz N w0 r aq S Y P gl orc ops s.T s.m (ms++[x]) js (Qz js (ms++[x])) p listed γ w a->uc ops listed<=bz->wpAnyIn (FW r) 0 P .any ops Q bz listed a w:=by
  intro bz;induction bz with
  |zero=>
   intro x hx listed γ w a hI uz
   exact full x hx 0 listed γ w a hI uz fun i hi=>by
    rw[Xn (by rw[hI.size];omega) false true];exact oU (zzga.1 uz) (by omega)
  |succ bz ih=>
   intro x hx listed γ w a hI uz;by_cases hall2:∀i,i<p->listed.getD i false=true
   ·exact full x hx (bz+1) listed γ w a hI uz hall2
   have hex:∃k,k<p/\listed.getD k true=false:=by
    refine Classical.byContradiction fun hn=>hall2 fun i hi=>?_;rw[Xn (by rw[hI.size];omega) false true];cases hl:listed.getD i true with
    |true=>rfl
    |false=>exact absurd ⟨i,hi,hl⟩ hn
   obtain⟨k,hk,hlk⟩:=hex;refine⟨fun hr=>?_,fun i hi=>?_⟩
   ·obtain⟨j,hj⟩:=Ww hc hI.size k k (zzab _) (by omega) hlk;rw[hr]at hj;cases hj
   obtain⟨ai,hu,o,ho,cO⟩:=Wx hc hi
   have ey:i<p:=by
    rcases zzaa i p with h|h
    ·exact h
    have:=jo hI.clo ho ((dm i o ho).2.2 h) cO i k (by omega) (by omega);rw[Xn (by rw[hI.size];omega) false true,hlk]at this;cases this
   obtain⟨aH,h1,_⟩:=bP x hx;obtain⟨h1a,h1b,h1g⟩:=h1 i o (zzbz _) ey ho;by_cases ek:i=jl
   ·subst ek;refine wpOpIn_mono ?_ (KL hc hI ho ey h1g aH we gN hu cO (fun a j e1 e2=>uC hjc a j i o e1 e2 ho) (fun x' jf=>uD i gN x x' hx jf listed hI.clo (by rw[Xn (by rw[hI.size];exact ai) false true];exact hu)) ((h1b ms.length x gN (by simp)).1 (by simp)));rintro a' w' ⟨γ',x',jf,zy⟩;refine ih x' jf _ γ' w' a' zy ?_;have:=wD hI.size ai hu;omega
   refine wpOpIn_mono ?_ (sx hc hI ho ey h1g aH we hu cO (fun a j e1 e2=>uC hjc a j i o e1 e2 ho) (fun h=>.inl (h1a h)) (fun k y e1 e2=>(h1b k y e1 e2).2 fun e=>ek (by
    have hk:k=ms.length:=by simpa using e
    subst hk;rw[gN]at e1;exact(Option.some.inj e1).symm)))
   rintro a' w' ⟨γ',zy⟩;refine ih x hx _ γ' w' a' zy ?_;have:=wD hI.size ai hu;omega
 have AR:∀j,(Array.replicate ops.size false).getD j false=false:=fun j=>by
  rcases zzaa j ops.size with h|h<;>simp[h]
 have CO:∀js':List Nat,chn (Array.replicate ops.size false) js':=fun js'=>by
  induction js' with
  |nil=>trivial
  |cons j r ih=>
   cases r with
   |nil=>trivial
   |cons j' r=>exact⟨fun h=>(by rw[AR]at h;cases h),ih⟩
 have Td:Jf (Array.replicate ops.size false) s.m js (ms++[x0])=s.m:=Qbe (a:=0) (bP x0 hx0).1 (by omega) (fun b j hb=>by omega) (fun j _=>AR j);refine main ops.size x0 hx0 _ γ w.drew a ⟨by simp,fun i _ hi=>by simp[hi],CO js,fun j o h=>(by rw[AR]at h;cases h),?_,?_,hs.rd.bq (Ev.drew w γ).dJ,?_,fun t=>?_,hs.d.bq (Ev.drew w γ).dJ,fun g=>(hs.g g).mono (Ev.drew w γ).dg,hs.y.mono (Ev.drew w γ).dJ,hs.e.trans (Ev.drew w γ).dJ⟩ ?_
 ·rw[Td];exact hs.m.drew
 ·rw[Td];exact hs.ls.mono (Ev.drew w γ)
 ·have:=hs.t.1;simp at this;omega
 ·have hw:wr ops p (Array.replicate ops.size false) t=false:=by
   unfold wr;rw[zzep];intro j _;rw[AR j];simp
  unfold qX;rw[hw];simp only[zzbq,if_false];have:=(hs.t.mono (Ev.drew w γ)).get t;simpa[List.getD]using this
 unfold uc;exact zzbn (zzfn) (by simp)
def W0{L L':List (Nat×AV)}(hc:wB ops p=true){listed:Array Bool}{jl:Nat}(gN:listed.getD jl false=false)(hL:∀i,i<jl->Fp L i=Fp L' i)
  (ja:∀k,jl<k->k<p->tU P gl orc ops m L k (bI P gl orc ops T0 m L k)=tU P gl orc ops m L' k (bI P gl orc ops T0 m L' k))(hjp:jl<p)(t:Nat):qX P gl orc ops T0 m L p listed t=qX P gl orc ops T0 m L' p listed t:=by
 obtain⟨hp,dm⟩:=Zh hc;unfold qX;cases hw:wr ops p listed t with
 |false=>simp
 |true=>
  simp only[if_true];unfold wr at hw;obtain⟨j,hj,hjd⟩:=zzbx.1 hw;simp only[zzak,beq_iff_eq]at hjd;obtain⟨hl,hd⟩:=hjd;have alQ:=zzbd.1 hj;have mG:j<ops.size:=by omega
  have hjo:ops[j]?=some ops[j]:=zzai mG
  have eO:∀(L:List (Nat×AV)),(bI P gl orc ops T0 m L p).getD t .junk=(bI P gl orc ops T0 m L (j+1)).getD t .junk:=fun L=>by
   have:=Qdp (P:=P) (gl:=gl) (orc:=orc) (ops:=ops) (T0:=T0) (m:=m) (L:=L) (t:=t) (k:=j+1) (p-(j+1)) fun k cQ cV Fj=>by
    have hk:k<ops.size:=by omega
    have Fk:ops[k]?=some ops[k]:=zzai hk;have:=((dm k _ Fk).2.1 (by omega)).2 j (by omega) t hd;simp[Ye,Fk]at Fj;exact this Fj
   rwa [show j+1+(p-(j+1))=p by omega]at this
  rw[eO L,eO L'];rcases zzeo j jl with h|h|h
  ·rw[wL hL (j+1) (by omega)]
  ·subst h;rw[hl]at gN;cases gN
  have hv:=ja j h alQ;have hdo:ops[j].dst=some t:=by simpa[Ye,hjo]using hd
  rw[Ko hjo,Ko hjo,hv,hdo];have aH:(bI P gl orc ops T0 m L j).length=(bI P gl orc ops T0 m L' j).length:=by rw[Qcl,Qcl]
  by_cases ht:t<(bI P gl orc ops T0 m L j).length
  ·rw[Ws ht,Ws (by omega)]
  simp only[put,List.getD];rw[zzau (by rw[zzca];omega),zzau (by rw[zzca];omega)]
def Ft{Q:Exit->Act->World->Prop}{K:AS->Prop}{γ:G}{w:World}{s:AS}{a:Act}{js:List Nat}(hQ:∀γ w s a,K s->eW N w0 r aq S P gl Y γ w s a->Q .normal a w)(hc:wB ops p=true)(hj:Qdc ops p=some js)
  (hbk:wK ops p js=true){R:AV->AM->Prop}{ms:List (AV×AM)}(hR:∃x:AV×AM,R x.1 x.2)(h:∀x:AV×AM,R x.1 x.2->iB P gl orc Y R ((ops.toList.drop p).map (Xf P ops)) K s.m (ms++[x]) ((ops.toList.take p).map (Xf P ops)) (flags ops p js) (ms++[x]) s.m s.T)(hs:eW N w0 r aq S P gl Y γ w s a):
  wpAnyIn (FW r) 0 P .any ops Q ops.size (Array.replicate ops.size false) a {w with drawn:=w.drawn+1}:=by
 obtain⟨hp,dm⟩:=Zh hc;obtain⟨mG,hjc,lg⟩:=Uz hj;have KJ:∀j∈js,j<p:=fun j h=>by rw[mG,zzcp]at h;exact zzbd.1 h.1
 have bP:=fun(x:AV×AM)(hx:R x.1 x.2)=>CP (P:=P) (gl:=gl) (orc:=orc) (T0:=s.T) (m:=s.m) ((ops.toList.drop p).map (Xf P ops)) K hp hj p 0 s.m (by simp) (by simp[cR]) (by simp[cR,Jt]) (by simpa[bI,cR]using h x hx);obtain⟨x0,hx0⟩:=hR;have cS:js.length=ms.length+1:=by have:=(bP x0 hx0).1;simpa using this
 refine sA hQ hc hj (fun jl gN x x' _ _ listed KE KF t=>?_) ⟨x0,hx0⟩ h hs
 have WZ:∀k,jl<k->k<p->(Fo ops k [k]).contains jl=true:=fun k cQ cV=>by
  unfold wK at hbk;have hg:js.getLast?=some jl:=by rw[zzfc,cS];simpa using gN
  rw[hg]at hbk;have:=zzbh.1 hbk k (zzbd.2 cV);simp only[zzh,decide_eq_true_eq]at this;obtain h|h:=this
  ·omega
  exact h
 exact KK hc KE KF (fun j hj=>nH gN (by omega)) WZ (KJ _ (zzac gN)) t
def CQ{k k':Nat}(h:k<=k'):cR ops k<=cR ops k':=by
 induction k' with
 |zero=>
  obtain rfl:k=0:=by omega
  exact zzab _
 |succ n ih=>
  rcases zzaa k (n+1)with h'|h'
  ·have:=ih (by omega);have:=jx (ops:=ops) n;split at this<;>omega
  obtain rfl:k=n+1:=by omega
  exact zzab _
def Fu{ms:List (AV×AM)}{x:AV×AM}{js:List Nat}{jl:Nat}(hp:p<=ops.size)(hj:Qdc ops p=some js)(cS:js.length=ms.length+1)(gN:js[ms.length]?=some jl):∀(n k:Nat),k+n=p->∀i,k<=i->i<p->jl<i->
  (Zj P gl orc m (((ops.toList.take p).drop k).map (Xf P ops)) ((flags ops p js).drop k) ((ms++[x]).drop (cR ops k)) (bI P gl orc ops T0 m (Qz js (ms++[x])) k))[i-max k (jl+1)]?=some (tU P gl orc ops m (Qz js (ms++[x])) i (bI P gl orc ops T0 m (Qz js (ms++[x])) i)):=by
 obtain⟨mG,_,lg⟩:=Uz hj;have cU:∀j,j∈js<->j<p/\eN ops AT j=true:=fun j=>by rw[mG,zzcp,zzbd]
 have we:js.Nodup:=by rw[mG];exact(zzdk).filter _
 have IA:∀i,i<p->eN ops AT i=true->js[cR ops i]?=some i:=fun i h1 h2=>by rw[mG];exact KH h1 h2
 have hjm:=(cU jl).1 (zzac gN);have hcj:cR ops jl=ms.length:=Qbj we (IA jl hjm.1 hjm.2) gN;have ayf:cR ops (jl+1)=ms.length+1:=by rw[jx,if_pos hjm.2,hcj]
 have eO:∀k,k∈js->k<=jl:=fun k hk=>by
  obtain⟨h1,h2⟩:=(cU k).1 hk;rcases zzaa jl k with h|h
  ·have:=CQ (ops:=ops) (show jl+1<=k by omega);have h3:=(zza.1 (IA k h1 h2)).1;omega
  exact h
 intro n;induction n with
 |zero=>intro k hk i hi ey;omega
 |succ n ih=>
  intro k hk i hi ey ek;have cB:k<ops.size:=by omega
  have ho:ops[k]?=some ops[k]:=zzai cB
  have hd:(ops.toList.take p).drop k=ops[k]::(ops.toList.take p).drop (k+1):=by
   rw[zzaf (by simp;omega)];simp
  have fK:(flags ops p js).drop k=Vm ops js k::(flags ops p js).drop (k+1):=by
   rw[zzaf (by simp[flags];omega)];simp[flags]
  have Fc:=Ko (P:=P) (gl:=gl) (orc:=orc) (T0:=T0) (m:=m) (L:=Qz js (ms++[x])) ho;have jh:=jx (ops:=ops) k;have e2:(Xf P ops ops[k]).op=tr P ops[k]:=rfl;have e3:(Xf P ops ops[k]).dst=ops[k].dst:=rfl;rw[hd,fK,zzay];cases gL:js.contains k with
  |true=>
   have AU:k∈js:=by simpa using gL
   have qv:=eO k AU;have oV:=((cU k).1 AU).2;rw[oV,if_pos rfl]at jh;rw[show Vm ops js k=.eff by simp only[Vm,gL,cond_true]];have KI:cR ops k<(ms++[x]).length:=by have:=CQ (ops:=ops) qv;simp;omega
   obtain⟨y,hy⟩:∃y,(ms++[x])[cR ops k]?=some y:=⟨_,zzad KI⟩
   have hq:(ms++[x]).drop (cR ops k)=y::(ms++[x]).drop (cR ops (k+1)):=by
    rw[zzaf KI,jh,(zza.1 hy).2]
   rw[hq];simp only[Zj,e3];have cD:=jt (P:=P) (gl:=gl) (orc:=orc) (ops:=ops) (m:=m) we (IA k (by omega) oV) hy (bI P gl orc ops T0 m (Qz js (ms++[x])) k);rw[cD]at Fc;rw[<- Fc,show max k (jl+1)=max (k+1) (jl+1) by omega];exact ih (k+1) (by omega) i (by omega) ey ek
  |false=>
   have AU:k ∉ js:=by simpa using gL
   have oV:eN ops AT k=false:=by
    cases Of:eN ops AT k with
    |false=>rfl
    |true=>exact absurd ((cU k).2 ⟨by omega,Of⟩) AU
   rw[oV,if_neg (by simp)]at jh;have jh:cR ops (k+1)=cR ops k:=jh;have cD:=jv (P:=P) (gl:=gl) (orc:=orc) (m:=m) (ms:=ms++[x]) AU ho (bI P gl orc ops T0 m (Qz js (ms++[x])) k)
   have hfg:Vm ops js k≠.eff:=by
    simp only[Vm,gL,cond_false];cases jq ops js k<;>simp
   rw[cD]at Fc;rcases zzaa jl k with tP|tP
   ·have hq:(ms++[x]).drop (cR ops k)=[]:=zzal (by have:=CQ (ops:=ops) (show jl+1<=k by omega);simp;omega);rw[hq]
    have W3:Zj P gl orc m (Xf P ops ops[k]::((ops.toList.take p).drop (k+1)).map (Xf P ops)) (Vm ops js k::(flags ops p js).drop (k+1)) [] (bI P gl orc ops T0 m (Qz js (ms++[x])) k)=
      (rop P gl orc (ev gl (bI P gl orc ops T0 m (Qz js (ms++[x])) k)) m ops[k].dst (tr P ops[k])).2::Zj P gl orc m (((ops.toList.take p).drop (k+1)).map (Xf P ops)) ((flags ops p js).drop (k+1)) [] (put (bI P gl orc ops T0 m (Qz js (ms++[x])) k) ops[k].dst (rop P gl orc (ev gl (bI P gl orc ops T0 m (Qz js (ms++[x])) k)) m ops[k].dst (tr P ops[k])).2):=by
     cases hf:Vm ops js k<;>first|exact absurd hf hfg|(simp only[Zj];rfl)
    rw[W3];rcases zzaa k i with fH|fH
    ·rw[show i-max k (jl+1)=(i-max (k+1) (jl+1))+1 by omega,zzde,<- Fc];have:=ih (k+1) (by omega) i (by omega) ey ek;rw[jh,hq]at this;exact this
    obtain rfl:i=k:=by omega
    rw[show i-max i (jl+1)=0 by omega,zzgu,cD]
   have ayg:k≠jl:=fun e=>AU (by rw[e];exact zzac gN);have KI:cR ops k<(ms++[x]).length:=by have:=CQ (ops:=ops) tP;simp;omega
   obtain⟨y,hy⟩:∃y,(ms++[x])[cR ops k]?=some y:=⟨_,zzad KI⟩
   have hq:(ms++[x]).drop (cR ops k)=y::(ms++[x]).drop (cR ops k+1):=by
    rw[zzaf KI,(zza.1 hy).2]
   have ih':=ih (k+1) (by omega) i (by omega) ey ek;rw[jh,hq,Fc]at ih';rw[hq,show max k (jl+1)=max (k+1) (jl+1) by omega]
   have W3:Zj P gl orc m (Xf P ops ops[k]::((ops.toList.take p).drop (k+1)).map (Xf P ops)) (Vm ops js k::(flags ops p js).drop (k+1)) (y::(ms++[x]).drop (cR ops k+1)) (bI P gl orc ops T0 m (Qz js (ms++[x])) k)=
     Zj P gl orc m (((ops.toList.take p).drop (k+1)).map (Xf P ops)) ((flags ops p js).drop (k+1)) (y::(ms++[x]).drop (cR ops k+1)) (put (bI P gl orc ops T0 m (Qz js (ms++[x])) k) ops[k].dst (rop P gl orc (ev gl (bI P gl orc ops T0 m (Qz js (ms++[x])) k)) m ops[k].dst (tr P ops[k])).2):=by
    cases hf:Vm ops js k<;>first|exact absurd hf hfg|(simp only[Zj];rfl)
   rw[W3];exact ih'
def Fv{Q:Exit->Act->World->Prop}{K:AS->Prop}{γ:G}{w:World}{s:AS}{a:Act}{js:List Nat}(hQ:∀γ w s a,K s->eW N w0 r aq S P gl Y γ w s a->Q .normal a w)(hc:wB ops p=true)(hj:Qdc ops p=some js)
  {R:AV->AM->Prop}{ms:List (AV×AM)}{Vs:List AV}(hR:∃x:AV×AM,R x.1 x.2)(h:∀x:AV×AM,R x.1 x.2->iB P gl orc Y R ((ops.toList.drop p).map (Xf P ops)) K s.m (ms++[x]) ((ops.toList.take p).map (Xf P ops)) (flags ops p js) (ms++[x]) s.m s.T)
  (hv:∀x:AV×AM,R x.1 x.2->Zj P gl orc s.m ((ops.toList.take p).map (Xf P ops)) (flags ops p js) (ms++[x]) s.T=Vs)(hs:eW N w0 r aq S P gl Y γ w s a):
  wpAnyIn (FW r) 0 P .any ops Q ops.size (Array.replicate ops.size false) a {w with drawn:=w.drawn+1}:=by
 obtain⟨hp,dm⟩:=Zh hc;obtain⟨mG,hjc,lg⟩:=Uz hj;have KJ:∀j∈js,j<p:=fun j h=>by rw[mG,zzcp]at h;exact zzbd.1 h.1
 have bP:=fun(x:AV×AM)(hx:R x.1 x.2)=>CP (P:=P) (gl:=gl) (orc:=orc) (T0:=s.T) (m:=s.m) ((ops.toList.drop p).map (Xf P ops)) K hp hj p 0 s.m (by simp) (by simp[cR]) (by simp[cR,Jt]) (by simpa[bI,cR]using h x hx);obtain⟨x0,hx0⟩:=hR;have cS:js.length=ms.length+1:=by have:=(bP x0 hx0).1;simpa using this
 refine sA hQ hc hj (fun jl gN x x' hx jf listed KE KF t=>?_) ⟨x0,hx0⟩ h hs;refine W0 hc KF (fun j hj=>nH gN (by omega)) (fun k cQ cV=>?_) (KJ _ (zzac gN)) t;have g1:=Fu (P:=P) (gl:=gl) (orc:=orc) (T0:=s.T) (m:=s.m) (x:=x) hp hj cS gN p 0 (by simp) k (zzbz _) cV cQ;have g2:=Fu (P:=P) (gl:=gl) (orc:=orc) (T0:=s.T) (m:=s.m) (x:=x') hp hj cS gN p 0 (by simp) k (zzbz _) cV cQ;have v1:=hv x hx;have v2:=hv x' jf;simp only[zzdb,bI,show cR ops 0=0 from rfl]at g1 g2;rw[v1]at g1;rw[v2]at g2;rw[g1]at g2;exact(Option.some.inj g2).symm
end
open Go Go.RowKit
inductive SC where
 |skip
 |ops (l:List SO)
 |draw (l l2:List SO)
 |drawE (fl:List Fg) (l l2:List SO)
 |seq (a b:SC)
 |cond (x:bL) (a b:SC)
 |block (id:Nat) (c:SC)
 |loop (c:SC)
 |exit (id:Nat)
 |scope (c:SC)
 |rfunc (g:bL) (ps:List Nat) (lY body:SC)
 |ret
 |bad
def tV:List Nat->SC->SC
 |[],c=>c
 |0::p,.seq x _=>tV p x
 |_::p,.seq _ x=>tV p x
 |0::p,.cond _ x _=>tV p x
 |_::p,.cond _ _ x=>tV p x
 |_::p,.block _ x=>tV p x
 |_::p,.loop x=>tV p x
 |_::p,.scope x=>tV p x
 |0::p,.rfunc _ _ x _=>tV p x
 |_::p,.rfunc _ _ _ x=>tV p x
 |_,c=>c
def zB:List Nat->SC->SC->SC
 |[],_,t=>t
 |0::p,.seq x y,t=>.seq (zB p x t) y
 |_::p,.seq y x,t=>.seq y (zB p x t)
 |0::p,.cond c x y,t=>.cond c (zB p x t) y
 |_::p,.cond c y x,t=>.cond c y (zB p x t)
 |_::p,.block n x,t=>.block n (zB p x t)
 |_::p,.loop x,t=>.loop (zB p x t)
 |_::p,.scope x,t=>.scope (zB p x t)
 |0::p,.rfunc g l x y,t=>.rfunc g l (zB p x t) y
 |_::p,.rfunc g l y x,t=>.rfunc g l y (zB p x t)
 |_,c,_=>c
def alR(n:Nat):List Nat->List Nat
 |[]=>[n]
 |k::l=>bif n.ble k then(bif n.beq k then k::l else n::k::l)else k::alR n l
def KM(r:List Nat):List SO->List Nat
 |[]=>r
 |o::l=>match o.dst with|some n=>alR n (KM r l)|none=>KM r l
def aqW(r:List Nat):List Nat->List Nat
 |[]=>r
 |n::l=>alR n (aqW r l)
def rW(r:List Nat):SC->List Nat
 |.ops l=>KM r l
 |.draw l k=>KM (KM r k) l
 |.drawE _ l k=>KM (KM r k) l
 |.seq x y=>rW (rW r y) x
 |.cond _ x y=>rW (rW r y) x
 |.block _ x=>rW r x
 |.loop x=>rW r x
 |.scope x=>rW r x
 |.rfunc _ l x y=>rW (rW (aqW r l) y) x
 |_=>r
abbrev tW(p:List Nat)(c:SC):={x:SC // x=tV p c}
abbrev uE(p:List Nat)(c:SC):={x:SC->SC // ∀t,x t=zB p c t}
abbrev wT(p:List Nat)(c:SC):={x:List Nat // x=rW [] (tV p c)}
def Qbm{P:Program}{ops:Array Oper}{p:Nat}{js:List Nat}(hc:wB ops p=true):(flags ops p js).length=((ops.toList.take p).map (Xf P ops)).length:=by
 have:=(Zh hc).1;simp[flags];omega
def alS{P:Program}{ops:Array Oper}{p:Nat}{js:List Nat}(hc:wB ops p=true)(h:aeH (flags ops p js++bkF ops p js) ((ops.toList.take p).map (Xf P ops))=true):wK ops p js=true:=by
 unfold aeH at h;rw[<- Qbm (js:=js) hc,zzfk]at h;unfold bkF at h;cases hb:wK ops p js with
 |true=>rfl
 |false=>rw[hb]at h;simp at h
def Yq(P:Program):Code->SC
 |.skip=>.skip
 |.region _ ops false=>.ops (ops.toList.map (Xf P ops))
 |.region _ ops true=>if P.follows .mixedOrders&&wB ops (jk ops)then(match Qdc ops (jk ops)with
  |some js=>.drawE (flags ops (jk ops) js++bkF ops (jk ops) js) ((ops.toList.take (jk ops)).map (Xf P ops)) ((ops.toList.drop (jk ops)).map (Xf P ops))
  |none=>.draw ((ops.toList.take (jk ops)).map (Xf P ops)) ((ops.toList.drop (jk ops)).map (Xf P ops)))else .bad
 |.seq a b=>.seq (Yq P a) (Yq P b)
 |.cond c a b=>.cond (aA c) (Yq P a) (Yq P b)
 |.block id c=>.block id (Yq P c)
 |.loop c=>.loop (Yq P c)
 |.exit id=>.exit id
 |.label _=>.skip
 |.scope c=>.scope (Yq P c)
 |.rangeFunc g ps lY body=>.rfunc (aA g) ps.toList (Yq P lY) (Yq P body)
 |.ret=>.ret
 |_=>.bad
def qw(st:Nat->LS)(l:Nat)(x:LS):Nat->LS:=fun i=>if i=l then x else st i
def AM.at_(m:AM)(l:Nat)(x:LS):AM:={m with st:=qw m.st l x}
def AM.aY(m:AM):AM:={m with st:=qw m.st m.ln .ready,ln:=m.ln+1}
def Qar(T:List AV):List Nat->List AV->List AV
 |p::ps,x::xs=>Qar (T.set p x) ps xs
 |_,_=>T
section vc
variable (P:Program) (gl:Nat->AV) (orc:Nat->FuncId->List AV->AV) (Y:YT)
def W4(k:AS->(Exit->AS->Prop)->Prop)(Q:Exit->AS->Prop):Exit->AS->Prop
 |.normal,s=>k s Q
 |ex,s=>Q ex s
def qY(id:Nat)(Q:Exit->AS->Prop):Exit->AS->Prop
 |.exit id',s=>if id'=id then Q .normal s else Q (.exit id') s
 |ex,s=>Q ex s
def wM(Q:Exit->AS->Prop):Exit->AS->Prop
 |.goto _,_=>False
 |ex,s=>Q ex s
def nI(I:AS->Prop)(μ:AS->Nat)(s:AS)(Q:Exit->AS->Prop):Exit->AS->Prop
 |.normal,s'=>I s'/\μ s'<μ s
 |ex,s'=>Q ex s'
def KN(l:Nat)(K:Bool->AM->Prop):Exit->AS->Prop
 |.normal,s=>K true (s.m.at_ l .ready)
 |.ret,s=>K false (s.m.at_ l (.done .ret))
 |.exit id,s=>K false (s.m.at_ l (.done (.exit id)))
 |_,_=>False
def Fw(l:Nat)(k:AS->Prop):Exit->AS->Prop
 |.normal,s=>s.m.st l=.ready/\k ⟨s.T,s.m.at_ l .busy⟩
 |_,_=>False
def zC(l:Nat)(T:List AV)(m:AM)(Q:Exit->AS->Prop):LS->Prop
 |.ready=>Q .normal ⟨T,m.at_ l .gone⟩
 |.done ex=>Q ex ⟨T,m.at_ l .gone⟩
 |_=>False
def Yin(l n:Nat)(k:List AV->AM->(Bool->AM->Prop)->Prop):YT:=fun l' args m K=>if l'=l then m.st l=.ready/\args.length=n/\k args m K else Y l' args m K
def vc:SC->AS->(Exit->AS->Prop)->Prop
 |.skip,s,Q=>Q .normal s
 |.ops l,s,Q=>Zx P gl orc Y l s (Q .normal)
 |.draw l l2,s,Q=>vcD P gl orc Y l2 (Q .normal) l s.T s.m []
 |.drawE fl l l2,s,Q=>vcD P gl orc Y l2 (Q .normal) l s.T s.m []\/(∃ms,uB P gl orc Y l2 (Q .normal) s.m ms l fl ms s.m s.T)\/(aeH fl l=true/\∃(ms:List (AV×AM))(R:AV->AM->Prop),(∃x:AV×AM,R x.1 x.2)/\∀x:AV×AM,R x.1 x.2->iB P gl orc Y R l2 (Q .normal) s.m (ms++[x]) l fl (ms++[x]) s.m s.T)\/(∃(ms:List (AV×AM))(R:AV->AM->Prop)(Vs:List AV),(∃x:AV×AM,R x.1 x.2)/\∀x:AV×AM,R x.1 x.2->iB P gl orc Y R l2 (Q .normal) s.m (ms++[x]) l fl (ms++[x]) s.m s.T/\Zj P gl orc s.m l fl (ms++[x]) s.T=Vs)\/∃ms,k6 P gl orc Y l2 (Q .normal) s.m ms l fl ms s.m s.T
 |.seq a b,s,Q=>vc a s (W4 (vc b) Q)
 |.cond x a b,s,Q=>match ev gl s.T x with
  |.bool t=>(t=true->vc a s Q)/\(t=false->vc b s Q)
  |_=>False
 |.block id c,s,Q=>vc c s (qY id Q)
 |.loop c,s,Q=>∃(I:AS->Prop)(μ:AS->Nat),I s/\∀s',I s'->vc c s' (nI I μ s' Q)
 |.exit id,s,Q=>Q (.exit id) s
 |.scope c,s,Q=>vc c s (wM Q)
 |.rfunc g ps lY body,s,Q=>match ev gl s.T g with
  |.fn f first cap=>s.m.st s.m.ln=.gone->an P gl (Yin Y s.m.ln ps.length fun args m K=>vc lY ⟨Qar s.T ps args,m⟩ (Fw s.m.ln fun s'=>vc body s' (KN s.m.ln K))) f (first++[.yld s.m.ln]++cap) (s.m.aY)
    fun _ m'=>zC s.m.ln s.T m' Q (m'.st s.m.ln)
  |_=>False
 |.ret,s,Q=>Q .ret s
 |.bad,_,_=>False
end vc
section
variable {N:Nat} {w0:iy} {r:Option Nat} {aq:Nat->Nat->Prop} {S:G×World} {Y:YT} {P:Program} {gl:Nat->AV} {orc:Nat->FuncId->List AV->AV} {γ:G} {w:World}
def lift(N:Nat)(w0:iy)(r:Option Nat)(aq:Nat->Nat->Prop)(S:G×World)(P:Program)(gl:Nat->AV)(Y:YT)(Q:Exit->AS->Prop):Exit->Act->World->Prop:=fun ex a w=>∃γ s,eW N w0 r aq S P gl Y γ w s a/\Q ex s
def au.W5{B:Nat->Option (List AV)}{L:Nat->Option Nat}(hm:au N w0 aq γ w B L)(o:Obj):
  au N w0 aq {γ with sp:=fun b=>γ.sp b\/b=w.heap.size} (w.alloc o) B L/\Ev w γ (w.alloc o) {γ with sp:=fun b=>γ.sp b\/b=w.heap.size}:=by
 have cw:Ev w γ (w.alloc o) {γ with sp:=fun b=>γ.sp b\/b=w.heap.size}:=
  ⟨by simp,fun b o' hb hr=>⟨hr,cell_of_heap (Below.heap_alloc w o b hb)⟩,fun _ _ h=>h,fun _=>zzab _,fun _ _ h=>h,rfl,
   fun i b _ ho=>⟨ho,fun arr e he=>⟨arr,by rw[Below.heap_alloc w o b (hm.own i b ho).2.1];exact he,zzab _⟩,fun _ h=>h⟩,
   fun b hb=>⟨.inl hb,Below.heap_alloc w o b (hm.sp b hb).2.1⟩,Sz.of_same (Below.heap_alloc w o)⟩
 refine⟨⟨w0.st _ _ _ _ hm.bs ⟨rfl,rfl,rfl,by simp,fun b hb _=>Below.heap_alloc w _ b hb,cw.ro,fun b hb=>?_,fun _ _ h=>.inl h⟩,by have:=hm.hN;simp;omega,hm.aq,fun b o h=>by have:=hm.robd b o h;simp;omega,
  fun id cells b hb h1=>?_,fun id b hb=>?_,hm.inj,fun id b hb=>?_,hm.oinj,fun b hb=>?_,fun id b hb=>?_,hm.minj,hm.len,hm.cur0⟩,cw⟩
 ·obtain hb|hb|(hb|rfl)|hb:=hb
  ·exact .inl (.inl hb)
  ·exact .inl (.inr (.inl hb))
  ·exact .inl (.inr (.inr (.inl hb)))
  ·exact .inr (zzab _)
  exact .inl (.inr (.inr (.inr hb)))
 ·obtain⟨arr,e,h2,h3,h4⟩:=hm.box id cells b hb h1;exact⟨arr,e,by rw[Below.heap_alloc w _ b (aT h2)];exact h2,h3.mono cw,h4⟩
 ·obtain⟨h1,h2,h3⟩:=hm.β id b hb;exact⟨h1,by simp;omega,h3⟩
 ·obtain⟨h1,h2,h3⟩:=hm.own id b hb;exact⟨h1,by simp;omega,h3⟩
 ·obtain hb|rfl:=hb
  ·obtain⟨h1,h2,h3⟩:=hm.sp b hb;exact⟨h1,by simp;omega,h3⟩
  refine⟨hm.hN,by simp,fun o' h=>?_,fun id h=>?_,fun id h=>?_⟩
  ·have:=hm.robd _ _ h;omega
  ·have:=(hm.β id _ h).2.1;omega
  have:=(hm.own id _ h).2.1;omega
 obtain⟨h1,h2,h3,h4,h5,h6,h8,h7⟩:=hm.mm id b hb;refine⟨h1,by simp;omega,h3,h4,h5,?_,h8,h7.mono cw.dJ.D8 (Below.heap_alloc w o b h2)⟩;rintro(h|rfl)
 ·exact h6 h
 omega
def au.ajp{B:Nat->Option (List AV)}{L:Nat->Option Nat}(hm:au N w0 aq γ w B L){D:Nat}(hD:γ.sp D){o o0:Obj}(h0:w.heap[D]?=some o0)(hnc:∀c e f,o0≠.cells c e f)(av4:∀c e f,o≠.cells c e f)
  {γ':G}(hγ:γ'=γ\/γ'={γ with sp:=fun b=>γ.sp b/\b≠D})(aqX:γ'=γ->qJ (some o0) (some o)):
  au N w0 aq γ' (w.putObj D o) B L/\NY w γ (w.putObj D o) γ'/\(∀wS γS,eM wS γS w γ->(γ'=γ\/¬γS.sp D)->eM wS γS (w.putObj D o) γ'):=by
 have ai:D<w.heap.size:=aT h0;have cN:∀b,b≠D->(w.putObj D o).heap[b]?=w.heap[b]?:=fun b hb=>World.putObj_heap_other hb;have Fa:(w.putObj D o).heap[D]?=some o:=World.putObj_heap_same ai
 have bM:∀b o',(w.putObj D o).cell? ⟨b,o',none⟩=w.cell? ⟨b,o',none⟩:=fun b o'=>by
  by_cases hb:b=D
  ·subst hb;simp only[World.cell?,Fa,h0];cases o<;>cases o0<;>first|rfl|exact absurd rfl (hnc _ _ _)|exact absurd rfl (av4 _ _ _)
  exact cell_of_heap (cN b hb)
 have hβ:γ'.β=γ.β:=by rcases hγ with rfl|rfl<;>rfl
 have eY:γ'.own=γ.own:=by rcases hγ with rfl|rfl<;>rfl
 have dA:γ'.cur=γ.cur:=by rcases hγ with rfl|rfl<;>rfl
 have dQ:γ'.ro=γ.ro:=by rcases hγ with rfl|rfl<;>rfl
 have k8:γ'.mm=γ.mm:=by rcases hγ with rfl|rfl<;>rfl
 have hlp:γ'.lp=γ.lp:=by rcases hγ with rfl|rfl<;>rfl
 have dm:∀b,γ'.sp b->γ.sp b:=by obtain rfl|rfl:=hγ;exact fun _ h=>h;exact fun _ h=>h.1
 have alT:∀b,γ.sp b->b≠D->γ'.sp b:=fun b hb h=>by
  obtain rfl|rfl:=hγ
  ·exact hb
  exact⟨hb,h⟩
 have hsz:Sz w (w.putObj D o):=fun b' arr e f h=>⟨arr,by rw[cN b' (by rintro rfl;rw[h0]at h;cases h;exact hnc _ _ _ rfl)];exact h,rfl⟩
 have aeI:NY w γ (w.putObj D o) γ':=by
  refine⟨by simp,fun b o' _ hr=>⟨by rw[dQ];exact hr,bM b o'⟩,fun _ _ h=>by rw[hβ];exact h,fun _=>by rw[dA];exact zzab _,fun _ _ h=>by rw[k8];exact h,fun _ _ h=>by rw[hlp];exact h,fun id b _ ho=>⟨by rw[eY];exact ho,fun arr e he=>⟨arr,?_,zzab _⟩,fun _ h=>by rw[dQ]at h;exact h⟩,hsz⟩;rw[cN b (by rintro rfl;exact(hm.sp b hD).2.2.2.2 id ho)];exact he
 refine⟨⟨w0.st _ _ _ _ hm.bs ⟨rfl,rfl,rfl,by simp,fun b _ Cq=>cN b (by rintro rfl;exact Cq (.inr (.inr (.inl hD)))),aeI.ro,fun b hb=>.inl ?_,fun b o' h=>.inl (by rw[dQ]at h;exact h)⟩,by simpa using hm.hN,
  fun b o' h=>hm.aq b o' (by rw[dQ]at h;exact h),fun b o' h=>by rw[dQ]at h;simpa using hm.robd b o' h,fun id cells b hb h1=>?_,fun id b hb=>?_,fun id id' b h h'=>hm.inj id id' b (by rw[hβ]at h;exact h) (by rw[hβ]at h';exact h'),
  fun id b hb=>?_,fun id id' b h h'=>hm.oinj id id' b (by rw[eY]at h;exact h) (by rw[eY]at h';exact h'),fun b hb=>?_,fun id b hb=>?_,fun id id' b h h'=>hm.minj id id' b (by rw[k8]at h;exact h) (by rw[k8]at h';exact h'),fun id n h=>by rw[dA];exact hm.len id n h,fun id h=>by rw[dA];exact hm.cur0 id h⟩,aeI,fun wS γS e hc=>?_⟩
 ·obtain⟨id,hb⟩|⟨id,hb⟩|hb|⟨F,hb⟩:=hb
  ·rw[hβ]at hb;exact .inl ⟨id,hb⟩
  ·rw[eY]at hb;exact .inr (.inl ⟨id,hb⟩)
  ·exact .inr (.inr (.inl (dm b hb)))
  rw[k8]at hb;exact .inr (.inr (.inr ⟨F,hb⟩))
 ·rw[hβ]at h1;obtain⟨arr,e,h2,h3,h4⟩:=hm.box id cells b hb h1;exact⟨arr,e,by rw[cN b (by rintro rfl;exact(hm.sp b hD).2.2.2.1 id h1)];exact h2,h3.fh aeI,h4⟩
 ·rw[hβ]at hb;obtain⟨h1,h2,h3,h4,h5⟩:=hm.β id b hb;exact⟨h1,by simpa using h2,by rw[dQ];exact h3,by rw[eY];exact h4,h5⟩
 ·rw[eY]at hb;simpa using hm.own id b hb
 ·obtain⟨h1,h2,h3,h4,h5⟩:=hm.sp b (dm b hb);exact⟨h1,by simpa using h2,by rw[dQ];exact h3,by rw[hβ];exact h4,by rw[eY];exact h5⟩
 ·rw[k8]at hb;obtain⟨h1,h2,h3,h4,h5,h6,h8,h7⟩:=hm.mm id b hb;exact⟨h1,by simpa using h2,by rw[dQ];exact h3,by rw[hβ];exact h4,by rw[eY];exact h5,fun h=>h6 (dm b h),by rw[hβ];exact h8,h7.mono aeI (cN b (by rintro rfl;exact h6 hD))⟩
 refine⟨by simpa using e.size,fun b o' hb hr=>⟨by rw[dQ];exact(e.ro b o' hb hr).1,(bM b o').trans (e.ro b o' hb hr).2⟩,fun id b h=>by rw[hβ];exact e.β id b h,fun id=>by rw[dA];exact e.cur id,fun b F h=>by rw[k8];exact e.mm b F h,fun i l h=>by rw[hlp];exact e.lp i l h,fun id b qq ho=>?_,fun b hb=>?_,e.ss.trans hsz⟩
 ·rw[dA]at qq;obtain⟨g1,g2,g3⟩:=e.own id b qq ho;refine⟨by rw[eY];exact g1,fun arr te he=>?_,fun o' h=>g3 o' (by rw[dQ]at h;exact h)⟩;obtain⟨bT,k1,k2⟩:=g2 arr te he;exact⟨bT,by rw[cN b (by rintro rfl;exact(hm.sp b hD).2.2.2.2 id g1)];exact k1,k2⟩
 obtain⟨g1,g2⟩:=e.sp b hb;by_cases hbD:b=D
 ·subst hbD;obtain rfl|hc:=hc
  ·refine⟨g1,g2.trans ?_⟩;rw[h0,Fa];exact aqX rfl
  exact absurd hb hc
 exact⟨alT b g1 hbD,by rw[cN b hbD];exact g2⟩
def Jz{b:Frame}{a:Act}{k:List Item}{cs:List Frame}{w:World}{c:Code}:step P (lone (b.atR a (.code (.scope c)::k)) cs w)=.next (lone (b.atR a (.code c::.inScope c::k)) cs w):=
 step_lone_go (by simp[stepG,stepG.exec,Frame.atR])
def zD{b:Frame}{a:Act}{k:List Item}{cs:List Frame}{w:World}{c:Code}:step P (lone (b.atR a (.inScope c::k)) cs w)=.next (lone (b.atR a k) cs w):=
 step_lone_go (by simp[stepG,stepG.exec,Frame.atR])
def lZ{c:Code}{Q:Exit->Act->World->Prop}{a:Act}{w:World}(h:c.wpIn (FW r) 0 P (Exit.noGoto Q) a w):(Code.scope c).wpIn (FW r) 0 P Q a w:=by
 intro b k cs dQ hb hr;obtain⟨e,a₁,w₁,hq,fF⟩:=h b (.inScope c::k) cs dQ hb hr;have h0:(lone (b.atR a (.code (.scope c)::k)) cs w).fenced P (FW r):=fenced_calm hb hr rfl;cases e with
 |normal=>exact⟨.normal,a₁,w₁,hq,.head h0 Jz (StepsIn.trans fF (.one (fenced_calm hb hr rfl) zD))⟩
 |exit id=>
  refine⟨.exit id,a₁,w₁,hq,fun k' hk=>.head h0 Jz (fF.1 k' (by simp[exitTo,hk])),fun AD hk=>?_⟩;obtain⟨k₁,h1,h2⟩:=fF.2 AD (by simp[exitTo,hk]);exact⟨k₁,h1,.head h0 Jz h2⟩
 |goto l=>exact hq.elim
 |ret=>exact⟨_,a₁,w₁,hq,.of_steps (.one h0 Jz) fF⟩
 |panic ch=>exact⟨_,a₁,w₁,hq,.of_steps (.one h0 Jz) fF⟩
 |outgrown=>exact⟨_,a₁,w₁,hq,.of_steps (.one h0 Jz) fF⟩
def Fx{γ:G}{w:World}:∀(ps:List Nat)(args:List AV)(vs:List Value)(T:List AV)(arr:Array Value),args.length=ps.length->ak w γ args vs->ak w γ T arr.toList->
  ak w γ (Qar T ps args) ((ps.toArray.zip vs.toArray).foldl (fun(tmps:Array Value)(p:Nat×Value)=>tmps.setIfInBounds p.1 p.2) arr).toList:=by
 intro ps args vs T arr hl hr ht
 have e:(ps.toArray.zip vs.toArray).foldl (fun(tmps:Array Value)(p:Nat×Value)=>tmps.setIfInBounds p.1 p.2) arr=(ps.zip vs).foldl (fun(tmps:Array Value)(p:Nat×Value)=>tmps.setIfInBounds p.1 p.2) arr:=by
  rw[<- Array.foldl_toList];simp
 rw[e];clear e;induction ps generalizing args vs T arr with
 |nil=>
  cases args with
  |nil=>simpa[Qar]using ht
  |cons x xs=>simp at hl
 |cons p ps ih=>
  cases args with
  |nil=>simp at hl
  |cons x xs=>
   cases vs with
   |nil=>have:=hr.1;simp at this
   |cons v vs=>
    have h0:aB w γ x v:=hr.2 0 x v rfl rfl;have hs:ak w γ xs vs:=⟨by have:=hr.1;simpa using this,fun i x y h1 h2=>hr.2 (i+1) x y (by simpa using h1) (by simpa using h2)⟩;simp only[zzdg,zzd,Qar];refine ih xs vs _ _ (by simpa using hl) hs ?_;rw[zzdi];exact ht.set p h0
def cW.put{m:AM}{i l:Nat}{rc:Loop}{x:LS}(h:cW γ w m)(hi:γ.lp i=some l)(dm:γ.sp l)(hl:l<w.heap.size)(hx:KD x rc):cW γ (w.putObj l (.loop rc)) (m.at_ i x):=by
 refine⟨fun i'=>?_,h.2.1,h.2.2.1,fun i' l' eF=>?_⟩
 rotate_left
 ·obtain⟨q1,r,q2⟩:=h.2.2.2 i' l' eF;by_cases zF:l'=l
  ·subst zF;exact⟨q1,rc,World.putObj_heap_same hl⟩
  exact⟨q1,r,(World.putObj_heap_other zF).trans q2⟩
 by_cases ee:i'=i
 ·subst ee;exact .inr ⟨l,hi,dm,rc,World.putObj_heap_same hl,by simpa[AM.at_,qw]using hx⟩
 rcases h.1 i' with h'|⟨l',h0,h1,r,h2,h3⟩
 ·exact .inl (by simp[AM.at_,qw,ee,h'])
 have eF:l'≠l:=by rintro rfl;exact ee (h.2.2.1 _ _ _ h0 hi)
 exact .inr ⟨l',h0,h1,r,(World.putObj_heap_other eF).trans h2,by simpa[AM.at_,qw,ee]using h3⟩
def G.dO(γ:G)(i l:Nat):G:={γ with lp:=fun j=>if j=i then some l else γ.lp j}
def Fy(w:World){γ:G}{i l:Nat}(h:γ.lp i=none):eM w γ w (γ.dO i l):=
 ⟨zzab _,fun _ _ _ h=>⟨h,rfl⟩,fun _ _ h=>h,fun _=>zzab _,fun _ _ h=>h,fun j l' hj=>by
  have:j≠i:=by rintro rfl;rw[h]at hj;cases hj
  simp[G.dO,this,hj],fun _ _ _ h=>⟨h,fun arr _ h=>⟨arr,h,zzab _⟩,fun _ h=>h⟩,fun _ h=>⟨h,.inl rfl⟩,Sz.refl w⟩
def au.dO{B:Nat->Option (List AV)}{L:Nat->Option Nat}(hm:au N w0 aq γ w B L){i l:Nat}(h:γ.lp i=none):au N w0 aq (γ.dO i l) w B L:=by
 have cw:=(Fy w h (l:=l)).D8;refine⟨w0.st _ _ _ _ hm.bs ⟨rfl,rfl,rfl,zzab _,fun _ _ _=>rfl,fun _ _ _ h=>⟨h,rfl⟩,fun _ hb=>.inl hb,fun _ _ h=>.inl h⟩,hm.hN,hm.aq,hm.robd,fun id cells b hb h1=>?_,hm.β,hm.inj,hm.own,hm.oinj,hm.sp,fun id b hb=>?_,hm.minj,hm.len,hm.cur0⟩
 ·obtain⟨arr,e,h2,h3,h4⟩:=hm.box id cells b hb h1;exact⟨arr,e,h2,h3.fh cw,h4⟩
 obtain⟨h1,h2,h3,h4,h5,h6,h8,h7⟩:=hm.mm id b hb;exact⟨h1,h2,h3,h4,h5,h6,h8,h7.mono cw rfl⟩
def oW{B:Nat->Option (List AV)}{L:Nat->Option Nat}(hm:au N w0 aq γ w B L){l:Nat}(hl:γ.sp l){rc:Loop}(h0:w.heap[l]?=some (.loop rc))(st:LoopState)(pd:Option Code):
  au N w0 aq γ (w.putObj l (.loop {rc with state:=st,pending:=pd})) B L/\eM w γ (w.putObj l (.loop {rc with state:=st,pending:=pd})) γ:=by
 obtain⟨h1,_,h3⟩:=hm.ajp hl (o:=.loop {rc with state:=st,pending:=pd}) h0 (fun _ _ _ h=>by cases h) (fun _ _ _ h=>by cases h) (.inl rfl) (fun _=>.inr ⟨rc,st,pd,rfl,rfl⟩);exact⟨h1,h3 w γ (Ev.refl w γ).dJ (.inl rfl)⟩
def Fz{g:Operand}{ps:Array Tmp}{lY body:Code}
  (ihA:∀(l:Nat)(S:G×World)(γ:G)(w:World)(s:AS)(a:Act)(Q:Exit->AS->Prop),vc P gl orc Y (Yq P lY) s Q->eW N w0 (some l) aq S P gl Y γ w s a->lY.wpIn (FW (some l)) 0 P (lift N w0 (some l) aq S P gl Y Q) a w)
  (ihB:∀(l:Nat)(S:G×World)(γ:G)(w:World)(s:AS)(a:Act)(Q:Exit->AS->Prop),vc P gl orc Y (Yq P body) s Q->eW N w0 (some l) aq S P gl Y γ w s a->body.wpIn (FW (some l)) 0 P (lift N w0 (some l) aq S P gl Y Q) a w)
  {s:AS}{a:Act}{Q:Exit->AS->Prop}(h:vc P gl orc Y (Yq P (.rangeFunc g ps lY body)) s Q)(hs:eW N w0 r aq S P gl Y γ w s a):
  (Code.rangeFunc g ps lY body).wpIn (FW r) 0 P (lift N w0 r aq S P gl Y Q) a w:=by
 simp only[Yq,vc]at h;have hg:=hs.ev g;split at h
 case h_2=>exact h.elim
 rename_i f first cap e1
 rw[e1]at hg;obtain⟨fa,ca,hv,r1,r2⟩:=hg.qL;refine wpIn_rangeFunc fun fn _=>?_
 obtain⟨l,mark,w1,γ1',rc,he,oz,hsp1',hm1',hev1',hd1',VQ⟩:∃(l:Nat)(mark:List Deferred)(w1:World)(γ1:G)(df:Nat),
   (Instr.enterLoop fn a.tmps ps lY body (FW r).round).run P w=.ok (l,mark) w1/\w1.heap[l]?=some (.loop {state:=.ready,pending:=none,fn,tmps:=a.tmps,params:=ps,assign:=lY,body,defers:=df})/\γ1.sp l/\
   au N w0 aq γ1 w1 s.m.B s.m.L/\Ev w γ w1 γ1/\Dfr S.2.heap.size γ1 w1 (mark++a.defers)/\w.heap.size<=l:=by
  cases r with
  |none=>
   obtain⟨qu,fG⟩:=hs.m.W5 (.deferred (some []));obtain⟨CF,aqY⟩:=qu.W5 (.loop {state:=.ready,pending:=none,fn,tmps:=a.tmps,params:=ps,assign:=lY,body,defers:=w.heap.size});refine⟨w.heap.size+1,_,_,_,w.heap.size,run_enterLoop_outer fn a.tmps ps lY body,?_,Or.inr (by simp),CF,fG.trans aqY,?_,by omega⟩
   ·have:=World.alloc_heap_new (w.alloc (.deferred (some []))) (.loop {state:=.ready,pending:=none,fn,tmps:=a.tmps,params:=ps,assign:=lY,body,defers:=w.heap.size});simpa using this
   have hd:=hs.d.bq (fG.trans aqY).dJ
   have oT:∀x∈a.defers,∀D,x.target=.collected D->D<w.heap.size:=fun x hx D hD=>by
    obtain⟨D',q1,_,_,q4⟩:=hs.d.2.1 x hx;rw[hD]at q1;cases q1;exact aT q4
   refine⟨hd.1,fun x hx=>?_,?_⟩
   ·simp only[zzae,zzaj,zzaw]at hx;obtain rfl|hx:=hx
    ·refine⟨w.heap.size,rfl,hs.d.1,.inl (.inr rfl),?_⟩;rw[Below.heap_alloc _ _ _ (by simp)];exact World.alloc_heap_new w _
    exact hd.2.1 x hx
   simp only[zzae,zzaj,zzc];refine⟨fun x hx D hD jf=>?_,hd.2.2⟩;simp at hD;have:=oT x hx D jf;omega
  |some l0=>
   obtain⟨oA,aqZ,aq0⟩:=hs.rd l0 rfl;obtain⟨qu,fG⟩:=hs.m.W5 (.loop {state:=.ready,pending:=none,fn,tmps:=a.tmps,params:=ps,assign:=lY,body,defers:=aqZ.defers});exact⟨w.heap.size,[],_,_,aqZ.defers,run_enterLoop_inner aq0 fn a.tmps ps lY body,World.alloc_heap_new w _,Or.inr rfl,qu,fG,hs.d.bq fG.dJ,zzab _⟩
 have ew:l<w1.heap.size:=aT oz;generalize cS:s.m.ln=i at h;have W6:=hs.ls.mono hev1';have ajq:γ1'.lp i=none:=W6.2.1 i (by omega)
 have Fl:∀j,γ1'.lp j≠some l:=fun j hj=>by
  rw[hev1'.lp]at hj;have:=(hs.m.sp l (hs.ls.2.2.2 j l hj).1).2.1;omega
 let γ1:=γ1'.dO i l
 have aq1:eM w1 γ1' w1 γ1:=Fy w1 ajq;have fG:eM w γ w1 γ1:=hev1'.dJ.trans aq1;have qu:au N w0 aq γ1 w1 s.m.B s.m.L:=hm1'.dO ajq;have W7:γ1.sp l:=hsp1';have W8:γ1.lp i=some l:=by simp[γ1,G.dO]
 have hd1:=hd1'.bq aq1
 have hE:=h (by
  rcases hs.ls.1 i with h|⟨l',h0,_⟩
  ·exact h
  rw[hs.ls.2.1 i (by omega)]at h0;cases h0)
 have oK:ak w1 γ1 (first++[.yld i]++cap) (fa.toList++[.func (.yield l) #[] #[]]++ca.toList):=((r1.bq fG).append (ak.cons (.yld W8) ak.nil)).append (r2.bq fG)
 have av5:cW γ1 w1 s.m.aY:=by
  refine⟨fun j=>?_,fun j hj=>?_,fun j j' l' h1 h2=>?_,fun j l' h1=>?_⟩
  ·by_cases hj:j=i
   ·subst hj;exact .inr ⟨l,W8,W7,_,oz,by simp[AM.aY,qw,cS,KD]⟩
   rcases W6.1 j with h|⟨l',h0,h1,r',h2,h3⟩
   ·exact .inl (by simp[AM.aY,qw,cS,hj,h])
   exact .inr ⟨l',by simp[γ1,G.dO,hj,h0],h1,r',h2,by simpa[AM.aY,qw,cS,hj]using h3⟩
  ·have N1:i+1<=j:=by simpa[AM.aY,cS]using hj
   have:j≠i:=by omega
   simp[γ1,G.dO,this,W6.2.1 j (by omega)]
  ·by_cases hj:j=i<;>by_cases N1:j'=i
   ·rw[hj,N1]
   ·simp[γ1,G.dO,hj]at h1;simp[γ1,G.dO,N1]at h2;subst h1;exact absurd h2 (Fl j')
   ·simp[γ1,G.dO,hj]at h1;simp[γ1,G.dO,N1]at h2;subst h2;exact absurd h1 (Fl j)
   simp[γ1,G.dO,hj]at h1;simp[γ1,G.dO,N1]at h2;exact W6.2.2.1 j j' l' h1 h2
  by_cases hj:j=i
  ·simp[γ1,G.dO,hj]at h1;subst h1;exact⟨W7,_,oz⟩
  simp[γ1,G.dO,hj]at h1;exact W6.2.2.2 j l' h1
 refine⟨l,mark,w1,{target:=.fn (.func f) ca,args:=fa++#[.func (.yield l) #[] #[]]},w1,f,(fa.toList++[Value.func (.yield l) #[] #[]]++ca.toList).toArray,w1,he,?_,fun _ _=>trivial,?_,fun h=>by simp[FW,Fence.wide]at h,?_⟩
 ·have hc:a.eval (.const (.func (.yield l) #[] #[]))=.func (.yield l) #[] #[]:=rfl;simp[resolve,hv,hc,Deferred.ofValue,rangeCall]
 ·simp[invoke,Qeb hE.1]
 have W9:=hE.2 N w0 aq γ1 w1 _ qu av5 (fun g=>(hs.g g).bq fG.dg) ?_ oK
 ·refine CallsIn.mono (F:=FW r) (n:=0) (show CallsIn (FW r) 0 P f _ w1 _ from W9) ?_;rintro en w3 ⟨v,γ3,r',m',rfl,g1,g2,g3,g4,g5⟩;have av6:=(g1.sp l W7).1
  have fin:∀(Q6:Loop)(pd:Option Code),w3.heap[l]?=some (.loop Q6)->(∀ex,ex=Exit.normal/\pd=none\/pd=qU ex/\pd.isSome=true->Q6.state≠.busy->Q6.pending=pd->Q ex ⟨s.T,m'.at_ i .gone⟩->rangePost (FW r) 0 P l (lift N w0 r aq S P gl Y Q) {a with defers:=mark++a.defers} (.returned v) w3):=by
   intro Q6 pd aq2 ex hex XA hpd hQ;obtain⟨hm4,aq3⟩:=oW g2 av6 aq2 .exhausted Q6.pending;refine⟨Q6.pending,_,run_endLoop aq2 XA,?_⟩;have cw:eM w γ (w3.putObj l (.loop {Q6 with state:=.exhausted})) γ3:=(fG.trans g1).trans aq3
   have zA:eW N w0 r aq S P gl Y γ3 (w3.putObj l (.loop {Q6 with state:=.exhausted})) ⟨s.T,m'.at_ i .gone⟩ {a with defers:=mark++a.defers}:=by
    have aeJ:=g1.lp i l W8;refine⟨hm4,?_,hs.rd.bq cw,hs.t.bq cw,hd1.bq (g1.trans aq3),fun g=>(hs.g g).bq cw.dg,hs.y.mono cw,hs.e.trans cw⟩;refine⟨fun j=>?_,g3.2.1,g3.2.2.1,fun j l' eF=>?_⟩
    rotate_left
    ·obtain⟨q1,r,q2⟩:=g3.2.2.2 j l' eF;by_cases zF:l'=l
     ·subst zF;exact⟨q1,_,World.putObj_heap_same (aT q2)⟩
     exact⟨q1,r,(World.putObj_heap_other zF).trans q2⟩
    by_cases hj:j=i
    ·exact .inl (by simp[AM.at_,qw,hj])
    rcases g3.1 j with h|⟨l',h0,h1,r',h2,h3⟩
    ·exact .inl (by simp[AM.at_,qw,hj,h])
    have eF:l'≠l:=by rintro rfl;exact hj (g3.2.2.1 _ _ _ h0 aeJ)
    exact .inr ⟨l',h0,h1,r',(World.putObj_heap_other eF).trans h2,by simpa[AM.at_,qw,hj]using h3⟩
   generalize w3.putObj l (.loop {Q6 with state:=.exhausted})=w4 at zA;rw[hpd];obtain⟨rfl,rfl⟩|⟨hex,XB⟩:=hex
   ·exact⟨γ3,_,zA,hQ⟩
   cases ex with
   |ret=>simp only[qU]at hex;subst hex;exact wpIn_ret ⟨γ3,_,zA,hQ⟩
   |exit id=>simp only[qU]at hex;subst hex;exact wpIn_exit ⟨γ3,_,zA,hQ⟩
   |_=>simp only[qU]at hex;subst hex;cases XB
  have hl3:=g3.1 i;have aeJ:=g1.lp i l W8;cases cm:m'.st i with
  |gone=>rw[cm]at g5;exact g5.elim
  |busy=>rw[cm]at g5;exact g5.elim
  |ready=>
   rw[cm]at g5 hl3;obtain hl3|⟨l',q0,_,Q6,q1,q2⟩:=hl3
   ·cases hl3
   obtain rfl:l'=l:=Option.some.inj (q0.symm.trans aeJ);exact fin Q6 none q1 .normal (.inl ⟨rfl,rfl⟩) (by rw[q2.1];simp) q2.2 g5
  |done ex=>
   rw[cm]at g5 hl3;obtain hl3|⟨l',q0,_,Q6,q1,q2⟩:=hl3
   ·cases hl3
   obtain rfl:l'=l:=Option.some.inj (q0.symm.trans aeJ);exact fin Q6 _ q1 ex (.inr ⟨rfl,q2.2.2⟩) (by rw[q2.1];simp) q2.2.1 g5
 intro γ' w' XC i' args m K vs fV aq4 AD hY l' aeK;unfold Yin at hY;split at hY
 case isFalse=>exact hs.y γ' w' (fG.trans XC) i' args m K vs fV aq4 AD hY l' aeK
 rename_i ee;subst ee;obtain rfl:l'=l:=Option.some.inj (aeK.symm.trans (XC.lp _ _ W8));obtain⟨fI,aH,hY⟩:=hY
 have Og:∃st pd,w'.heap[l']?=some (.loop {state:=st,pending:=pd,fn,tmps:=a.tmps,params:=ps,assign:=lY,body,defers:=rc}):=by
  rcases(XC.sp l' W7).2 with h|⟨r0,st,pd,h,h'⟩
  ·rw[oz]at h;exact⟨_,_,h⟩
  rw[oz]at h;cases h;exact⟨st,pd,h'⟩
 obtain⟨st,pd,Og⟩:=Og;have alT:=(XC.sp l' W7).1;have alU:=fG.trans XC;have hps:vs.toArray.size=ps.size:=by have:=AD.1;simp at this aH |-;omega
 refine⟨fn,_,lY,body,run_yield Og hps,roundIn_of_wpIn (F:=FW none) trivial ?_⟩
 have aq5:eW N w0 (some l') aq (γ',w') P gl Y γ' w' ⟨Qar s.T ps.toList args,m⟩ {tmps:=(ps.zip vs.toArray).foldl (fun(tmps:Array Value)(p:Nat×Value)=>tmps.setIfInBounds p.1 p.2) a.tmps,defers:=[]}:=by
  refine⟨fV,aq4,fun l hl=>?_,?_,⟨zzab _,fun x hx=>(by cases hx),List.Pairwise.nil⟩,fun g=>(hs.g g).bq alU.dg,hs.y.mono alU,(Ev.refl w' γ').dJ⟩
  ·cases hl;exact⟨alT,_,Og⟩
  have:=Fx ps.toList args vs s.T a.tmps aH AD (hs.t.bq alU);simpa using this
 refine wpIn_mono (ihA l' (γ',w') γ' w' _ _ _ hY aq5) ?_;rintro ex a2 w2 ⟨γ2,s2,KO,hq2⟩;cases ex with
 |normal=>
  obtain⟨av7,hq2⟩:=hq2;have AW:=KO.ls.1 i';rw[av7]at AW;have aq6:=KO.e.lp _ _ aeK;obtain AW|⟨l2,q0,hsp2,rc2,q1,q2⟩:=AW
  ·cases AW
  obtain rfl:l'=l2:=Option.some.inj (aq6.symm.trans q0);obtain⟨hm3,Q7⟩:=oW KO.m hsp2 q1 .busy rc2.pending;refine⟨_,run_beginRound q1 q2.1,?_⟩
  have aq7:eW N w0 (some l') aq (γ',w') P gl Y γ2 (w2.putObj l' (.loop {rc2 with state:=.busy})) ⟨s2.T,s2.m.at_ i' .busy⟩ a2:=
   ⟨hm3,KO.ls.put aq6 hsp2 (aT q1) rfl,KO.rd.bq Q7,KO.t.bq Q7,KO.d.bq Q7,fun g=>(KO.g g).bq Q7.dg,KO.y.mono Q7,KO.e.trans Q7⟩
  refine wpIn_mono (ihB l' (γ',w') γ2 _ _ _ _ hq2 aq7) ?_;rintro ex a4 w4 ⟨γ4,s4,hs4,hq4⟩;obtain⟨Q8,rc4,q4⟩:=hs4.rd _ rfl;have alV:=hs4.e.lp _ _ aeK;cases ex with
  |normal=>
   obtain⟨hm5,XD⟩:=oW hs4.m Q8 q4 .ready none;exact⟨_,_,run_endRound none q4,true,γ4,s4.m.at_ i' .ready,rfl,hs4.e.trans XD,hm5,hs4.ls.put alV Q8 (aT q4) ⟨rfl,rfl⟩,hq4⟩
  |ret=>
   obtain⟨hm5,XD⟩:=oW hs4.m Q8 q4 .done (some .ret);exact⟨_,_,run_endRound (some .ret) q4,false,γ4,s4.m.at_ i' (.done .ret),rfl,hs4.e.trans XD,hm5,hs4.ls.put alV Q8 (aT q4) ⟨rfl,rfl,rfl⟩,hq4⟩
  |exit id=>
   obtain⟨hm5,XD⟩:=oW hs4.m Q8 q4 .done (some (.exit id));exact⟨_,_,run_endRound (some (.exit id)) q4,false,γ4,s4.m.at_ i' (.done (.exit id)),rfl,hs4.e.trans XD,hm5,hs4.ls.put alV Q8 (aT q4) ⟨rfl,rfl,rfl⟩,hq4⟩
  |_=>exact hq4.elim
 |_=>exact hq2.elim
def Jk:∀(c:Code)(r:Option Nat)(S:G×World)(γ:G)(w:World)(s:AS)(a:Act)(Q:Exit->AS->Prop),vc P gl orc Y (Yq P c) s Q->eW N w0 r aq S P gl Y γ w s a->c.wpIn (FW r) 0 P (lift N w0 r aq S P gl Y Q) a w
 |.skip,r,S,γ,w,s,a,Q,h,hs=>wpIn_skip ⟨γ,s,hs,h⟩
 |.label _,r,S,γ,w,s,a,Q,h,hs=>wpIn_label ⟨γ,s,hs,h⟩
 |.region id ops false,r,S,γ,w,s,a,Q,h,hs=>by
  refine wpIn_region ?_;have:=sw (P:=P) (orc:=orc) (ops:=ops) (Q:=lift N w0 r aq S P gl Y Q) (K:=Q .normal) (fun γ w s a hK hs=>⟨γ,s,hs,hK⟩) ops.size 0 γ w s a (by simp) (by simpa[Yq,vc]using h) hs;rwa [zzfr]
 |.region id ops true,r,S,γ,w,s,a,Q,h,hs=>by
  simp only[Yq]at h;split at h
  case isFalse=>exact h.elim
  rename_i hc;simp only[zzak]at hc;split at h
  ·rename_i j hj;obtain h|⟨ms,h⟩|⟨hb,ms,R,hR,h⟩|⟨ms,R,Vs,hR,h⟩|⟨ms,h⟩:=h
   ·exact wpIn_region_any hc.1 (wG (Q:=lift N w0 r aq S P gl Y Q) (K:=Q .normal) (fun γ w s a hK hs=>⟨γ,s,hs,hK⟩) hc.2 h hs)
   ·exact wpIn_region_any hc.1 (sy (Q:=lift N w0 r aq S P gl Y Q) (K:=Q .normal) (fun γ w s a hK hs=>⟨γ,s,hs,hK⟩) hc.2 hj (jy _ _ _ _ (Qbm hc.2) (Ob _ _ _ _ h)) hs)
   ·exact wpIn_region_any hc.1 (Ft (Q:=lift N w0 r aq S P gl Y Q) (K:=Q .normal) (fun γ w s a hK hs=>⟨γ,s,hs,hK⟩) hc.2 hj (alS hc.2 hb) hR (fun x hx=>jH _ _ _ _ (Qbm hc.2) (h x hx)) hs)
   ·exact wpIn_region_any hc.1 (Fv (Q:=lift N w0 r aq S P gl Y Q) (K:=Q .normal) (fun γ w s a hK hs=>⟨γ,s,hs,hK⟩) hc.2 hj hR (fun x hx=>jH _ _ _ _ (Qbm hc.2) (h x hx).1) (fun x hx=>(Js P gl orc (Qbm hc.2)).symm.trans (h x hx).2) hs)
   exact wpIn_region_any hc.1 (sy (Q:=lift N w0 r aq S P gl Y Q) (K:=Q .normal) (fun γ w s a hK hs=>⟨γ,s,hs,hK⟩) hc.2 hj (jy _ _ _ _ (Qbm hc.2) h) hs)
  exact wpIn_region_any hc.1 (wG (Q:=lift N w0 r aq S P gl Y Q) (K:=Q .normal) (fun γ w s a hK hs=>⟨γ,s,hs,hK⟩) hc.2 h hs)
 |.seq x y,r,S,γ,w,s,a,Q,h,hs=>by
  refine wpIn_seq (wpIn_mono (Jk x r S γ w s a _ h hs) ?_);rintro ex a' w' ⟨γ',s',iM,h'⟩;cases ex with
  |normal=>exact Jk y r S γ' w' s' a' Q h' iM
  |_=>exact⟨γ',s',iM,h'⟩
 |.cond c x y,r,S,γ,w,s,a,Q,h,hs=>by
  simp only[Yq,vc]at h;have hr:=hs.ev c;split at h
  case h_2=>exact h.elim
  rename_i t ht;rw[ht]at hr;exact wpIn_cond_split hr.bA (fun e=>Jk x r S γ w s a Q (h.1 e) hs) fun e=>Jk y r S γ w s a Q (h.2 e) hs
 |.block id c,r,S,γ,w,s,a,Q,h,hs=>by
  refine wpIn_block (wpIn_mono (Jk c r S γ w s a _ h hs) ?_);rintro ex a' w' ⟨γ',s',iM,h'⟩;cases ex with
  |exit id'=>
   simp only[Exit.inBlock,qY]at h' |-
   split
   ·rename_i aN;rw[if_pos aN]at h';exact⟨γ',s',iM,h'⟩
   rename_i aN;rw[if_neg aN]at h';exact⟨γ',s',iM,h'⟩
  |_=>exact⟨γ',s',iM,h'⟩
 |.loop c,r,S,γ,w,s,a,Q,h,hs=>by
  obtain⟨I,μ,h0,AD⟩:=h;intro b k cs dQ hb hr
  have key:∀j γ w s a,μ s=j->I s->eW N w0 r aq S P gl Y γ w s a->∃e a' w',lift N w0 r aq S P gl Y Q e a' w'/\ArrivesIn (Machine.fenced P (FW r)) P (lone (b.atR a (.code c::.inLoop c::k)) cs w) b k cs e a' w':=by
   intro j;induction j using Nat.strongRecOn with
   |_ j ih=>
    intro γ w s a hn hI hs;obtain⟨e,a₁,w₁,⟨γ₁,s₁,hs₁,hq⟩,fF⟩:=Jk c r S γ w s a _ (AD s hI) hs b (.inLoop c::k) cs dQ hb hr;cases e with
    |normal=>
     obtain⟨hI₁,ai⟩:=hq;obtain⟨e₂,a₂,w₂,hq₂,aq8⟩:=ih (μ s₁) (hn ▸ ai) γ₁ w₁ s₁ a₁ rfl hI₁ hs₁;exact⟨e₂,a₂,w₂,hq₂,.of_steps (StepsIn.trans fF (.one (fenced_calm hb hr rfl) stepR_inLoop)) aq8⟩
    |exit id=>exact⟨_,a₁,w₁,⟨γ₁,s₁,hs₁,hq⟩,.pass (x:=.inLoop c) rfl (fun _ _=>.inl (by simp)) fF⟩
    |goto l=>exact⟨_,a₁,w₁,⟨γ₁,s₁,hs₁,hq⟩,.pass (x:=.inLoop c) rfl (fun _ _=>.inl (by simp)) fF⟩
    |ret=>exact⟨_,a₁,w₁,⟨γ₁,s₁,hs₁,hq⟩,.pass (x:=.inLoop c) rfl (fun _ _=>.inl (by simp)) fF⟩
    |panic ch=>exact⟨_,a₁,w₁,⟨γ₁,s₁,hs₁,hq⟩,.pass (x:=.inLoop c) rfl (fun _ _=>.inl (by simp)) fF⟩
    |outgrown=>exact⟨_,a₁,w₁,⟨γ₁,s₁,hs₁,hq⟩,.pass (x:=.inLoop c) rfl (fun _ _=>.inl (by simp)) fF⟩
  obtain⟨e,a',w',hq,fF⟩:=key _ γ w s a rfl h0 hs;exact⟨e,a',w',hq,.of_steps (.one (fenced_calm hb hr rfl) stepR_loop) fF⟩
 |.exit id,r,S,γ,w,s,a,Q,h,hs=>wpIn_exit ⟨γ,s,hs,h⟩
 |.ret,r,S,γ,w,s,a,Q,h,hs=>wpIn_ret ⟨γ,s,hs,h⟩
 |.scope c,r,S,γ,w,s,a,Q,h,hs=>by
  refine lZ (wpIn_mono (Jk c r S γ w s a _ h hs) ?_);rintro ex a' w' ⟨γ',s',iM,h'⟩;cases ex with
  |goto l=>exact h'.elim
  |_=>exact⟨γ',s',iM,h'⟩
 |.rangeFunc g ps lY body,r,S,γ,w,s,a,Q,h,hs=>Fz (fun l S γ w s a Q h hs=>Jk lY (some l) S γ w s a Q h hs) (fun l S γ w s a Q h hs=>Jk body (some l) S γ w s a Q h hs) h hs
 |.goto l,r,S,γ,w,s,a,Q,h,hs=>h.elim
 |.refuse why,r,S,γ,w,s,a,Q,h,hs=>h.elim
end
open Go Go.RowKit
section
variable {N:Nat} {w0:iy} {aq:Nat->Nat->Prop} {γ:G} {w:World} {B:Nat->Option (List AV)} {L:Nat->Option Nat} {P:Program} {gl:Nat->AV} {orc:Nat->FuncId->List AV->AV} {e:bL->AV} {m:AM}
def XE(P:Program)(t:TypeId)(x:bL):aD:=
 (match P.info? t,P.underlying t with|some i,some _=>if Uq P t then .load true i.size x else .load false 1 x|_,_=>.bad)
def XF(hm:au N w0 aq γ w B L)(hB:∀id cells,m.boxes[id]?=some cells->B id=some cells){t:TypeId}{x:bL}{v0:Value}(h1:aB w γ (e x) v0)
  (hc:(rop P gl orc e m none (XE P t x)).1):∃b o v,v0=.pointer (some ⟨b,o,none⟩)/\(loadVar t ⟨b,o,none⟩).run P w=.ok v w/\aB w γ (rop P gl orc e m none (XE P t x)).2 v:=by
 unfold XE at hc |-
 split at hc
 case h_2=>exact hc.elim
 rename_i i d hi hd
 have main:∀(agg:Bool)(n:Nat),Uq P t=agg->(agg=true->n=i.size)->(rop P gl orc e m none (.load agg n x)).1->
   ∃b o v,v0=.pointer (some ⟨b,o,none⟩)/\(loadVar t ⟨b,o,none⟩).run P w=.ok v w/\aB w γ (rop P gl orc e m none (.load agg n x)).2 v:=by
  intro agg n bD hn hc
  have conv:∀b o v,(Instr.loadAt t (.pointer (some ⟨b,o,none⟩))).run P w=.ok v w->(loadVar t ⟨b,o,none⟩).run P w=.ok v w:=fun b o v h=>by
   simpa[Instr.loadAt,Instr.sureAddr]using h
  simp only[rop]at hc |-
  split at hc
  ·rename_i id o' he;try simp only[he]
   rw[he]at h1;obtain⟨b,hb,hv⟩:=h1.dK;cases eD:m.boxes[id]? with
   |none=>
    have e0:m.boxes.getD id []=[]:=by simp[List.getD,eD]
    rw[e0]at hc |-
    obtain⟨v,h2,h3⟩:=Qdr (P:=P) (w:=w) (γ:=γ) (b:=b) (o:=o') (cv:=fun _=>undef) hi hd bD hn (fun j c hj=>by simp at hj) (fun j c hj=>by simp at hj) hc;exact⟨b,o',v,hv,conv _ _ _ h2,h3⟩
   |some cells=>
    have e0:m.boxes.getD id []=cells:=by simp[List.getD,eD]
    rw[e0]at hc |-
    obtain⟨arr,te,g2,g3,g4⟩:=hm.box id cells b (hB id cells eD) hb
    have cp:∀(j:Nat)(c:AV),(cells.drop o')[j]?=some c->arr[o'+j]?=some (arr.getD (o'+j) undef)/\aB w γ c (arr.getD (o'+j) undef):=fun j c hj=>by
     rw[zzbk]at hj
     have ai:o'+j<arr.size:=by
      have:=(zza.1 hj).1;have h0:=g3.1;simp at h0;omega
     have hu:arr[o'+j]?=some (arr.getD (o'+j) undef):=by simp[ai]
     exact⟨hu,g3.2 _ _ _ hj (by simpa using hu)⟩
    obtain⟨v,h2,h3⟩:=Qdr (P:=P) (w:=w) (γ:=γ) (b:=b) (o:=o') (cv:=fun j=>arr.getD (o'+j) undef) hi hd bD hn (fun j c hj=>by rw[aL g2];exact(cp j c hj).1) (fun j c hj=>(cp j c hj).2) hc;exact⟨b,o',v,hv,conv _ _ _ h2,h3⟩
  ·rename_i row o' he;try simp only[he]
   rw[he]at h1;obtain⟨b,off,cv,hv,hb,bM,zm⟩:=h1.jc;have cp:∀(j:Nat)(c:AV),(row.drop o')[j]?=some c->row[o'+j]?=some c:=fun j c hj=>by rw[zzbk]at hj;exact hj
   obtain⟨v,h2,h3⟩:=Qdr (P:=P) (w:=w) (γ:=γ) (b:=b) (o:=off+o') (cv:=fun j=>cv (o'+j)) hi hd bD hn
    (fun j c hj=>by rw[zzam];exact(bM _ _ (cp j c hj)).1) (fun j c hj=>(zm _ _ (cp j c hj)).gI) hc
   exact⟨b,off+o',v,hv,conv _ _ _ h2,h3⟩
  exact hc.elim
 cases bD:Uq P t with
 |true=>simp only[bD,if_true]at hc |-;exact main true _ bD (fun _=>rfl) hc
 |false=>simp only[bD]at hc |-;exact main false 1 bD (fun h=>by cases h) hc
end
def gh(P:Program)(rs:List ResultVar):List aD:=rs.map fun
 |.tmp t=>.mv (.tmp t)
 |.cell a t=>XE P t (.tmp a)
def Kr(P:Program)(gl:Nat->AV)(orc:Nat->FuncId->List AV->AV)(s:AS):List aD->Prop×List AV
 |[]=>(True,[])
 |o::r=>((rop P gl orc (ev gl s.T) s.m none o).1/\(Kr P gl orc s r).1,(rop P gl orc (ev gl s.T) s.m none o).2::(Kr P gl orc s r).2)
def oneOf:List AV->AV
 |[a]=>a
 |l=>.aW l
section
variable {N:Nat} {w0:iy} {r:Option Nat} {aq:Nat->Nat->Prop} {S:G×World} {Y:YT} {γ:G} {w:World} {P:Program} {gl:Nat->AV} {orc:Nat->FuncId->List AV->AV} {s:AS} {a:Act}
def Oh(hs:eW N w0 r aq S P gl Y γ w s a):∀(rs:List ResultVar),(Kr P gl orc s (gh P rs)).1->
  ∃vs:List Value,(rs.mapM fun(r:ResultVar)=>(match r with|.tmp t=>pure (a.tmps.getD t undef)|.cell x t=>do loadVar t (<- asAddr (a.tmps.getD x undef)):Sem Value)).run P w=.ok vs w/\
   ak w γ (Kr P gl orc s (gh P rs)).2 vs
 |[],_=>⟨[],by simp,ak.nil⟩
 |r::rs,hc=>by
  obtain⟨h1,h2⟩:=hc;obtain⟨vs,g1,g2⟩:=Oh hs rs h2
  have key:∃v,(match r with|.tmp t=>pure (a.tmps.getD t undef)|.cell x t=>do loadVar t (<- asAddr (a.tmps.getD x undef)):Sem Value).run P w=.ok v w/\
    aB w γ (rop P gl orc (ev gl s.T) s.m none ((fun(r:ResultVar)=>match r with|.tmp t=>aD.mv (.tmp t)|.cell a t=>XE P t (.tmp a)) r)).2 v:=by
   cases r with
   |tmp t=>exact⟨a.tmps.getD t undef,by simp,hs.ev (.tmp t)⟩
   |cell x t=>
    obtain⟨b,o,v,e1,e2,e3⟩:=XF (P:=P) (gl:=gl) (orc:=orc) (e:=ev gl s.T) (m:=s.m) hs.m (fun _ _ h=>h) (t:=t) (x:=.tmp x) (v0:=a.tmps.getD x undef) (hs.ev (.tmp x)) h1;refine⟨v,?_,e3⟩;simp only[e1,Sem.run_bind,asAddr,Sem.run_pure,Result.andThen_ok,e2]
  obtain⟨v,k1,k2⟩:=key;refine⟨v::vs,?_,ak.cons k2 g2⟩;simp only[zzhh,Sem.run_bind,k1,Result.andThen_ok,g1,Sem.run_pure]
def FA(hs:eW N w0 r aq S P gl Y γ w s a){fn:Func}(hc:(Kr P gl orc s (gh P fn.results.toList)).1):∃v,(results fn a.tmps).run P w=.ok v w/\aB w γ (oneOf (Kr P gl orc s (gh P fn.results.toList)).2) v:=by
 obtain⟨vs,h1,h2⟩:=Oh (P:=P) (orc:=orc) hs fn.results.toList hc
 have aZ:(results fn a.tmps).run P w=.ok (if h:vs.toArray.size=1 then vs.toArray[0]else .tuple vs.toArray) w:=by
  simp only[results,Sem.run_bind,Array.mapM_eq_mapM_toList,Sem.run_map];exact congrArg (fun(z:Result (List Value))=>(z.andThen fun a w'=>Result.ok a.toArray w').andThen fun(a:Array Value)w'=>Sem.run P (pure (if h:a.size=1 then a[0]else Value.tuple a):Sem Value) w') h1
 refine⟨_,aZ,?_⟩;generalize(Kr P gl orc s (gh P fn.results.toList)).2=as at h2
 match as,vs,h2 with
 |[],[],h2=>exact .aW rfl fun i c v h=>by simp at h
 |[],_::_,h2=>have:=h2.1;simp at this
 |_::_,[],h2=>have:=h2.1;simp at this
 |[x],[v],h2=>exact h2.2 0 x v rfl rfl
 |[x],_::_::_,h2=>have:=h2.1;simp at this
 |_::_::_,[v],h2=>have:=h2.1;simp at this
 |x::y::as,v::u::vs,h2=>
  simp only[oneOf];rw[dif_neg (by simp)];exact .aW (by simpa using h2.1) fun i c v' g1 g2=>h2.2 i c v' g1 (by simpa using g2)
def post(P:Program)(gl:Nat->AV)(orc:Nat->FuncId->List AV->AV)(rs:List aD)(r:AV):Exit->AS->Prop
 |.normal,s=>(Kr P gl orc s rs).1/\bF s.m 6 (oneOf (Kr P gl orc s rs).2)=r
 |.ret,s=>(Kr P gl orc s rs).1/\bF s.m 6 (oneOf (Kr P gl orc s rs).2)=r
 |_,_=>False
def wN(P:Program)(gl:Nat->AV)(orc:Nat->FuncId->List AV->AV)(rs:List aD)(K:AV->AM->Prop):Exit->AS->Prop
 |.normal,s=>(Kr P gl orc s rs).1/\K (oneOf (Kr P gl orc s rs).2) s.m
 |.ret,s=>(Kr P gl orc s rs).1/\K (oneOf (Kr P gl orc s rs).2) s.m
 |_,_=>False
def Y0:YT:=fun _ _ _ _=>False
def eW.y0(h:eW N w0 r aq S P gl Y γ w s a):eW N w0 r aq S P gl Y0 γ w s a:=⟨h.m,h.ls,h.rd,h.t,h.d,h.g,fun _ _ _ _ _ _ _ _ _ _ _ hY _ _=>hY.elim,h.e⟩
def sB{fn:Func}{R:Ending->World->Prop}(hS:∀b,S.1.sp b->b<S.2.heap.size):∀(ds:List Deferred)(γ:G)(w:World)(s:AS)(a:Act),a.defers=ds->eW N w0 none aq S P gl Y0 γ w s a->
  (Kr P gl orc s (gh P fn.results.toList)).1->
  (∀v w' γ',eM S.2 S.1 w' γ'->au N w0 aq γ' w' s.m.B s.m.L->cW γ' w' s.m->aB w' γ' (oneOf (Kr P gl orc s (gh P fn.results.toList)).2) v->R (.returned v) w')->LeavesInM (FW none) 0 P fn a.tmps R ds .returning w
 |[],γ,w,s,a,_,hs,h1,hR=>by
  obtain⟨v,g1,g2⟩:=FA (P:=P) (orc:=orc) hs h1;exact⟨v,g1,hR v w γ hs.e hs.m hs.ls g2⟩
 |d::ds,γ,w,s,a,hd,hs,hc,hR=>by
  obtain⟨D,e1,e0,e2,e3⟩:=hs.d.2.1 d (by rw[hd];simp);refine⟨by simp,.inl ⟨D,w.putObj D (.deferred none),e1,run_takeDeferred e3,?_⟩⟩;have hDS:¬S.1.sp D:=fun h=>by have:=hS D h;omega
  obtain⟨fV,cw,av8⟩:=hs.m.ajp e2 (o:=.deferred none) e3 (fun _ _ _ h=>by cases h) (fun _ _ _ h=>by cases h) (γ':={γ with sp:=fun b=>γ.sp b/\b≠D}) (.inr rfl) (fun h=>by
   have:=congrFun (congrArg G.sp h) D;simp[e2]at this)
  have hpw:=hs.d.2.2;rw[hd,zzc]at hpw;refine sB hS ds {γ with sp:=fun b=>γ.sp b/\b≠D} (w.putObj D (.deferred none)) s {a with defers:=ds} rfl ⟨fV,⟨fun i=>?_,hs.ls.2.1,hs.ls.2.2.1,fun i l hl=>?_⟩,fun l h=>(by cases h),hs.t.fh cw,⟨by simpa using hs.d.1,fun x hx=>?_,hpw.2⟩,fun g=>(hs.g g).fh cw.dg,fun _ _ _ _ _ _ _ _ _ _ _ hY _ _=>hY.elim,av8 _ _ hs.e (.inr hDS)⟩ hc hR
  ·rcases hs.ls.1 i with h|⟨l,h0,h1,rc,h2,h3⟩
   ·exact .inl h
   have aK:l≠D:=by rintro rfl;rw[e3]at h2;cases h2
   exact .inr ⟨l,h0,⟨h1,aK⟩,rc,(World.putObj_heap_other aK).trans h2,h3⟩
  ·obtain⟨h1,rc,h2⟩:=hs.ls.2.2.2 i l hl;have aK:l≠D:=by rintro rfl;rw[e3]at h2;cases h2
   exact⟨⟨h1,aK⟩,rc,(World.putObj_heap_other aK).trans h2⟩
  obtain⟨D',q1,q0,q2,q3⟩:=hs.d.2.1 x (by rw[hd];simp[hx]);have aK:D'≠D:=by rintro rfl;exact hpw.1 x hx D' e1 q1
  exact⟨D',q1,q0,⟨q2,aK⟩,(World.putObj_heap_other aK).trans q3⟩
def aeL(w0:World):iy where
 p γ w:=Below w0.heap.size w0 w/\∀b,OI γ b->w0.heap.size<=b
 st γ w γ' w' h hc:=by
  refine⟨h.1.trans ⟨hc.os,hc.tape,hc.output,hc.size,fun b hb=>hc.same b (zzbb hb h.1.size) fun ho=>?_⟩,fun b hb=>?_⟩
  ·have:=h.2 b ho;omega
  rcases hc.oi b hb with hb|hb
  ·exact h.2 b hb
  exact zzbn h.1.size hb
def Q9{as:List AV}{vs:List Value}{k:Nat}(h:ak w γ as vs):ak w γ (as++List.replicate (k-as.length) .junk) (vs.toArray++Array.replicate (k-vs.toArray.size) undef).toList:=by
 have aH:=h.1
 have h2:ak w γ (List.replicate (k-as.length) .junk) (List.replicate (k-vs.length) undef):=⟨by simp[aH],fun i x v hx _=>by
  rw[zzcn]at hx;split at hx
  ·cases hx;exact .junk _
  cases hx⟩
 simpa using h.append h2
def dn(P:Program)(f:FuncId)(sc:SC)(rs:List aD)(n:Nat):Prop:=
 ∃fn c,P.funcs[f]?=some fn/\fn.body=some c/\(fn.name== "runtime.NumGoroutine")=false/\Yq P c=sc/\gh P fn.results.toList=rs/\fn.ntmps=n
def fco{P:Program}{f:FuncId}{fn:Func}{c:Code}{sc:SC}{rs:List aD}{n:Nat}(h:P.funcs[f]?=some fn)(hb:fn.body=some c)(hk:((fn.name== "runtime.NumGoroutine"),Yq P c,gh P fn.results.toList,fn.ntmps)=(false,sc,rs,n)):dn P f sc rs n:=by
 obtain⟨h1,h2⟩:=Prod.mk.inj hk;obtain⟨h2,h3⟩:=Prod.mk.inj h2;obtain⟨h3,h4⟩:=Prod.mk.inj h3;exact⟨fn,c,h,hb,h1,h2,h3,h4⟩
def aI{P:Program}{f:FuncId}{fn:Func}{c:Code}{sc:SC}{rs:List aD}{n:Nat}(h:P.funcs[f]?=some fn)(hb:fn.body=some c:=by rfl)(hk:((fn.name== "runtime.NumGoroutine"),Yq P c,gh P fn.results.toList,fn.ntmps)=(false,sc,rs,n):=by kernel_rfl):dn P f sc rs n:=fco h hb hk
def alW{f:FuncId}{sc:SC}{rs:List aD}{n:Nat}(hc:dn P f sc rs n)(orc:Nat->FuncId->List AV->AV){as:List AV}{m:AM}{K:AV->AM->Prop}
  (h:vc P gl orc Y sc ⟨as++List.replicate (n-as.length) .junk,m⟩ (wN P gl orc rs K)){vs:List Value}(hm:au N w0 aq γ w m.B m.L)(hl:cW γ w m)(hg:∀g,aB w γ.dg (gl g) (.pointer (some ⟨g,0,none⟩)))
  (hy:YOK N w0 aq P Y γ w)(hr:ak w γ as vs):
  CallsIn (FW none) 0 P f vs.toArray w fun e w'=>∃v γ' r m',e=.returned v/\eM w γ w' γ'/\au N w0 aq γ' w' m'.B m'.L/\cW γ' w' m'/\aB w' γ' r v/\K r m':=by
 obtain⟨fn,c,hf,hb,ajr,rfl,rfl,rfl⟩:=hc;refine callsIn_of_wp_marks (F:=FW none) hf hb trivial ?_
 have hs:eW N w0 none aq (γ,w) P gl Y γ w ⟨as++List.replicate (fn.ntmps-as.length) .junk,m⟩ {tmps:=vs.toArray++Array.replicate (fn.ntmps-vs.toArray.size) undef,defers:=[]}:=
  ⟨hm,hl,fun l h=>(by cases h),Q9 hr,⟨zzab _,fun x hx=>(by cases hx),List.Pairwise.nil⟩,hg,hy,(Ev.refl w γ).dJ⟩
 refine wpIn_mono (Jk c none (γ,w) γ w _ _ _ h hs) ?_
 have fin:∀γ' w' s a,eW N w0 none aq (γ,w) P gl Y γ' w' s a->(Kr P gl orc s (gh P fn.results.toList)).1/\K (oneOf (Kr P gl orc s (gh P fn.results.toList)).2) s.m->
   LeavesInM (FW none) 0 P fn a.tmps (fun e w'=>∃v γ' r m',e=.returned v/\eM w γ w' γ'/\au N w0 aq γ' w' m'.B m'.L/\cW γ' w' m'/\aB w' γ' r v/\K r m') a.defers .returning w':=
  fun γ' w' s a iM hc=>sB (S:=(γ,w)) (fun b hb=>(hm.sp b hb).2.1) a.defers γ' w' s a rfl iM.y0 hc.1 fun v zk JW q1 q2 q3 q4=>⟨v,JW,_,_,rfl,q1,q2,q3,q4,hc.2⟩
 rintro ex a w' ⟨γ',s,iM,h'⟩;cases ex with
 |normal=>exact fin γ' w' s a iM h'
 |ret=>exact fin γ' w' s a iM h'
 |_=>exact h'.elim
def dn.bC{f:FuncId}{sc:SC}{rs:List aD}{n:Nat}(hc:dn P f sc rs n):bC P f:=by
 obtain⟨fn,c,hf,hb,ajr,_⟩:=hc;exact⟨fn,hf,by simp[hb],ajr⟩
def XG{f:FuncId}{sc:SC}{rs:List aD}{n:Nat}(hc:dn P f sc rs n)(orc:Nat->FuncId->List AV->AV){as:List AV}{m:AM}{K:AV->AM->Prop}
  (h:vc P gl orc Y sc ⟨as++List.replicate (n-as.length) .junk,m⟩ (wN P gl orc rs K)):an P gl Y f as m K:=
 ⟨hc.bC,fun _ _ _ _ _ _ hm hl hg hy hr=>alW hc orc h hm hl hg hy hr⟩
def AM.none:AM:=⟨[],[],fun _=>.gone,0⟩
def FB{f:FuncId}{as:List AV}{r:AV}(h:an P gl Y0 f as ⟨[],[],fun _=>.gone,0⟩ fun x m'=>bF m' 6 x=r):Pure P gl f as r:=by
 refine⟨h.1,fun ro w vs lT hr=>?_⟩;refine(callsIn_wide (n:=0)).1 ?_
 let γ0:G:=G0 fun b o=>ro b o/\b<w.heap.size
 have cw:Ev w (G0 ro) w γ0:=⟨zzab _,fun b o hb h=>⟨⟨h,hb⟩,rfl⟩,fun _ _ h=>(by cases h),fun _=>zzab _,fun _ _ h=>(by cases h),rfl,fun _ _ _ h=>(by cases h),fun _ h=>h.elim,Sz.refl w⟩
 have hm:au w.heap.size (aeL w) ro γ0 w (⟨[],[],fun _=>.gone,0⟩:AM).B (⟨[],[],fun _=>.gone,0⟩:AM).L:=by
  refine⟨⟨Below.refl _ _,fun b hb=>?_⟩,zzab _,fun b o h=>.inl h.1,fun b o h=>h.2,fun id cells b h=>by simp[AM.B]at h,fun id b h=>(by cases h),fun id id' b h=>(by cases h),fun id b h=>(by cases h),fun id id' b h=>(by cases h),fun b h=>h.elim,fun id b h=>(by cases h),fun id id' b h=>(by cases h),fun id n h=>by simp[AM.L]at h,fun _ _=>rfl⟩;obtain⟨_,hb⟩|⟨_,hb⟩|hb|⟨_,hb⟩:=hb
  ·cases hb
  ·cases hb
  ·exact hb.elim
  cases hb
 refine CallsIn.mono (h.2 _ _ _ _ _ _ hm ⟨fun _=>.inl rfl,fun _ _=>rfl,fun _ _ _ h=>(by cases h),fun _ _ h=>(by cases h)⟩ (fun g=>(lT g).mono cw) (fun _ _ _ _ _ _ _ _ _ _ _ hY _ _=>hY.elim) (hr.mono cw)) ?_;rintro e w' ⟨v,γ',x,m',rfl,_,h2,_,h4,h5⟩;refine⟨v,rfl,h2.bs.1,?_⟩;rw[<- h5];exact kU h2 (fun _ _ h=>h) h2.aq 6 _ v h4 fun _ id b hb o=>.inr (h2.β id b hb).1
def aeM{f:FuncId}{sc:SC}{rs:List aD}{n:Nat}(hc:dn P f sc rs n)(orc:Nat->FuncId->List AV->AV){as:List AV}{r:AV}
  (h:vc P gl orc Y0 sc ⟨as++List.replicate (n-as.length) .junk,⟨[],[],fun _=>.gone,0⟩⟩ (post P gl orc rs r)):Pure P gl f as r:=by
 have aq9:post P gl orc rs r=wN P gl orc rs fun x m'=>bF m' 6 x=r:=by
  funext ex s;cases ex<;>rfl
 rw[aq9]at h;exact FB (XG hc orc h)
end
end Go.Abs
