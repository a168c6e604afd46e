import Derived.Test.YthjppoincojfkaaGreatDoorRPSnA
import Derived.Shelf.SlMaps.Clone
import Derived.Shelf.Spec.SlicesGrow
set_option linter.all false
namespace Go.Abs
open Go Go.RowKit
def G.only(γ γ':G):G:={γ' with β:=fun i=>if(γ.β i).isSome then γ'.β i else none,mm:=fun i=>if(γ.mm i).isSome then γ'.mm i else none}
section
variable {N:Nat} {w0:eN} {an:Nat->Nat->Prop} {γ γ':G} {w w':World} {P:Program} {gl:Nat->AV} {Y:YT}
def Yr{id b:Nat}(h:(γ.only γ').β id=some b):(γ.β id).isSome/\γ'.β id=some b:=by
 simp only[G.only]at h;split at h
 ·exact⟨by assumption,h⟩
 cases h
def Qaz{id b:Nat}(h:(γ.only γ').mm id=some b):(γ.mm id).isSome/\γ'.mm id=some b:=by
 simp only[G.only]at h;split at h
 ·exact⟨by assumption,h⟩
 cases h
def D9{id b b0:Nat}(h0:γ.β id=some b0)(h:γ'.β id=some b):(γ.only γ').β id=some b:=by simp[G.only,h0,h]
def lC{id b b0:Nat}(h0:γ.mm id=some b0)(h:γ'.mm id=some b):(γ.only γ').mm id=some b:=by simp[G.only,h0,h]
def Se{a:Option Addr}{len cap sz:Nat}{rt:Rt}(h:qE w' γ' a len cap sz rt):qE w' (γ.only γ') a len cap sz rt:=by
 cases rt<;>exact h
def aA.only{a:AV}{v:Value}(h:aA w' γ' a v):∀{v0:Value},aA w γ a v0->aA w' (γ.only γ') a v:=by
 induction h generalizing γ with
 |junk v=>exact fun _=>.junk _
 |gd h h' ih=>exact fun k=>.gd (fun hg=>by cases k with|gd k1 _=>exact ih hg (k1 hg)) h'
 |bool b=>exact fun _=>.bool b
 |int k n=>exact fun _=>.int k n
 |str s=>exact fun _=>.str s
 |nilfn=>exact fun _=>.nilfn
 |nilv p=>exact fun _=>.nilv p
 |yld h=>exact fun _=>.yld h
 |mp h=>exact fun k=>by cases k with|mp k=>exact .mp (lC k h)
 |it h=>exact fun k=>by cases k with|it k=>exact .it (lC k h)
 |agg hl _ ih=>
  intro v0 k;cases k with
  |@agg _ _ dX kl k=>
   refine .agg hl fun i c v h1 h2=>?_
   ·have hi:i<dX.size:=by have:=(zza.1 h1).1;omega
    exact ih i c v h1 h2 (k i c dX[i] h1 (by simp[hi]))
 |aS hl _ ih=>
  intro v0 k;cases k with
  |@aS _ _ dX kl k=>
   refine .aS hl fun i c v h1 h2=>?_
   ·have hi:i<dX.size:=by have:=(zza.1 h1).1;omega
    exact ih i c v h1 h2 (k i c dX[i] h1 (by simp[hi]))
 |fn hl _ eV _ ih ih'=>
  intro v0 k;cases k with
  |@fn _ _ _ _ fa0 ca0 kl k kl' k'=>
   refine .fn hl (fun i c v h1 h2=>?_) eV fun i c v h1 h2=>?_
   ·have hi:i<fa0.size:=by have:=(zza.1 h1).1;omega
    exact ih i c v h1 h2 (k i c fa0[i] h1 (by simp[hi]))
   have hi:i<ca0.size:=by have:=(zza.1 h1).1;omega
   exact ih' i c v h1 h2 (k' i c ca0[i] h1 (by simp[hi]))
 |ptr h=>exact fun k=>by cases k with|ptr k=>exact .ptr (D9 k h)
 |bs h hl hh hs=>exact fun k=>by cases k with|bs k _ _ _=>exact .bs (D9 k h) hl hh hs
 |ep cv hb hc h _=>exact fun _=>.ep cv hb hc h
 |sl b off sz cv hcap hnil ha hsz hc h aX _=>exact fun _=>.sl b off sz cv hcap hnil ha hsz hc h (Se aX)
def cK.only{x:AV}{o o0:Obj}(h:cK w' γ' x o)(h0:cK w γ x o0):cK w' (γ.only γ') x o:=by
 unfold cK at h;split at h
 ·rename_i kn kvs es clock;cases o0<;>try exact h0.elim
  rename_i es0 an4;obtain⟨h1,h2,h3⟩:=h;obtain⟨k1,k2,k3⟩:=h0;refine⟨h1,h2,fun i k a e q1 q2=>?_⟩;obtain⟨p1,p2,p3,p4⟩:=h3 i k a e q1 q2;have hi:i<es0.size:=by have:=(zza.1 q1).1;omega
  exact⟨p1,p2,p3,p4.only (k3 i k a es0[i] q1 (by simp[hi])).2.2.2⟩
 ·rename_i mid n seen mb Nr sn st;cases o0<;>try exact h0.elim
  rename_i mp0 s0 a0 b0;cases mp0<;>try exact h0.elim
  exact⟨lC h0.1 h.1,h.2⟩
 exact h.elim
def Idle(a:AV):Prop:=∀(w:World)(γ:G)(v:Value),aA w γ a v->aA w γ.cT a v
def Idle.bool(b:Bool):Idle (.bool b):=fun w γ v h=>by rw[h.bu];exact .bool b
def Idle.int(k:IntKind)(n:Int):Idle (.int k n):=fun w γ v h=>by rw[h.aI];exact .int k n
def Idle.str(s:ByteArray):Idle (.str s):=fun w γ v h=>by rw[h.cq];exact .str s
def Idle.agg{cs:P2}(h:∀c∈cs,Idle c):Idle (.agg cs):=fun w γ v k=>by
 cases k with
 |agg hl k=>exact .agg hl fun i c v h1 h2=>h c (zzad h1) w γ v (k i c v h1 h2)
def Idle.aS{cs:P2}(h:∀c∈cs,Idle c):Idle (.aS cs):=fun w γ v k=>by
 cases k with
 |aS hl k=>exact .aS hl fun i c v h1 h2=>h c (zzad h1) w γ v (k i c v h1 h2)
def Idle.sl{rt:Rt}{rows:T5}(h:∀i s,rt≠.own i s):Idle (.sl rt rows):=fun w γ v k=>by
 cases k with
 |sl b off sz cv hcap hnil ha hsz hc hr aX=>
  refine .sl b off sz cv hcap hnil ha hsz hc hr ?_;cases rt with
  |own i s=>exact absurd rfl (h i s)
  |_=>exact aX
def Idle.ro(rows:T5):Idle (.sl .ro rows):=Idle.sl fun _ _ h=>by cases h
def Idle.nil(rows:T5):Idle (.sl .nil rows):=Idle.sl fun _ _ h=>by cases h
def Idle.full(rows:T5):Idle (.sl .full rows):=Idle.sl fun _ _ h=>by cases h
def YJ(cells:P2):Prop:=(∀c∈cells,Idle c/\Qx c=true)\/∃kn kvs,cells=[.aJ kn kvs]/\∀p∈kvs,Idle p.2
def Idle.rep{a:AV}(h:Idle a){v:Value}(hr:aA w' γ' a v):aA w' (γ.only γ') a v:=aA.gh (γ:=γ.only γ') (h w' γ' v hr)
def au.only{m m1:AM}{ex:T5}(hm:au N w0 an γ w m.B m.L)(fE:au N w0 an γ' w' ({m1 with boxes:=m1.boxes++ex}:AM).B m1.L)(e:eC w γ w' γ')
  (aH:m1.boxes.length=m.boxes.length)(hL:m1.lens=m.lens)(hk:∀(id:Nat)(cells:P2),m1.boxes[id]?=some cells->m.boxes[id]?=some cells\/YJ cells):au N w0 an (γ.only γ') w' m1.B m1.L:=by
 have hB:∀{id:Nat}{cells:P2},m1.B id=some cells->({m1 with boxes:=m1.boxes++ex}:AM).B id=some cells:=fun{id cells}h=>by
  simp only[AM.B]at h |-
  rw[zzaj (zza.1 h).1];exact h
 have hB1:∀{id:Nat}{cells:P2},m.B id=some cells->∃ou,m1.B id=some ou:=fun{id cells}h=>by
  have:=(zza.1 h).1;exact⟨_,zzaf zE⟩
 have qo:∀{id:Nat},(γ.β id).isSome->∃b cells ou,γ.β id=some b/\γ'.β id=some b/\m.B id=some cells/\m1.B id=some ou:=fun{id}h=>by
  obtain⟨b,hb⟩:=zzcf.1 h;obtain⟨_,_,_,_,c,hc⟩:=hm.β id b hb;obtain⟨c1,fk⟩:=hB1 hc;exact⟨b,c,c1,hb,e.β id b hb,hc,fk⟩
 refine⟨w0.st _ _ _ _ fE.bs ⟨rfl,rfl,rfl,zzab _,fun _ _ _=>rfl,fun _ _ _ h=>⟨h,rfl⟩,fun b hb=>.inl ?_,fun _ _ h=>.inl h⟩,fE.hN,fE.an,fE.robd,fun id cells b hb h1=>?_,fun id b hb=>?_,fun i i' b h h'=>?_,fE.own,fE.oinj,fun b hb=>?_,fun id b hb=>?_,fun i i' b h h'=>?_,fE.len,fE.cur0⟩
 ·obtain⟨i,hi⟩|hb|hb|⟨i,hi⟩:=hb
  ·exact .inl ⟨i,(Yr hi).2⟩
  ·exact .inr (.inl hb)
  ·exact .inr (.inr (.inl hb))
  exact .inr (.inr (.inr ⟨i,(Qaz hi).2⟩))
 ·obtain⟨h2,h3⟩:=Yr h1;obtain⟨b0,c0,_,g1,g2,g3,_⟩:=qo h2;rw[h3]at g2;cases g2;obtain⟨arr,e',q1,q2,q3⟩:=fE.box id cells b (hB hb) h3;refine⟨arr,e',q1,⟨q2.1,fun i c v hi hv=>?_⟩,q3⟩;rcases hk id cells hb with hk|hk|⟨kn,kvs,rfl,_⟩
  ·obtain⟨dX,_,_,k2,_⟩:=hm.box id cells b hk g1
   have ai:i<dX.size:=by
    have h5:=(zza.1 hi).1;have h6:=k2.1;simp at h6;omega
   exact(q2.2 i c v hi hv).only (k2.2 i c dX[i] hi (by simp[ai]))
  ·exact(hk c (zzad hi)).1.rep (q2.2 i c v hi hv)
  have:=q2.2 i c v hi hv;cases i with
  |zero=>cases hi;cases this
  |succ i=>cases hi
 ·obtain⟨h2,h3⟩:=Yr hb;obtain⟨b0,c0,c1,_,_,_,g4⟩:=qo h2;obtain⟨q1,q2,q3,q4,_⟩:=fE.β id b h3;exact⟨q1,q2,q3,q4,c1,g4⟩
 ·obtain⟨h2,h3⟩:=Yr h;obtain⟨h4,h5⟩:=Yr h';obtain⟨_,_,c,_,_,_,g3⟩:=qo h2;obtain⟨_,_,c',_,_,_,g3'⟩:=qo h4;have:=fE.inj i i' b h3 h5;rw[hB g3,hB g3']at this;rw[g3,g3'];exact this
 ·obtain⟨q1,q2,q3,q4,q5⟩:=fE.sp b hb;exact⟨q1,q2,q3,fun i hi=>q4 i (Yr hi).2,q5⟩
 ·obtain⟨h2,h3⟩:=Qaz hb;obtain⟨b0,dY⟩:=zzcf.1 h2;obtain⟨q1,q2,q3,q4,q5,q6,q8,x,o,q7,q9,q10⟩:=fE.mm id b h3;obtain⟨_,_,_,_,_,_,_,x0,o0,k7,k9,k10⟩:=hm.mm id b0 dY;obtain⟨c1,fk⟩:=hB1 k7;have hx:c1=[x]:=by rw[hB fk]at q7;cases q7;rfl
  subst hx;refine⟨q1,q2,q3,fun i hi=>q4 i (Yr hi).2,q5,q6,by simp[G.only,q8],x,o,fk,q9,?_⟩;rcases hk id [x] fk with hk|hk|⟨kn,kvs,hx,hk⟩
  ·have:x=x0:=by
    have k7':m.boxes[id]?=some [x0]:=k7;rw[hk]at k7';cases k7';rfl
   subst this;exact q10.only k10
  ·have:=(hk x zd).2;cases x<;>cases o<;>first|exact q10.elim|(simp[Qx]at this)
  cases hx;cases o<;>try exact q10.elim
  obtain⟨h4,h5,h6⟩:=q10;refine⟨h4,h5,fun i k a e s1 s2=>?_⟩;obtain⟨p1,p2,p3,p4⟩:=h6 i k a e s1 s2;exact⟨p1,p2,p3,(hk (k,a) (zzad s1)).rep p4⟩
 exact fE.minj i i' b (Qaz h).2 (Qaz h').2
def eC.only(e:eC w γ w' γ'):eC w γ w' (γ.only γ'):=
 ⟨e.size,e.ro,fun id b h=>D9 h (e.β id b h),e.cur,fun id b h=>lC h (e.mm id b h),e.lp,e.own,e.sp,e.ss⟩
def aB.forget{f:FuncId}{as':P2}{m:AM}{K:So}
  (
   h:aB P gl Y f as' m fun r m'=>∃m1 ex,m'={m1 with boxes:=m1.boxes++ex}/\m1.boxes.length=m.boxes.length/\m1.lens=m.lens/\
   (∀(id:Nat)(cells:P2),m1.boxes[id]?=some cells->m.boxes[id]?=some cells\/YJ cells)/\Idle r/\K r m1):aB P gl Y f as' m K:=by
 refine⟨h.1,fun N w0 an γ w vs hm hl hg hy hr=>CallsIn.mono (h.2 N w0 an γ w vs hm hl hg hy hr) ?_⟩;rintro en w' ⟨v,γ',r,m',rfl,g1,g2,g3,g4,m1,ex,rfl,g5,g6,g7,g8,g9⟩;exact⟨v,γ.only γ',r,m1,rfl,g1.only,hm.only g2 g1 g5 g6 g7,g3,g8.rep g4,g9⟩
def aB.read{f:FuncId}{as':P2}{m:AM}{K:AV->Prop}(h:aB P gl Y f as' m fun r m'=>∃ex,m'={m with boxes:=m.boxes++ex}/\Idle r/\K r):aB P gl Y f as' m fun r m'=>m'=m/\K r:=by
 refine aB.forget ⟨h.1,fun N w0 an γ w vs hm hl hg hy hr=>CallsIn.mono (h.2 N w0 an γ w vs hm hl hg hy hr) ?_⟩;rintro en w' ⟨v,γ',r,m',rfl,g1,g2,g3,g4,ex,rfl,g5,g6⟩;exact⟨v,γ',r,_,rfl,g1,g2,g3,g4,m,ex,rfl,rfl,rfl,fun _ _ h=>.inl h,g5,rfl,g6⟩
end
open Go Go.RowKit
def G.ajC(γ:G):G:={γ with own:=fun _=>none,cur:=fun _=>0}
def G.dg(n:Nat)(γ γ':G):G:={γ.only γ' with own:=fun i=>if i<n then γ'.own i else none,cur:=fun i=>if i<n then γ'.cur i else 0}
def cm(a:AV):Prop:=∀(w:World)(γ:G)(v:Value),aA w γ a v->aA w γ.ajC a v
def cm.bool(b:Bool):cm (.bool b):=fun w γ v h=>by rw[h.bu];exact .bool b
def cm.int(k:IntKind)(n:Int):cm (.int k n):=fun w γ v h=>by rw[h.aI];exact .int k n
def cm.str(s:ByteArray):cm (.str s):=fun w γ v h=>by rw[h.cq];exact .str s
def cm.aJ(kn:Nat)(kvs:List (Pi×AV)):cm (.aJ kn kvs):=fun w γ v h=>by cases h
def cm.mp(id:Nat):cm (.mp id):=fun w γ v h=>by cases h with|mp h=>exact .mp h
def cm.sl{rt:Rt}{rows:T5}(h:∀i s,rt≠.own i s):cm (.sl rt rows):=fun w γ v k=>by
 cases k with
 |sl b off sz cv hcap hnil ha hsz hc hr aX=>
  refine .sl b off sz cv hcap hnil ha hsz hc hr ?_;cases rt with
  |own i s=>exact absurd rfl (h i s)
  |_=>exact aX
def LF(cells:P2):Prop:=∀c∈cells,cm c/\∀kn kvs,c=.aJ kn kvs->∀p∈kvs,cm p.2
def Kept(bs:T5)(id:Nat)(ck cells:P2):Prop:=
 (ck=cells/\bs[id]?=some cells/\LF cells)\/(ck=cells/\∀c∈cells,Idle c/\Qx c=true)\/
 ∃(kn:Nat)(Mz kvs:List (Pi×AV)),ck=[.aJ kn Mz]/\cells=[.aJ kn kvs]/\Mz.length=kvs.length/\(∀p∈kvs,Idle p.2)/\∀(i:Nat)(k:Pi)(a:AV)(k':Pi)(a':AV),Mz[i]?=some (k',a')->kvs[i]?=some (k,a)->k'=k/\Wk a' a
def Kept.empty{bs:T5}{id:Nat}{ck cells:P2}(h:Kept bs id ck cells)(h':ck=[]):cells=[]:=by
 obtain⟨rfl,_⟩|⟨rfl,_⟩|⟨kn,Mz,kvs,rfl,rfl,_⟩:=h
 ·exact h'
 ·exact h'
 cases h'
section
variable {N:Nat} {w0:eN} {an:Nat->Nat->Prop} {γ γ':G} {w w':World} {P:Program} {gl:Nat->AV} {Y:YT}
def Sf(n:Nat):Nq w' (γ.only γ'.ajC) w' (γ.dg n γ'):=
 ⟨zzab _,fun _ _ _ h=>⟨h,rfl⟩,fun _ _ h=>h,fun _=>zzbp _,fun _ _ h=>h,fun _ _ h=>h,fun _ _ _ h=>(by cases h),Sz.refl w'⟩
def aA.dg{a:AV}{v v0:Value}(n:Nat)(h:aA w' γ' a v)(no:cm a)(h0:aA w γ a v0):aA w' (γ.dg n γ') a v:=
 ((no _ _ _ h).only (γ:=γ) h0).eM (Sf n)
def Idle.auH{a:AV}(n:Nat)(h:Idle a){v:Value}(hr:aA w' γ' a v):aA w' (γ.dg n γ') a v:=aA.gh (γ:=γ.dg n γ') (h w' γ' v hr)
def cK.dg{x:AV}{o o0:Obj}(n:Nat)(h:cK w' γ' x o)(h0:cK w γ x o0)(no:∀kn kvs,x=.aJ kn kvs->∀p∈kvs,cm p.2):cK w' (γ.dg n γ') x o:=by
 unfold cK at h;split at h
 ·rename_i kn kvs es clock;cases o0<;>try exact h0.elim
  rename_i es0 an4;obtain⟨h1,h2,h3⟩:=h;obtain⟨k1,k2,k3⟩:=h0;refine⟨h1,h2,fun i k a e q1 q2=>?_⟩;obtain⟨p1,p2,p3,p4⟩:=h3 i k a e q1 q2;have hi:i<es0.size:=by have:=(zza.1 q1).1;omega
  exact⟨p1,p2,p3,p4.dg n (no kn kvs rfl (k,a) (zzad q1)) (k3 i k a es0[i] q1 (by simp[hi])).2.2.2⟩
 ·rename_i mid n' seen mb Nr sn st;cases o0<;>try exact h0.elim
  rename_i mp0 s0 a0 b0;cases mp0<;>try exact h0.elim
  exact⟨lC h0.1 h.1,h.2⟩
 exact h.elim
def au.dg{m m1:AM}{mx ex:T5}{exl:Pa}(hm:au N w0 an γ w m.B m.L)(fE:au N w0 an γ' w' (fun i=>(mx++ex)[i]?) (fun i=>(m.lens++exl)[i]?))(e:eC w γ w' γ')
  (aH:m1.boxes.length=m.boxes.length)(hmx:mx.length=m.boxes.length)(hL:m1.lens=m.lens)
  (hk:∀(id:Nat)(cells ck:P2),m1.boxes[id]?=some cells->mx[id]?=some ck->Kept m.boxes id ck cells):
  au N w0 an (γ.dg m.lens.length γ') w' m1.B m1.L:=by
 have hB:∀{id:Nat}{cells:P2},m1.B id=some cells->∃ck,mx[id]?=some ck/\(mx++ex)[id]?=some ck:=fun{id cells}h=>by
  have h':id<m1.boxes.length:=(zza.1 h).1;have h2:id<mx.length:=zE
  exact⟨mx[id],by simp[h2],by rw[zzaj h2];simp[h2]⟩
 have hB1:∀{id:Nat}{cells:P2},m.B id=some cells->∃ou,m1.B id=some ou:=fun{id cells}h=>by
  have:=(zza.1 h).1;exact⟨_,zzaf zE⟩
 have qo:∀{id:Nat},(γ.β id).isSome->∃b cells ou,γ.β id=some b/\γ'.β id=some b/\m.B id=some cells/\m1.B id=some ou:=fun{id}h=>by
  obtain⟨b,hb⟩:=zzcf.1 h;obtain⟨_,_,_,_,c,hc⟩:=hm.β id b hb;obtain⟨c1,fk⟩:=hB1 hc;exact⟨b,c,c1,hb,e.β id b hb,hc,fk⟩
 have yY:∀{id b:Nat},(γ.dg m.lens.length γ').own id=some b->id<m.lens.length/\γ'.own id=some b:=fun{id b}h=>by
  have h:(if id<m.lens.length then γ'.own id else none)=some b:=h;split at h
  ·exact⟨by assumption,h⟩
  cases h
 refine⟨w0.st _ _ _ _ fE.bs ⟨rfl,rfl,rfl,zzab _,fun _ _ _=>rfl,fun _ _ _ h=>⟨h,rfl⟩,fun b hb=>.inl ?_,fun _ _ h=>.inl h⟩,fE.hN,fE.an,fE.robd,fun id cells b hb h1=>?_,fun id b hb=>?_,fun i i' b h h'=>?_,fun id b hb=>?_,fun i i' b h h'=>fE.oinj i i' b (yY h).2 (yY h').2,fun b hb=>?_,fun id b hb=>?_,fun i i' b h h'=>?_,fun id n hn=>?_,fun id hn=>?_⟩
 ·obtain⟨i,hi⟩|⟨i,hi⟩|hb|⟨i,hi⟩:=hb
  ·exact .inl ⟨i,(Yr hi).2⟩
  ·exact .inr (.inl ⟨i,(yY hi).2⟩)
  ·exact .inr (.inr (.inl hb))
  exact .inr (.inr (.inr ⟨i,(Qaz hi).2⟩))
 ·obtain⟨h2,h3⟩:=Yr h1;obtain⟨b0,c0,_,g1,g2,g3,_⟩:=qo h2;rw[h3]at g2;cases g2;obtain⟨ck,fk,Cs⟩:=hB hb;obtain⟨arr,e',q1,q2,q3⟩:=fE.box id ck b Cs h3;rcases hk id cells ck hb fk with⟨rfl,hk,no⟩|⟨rfl,aL⟩|⟨kn,Mz,kvs,rfl,rfl,_⟩
  ·refine⟨arr,e',q1,⟨q2.1,fun i c v hi hv=>?_⟩,q3⟩;obtain⟨dX,_,_,k2,_⟩:=hm.box id ck b hk g1
   have ai:i<dX.size:=by
    have h5:=(zza.1 hi).1;have h6:=k2.1;simp at h6;omega
   exact(q2.2 i c v hi hv).dg _ (no c (zzad hi)).1 (k2.2 i c dX[i] hi (by simp[ai]))
  ·exact⟨arr,e',q1,⟨q2.1,fun i c v hi hv=>(aL c (zzad hi)).1.auH _ (q2.2 i c v hi hv)⟩,q3⟩
  refine⟨arr,e',q1,⟨Nm q2.1,fun i c v hi hv=>?_⟩,q3⟩;cases i with
  |zero=>have:=q2.2 0 _ v rfl hv;cases this
  |succ i=>cases hi
 ·obtain⟨h2,h3⟩:=Yr hb;obtain⟨b0,c0,c1,_,_,_,g4⟩:=qo h2;obtain⟨q1,q2,q3,q4,_⟩:=fE.β id b h3;exact⟨q1,q2,q3,fun id' h=>q4 id' (yY h).2,c1,g4⟩
 ·obtain⟨h2,h3⟩:=Yr h;obtain⟨h4,h5⟩:=Yr h';obtain⟨_,_,c,_,_,_,g3⟩:=qo h2;obtain⟨_,_,c',_,_,_,g3'⟩:=qo h4;obtain⟨d,d1,d2⟩:=hB g3;obtain⟨d',d1',d2'⟩:=hB g3';have:=fE.inj i i' b h3 h5;simp only[d2,d2']at this
  have em:∀{id:Nat}{c d:P2},m1.B id=some c->mx[id]?=some d->d=[]->c=[]:=fun{id c d}h1 h2 h3=>by
   exact(hk id c d h1 h2).empty h3
  obtain h|h|h:=this
  ·exact .inl (by rw[g3,em g3 d1 (Nm h)])
  ·exact .inr (.inl (by rw[g3',em g3' d1' (Nm h)]))
  exact .inr (.inr h)
 ·obtain⟨h1,h2⟩:=yY hb;obtain⟨q1,q2,_⟩:=fE.own id b h2;refine⟨q1,q2,m.lens[id],?_⟩;simp only[AM.L,hL];exact zzaf h1
 ·obtain⟨q1,q2,q3,q4,q5⟩:=fE.sp b hb;exact⟨q1,q2,q3,fun i hi=>q4 i (Yr hi).2,fun i hi=>q5 i (yY hi).2⟩
 ·obtain⟨h2,h3⟩:=Qaz hb;obtain⟨b0,dY⟩:=zzcf.1 h2;obtain⟨q1,q2,q3,q4,q5,q6,q8,x,o,q7,q9,q10⟩:=fE.mm id b h3;obtain⟨_,_,_,_,_,_,_,x0,o0,k7,k9,k10⟩:=hm.mm id b0 dY;obtain⟨c1,fk⟩:=hB1 k7;obtain⟨ck,d1,d2⟩:=hB fk;have hx:ck=[x]:=by rw[d2]at q7;cases q7;rfl
  subst hx
  have hβ:(γ.dg m.lens.length γ').β id=none:=by
   show(if(γ.β id).isSome then γ'.β id else none)=none;rw[q8];split<;>rfl
  refine⟨q1,q2,q3,fun i hi=>q4 i (Yr hi).2,fun i hi=>q5 i (yY hi).2,q6,hβ,?_⟩;rcases hk id c1 [x] fk d1 with⟨rfl,hk,no⟩|⟨rfl,aL⟩|⟨kn,Mz,kvs,h1,rfl,h4,aL,h5⟩
  ·refine⟨x,o,fk,q9,?_⟩
   have:x=x0:=by
    have k7':m.boxes[id]?=some [x0]:=k7;rw[hk]at k7';cases k7';rfl
   subst this;exact q10.dg _ k10 (no x zd).2
  ·have:=(aL x zd).2;cases x<;>cases o<;>first|exact q10.elim|(simp[Qx]at this)
  cases h1;cases o<;>try exact q10.elim
  obtain⟨g4,g5,g6⟩:=q10;refine⟨_,_,fk,q9,g4,zE,fun i k a e s1 s2=>?_⟩;have di:=(zza.1 s1).1;obtain⟨k',a',uh⟩:∃k' a',Mz[i]?=some (k',a'):=⟨_,_,zzaf zE⟩;obtain⟨p1,p2,p3,p4⟩:=g6 i k' a' e uh s2;obtain⟨rfl,r2⟩:=h5 i k a k' a' uh s1;exact⟨p1,p2,p3,(aL _ (zzad s1)).auH _ (r2 _ _ _ p4)⟩
 ·exact fE.minj i i' b (Qaz h).2 (Qaz h').2
 ·have hn:m.lens[id]?=some n:=by rw[<- hL];exact hn
  have ai:=(zza.1 hn).1;have:=fE.len id n (by show(m.lens++exl)[id]?=some n;rw[zzaj ai];exact hn);show(if id<m.lens.length then γ'.cur id else 0)=n;rw[if_pos ai];exact this
 have hn:m.lens[id]?=none:=by rw[<- hL];exact hn
 have bq:=zzgo.1 hn;show(if id<m.lens.length then γ'.cur id else 0)=0;rw[if_neg zE]
def eC.dg{m:AM}(hm:au N w0 an γ w m.B m.L)(e:eC w γ w' γ'):eC w γ w' (γ.dg m.lens.length γ'):=by
 have ho:∀id b,γ.own id=some b->id<m.lens.length:=fun id b h=>by
  obtain⟨_,_,n,hn⟩:=hm.own id b h;exact(zza.1 hn).1
 have hc:∀id,¬id<m.lens.length->γ.cur id=0:=fun id h=>hm.cur0 id (zzgo.2 zE);refine⟨e.size,e.ro,fun id b h=>D9 h (e.β id b h),fun id=>?_,fun id b h=>lC h (e.mm id b h),e.lp,fun id b h1 h2=>?_,e.sp,e.ss⟩
 ·show γ.cur id<=if id<m.lens.length then γ'.cur id else 0;split
  ·exact e.cur id
  rename_i h;rw[hc id h];exact zzab _
 have ai:=ho id b h2;have h1:(if id<m.lens.length then γ'.cur id else 0)=γ.cur id:=h1;rw[if_pos ai]at h1;obtain⟨a1,a2,a3⟩:=e.own id b h1 h2;refine⟨?_,a2,a3⟩;show(if id<m.lens.length then γ'.own id else none)=some b;rw[if_pos ai];exact a1
def aB.mono{f:FuncId}{as':P2}{m:AM}{K K':So}(h:aB P gl Y f as' m K)(hk:∀r m',K r m'->K' r m'):aB P gl Y f as' m K':=by
 refine⟨h.1,fun N w0 an γ w vs hm hl hg hy hr=>CallsIn.mono (h.2 N w0 an γ w vs hm hl hg hy hr) ?_⟩;rintro en w' ⟨v,γ',r,m',g0,g1,g2,g3,g4,g5⟩;exact⟨v,γ',r,m',g0,g1,g2,g3,g4,hk _ _ g5⟩
end
open Go Go.RowKit
open Go Go.RowKit
def abh{P:Program}{gl:Nat->AV}{Y:YT}{f:FuncId}(hc:bw P f)(aZ:∀(b:Nat)(es:Array MapEntry)(clock:Nat)(w:World),w.heap[b]?=some (.map es clock)->Calls P f #[.map (some b)] w fun e w'=>e=.returned (.map (some w.heap.size))/\w'=w.alloc (.map es clock))
  {m:AM}{id kn:Nat}{kvs:List (Pi×AV)}(hb:m.boxes.getD id []=[.aJ kn kvs]){K:So}(hK:K (.mp m.boxes.length) {m with boxes:=m.boxes++[[.aJ kn kvs]]}):aB P gl Y f [.mp id] m K:=by
 refine aB.fM hc fun N w0 an γ w vs hm hl hr=>?_
 match vs,hr with
 |[v],hr=>
  obtain⟨aL,hB⟩:=nj hb;obtain⟨b,es,h1,rfl,h3,h4,h5⟩:=hm.iS (hr.2 0 _ v rfl rfl) hB;refine(aZ b es _ w h3).mono fun e w'⟨he,hw⟩=>?_;subst hw;obtain⟨g1,g2⟩:=hm.JO m.boxes.length (by simp[AM.B]) (x:=.aJ kn kvs) (o:=.map es es.size) ⟨rfl,h4,h5⟩;refine⟨_,_,.mp m.boxes.length,{m with boxes:=m.boxes++[[.aJ kn kvs]]},he,g1.cG,?_,hl.mono' g1 rfl,.mp (by simp[G.gq]),hK⟩;rw[Sj];exact g2
 |[],hr=>exact absurd hr.1 zd
 |_::_::_,hr=>exact absurd hr.1 zd
def OY{P:Program}{t:TypeId}{a b c:Nat}(h:(P.info? t).bind (fun i=>i.zero.map fun z=>(i.size,i.bytes,z.cells.size))=some (a,b,c)):∃i z,P.info? t=some i/\i.zero=some z/\i.size=a/\i.bytes=b/\z.cells.size=c:=by
 cases hi:P.info? t with
 |none=>rw[hi]at h;cases h
 |some i=>
  rw[hi]at h;simp only[zzcv]at h;cases hz:i.zero with
  |none=>rw[hz]at h;cases h
  |some z=>
   rw[hz]at h;simp only[zzct,Option.some.injEq,Prod.mk.injEq]at h;exact⟨i,z,rfl,hz,h.1,h.2.1,h.2.2⟩
def OZ{P:Program}{gl:Nat->AV}{Y:YT}{f:FuncId}{t:TypeId}{sz n:Nat}(hc:bw P f)
  (cA:n=0->∀w:World,Calls P f #[.slice none 0 0,.int .i64 (n:Nat)] w fun e w'=>e=.returned (.slice none 0 0)/\w'=w)
  (H7:0<n->∀w:World,Calls P f #[.slice none 0 0,.int .i64 (n:Nat)] w fun e w'=>∃cap cs,e=.returned (.slice (some ⟨w.heap.size,0,none⟩) 0 cap)/\w'=w.drew.alloc (.cells cs t)/\cap*sz<=cs.size)
  {m:AM}{K:So}(h0:n=0->K (.sl .nil []) m)(h1:0<n->K (.sl (.own m.lens.length sz) []) {m with lens:=m.lens++[0]}):aB P gl Y f [.sl .nil [],.int .i64 (n:Nat)] m K:=by
 refine aB.fM hc fun N w0 an γ w vs hm hl hr=>?_
 match vs,hr with
 |[v,u],hr=>
  have hv:v=.slice none 0 0:=by
   have h:=hr.2 0 _ v rfl rfl;cases h with
   |@sl _ _ _ a cap b off dy cv hcap hnil ha hsz hcc QL aX=>
    have:a=none:=aX;subst this;rw[hnil rfl];rfl
  have hu:u=.int .i64 (n:Nat):=(hr.2 1 _ u rfl rfl).aI;subst hv;subst hu;rcases zzck n with hn|hn
  ·refine(cA hn w).mono fun e w'⟨he,hw⟩=>?_;subst hw;exact⟨_,γ,_,m,he,(Ev.refl _ γ).cG,hm,hl,Ck,h0 hn⟩
  refine(H7 hn w).mono fun e w'⟨cap,cs,he,hw,hs⟩=>?_;subst hw;have tI:=hm.aiq;have hL:m.L m.lens.length=none:=by simp[AM.L]
  have ct:γ.own m.lens.length=none:=by
   cases h:γ.own m.lens.length with
   |none=>rfl
   |some b=>obtain⟨_,_,k,hk⟩:=hm.own _ _ h;rw[hL]at hk;cases hk
  have cW:γ.cur m.lens.length=0:=hm.cur0 _ hL;have bT:=tI.2.trans (tI.1.fF (q:=0) (id:=m.lens.length) (n:=0) zE (fun _=>ct) (.cells cs t));refine⟨_,γ.renew m.lens.length w.heap.size 0 0,.sl (.own m.lens.length sz) [],{m with lens:=m.lens++[0]},he,bT.cG,?_,hl.mono' bT rfl,?_,h1 hn⟩
  ·rw[Cw];exact tI.1.renew zE (fun _=>ct) _
  refine .sl (rows:=[]) w.heap.size 0 sz (fun _ _=>undef) (zzbp _) (fun h=>(by cases h)) (fun h=>absurd rfl h) (fun _ h=>by cases h) (fun i j c h=>by simp[Qv]at h) (fun i j c h=>by simp[Qv]at h) ?_;refine⟨rfl,zzbp _,fun _=>.inr ⟨w.heap.size,0,cs,t,rfl,by simp[G.renew],by show(w.heap.push _)[w.heap.size]?=_;simp,zE,fun o' _ hr=>?_⟩⟩;obtain hr|⟨_,hr⟩:=hr
  ·have:=hm.robd _ _ hr;omega
  omega
 |[],hr=>exact absurd hr.1 zd
 |[_],hr=>exact absurd hr.1 zd
 |_::_::_::_,hr=>exact absurd hr.1 zd
end Go.Abs
namespace Go.Proofs.YthjppoincojfkaaGreatDoor
open Go Go.Abs Go.Shelf Go.RowKit Go.Lib
def MA:Go.Shelf.Ren:=⟨fun|5=>169|7=>225|n=>n,fun|23=>254|25=>3|3=>3|4=>4|20=>20|n=>n,fun|n=>n⟩
def an5:Go.Proofs.SlLaysW.n5 Tryz.prog MA:={
 mixed:=by kernel_rfl,
 f5:=⟨Tryz.f169.name,by decide,Tryz.func169.trans (congrArg some (by kernel_rfl))⟩,
 f7:=Tryz.func225.trans (congrArg some (by kernel_rfl)),
 t4:=Tryz.underlying4,
 a4:=Tryz.isAgg4,
 z4:=Tryz.sizeOf4,
 v4:=Tryz.zeroValue4,
 t20:=Tryz.underlying20,
 a20:=Tryz.isAgg20,
 z20:=Tryz.sizeOf20,
 v20:=Tryz.zeroValue20,
 t23:=Tryz.underlying254,
 a23:=Tryz.isAgg254,
 z23:=Tryz.sizeOf254,
 v23:=Tryz.zeroValue254}
def tw:Go.Shelf.Ren:=⟨fun|4=>230|n=>n,fun|22=>42|25=>3|3=>3|4=>4|9=>9|20=>20|0=>0|n=>n,fun|n=>n⟩
def O0:Go.Proofs.Lays8.n4 Tryz.prog tw:={
 mixed:=by kernel_rfl,
 f4:=⟨Tryz.f230.name,by decide,Tryz.func230.trans (congrArg some (by kernel_rfl))⟩,
 t0:=Tryz.underlying0,
 a0:=Tryz.isAgg0,
 z0:=Tryz.sizeOf0,
 v0:=Tryz.zeroValue0,
 t3:=Tryz.underlying3,
 a3:=Tryz.isAgg3,
 z3:=Tryz.sizeOf3,
 v3:=Tryz.zeroValue3,
 t4:=Tryz.underlying4,
 a4:=Tryz.isAgg4,
 z4:=Tryz.sizeOf4,
 v4:=Tryz.zeroValue4,
 t9:=Tryz.underlying9,
 a9:=Tryz.isAgg9,
 z9:=Tryz.sizeOf9,
 v9:=Tryz.zeroValue9,
 t20:=Tryz.underlying20,
 a20:=Tryz.isAgg20,
 z20:=Tryz.sizeOf20,
 v20:=Tryz.zeroValue20,
 t22:=Tryz.underlying42,
 a22:=Tryz.isAgg42,
 z22:=Tryz.sizeOf42,
 v22:=Tryz.zeroValue42}
def yZ:Go.Shelf.Ren:=⟨fun|4=>270|n=>n,fun|22=>98|25=>96|3=>3|4=>4|9=>9|20=>20|0=>0|2=>3|n=>n,fun|n=>n⟩
def abi:Go.Proofs.Lays8.n4 Tryz.prog yZ:={
 mixed:=by kernel_rfl,
 f4:=⟨Tryz.f270.name,by decide,Tryz.func270.trans (congrArg some (by kernel_rfl))⟩,
 t0:=Tryz.underlying0,
 a0:=Tryz.isAgg0,
 z0:=Tryz.sizeOf0,
 v0:=Tryz.zeroValue0,
 t3:=Tryz.underlying3,
 a3:=Tryz.isAgg3,
 z3:=Tryz.sizeOf3,
 v3:=Tryz.zeroValue3,
 t4:=Tryz.underlying4,
 a4:=Tryz.isAgg4,
 z4:=Tryz.sizeOf4,
 v4:=Tryz.zeroValue4,
 t9:=Tryz.underlying9,
 a9:=Tryz.isAgg9,
 z9:=Tryz.sizeOf9,
 v9:=Tryz.zeroValue9,
 t20:=Tryz.underlying20,
 a20:=Tryz.isAgg20,
 z20:=Tryz.sizeOf20,
 v20:=Tryz.zeroValue20,
 t22:=Tryz.underlying98,
 a22:=Tryz.isAgg98,
 z22:=Tryz.sizeOf98,
 v22:=Tryz.zeroValue98}
def Og{Y:YT}{m:AM}{id kn:Nat}{kvs:List (Pi×AV)}(hb:m.boxes.getD id []=[.aJ kn kvs]){K:So}(hK:K (.mp m.boxes.length) {m with boxes:=m.boxes++[[.aJ kn kvs]]}):aB Tryz.prog aD Y 169 [.mp id] m K:=
 abh ⟨_,Tryz.func169,by kernel_rfl,by kernel_rfl⟩ (fun b es clock w h=>AnyW.maps_Clone an5 b es clock w h) hb hK
def aeT{Y:YT}{m:AM}{n:Nat}(hn:n<=1000000000){K:So}(h0:n=0->K (.sl .nil []) m)(h1:0<n->K (.sl (.own m.lens.length 1) []) {m with lens:=m.lens++[0]}):aB Tryz.prog aD Y 230 [.sl .nil [],I n] m K:=by
 obtain⟨i0,z,hi0,hz0,Nv,dY,Cq⟩:=OY (P:=Tryz.prog) (t:=3) (a:=1) (b:=8) (c:=1) (by kernel_rfl);refine OZ (t:=3) (sz:=1) ⟨_,Tryz.func230,by kernel_rfl,by kernel_rfl⟩ (fun gj w=>?_) (fun hp w=>?_) h0 h1
 ·subst gj;exact Any8.slices_Grow_room O0 none 0 0 0 w (zzab _) zE zE (zzab _)
 refine(Any8.slices_Grow_grow O0 i0 z hi0 hz0 zE none 0 0 n [] w (zzab _) zE (by rw[dY];omega) zE zd (fun _=>rfl) (fun a h=>by cases h)).mono fun e w'⟨he,hw⟩=>?_;refine⟨_,_,he,hw,?_⟩;have hg:n<=grownCap w (0+n) 0 3:=by have:=grownCap_ge w (0+n) 0 3;omega
 simp only[zzep,size_zeroCells,Cq];simp;have e1:tw.t 25=3:=rfl;simp only[e1];omega
def aeQ{Y:YT}{m:AM}{n:Nat}(hn:n<=1000000000){K:So}(h0:n=0->K (.sl .nil []) m)(h1:0<n->K (.sl (.own m.lens.length 2) []) {m with lens:=m.lens++[0]}):aB Tryz.prog aD Y 270 [.sl .nil [],I n] m K:=by
 obtain⟨i0,z,hi0,hz0,Nv,dY,Cq⟩:=OY (P:=Tryz.prog) (t:=96) (a:=2) (b:=16) (c:=2) (by kernel_rfl);refine OZ (t:=96) (sz:=2) ⟨_,Tryz.func270,by kernel_rfl,by kernel_rfl⟩ (fun gj w=>?_) (fun hp w=>?_) h0 h1
 ·subst gj;exact Any8.slices_Grow_room abi none 0 0 0 w (zzab _) zE zE (zzab _)
 refine(Any8.slices_Grow_grow abi i0 z hi0 hz0 zE none 0 0 n [] w (zzab _) zE (by rw[dY];omega) zE zd (fun _=>rfl) (fun a h=>by cases h)).mono fun e w'⟨he,hw⟩=>?_;refine⟨_,_,he,hw,?_⟩;have hg:n<=grownCap w (0+n) 0 96:=by have:=grownCap_ge w (0+n) 0 96;omega
 simp only[zzep,size_zeroCells,Cq];simp;have e1:yZ.t 25=96:=rfl;simp only[e1];omega
