import Derived.Test.YtfliagpjbbkijaaGreatDoorVAWjA
import Derived.Shelf.SlMaps.Clone
import Derived.Shelf.Spec.SlicesGrow
set_option linter.all false
set_option maxRecDepth 100000
set_option maxHeartbeats 64000000
namespace Go.Abs
open Go Go.RowKit
def G.only(γ γ':G):G:={γ' with β:=fun i=>if(γ.β i).isSome then γ'.β i else none,mm:=fun i=>if(γ.mm i).isSome then γ'.mm i else none}
section
variable {N:Nat} {w0:fc} {an:Nat->Nat->Prop} {γ γ':G} {w w':World} {P:Program} {gl:Nat->AV} {Y:YT}
def Yr{id b:Nat}(h:(γ.only γ').β id=some b):(γ.β id).isSome/\γ'.β id=some b:=by
 simp only[G.only]at h;split at h
 ·exact⟨by assumption,h⟩
 cases h
def Qap{id b:Nat}(h:(γ.only γ').mm id=some b):(γ.mm id).isSome/\γ'.mm id=some b:=by
 simp only[G.only]at h;split at h
 ·exact⟨by assumption,h⟩
 cases h
def Eg{id b b0:Nat}(h0:γ.β id=some b0)(h:γ'.β id=some b):(γ.only γ').β id=some b:=by simp[G.only,h0,h]
def lC{id b b0:Nat}(h0:γ.mm id=some b0)(h:γ'.mm id=some b):(γ.only γ').mm id=some b:=by simp[G.only,h0,h]
def Su{a:Option Addr}{len cap sz:Nat}{rt:Rt}(h:tL w' γ' a len cap sz rt):tL w' (γ.only γ') a len cap sz rt:=by
 cases rt<;>exact h
def au.only{a:AV}{v:Value}(h:au w' γ' a v):∀{v0:Value},au w γ a v0->au w' (γ.only γ') a v:=by
 induction h generalizing γ with
 |junk v=>exact fun _=>.junk _
 |gd h h' ih=>exact fun k=>.gd (fun hg=>by cases k with|gd k1 _=>exact ih hg (k1 hg)) h'
 |bool b=>exact fun _=>.bool b
 |int k n=>exact fun _=>.int k n
 |str s=>exact fun _=>.str s
 |nilfn=>exact fun _=>.nilfn
 |nilv p=>exact fun _=>.nilv p
 |yld h=>exact fun _=>.yld h
 |mp h=>exact fun k=>by cases k with|mp k=>exact .mp (lC k h)
 |it h=>exact fun k=>by cases k with|it k=>exact .it (lC k h)
 |agg hl _ ih=>
  intro v0 k;cases k with
  |@agg _ _ ee kl k=>
   refine .agg hl fun i c v h1 h2=>?_
   ·have hi:i<ee.size:=by have:=(zza.1 h1).1;omega
    exact ih i c v h1 h2 (k i c ee[i] h1 (by simp[hi]))
 |aQ hl _ ih=>
  intro v0 k;cases k with
  |@aQ _ _ ee kl k=>
   refine .aQ hl fun i c v h1 h2=>?_
   ·have hi:i<ee.size:=by have:=(zza.1 h1).1;omega
    exact ih i c v h1 h2 (k i c ee[i] h1 (by simp[hi]))
 |fn hl _ fG _ ih ih'=>
  intro v0 k;cases k with
  |@fn _ _ _ _ fa0 ca0 kl k kl' k'=>
   refine .fn hl (fun i c v h1 h2=>?_) fG fun i c v h1 h2=>?_
   ·have hi:i<fa0.size:=by have:=(zza.1 h1).1;omega
    exact ih i c v h1 h2 (k i c fa0[i] h1 (by simp[hi]))
   have hi:i<ca0.size:=by have:=(zza.1 h1).1;omega
   exact ih' i c v h1 h2 (k' i c ca0[i] h1 (by simp[hi]))
 |ptr h=>exact fun k=>by cases k with|ptr k=>exact .ptr (Eg k h)
 |er hh=>exact fun _=>.er hh
 |bs h hl hh hs=>exact fun k=>by cases k with|bs k _ _ _=>exact .bs (Eg k h) hl hh hs
 |ep cv hb hc h _=>exact fun _=>.ep cv hb hc h
 |sl b off sz cv hcap hnil ha hsz hc h bk _=>exact fun _=>.sl b off sz cv hcap hnil ha hsz hc h (Su bk)
def cZ.only{x:AV}{o o0:Obj}(h:cZ w' γ' x o)(h0:cZ w γ x o0):cZ w' (γ.only γ') x o:=by
 unfold cZ at h;split at h
 ·rename_i kn kvs es clock;cases o0<;>try exact h0.elim
  rename_i es0 anq;obtain⟨h1,h2,h3⟩:=h;obtain⟨k1,k2,k3⟩:=h0;refine⟨h1,h2,fun i k a e q1 q2=>?_⟩;obtain⟨p1,p2,p3,p4⟩:=h3 i k a e q1 q2;have hi:i<es0.size:=by have:=(zza.1 q1).1;omega
  exact⟨p1,p2,p3,p4.only (k3 i k a es0[i] q1 (by simp[hi])).2.2.2⟩
 ·rename_i mid n seen mb NN sn st;cases o0<;>try exact h0.elim
  rename_i mp0 s0 a0 b0;cases mp0<;>try exact h0.elim
  exact⟨lC h0.1 h.1,h.2⟩
 exact h.elim
def Idle(a:AV):Prop:=∀(w:World)(γ:G)(v:Value),au w γ a v->au w γ.cW a v
def Idle.bool(b:Bool):Idle (.bool b):=fun w γ v h=>by rw[h.bz];exact .bool b
def Idle.int(k:IntKind)(n:Int):Idle (.int k n):=fun w γ v h=>by rw[h.aI];exact .int k n
def Idle.str(s:ByteArray):Idle (.str s):=fun w γ v h=>by rw[h.cE];exact .str s
def Idle.agg{cs:PQ}(h:∀c∈cs,Idle c):Idle (.agg cs):=fun w γ v k=>by
 cases k with
 |agg hl k=>exact .agg hl fun i c v h1 h2=>h c (zzac h1) w γ v (k i c v h1 h2)
def Idle.aQ{cs:PQ}(h:∀c∈cs,Idle c):Idle (.aQ cs):=fun w γ v k=>by
 cases k with
 |aQ hl k=>exact .aQ hl fun i c v h1 h2=>h c (zzac h1) w γ v (k i c v h1 h2)
def Idle.sl{rt:Rt}{rows:X2}(h:∀i s,rt≠.own i s):Idle (.sl rt rows):=fun w γ v k=>by
 cases k with
 |sl b off sz cv hcap hnil ha hsz hc hr bk=>
  refine .sl b off sz cv hcap hnil ha hsz hc hr ?_;cases rt with
  |own i s=>exact absurd rfl (h i s)
  |_=>exact bk
def Idle.ro(rows:X2):Idle (.sl .ro rows):=Idle.sl fun _ _ h=>by cases h
def Idle.nil(rows:X2):Idle (.sl .nil rows):=Idle.sl fun _ _ h=>by cases h
def Idle.full(rows:X2):Idle (.sl .full rows):=Idle.sl fun _ _ h=>by cases h
def YZ(cells:PQ):Prop:=(∀c∈cells,Idle c/\Qw c=true)\/∃kn kvs,cells=[.aL kn kvs]/\∀p∈kvs,Idle p.2
def Idle.rep{a:AV}(h:Idle a){v:Value}(hr:au w' γ' a v):au w' (γ.only γ') a v:=au.gF (γ:=γ.only γ') (h w' γ' v hr)
def aq.only{m m1:AM}{ex:X2}(hm:aq N w0 an γ w m.B m.L)(ez:aq N w0 an γ' w' ({m1 with boxes:=m1.boxes++ex}:AM).B m1.L)(e:ek w γ w' γ')
  (aH:m1.boxes.length=m.boxes.length)(hL:m1.lens=m.lens)(hk:∀(id:Nat)(cells:PQ),m1.boxes[id]?=some cells->m.boxes[id]?=some cells\/YZ cells):aq N w0 an (γ.only γ') w' m1.B m1.L:=by
 have hB:∀{id:Nat}{cells:PQ},m1.B id=some cells->({m1 with boxes:=m1.boxes++ex}:AM).B id=some cells:=fun{id cells}h=>by
  simp only[AM.B]at h |-
  rw[zzak (zza.1 h).1];exact h
 have hB1:∀{id:Nat}{cells:PQ},m.B id=some cells->∃om,m1.B id=some om:=fun{id cells}h=>by
  have:=(zza.1 h).1;exact⟨_,zzad zE⟩
 have qp:∀{id:Nat},(γ.β id).isSome->∃b cells om,γ.β id=some b/\γ'.β id=some b/\m.B id=some cells/\m1.B id=some om:=fun{id}h=>by
  obtain⟨b,hb⟩:=zzcg.1 h;obtain⟨_,_,_,_,c,hc⟩:=hm.β id b hb;obtain⟨c1,fe⟩:=hB1 hc;exact⟨b,c,c1,hb,e.β id b hb,hc,fe⟩
 refine⟨w0.st _ _ _ _ ez.bs ⟨rfl,rfl,rfl,zzaa _,fun _ _ _=>rfl,fun _ _ _ h=>⟨h,rfl⟩,fun b hb=>.inl ?_,fun _ _ h=>.inl h⟩,ez.hN,ez.an,ez.robd,fun id cells b hb h1=>?_,fun id b hb=>?_,fun i i' b h h'=>?_,ez.own,ez.oinj,fun b hb=>?_,fun id b hb=>?_,fun i i' b h h'=>?_,ez.len,ez.cur0⟩
 ·obtain⟨i,hi⟩|hb|hb|⟨i,hi⟩:=hb
  ·exact .inl ⟨i,(Yr hi).2⟩
  ·exact .inr (.inl hb)
  ·exact .inr (.inr (.inl hb))
  exact .inr (.inr (.inr ⟨i,(Qap hi).2⟩))
 ·obtain⟨h2,h3⟩:=Yr h1;obtain⟨b0,c0,_,g1,g2,g3,_⟩:=qp h2;rw[h3]at g2;cases g2;obtain⟨arr,e',q1,q2,q3⟩:=ez.box id cells b (hB hb) h3;refine⟨arr,e',q1,⟨q2.1,fun i c v hi hv=>?_⟩,q3⟩;rcases hk id cells hb with hk|hk|⟨kn,kvs,rfl,_⟩
  ·obtain⟨ee,_,_,k2,_⟩:=hm.box id cells b hk g1
   have aa:i<ee.size:=by
    have h5:=(zza.1 hi).1;have h6:=k2.1;simp at h6;omega
   exact(q2.2 i c v hi hv).only (k2.2 i c ee[i] hi (by simp[aa]))
  ·exact(hk c (zzac hi)).1.rep (q2.2 i c v hi hv)
  have:=q2.2 i c v hi hv;cases i with
  |zero=>cases hi;cases this
  |succ i=>cases hi
 ·obtain⟨h2,h3⟩:=Yr hb;obtain⟨b0,c0,c1,_,_,_,g4⟩:=qp h2;obtain⟨q1,q2,q3,q4,_⟩:=ez.β id b h3;exact⟨q1,q2,q3,q4,c1,g4⟩
 ·obtain⟨h2,h3⟩:=Yr h;obtain⟨h4,h5⟩:=Yr h';obtain⟨_,_,c,_,_,_,g3⟩:=qp h2;obtain⟨_,_,c',_,_,_,g3'⟩:=qp h4;have:=ez.inj i i' b h3 h5;rw[hB g3,hB g3']at this;rw[g3,g3'];exact this
 ·obtain⟨q1,q2,q3,q4,q5⟩:=ez.sp b hb;exact⟨q1,q2,q3,fun i hi=>q4 i (Yr hi).2,q5⟩
 ·obtain⟨h2,h3⟩:=Qap hb;obtain⟨b0,dG⟩:=zzcg.1 h2;obtain⟨q1,q2,q3,q4,q5,q6,q8,x,o,q7,q9,q10⟩:=ez.mm id b h3;obtain⟨_,_,_,_,_,_,_,x0,o0,k7,k9,Al⟩:=hm.mm id b0 dG;obtain⟨c1,fe⟩:=hB1 k7;have hx:c1=[x]:=by rw[hB fe]at q7;cases q7;rfl
  subst hx;refine⟨q1,q2,q3,fun i hi=>q4 i (Yr hi).2,q5,q6,by simp[G.only,q8],x,o,fe,q9,?_⟩;rcases hk id [x] fe with hk|hk|⟨kn,kvs,hx,hk⟩
  ·have:x=x0:=by
    have k7':m.boxes[id]?=some [x0]:=k7;rw[hk]at k7';cases k7';rfl
   subst this;exact q10.only Al
  ·have:=(hk x zd).2;cases x<;>cases o<;>first|exact q10.elim|(simp[Qw]at this)
  cases hx;cases o<;>try exact q10.elim
  obtain⟨h4,h5,h6⟩:=q10;refine⟨h4,h5,fun i k a e s1 s2=>?_⟩;obtain⟨p1,p2,p3,p4⟩:=h6 i k a e s1 s2;exact⟨p1,p2,p3,(hk (k,a) (zzac s1)).rep p4⟩
 exact ez.minj i i' b (Qap h).2 (Qap h').2
def ek.only(e:ek w γ w' γ'):ek w γ w' (γ.only γ'):=
 ⟨e.size,e.ro,fun id b h=>Eg h (e.β id b h),e.cur,fun id b h=>lC h (e.mm id b h),e.lp,e.own,e.sp,e.ss⟩
def aA.forget{f:FuncId}{as':PQ}{m:AM}{K:UV}
  (
   h:aA P gl Y f as' m fun r m'=>∃m1 ex,m'={m1 with boxes:=m1.boxes++ex}/\m1.boxes.length=m.boxes.length/\m1.lens=m.lens/\
   (∀(id:Nat)(cells:PQ),m1.boxes[id]?=some cells->m.boxes[id]?=some cells\/YZ cells)/\Idle r/\K r m1):aA P gl Y f as' m K:=by
 refine⟨h.1,fun N w0 an γ w vs hm hl hg hy hr=>CallsIn.mono (h.2 N w0 an γ w vs hm hl hg hy hr) ?_⟩;rintro en w' ⟨v,γ',r,m',rfl,g1,g2,g3,g4,m1,ex,rfl,g5,g6,g7,g8,g9⟩;exact⟨v,γ.only γ',r,m1,rfl,g1.only,hm.only g2 g1 g5 g6 g7,g3,g8.rep g4,g9⟩
def aA.read{f:FuncId}{as':PQ}{m:AM}{K:AV->Prop}(h:aA P gl Y f as' m fun r m'=>∃ex,m'={m with boxes:=m.boxes++ex}/\Idle r/\K r):aA P gl Y f as' m fun r m'=>m'=m/\K r:=by
 refine aA.forget ⟨h.1,fun N w0 an γ w vs hm hl hg hy hr=>CallsIn.mono (h.2 N w0 an γ w vs hm hl hg hy hr) ?_⟩;rintro en w' ⟨v,γ',r,m',rfl,g1,g2,g3,g4,ex,rfl,g5,g6⟩;exact⟨v,γ',r,_,rfl,g1,g2,g3,g4,m,ex,rfl,rfl,rfl,fun _ _ h=>.inl h,g5,rfl,g6⟩
end
def G.ajI(γ:G):G:={γ with own:=fun _=>none,cur:=fun _=>0}
def G.dy(n:Nat)(γ γ':G):G:={γ.only γ' with own:=fun i=>if i<n then γ'.own i else none,cur:=fun i=>if i<n then γ'.cur i else 0}
def cz(a:AV):Prop:=∀(w:World)(γ:G)(v:Value),au w γ a v->au w γ.ajI a v
def cz.bool(b:Bool):cz (.bool b):=fun w γ v h=>by rw[h.bz];exact .bool b
def cz.int(k:IntKind)(n:Int):cz (.int k n):=fun w γ v h=>by rw[h.aI];exact .int k n
def cz.str(s:ByteArray):cz (.str s):=fun w γ v h=>by rw[h.cE];exact .str s
def cz.aL(kn:Nat)(kvs:List (P2×AV)):cz (.aL kn kvs):=fun w γ v h=>by cases h
def cz.mp(id:Nat):cz (.mp id):=fun w γ v h=>by cases h with|mp h=>exact .mp h
def cz.sl{rt:Rt}{rows:X2}(h:∀i s,rt≠.own i s):cz (.sl rt rows):=fun w γ v k=>by
 cases k with
 |sl b off sz cv hcap hnil ha hsz hc hr bk=>
  refine .sl b off sz cv hcap hnil ha hsz hc hr ?_;cases rt with
  |own i s=>exact absurd rfl (h i s)
  |_=>exact bk
def Mg(cells:PQ):Prop:=∀c∈cells,cz c/\∀kn kvs,c=.aL kn kvs->∀p∈kvs,cz p.2
def Kept(bs:X2)(id:Nat)(cw cells:PQ):Prop:=
 (cw=cells/\bs[id]?=some cells/\Mg cells)\/(cw=cells/\∀c∈cells,Idle c/\Qw c=true)\/
 ∃(kn:Nat)(Mx kvs:List (P2×AV)),cw=[.aL kn Mx]/\cells=[.aL kn kvs]/\Mx.length=kvs.length/\(∀p∈kvs,Idle p.2)/\∀(i:Nat)(k:P2)(a:AV)(k':P2)(a':AV),Mx[i]?=some (k',a')->kvs[i]?=some (k,a)->k'=k/\Wk a' a
def Kept.empty{bs:X2}{id:Nat}{cw cells:PQ}(h:Kept bs id cw cells)(h':cw=[]):cells=[]:=by
 obtain⟨rfl,_⟩|⟨rfl,_⟩|⟨kn,Mx,kvs,rfl,rfl,_⟩:=h
 ·exact h'
 ·exact h'
 cases h'
section
variable {N:Nat} {w0:fc} {an:Nat->Nat->Prop} {γ γ':G} {w w':World} {P:Program} {gl:Nat->AV} {Y:YT}
def Sv(n:Nat):NM w' (γ.only γ'.ajI) w' (γ.dy n γ'):=
 ⟨zzaa _,fun _ _ _ h=>⟨h,rfl⟩,fun _ _ h=>h,fun _=>zzbi _,fun _ _ h=>h,fun _ _ h=>h,fun _ _ _ h=>(by cases h),Sz.refl w'⟩
def au.dy{a:AV}{v v0:Value}(n:Nat)(h:au w' γ' a v)(no:cz a)(h0:au w γ a v0):au w' (γ.dy n γ') a v:=
 ((no _ _ _ h).only (γ:=γ) h0).eu (Sv n)
def Idle.atG{a:AV}(n:Nat)(h:Idle a){v:Value}(hr:au w' γ' a v):au w' (γ.dy n γ') a v:=au.gF (γ:=γ.dy n γ') (h w' γ' v hr)
def cZ.dy{x:AV}{o o0:Obj}(n:Nat)(h:cZ w' γ' x o)(h0:cZ w γ x o0)(no:∀kn kvs,x=.aL kn kvs->∀p∈kvs,cz p.2):cZ w' (γ.dy n γ') x o:=by
 unfold cZ at h;split at h
 ·rename_i kn kvs es clock;cases o0<;>try exact h0.elim
  rename_i es0 anq;obtain⟨h1,h2,h3⟩:=h;obtain⟨k1,k2,k3⟩:=h0;refine⟨h1,h2,fun i k a e q1 q2=>?_⟩;obtain⟨p1,p2,p3,p4⟩:=h3 i k a e q1 q2;have hi:i<es0.size:=by have:=(zza.1 q1).1;omega
  exact⟨p1,p2,p3,p4.dy n (no kn kvs rfl (k,a) (zzac q1)) (k3 i k a es0[i] q1 (by simp[hi])).2.2.2⟩
 ·rename_i mid n' seen mb NN sn st;cases o0<;>try exact h0.elim
  rename_i mp0 s0 a0 b0;cases mp0<;>try exact h0.elim
  exact⟨lC h0.1 h.1,h.2⟩
 exact h.elim
def aq.dy{m m1:AM}{mx ex:X2}{exl:P1}(hm:aq N w0 an γ w m.B m.L)(ez:aq N w0 an γ' w' (fun i=>(mx++ex)[i]?) (fun i=>(m.lens++exl)[i]?))(e:ek w γ w' γ')
  (aH:m1.boxes.length=m.boxes.length)(hmx:mx.length=m.boxes.length)(hL:m1.lens=m.lens)
  (hk:∀(id:Nat)(cells cw:PQ),m1.boxes[id]?=some cells->mx[id]?=some cw->Kept m.boxes id cw cells):
  aq N w0 an (γ.dy m.lens.length γ') w' m1.B m1.L:=by
 have hB:∀{id:Nat}{cells:PQ},m1.B id=some cells->∃cw,mx[id]?=some cw/\(mx++ex)[id]?=some cw:=fun{id cells}h=>by
  have h':id<m1.boxes.length:=(zza.1 h).1;have h2:id<mx.length:=zE
  exact⟨mx[id],by simp[h2],by rw[zzak h2];simp[h2]⟩
 have hB1:∀{id:Nat}{cells:PQ},m.B id=some cells->∃om,m1.B id=some om:=fun{id cells}h=>by
  have:=(zza.1 h).1;exact⟨_,zzad zE⟩
 have qp:∀{id:Nat},(γ.β id).isSome->∃b cells om,γ.β id=some b/\γ'.β id=some b/\m.B id=some cells/\m1.B id=some om:=fun{id}h=>by
  obtain⟨b,hb⟩:=zzcg.1 h;obtain⟨_,_,_,_,c,hc⟩:=hm.β id b hb;obtain⟨c1,fe⟩:=hB1 hc;exact⟨b,c,c1,hb,e.β id b hb,hc,fe⟩
 have yY:∀{id b:Nat},(γ.dy m.lens.length γ').own id=some b->id<m.lens.length/\γ'.own id=some b:=fun{id b}h=>by
  have h:(if id<m.lens.length then γ'.own id else none)=some b:=h;split at h
  ·exact⟨by assumption,h⟩
  cases h
 refine⟨w0.st _ _ _ _ ez.bs ⟨rfl,rfl,rfl,zzaa _,fun _ _ _=>rfl,fun _ _ _ h=>⟨h,rfl⟩,fun b hb=>.inl ?_,fun _ _ h=>.inl h⟩,ez.hN,ez.an,ez.robd,fun id cells b hb h1=>?_,fun id b hb=>?_,fun i i' b h h'=>?_,fun id b hb=>?_,fun i i' b h h'=>ez.oinj i i' b (yY h).2 (yY h').2,fun b hb=>?_,fun id b hb=>?_,fun i i' b h h'=>?_,fun id n hn=>?_,fun id hn=>?_⟩
 ·obtain⟨i,hi⟩|⟨i,hi⟩|hb|⟨i,hi⟩:=hb
  ·exact .inl ⟨i,(Yr hi).2⟩
  ·exact .inr (.inl ⟨i,(yY hi).2⟩)
  ·exact .inr (.inr (.inl hb))
  exact .inr (.inr (.inr ⟨i,(Qap hi).2⟩))
 ·obtain⟨h2,h3⟩:=Yr h1;obtain⟨b0,c0,_,g1,g2,g3,_⟩:=qp h2;rw[h3]at g2;cases g2;obtain⟨cw,fe,zH⟩:=hB hb;obtain⟨arr,e',q1,q2,q3⟩:=ez.box id cw b zH h3;rcases hk id cells cw hb fe with⟨rfl,hk,no⟩|⟨rfl,aM⟩|⟨kn,Mx,kvs,rfl,rfl,_⟩
  ·refine⟨arr,e',q1,⟨q2.1,fun i c v hi hv=>?_⟩,q3⟩;obtain⟨ee,_,_,k2,_⟩:=hm.box id cw b hk g1
   have aa:i<ee.size:=by
    have h5:=(zza.1 hi).1;have h6:=k2.1;simp at h6;omega
   exact(q2.2 i c v hi hv).dy _ (no c (zzac hi)).1 (k2.2 i c ee[i] hi (by simp[aa]))
  ·exact⟨arr,e',q1,⟨q2.1,fun i c v hi hv=>(aM c (zzac hi)).1.atG _ (q2.2 i c v hi hv)⟩,q3⟩
  refine⟨arr,e',q1,⟨Pi q2.1,fun i c v hi hv=>?_⟩,q3⟩;cases i with
  |zero=>have:=q2.2 0 _ v rfl hv;cases this
  |succ i=>cases hi
 ·obtain⟨h2,h3⟩:=Yr hb;obtain⟨b0,c0,c1,_,_,_,g4⟩:=qp h2;obtain⟨q1,q2,q3,q4,_⟩:=ez.β id b h3;exact⟨q1,q2,q3,fun id' h=>q4 id' (yY h).2,c1,g4⟩
 ·obtain⟨h2,h3⟩:=Yr h;obtain⟨h4,h5⟩:=Yr h';obtain⟨_,_,c,_,_,_,g3⟩:=qp h2;obtain⟨_,_,c',_,_,_,g3'⟩:=qp h4;obtain⟨d,d1,d2⟩:=hB g3;obtain⟨d',d1',d2'⟩:=hB g3';have:=ez.inj i i' b h3 h5;simp only[d2,d2']at this
  have em:∀{id:Nat}{c d:PQ},m1.B id=some c->mx[id]?=some d->d=[]->c=[]:=fun{id c d}h1 h2 h3=>by
   exact(hk id c d h1 h2).empty h3
  obtain h|h|h:=this
  ·exact .inl (by rw[g3,em g3 d1 (Pi h)])
  ·exact .inr (.inl (by rw[g3',em g3' d1' (Pi h)]))
  exact .inr (.inr h)
 ·obtain⟨h1,h2⟩:=yY hb;obtain⟨q1,q2,_⟩:=ez.own id b h2;refine⟨q1,q2,m.lens[id],?_⟩;simp only[AM.L,hL];exact zzad h1
 ·obtain⟨q1,q2,q3,q4,q5⟩:=ez.sp b hb;exact⟨q1,q2,q3,fun i hi=>q4 i (Yr hi).2,fun i hi=>q5 i (yY hi).2⟩
 ·obtain⟨h2,h3⟩:=Qap hb;obtain⟨b0,dG⟩:=zzcg.1 h2;obtain⟨q1,q2,q3,q4,q5,q6,q8,x,o,q7,q9,q10⟩:=ez.mm id b h3;obtain⟨_,_,_,_,_,_,_,x0,o0,k7,k9,Al⟩:=hm.mm id b0 dG;obtain⟨c1,fe⟩:=hB1 k7;obtain⟨cw,d1,d2⟩:=hB fe;have hx:cw=[x]:=by rw[d2]at q7;cases q7;rfl
  subst hx
  have hβ:(γ.dy m.lens.length γ').β id=none:=by
   show(if(γ.β id).isSome then γ'.β id else none)=none;rw[q8];split<;>rfl
  refine⟨q1,q2,q3,fun i hi=>q4 i (Yr hi).2,fun i hi=>q5 i (yY hi).2,q6,hβ,?_⟩;rcases hk id c1 [x] fe d1 with⟨rfl,hk,no⟩|⟨rfl,aM⟩|⟨kn,Mx,kvs,h1,rfl,h4,aM,h5⟩
  ·refine⟨x,o,fe,q9,?_⟩
   have:x=x0:=by
    have k7':m.boxes[id]?=some [x0]:=k7;rw[hk]at k7';cases k7';rfl
   subst this;exact q10.dy _ Al (no x zd).2
  ·have:=(aM x zd).2;cases x<;>cases o<;>first|exact q10.elim|(simp[Qw]at this)
  cases h1;cases o<;>try exact q10.elim
  obtain⟨g4,g5,g6⟩:=q10;refine⟨_,_,fe,q9,g4,zE,fun i k a e s1 s2=>?_⟩;have dn:=(zza.1 s1).1;obtain⟨k',a',uw⟩:∃k' a',Mx[i]?=some (k',a'):=⟨_,_,zzad zE⟩;obtain⟨p1,p2,p3,p4⟩:=g6 i k' a' e uw s2;obtain⟨rfl,r2⟩:=h5 i k a k' a' uw s1;exact⟨p1,p2,p3,(aM _ (zzac s1)).atG _ (r2 _ _ _ p4)⟩
 ·exact ez.minj i i' b (Qap h).2 (Qap h').2
 ·have hn:m.lens[id]?=some n:=by rw[<- hL];exact hn
  have aa:=(zza.1 hn).1;have:=ez.len id n (by show(m.lens++exl)[id]?=some n;rw[zzak aa];exact hn);show(if id<m.lens.length then γ'.cur id else 0)=n;rw[if_pos aa];exact this
 have hn:m.lens[id]?=none:=by rw[<- hL];exact hn
 have bu:=zzgr.1 hn;show(if id<m.lens.length then γ'.cur id else 0)=0;rw[if_neg zE]
def ek.dy{m:AM}(hm:aq N w0 an γ w m.B m.L)(e:ek w γ w' γ'):ek w γ w' (γ.dy m.lens.length γ'):=by
 have ho:∀id b,γ.own id=some b->id<m.lens.length:=fun id b h=>by
  obtain⟨_,_,n,hn⟩:=hm.own id b h;exact(zza.1 hn).1
 have hc:∀id,¬id<m.lens.length->γ.cur id=0:=fun id h=>hm.cur0 id (zzgr.2 zE);refine⟨e.size,e.ro,fun id b h=>Eg h (e.β id b h),fun id=>?_,fun id b h=>lC h (e.mm id b h),e.lp,fun id b h1 h2=>?_,e.sp,e.ss⟩
 ·show γ.cur id<=if id<m.lens.length then γ'.cur id else 0;split
  ·exact e.cur id
  rename_i h;rw[hc id h];exact zzaa _
 have aa:=ho id b h2;have h1:(if id<m.lens.length then γ'.cur id else 0)=γ.cur id:=h1;rw[if_pos aa]at h1;obtain⟨a1,a2,a3⟩:=e.own id b h1 h2;refine⟨?_,a2,a3⟩;show(if id<m.lens.length then γ'.own id else none)=some b;rw[if_pos aa];exact a1
def aA.mono{f:FuncId}{as':PQ}{m:AM}{K K':UV}(h:aA P gl Y f as' m K)(hk:∀r m',K r m'->K' r m'):aA P gl Y f as' m K':=by
 refine⟨h.1,fun N w0 an γ w vs hm hl hg hy hr=>CallsIn.mono (h.2 N w0 an γ w vs hm hl hg hy hr) ?_⟩;rintro en w' ⟨v,γ',r,m',g0,g1,g2,g3,g4,g5⟩;exact⟨v,γ',r,m',g0,g1,g2,g3,g4,hk _ _ g5⟩
end
end Go.Abs
namespace Go.Proofs.YtfliagpjbbkijaaGreatDoor
open Go Go.Abs
def Dr:PQ:=[I 24000,I 1001,I 24,I 0,I 24,I 1,I 24,I 0,I 25,I 1,I 25,I 0,I 30000,I 1001,I 30,I 2,I 30,I 1,I 30,I 0,I 50,I 1,I 50,I 0,I 60000,I 1001,I 60,I 4,I 60,I 1,I 60,I 0]
def aD:Nat->AV
 |2=>.ep Dr 0
 |_=>.junk
def Zb{α:Type}{l:List α}{i:Nat}{a:α}(h:l[i]?=some a):l.drop i=a::l.drop (i+1):=by
 obtain⟨h1,h2⟩:=zza.1 h;rw[zzaf h1,h2]
structure Evt where
 id:Int
 it:Int
 st:Int
 fr:Int
 i:Int
 re:Int
 al:Option Int
def jv:Pure Tryz.prog aD 60 [.sl .nil []] (.sl .nil []):=by
 refine Qn JD (fun _ _ _=>.junk) zd ?_;simp[abW,abX]
def nT(f:Int):Prop:= -1000000<=f/\f<=1000000
def wu(n:Int)(h:0<=n)(h':n<=2000000):IntKind.u64.wrap n=n:=by
 simp[IntKind.wrap,IntKind.bits,IntKind.signed];omega
def ajn:AV:=.aQ [.agg [I 0,I 0,I 0,I 0,I 0,I 0,.sl .nil []],I 0,.bool false]
abbrev Sp:=Int×Int
def Xr(l:List Sp)(x:Int):Prop:=∃s∈l,s.1<=x/\x<s.2
def VS(l:List Sp):Prop:=(∀s∈l,s.1<s.2)/\l.Pairwise fun a b=>a.2<b.1
@[simp] def Yn(x:Int):Xr [] x<->False:=by simp[Xr]
@[simp] def Xd(s:Sp)(l:List Sp)(x:Int):Xr (s::l) x<->(s.1<=x/\x<s.2)\/Xr l x:=by simp[Xr]
@[simp] def Yq(a b:List Sp)(x:Int):Xr (a++b) x<->Xr a x\/Xr b x:=by
 simp only[Xr,zzap,or_and_right,exists_or]
def Sw{a b:List Sp}(h:a.Perm b)(x:Int):Xr a x<->Xr b x:=by simp only[Xr,h.mem_iff]
def sd:VS []:=⟨fun _ h=>(by cases h),.nil⟩
def dm{s:Sp}{l:List Sp}:VS (s::l)<->s.1<s.2/\(∀t∈l,s.2<t.1)/\VS l:=by
 simp only[VS,zzao,forall_eq_or_imp,zzbz];constructor
 ·rintro⟨⟨h1,h2⟩,h3,h4⟩;exact⟨h1,h3,h2,h4⟩
 rintro⟨h1,h3,h2,h4⟩;exact⟨⟨h1,h2⟩,h3,h4⟩
def Eh{s:Sp}{l:List Sp}:VS (l++[s])<->VS l/\s.1<s.2/\∀t∈l,t.2<s.1:=by
 simp only[VS,zzap,zzcp,List.pairwise_append,List.pairwise_singleton,true_and];constructor
 ·rintro⟨h1,h2,h3⟩;exact⟨⟨fun t ht=>h1 t (.inl ht),h2⟩,h1 s (.inr rfl),fun t ht=>h3 t ht s rfl⟩
 rintro⟨⟨h1,h2⟩,h3,h4⟩;refine⟨?_,h2,?_⟩
 ·rintro t (ht|rfl)
  ·exact h1 t ht
  exact h3
 rintro t ht u rfl;exact h4 t ht
def se:∀{a b:List Sp},VS a->VS b->(∀x,Xr a x<->Xr b x)->a=b
 |[],[],_,_,_=>rfl
 |[],t::b,_,hb,h=>by
  have:=(h t.1).2 (by rw[Xd];exact .inl ⟨zzby _,(dm.1 hb).1⟩);simp at this
 |s::a,[],ha,_,h=>by
  have:=(h s.1).1 (by rw[Xd];exact .inl ⟨zzby _,(dm.1 ha).1⟩);simp at this
 |s::a,t::b,ha,hb,h=>by
  obtain⟨s1,s2,s3⟩:=dm.1 ha;obtain⟨t1,t2,t3⟩:=dm.1 hb
  have key:∀{u v:Sp}{p q:List Sp},u.1<u.2->v.1<v.2->(∀w∈q,v.2<w.1)->(∀x,Xr (u::p) x->Xr (v::q) x)->v.1<=u.1:=by
   intro u v p q h1 qP h2 h3;obtain⟨w,hw,h4,h5⟩:=h3 u.1 (by rw[Xd];exact .inl ⟨zzby _,h1⟩);rcases zzao.1 hw with rfl|hw
   ·exact h4
   have:=h2 w hw;omega
  have e1:s.1=t.1:=Int.le_antisymm (key t1 s1 s2 fun x hx=>(h x).2 hx) (key s1 t1 t2 fun x hx=>(h x).1 hx)
  have YJ:∀{u v:Sp}{p q:List Sp},u.1<u.2->u.1=v.1->(∀w∈p,u.2<w.1)->(∀x,Xr (v::q) x->Xr (u::p) x)->¬u.2<v.2:=by
   intro u v p q h1 h2 h3 h4 h5;obtain⟨w,hw,h6,h7⟩:=h4 u.2 (by rw[Xd];exact .inl ⟨zE,h5⟩);rcases zzao.1 hw with rfl|hw
   ·omega
   have:=h3 w hw;omega
  have e2:s.2=t.2:=by
   have k1:=YJ s1 e1 s2 fun x hx=>(h x).2 hx;have k2:=YJ t1 e1.symm t2 fun x hx=>(h x).1 hx;omega
  have e:s=t:=Prod.ext e1 e2;subst e;congr 1;refine se s3 t3 fun x=>?_
  have out:∀{p:List Sp},(∀w∈p,s.2<w.1)->Xr p x->¬(s.1<=x/\x<s.2):=by
   rintro p hp ⟨w,hw,h1,_⟩ ⟨_,h2⟩;have:=hp w hw;omega
  have hx:=h x;rw[Xd,Xd]at hx;constructor
  ·intro h1;exact(hx.1 (.inr h1)).resolve_left (out s2 h1)
  intro h1;exact(hx.2 (.inr h1)).resolve_left (out t2 h1)
def QW(out:List Sp)(v:Sp):List Sp:=match out.getLast? with
 |none=>[v]
 |some u=>if v.1<=u.2 then out.dropLast++[(u.1,max u.2 v.2)]else out++[v]
def F2:List Sp->List Sp->List Sp
 |out,[]=>out
 |out,v::r=>F2 (QW out v) r
def anr{out:List Sp}{v:Sp}(ho:VS out)(hv:v.1<v.2)(hl:∀u∈out,u.1<=v.1):
  VS (QW out v)/\(∀x,Xr (QW out v) x<->Xr (out++[v]) x)/\∀u∈QW out v,u.1<=v.1:=by
 unfold QW;cases h:out.getLast? with
 |none=>
  have:out=[]:=List.getLast?_eq_none_iff.1 h;subst this;exact⟨dm.2 ⟨hv,zd,sd⟩,zd,zd⟩
 |some u=>
  obtain⟨p,rfl⟩:∃p,out=p++[u]:=zzfg.1 h;obtain⟨h1,h2,h3⟩:=Eh.1 ho;have hu:=hl u zd;by_cases hc:v.1<=u.2
  ·simp only[if_pos hc,zzfv];refine⟨Eh.2 ⟨h1,?_,h3⟩,fun x=>?_,?_⟩
   ·show u.1<max u.2 v.2;omega
   ·simp only[Yq,Xd,Yn,or_false];constructor
    ·rintro(h|h)
     ·exact .inl (.inl h)
     by_cases hx:x<u.2
     ·exact .inl (.inr ⟨h.1,hx⟩)
     exact .inr ⟨zE,zE⟩
    rintro((h|h)|h)
    ·exact .inl h
    ·exact .inr ⟨h.1,zE⟩
    exact .inr ⟨zE,zE⟩
   intro w hw;rcases zzap.1 hw with hw|hw
   ·exact hl w (by simp[hw])
   simp at hw;subst hw;exact hu
  simp only[if_neg hc];refine⟨Eh.2 ⟨ho,hv,fun t ht=>?_⟩,fun x=>by simp only[],?_⟩
  ·rcases zzap.1 ht with ht|ht
   ·have:=h3 t ht;omega
   simp at ht;subst ht;omega
  intro w hw;rcases zzap.1 hw with hw|hw
  ·exact hl w hw
  simp at hw;subst hw;exact zzby _
def aaT:∀{r out:List Sp},VS out->(∀v∈r,v.1<v.2)->r.Pairwise (fun a b=>a.1<=b.1)->(∀u∈out,∀v∈r,u.1<=v.1)->
  VS (F2 out r)/\∀x,Xr (F2 out r) x<->Xr (out++r) x
 |[],out,h,_,_,_=>⟨h,fun x=>by simp[F2]⟩
 |v::r,out,h,hn,hp,hl=>by
  obtain⟨h1,h2,h3⟩:=anr h (hn v zd) fun u hu=>hl u hu v zd;obtain⟨p1,p2⟩:=zzbz.1 hp;obtain⟨h4,h5⟩:=aaT (r:=r) h1 (fun w hw=>hn w (by simp[hw])) p2 fun u hu w hw=>zzhq (h3 u hu) (p1 w hw);refine⟨h4,fun x=>?_⟩;rw[F2,h5,Yq,h2];simp only[Yq,Xd,Yn,or_false,or_assoc]
def mh(s:Sp):Bool:=decide (s.1<s.2)
def Xj(l:List Sp):List Sp:=F2 [] ((l.filter mh).mergeSort fun a b=>decide (a.1<=b.1))
def My(l:List Sp)(x:Int):Xr (l.filter mh) x<->Xr l x:=by
 simp only[Xr,zzcr,mh,decide_eq_true_eq];constructor
 ·rintro⟨s,⟨h1,_⟩,h2⟩;exact⟨s,h1,h2⟩
 rintro⟨s,h1,h2⟩;exact⟨s,⟨h1,zE⟩,h2⟩
def oo{l d:List Sp}(hp:d.Perm (l.filter mh))(hs:d.Pairwise fun a b=>a.1<=b.1):VS (F2 [] d)/\∀x,Xr (F2 [] d) x<->Xr l x:=by
 obtain⟨h1,h2⟩:=aaT (r:=d) sd (fun v hv=>by have:=hp.mem_iff.1 hv;simp[mh]at this;exact this.2) hs zd;exact⟨h1,fun x=>by rw[h2,zzaj,Sw hp,My]⟩
def Zy(l:List Sp):VS (Xj l)/\∀x,Xr (Xj l) x<->Xr l x:=by
 refine oo (zzgc _ _) ?_;have:=zzgw (le:=fun a b:Sp=>decide (a.1<=b.1)) (fun a b c h1 h2=>by simp at*;omega) (fun a b=>by simp;omega) (l.filter mh);exact this.imp zd
def alW{l d:List Sp}(hp:d.Perm (l.filter mh))(hs:d.Pairwise fun a b=>a.1<=b.1):F2 [] d=Xj l:=
 se (oo hp hs).1 (Zy l).1 fun x=>by rw[(oo hp hs).2,(Zy l).2]
def aaU{l:List Sp}(h:VS l):Xj l=l:=se (Zy l).1 h (Zy l).2
def ans{P:Int->Prop}{out:List Sp}{v:Sp}(ho:∀u∈out,P u.1/\P u.2)(hv:P v.1/\P v.2):∀u∈QW out v,P u.1/\P u.2:=by
 unfold QW;cases h:out.getLast? with
 |none=>intro u hu;simp at hu;subst hu;exact hv
 |some w=>
  obtain⟨p,rfl⟩:∃p,out=p++[w]:=zzfg.1 h;have hw:=ho w zd;by_cases hc:v.1<=w.2
  ·simp only[if_pos hc,zzfv];intro u hu;rcases zzap.1 hu with hu|hu
   ·exact ho u (by simp[hu])
   simp at hu;subst hu;refine⟨hw.1,?_⟩;show P (max w.2 v.2);rcases Int.le_total w.2 v.2 with h|h
   ·rw[Int.max_eq_right h];exact hv.2
   rw[Int.max_eq_left h];exact hw.2
  simp only[if_neg hc];intro u hu;rcases zzap.1 hu with hu|hu
  ·exact ho u hu
  simp at hu;subst hu;exact hv
def aaV{P:Int->Prop}:∀{r out:List Sp},(∀u∈out,P u.1/\P u.2)->(∀u∈r,P u.1/\P u.2)->∀u∈F2 out r,P u.1/\P u.2
 |[],_,h,_=>h
 |v::r,out,h,hr=>aaV (r:=r) (ans h (hr v zd)) fun u hu=>hr u (by simp[hu])
def YW{P:Int->Prop}{l:List Sp}(h:∀u∈l,P u.1/\P u.2):∀u∈Xj l,P u.1/\P u.2:=
 aaV zd fun u hu=>h u (by
  have:=(zzgc (l.filter mh) fun a b=>decide (a.1<=b.1)).mem_iff.1 hu;exact(zzcr.1 this).1)
def Mz(out:List Sp)(v:Sp):(QW out v).length<=out.length+1:=by
 unfold QW;cases h:out.getLast? with
 |none=>simp
 |some w=>
  have:out≠[]:=by rintro rfl;simp at h
  have:=zzdf.2 this;dsimp only;split<;>simp<;>omega
def yZ:∀(r out:List Sp),(F2 out r).length<=out.length+r.length
 |[],out=>by simp[F2]
 |v::r,out=>by
  have h1:=yZ r (QW out v);have h2:=Mz out v;rw[F2];simp;omega
def Yt(l:List Sp):(Xj l).length<=l.length:=by
 have h1:=yZ ((l.filter mh).mergeSort fun a b=>decide (a.1<=b.1)) [];have h2:=zzca mh l;rw[zzex]at h1;simp at h1;unfold Xj;omega
def tU:Nat->List Sp->List Sp->List Sp
 |0,_,_=>[]
 |_,[],_=>[]
 |_,_,[]=>[]
 |n+1,s::a,t::b=>
  (if max s.1 t.1<min s.2 t.2 then[(max s.1 t.1,min s.2 t.2)]else[])++(if s.2<t.2 then tU n a (t::b)else tU n (s::a) b)
def MA:∀(n:Nat){a b:List Sp},a.length+b.length<=n->VS a->VS b->VS (tU n a b)/\(∀x,Xr (tU n a b) x<->Xr a x/\Xr b x)/\
  ∀u∈tU n a b,(∃s∈a,s.1<=u.1)/\∃t∈b,t.1<=u.1
 |0,a,b,h,_,_=>by
  have h1:a=[]:=zzc.1 zE;subst h1;exact⟨sd,fun x=>by simp[tU],by simp[tU]⟩
 |n+1,[],b,h,_,_=>⟨by simpa[tU]using sd,fun x=>by simp[tU],by simp[tU]⟩
 |n+1,s::a,[],h,_,_=>⟨by simpa[tU]using sd,fun x=>by simp[tU],by simp[tU]⟩
 |n+1,s::a,t::b,h,ha,hb=>by
  obtain⟨s1,s2,s3⟩:=dm.1 ha;obtain⟨t1,t2,t3⟩:=dm.1 hb;simp only[zzav]at h
  have mem:∀{p:List Sp}{u:Sp}{x:Int},(∀w∈p,u.2<w.1)->x<=u.2->¬Xr p x:=by
   rintro p u x hp hx ⟨w,hw,h1,_⟩;have:=hp w hw;omega
  rw[tU];by_cases hc:s.2<t.2
  ·rw[if_pos hc];obtain⟨h1,h2,h3⟩:=MA n (a:=a) (b:=t::b) (by simp;omega) s3 hb
   have hx:∀x,Xr (if max s.1 t.1<min s.2 t.2 then[(max s.1 t.1,min s.2 t.2)]else[]) x<->(s.1<=x/\x<s.2)/\Xr (t::b) x:=by
    intro x;rw[Xd];by_cases hi:max s.1 t.1<min s.2 t.2
    ·rw[if_pos hi];simp only[Xd,Yn,or_false];constructor
     ·rintro⟨h1,h2⟩;exact⟨⟨zE,zE⟩,.inl ⟨zE,zE⟩⟩
     rintro⟨h1,h2|h2⟩
     ·exact⟨zE,zE⟩
     exact absurd h2 (mem (u:=t) t2 zE)
    rw[if_neg hi];simp only[Yn,false_iff];rintro⟨h1,h2|h2⟩
    ·omega
    exact absurd h2 (mem (u:=t) t2 zE)
   refine⟨?_,fun x=>?_,?_⟩
   ·by_cases hi:max s.1 t.1<min s.2 t.2
    ·rw[if_pos hi,zzew];refine dm.2 ⟨hi,fun u hu=>?_,h1⟩;obtain⟨⟨w,hw,hwu⟩,_⟩:=h3 u hu;have:=s2 w hw;show min s.2 t.2<u.1;omega
    rw[if_neg hi];exact h1
   ·rw[Yq,hx,h2,Xd s];constructor
    ·rintro(⟨h1,h2⟩|⟨h1,h2⟩)
     ·exact⟨.inl h1,h2⟩
     exact⟨.inr h1,h2⟩
    rintro⟨h1|h1,h2⟩
    ·exact .inl ⟨h1,h2⟩
    exact .inr ⟨h1,h2⟩
   intro u hu;rcases zzap.1 hu with hu|hu
   ·split at hu
    ·simp at hu;subst hu;exact⟨⟨s,zd,by show s.1<=max s.1 t.1;omega⟩,⟨t,zd,by show t.1<=max s.1 t.1;omega⟩⟩
    cases hu
   obtain⟨⟨w,hw,hwu⟩,cA⟩:=h3 u hu;exact⟨⟨w,by simp[hw],hwu⟩,cA⟩
  rw[if_neg hc];obtain⟨h1,h2,h3⟩:=MA n (a:=s::a) (b:=b) (by simp;omega) ha t3
  have hx:∀x,Xr (if max s.1 t.1<min s.2 t.2 then[(max s.1 t.1,min s.2 t.2)]else[]) x<->Xr (s::a) x/\(t.1<=x/\x<t.2):=by
   intro x;rw[Xd];by_cases hi:max s.1 t.1<min s.2 t.2
   ·rw[if_pos hi];simp only[Xd,Yn,or_false];constructor
    ·rintro⟨h1,h2⟩;exact⟨.inl ⟨zE,zE⟩,⟨zE,zE⟩⟩
    rintro⟨h2|h2,h1⟩
    ·exact⟨zE,zE⟩
    exact absurd h2 (mem (u:=s) s2 zE)
   rw[if_neg hi];simp only[Yn,false_iff];rintro⟨h2|h2,h1⟩
   ·omega
   exact absurd h2 (mem (u:=s) s2 zE)
  refine⟨?_,fun x=>?_,?_⟩
  ·by_cases hi:max s.1 t.1<min s.2 t.2
   ·rw[if_pos hi,zzew];refine dm.2 ⟨hi,fun u hu=>?_,h1⟩;obtain⟨_,⟨w,hw,hwu⟩⟩:=h3 u hu;have:=t2 w hw;show min s.2 t.2<u.1;omega
   rw[if_neg hi];exact h1
  ·rw[Yq,hx,h2,Xd t];constructor
   ·rintro(⟨h1,h2⟩|⟨h1,h2⟩)
    ·exact⟨h1,.inl h2⟩
    exact⟨h1,.inr h2⟩
   rintro⟨h1,h2|h2⟩
   ·exact .inl ⟨h1,h2⟩
   exact .inr ⟨h1,h2⟩
  intro u hu;rcases zzap.1 hu with hu|hu
  ·split at hu
   ·simp at hu;subst hu;exact⟨⟨s,zd,by show s.1<=max s.1 t.1;omega⟩,⟨t,zd,by show t.1<=max s.1 t.1;omega⟩⟩
   cases hu
  obtain⟨ha',⟨w,hw,hwu⟩⟩:=h3 u hu;exact⟨ha',⟨w,by simp[hw],hwu⟩⟩
def zV(a b:List Sp):List Sp:=tU ((Xj a).length+(Xj b).length) (Xj a) (Xj b)
def kU(a b:List Sp):VS (zV a b)/\∀x,Xr (zV a b) x<->Xr a x/\Xr b x:=by
 obtain⟨h1,h2,_⟩:=MA _ (zzaa _) (Zy a).1 (Zy b).1;exact⟨h1,fun x=>by rw[zV,h2,(Zy a).2,(Zy b).2]⟩
def Dp(f t:Int):List Sp:=if f<t then[(f,t)]else[]
def jo:Int->Int->List Sp->List Sp×List Sp
 |f,t,[]=>(Dp f t,[])
 |f,t,h::r=>if h.1<t then(if t<=max f h.2 then(Dp f h.1,h::r)else(Dp f h.1++(jo (max f h.2) t r).1,(jo (max f h.2) t r).2))else(Dp f t,h::r)
def tW:List Sp->List Sp->List Sp
 |[],_=>[]
 |s::a,hs=>(jo s.1 s.2 hs).1++tW a (jo s.1 s.2 hs).2
def Dq(a b:List Sp):List Sp:=tW (Xj a) (Xj b)
def qq(f t:Int):Dp f t=[]<->t<=f:=by unfold Dp;split<;>simp<;>omega
def Ii:∀{H:List Sp}{f t:Int},VS H->((jo f t H).1=[]<->∀x,f<=x->x<t->Xr H x)
 |[],f,t,_=>by
  simp only[jo,qq,Yn];constructor
  ·intro h x h1 h2;omega
  intro h;rcases zzfm f t with hf|hf
  ·exact(h f (zzby _) hf).elim
  exact hf
 |h::r,f,t,hV=>by
  obtain⟨h1,h2,h3⟩:=dm.1 hV
  have mem:∀{x:Int},Xr r x->h.2<x:=by
   rintro x ⟨w,hw,h4,_⟩;have:=h2 w hw;omega
  rw[jo];by_cases hc:h.1<t
  ·rw[if_pos hc];by_cases hd:t<=max f h.2
   ·rw[if_pos hd];simp only[qq,Xd];constructor
    ·intro h5 x h6 h7;exact .inl ⟨zE,zE⟩
    intro h5;by_cases hf:f<t
    ·rcases h5 f (zzby _) hf with h6|h6
     ·exact h6.1
     have:=mem h6;omega
    omega
   rw[if_neg hd];simp only[zzhc,qq,Ii h3,Xd];constructor
   ·rintro⟨h5,h6⟩ x h7 h8;by_cases hx:x<h.2
    ·exact .inl ⟨zE,hx⟩
    exact .inr (h6 x zE h8)
   intro h5;refine⟨?_,fun x h6 h7=>?_⟩
   ·rcases h5 f (zzby _) zE with h6|h6
    ·exact h6.1
    have:=mem h6;omega
   exact(h5 x zE h7).resolve_left zE
  rw[if_neg hc];simp only[qq,Xd];constructor
  ·intro h5 x h6 h7;omega
  intro h5;rcases zzfm f t with hf|hf
  ·rcases h5 f (zzby _) hf with h6|h6
   ·omega
   have:=mem h6;omega
  exact hf
def Lt{s:Sp}(hs:s.1<s.2)(l:List Sp):Dq [s] l=[]<->∀x,s.1<=x->x<s.2->Xr l x:=by
 rw[Dq,aaU (l:=[s]) (dm.2 ⟨hs,zd,sd⟩)];simp only[tW,zzas,Ii (Zy l).1,(Zy l).2]
def em(s:Sp):Bool:=decide (s.2<=s.1)
def Ij(s:Sp):mh s=!em s:=by simp[mh,em,<- decide_not,Int.not_le]
def nO(s:Sp):Pure Tryz.prog aD 223 [.agg [I s.1,I s.2]] (.bool (em s)):=by
 refine Qn adA (fun _ _ _=>.junk) zd ?_;simp[aim,ain,em]
def Ce:X1:=fun _ _ l=>match l with
 |[.agg [.int _ a,.int _ b]]=>.bool (decide (b<=a))
 |_=>.junk
def pK:List Sp->Nat->Int
 |[],_=> -1
 |s::r,i=>if em s=true then i else pK r (i+1)
def Ik:∀{l:List Sp}{i:Nat},pK l i= -1->l.filter mh=l
 |[],_,_=>rfl
 |s::r,i,h=>by
  simp only[pK]at h;split at h
  ·omega
  rename_i hn;have qD:mh s=true:=by rw[Ij];simpa using hn
  simp[zzei,qD,Ik h]
def Il:∀{l:List Sp}{i:Nat},pK l i≠ -1->∃k:Nat,pK l i=((i+k:Nat):Int)/\k<l.length/\(l.take (k+1)).filter mh=l.take k
 |[],_,h=>absurd rfl h
 |s::r,i,h=>by
  simp only[pK]at h |-
  split
  ·rename_i hs;have qD:mh s=false:=by rw[Ij,hs];rfl
   exact⟨0,rfl,zd,by simp[zzei,qD]⟩
  rename_i hs;have qD:mh s=true:=by rw[Ij];simpa using hs
  rw[if_neg hs]at h;obtain⟨k,h1,h2,h3⟩:=Il h;exact⟨k+1,by rw[h1];congr 1;omega,Pi h2,by simp[zzei,qD,h3]⟩
def pJ(l:List Sp)(hl:l.length<=1000000000):Pure Tryz.prog aD 258 [.sl .ro (l.map Qe),.fn 223 [] []] (I (pK l 0)):=by
 refine Qn ad0 Ce zd ?_;simp[aiM,aiN];refine Qj CP (fun s m=>∃i:Nat,s 8=I i/\i<=l.length/\pK (l.drop i) i=pK l 0/\m=⟨[],[],fun _=>.gone,0⟩) (fun s m=>l.length-(numOf (s 8)).toNat) ?_ ?_
 ·exact⟨0,zd,zE,zd,rfl⟩
 rintro f m ⟨i,h8,hi,hr,rfl⟩;rcases zzab i l.length with aa|bu
 ·obtain⟨s,hs⟩:=aY aa;have ai:=Zv hs
  have eY:l.drop i=s::l.drop (i+1):=by
   rw[zzaf aa,(zza.1 hs).2]
  have hw:=bR i zE;have ah:(i:Int)<(l.length:Int):=zE
  have hp:=nO s;rw[eY]at hr;simp only[pK]at hr;by_cases he:s.2<=s.1
  ·have DW:em s=true:=by simp[em,he]
   rw[DW]at hp;rw[if_pos DW]at hr;simp[h8,aa,ah,ai,CP,Ce,he,<- hr];exact hp
  have DW:em s=false:=by simp[em];omega
  rw[DW]at hp;rw[DW]at hr;simp only[zzbp,if_false]at hr;simp[h8,aa,ah,ai,CP,Ce,he,hw];refine⟨hp,aR,⟨i+1,zd,zE,hr⟩,zE⟩
 have bU:¬(i:Int)<(l.length:Int):=zE
 rw[zzam bu]at hr;simp only[pK]at hr;simp[h8,bU,zzbn.2 bu,CP,<- hr]
def nA(k:Int):X1:=fun _ f l=>if f=258 then I k else Ce 0 0 l
def KV(Y:YT)(l:List Sp)(hl:l.length<=1000000000)(B:X2)(L:P1)(st:Nat->LS)(n id:Nat)(aM:id<B.length)(aJ:l≠[])(hB:Qg B id=cM l)(K:UV)
  (hK:∀(B':X2)(z:List Sp),bC (·=id) B B'->Qg B' id=cM (l.filter mh++z)->(l.filter mh).length+z.length=l.length->K (.bs id 0 (l.filter mh).length 2) ⟨B',L,st,n⟩):
  aA Tryz.prog aD Y 243 [.bs id 0 l.length 2,.fn 223 [] []] ⟨B,L,st,n⟩ K:=by
 have LY:=pJ l hl;have gK:=Vd ⟨B,L,st,n⟩ 4 (Dl l);have mg:=Qdw l;have aH:=Vy l;refine Xh Nz (nA (pK l 0)) zd ?_;by_cases hk:pK l 0= -1
 ·have hf:=Ik hk;rw[hk]at LY;have:=hK B [] (bC.refl _ _) (by rw[hf];simpa using hB) (by rw[hf];simp);rw[hf]at this;simp[E5,Ny,nA,hk,hB,gK,mg,aH];exact⟨LY,this⟩
 obtain⟨k,dF,ey,tX⟩:=Il hk;rw[zzbm]at dF;have Ez:¬(k:Int)= -1:=zE
 have W8:=bR k zE;rw[dF]at LY;simp[E5,Ny,nA,dF,Ez,hB,gK,mg,aH,W8];refine⟨LY,?_⟩
 refine Qj CM (fun f m=>∃(i j:Nat)(B':X2)(L':List Sp),f 5=I i/\f 6=I j/\i<j/\j<=l.length/\m=⟨B',L,st,n⟩/\bC (·=id) B B'/\Qg B' id=cM L'/\L'.length=l.length/\L'.take i=(l.take j).filter mh/\L'.drop j=l.drop j)
  (fun f m=>l.length-(numOf (f 6)).toNat) ?_ ?_
 ·exact⟨k,k+1,B,l,zd,zd,zE,zE,rfl,bC.refl _ _,hB,rfl,tX.symm,rfl⟩
 rintro f m ⟨i,j,B',L',h5,h6,fL,hj,rfl,nB,zu,tV,ht,hd⟩;have cQ:id<B'.length:=zzar aM nB.1;have jr:=Vy L';rcases zzab j l.length with aa|bu
 ·obtain⟨s,hs⟩:=aY aa
  have ef:L'[j]?=some s:=by
   have:=congrArg (fun x=>x[0]?) hd;simpa[hs]using this
  have hg:=uG ef;have eS:(j:Int)<(l.length:Int):=zE
  have ah:(i:Int)<(l.length:Int):=zE
  have xm:i<l.length:=zE
  have uH:=bR j zE;have Bn:=bR i zE;have hp:=nO s;have bW:=O6 L' i s zE;simp only[setA]at bW;have eX:∀x,Qg (B'++x) id=cM L':=fun x=>by rw[Qk cQ,zu]
  have lM:∀x v,(B'++x).set id v=B'.set id v++x:=fun x v=>Yi v cQ
  have bB:(l.take (j+1)).filter mh=(l.take j).filter mh++[s].filter mh:=by
   rw[zzax,hs,zzdh];rfl
  have hdj:L'.drop (j+1)=l.drop (j+1):=by
   have:=congrArg (List.drop 1) hd;simpa[zzdi,zzer]using this
  by_cases he:s.2<=s.1
  ·have DW:em s=true:=by simp[em,he]
   have qD:mh s=false:=by rw[Ij,DW];rfl
   rw[DW]at hp;simp[h5,h6,eS,aa,ah,zu,eX,lM,hg,CM,nA,Ce,he,uH,Bn];refine⟨hp,aR,⟨i,rfl,j+1,zd,zE,zE,nB.app _,?_⟩,zE⟩
   ·refine⟨L',rfl,tV,?_,hdj⟩;rw[bB,ht];simp[qD]
  have DW:em s=false:=by simp[em];omega
  have qD:mh s=true:=by rw[Ij,DW];rfl
  rw[DW]at hp;simp[h5,h6,eS,aa,ah,xm,zu,eX,lM,hg,CM,nA,Ce,he,uH,Bn,bW,jr,tV];refine⟨hp,zE,aR,⟨i+1,zd,j+1,zd,zE,zE,(nB.set (.inl rfl) _).app _,?_⟩,zE⟩
  ·refine⟨L'.set i s,by rw[Qk (Pi cQ),Zg _ cQ],Pi tV,?_,?_⟩
   ·rw[bB,<- ht,zzax,zzbg zE,zzg zE];simp[qD]
   rw[zzga zE];exact hdj
 obtain rfl:j=l.length:=zE
 rw[zzbs]at ht;have gG:(l.filter mh).length=i:=by rw[<- ht,zzaq];omega
 have N8:¬((l.length:Nat):Int)<(l.length:Int):=zE
 have bU:(i:Int)<=(l.length:Int):=zE
 have ah:(i:Int)<(l.length:Int):=zE
 have xm:i<l.length:=fL
 have fU:cM L'≠[]:=by
  intro h;have:=congrArg List.length h;rw[jr,tV]at this;simp at this;omega
 have oU:setA (cM L') (i*2) (bG (l.length-i) [I 0,I 0])=cM (l.filter mh++List.replicate (l.length-i) (0,0)):=by
  have e1:L'=L'.take i++L'.drop i:=zd
  conv=>lhs;rw[e1]
  rw[Qca,Qca,<- ht,Sx];have e2:(cM (L'.take i)).length=i*2:=by rw[Vy,zzaq];congr 1;omega
  rw[<- e2];exact pN _ _ _ (by rw[Vy,Vy];simp;omega)
 simp[h5,h6,N8,zu,ah,xm,bU,CM,cQ,fU,jr,tV,oU];refine⟨zE,?_⟩;have:=hK (B'.set id (cM (l.filter mh++List.replicate (l.length-i) (0,0)))) (List.replicate (l.length-i) (0,0)) (nB.set (.inl rfl) _) (Zg _ cQ) (by simp;omega);rw[gG]at this;exact this
end Go.Proofs.YtfliagpjbbkijaaGreatDoor
namespace Go.Abs
open Go Go.RowKit
def aaW{P:Program}{gl:Nat->AV}{Y:YT}{f:FuncId}(hc:bw P f)(aX:∀(b:Nat)(es:Array MapEntry)(clock:Nat)(w:World),w.heap[b]?=some (.map es clock)->Calls P f #[.map (some b)] w fun e w'=>e=.returned (.map (some w.heap.size))/\w'=w.alloc (.map es clock))
  {m:AM}{id kn:Nat}{kvs:List (P2×AV)}(hb:m.boxes.getD id []=[.aL kn kvs]){K:UV}(hK:K (.mp m.boxes.length) {m with boxes:=m.boxes++[[.aL kn kvs]]}):aA P gl Y f [.mp id] m K:=by
 refine aA.gh hc fun N w0 an γ w vs hm hl hr=>?_
 match vs,hr with
 |[v],hr=>
  obtain⟨aM,hB⟩:=nj hb;obtain⟨b,es,h1,rfl,h3,h4,h5⟩:=hm.ja (hr.2 0 _ v rfl rfl) hB;refine(aX b es _ w h3).mono fun e w'⟨he,hw⟩=>?_;subst hw;obtain⟨g1,g2⟩:=hm.Ks m.boxes.length (by simp[AM.B]) (x:=.aL kn kvs) (o:=.map es es.size) ⟨rfl,h4,h5⟩;refine⟨_,_,.mp m.boxes.length,{m with boxes:=m.boxes++[[.aL kn kvs]]},he,g1.cL,?_,hl.mono' g1 rfl,.mp (by simp[G.gJ]),hK⟩;rw[SR];exact g2
 |[],hr=>exact absurd hr.1 zd
 |_::_::_,hr=>exact absurd hr.1 zd
def O7{P:Program}{t:TypeId}{a b c:Nat}(h:(P.info? t).bind (fun i=>i.zero.map fun z=>(i.size,i.bytes,z.cells.size))=some (a,b,c)):∃i z,P.info? t=some i/\i.zero=some z/\i.size=a/\i.bytes=b/\z.cells.size=c:=by
 cases hi:P.info? t with
 |none=>rw[hi]at h;cases h
 |some i=>
  rw[hi]at h;simp only[zzcw]at h;cases hz:i.zero with
  |none=>rw[hz]at h;cases h
  |some z=>
   rw[hz]at h;simp only[zzcf,Option.some.injEq,Prod.mk.injEq]at h;exact⟨i,z,rfl,hz,h.1,h.2.1,h.2.2⟩
def O8{P:Program}{gl:Nat->AV}{Y:YT}{f:FuncId}{t:TypeId}{sz n:Nat}(hc:bw P f)
  (cI:n=0->∀w:World,Calls P f #[.slice none 0 0,.int .i64 (n:Nat)] w fun e w'=>e=.returned (.slice none 0 0)/\w'=w)
  (Im:0<n->∀w:World,Calls P f #[.slice none 0 0,.int .i64 (n:Nat)] w fun e w'=>∃cap cs,e=.returned (.slice (some ⟨w.heap.size,0,none⟩) 0 cap)/\w'=w.drew.alloc (.cells cs t)/\cap*sz<=cs.size)
  {m:AM}{K:UV}(h0:n=0->K (.sl .nil []) m)(h1:0<n->K (.sl (.own m.lens.length sz) []) {m with lens:=m.lens++[0]}):aA P gl Y f [.sl .nil [],.int .i64 (n:Nat)] m K:=by
 refine aA.gh hc fun N w0 an γ w vs hm hl hr=>?_
 match vs,hr with
 |[v,u],hr=>
  have hv:v=.slice none 0 0:=by
   have h:=hr.2 0 _ v rfl rfl;cases h with
   |@sl _ _ _ a cap b off gA cv hcap hnil ha hsz hcc Ri bk=>
    have:a=none:=bk;subst this;rw[hnil rfl];rfl
  have hu:u=.int .i64 (n:Nat):=(hr.2 1 _ u rfl rfl).aI;subst hv;subst hu;rcases zzcc n with hn|hn
  ·refine(cI hn w).mono fun e w'⟨he,hw⟩=>?_;subst hw;exact⟨_,γ,_,m,he,(Ev.refl _ γ).cL,hm,hl,CR,h0 hn⟩
  refine(Im hn w).mono fun e w'⟨cap,cs,he,hw,hs⟩=>?_;subst hw;have nk:=hm.ai0;have hL:m.L m.lens.length=none:=by simp[AM.L]
  have cq:γ.own m.lens.length=none:=by
   cases h:γ.own m.lens.length with
   |none=>rfl
   |some b=>obtain⟨_,_,k,hk⟩:=hm.own _ _ h;rw[hL]at hk;cases hk
  have dw:γ.cur m.lens.length=0:=hm.cur0 _ hL;have bZ:=nk.2.trans (nk.1.fT (q:=0) (id:=m.lens.length) (n:=0) zE (fun _=>cq) (.cells cs t));refine⟨_,γ.renew m.lens.length w.heap.size 0 0,.sl (.own m.lens.length sz) [],{m with lens:=m.lens++[0]},he,bZ.cL,?_,hl.mono' bZ rfl,?_,h1 hn⟩
  ·rw[C0];exact nk.1.renew zE (fun _=>cq) _
  refine .sl (rows:=[]) w.heap.size 0 sz (fun _ _=>undef) (zzbi _) (fun h=>(by cases h)) (fun h=>absurd rfl h) (fun _ h=>by cases h) (fun i j c h=>by simp[Qs]at h) (fun i j c h=>by simp[Qs]at h) ?_;refine⟨rfl,zzbi _,fun _=>.inr ⟨w.heap.size,0,cs,t,rfl,by simp[G.renew],by show(w.heap.push _)[w.heap.size]?=_;simp,zE,fun o' _ hr=>?_⟩⟩;obtain hr|⟨_,hr⟩:=hr
  ·have:=hm.robd _ _ hr;omega
  omega
 |[],hr=>exact absurd hr.1 zd
 |[_],hr=>exact absurd hr.1 zd
 |_::_::_::_,hr=>exact absurd hr.1 zd
end Go.Abs
namespace Go.Proofs.YtfliagpjbbkijaaGreatDoor
open Go Go.Abs Go.Shelf Go.RowKit Go.Lib
def MB:Go.Shelf.Ren:=⟨fun|5=>138|7=>185|n=>n,fun|23=>231|25=>3|3=>3|4=>4|20=>20|n=>n,fun|n=>n⟩
def ant:Go.Proofs.SlLaysW.n5 Tryz.prog MB:={
 mixed:=by kernel_rfl,
 f5:=⟨Tryz.f138.name,by decide,Tryz.func138.trans (congrArg some (by kernel_rfl))⟩,
 f7:=Tryz.func185.trans (congrArg some (by kernel_rfl)),
 t4:=Tryz.underlying4,
 a4:=Tryz.isAgg4,
 z4:=Tryz.sizeOf4,
 v4:=Tryz.zeroValue4,
 t20:=Tryz.underlying20,
 a20:=Tryz.isAgg20,
 z20:=Tryz.sizeOf20,
 v20:=Tryz.zeroValue20,
 t23:=Tryz.underlying231,
 a23:=Tryz.isAgg231,
 z23:=Tryz.sizeOf231,
 v23:=Tryz.zeroValue231}
def tD:Go.Shelf.Ren:=⟨fun|4=>190|n=>n,fun|22=>57|25=>3|3=>3|4=>4|9=>9|20=>20|0=>0|n=>n,fun|n=>n⟩
def O9:Go.Proofs.Lays8.n4 Tryz.prog tD:={
 mixed:=by kernel_rfl,
 f4:=⟨Tryz.f190.name,by decide,Tryz.func190.trans (congrArg some (by kernel_rfl))⟩,
 t0:=Tryz.underlying0,
 a0:=Tryz.isAgg0,
 z0:=Tryz.sizeOf0,
 v0:=Tryz.zeroValue0,
 t3:=Tryz.underlying3,
 a3:=Tryz.isAgg3,
 z3:=Tryz.sizeOf3,
 v3:=Tryz.zeroValue3,
 t4:=Tryz.underlying4,
 a4:=Tryz.isAgg4,
 z4:=Tryz.sizeOf4,
 v4:=Tryz.zeroValue4,
 t9:=Tryz.underlying9,
 a9:=Tryz.isAgg9,
 z9:=Tryz.sizeOf9,
 v9:=Tryz.zeroValue9,
 t20:=Tryz.underlying20,
 a20:=Tryz.isAgg20,
 z20:=Tryz.sizeOf20,
 v20:=Tryz.zeroValue20,
 t22:=Tryz.underlying57,
 a22:=Tryz.isAgg57,
 z22:=Tryz.sizeOf57,
 v22:=Tryz.zeroValue57}
def y6:Go.Shelf.Ren:=⟨fun|4=>261|n=>n,fun|22=>277|25=>285|3=>3|4=>4|9=>9|20=>20|0=>0|2=>3|n=>n,fun|n=>n⟩
def aaX:Go.Proofs.Lays8.n4 Tryz.prog y6:={
 mixed:=by kernel_rfl,
 f4:=⟨Tryz.f261.name,by decide,Tryz.func261.trans (congrArg some (by kernel_rfl))⟩,
 t0:=Tryz.underlying0,
 a0:=Tryz.isAgg0,
 z0:=Tryz.sizeOf0,
 v0:=Tryz.zeroValue0,
 t3:=Tryz.underlying3,
 a3:=Tryz.isAgg3,
 z3:=Tryz.sizeOf3,
 v3:=Tryz.zeroValue3,
 t4:=Tryz.underlying4,
 a4:=Tryz.isAgg4,
 z4:=Tryz.sizeOf4,
 v4:=Tryz.zeroValue4,
 t9:=Tryz.underlying9,
 a9:=Tryz.isAgg9,
 z9:=Tryz.sizeOf9,
 v9:=Tryz.zeroValue9,
 t20:=Tryz.underlying20,
 a20:=Tryz.isAgg20,
 z20:=Tryz.sizeOf20,
 v20:=Tryz.zeroValue20,
 t22:=Tryz.underlying277,
 a22:=Tryz.isAgg277,
 z22:=Tryz.sizeOf277,
 v22:=Tryz.zeroValue277}
def OY{Y:YT}{m:AM}{id kn:Nat}{kvs:List (P2×AV)}(hb:m.boxes.getD id []=[.aL kn kvs]){K:UV}(hK:K (.mp m.boxes.length) {m with boxes:=m.boxes++[[.aL kn kvs]]}):aA Tryz.prog aD Y 138 [.mp id] m K:=
 aaW ⟨_,Tryz.func138,by kernel_rfl,by kernel_rfl⟩ (fun b es clock w h=>AnyW.maps_Clone ant b es clock w h) hb hK
def afa{Y:YT}{m:AM}{n:Nat}(hn:n<=1000000000){K:UV}(h0:n=0->K (.sl .nil []) m)(h1:0<n->K (.sl (.own m.lens.length 1) []) {m with lens:=m.lens++[0]}):aA Tryz.prog aD Y 190 [.sl .nil [],I n] m K:=by
 obtain⟨i0,z,hi0,U6,J6,dG,CV⟩:=O7 (P:=Tryz.prog) (t:=3) (a:=1) (b:=8) (c:=1) (by kernel_rfl);refine O8 (t:=3) (sz:=1) ⟨_,Tryz.func190,by kernel_rfl,by kernel_rfl⟩ (fun eO w=>?_) (fun hp w=>?_) h0 h1
 ·subst eO;exact Any8.slices_Grow_room O9 none 0 0 0 w (zzaa _) zE zE (zzaa _)
 refine(Any8.slices_Grow_grow O9 i0 z hi0 U6 zE none 0 0 n [] w (zzaa _) zE (by rw[dG];omega) zE zd (fun _=>rfl) (fun a h=>by cases h)).mono fun e w'⟨he,hw⟩=>?_;refine⟨_,_,he,hw,?_⟩;have hg:n<=grownCap w (0+n) 0 3:=by have:=grownCap_ge w (0+n) 0 3;omega
 simp only[zzep,size_zeroCells,CV];simp;have e1:tD.t 25=3:=rfl;simp only[e1];omega
def ae7{Y:YT}{m:AM}{n:Nat}(hn:n<=1000000000){K:UV}(h0:n=0->K (.sl .nil []) m)(h1:0<n->K (.sl (.own m.lens.length 2) []) {m with lens:=m.lens++[0]}):aA Tryz.prog aD Y 261 [.sl .nil [],I n] m K:=by
 obtain⟨i0,z,hi0,U6,J6,dG,CV⟩:=O7 (P:=Tryz.prog) (t:=285) (a:=2) (b:=16) (c:=2) (by kernel_rfl);refine O8 (t:=285) (sz:=2) ⟨_,Tryz.func261,by kernel_rfl,by kernel_rfl⟩ (fun eO w=>?_) (fun hp w=>?_) h0 h1
 ·subst eO;exact Any8.slices_Grow_room aaX none 0 0 0 w (zzaa _) zE zE (zzaa _)
 refine(Any8.slices_Grow_grow aaX i0 z hi0 U6 zE none 0 0 n [] w (zzaa _) zE (by rw[dG];omega) zE zd (fun _=>rfl) (fun a h=>by cases h)).mono fun e w'⟨he,hw⟩=>?_;refine⟨_,_,he,hw,?_⟩;have hg:n<=grownCap w (0+n) 0 285:=by have:=grownCap_ge w (0+n) 0 285;omega
 simp only[zzep,size_zeroCells,CV];simp;have e1:y6.t 25=285:=rfl;simp only[e1];omega
def bS(s:ByteArray):P1:=s.data.toList.map UInt8.toNat
def Yu(s:ByteArray):(bS s).length=s.size:=by
 rw[bS,zzbu];exact zzbj
def Qed(s:ByteArray):∀x∈bS s,x<256:=fun x hx=>by
 obtain⟨y,_,rfl⟩:=zzbh.1 hx;exact y.toNat_lt
def sg:Option (Int×Nat)->AV
 |some (n,b)=>.aQ [I n,I b,I 0]
 |none=>.aQ [I 0,I 0,I 10]
def orN{z b i:Nat}(hz:z<128 ^ i):z|||b*128 ^ i=z+b*128 ^ i:=by
 have h2:(128:Nat) ^ i=2 ^ (7*i):=by rw[Nat.pow_mul]
 rw[h2]at hz |-
 rw[zzct b,Nat.or_comm,<- Nat.two_pow_add_eq_or_of_lt hz,zzer]
def y7{gl:Nat->AV}(s:ByteArray)(a:Nat)(ha:a<=s.size)(hs:s.size<=1000000):Pure Tryz.prog gl 127 [.str s,I a] (sg (tE (bS s) a)):=by
 refine Qn acq (fun _ _ _=>.junk) zd ?_;have h1:¬((a:Int)<0):=zE
 have h2:¬((s.size:Int)<(a:Int)):=zE
 have fB:∀r,Ei 9 ((bS s).drop a) 0 0=r->tE (bS s) a=match r with
   |none=>none
   |some (z,n)=>if Sy z< -zD then none else some (Sy z,a+n):=fun r h=>by unfold tE;rw[h];rfl
 have aH:=Yu s;simp[TL,EO,h1,h2];refine Qj Cu (fun f mm=>∃i z:Nat,f 8=I i/\f 7=.int .u64 z/\i<=9/\z<128 ^ i/\a+i<=s.size/\Ei 9 ((bS s).drop a) 0 0=Ei (9-i) ((bS s).drop (a+i)) i z/\mm=⟨[],[],fun _=>.gone,0⟩) (fun f _=>10-(numOf (f 8)).toNat) ?_ ?_
 ·exact⟨0,0,zd,zd,zE,zd,zE,rfl,rfl⟩
 rintro f mm ⟨i,z,h8,h7,hi,hz,hai,hR,rfl⟩;have iL:IntKind.i64.wrap ((a:Int)+i)=(a:Int)+i:=by rw[Qi]<;>omega
 by_cases c1:i<9
 ·have c1':(i:Int)<9:=zE
  by_cases c2:a+i<s.size
  ·have c2':(a:Int)+i<s.size:=zE
   obtain⟨b,hb⟩:∃b,(bS s)[a+i]?=some b:=⟨_,zzad zE⟩;have eW:=Qed s b (zzac hb)
   have hd:(bS s).drop (a+i)=b::(bS s).drop (a+i+1):=by
    rw[zzaf zE,(zza.1 hb).2]
   obtain⟨k,hk⟩:∃k,9-i=k+1:=⟨8-i,zE⟩;rw[hd,hk,Ei]at hR
   have atH:z<9223372036854775808:=zzar hz (by
    have:128 ^ i<=128 ^ 9:=zzef zE zE;exact this)
   have hm:b%128*128 ^ i<9223372036854775808:=by
    have h1:b%128*128 ^ i<128*128 ^ i:=Nat.mul_lt_mul_of_pos_right (zzds _ zE) (Nat.pow_pos zE);have h2:128*128 ^ i<=128 ^ 9:=by rw[zzct,<- zzdm];exact zzef zE zE
    exact zzar h1 h2
   have ef:z+b%128*128 ^ i<128 ^ (i+1):=by
    have h1:(b%128+1)*128 ^ i<=128*128 ^ i:=zzbb _ zE;rw[zzbl,zzdl]at h1;rw[zzdm,zzct _ 128];omega
   have azy:z+b%128*128 ^ i<9223372036854775808:=zzar ef (by
    have:128 ^ (i+1)<=128 ^ 9:=zzef zE zE;exact this)
   have hw7:IntKind.i64.wrap (7*(i:Int))=7*i:=by rw[Qi]<;>omega
   have ha8:b%2 ^ IntKind.u8.bits&&& 127%2 ^ IntKind.u8.bits=b%128:=by
    show b%256&&& 127=b%128;rw[zzdx eW];exact zzfx b 7
   have hq:(s.data[((a:Int)+(i:Int)).toNat]?.getD 0).toNat=b:=by
    rw[show((a:Int)+(i:Int)).toNat=a+i by omega];have h1:(s.data.toList.map UInt8.toNat)[a+i]?=some b:=hb;rw[zzbf,zzbd]at h1;obtain⟨y,hy,rfl⟩:=h1;rw[zzbw]at hy;rw[hy];rfl
   have ho:IntKind.u64.wrap ((z%2 ^ IntKind.u64.bits|||(IntKind.u64.wrap (IntKind.u64.wrap (IntKind.u8.wrap ((b%2 ^ IntKind.u8.bits&&& 127%2 ^ IntKind.u8.bits:Nat):Int))*2 ^ min (7*(i:Int)).toNat IntKind.u64.bits)%2 ^ IntKind.u64.bits).toNat:Nat):Int)=((z+b%128*128 ^ i:Nat):Int):=by
    rw[ha8,wr8 zE zE,Am (n:=((b%128:Nat):Int)) zE zE,show min (7*(i:Int)).toNat IntKind.u64.bits=7*i from by show min (7*(i:Int)).toNat 64=_;omega]
    have e1:((b%128:Nat):Int)*2 ^ (7*i)=((b%128*128 ^ i:Nat):Int):=by
     rw[show(128:Nat)=2 ^ 7 from rfl,<- Nat.pow_mul];push_cast;rfl
    rw[e1,Am (n:=((b%128*128 ^ i:Nat):Int)) zE zE]
    have e2:(((b%128*128 ^ i:Nat):Int)%2 ^ IntKind.u64.bits).toNat=b%128*128 ^ i:=by
     show(((b%128*128 ^ i:Nat):Int)%18446744073709551616).toNat=_;omega
    have e3:z%2 ^ IntKind.u64.bits=z:=by
     show z%18446744073709551616=z;omega
    rw[e2,e3,orN hz,Am zE zE]
   have Bn:=bR i zE;generalize hZ:z+b%128*128 ^ i=Z at*
   simp[h8,h7,c1',c2',iL,hw7,hq,ho,Cu,EO];refine⟨zE,zE,?_⟩;by_cases di:128<=b
   ·rw[if_pos di]at hR;rw[if_pos zE];refine⟨aR,⟨i+1,zE,Z,rfl,zE,ef,zE,?_⟩,zE⟩
    ·rw[hR,show 9-(i+1)=k by omega,zzan]
   rw[if_neg di]at hR;rw[if_neg zE];by_cases dG:b=0/\0<i
   ·rw[if_pos dG]at hR |-
    rw[fB _ hR];rfl
   rw[if_neg dG]at hR |-
   rw[fB _ hR];have w1:IntKind.u64.wrap ((Z:Int)/2)=(Z:Int)/2:=Am zE zE;have w2:IntKind.i64.wrap ((Z:Int)/2)=(Z:Int)/2:=by rw[Qi]<;>omega
   have w3:IntKind.i64.wrap (-((Z:Int)/2))= -((Z:Int)/2):=by rw[Qi]<;>omega
   have w4:IntKind.i64.wrap (-((Z:Int)/2)-1)= -((Z:Int)/2)-1:=by rw[Qi]<;>omega
   have w5:IntKind.i64.wrap ((a:Int)+i+1)=((a+(i+1):Nat):Int):=by rw[Qi]<;>omega
   have w6:(Z:Int).tmod 2=(Z:Int)%2:=Int.tmod_eq_emod_of_nonneg zE;rw[w1,w2,w3,w4,w5,w6];simp only;by_cases hp:Z%2=1
   ·have hzg:Sy Z= -((Z:Int)/2)-1:=by unfold Sy;rw[if_pos hp];omega
    rw[if_pos zE,hzg];by_cases hl: -((Z:Int)/2)-1< -4611686018427387903
    ·rw[if_pos hl,if_pos (by unfold zD;omega)];rfl
    rw[if_neg hl,if_neg (by unfold zD;omega)];rfl
   have hzg:Sy Z=(Z:Int)/2:=by unfold Sy;rw[if_neg hp];omega
   rw[if_neg zE,hzg,if_neg zE,if_neg (by unfold zD;omega)];rfl
  have c2':¬((a:Int)+i<s.size):=zE
  have hd:(bS s).drop (a+i)=[]:=zzam zE
  have XG:Ei 9 ((bS s).drop a) 0 0=none:=by
   rw[hR,hd];cases 9-i<;>rfl
  rw[fB _ XG];simp[h8,h7,c1',c2',iL,Cu,EO,sg]
 obtain rfl:i=9:=zE
 have XG:Ei 9 ((bS s).drop a) 0 0=none:=hR;rw[fB _ XG];simp[h8,h7,Cu,EO,sg]
def fq(l:P1):ByteArray:=⟨(l.map UInt8.ofNat).toArray⟩
def Ej(s:ByteArray):fq (bS s)=s:=by
 obtain⟨⟨l⟩⟩:=s;simp[fq,bS,Function.comp_def]
def qs{l:P1}(h:∀x∈l,x<256):bS (fq l)=l:=by
 unfold bS fq;simp only[zzdc]
 conv=>rhs;rw[<- List.map_id l]
 refine zzde fun x hx=>?_;have:=h x hx;simp[UInt8.toNat_ofNat'];omega
def Qbe(l:P1):(fq l).size=l.length:=by
 show((l.map UInt8.ofNat).toArray).size=_;simp
def agl(l:P1)(t:ByteArray):fq (l++bS t)=fq l++t:=by
 refine ByteArray.ext ?_;rw[ByteArray.data_append];obtain⟨⟨m⟩⟩:=t;simp[fq,bS,Function.comp_def]
def qt:∀k z,(zF k z).length<=k
 |0,z=>zzaa _
 |k+1,z=>by
  rw[zF];split
  ·simp
  rw[zzav];have:=qt k (z/128);omega
def uo(l:P1)(b:Nat):Option (P1×Nat):=match tE l b with
 |none=>none
 |some (c,d)=>if c<0\/65536<c\/(l.length:Int)-d<c then none else some ((l.drop d).take c.toNat,d+c.toNat)
def An:Option (P1×Nat)->AV
 |some (t,e)=>.aQ [.str (fq t),I e,I 0]
 |none=>.aQ [.str ⟨#[]⟩,I 0,I 10]
def Pb(s:ByteArray)(d c:Nat)(h:d+c<=s.size):s.extract d (d+c)=fq (((bS s).drop d).take c):=by
 have h1:((bS s).drop d).take c=bS (s.extract d (d+c)):=by
  unfold bS;rw[<- zzfq,<- List.map_take];congr 1;obtain⟨⟨l⟩⟩:=s;simp[ByteArray.extract,ByteArray.copySlice,zzgq]
 rw[h1,Ej]
def tF{gl:Nat->AV}(s:ByteArray)(a:Nat)(ha:a<=s.size)(hs:s.size<=1000000):Pure Tryz.prog gl 128 [.str s,I a] (An (uo (bS s) a)):=by
 have k:=y7 (gl:=gl) s a ha hs;refine Qn acr (fun _ _ _=>sg (tE (bS s) a)) zd ?_;cases h:tE (bS s) a with
 |none=>
  rw[h]at k;have hr:uo (bS s) a=none:=by unfold uo;rw[h]
  rw[hr];simp[AA,AB,sg,An];exact k
 |some x=>
  obtain⟨n,d⟩:=x;rw[h]at k;obtain⟨q1,q2,q3,q4⟩:=Qao (Qed s) h;rw[Yu]at q4;simp only[bA,zD]at q1;have hw:IntKind.i64.wrap ((s.size:Int)-d)=(s.size:Int)-d:=by rw[Qi]<;>omega
  have hr:uo (bS s) a=if n<0\/65536<n\/(s.size:Int)-d<n then none else some (((bS s).drop d).take n.toNat,d+n.toNat):=by unfold uo;rw[h,Yu]
  rw[hr];by_cases c1:n<0
  ·rw[if_pos zE];simp[AA,AB,sg,An,c1];exact k
  by_cases c2:65536<n
  ·rw[if_pos zE];simp[AA,AB,sg,An,c1,c2];exact k
  by_cases c3:(s.size:Int)-d<n
  ·rw[if_pos zE];simp[AA,AB,sg,An,c1,c2,hw,c3];exact k
  rw[if_neg zE];have fE:IntKind.i64.wrap ((d:Int)+n)=(d:Int)+n:=by rw[Qi]<;>omega
  have he:=Pb s d n.toNat zE;simp[AA,AB,sg,An,c1,c2,hw,c3,fE];exact⟨k,⟨zE,zE⟩,by rw[show((d:Int)+n).toNat=d+n.toNat by omega];exact he,zE⟩
def y8{gl:Nat->AV}(t:ByteArray)(ht:t.size<=65536):Pure Tryz.prog gl 26 [.str t] (.aQ [.str (fq (aU t.size++bS t)),I 0]):=by
 have k:=tG (gl:=gl) (n:=(t.size:Int)) (by simp only[bA,zD];omega);refine Qn akm (fun _ _ _=>.aQ [.str (fq (aU t.size)),I 0]) zd ?_;have h:¬(65536:Int)<t.size:=zE
 have hl:=Qbe (aU t.size);have h9:=qt 9 (uq (t.size:Int));simp[ao6,ao7,h];exact⟨k,by unfold aU at*;omega,(agl _ _).symm⟩
def eL(a0 a1:Addr):Nat->AV
 |0=>.ep [.er 376 a0] 0
 |1=>.ep [.er 376 a1] 0
 |2=>.ep Dr 0
 |_=>.junk
def chE(a:Addr):List PanicEntry:=[{v:=.iface 376 (.pointer (some a)),recovered:=false}]
def Qcw{gl:Nat->AV}{Y:YT}{s:ByteArray}{a b id:Nat}{n:Int}{m:AM}{K:UV}(ha:a<=s.size)(hs:s.size<=1000000)(aM:id<m.boxes.length)(hr:Qg m.boxes id=[.str s,I a])
  (h:tE (bS s) a=some (n,b))(hK:K (I n) {m with boxes:=m.boxes.set id [.str s,I b]}):aA Tryz.prog gl Y 74 [.ptr id 0] m K:=by
 have k:=y7 (gl:=gl) s a ha hs;rw[h]at k;refine Xh Tn (fun _ _ _=>sg (some (n,b))) zd ?_;simp[akV,akW,hr,aM,sg];exact⟨k,hK⟩
def Qbd{a0 a1:Addr}{Y:YT}{s:ByteArray}{a id:Nat}{m:AM}{K:List PanicEntry->AM->Prop}(ha:a<=s.size)(hs:s.size<=1000000)(hr:Qg m.boxes id=[.str s,I a])
  (h:tE (bS s) a=none)(hK:K (chE a0) m):Fv Tryz.prog (eL a0 a1) Y 74 [.ptr id 0] m K:=by
 have k:=y7 (gl:=eL a0 a1) s a ha hs;rw[h]at k;refine Pc Tn (fun _ _ _=>sg none) zd ?_;simp[akV,akW,hr,sg,eL];refine⟨k,1,?_⟩;simp[IN,IM,eL];exact hK
def agm{gl:Nat->AV}{Y:YT}{s:ByteArray}{a b id:Nat}{t:P1}{m:AM}{K:UV}(ha:a<=s.size)(hs:s.size<=1000000)(aM:id<m.boxes.length)(hr:Qg m.boxes id=[.str s,I a])
  (h:uo (bS s) a=some (t,b))(hK:K (.str (fq t)) {m with boxes:=m.boxes.set id [.str s,I b]}):aA Tryz.prog gl Y 75 [.ptr id 0] m K:=by
 have k:=tF (gl:=gl) s a ha hs;rw[h]at k;refine Xh Tp (fun _ _ _=>An (some (t,b))) zd ?_;simp[akX,akY,hr,aM,An];exact⟨k,hK⟩
def aaY{a0 a1:Addr}{Y:YT}{s:ByteArray}{a id:Nat}{m:AM}{K:List PanicEntry->AM->Prop}(ha:a<=s.size)(hs:s.size<=1000000)(hr:Qg m.boxes id=[.str s,I a])
  (h:uo (bS s) a=none)(hK:K (chE a0) m):Fv Tryz.prog (eL a0 a1) Y 75 [.ptr id 0] m K:=by
 have k:=tF (gl:=eL a0 a1) s a ha hs;rw[h]at k;refine Pc Tp (fun _ _ _=>An none) zd ?_;simp[akX,akY,hr,An,eL];refine⟨k,1,?_⟩;simp[IN,IM,eL];exact hK
def u6(k:Int):P1:=if k=1 then[4,5]else if k=2 then[4]else if k=3 then[6,7,8,9,10,11]else if k=4 then[13,14,15,16,17,18,19,20]else if k=5 then[21,22,23,24]else[]
