import Derived.Test.YthjppoincojfkaaGreatDoorRSMbW
import Derived.Test.YthjppoincojfkaaGreatDoorRSCodeT
import Derived.Laws.CopyOwn
import Derived.Shelf.SlMaps.Clone
import Derived.Shelf.Spec.SlicesGrow
set_option linter.all false
set_option maxRecDepth 100000
set_option maxHeartbeats 64000000
namespace Go.Abs
open Go Go.RowKit
def G.only(γ γ':G):G:={γ' with β:=fun i=>if(γ.β i).isSome then γ'.β i else none,mm:=fun i=>if(γ.mm i).isSome then γ'.mm i else none}
section
variable {N:Nat} {w0:eR} {an:Nat->Nat->Prop} {γ γ':G} {w w':World} {P:Program} {gl:Nat->AV} {Y:YT}
def Yr{id b:Nat}(h:(γ.only γ').β id=some b):(γ.β id).isSome/\γ'.β id=some b:=by
 simp only[G.only]at h;split at h
 ·exact⟨by assumption,h⟩
 cases h
def Qba{id b:Nat}(h:(γ.only γ').mm id=some b):(γ.mm id).isSome/\γ'.mm id=some b:=by
 simp only[G.only]at h;split at h
 ·exact⟨by assumption,h⟩
 cases h
def Ec{id b b0:Nat}(h0:γ.β id=some b0)(h:γ'.β id=some b):(γ.only γ').β id=some b:=by simp[G.only,h0,h]
def lE{id b b0:Nat}(h0:γ.mm id=some b0)(h:γ'.mm id=some b):(γ.only γ').mm id=some b:=by simp[G.only,h0,h]
def Sl{a:Option Addr}{len cap sz:Nat}{rt:Rt}(h:qD w' γ' a len cap sz rt):qD w' (γ.only γ') a len cap sz rt:=by
 cases rt<;>exact h
def aA.only{a:AV}{v:Value}(h:aA w' γ' a v):∀{v0:Value},aA w γ a v0->aA w' (γ.only γ') a v:=by
 induction h generalizing γ with
 |junk v=>exact fun _=>.junk _
 |gd h h' ih=>exact fun k=>.gd (fun hg=>by cases k with|gd k1 _=>exact ih hg (k1 hg)) h'
 |bool b=>exact fun _=>.bool b
 |int k n=>exact fun _=>.int k n
 |str s=>exact fun _=>.str s
 |nilfn=>exact fun _=>.nilfn
 |nilv p=>exact fun _=>.nilv p
 |yld h=>exact fun _=>.yld h
 |mp h=>exact fun k=>by cases k with|mp k=>exact .mp (lE k h)
 |it h=>exact fun k=>by cases k with|it k=>exact .it (lE k h)
 |agg hl _ ih=>
  intro v0 k;cases k with
  |@agg _ _ dY kl k=>
   refine .agg hl fun i c v h1 h2=>?_
   ·have hi:i<dY.size:=by have:=(zza.1 h1).1;omega
    exact ih i c v h1 h2 (k i c dY[i] h1 (by simp[hi]))
 |aS hl _ ih=>
  intro v0 k;cases k with
  |@aS _ _ dY kl k=>
   refine .aS hl fun i c v h1 h2=>?_
   ·have hi:i<dY.size:=by have:=(zza.1 h1).1;omega
    exact ih i c v h1 h2 (k i c dY[i] h1 (by simp[hi]))
 |fn hl _ eX _ ih ih'=>
  intro v0 k;cases k with
  |@fn _ _ _ _ fa0 ca0 kl k kl' k'=>
   refine .fn hl (fun i c v h1 h2=>?_) eX fun i c v h1 h2=>?_
   ·have hi:i<fa0.size:=by have:=(zza.1 h1).1;omega
    exact ih i c v h1 h2 (k i c fa0[i] h1 (by simp[hi]))
   have hi:i<ca0.size:=by have:=(zza.1 h1).1;omega
   exact ih' i c v h1 h2 (k' i c ca0[i] h1 (by simp[hi]))
 |ptr h=>exact fun k=>by cases k with|ptr k=>exact .ptr (Ec k h)
 |bs h hl hh hs=>exact fun k=>by cases k with|bs k _ _ _=>exact .bs (Ec k h) hl hh hs
 |ep cv hb hc h _=>exact fun _=>.ep cv hb hc h
 |sl b off sz cv hcap hnil ha hsz hc h aX _=>exact fun _=>.sl b off sz cv hcap hnil ha hsz hc h (Sl aX)
def cL.only{x:AV}{o o0:Obj}(h:cL w' γ' x o)(h0:cL w γ x o0):cL w' (γ.only γ') x o:=by
 unfold cL at h;split at h
 ·rename_i kn kvs es clock;cases o0<;>try exact h0.elim
  rename_i es0 anN;obtain⟨h1,h2,h3⟩:=h;obtain⟨k1,k2,k3⟩:=h0;refine⟨h1,h2,fun i k a e q1 q2=>?_⟩;obtain⟨p1,p2,p3,p4⟩:=h3 i k a e q1 q2;have hi:i<es0.size:=by have:=(zza.1 q1).1;omega
  exact⟨p1,p2,p3,p4.only (k3 i k a es0[i] q1 (by simp[hi])).2.2.2⟩
 ·rename_i mid n seen mb Np sn st;cases o0<;>try exact h0.elim
  rename_i mp0 s0 a0 b0;cases mp0<;>try exact h0.elim
  exact⟨lE h0.1 h.1,h.2⟩
 exact h.elim
def Idle(a:AV):Prop:=∀(w:World)(γ:G)(v:Value),aA w γ a v->aA w γ.cU a v
def Idle.bool(b:Bool):Idle (.bool b):=fun w γ v h=>by rw[h.bw];exact .bool b
def Idle.int(k:IntKind)(n:Int):Idle (.int k n):=fun w γ v h=>by rw[h.aI];exact .int k n
def Idle.str(s:ByteArray):Idle (.str s):=fun w γ v h=>by rw[h.cp];exact .str s
def Idle.agg{cs:P2}(h:∀c∈cs,Idle c):Idle (.agg cs):=fun w γ v k=>by
 cases k with
 |agg hl k=>exact .agg hl fun i c v h1 h2=>h c (zzad h1) w γ v (k i c v h1 h2)
def Idle.aS{cs:P2}(h:∀c∈cs,Idle c):Idle (.aS cs):=fun w γ v k=>by
 cases k with
 |aS hl k=>exact .aS hl fun i c v h1 h2=>h c (zzad h1) w γ v (k i c v h1 h2)
def Idle.sl{rt:Rt}{rows:T5}(h:∀i s,rt≠.own i s):Idle (.sl rt rows):=fun w γ v k=>by
 cases k with
 |sl b off sz cv hcap hnil ha hsz hc hr aX=>
  refine .sl b off sz cv hcap hnil ha hsz hc hr ?_;cases rt with
  |own i s=>exact absurd rfl (h i s)
  |_=>exact aX
def Idle.ro(rows:T5):Idle (.sl .ro rows):=Idle.sl fun _ _ h=>by cases h
def Idle.nil(rows:T5):Idle (.sl .nil rows):=Idle.sl fun _ _ h=>by cases h
def Idle.full(rows:T5):Idle (.sl .full rows):=Idle.sl fun _ _ h=>by cases h
def YQ(cells:P2):Prop:=(∀c∈cells,Idle c/\Qx c=true)\/∃kn kvs,cells=[.aJ kn kvs]/\∀p∈kvs,Idle p.2
def Idle.rep{a:AV}(h:Idle a){v:Value}(hr:aA w' γ' a v):aA w' (γ.only γ') a v:=aA.gp (γ:=γ.only γ') (h w' γ' v hr)
def au.only{m m1:AM}{ex:T5}(hm:au N w0 an γ w m.B m.L)(fI:au N w0 an γ' w' ({m1 with boxes:=m1.boxes++ex}:AM).B m1.L)(e:eD w γ w' γ')
  (aH:m1.boxes.length=m.boxes.length)(hL:m1.lens=m.lens)(hk:∀(id:Nat)(cells:P2),m1.boxes[id]?=some cells->m.boxes[id]?=some cells\/YQ cells):au N w0 an (γ.only γ') w' m1.B m1.L:=by
 have hB:∀{id:Nat}{cells:P2},m1.B id=some cells->({m1 with boxes:=m1.boxes++ex}:AM).B id=some cells:=fun{id cells}h=>by
  simp only[AM.B]at h |-
  rw[zzaj (zza.1 h).1];exact h
 have hB1:∀{id:Nat}{cells:P2},m.B id=some cells->∃oh,m1.B id=some oh:=fun{id cells}h=>by
  have:=(zza.1 h).1;exact⟨_,zzaf zE⟩
 have qn:∀{id:Nat},(γ.β id).isSome->∃b cells oh,γ.β id=some b/\γ'.β id=some b/\m.B id=some cells/\m1.B id=some oh:=fun{id}h=>by
  obtain⟨b,hb⟩:=zzbz.1 h;obtain⟨_,_,_,_,c,hc⟩:=hm.β id b hb;obtain⟨c1,fA⟩:=hB1 hc;exact⟨b,c,c1,hb,e.β id b hb,hc,fA⟩
 refine⟨w0.st _ _ _ _ fI.bs ⟨rfl,rfl,rfl,zzab _,fun _ _ _=>rfl,fun _ _ _ h=>⟨h,rfl⟩,fun b hb=>.inl ?_,fun _ _ h=>.inl h⟩,fI.hN,fI.an,fI.robd,fun id cells b hb h1=>?_,fun id b hb=>?_,fun i i' b h h'=>?_,fI.own,fI.oinj,fun b hb=>?_,fun id b hb=>?_,fun i i' b h h'=>?_,fI.len,fI.cur0⟩
 ·obtain⟨i,hi⟩|hb|hb|⟨i,hi⟩:=hb
  ·exact .inl ⟨i,(Yr hi).2⟩
  ·exact .inr (.inl hb)
  ·exact .inr (.inr (.inl hb))
  exact .inr (.inr (.inr ⟨i,(Qba hi).2⟩))
 ·obtain⟨h2,h3⟩:=Yr h1;obtain⟨b0,c0,_,g1,g2,g3,_⟩:=qn h2;rw[h3]at g2;cases g2;obtain⟨arr,e',q1,q2,q3⟩:=fI.box id cells b (hB hb) h3;refine⟨arr,e',q1,⟨q2.1,fun i c v hi hv=>?_⟩,q3⟩;rcases hk id cells hb with hk|hk|⟨kn,kvs,rfl,_⟩
  ·obtain⟨dY,_,_,k2,_⟩:=hm.box id cells b hk g1
   have ah:i<dY.size:=by
    have h5:=(zza.1 hi).1;have h6:=k2.1;simp at h6;omega
   exact(q2.2 i c v hi hv).only (k2.2 i c dY[i] hi (by simp[ah]))
  ·exact(hk c (zzad hi)).1.rep (q2.2 i c v hi hv)
  have:=q2.2 i c v hi hv;cases i with
  |zero=>cases hi;cases this
  |succ i=>cases hi
 ·obtain⟨h2,h3⟩:=Yr hb;obtain⟨b0,c0,c1,_,_,_,g4⟩:=qn h2;obtain⟨q1,q2,q3,q4,_⟩:=fI.β id b h3;exact⟨q1,q2,q3,q4,c1,g4⟩
 ·obtain⟨h2,h3⟩:=Yr h;obtain⟨h4,h5⟩:=Yr h';obtain⟨_,_,c,_,_,_,g3⟩:=qn h2;obtain⟨_,_,c',_,_,_,g3'⟩:=qn h4;have:=fI.inj i i' b h3 h5;rw[hB g3,hB g3']at this;rw[g3,g3'];exact this
 ·obtain⟨q1,q2,q3,q4,q5⟩:=fI.sp b hb;exact⟨q1,q2,q3,fun i hi=>q4 i (Yr hi).2,q5⟩
 ·obtain⟨h2,h3⟩:=Qba hb;obtain⟨b0,dZ⟩:=zzbz.1 h2;obtain⟨q1,q2,q3,q4,q5,q6,q8,x,o,q7,q9,q10⟩:=fI.mm id b h3;obtain⟨_,_,_,_,_,_,_,x0,o0,k7,k9,k10⟩:=hm.mm id b0 dZ;obtain⟨c1,fA⟩:=hB1 k7;have hx:c1=[x]:=by rw[hB fA]at q7;cases q7;rfl
  subst hx;refine⟨q1,q2,q3,fun i hi=>q4 i (Yr hi).2,q5,q6,by simp[G.only,q8],x,o,fA,q9,?_⟩;rcases hk id [x] fA with hk|hk|⟨kn,kvs,hx,hk⟩
  ·have:x=x0:=by
    have k7':m.boxes[id]?=some [x0]:=k7;rw[hk]at k7';cases k7';rfl
   subst this;exact q10.only k10
  ·have:=(hk x zd).2;cases x<;>cases o<;>first|exact q10.elim|(simp[Qx]at this)
  cases hx;cases o<;>try exact q10.elim
  obtain⟨h4,h5,h6⟩:=q10;refine⟨h4,h5,fun i k a e s1 s2=>?_⟩;obtain⟨p1,p2,p3,p4⟩:=h6 i k a e s1 s2;exact⟨p1,p2,p3,(hk (k,a) (zzad s1)).rep p4⟩
 exact fI.minj i i' b (Qba h).2 (Qba h').2
def eD.only(e:eD w γ w' γ'):eD w γ w' (γ.only γ'):=
 ⟨e.size,e.ro,fun id b h=>Ec h (e.β id b h),e.cur,fun id b h=>lE h (e.mm id b h),e.lp,e.own,e.sp,e.ss⟩
def aB.forget{f:FuncId}{as':P2}{m:AM}{K:So}
  (
   h:aB P gl Y f as' m fun r m'=>∃m1 ex,m'={m1 with boxes:=m1.boxes++ex}/\m1.boxes.length=m.boxes.length/\m1.lens=m.lens/\
   (∀(id:Nat)(cells:P2),m1.boxes[id]?=some cells->m.boxes[id]?=some cells\/YQ cells)/\Idle r/\K r m1):aB P gl Y f as' m K:=by
 refine⟨h.1,fun N w0 an γ w vs hm hl hg hy hr=>CallsIn.mono (h.2 N w0 an γ w vs hm hl hg hy hr) ?_⟩;rintro en w' ⟨v,γ',r,m',rfl,g1,g2,g3,g4,m1,ex,rfl,g5,g6,g7,g8,g9⟩;exact⟨v,γ.only γ',r,m1,rfl,g1.only,hm.only g2 g1 g5 g6 g7,g3,g8.rep g4,g9⟩
def aB.read{f:FuncId}{as':P2}{m:AM}{K:AV->Prop}(h:aB P gl Y f as' m fun r m'=>∃ex,m'={m with boxes:=m.boxes++ex}/\Idle r/\K r):aB P gl Y f as' m fun r m'=>m'=m/\K r:=by
 refine aB.forget ⟨h.1,fun N w0 an γ w vs hm hl hg hy hr=>CallsIn.mono (h.2 N w0 an γ w vs hm hl hg hy hr) ?_⟩;rintro en w' ⟨v,γ',r,m',rfl,g1,g2,g3,g4,ex,rfl,g5,g6⟩;exact⟨v,γ',r,_,rfl,g1,g2,g3,g4,m,ex,rfl,rfl,rfl,fun _ _ h=>.inl h,g5,rfl,g6⟩
end
open Go Go.RowKit
def G.ajs(γ:G):G:={γ with own:=fun _=>none,cur:=fun _=>0}
def G.dh(n:Nat)(γ γ':G):G:={γ.only γ' with own:=fun i=>if i<n then γ'.own i else none,cur:=fun i=>if i<n then γ'.cur i else 0}
def cm(a:AV):Prop:=∀(w:World)(γ:G)(v:Value),aA w γ a v->aA w γ.ajs a v
def cm.bool(b:Bool):cm (.bool b):=fun w γ v h=>by rw[h.bw];exact .bool b
def cm.int(k:IntKind)(n:Int):cm (.int k n):=fun w γ v h=>by rw[h.aI];exact .int k n
def cm.str(s:ByteArray):cm (.str s):=fun w γ v h=>by rw[h.cp];exact .str s
def cm.aJ(kn:Nat)(kvs:List (Pi×AV)):cm (.aJ kn kvs):=fun w γ v h=>by cases h
def cm.mp(id:Nat):cm (.mp id):=fun w γ v h=>by cases h with|mp h=>exact .mp h
def cm.sl{rt:Rt}{rows:T5}(h:∀i s,rt≠.own i s):cm (.sl rt rows):=fun w γ v k=>by
 cases k with
 |sl b off sz cv hcap hnil ha hsz hc hr aX=>
  refine .sl b off sz cv hcap hnil ha hsz hc hr ?_;cases rt with
  |own i s=>exact absurd rfl (h i s)
  |_=>exact aX
def LA(cells:P2):Prop:=∀c∈cells,cm c/\∀kn kvs,c=.aJ kn kvs->∀p∈kvs,cm p.2
def Kept(bs:T5)(id:Nat)(ck cells:P2):Prop:=
 (ck=cells/\bs[id]?=some cells/\LA cells)\/(ck=cells/\∀c∈cells,Idle c/\Qx c=true)\/
 ∃(kn:Nat)(Ms kvs:List (Pi×AV)),ck=[.aJ kn Ms]/\cells=[.aJ kn kvs]/\Ms.length=kvs.length/\(∀p∈kvs,Idle p.2)/\∀(i:Nat)(k:Pi)(a:AV)(k':Pi)(a':AV),Ms[i]?=some (k',a')->kvs[i]?=some (k,a)->k'=k/\Wk a' a
def Kept.empty{bs:T5}{id:Nat}{ck cells:P2}(h:Kept bs id ck cells)(h':ck=[]):cells=[]:=by
 obtain⟨rfl,_⟩|⟨rfl,_⟩|⟨kn,Ms,kvs,rfl,rfl,_⟩:=h
 ·exact h'
 ·exact h'
 cases h'
section
variable {N:Nat} {w0:eR} {an:Nat->Nat->Prop} {γ γ':G} {w w':World} {P:Program} {gl:Nat->AV} {Y:YT}
def Sm(n:Nat):No w' (γ.only γ'.ajs) w' (γ.dh n γ'):=
 ⟨zzab _,fun _ _ _ h=>⟨h,rfl⟩,fun _ _ h=>h,fun _=>zzbp _,fun _ _ h=>h,fun _ _ h=>h,fun _ _ _ h=>(by cases h),Sz.refl w'⟩
def aA.dh{a:AV}{v v0:Value}(n:Nat)(h:aA w' γ' a v)(no:cm a)(h0:aA w γ a v0):aA w' (γ.dh n γ') a v:=
 ((no _ _ _ h).only (γ:=γ) h0).eP (Sm n)
def Idle.aur{a:AV}(n:Nat)(h:Idle a){v:Value}(hr:aA w' γ' a v):aA w' (γ.dh n γ') a v:=aA.gp (γ:=γ.dh n γ') (h w' γ' v hr)
def cL.dh{x:AV}{o o0:Obj}(n:Nat)(h:cL w' γ' x o)(h0:cL w γ x o0)(no:∀kn kvs,x=.aJ kn kvs->∀p∈kvs,cm p.2):cL w' (γ.dh n γ') x o:=by
 unfold cL at h;split at h
 ·rename_i kn kvs es clock;cases o0<;>try exact h0.elim
  rename_i es0 anN;obtain⟨h1,h2,h3⟩:=h;obtain⟨k1,k2,k3⟩:=h0;refine⟨h1,h2,fun i k a e q1 q2=>?_⟩;obtain⟨p1,p2,p3,p4⟩:=h3 i k a e q1 q2;have hi:i<es0.size:=by have:=(zza.1 q1).1;omega
  exact⟨p1,p2,p3,p4.dh n (no kn kvs rfl (k,a) (zzad q1)) (k3 i k a es0[i] q1 (by simp[hi])).2.2.2⟩
 ·rename_i mid n' seen mb Np sn st;cases o0<;>try exact h0.elim
  rename_i mp0 s0 a0 b0;cases mp0<;>try exact h0.elim
  exact⟨lE h0.1 h.1,h.2⟩
 exact h.elim
def au.dh{m m1:AM}{mx ex:T5}{exl:Pa}(hm:au N w0 an γ w m.B m.L)(fI:au N w0 an γ' w' (fun i=>(mx++ex)[i]?) (fun i=>(m.lens++exl)[i]?))(e:eD w γ w' γ')
  (aH:m1.boxes.length=m.boxes.length)(hmx:mx.length=m.boxes.length)(hL:m1.lens=m.lens)
  (hk:∀(id:Nat)(cells ck:P2),m1.boxes[id]?=some cells->mx[id]?=some ck->Kept m.boxes id ck cells):
  au N w0 an (γ.dh m.lens.length γ') w' m1.B m1.L:=by
 have hB:∀{id:Nat}{cells:P2},m1.B id=some cells->∃ck,mx[id]?=some ck/\(mx++ex)[id]?=some ck:=fun{id cells}h=>by
  have h':id<m1.boxes.length:=(zza.1 h).1;have h2:id<mx.length:=zE
  exact⟨mx[id],by simp[h2],by rw[zzaj h2];simp[h2]⟩
 have hB1:∀{id:Nat}{cells:P2},m.B id=some cells->∃oh,m1.B id=some oh:=fun{id cells}h=>by
  have:=(zza.1 h).1;exact⟨_,zzaf zE⟩
 have qn:∀{id:Nat},(γ.β id).isSome->∃b cells oh,γ.β id=some b/\γ'.β id=some b/\m.B id=some cells/\m1.B id=some oh:=fun{id}h=>by
  obtain⟨b,hb⟩:=zzbz.1 h;obtain⟨_,_,_,_,c,hc⟩:=hm.β id b hb;obtain⟨c1,fA⟩:=hB1 hc;exact⟨b,c,c1,hb,e.β id b hb,hc,fA⟩
 have zf:∀{id b:Nat},(γ.dh m.lens.length γ').own id=some b->id<m.lens.length/\γ'.own id=some b:=fun{id b}h=>by
  have h:(if id<m.lens.length then γ'.own id else none)=some b:=h;split at h
  ·exact⟨by assumption,h⟩
  cases h
 refine⟨w0.st _ _ _ _ fI.bs ⟨rfl,rfl,rfl,zzab _,fun _ _ _=>rfl,fun _ _ _ h=>⟨h,rfl⟩,fun b hb=>.inl ?_,fun _ _ h=>.inl h⟩,fI.hN,fI.an,fI.robd,fun id cells b hb h1=>?_,fun id b hb=>?_,fun i i' b h h'=>?_,fun id b hb=>?_,fun i i' b h h'=>fI.oinj i i' b (zf h).2 (zf h').2,fun b hb=>?_,fun id b hb=>?_,fun i i' b h h'=>?_,fun id n hn=>?_,fun id hn=>?_⟩
 ·obtain⟨i,hi⟩|⟨i,hi⟩|hb|⟨i,hi⟩:=hb
  ·exact .inl ⟨i,(Yr hi).2⟩
  ·exact .inr (.inl ⟨i,(zf hi).2⟩)
  ·exact .inr (.inr (.inl hb))
  exact .inr (.inr (.inr ⟨i,(Qba hi).2⟩))
 ·obtain⟨h2,h3⟩:=Yr h1;obtain⟨b0,c0,_,g1,g2,g3,_⟩:=qn h2;rw[h3]at g2;cases g2;obtain⟨ck,fA,Cy⟩:=hB hb;obtain⟨arr,e',q1,q2,q3⟩:=fI.box id ck b Cy h3;rcases hk id cells ck hb fA with⟨rfl,hk,no⟩|⟨rfl,aL⟩|⟨kn,Ms,kvs,rfl,rfl,_⟩
  ·refine⟨arr,e',q1,⟨q2.1,fun i c v hi hv=>?_⟩,q3⟩;obtain⟨dY,_,_,k2,_⟩:=hm.box id ck b hk g1
   have ah:i<dY.size:=by
    have h5:=(zza.1 hi).1;have h6:=k2.1;simp at h6;omega
   exact(q2.2 i c v hi hv).dh _ (no c (zzad hi)).1 (k2.2 i c dY[i] hi (by simp[ah]))
  ·exact⟨arr,e',q1,⟨q2.1,fun i c v hi hv=>(aL c (zzad hi)).1.aur _ (q2.2 i c v hi hv)⟩,q3⟩
  refine⟨arr,e',q1,⟨Nm q2.1,fun i c v hi hv=>?_⟩,q3⟩;cases i with
  |zero=>have:=q2.2 0 _ v rfl hv;cases this
  |succ i=>cases hi
 ·obtain⟨h2,h3⟩:=Yr hb;obtain⟨b0,c0,c1,_,_,_,g4⟩:=qn h2;obtain⟨q1,q2,q3,q4,_⟩:=fI.β id b h3;exact⟨q1,q2,q3,fun id' h=>q4 id' (zf h).2,c1,g4⟩
 ·obtain⟨h2,h3⟩:=Yr h;obtain⟨h4,h5⟩:=Yr h';obtain⟨_,_,c,_,_,_,g3⟩:=qn h2;obtain⟨_,_,c',_,_,_,g3'⟩:=qn h4;obtain⟨d,d1,d2⟩:=hB g3;obtain⟨d',d1',d2'⟩:=hB g3';have:=fI.inj i i' b h3 h5;simp only[d2,d2']at this
  have em:∀{id:Nat}{c d:P2},m1.B id=some c->mx[id]?=some d->d=[]->c=[]:=fun{id c d}h1 h2 h3=>by
   exact(hk id c d h1 h2).empty h3
  obtain h|h|h:=this
  ·exact .inl (by rw[g3,em g3 d1 (Nm h)])
  ·exact .inr (.inl (by rw[g3',em g3' d1' (Nm h)]))
  exact .inr (.inr h)
 ·obtain⟨h1,h2⟩:=zf hb;obtain⟨q1,q2,_⟩:=fI.own id b h2;refine⟨q1,q2,m.lens[id],?_⟩;simp only[AM.L,hL];exact zzaf h1
 ·obtain⟨q1,q2,q3,q4,q5⟩:=fI.sp b hb;exact⟨q1,q2,q3,fun i hi=>q4 i (Yr hi).2,fun i hi=>q5 i (zf hi).2⟩
 ·obtain⟨h2,h3⟩:=Qba hb;obtain⟨b0,dZ⟩:=zzbz.1 h2;obtain⟨q1,q2,q3,q4,q5,q6,q8,x,o,q7,q9,q10⟩:=fI.mm id b h3;obtain⟨_,_,_,_,_,_,_,x0,o0,k7,k9,k10⟩:=hm.mm id b0 dZ;obtain⟨c1,fA⟩:=hB1 k7;obtain⟨ck,d1,d2⟩:=hB fA;have hx:ck=[x]:=by rw[d2]at q7;cases q7;rfl
  subst hx
  have hβ:(γ.dh m.lens.length γ').β id=none:=by
   show(if(γ.β id).isSome then γ'.β id else none)=none;rw[q8];split<;>rfl
  refine⟨q1,q2,q3,fun i hi=>q4 i (Yr hi).2,fun i hi=>q5 i (zf hi).2,q6,hβ,?_⟩;rcases hk id c1 [x] fA d1 with⟨rfl,hk,no⟩|⟨rfl,aL⟩|⟨kn,Ms,kvs,h1,rfl,h4,aL,h5⟩
  ·refine⟨x,o,fA,q9,?_⟩
   have:x=x0:=by
    have k7':m.boxes[id]?=some [x0]:=k7;rw[hk]at k7';cases k7';rfl
   subst this;exact q10.dh _ k10 (no x zd).2
  ·have:=(aL x zd).2;cases x<;>cases o<;>first|exact q10.elim|(simp[Qx]at this)
  cases h1;cases o<;>try exact q10.elim
  obtain⟨g4,g5,g6⟩:=q10;refine⟨_,_,fA,q9,g4,zE,fun i k a e s1 s2=>?_⟩;have dn:=(zza.1 s1).1;obtain⟨k',a',uv⟩:∃k' a',Ms[i]?=some (k',a'):=⟨_,_,zzaf zE⟩;obtain⟨p1,p2,p3,p4⟩:=g6 i k' a' e uv s2;obtain⟨rfl,r2⟩:=h5 i k a k' a' uv s1;exact⟨p1,p2,p3,(aL _ (zzad s1)).aur _ (r2 _ _ _ p4)⟩
 ·exact fI.minj i i' b (Qba h).2 (Qba h').2
 ·have hn:m.lens[id]?=some n:=by rw[<- hL];exact hn
  have ah:=(zza.1 hn).1;have:=fI.len id n (by show(m.lens++exl)[id]?=some n;rw[zzaj ah];exact hn);show(if id<m.lens.length then γ'.cur id else 0)=n;rw[if_pos ah];exact this
 have hn:m.lens[id]?=none:=by rw[<- hL];exact hn
 have bq:=zzgk.1 hn;show(if id<m.lens.length then γ'.cur id else 0)=0;rw[if_neg zE]
def eD.dh{m:AM}(hm:au N w0 an γ w m.B m.L)(e:eD w γ w' γ'):eD w γ w' (γ.dh m.lens.length γ'):=by
 have ho:∀id b,γ.own id=some b->id<m.lens.length:=fun id b h=>by
  obtain⟨_,_,n,hn⟩:=hm.own id b h;exact(zza.1 hn).1
 have hc:∀id,¬id<m.lens.length->γ.cur id=0:=fun id h=>hm.cur0 id (zzgk.2 zE);refine⟨e.size,e.ro,fun id b h=>Ec h (e.β id b h),fun id=>?_,fun id b h=>lE h (e.mm id b h),e.lp,fun id b h1 h2=>?_,e.sp,e.ss⟩
 ·show γ.cur id<=if id<m.lens.length then γ'.cur id else 0;split
  ·exact e.cur id
  rename_i h;rw[hc id h];exact zzab _
 have ah:=ho id b h2;have h1:(if id<m.lens.length then γ'.cur id else 0)=γ.cur id:=h1;rw[if_pos ah]at h1;obtain⟨a1,a2,a3⟩:=e.own id b h1 h2;refine⟨?_,a2,a3⟩;show(if id<m.lens.length then γ'.own id else none)=some b;rw[if_pos ah];exact a1
def aB.mono{f:FuncId}{as':P2}{m:AM}{K K':So}(h:aB P gl Y f as' m K)(hk:∀r m',K r m'->K' r m'):aB P gl Y f as' m K':=by
 refine⟨h.1,fun N w0 an γ w vs hm hl hg hy hr=>CallsIn.mono (h.2 N w0 an γ w vs hm hl hg hy hr) ?_⟩;rintro en w' ⟨v,γ',r,m',g0,g1,g2,g3,g4,g5⟩;exact⟨v,γ',r,m',g0,g1,g2,g3,g4,hk _ _ g5⟩
end
open Go Go.RowKit
end Go.Abs
namespace Go.Proofs.YthjppoincojfkaaGreatDoor
noncomputable section
open Go Go.RowKit Go.Lib
def zg(b:Nat)(w:World)(h0:w.cell? ⟨b,0,none⟩=some (.pointer (some ⟨b,0,none⟩))):
  Calls Tryz.prog 125 #[.pointer (some ⟨b,0,none⟩)] w fun e w'=>e=.returned (.tuple #[])/\w'=w:=by
 obtain⟨j,hj,fU⟩:∃j,Tryz.prog.info? 142=some j/\j.size=2:=⟨_,rfl,rfl⟩;have mixed:Tryz.prog.follows Departure.mixedOrders=true:=by kernel_rfl
 go_enter Tryz.func125,Tryz.ntmps125
 go_wp2
 rw[Lib.run_neq_ptr_same w _ Tryz.underlying139 hj]
 go_wp2
 go_end0
 exact⟨rfl,rfl⟩
def uq(b:Nat)(w:World)(h0:w.cell? ⟨b,0,none⟩=some (.pointer none))(fE:w.shape? b=some (142,2))(hfz:w.frozen? ⟨b,0,none⟩=false):
  Calls Tryz.prog 125 #[.pointer (some ⟨b,0,none⟩)] w fun e w'=>e=.returned (.tuple #[])/\w'=w.setCell ⟨b,0,none⟩ (.pointer (some ⟨b,0,none⟩)):=by
 obtain⟨j,hj,fU⟩:∃j,Tryz.prog.info? 142=some j/\j.size=2:=⟨_,rfl,rfl⟩;have ayH:liesAt Tryz.prog Tryz.prog.depth 142 (2/Tryz.prog.cellsOf 142) 0 142 1=true:=by kernel_rfl
 have mixed:Tryz.prog.follows Departure.mixedOrders=true:=by kernel_rfl
 go_enter Tryz.func125,Tryz.ntmps125
 go_wp2
 rw[Lib.run_to_unsafe w ⟨b,0,none⟩ Tryz.underlying139 Tryz.underlying269 hj (by rw[fU];decide) fE (Nat.zero_lt_succ 1)];simp only[Result.andThen];rw[Oper.upon_value]
 go_wp2
 rw[run_callFunc_extern Tryz.func181 (by kernel_rfl) (by kernel_rfl) (by kernel_rfl) (e:=Extern.AbiNoEscape.same) (by kernel_rfl)];rw[Lib.run_noEscape];simp only[Result.andThen];rw[Oper.upon_value]
 go_wp2
 rw[Lib.run_from_unsafe w ⟨b,0,none⟩ Tryz.underlying269 Tryz.underlying139 hj fE ayH];simp only[Result.andThen];rw[Oper.upon_value]
 go_wp2
 go_end0
 exact⟨rfl,rfl⟩
def aa5(b:Nat)(v:Value)(w w':World):Prop:=∀k,k<w.heap.size->k≠b->v.ownBlock≠some k->w'.heap[k]?=w.heap[k]?
def Io(B b:Nat)(bs:List Value)(s:ByteArray)(p v:Value)(w:World)(hp:p=.pointer none\/p=.pointer (some ⟨b,0,none⟩))(hBb:B<=b)(Mt:w.heap[b]?=some (.cells #[p,v] 142 (0,0)))(ajt:w.ownsRow B 5 1 v bs.length bs)(lF:v.ownBlock≠some b)
  (aH:bs.length+s.size<=1000000)(hBw:B<=w.heap.size):
  Calls Tryz.prog 70 #[.pointer (some ⟨b,0,none⟩),.string s] w fun e w'=>e=.returned (.tuple #[.int .i64 s.size,.nilIface])/\
   ∃v',w'.heap[b]?=some (.cells #[.pointer (some ⟨b,0,none⟩),v'] 142 (0,0))/\w'.ownsRow B 5 1 v' (bs++Lib.strCells s).length (bs++Lib.strCells s)/\v'.ownBlock≠some b/\Below B w w'/\aa5 b v w w':=by
 obtain⟨i0,hi,hz0,hz1,hz2⟩:=info_parts (P:=Tryz.prog) (e:=5) (z:=.int .u8 0) (size:=1) (bytes:=1) (by rfl);have mixed:Tryz.prog.follows Departure.mixedOrders=true:=by kernel_rfl
 have aus:b<w.heap.size:=by
  rcases zzaa b w.heap.size with h'|h'
  ·exact h'
  simp[zzbo h']at Mt
 have cC:Calls Tryz.prog 125 #[.pointer (some ⟨b,0,none⟩)] w fun e w'=>e=.returned (.tuple #[])/\w'.heap[b]?=some (.cells #[.pointer (some ⟨b,0,none⟩),v] 142 (0,0))/\w'.ownsRow B 5 1 v bs.length bs/\w'.heap.size=w.heap.size/\Below B w w'/\∀k,k≠b->w'.heap[k]?=w.heap[k]?:=by
  obtain rfl|rfl:=hp
  ·refine(uq b w (by rw[Lib.cell_of_heap Mt];rfl) (by simp[World.shape?,Mt]) (Lib.frozen_of_heap Mt 0)).mono ?_;rintro e w' ⟨rfl,rfl⟩;refine⟨rfl,by simp[World.setCell,zzdq,Mt],?_,by simp[World.setCell],(Below.refl B w).setCell (p:=⟨b,0,none⟩) hBb _,fun k hk=>Below.heap_setCell _ _ _ _ hk⟩;exact ajt.kept (row:=some b) ⟨rfl,rfl,rfl,by simp[World.setCell],fun k _ hk=>Below.heap_setCell _ _ _ _ (fun e=>hk (by simp[e]))⟩ (Or.inr lF)
  refine(zg b w (by rw[Lib.cell_of_heap Mt];rfl)).mono ?_;rintro e w' ⟨rfl,rfl⟩;exact⟨rfl,Mt,ajt,rfl,Below.refl B _,fun _ _=>rfl⟩
 have e94:∀args w,(callFunc 125 args).run Tryz.prog w=.ok (.enter 125 args) w:=enters_of Tryz.func125 (by kernel_rfl) rfl
 go_enter Tryz.func70,Tryz.ntmps70
 go_wp2_with (go_at_fn 125;refine cC.mono ?_)
 rintro e w1 ⟨rfl,zM,cr,hsz,dz,Wg⟩;have c0:w1.cell? ⟨b,0,none⟩=some (.pointer (some ⟨b,0,none⟩)):=by rw[Lib.cell_of_heap zM];rfl
 have c1:w1.cell? ⟨b,1,none⟩=some v:=by rw[Lib.cell_of_heap zM];rfl
 go_wp2_with (at_builtin;refine Lib.wpList_append_own_string _ rfl _ _ 140 9 rfl B 5 i0 Tryz.underlying140 Tryz.underlying9 hi hz0 hz1 hz2 _ _ _ rfl cr s rfl ?c3 ?c4 ?c5 ?_)
 case c3=>unfold maxLen;omega
 case c4=>omega
 case c5=>rw[hsz];exact hBw
 intro v' w2 aa6 Ip _;have ah:b<w1.heap.size:=zE
 have fV:w2.heap[b]?=some (.cells #[.pointer (some ⟨b,0,none⟩),v] 142 (0,0)):=by
  rw[Ip.block b ah (fun e=>lF e.symm)];exact zM
 have d0:w2.cell? ⟨b,0,none⟩=some (.pointer (some ⟨b,0,none⟩)):=by rw[Lib.cell_of_heap fV];rfl
 have d1:w2.cell? ⟨b,1,none⟩=some v:=by rw[Lib.cell_of_heap fV];rfl
 have f1:w2.frozen? ⟨b,1,none⟩=false:=Lib.frozen_of_heap fV 1
 obtain⟨ao,n',cap,rfl⟩:∃ao n' cap,v'=.slice ao n' cap:=by
  rcases aa6.2 with⟨hv,_⟩|⟨g,cap,cur,hv,_⟩
  ·exact⟨_,_,_,hv⟩
  exact⟨_,_,_,hv⟩
 go_wp2
 go_ret2
 have fK:=Lib.ownBlock_ne aa6 fV (by decide);refine⟨rfl,.slice ao n' cap,by simp[World.setCell,zzdq,fV],?_,fK,?_,fun k hk hkb Sv=>?_⟩
 ·have:=aa6.kept (w':=w2.setCell ⟨b,1,none⟩ (.slice ao n' cap)) (row:=some b) ⟨rfl,rfl,rfl,by simp[World.setCell],fun k _ hk=>Below.heap_setCell _ _ _ _ (fun e=>hk (by simp[e]))⟩ (Or.inr fK);simpa[Lib.strCells_length]using this
 ·exact(dz.grown Ip zE (fun k hk=>(cr.lt k hk).1)).setCell (p:=⟨b,1,none⟩) hBb _
 exact(Below.heap_setCell _ _ _ _ hkb).trans ((Ip.block k zE (fun e=>Sv e.symm)).trans (Wg k hkb))
open Go Go.RowKit Go.Lib
def Bld(B b:Nat)(bs:List Value)(v:Value)(w:World):Prop:=∃p,(p=.pointer none\/p=.pointer (some ⟨b,0,none⟩))/\B<=b/\w.heap[b]?=some (.cells #[p,v] 142 (0,0))/\w.ownsRow B 5 1 v bs.length bs/\v.ownBlock≠some b
def BU(B b:Nat)(bs:List Value)(v:Value)(n:Int)(s:ByteArray)(w:World)(h:Bld B b bs v w)(hB:B<=w.heap.size)(aH:bs.length+s.size<=1000000)
  (h37:∀w:World,Calls Tryz.prog 69 #[.int .i64 n] w fun e w'=>e=.returned (.tuple #[.string s,.int .i64 0])/\Below w.heap.size w w'):
  Calls Tryz.prog 68 #[.int .i64 n,.pointer (some ⟨b,0,none⟩)] w fun e w'=>e=.returned (.tuple #[])/\∃v',Bld B b (bs++Lib.strCells s) v' w'/\Below B w w'/\aa5 b v w w':=by
 have mixed:Tryz.prog.follows Departure.mixedOrders=true:=by kernel_rfl
 have e37:∀args w,(callFunc 69 args).run Tryz.prog w=.ok (.enter 69 args) w:=enters_of Tryz.func69 (by kernel_rfl) rfl;have e38:∀args w,(callFunc 70 args).run Tryz.prog w=.ok (.enter 70 args) w:=enters_of Tryz.func70 (by kernel_rfl) rfl;obtain⟨p,hp,hBb,zM,cr,aO⟩:=h
 go_enter Tryz.func68,Tryz.ntmps68
 go_wp2_with (go_at_fn 69;refine(h37 _).mono ?_)
 rintro e w1 ⟨rfl,dz⟩
 have ah:b<w.heap.size:=by
  rcases zzaa b w.heap.size with h'|h'
  ·exact h'
  simp[zzbo h']at zM
 have ayI:w1.heap[b]?=some (.cells #[p,v] 142 (0,0)):=by rw[dz.block b ah];exact zM
 have aut:w1.ownsRow B 5 1 v bs.length bs:=cr.kept (row:=none) ⟨dz.os,dz.tape,dz.output,dz.size,fun k hk _=>dz.block k hk⟩ (by cases h:v.ownBlock with|none=>exact .inl rfl|some k=>exact .inr zd)
 go_wp2_with (go_at_fn 70;refine(Io B b bs s p v w1 hp hBb ayI aut aO aH (by have:=dz.size;omega)).mono ?_)
 rintro e w2 ⟨rfl,v',g1,g2,g3,g4,g5⟩
 go_wp2
 go_end0
 refine⟨rfl,v',⟨_,.inr rfl,hBb,g1,g2,g3⟩,?_,fun k hk hkb Sv=>?_⟩
 ·exact Below.trans ⟨dz.os,dz.tape,dz.output,dz.size,fun k hk=>dz.block k zE⟩ g4
 exact(g5 k (zzba hk dz.size) hkb Sv).trans (dz.block k hk)
open Go Go.RowKit Go.Lib
def Sn(ob:Nat)(arr:Array Value)(w:World)(hb:w.heap[ob]?=some (.cells arr 53 (0,0)))(h3:arr[3]?=some (.int .i64 1))(hs:26<=arr.size):
  Calls Tryz.prog 71 #[.pointer (some ⟨ob,0,none⟩)] w fun e w'=>e=.returned (.slice (some ⟨w.heap.size,0,none⟩) 2 2)/\w'.heap[w.heap.size]?=some (.cells #[.pointer (some ⟨ob,4,none⟩),.pointer (some ⟨ob,5,none⟩)] 152 (0,0))/\Below w.heap.size w w':=by
 have mixed:Tryz.prog.follows Departure.mixedOrders=true:=by kernel_rfl
 have c3:w.cell? ⟨ob,3,none⟩=some (.int .i64 1):=by rw[Lib.cell_of_heap hb];exact h3
 go_enter Tryz.func71,Tryz.ntmps71
 go_wp2
 go_region_o
 go_wp2
 go_ret
 exact⟨rfl,heap_alloc_new w _,((Below.refl _ w).alloc (zzab _) _).drew⟩
def aa7(B b:Nat)(l:List UInt8)(v:Value)(w:World)(h:Bld B b (Lib.byteCells l) v w)(h0:l≠[]):
  Calls Tryz.prog 73 #[.pointer (some ⟨b,0,none⟩)] w fun e w'=>e=.returned (.string ⟨l.toArray⟩)/\Below B w w':=by
 have mixed:Tryz.prog.follows Departure.mixedOrders=true:=by kernel_rfl
 obtain⟨p,hp,hBb,zM,cr,aO⟩:=h;have qp:l.length≠0:=by simpa using h0
 rw[Lib.byteCells_length]at cr
 obtain⟨g,cap,cur,rfl,hbg,hg,hnc,hcm,fC,ayZ⟩:∃g cap cur,v=.slice (some ⟨g,0,none⟩) l.length cap/\B<=g/\w.heap[g]?=some (.cells cur 5 (0,0))/\l.length<=cap/\cap<=maxLen/\cur.size=cap*1/\cur.toList.take (l.length*1)=Lib.byteCells l:=by
  rcases cr.2 with⟨_,hz⟩|⟨g,cap,cur,hv,r⟩
  ·exact absurd hz qp
  exact⟨g,cap,cur,hv,r⟩
 have c1:w.drew.cell? ⟨b,1,none⟩=some (.slice (some ⟨g,0,none⟩) l.length cap):=by
  have:w.drew.heap[b]?=some (.cells #[p,.slice (some ⟨g,0,none⟩) l.length cap] 142 (0,0)):=zM;rw[Lib.cell_of_heap this];rfl
 have hSD:(Builtin.unsafeSliceData_ #[140] 214 #[.slice (some ⟨g,0,none⟩) l.length cap]).run Tryz.prog w.drew=.ok (.pointer (some ⟨g,0,none⟩)) w.drew:=
  Lib.run_unsafeSliceData_row _ _ _ _ _ _ zE
 have hUS:(Builtin.unsafeString_ #[214,3] 9 #[.pointer (some ⟨g,0,none⟩),.int .i64 l.length]).run Tryz.prog w.drew=.ok (.string ⟨l.toArray⟩) (w.drew.freeze ⟨g,0,none⟩ l.length):=by
  refine Lib.run_unsafeString_row w.drew 214 3 9 5 Tryz.underlying214 (by kernel_rfl) g cur.size (by have hg':w.drew.heap[g]?=some (.cells cur 5 (0,0)):=hg;simp[World.shape?,hg']) l h0 zE (by unfold maxLen at hcm;omega) ?_;intro j x hx;have:=cr.cells (g:=g) rfl j (.int .u8 x.toNat) (by simp[Lib.byteCells,hx]);exact this
 go_enter Tryz.func73,Tryz.ntmps73
 go_wp2
 go_region_o
 all_goals(go_wp2;go_ret;exact⟨rfl,Lib.below_freeze (Below.drew (Below.refl B w)) (p:=⟨g,0,none⟩) hbg _⟩)
open Go Go.RowKit Go.Lib
def s1(b:UInt8):ByteArray:=⟨#[b]⟩
def anO:Code->Code
 |.seq _ b=>b
 |c=>c
def Kept(b:Nat)(w w':World):Prop:=∀k o ty l,k≠b->ty≠5->w.heap[k]?=some (.cells o ty l)->w'.heap[k]?=some (.cells o ty l)
def Bld.kept{B b:Nat}{bs:List Value}{v:Value}{w w':World}(h:Bld B b bs v w)(hs:aa5 b v w w'):Kept b w w':=by
 intro k o ty l hk ht hb;obtain⟨p,hp,hBb,zM,cr,aO⟩:=h
 have ah:k<w.heap.size:=by
  rcases zzaa k w.heap.size with h'|h'
  ·exact h'
  simp[zzbo h']at hb
 rw[hs k ah hk (Lib.ownBlock_ne cr hb ht)];exact hb
def Sq(w:World)(o1 o2:Obj):((w.alloc o1).alloc o2).heap.size=w.heap.size+2/\((w.alloc o1).alloc o2).heap[w.heap.size]?=some o1/\((w.alloc o1).alloc o2).heap[w.heap.size+1]?=some o2/\Below w.heap.size w ((w.alloc o1).alloc o2):=by
 have h1:∀(w:World)(o:Obj),(w.alloc o).heap=w.heap.push o:=fun _ _=>rfl;refine⟨by rw[h1,h1];simp,by rw[h1,h1];simp[Array.getElem?_push],by rw[h1,h1,show w.heap.size+1=(w.heap.push o1).size by simp,zzei],((Below.refl _ w).alloc (zzab _) _).alloc (by rw[h1];simp) _⟩
def O4{w:World}{k:Nat}{o:Obj}(h:w.heap[k]?=some o):k<w.heap.size:=by
 rcases zzaa k w.heap.size with h'|h'
 ·exact h'
 simp[zzbo h']at h
def Bld.mono{B b:Nat}{bs:List Value}{v:Value}{w w':World}(h:Bld B b bs v w)(hb:Below w.heap.size w w'):Bld B b bs v w':=by
 obtain⟨p,hp,hBb,zM,cr,aO⟩:=h;refine⟨p,hp,hBb,by rw[hb.block b (O4 zM)];exact zM,?_,aO⟩;exact cr.kept (row:=none) ⟨hb.os,hb.tape,hb.output,hb.size,fun k hk _=>hb.block k hk⟩ (by cases h:v.ownBlock with|none=>exact .inl rfl|some k=>exact .inr zd)
def Bld.lt{B b:Nat}{bs:List Value}{v:Value}{w:World}(h:Bld B b bs v w):b<w.heap.size:=by
 obtain⟨p,hp,hBb,zM,cr,aO⟩:=h;exact O4 zM
def Mu:Code:=anO (anO (Tryz.f32.body.getD .skip))
def Sr(Q:(Exit->Act->World->Prop))(ob:Nat)(arr:Array Value)(x0 x13 x14 x15 x16:Value)(n0 n1 n2 n4 n5:Int)(b0 b1 b2 b3 b4 b5:UInt8)(w:World)(hsz:arr.size=26)
  (a0:arr[0]?=some (.int .i64 n0))(a1:arr[1]?=some (.int .i64 n1))(a2:arr[2]?=some (.int .i64 n2))(a3:arr[3]?=some (.int .i64 1))(a4:arr[4]?=some (.int .i64 n4))(a5:arr[5]?=some (.int .i64 n5))
  (hob:w.heap[ob]?=some (.cells arr 53 (0,0)))
  (p0:∀w:World,Calls Tryz.prog 69 #[.int .i64 n0] w fun e w'=>e=.returned (.tuple #[.string (s1 b0),.int .i64 0])/\Below w.heap.size w w')
  (p1:∀w:World,Calls Tryz.prog 69 #[.int .i64 n1] w fun e w'=>e=.returned (.tuple #[.string (s1 b1),.int .i64 0])/\Below w.heap.size w w')
  (p2:∀w:World,Calls Tryz.prog 69 #[.int .i64 n2] w fun e w'=>e=.returned (.tuple #[.string (s1 b2),.int .i64 0])/\Below w.heap.size w w')
  (p3:∀w:World,Calls Tryz.prog 69 #[.int .i64 1] w fun e w'=>e=.returned (.tuple #[.string (s1 b3),.int .i64 0])/\Below w.heap.size w w')
  (p4:∀w:World,Calls Tryz.prog 69 #[.int .i64 n4] w fun e w'=>e=.returned (.tuple #[.string (s1 b4),.int .i64 0])/\Below w.heap.size w w')
  (p5:∀w:World,Calls Tryz.prog 69 #[.int .i64 n5] w fun e w'=>e=.returned (.tuple #[.string (s1 b5),.int .i64 0])/\Below w.heap.size w w')
  (hQ:∀(tm:Array Value)w',tm.getD 2 undef=.string ⟨#[b0,b1,b2,b3,b4,b5]⟩->tm.getD 3 undef=.int .i64 0->Below w.heap.size w w'->Q .ret ⟨tm,[]⟩ w'):
  Code.wp Tryz.prog Mu Q ⟨#[x0,.pointer (some ⟨ob,0,none⟩),.string ⟨#[]⟩,.int .i64 0,undef,undef,undef,undef,undef,undef,undef,undef,undef,x13,x14,x15,x16,undef,undef,undef,undef,undef,undef,undef,undef,undef,undef,undef,undef,undef,undef,undef,undef,undef,undef,undef,undef,undef,undef,undef,undef,undef,undef,undef,undef,undef,undef,undef,undef,undef,undef,undef,undef,undef,undef,undef,undef,undef,undef,undef,undef,undef,undef,undef,undef,undef,undef,undef,undef,undef,undef,undef,undef,undef,undef,undef,undef,undef,undef,undef,undef,undef,undef,undef,undef,undef,undef],[]⟩ w:=by
 have mixed:Tryz.prog.follows Departure.mixedOrders=true:=by kernel_rfl
 have ah:ob<w.heap.size:=by
  rcases zzaa ob w.heap.size with h'|h'
  ·exact h'
  simp[zzbo h']at hob
 have e36:∀args w,(callFunc 68 args).run Tryz.prog w=.ok (.enter 68 args) w:=enters_of Tryz.func68 (by kernel_rfl) rfl;have e39:∀args w,(callFunc 71 args).run Tryz.prog w=.ok (.enter 71 args) w:=enters_of Tryz.func71 (by kernel_rfl) rfl;have e41:∀args w,(callFunc 73 args).run Tryz.prog w=.ok (.enter 73 args) w:=enters_of Tryz.func73 (by kernel_rfl) rfl;have c0:w.cell? ⟨ob,0,none⟩=some (.int .i64 n0):=by rw[Lib.cell_of_heap hob];exact a0
 have c1:w.cell? ⟨ob,1,none⟩=some (.int .i64 n1):=by rw[Lib.cell_of_heap hob];exact a1
 have c2:w.cell? ⟨ob,2,none⟩=some (.int .i64 n2):=by rw[Lib.cell_of_heap hob];exact a2
 have c3:w.cell? ⟨ob,3,none⟩=some (.int .i64 1):=by rw[Lib.cell_of_heap hob];exact a3
 dsimp only;simp only[Mu,anO,Tryz.f32,Option.getD]
 go_wp2
 obtain⟨hzW,zM,fT,w8⟩:=Sq w (Obj.cells #[Value.pointer none,Value.slice none 0 0] 142) (Obj.cells #[Value.int IntKind.i64 n0,Value.int IntKind.i64 n1,Value.int IntKind.i64 n2,Value.int IntKind.i64 1] 3);have gK:=(w8.block ob ah).trans hob;clear c0 c1 c2 c3 hob;generalize(w.alloc (Obj.cells #[Value.pointer none,Value.slice none 0 0] 142)).alloc (Obj.cells #[Value.int IntKind.i64 n0,Value.int IntKind.i64 n1,Value.int IntKind.i64 n2,Value.int IntKind.i64 1] 3)=W at*
 generalize w.heap.size=b at*
 have ek:Bld b b [] (.slice none 0 0) W:=⟨.pointer none,.inl rfl,zzab _,zM,World.ownsRow_nil _ _ _ _,by simp[Value.ownBlock]⟩;have Al:b<=W.heap.size:=zE
 have NI:ob≠b:=zE
 have Sx:b+1≠b:=zE
 clear ah zM hzW;have d:W.cell? ⟨b+1,0,none⟩=some (.int .i64 n0):=by rw[Lib.cell_of_heap fT];rfl
 refine wp_loop_rounds 5 ?_;rw[rounds_succ]
 go_wp2_with (go_at_fn 68;refine(BU b b _ _ _ _ _ ek Al (by simp[s1,Lib.strCells,ByteArray.size]) p0).mono ?_)
 rintro e W0 ⟨rfl,v',hbd',eS,dM⟩;have hk:=ek.kept dM;replace w8:=w8.trans eS;replace gK:=hk _ _ _ _ NI (by decide) gK;replace fT:=hk _ _ _ _ Sx (by decide) fT;replace Al:b<=W0.heap.size:=zzbc Al eS.size;replace ek:=hbd';clear hk d dM eS hbd';have d:W0.cell? ⟨b+1,1,none⟩=some (.int .i64 n1):=by rw[Lib.cell_of_heap fT];rfl
 go_wp2
 rw[rounds_succ]
 go_wp2_with (go_at_fn 68;refine(BU b b _ _ _ _ _ ek Al (by simp[s1,Lib.strCells,ByteArray.size]) p1).mono ?_)
 rintro e W1 ⟨rfl,v',hbd',eS,dM⟩;have hk:=ek.kept dM;replace w8:=w8.trans eS;replace gK:=hk _ _ _ _ NI (by decide) gK;replace fT:=hk _ _ _ _ Sx (by decide) fT;replace Al:b<=W1.heap.size:=zzbc Al eS.size;replace ek:=hbd';clear hk d dM eS hbd';have d:W1.cell? ⟨b+1,2,none⟩=some (.int .i64 n2):=by rw[Lib.cell_of_heap fT];rfl
 go_wp2
 rw[rounds_succ]
 go_wp2_with (go_at_fn 68;refine(BU b b _ _ _ _ _ ek Al (by simp[s1,Lib.strCells,ByteArray.size]) p2).mono ?_)
 rintro e W2 ⟨rfl,v',hbd',eS,dM⟩;have hk:=ek.kept dM;replace w8:=w8.trans eS;replace gK:=hk _ _ _ _ NI (by decide) gK;replace fT:=hk _ _ _ _ Sx (by decide) fT;replace Al:b<=W2.heap.size:=zzbc Al eS.size;replace ek:=hbd';clear hk d dM eS hbd';have d:W2.cell? ⟨b+1,3,none⟩=some (.int .i64 1):=by rw[Lib.cell_of_heap fT];rfl
 go_wp2
 rw[rounds_succ]
 go_wp2_with (go_at_fn 68;refine(BU b b _ _ _ _ _ ek Al (by simp[s1,Lib.strCells,ByteArray.size]) p3).mono ?_)
 rintro e W3 ⟨rfl,v',hbd',eS,dM⟩;have hk:=ek.kept dM;replace w8:=w8.trans eS;replace gK:=hk _ _ _ _ NI (by decide) gK;replace fT:=hk _ _ _ _ Sx (by decide) fT;replace Al:b<=W3.heap.size:=zzbc Al eS.size;replace ek:=hbd';clear hk d dM eS hbd';have d:W3.cell? ⟨b+1,3,none⟩=some (.int .i64 1):=by rw[Lib.cell_of_heap fT];rfl
 go_wp2
 rw[rounds_succ]
 go_wp2_with (go_at_fn 71;refine(Sn ob arr _ gK a3 zE).mono ?_)
 rintro e Y ⟨rfl,hpt,hY⟩;have fS:=ek.lt;replace ek:=ek.mono hY;replace gK:=(hY.block _ (O4 gK)).trans gK;replace w8:=w8.trans (hY.mono Al);replace Al:b<=Y.heap.size:=zzbc Al hY.size;generalize hz:W3.heap.size=sp at*
 have Sx:sp≠b:=zE
 clear fT d;have d:Y.cell? ⟨sp,0,none⟩=some (.pointer (some ⟨ob,4,none⟩)):=by rw[Lib.cell_of_heap hpt];rfl
 have d1:Y.cell? ⟨ob,4,none⟩=some (.int .i64 n4):=by rw[Lib.cell_of_heap gK];exact a4
 go_wp2
 refine wp_loop_rounds 3 ?_;rw[rounds_succ]
 go_wp2_with (go_at_fn 68;refine(BU b b _ _ _ _ _ ek Al (by simp[s1,Lib.strCells,ByteArray.size]) p4).mono ?_)
 rintro e Y0 ⟨rfl,v',hbd',eS,dM⟩;have hk:=ek.kept dM;replace w8:=w8.trans eS;replace gK:=hk _ _ _ _ NI (by decide) gK;replace hpt:=hk _ _ _ _ Sx (by decide) hpt;replace Al:b<=Y0.heap.size:=zzbc Al eS.size;replace ek:=hbd';clear hk d d1 dM eS hbd';have d:Y0.cell? ⟨sp,1,none⟩=some (.pointer (some ⟨ob,5,none⟩)):=by rw[Lib.cell_of_heap hpt];rfl
 have d1:Y0.cell? ⟨ob,5,none⟩=some (.int .i64 n5):=by rw[Lib.cell_of_heap gK];exact a5
 go_wp2
 rw[rounds_succ]
 go_wp2_with (go_at_fn 68;refine(BU b b _ _ _ _ _ ek Al (by simp[s1,Lib.strCells,ByteArray.size]) p5).mono ?_)
 rintro e Y1 ⟨rfl,v',hbd',eS,dM⟩;have hk:=ek.kept dM;replace w8:=w8.trans eS;replace gK:=hk _ _ _ _ NI (by decide) gK;replace hpt:=hk _ _ _ _ Sx (by decide) hpt;replace Al:b<=Y1.heap.size:=zzbc Al eS.size;replace ek:=hbd';clear hk d d1 dM eS hbd';have d:Y1.cell? ⟨sp,1,none⟩=some (.pointer (some ⟨ob,5,none⟩)):=by rw[Lib.cell_of_heap hpt];rfl
 have d1:Y1.cell? ⟨ob,3,none⟩=some (.int .i64 1):=by rw[Lib.cell_of_heap gK];exact a3
 go_wp2
 rw[rounds_succ]
 go_wp2_with (go_at_fn 73;refine(aa7 b b [b0,b1,b2,b3,b4,b5] _ _ ek zd).mono ?_)
 rintro e Z ⟨rfl,hZ⟩
 go_wp2
 exact hQ _ _ rfl rfl (w8.trans hZ)
end
end Go.Proofs.YthjppoincojfkaaGreatDoor
namespace Go.Proofs.YthjppoincojfkaaGreatDoor
noncomputable section
open Go Go.Abs
def agi:List (Nat×(SC×List aF×Nat))->Nat->Option (SC×List aF×Nat)
 |[],_=>none
 |(k,x)::r,f=>bif Nat.beq f k then some x else agi r f
def O5{P:Program}:∀{l:List (Nat×(SC×List aF×Nat))},(∀y∈l,c9 P y.1 y.2.1 y.2.2.1 y.2.2.2)->wV P (agi l)
 |[],_,f,sc,rs,n,h=>by cases h
 |(k,x)::r,hl,f,sc,rs,n,h=>by
  rw[agi]at h;cases hb:Nat.beq f k with
  |true=>
   rw[hb]at h;cases h;obtain rfl:=zzdr hb;exact hl (f,(sc,rs,n)) zd
  |false=>
   rw[hb]at h;exact O5 (fun y hy=>hl y (by simp[hy])) f sc rs n h
def anP:WT:=agi [(22,(eU,eV,87)),(45,(aby,abz,9)),(46,(aj3,aj4,62)),(47,(qw,ig,75)),(48,(abA,fZ,95)),(49,(tI,tJ,51)),(69,(ao9,apa,40)),(71,(apb,apc,97)),(76,(akp,apd,94)),(96,(BV,BW,54)),(97,(abL,abM,11)),(98,(akU,akV,15)),(99,(abN,abO,10)),(100,(Es,r8,59)),(124,(agK,agL,4)),(128,(agM,agN,27)),(129,(agO,agP,27)),(158,(MW,EC,20)),(159,(T3,T4,4)),(180,(ahk,ahl,19)),(182,(UA,ahm,68)),(183,(ahn,aho,43)),(211,(Nf,UJ,33))]
def Qbz:wV Tryz.prog anP:=O5 fun y hy=>by
 simp only[zzam,zzdp,or_false]at hy;obtain rfl|rfl|rfl|rfl|rfl|rfl|rfl|rfl|rfl|rfl|rfl|rfl|rfl|rfl|rfl|rfl|rfl|rfl|rfl|rfl|rfl|rfl|rfl:=hy
 ·exact S4
 ·exact Tb
 ·exact Tc
 ·exact Td
 ·exact Te
 ·exact Tf
 ·exact akn
 ·exact ako
 ·exact akq
 ·exact TB
 ·exact TC
 ·exact TD
 ·exact TE
 ·exact ME
 ·exact ab6
 ·exact ab7
 ·exact ab8
 ·exact MX
 ·exact MY
 ·exact acT
 ·exact acU
 ·exact acV
 exact Ng
def lvE:FuncId->Nat:=fun k=>if k=143 then 0 else 1
def glE(g:Nat):AV:=.junk
def ayJ:Pure Tryz.prog glE 69 [.int .i64 10] (.aS [.str ⟨#[20]⟩,.int .i64 0]):=Qcz Qbz lvE 300 4 (by kernel_rfl) rfl
open Go Go.RowKit Go.Lib
def auu{P:Program}{ops:Array Oper}{rest:List Oper}{o:Oper}{a:Act}{w:World}{Q:PP}(hg:o.guard=none)(t:TypeId)(x:Operand)(ho:o.op=.box t x)(cells:P1)(hx:(a.eval x).cells=cells)
  (h:wpList P ops Q rest (a.put o.dst (.pointer (some ⟨w.heap.size,0,none⟩))) (w.alloc (.cells cells t))):wpList P ops Q (o::rest) a w:=by
 subst hx;refine wpList_plain hg fun K hK=>?_;unfold Oper.wp execOp;simp only[ho,Sem.run_bind,Instr.box,newVar,newRow,run_newObj_alloc,Sem.run_pure,Result.andThen_ok];exact hK _ _ h
def aa8(arr:P1)(n0 n1 n2 n4 n5:Int)(b0 b1 b2 b3 b4 b5:UInt8)(w:World)(hsz:arr.size=26)
  (a0:arr[0]?=some (.int .i64 n0))(a1:arr[1]?=some (.int .i64 n1))(a2:arr[2]?=some (.int .i64 n2))(a3:arr[3]?=some (.int .i64 1))(a4:arr[4]?=some (.int .i64 n4))(a5:arr[5]?=some (.int .i64 n5))
  (h9:∀w:World,Calls Tryz.prog 22 #[.agg arr] w fun e w'=>e=.returned (.bool true)/\Below w.heap.size w w')
  (p0:∀w:World,Calls Tryz.prog 69 #[.int .i64 n0] w fun e w'=>e=.returned (.tuple #[.string (s1 b0),.int .i64 0])/\Below w.heap.size w w')
  (p1:∀w:World,Calls Tryz.prog 69 #[.int .i64 n1] w fun e w'=>e=.returned (.tuple #[.string (s1 b1),.int .i64 0])/\Below w.heap.size w w')
  (p2:∀w:World,Calls Tryz.prog 69 #[.int .i64 n2] w fun e w'=>e=.returned (.tuple #[.string (s1 b2),.int .i64 0])/\Below w.heap.size w w')
  (p3:∀w:World,Calls Tryz.prog 69 #[.int .i64 1] w fun e w'=>e=.returned (.tuple #[.string (s1 b3),.int .i64 0])/\Below w.heap.size w w')
  (p4:∀w:World,Calls Tryz.prog 69 #[.int .i64 n4] w fun e w'=>e=.returned (.tuple #[.string (s1 b4),.int .i64 0])/\Below w.heap.size w w')
  (p5:∀w:World,Calls Tryz.prog 69 #[.int .i64 n5] w fun e w'=>e=.returned (.tuple #[.string (s1 b5),.int .i64 0])/\Below w.heap.size w w'):
  Calls Tryz.prog 32 #[.agg arr] w fun e w'=>e=.returned (.tuple #[.string ⟨#[b0,b1,b2,b3,b4,b5]⟩,.int .i64 0])/\Below w.heap.size w w':=by
 have mixed:Tryz.prog.follows Departure.mixedOrders=true:=by kernel_rfl
 have e9:∀args w,(callFunc 22 args).run Tryz.prog w=.ok (.enter 22 args) w:=enters_of Tryz.func22 (by kernel_rfl) rfl;obtain⟨d,hd,hd2⟩:∃d,Tryz.prog.underlying 53=some d/\(match d with|.struct _|.array _ _=>true|_=>false)=true:=⟨_,Tryz.underlying53,rfl⟩;have hi:(Tryz.prog.info? 53).map (·.size)=some arr.size:=by rw[hsz];rfl
 have key:∀(Q:PP)(K2:Act->World->Prop)(w1:World)(x13 x14 x15 x16:Value),w1.heap[w.heap.size]?=some (.cells arr 53 (0,0))->Below w.heap.size w w1->(∀a w,Code.wp Tryz.prog Mu Q a w->K2 a w)->(∀(tm:P1)w',tm.getD 2 undef=.string ⟨#[b0,b1,b2,b3,b4,b5]⟩->tm.getD 3 undef=.int .i64 0->Below w.heap.size w w'->Q .ret ⟨tm,[]⟩ w')->K2 ⟨#[.agg arr,.pointer (some ⟨w.heap.size,0,none⟩),.string ⟨#[]⟩,.int .i64 0,undef,undef,undef,undef,undef,undef,undef,undef,undef,x13,x14,x15,x16,undef,undef,undef,undef,undef,undef,undef,undef,undef,undef,undef,undef,undef,undef,undef,undef,undef,undef,undef,undef,undef,undef,undef,undef,undef,undef,undef,undef,undef,undef,undef,undef,undef,undef,undef,undef,undef,undef,undef,undef,undef,undef,undef,undef,undef,undef,undef,undef,undef,undef,undef,undef,undef,undef,undef,undef,undef,undef,undef,undef,undef,undef,undef,undef,undef,undef,undef,undef,undef,undef],[]⟩ w1:=
  fun Q K2 w1 x13 x14 x15 x16 hob hb hK hQ=>hK _ _ (Sr _ w.heap.size _ _ x13 x14 x15 x16 n0 n1 n2 n4 n5 b0 b1 b2 b3 b4 b5 w1 hsz a0 a1 a2 a3 a4 a5 hob p0 p1 p2 p3 p4 p5 (fun tm w' h2 h3 h=>hQ tm w' h2 h3 (hb.trans (h.mono hb.size))))
 go_enter Tryz.func32,Tryz.ntmps32
 refine wp_seq_k fun K1 VU=>?_;refine wp_region_lit ?_;refine auu rfl 53 (.tmp 0) rfl arr rfl ?_;have anQ:(w.alloc (.cells arr 53)).heap[w.heap.size]?=some (.cells arr 53 (0,0)):=heap_alloc_new w _;have fS:Below w.heap.size w (w.alloc (.cells arr 53)):=(Below.refl _ w).alloc (zzab _) _;have amD:w.heap.size<=(w.alloc (.cells arr 53)).heap.size:=fS.size;have aus:=O4 anQ;generalize w.alloc (.cells arr 53)=w0 at*
 go_wp2_with (first|refine wpList_load_row rfl 53 (.tmp 1) rfl w.heap.size rfl 53 arr (0,0) _ anQ Tryz.underlying53 rfl hi ?_|(go_at_fn 22;refine(h9 _).mono ?_))
 rintro e w1 rfl dz;rename_i Q K2 a2 K1 a1 K0 a0;have ayK:=fun x13 x14 x15 x16=>key _ K2 w1 x13 x14 x15 x16 ((dz.block _ aus).trans anQ) (fS.trans (dz.mono amD)) a2 (fun tm w' h2 h3 hb=>bodyPost_ret (results_tmp2 rfl _ _ _) rfl (by rw[h2,h3];exact⟨rfl,hb⟩));clear a2 h9 p0 p1 p2 p3 p4 p5 key
 go_wp2
 exact ayK _ _ _ _
open Go Go.RowKit Go.Extern.Stop Go.Stop Go.Extern
def Mv(p q:Addr)(w:World):
  CallsD Tryz.prog 74 #[.pointer (some p),.pointer (some q)] .returning w fun e u' w'=>e=.returned (.tuple #[])/\u'=.returning/\w'=w:=by
 refine callsD_of_wpS Tryz.func74 rfl fun c₀ cs hu=>?_;apply wpS_seq;apply wpS_region;simp[wpOpsS,go_sem,recoverD,hu,Tryz.ntmps74,Exit.thenS];apply wpS_seq;apply wpS_seq;apply wpS_region;simp[wpOpsS,go_sem,Exit.thenS];refine wpS_cond (t:=true) (by simp[Act.eval,Array.replicate]) ?_;simp only[if_true];refine wpS_of_wp (wp_ret ?_);cases c₀;simp_all[bodyPostS,results,Tryz.results74,Exit.thenS]
def tE(w:World)(o1 o2 o3:Obj):(((w.alloc o1).alloc o2).alloc o3).heap.size=w.heap.size+3/\(((w.alloc o1).alloc o2).alloc o3).heap[w.heap.size]?=some o1/\(((w.alloc o1).alloc o2).alloc o3).heap[w.heap.size+1]?=some o2/\(((w.alloc o1).alloc o2).alloc o3).heap[w.heap.size+1+1]?=some o3/\Below w.heap.size w (((w.alloc o1).alloc o2).alloc o3):=by
 have h1:∀(w:World)(o:Obj),(w.alloc o).heap=w.heap.push o:=fun _ _=>rfl;have e1:∀(h:Array Obj)(o:Obj)(k:Nat),k<h.size->(h.push o)[k]?=h[k]?:=fun h o k hk=>by rw[Array.getElem?_push,if_neg zE]
 refine⟨by rw[h1,h1,h1];simp,?_,?_,?_,(((Below.refl _ w).alloc (zzab _) _).alloc (by rw[h1];simp) _).alloc (by rw[h1,h1];simp;omega) _⟩
 ·rw[h1,h1,h1,e1 _ _ _ (by simp;omega),e1 _ _ _ zd,zzei]
 ·rw[h1,h1,h1,e1 _ _ _ zd,show w.heap.size+1=(w.heap.push o1).size by simp,zzei]
 rw[h1,h1,h1,show w.heap.size+1+1=((w.heap.push o1).push o2).size by simp,zzei]
def anR{w:World}{k:Nat}{o:Obj}(h:w.heap[k]?=some o):k<w.heap.size:=by
 rcases zzaa k w.heap.size with h'|h'
 ·exact h'
 simp[zzbo h']at h
def zO:P1:=#[.int .i64 0,.int .i64 0,.int .i64 0,.int .i64 0,.int .i64 0,.int .i64 0,.int .i64 0,.int .i64 0,.int .i64 0,.int .i64 0,.int .i64 0,.int .i64 0,.slice none 0 0,.int .i64 0,.int .i64 0,.int .i64 0,.int .i64 0,.int .i64 0,.int .i64 0,.int .i64 0,.int .i64 0,.int .i64 0,.int .i64 0,.int .i64 0,.int .i64 0,.string ⟨#[]⟩]
def aa9(arr:P1)(s:ByteArray)(hsz:arr.size=26)(Iu:arr.all (·.oneCell')=true)(w:World)
  (hO:∀(w:World)(b:Nat),w.heap[b]?=some (.cells #[.string s,.int .i64 0] 159 (0,0))->Calls Tryz.prog 76 #[.pointer (some ⟨b,0,none⟩)] w fun e w'=>e=.returned (.agg arr)/\Below b w w')
  (h22:∀w:World,Calls Tryz.prog 22 #[.agg arr] w fun e w'=>e=.returned (.bool true)/\Below w.heap.size w w'):
  Calls Tryz.prog 33 #[.string s] w fun e w'=>e=.returned (.tuple #[.agg arr,.int .i64 0])/\Below w.heap.size w w':=by
 have hmf:∀(fn:Fn)(first cap:P1)(w:World),(Instr.makeFunc fn first cap).run Tryz.prog w=.ok (.func fn first cap) w:=fun _ _ _ _=>rfl;have e76:∀args w,(callFunc 76 args).run Tryz.prog w=.ok (.enter 76 args) w:=enters_of Tryz.func76 (by kernel_rfl) rfl;have e22:∀args w,(callFunc 22 args).run Tryz.prog w=.ok (.enter 22 args) w:=enters_of Tryz.func22 (by kernel_rfl) rfl;have hi:(Tryz.prog.info? 53).map (·.size)=some arr.size:=by rw[hsz];rfl
 go_enter_defers Tryz.func33,Tryz.ntmps33
 go_wp2_with (go_at_fn 76;refine(hO _ (w.heap.size+1+1) (tE _ _ _ _).2.2.2.1).mono ?_)
 rintro e w1 ⟨rfl,dz⟩;obtain⟨t1,t2,t3,t4,t5⟩:=tE w (.cells zO 53) (.cells #[.int .i64 0] 81) (.cells #[.string s,.int .i64 0] 159);have dZ:=(dz.block w.heap.size zE).trans t2;have hbc:=(dz.block (w.heap.size+1) zE).trans t3;have w8:=t5.trans (dz.mono zE);have hs1:=zzba (Nat.lt_of_lt_of_eq (zzez (w.heap.size+2)) t1.symm) dz.size;clear dz t1 t2 t3 t4 t5;have bS:=setRow_heap (w1.alloc (.cells zO 53)) w1.heap.size zO arr 53 (0,0) (heap_alloc_new _ _);have A9:Below w1.heap.size w1 ((w1.alloc (.cells zO 53)).setRow w1.heap.size arr):=below_setRow ((Below.refl _ _).alloc (zzab _) _) (zzab _) arr
 go_wp2_with (first
  |refine wpList_store_row rfl 53 (.tmp 5) (.tmp 11) rfl w1.heap.size arr rfl rfl 53 zO (heap_alloc_new _ _) hi (by rw[hsz];rfl) Iu ?_
  |refine wpList_load_row rfl 53 (.tmp 5) rfl w1.heap.size rfl 53 arr (0,0) _ bS Tryz.underlying53 rfl hi ?_
  |(go_at_fn 22;refine(h22 _).mono ?_))
 rintro e w2 ⟨rfl,fV⟩;have ah:=anR bS;have J7:=(fV.block _ ah).trans bS;have SG:=A9.trans (fV.mono (zzgp ah));have KI:=(SG.block w.heap.size zE).trans dZ;have ayL:=(SG.block (w.heap.size+1) zE).trans hbc;have FK:=w8.trans (SG.mono zE);clear fV bS A9 dZ hbc w8 SG ah;have hc3:=(setRow_other w2 w.heap.size (w.heap.size+1) arr zE).trans ayL;have d:(w2.setRow w.heap.size arr).cell? ⟨w.heap.size+1,0,none⟩=some (.int .i64 0):=by rw[Lib.cell_of_heap hc3];rfl
 have fz:(w2.setRow w.heap.size arr).frozen? ⟨w.heap.size+1,0,none⟩=false:=Lib.frozen_of_heap hc3 0;have OA:=setRow_heap w2 w.heap.size zO arr 53 (0,0) KI;have hB4:Below w.heap.size w (w2.setRow w.heap.size arr):=below_setRow FK (zzab _) arr
 go_wp2_with (first
  |refine wpList_load_row rfl 53 (.tmp 5) rfl w1.heap.size rfl 53 arr (0,0) _ J7 Tryz.underlying53 rfl hi ?_
  |refine wpList_store_row rfl 53 (.tmp 2) (.tmp 16) rfl w.heap.size arr rfl rfl 53 zO KI hi (by rw[hsz];rfl) Iu ?_)
 have hr5:=(Below.heap_setCell (w2.setRow w.heap.size arr) ⟨w.heap.size+1,0,none⟩ (.int .i64 0) w.heap.size zd).trans OA;have hc5:=setRow_heap _ _ _ ((#[.int .i64 0]:P1).setIfInBounds 0 (.int .i64 0)) _ _ hc3;rw[<- setCell_eq_setRow _ _ _ _ _ _ _ hc3]at hc5;have hB5:=hB4.setCell (p:=⟨w.heap.size+1,0,none⟩) (Nat.le_succ _) (.int .i64 0);generalize(w2.setRow w.heap.size arr).setCell ⟨w.heap.size+1,0,none⟩ (.int .i64 0)=W at*
 have d5:W.cell? ⟨w.heap.size+1,0,none⟩=some (.int .i64 0):=by rw[Lib.cell_of_heap hc5];rfl
 have hl:=run_loadVar_row (P:=Tryz.prog) W w.heap.size 53 53 arr (0,0) _ hr5 Tryz.underlying53 rfl hi;refine leaves_cons (f:=74) (args:=#[.pointer (some ⟨w.heap.size,0,none⟩),.pointer (some ⟨w.heap.size+1,0,none⟩)]) zd (by simp[go_sem]) ?_;refine(Mv ⟨w.heap.size,0,none⟩ ⟨w.heap.size+1,0,none⟩ _).mono ?_;rintro e u' qF ⟨rfl,rfl,rfl⟩;have CT:(loadVar 81 ⟨w.heap.size+1,0,none⟩).run Tryz.prog qF=.ok (.int .i64 0) qF:=by simp[go_sem,d5]
 simp[Leaves,settle,results,Tryz.results33,asAddr,hl,CT,hB5]
open Go Go.Abs Go.RowKit
def auv(b:Nat)(w1:World):eR where
 p γ w:=Below b w1 w/\b<=w1.heap.size/\∀x,OI γ x->b<=x
 st γ w γ' w' h hc:=by
  obtain⟨h1,h2,h3⟩:=h;have hs:=h1.size;refine⟨h1.trans ⟨hc.os,hc.tape,hc.output,hc.size,fun k hk=>hc.same k zE fun ho=>?_⟩,h2,fun k hk=>?_⟩
  ·have:=h3 k ho;omega
  rcases hc.oi k hk with hk|hk
  ·exact h3 k hk
  omega
def Ss{P:Program}{f:FuncId}{cells:P2}{K:So}(h:aB P (fun _=>.junk) Y0 f [.ptr 0 0] ⟨[cells],[],fun _=>.gone,0⟩ K)(w:World)(b:Nat)(arr:P1)(t:TypeId)
  (hb:w.heap[b]?=some (.cells arr t (0,0)))(hr:∀γ,cq w γ cells arr.toList)(h1:∀v∈arr.toList,v.oneCell'=true):
  Calls P f #[.pointer (some ⟨b,0,none⟩)] w fun e w'=>∃v γ' r m',e=.returned v/\Below b w w'/\aA w' γ' r v/\K r m':=by
 have ah:b<w.heap.size:=by
  rcases zzaa b w.heap.size with h|h
  ·exact h
  rw[zzbo h]at hb;cases hb
 let γ0:G:={G0 (fun _ _=>False)with β:=fun id=>if id=0 then some b else none}
 have hβ:∀id x,γ0.β id=some x->id=0/\x=b:=fun id x hx=>by
  by_cases hi:id=0
  ·refine⟨hi,?_⟩;have:γ0.β id=some b:=if_pos hi;rw[this]at hx;exact(Option.some.inj hx).symm
  have:γ0.β id=none:=if_neg hi;rw[this]at hx;cases hx
 have hm:au b (auv b w) (fun _ _=>False) γ0 w (⟨[cells],[],fun _=>.gone,0⟩:AM).B (⟨[cells],[],fun _=>.gone,0⟩:AM).L:=by
  refine⟨⟨Below.refl _ _,zzgp ah,fun x hx=>?_⟩,zzgp ah,fun _ _ h=>h.elim,fun _ _ h=>h.elim,fun id cs x hB hx=>?_,fun id x hx=>?_,fun id id' x hx hy=>?_,fun id x h=>(by cases h),fun id id' x h=>(by cases h),fun x h=>h.elim,fun id x h=>(by cases h),fun id id' x h=>(by cases h),fun id n h=>by simp[AM.L]at h,fun _ _=>rfl⟩
  ·obtain⟨id,hx⟩|⟨_,hx⟩|hx|⟨_,hx⟩:=hx
   ·have:=(hβ id x hx).2;omega
   ·cases hx
   ·exact hx.elim
   cases hx
  ·obtain⟨rfl,rfl⟩:=hβ id x hx;have:cells=cs:=by simpa[AM.B]using hB
   subst this;exact⟨arr,t,hb,hr _,h1⟩
  ·obtain⟨rfl,rfl⟩:=hβ id x hx;exact⟨zzab _,ah,fun _ h=>h,fun id' h=>(by cases h),cells,by simp[AM.B]⟩
  exact .inr (.inr ((hβ id x hx).1.trans (hβ id' x hy).1.symm))
 have hv:ak w γ0 [.ptr 0 0] [.pointer (some ⟨b,0,none⟩)]:=⟨rfl,fun i a v ha hv=>by
  match i,ha,hv with
  |0,ha,hv=>cases ha;cases hv;exact .ptr rfl
  |i+1,ha,hv=>simp at ha⟩
 have iK:cS γ0 w (⟨[cells],[],fun _=>.gone,0⟩:AM):=⟨fun _=>.inl rfl,fun _ _=>rfl,fun _ _ _ h=>(by cases h),fun _ _ h=>(by cases h)⟩;refine(callsIn_wide (n:=0)).1 ?_;refine CallsIn.mono (h.2 b (auv b w) _ γ0 w _ hm iK (fun g=>.junk _) (fun _ _ _ _ _ _ _ _ _ _ _ hY _ _=>hY.elim) hv) ?_;rintro e w' ⟨v,γ',r,m',rfl,_,h2,_,h4,h5⟩;exact⟨v,γ',r,m',rfl,h2.bs.1,h4,h5⟩
def valOf:AV->Value
 |.int k n=>.int k n
 |.str s=>.string s
 |_=>.slice none 0 0
def om:AV->Bool
 |.int _ _=>true
 |.str _=>true
 |.sl .nil []=>true
 |_=>false
def Iq{w:World}{γ:G}{a:AV}{v:Value}(ha:om a=true)(h:aA w γ a v):v=valOf a:=by
 cases h with
 |int k n=>rfl
 |str s=>rfl
 |sl b off sz cv hcap hnil hh hsz hc hr aX=>
  rename_i rt rows a cap;cases rt<;>cases rows<;>simp[om]at ha;simp only[qD]at aX;subst aX;have:=hnil rfl;subst this;rfl
 |_=>simp[om]at ha
def aba{w:World}{γ:G}{cs:P2}{v:Value}(ha:cs.all om=true)(h:aA w γ (.agg cs) v):v=.agg (cs.map valOf).toArray:=by
 cases h with
 |agg hl hc=>
  rename_i arr;congr 1;refine Array.ext (by simp[hl]) fun i h1 h2=>?_;have hi:i<cs.length:=zE
  have:=Iq (zzay.1 ha _ (zzdj hi)) (hc i cs[i] arr[i] (zzaf hi) (zzah h1));rw[this];simp
def lvO:FuncId->Nat:=fun k=>if k=999999 then 77 else if k=180 then 0 else if k=182 then 1 else 100
def oSL:P2:=[.int .i64 1,.int .i64 (-1),.int .i64 30,.int .i64 1,.int .i64 2,.int .i64 10,.int .i64 0,.int .i64 0,.int .i64 0,.int .i64 0,.int .i64 0,.int .i64 0,.sl .nil [],.int .i64 0,.int .i64 0,.int .i64 0,.int .i64 0,.int .i64 0,.int .i64 0,.int .i64 0,.int .i64 0,.int .i64 0,.int .i64 0,.int .i64 0,.int .i64 0,.str ⟨#[]⟩]
def oSV:P1:=#[.int .i64 1,.int .i64 (-1),.int .i64 30,.int .i64 1,.int .i64 2,.int .i64 10,.int .i64 0,.int .i64 0,.int .i64 0,.int .i64 0,.int .i64 0,.int .i64 0,.slice none 0 0,.int .i64 0,.int .i64 0,.int .i64 0,.int .i64 0,.int .i64 0,.int .i64 0,.int .i64 0,.int .i64 0,.int .i64 0,.int .i64 0,.int .i64 0,.int .i64 0,.string ⟨#[]⟩]
theorem Mw:(oSL.map valOf).toArray=oSV:=rfl
def Ir:((CX Tryz.prog (fun _=>.junk) (Ks Tryz.prog (fun _=>.junk) anP lvO 300 4) anP 300).fn .nil 76 [.ptr 0 0] ⟨[[.str ⟨#[2,1,60,2,4,20]⟩,.int .i64 0]],[],fun _=>.gone,0⟩).map (·.1)=some (.agg oSL):=by kernel_rfl
def Is:aB Tryz.prog (fun _=>.junk) Y0 76 [.ptr 0 0] ⟨[[.str ⟨#[2,1,60,2,4,20]⟩,.int .i64 0]],[],fun _=>.gone,0⟩ fun r _=>r=.agg oSL:=by
 have h:=Ir;obtain⟨⟨r,m'⟩,hx,hr⟩:=zzc.1 h;exact(NR (uG Qbz lvO 300 4) Qbz 300).2 .nil _ _ _ _ _ hx _ hr
def agj(w:World)(b:Nat)(t:TypeId)(hb:w.heap[b]?=some (.cells #[.string ⟨#[2,1,60,2,4,20]⟩,.int .i64 0] t (0,0))):
  Calls Tryz.prog 76 #[.pointer (some ⟨b,0,none⟩)] w fun e w'=>e=.returned (.agg oSV)/\Below b w w':=by
 refine Calls.mono (Ss Is w b _ t hb (fun γ=>⟨zzab _,fun i a v ha hv=>?_⟩) (fun v hv=>?_)) ?_
 ·match i,ha,hv with
  |0,ha,hv=>cases ha;cases hv;exact .str _
  |1,ha,hv=>cases ha;cases hv;exact .int _ _
  |i+2,ha,hv=>simp at ha
 ·simp at hv;rcases hv with rfl|rfl<;>rfl
 rintro e w' ⟨v,γ',r,m',rfl,h1,h2,rfl⟩;have:=aba (by rfl) h2;rw[Mw]at this;exact⟨by rw[this],h1⟩
def HC:P2:=[I 24000,I 1001,I 24,I 0,I 24,I 1,I 24,I 0,I 25,I 1,I 25,I 0,I 30000,I 1001,I 30,I 2,I 30,I 1,I 30,I 0,I 50,I 1,I 50,I 0,I 60000,I 1001,I 60,I 4,I 60,I 1,I 60,I 0]
def aD:Nat->AV
 |2=>.ep HC 0
 |_=>.junk
def Za{α:Type}{l:List α}{i:Nat}{a:α}(h:l[i]?=some a):l.drop i=a::l.drop (i+1):=by
 obtain⟨h1,h2⟩:=zza.1 h;rw[zzag h1,h2]
structure Evt where
 id:Int
 it:Int
 st:Int
 fr:Int
 i:Int
 re:Int
 al:Option Int
def jI:Pure Tryz.prog aD 64 [.sl .nil []] (.sl .nil []):=by
 refine Qp IX (fun _ _ _=>.junk) zd ?_;simp[abD,abE]
def nO(f:Int):Prop:= -1000000<=f/\f<=1000000
def wu(n:Int)(h:0<=n)(h':n<=2000000):IntKind.u64.wrap n=n:=by
 simp[IntKind.wrap,IntKind.bits,IntKind.signed];omega
def aiG:AV:=.aS [.agg [I 0,I 0,I 0,I 0,I 0,I 0,.sl .nil []],I 0,.bool false]
end
end Go.Proofs.YthjppoincojfkaaGreatDoor
namespace Go.Abs
open Go Go.RowKit
def abb{P:Program}{gl:Nat->AV}{Y:YT}{f:FuncId}(hc:bz P f)(aZ:∀(b:Nat)(es:Array MapEntry)(clock:Nat)(w:World),w.heap[b]?=some (.map es clock)->Calls P f #[.map (some b)] w fun e w'=>e=.returned (.map (some w.heap.size))/\w'=w.alloc (.map es clock))
  {m:AM}{id kn:Nat}{kvs:List (Pi×AV)}(hb:m.boxes.getD id []=[.aJ kn kvs]){K:So}(hK:K (.mp m.boxes.length) {m with boxes:=m.boxes++[[.aJ kn kvs]]}):aB P gl Y f [.mp id] m K:=by
 refine aB.fQ hc fun N w0 an γ w vs hm hl hr=>?_
 match vs,hr with
 |[v],hr=>
  obtain⟨aL,hB⟩:=nc hb;obtain⟨b,es,h1,rfl,h3,h4,h5⟩:=hm.jc (hr.2 0 _ v rfl rfl) hB;refine(aZ b es _ w h3).mono fun e w'⟨he,hw⟩=>?_;subst hw;obtain⟨g1,g2⟩:=hm.JO m.boxes.length (by simp[AM.B]) (x:=.aJ kn kvs) (o:=.map es es.size) ⟨rfl,h4,h5⟩;refine⟨_,_,.mp m.boxes.length,{m with boxes:=m.boxes++[[.aJ kn kvs]]},he,g1.cH,?_,hl.mono' g1 rfl,.mp (by simp[G.gA]),hK⟩;rw[Sw];exact g2
 |[],hr=>exact absurd hr.1 zd
 |_::_::_,hr=>exact absurd hr.1 zd
def O6{P:Program}{t:TypeId}{a b c:Nat}(h:(P.info? t).bind (fun i=>i.zero.map fun z=>(i.size,i.bytes,z.cells.size))=some (a,b,c)):∃i z,P.info? t=some i/\i.zero=some z/\i.size=a/\i.bytes=b/\z.cells.size=c:=by
 cases hi:P.info? t with
 |none=>rw[hi]at h;cases h
 |some i=>
  rw[hi]at h;simp only[zzcv]at h;cases hz:i.zero with
  |none=>rw[hz]at h;cases h
  |some z=>
   rw[hz]at h;simp only[zzct,Option.some.injEq,Prod.mk.injEq]at h;exact⟨i,z,rfl,hz,h.1,h.2.1,h.2.2⟩
def O7{P:Program}{gl:Nat->AV}{Y:YT}{f:FuncId}{t:TypeId}{sz n:Nat}(hc:bz P f)
  (cA:n=0->∀w:World,Calls P f #[.slice none 0 0,.int .i64 (n:Nat)] w fun e w'=>e=.returned (.slice none 0 0)/\w'=w)
  (Ip:0<n->∀w:World,Calls P f #[.slice none 0 0,.int .i64 (n:Nat)] w fun e w'=>∃cap cs,e=.returned (.slice (some ⟨w.heap.size,0,none⟩) 0 cap)/\w'=w.drew.alloc (.cells cs t)/\cap*sz<=cs.size)
  {m:AM}{K:So}(h0:n=0->K (.sl .nil []) m)(h1:0<n->K (.sl (.own m.lens.length sz) []) {m with lens:=m.lens++[0]}):aB P gl Y f [.sl .nil [],.int .i64 (n:Nat)] m K:=by
 refine aB.fQ hc fun N w0 an γ w vs hm hl hr=>?_
 match vs,hr with
 |[v,u],hr=>
  have hv:v=.slice none 0 0:=by
   have h:=hr.2 0 _ v rfl rfl;cases h with
   |@sl _ _ _ a cap b off dB cv hcap hnil ha hsz hcc QV aX=>
    have:a=none:=aX;subst this;rw[hnil rfl];rfl
  have hu:u=.int .i64 (n:Nat):=(hr.2 1 _ u rfl rfl).aI;subst hv;subst hu;rcases zzck n with hn|hn
  ·refine(cA hn w).mono fun e w'⟨he,hw⟩=>?_;subst hw;exact⟨_,γ,_,m,he,(Ev.refl _ γ).cH,hm,hl,Cr,h0 hn⟩
  refine(Ip hn w).mono fun e w'⟨cap,cs,he,hw,hs⟩=>?_;subst hw;have tN:=hm.aij;have hL:m.L m.lens.length=none:=by simp[AM.L]
  have cr:γ.own m.lens.length=none:=by
   cases h:γ.own m.lens.length with
   |none=>rfl
   |some b=>obtain⟨_,_,k,hk⟩:=hm.own _ _ h;rw[hL]at hk;cases hk
  have cZ:γ.cur m.lens.length=0:=hm.cur0 _ hL;have bP:=tN.2.trans (tN.1.fJ (q:=0) (id:=m.lens.length) (n:=0) zE (fun _=>cr) (.cells cs t));refine⟨_,γ.renew m.lens.length w.heap.size 0 0,.sl (.own m.lens.length sz) [],{m with lens:=m.lens++[0]},he,bP.cH,?_,hl.mono' bP rfl,?_,h1 hn⟩
  ·rw[CD];exact tN.1.renew zE (fun _=>cr) _
  refine .sl (rows:=[]) w.heap.size 0 sz (fun _ _=>undef) (zzbp _) (fun h=>(by cases h)) (fun h=>absurd rfl h) (fun _ h=>by cases h) (fun i j c h=>by simp[Qv]at h) (fun i j c h=>by simp[Qv]at h) ?_;refine⟨rfl,zzbp _,fun _=>.inr ⟨w.heap.size,0,cs,t,rfl,by simp[G.renew],by show(w.heap.push _)[w.heap.size]?=_;simp,zE,fun o' _ hr=>?_⟩⟩;obtain hr|⟨_,hr⟩:=hr
  ·have:=hm.robd _ _ hr;omega
  omega
 |[],hr=>exact absurd hr.1 zd
 |[_],hr=>exact absurd hr.1 zd
 |_::_::_::_,hr=>exact absurd hr.1 zd
end Go.Abs
namespace Go.Proofs.YthjppoincojfkaaGreatDoor
noncomputable section
open Go Go.Abs Go.Shelf Go.RowKit Go.Lib
def Mx:Go.Shelf.Ren:=⟨fun|5=>169|7=>225|n=>n,fun|23=>254|25=>3|3=>3|4=>4|20=>20|n=>n,fun|n=>n⟩
def anS:Go.Proofs.SlLaysW.n5 Tryz.prog Mx:={
 mixed:=by kernel_rfl,
 f5:=⟨Tryz.f169.name,by decide,Tryz.func169.trans (congrArg some (by kernel_rfl))⟩,
 f7:=Tryz.func225.trans (congrArg some (by kernel_rfl)),
 t4:=Tryz.underlying4,
 a4:=Tryz.isAgg4,
 z4:=Tryz.sizeOf4,
 v4:=Tryz.zeroValue4,
 t20:=Tryz.underlying20,
 a20:=Tryz.isAgg20,
 z20:=Tryz.sizeOf20,
 v20:=Tryz.zeroValue20,
 t23:=Tryz.underlying254,
 a23:=Tryz.isAgg254,
 z23:=Tryz.sizeOf254,
 v23:=Tryz.zeroValue254}
def tF:Go.Shelf.Ren:=⟨fun|4=>230|n=>n,fun|22=>42|25=>3|3=>3|4=>4|9=>9|20=>20|0=>0|n=>n,fun|n=>n⟩
def O8:Go.Proofs.Lays8.n4 Tryz.prog tF:={
 mixed:=by kernel_rfl,
 f4:=⟨Tryz.f230.name,by decide,Tryz.func230.trans (congrArg some (by kernel_rfl))⟩,
 t0:=Tryz.underlying0,
 a0:=Tryz.isAgg0,
 z0:=Tryz.sizeOf0,
 v0:=Tryz.zeroValue0,
 t3:=Tryz.underlying3,
 a3:=Tryz.isAgg3,
 z3:=Tryz.sizeOf3,
 v3:=Tryz.zeroValue3,
 t4:=Tryz.underlying4,
 a4:=Tryz.isAgg4,
 z4:=Tryz.sizeOf4,
 v4:=Tryz.zeroValue4,
 t9:=Tryz.underlying9,
 a9:=Tryz.isAgg9,
 z9:=Tryz.sizeOf9,
 v9:=Tryz.zeroValue9,
 t20:=Tryz.underlying20,
 a20:=Tryz.isAgg20,
 z20:=Tryz.sizeOf20,
 v20:=Tryz.zeroValue20,
 t22:=Tryz.underlying42,
 a22:=Tryz.isAgg42,
 z22:=Tryz.sizeOf42,
 v22:=Tryz.zeroValue42}
def zh:Go.Shelf.Ren:=⟨fun|4=>270|n=>n,fun|22=>98|25=>96|3=>3|4=>4|9=>9|20=>20|0=>0|2=>3|n=>n,fun|n=>n⟩
def abc:Go.Proofs.Lays8.n4 Tryz.prog zh:={
 mixed:=by kernel_rfl,
 f4:=⟨Tryz.f270.name,by decide,Tryz.func270.trans (congrArg some (by kernel_rfl))⟩,
 t0:=Tryz.underlying0,
 a0:=Tryz.isAgg0,
 z0:=Tryz.sizeOf0,
 v0:=Tryz.zeroValue0,
 t3:=Tryz.underlying3,
 a3:=Tryz.isAgg3,
 z3:=Tryz.sizeOf3,
 v3:=Tryz.zeroValue3,
 t4:=Tryz.underlying4,
 a4:=Tryz.isAgg4,
 z4:=Tryz.sizeOf4,
 v4:=Tryz.zeroValue4,
 t9:=Tryz.underlying9,
 a9:=Tryz.isAgg9,
 z9:=Tryz.sizeOf9,
 v9:=Tryz.zeroValue9,
 t20:=Tryz.underlying20,
 a20:=Tryz.isAgg20,
 z20:=Tryz.sizeOf20,
 v20:=Tryz.zeroValue20,
 t22:=Tryz.underlying98,
 a22:=Tryz.isAgg98,
 z22:=Tryz.sizeOf98,
 v22:=Tryz.zeroValue98}
def OX{Y:YT}{m:AM}{id kn:Nat}{kvs:List (Pi×AV)}(hb:m.boxes.getD id []=[.aJ kn kvs]){K:So}(hK:K (.mp m.boxes.length) {m with boxes:=m.boxes++[[.aJ kn kvs]]}):aB Tryz.prog aD Y 169 [.mp id] m K:=
 abb ⟨_,Tryz.func169,by kernel_rfl,by kernel_rfl⟩ (fun b es clock w h=>AnyW.maps_Clone anS b es clock w h) hb hK
def aeH{Y:YT}{m:AM}{n:Nat}(hn:n<=1000000000){K:So}(h0:n=0->K (.sl .nil []) m)(h1:0<n->K (.sl (.own m.lens.length 1) []) {m with lens:=m.lens++[0]}):aB Tryz.prog aD Y 230 [.sl .nil [],I n] m K:=by
 obtain⟨i0,z,hi0,hz0,Nt,dZ,Cw⟩:=O6 (P:=Tryz.prog) (t:=3) (a:=1) (b:=8) (c:=1) (by kernel_rfl);refine O7 (t:=3) (sz:=1) ⟨_,Tryz.func230,by kernel_rfl,by kernel_rfl⟩ (fun fB w=>?_) (fun hp w=>?_) h0 h1
 ·subst fB;exact Any8.slices_Grow_room O8 none 0 0 0 w (zzab _) zE zE (zzab _)
 refine(Any8.slices_Grow_grow O8 i0 z hi0 hz0 zE none 0 0 n [] w (zzab _) zE (by rw[dZ];omega) zE zd (fun _=>rfl) (fun a h=>by cases h)).mono fun e w'⟨he,hw⟩=>?_;refine⟨_,_,he,hw,?_⟩;have hg:n<=grownCap w (0+n) 0 3:=by have:=grownCap_ge w (0+n) 0 3;omega
 simp only[zzeq,size_zeroCells,Cw];simp;have e1:tF.t 25=3:=rfl;simp only[e1];omega
def aeE{Y:YT}{m:AM}{n:Nat}(hn:n<=1000000000){K:So}(h0:n=0->K (.sl .nil []) m)(h1:0<n->K (.sl (.own m.lens.length 2) []) {m with lens:=m.lens++[0]}):aB Tryz.prog aD Y 270 [.sl .nil [],I n] m K:=by
 obtain⟨i0,z,hi0,hz0,Nt,dZ,Cw⟩:=O6 (P:=Tryz.prog) (t:=96) (a:=2) (b:=16) (c:=2) (by kernel_rfl);refine O7 (t:=96) (sz:=2) ⟨_,Tryz.func270,by kernel_rfl,by kernel_rfl⟩ (fun fB w=>?_) (fun hp w=>?_) h0 h1
 ·subst fB;exact Any8.slices_Grow_room abc none 0 0 0 w (zzab _) zE zE (zzab _)
 refine(Any8.slices_Grow_grow abc i0 z hi0 hz0 zE none 0 0 n [] w (zzab _) zE (by rw[dZ];omega) zE zd (fun _=>rfl) (fun a h=>by cases h)).mono fun e w'⟨he,hw⟩=>?_;refine⟨_,_,he,hw,?_⟩;have hg:n<=grownCap w (0+n) 0 96:=by have:=grownCap_ge w (0+n) 0 96;omega
 simp only[zzeq,size_zeroCells,Cw];simp;have e1:zh.t 25=96:=rfl;simp only[e1];omega
open Go Go.Abs Go.RowKit
def anT{w:World}{γ:G}:∀{a:AV},om a=true->aA w γ a (valOf a)
 |.int k n,_=>.int k n
 |.str s,_=>.str s
 |.sl .nil [],_=>aA.sl 0 0 0 (fun _ _=>undef) (zzab _) (fun _=>rfl) (fun h=>(h rfl).elim) (fun r h=>by cases h) (fun i j c h=>by simp[Qv]at h) (fun i j c h=>by simp[Qv]at h) rfl
def abd{w:World}{γ:G}{cs:P2}(h:cs.all om=true):aA w γ (.agg cs) (.agg (cs.map valOf).toArray):=
 .agg zd fun i c v hc hv=>by
  have hp:=zzay.1 h c (zzad hc);have:(cs.map valOf)[i]?=some v:=by simpa using hv
  rw[zzbm,hc]at this;cases this;exact anT hp
def anU{w:World}{γ:G}{cs:P2}{v:Value}(ha:cs.all om=true)(h:aA w γ (.aS cs) v):v=.tuple (cs.map valOf).toArray:=by
 cases h with
 |aS hl hc=>
  rename_i arr;congr 1;refine Array.ext (by simp[hl]) fun i h1 h2=>?_;have hi:i<cs.length:=zE
  have:=Iq (zzay.1 ha _ (zzdj hi)) (hc i cs[i] arr[i] (zzaf hi) (zzah h1));rw[this];simp
def Qbg{n:Int}{b:UInt8}(h:Pure Tryz.prog glE 69 [.int .i64 n] (.aS [.str ⟨#[b]⟩,.int .i64 0]))(w:World):
  Calls Tryz.prog 69 #[.int .i64 n] w fun e w'=>e=.returned (.tuple #[.string (s1 b),.int .i64 0])/\Below w.heap.size w w':=by
 refine Calls.mono (h.2 (fun _ _=>False) w [.int .i64 n] (fun g=>.junk _) ⟨rfl,fun i a v ha hv=>?_⟩) ?_
 ·match i,ha,hv with
  |0,ha,hv=>cases ha;cases hv;exact .int _ _
  |i+1,ha,hv=>simp at ha
 rintro e w' ⟨v,rfl,h1,h2⟩;have:=anU (by rfl) h2;exact⟨by rw[this];rfl,h1⟩
def tG(w:World)(h:Pure Tryz.prog glE 22 [.agg oSL] (.bool true)):Calls Tryz.prog 22 #[.agg oSV] w fun e w'=>e=.returned (.bool true)/\Below w.heap.size w w':=by
 refine Calls.mono (h.2 (fun _ _=>False) w [.agg oSV] (fun g=>.junk _) ⟨rfl,fun i a v ha hv=>?_⟩) ?_
 ·match i,ha,hv with
  |0,ha,hv=>cases ha;cases hv;exact abd (by rfl)
  |i+1,ha,hv=>simp at ha
 rintro e w' ⟨v,rfl,h1,h2⟩;cases h2;exact⟨rfl,h1⟩
def lvV:FuncId->Nat:=fun k=>100
def aju:Pure Tryz.prog glE 69 [.int .i64 1] (.aS [.str ⟨#[2]⟩,.int .i64 0]):=Qcz Qbz lvE 300 4 (by kernel_rfl) rfl
def anV:Pure Tryz.prog glE 69 [.int .i64 (-1)] (.aS [.str ⟨#[1]⟩,.int .i64 0]):=Qcz Qbz lvE 300 4 (by kernel_rfl) rfl
def anW:Pure Tryz.prog glE 69 [.int .i64 30] (.aS [.str ⟨#[60]⟩,.int .i64 0]):=Qcz Qbz lvE 300 4 (by kernel_rfl) rfl
def auw:Pure Tryz.prog glE 69 [.int .i64 2] (.aS [.str ⟨#[4]⟩,.int .i64 0]):=Qcz Qbz lvE 300 4 (by kernel_rfl) rfl
def abe:Pure Tryz.prog glE 22 [.agg oSL] (.bool true):=Qcz Qbz lvV 300 4 (by kernel_rfl) rfl
def ajv{gl:Nat->AV}{f:FuncId}{x r:AV}{v u:Value}(hc:bz Tryz.prog f)(hx:∀{w:World}{γ:G}{y:Value},aA w γ x y->y=v)(hr:∀(w:World)(γ:G),aA w γ r u)
  (h:∀w:World,Calls Tryz.prog f #[v] w fun e w'=>e=.returned u/\Below w.heap.size w w'):Pure Tryz.prog gl f [x] r:=by
 refine⟨hc,fun ro w vs _ hv=>?_⟩;obtain⟨hl,hc⟩:=hv
 match vs,hl with
 |[y],_=>
  have:=hx (hc 0 x y rfl rfl);subst this;refine Calls.mono (h w) ?_;rintro e w' ⟨rfl,h1⟩;exact⟨_,rfl,h1,hr _ _⟩
def abf{w:World}{γ:G}{a b:AV}{x y:Value}(h1:aA w γ a x)(h2:aA w γ b y):aA w γ (.aS [a,b]) (.tuple #[x,y]):=
 .aS rfl fun i c v hc hv=>by
  match i,hc,hv with
  |0,hc,hv=>cases hc;cases hv;exact h1
  |1,hc,hv=>cases hc;cases hv;exact h2
  |i+2,hc,hv=>simp at hc
def HZ{gl:Nat->AV}:Pure Tryz.prog gl 32 [.agg oSL] (.aS [.str ⟨#[2,1,60,2,4,20]⟩,.int .i64 0]):=by
 refine ajv (v:=.agg oSV) (u:=.tuple #[.string ⟨#[2,1,60,2,4,20]⟩,.int .i64 0]) ⟨_,Tryz.func32,rfl,rfl⟩ (fun h=>?_) (fun w γ=>abf (.str _) (.int _ _)) fun w=>?_
 ·have:=aba (by rfl) h;rw[Mw]at this;exact this
 exact aa8 oSV 1 (-1) 30 2 10 2 1 60 2 4 20 w rfl rfl rfl rfl rfl rfl rfl (fun w=>tG w abe) (Qbg aju) (Qbg anV) (Qbg anW) (Qbg aju) (Qbg auw) (Qbg ayJ)
def H6{gl:Nat->AV}:Pure Tryz.prog gl 33 [.str ⟨#[2,1,60,2,4,20]⟩] (.aS [.agg oSL,.int .i64 0]):=by
 refine ajv (v:=.string ⟨#[2,1,60,2,4,20]⟩) (u:=.tuple #[.agg oSV,.int .i64 0]) ⟨_,Tryz.func33,rfl,rfl⟩ (fun h=>?_) (fun w γ=>abf ?_ (.int _ _)) fun w=>?_
 ·cases h;rfl
 ·have:=abd (w:=w) (γ:=γ) (cs:=oSL) (by rfl);rw[Mw]at this;exact this
 exact aa9 oSV _ rfl (by kernel_rfl) w (fun w b hb=>agj w b _ hb) (fun w=>tG w abe)
end
