import Derived.Test.YthjppoincojfkaaGreatDoorRTMbW
import Derived.Test.YthjppoincojfkaaGreatDoorRTCodeT
import Derived.Laws.CopyOwn
import Derived.Shelf.SlMaps.Clone
import Derived.Shelf.Spec.SlicesGrow
set_option linter.all false
set_option maxRecDepth 100000
set_option maxHeartbeats 64000000
namespace Go.Abs
open Go Go.RowKit
def G.only(γ γ':G):G:={γ' with β:=fun i=>if(γ.β i).isSome then γ'.β i else none,mm:=fun i=>if(γ.mm i).isSome then γ'.mm i else none}
section
variable {N:Nat} {w0:eO} {an:Nat->Nat->Prop} {γ γ':G} {w w':World} {P:Program} {gl:Nat->AV} {Y:YT}
def Yv{id b:Nat}(h:(γ.only γ').β id=some b):(γ.β id).isSome/\γ'.β id=some b:=by
 simp only[G.only]at h;split at h
 ·exact⟨by assumption,h⟩
 cases h
def Qat{id b:Nat}(h:(γ.only γ').mm id=some b):(γ.mm id).isSome/\γ'.mm id=some b:=by
 simp only[G.only]at h;split at h
 ·exact⟨by assumption,h⟩
 cases h
def Eb{id b b0:Nat}(h0:γ.β id=some b0)(h:γ'.β id=some b):(γ.only γ').β id=some b:=by simp[G.only,h0,h]
def kU{id b b0:Nat}(h0:γ.mm id=some b0)(h:γ'.mm id=some b):(γ.only γ').mm id=some b:=by simp[G.only,h0,h]
def Sl{a:Option Addr}{len cap sz:Nat}{rt:Rt}(h:qx w' γ' a len cap sz rt):qx w' (γ.only γ') a len cap sz rt:=by
 cases rt<;>exact h
def aA.only{a:AV}{v:Value}(h:aA w' γ' a v):∀{v0:Value},aA w γ a v0->aA w' (γ.only γ') a v:=by
 induction h generalizing γ with
 |junk v=>exact fun _=>.junk _
 |gd h h' ih=>exact fun k=>.gd (fun hg=>by cases k with|gd k1 _=>exact ih hg (k1 hg)) h'
 |bool b=>exact fun _=>.bool b
 |int k n=>exact fun _=>.int k n
 |str s=>exact fun _=>.str s
 |nilfn=>exact fun _=>.nilfn
 |nilv p=>exact fun _=>.nilv p
 |yld h=>exact fun _=>.yld h
 |mp h=>exact fun k=>by cases k with|mp k=>exact .mp (kU k h)
 |it h=>exact fun k=>by cases k with|it k=>exact .it (kU k h)
 |agg hl _ ih=>
  intro v0 k;cases k with
  |@agg _ _ dY kl k=>
   refine .agg hl fun i c v h1 h2=>?_
   ·have hi:i<dY.size:=by have:=(zza.1 h1).1;omega
    exact ih i c v h1 h2 (k i c dY[i] h1 (by simp[hi]))
 |aS hl _ ih=>
  intro v0 k;cases k with
  |@aS _ _ dY kl k=>
   refine .aS hl fun i c v h1 h2=>?_
   ·have hi:i<dY.size:=by have:=(zza.1 h1).1;omega
    exact ih i c v h1 h2 (k i c dY[i] h1 (by simp[hi]))
 |fn hl _ eH _ ih ih'=>
  intro v0 k;cases k with
  |@fn _ _ _ _ fa0 ca0 kl k kl' k'=>
   refine .fn hl (fun i c v h1 h2=>?_) eH fun i c v h1 h2=>?_
   ·have hi:i<fa0.size:=by have:=(zza.1 h1).1;omega
    exact ih i c v h1 h2 (k i c fa0[i] h1 (by simp[hi]))
   have hi:i<ca0.size:=by have:=(zza.1 h1).1;omega
   exact ih' i c v h1 h2 (k' i c ca0[i] h1 (by simp[hi]))
 |ptr h=>exact fun k=>by cases k with|ptr k=>exact .ptr (Eb k h)
 |bs h hl hh hs=>exact fun k=>by cases k with|bs k _ _ _=>exact .bs (Eb k h) hl hh hs
 |ep cv hb hc h _=>exact fun _=>.ep cv hb hc h
 |sl b off sz cv hcap hnil ha hsz hc h aY _=>exact fun _=>.sl b off sz cv hcap hnil ha hsz hc h (Sl aY)
def cI.only{x:AV}{o o0:Obj}(h:cI w' γ' x o)(h0:cI w γ x o0):cI w' (γ.only γ') x o:=by
 unfold cI at h;split at h
 ·rename_i kn kvs es clock;cases o0<;>try exact h0.elim
  rename_i es0 an9;obtain⟨h1,h2,h3⟩:=h;obtain⟨k1,k2,k3⟩:=h0;refine⟨h1,h2,fun i k a e q1 q2=>?_⟩;obtain⟨p1,p2,p3,p4⟩:=h3 i k a e q1 q2;have hi:i<es0.size:=by have:=(zza.1 q1).1;omega
  exact⟨p1,p2,p3,p4.only (k3 i k a es0[i] q1 (by simp[hi])).2.2.2⟩
 ·rename_i mid n seen mb Nr sn st;cases o0<;>try exact h0.elim
  rename_i mp0 s0 a0 b0;cases mp0<;>try exact h0.elim
  exact⟨kU h0.1 h.1,h.2⟩
 exact h.elim
def Idle(a:AV):Prop:=∀(w:World)(γ:G)(v:Value),aA w γ a v->aA w γ.cS a v
def Idle.bool(b:Bool):Idle (.bool b):=fun w γ v h=>by rw[h.bw];exact .bool b
def Idle.int(k:IntKind)(n:Int):Idle (.int k n):=fun w γ v h=>by rw[h.aI];exact .int k n
def Idle.str(s:ByteArray):Idle (.str s):=fun w γ v h=>by rw[h.cp];exact .str s
def Idle.agg{cs:P2}(h:∀c∈cs,Idle c):Idle (.agg cs):=fun w γ v k=>by
 cases k with
 |agg hl k=>exact .agg hl fun i c v h1 h2=>h c (zzad h1) w γ v (k i c v h1 h2)
def Idle.aS{cs:P2}(h:∀c∈cs,Idle c):Idle (.aS cs):=fun w γ v k=>by
 cases k with
 |aS hl k=>exact .aS hl fun i c v h1 h2=>h c (zzad h1) w γ v (k i c v h1 h2)
def Idle.sl{rt:Rt}{rows:T5}(h:∀i s,rt≠.own i s):Idle (.sl rt rows):=fun w γ v k=>by
 cases k with
 |sl b off sz cv hcap hnil ha hsz hc hr aY=>
  refine .sl b off sz cv hcap hnil ha hsz hc hr ?_;cases rt with
  |own i s=>exact absurd rfl (h i s)
  |_=>exact aY
def Idle.ro(rows:T5):Idle (.sl .ro rows):=Idle.sl fun _ _ h=>by cases h
def Idle.nil(rows:T5):Idle (.sl .nil rows):=Idle.sl fun _ _ h=>by cases h
def Idle.full(rows:T5):Idle (.sl .full rows):=Idle.sl fun _ _ h=>by cases h
def YY(cells:P2):Prop:=(∀c∈cells,Idle c/\Qx c=true)\/∃kn kvs,cells=[.aJ kn kvs]/\∀p∈kvs,Idle p.2
def Idle.rep{a:AV}(h:Idle a){v:Value}(hr:aA w' γ' a v):aA w' (γ.only γ') a v:=aA.gm (γ:=γ.only γ') (h w' γ' v hr)
def au.only{m m1:AM}{ex:T5}(hm:au N w0 an γ w m.B m.L)(fG:au N w0 an γ' w' ({m1 with boxes:=m1.boxes++ex}:AM).B m1.L)(e:ey w γ w' γ')
  (aH:m1.boxes.length=m.boxes.length)(hL:m1.lens=m.lens)(hk:∀(id:Nat)(cells:P2),m1.boxes[id]?=some cells->m.boxes[id]?=some cells\/YY cells):au N w0 an (γ.only γ') w' m1.B m1.L:=by
 have hB:∀{id:Nat}{cells:P2},m1.B id=some cells->({m1 with boxes:=m1.boxes++ex}:AM).B id=some cells:=fun{id cells}h=>by
  simp only[AM.B]at h |-
  rw[zzak (zza.1 h).1];exact h
 have hB1:∀{id:Nat}{cells:P2},m.B id=some cells->∃nT,m1.B id=some nT:=fun{id cells}h=>by
  have:=(zza.1 h).1;exact⟨_,zzaf zE⟩
 have qb:∀{id:Nat},(γ.β id).isSome->∃b cells nT,γ.β id=some b/\γ'.β id=some b/\m.B id=some cells/\m1.B id=some nT:=fun{id}h=>by
  obtain⟨b,hb⟩:=zzby.1 h;obtain⟨_,_,_,_,c,hc⟩:=hm.β id b hb;obtain⟨c1,fA⟩:=hB1 hc;exact⟨b,c,c1,hb,e.β id b hb,hc,fA⟩
 refine⟨w0.st _ _ _ _ fG.bs ⟨rfl,rfl,rfl,zzab _,fun _ _ _=>rfl,fun _ _ _ h=>⟨h,rfl⟩,fun b hb=>.inl ?_,fun _ _ h=>.inl h⟩,fG.hN,fG.an,fG.robd,fun id cells b hb h1=>?_,fun id b hb=>?_,fun i i' b h h'=>?_,fG.own,fG.oinj,fun b hb=>?_,fun id b hb=>?_,fun i i' b h h'=>?_,fG.len,fG.cur0⟩
 ·obtain⟨i,hi⟩|hb|hb|⟨i,hi⟩:=hb
  ·exact .inl ⟨i,(Yv hi).2⟩
  ·exact .inr (.inl hb)
  ·exact .inr (.inr (.inl hb))
  exact .inr (.inr (.inr ⟨i,(Qat hi).2⟩))
 ·obtain⟨h2,h3⟩:=Yv h1;obtain⟨b0,c0,_,g1,g2,g3,_⟩:=qb h2;rw[h3]at g2;cases g2;obtain⟨arr,e',q1,q2,q3⟩:=fG.box id cells b (hB hb) h3;refine⟨arr,e',q1,⟨q2.1,fun i c v hi hv=>?_⟩,q3⟩;rcases hk id cells hb with hk|hk|⟨kn,kvs,rfl,_⟩
  ·obtain⟨dY,_,_,k2,_⟩:=hm.box id cells b hk g1
   have ah:i<dY.size:=by
    have h5:=(zza.1 hi).1;have h6:=k2.1;simp at h6;omega
   exact(q2.2 i c v hi hv).only (k2.2 i c dY[i] hi (by simp[ah]))
  ·exact(hk c (zzad hi)).1.rep (q2.2 i c v hi hv)
  have:=q2.2 i c v hi hv;cases i with
  |zero=>cases hi;cases this
  |succ i=>cases hi
 ·obtain⟨h2,h3⟩:=Yv hb;obtain⟨b0,c0,c1,_,_,_,g4⟩:=qb h2;obtain⟨q1,q2,q3,q4,_⟩:=fG.β id b h3;exact⟨q1,q2,q3,q4,c1,g4⟩
 ·obtain⟨h2,h3⟩:=Yv h;obtain⟨h4,h5⟩:=Yv h';obtain⟨_,_,c,_,_,_,g3⟩:=qb h2;obtain⟨_,_,c',_,_,_,g3'⟩:=qb h4;have:=fG.inj i i' b h3 h5;rw[hB g3,hB g3']at this;rw[g3,g3'];exact this
 ·obtain⟨q1,q2,q3,q4,q5⟩:=fG.sp b hb;exact⟨q1,q2,q3,fun i hi=>q4 i (Yv hi).2,q5⟩
 ·obtain⟨h2,h3⟩:=Qat hb;obtain⟨b0,dZ⟩:=zzby.1 h2;obtain⟨q1,q2,q3,q4,q5,q6,q8,x,o,q7,q9,q10⟩:=fG.mm id b h3;obtain⟨_,_,_,_,_,_,_,x0,o0,k7,k9,k10⟩:=hm.mm id b0 dZ;obtain⟨c1,fA⟩:=hB1 k7;have hx:c1=[x]:=by rw[hB fA]at q7;cases q7;rfl
  subst hx;refine⟨q1,q2,q3,fun i hi=>q4 i (Yv hi).2,q5,q6,by simp[G.only,q8],x,o,fA,q9,?_⟩;rcases hk id [x] fA with hk|hk|⟨kn,kvs,hx,hk⟩
  ·have:x=x0:=by
    have k7':m.boxes[id]?=some [x0]:=k7;rw[hk]at k7';cases k7';rfl
   subst this;exact q10.only k10
  ·have:=(hk x zd).2;cases x<;>cases o<;>first|exact q10.elim|(simp[Qx]at this)
  cases hx;cases o<;>try exact q10.elim
  obtain⟨h4,h5,h6⟩:=q10;refine⟨h4,h5,fun i k a e s1 s2=>?_⟩;obtain⟨p1,p2,p3,p4⟩:=h6 i k a e s1 s2;exact⟨p1,p2,p3,(hk (k,a) (zzad s1)).rep p4⟩
 exact fG.minj i i' b (Qat h).2 (Qat h').2
def ey.only(e:ey w γ w' γ'):ey w γ w' (γ.only γ'):=
 ⟨e.size,e.ro,fun id b h=>Eb h (e.β id b h),e.cur,fun id b h=>kU h (e.mm id b h),e.lp,e.own,e.sp,e.ss⟩
def aB.forget{f:FuncId}{as':P2}{m:AM}{K:So}
  (
   h:aB P gl Y f as' m fun r m'=>∃m1 ex,m'={m1 with boxes:=m1.boxes++ex}/\m1.boxes.length=m.boxes.length/\m1.lens=m.lens/\
   (∀(id:Nat)(cells:P2),m1.boxes[id]?=some cells->m.boxes[id]?=some cells\/YY cells)/\Idle r/\K r m1):aB P gl Y f as' m K:=by
 refine⟨h.1,fun N w0 an γ w vs hm hl hg hy hr=>CallsIn.mono (h.2 N w0 an γ w vs hm hl hg hy hr) ?_⟩;rintro en w' ⟨v,γ',r,m',rfl,g1,g2,g3,g4,m1,ex,rfl,g5,g6,g7,g8,g9⟩;exact⟨v,γ.only γ',r,m1,rfl,g1.only,hm.only g2 g1 g5 g6 g7,g3,g8.rep g4,g9⟩
def aB.read{f:FuncId}{as':P2}{m:AM}{K:AV->Prop}(h:aB P gl Y f as' m fun r m'=>∃ex,m'={m with boxes:=m.boxes++ex}/\Idle r/\K r):aB P gl Y f as' m fun r m'=>m'=m/\K r:=by
 refine aB.forget ⟨h.1,fun N w0 an γ w vs hm hl hg hy hr=>CallsIn.mono (h.2 N w0 an γ w vs hm hl hg hy hr) ?_⟩;rintro en w' ⟨v,γ',r,m',rfl,g1,g2,g3,g4,ex,rfl,g5,g6⟩;exact⟨v,γ',r,_,rfl,g1,g2,g3,g4,m,ex,rfl,rfl,rfl,fun _ _ h=>.inl h,g5,rfl,g6⟩
end
def G.ajP(γ:G):G:={γ with own:=fun _=>none,cur:=fun _=>0}
def G.cW(n:Nat)(γ γ':G):G:={γ.only γ' with own:=fun i=>if i<n then γ'.own i else none,cur:=fun i=>if i<n then γ'.cur i else 0}
def ck(a:AV):Prop:=∀(w:World)(γ:G)(v:Value),aA w γ a v->aA w γ.ajP a v
def ck.bool(b:Bool):ck (.bool b):=fun w γ v h=>by rw[h.bw];exact .bool b
def ck.int(k:IntKind)(n:Int):ck (.int k n):=fun w γ v h=>by rw[h.aI];exact .int k n
def ck.str(s:ByteArray):ck (.str s):=fun w γ v h=>by rw[h.cp];exact .str s
def ck.aJ(kn:Nat)(kvs:List (Pi×AV)):ck (.aJ kn kvs):=fun w γ v h=>by cases h
def ck.mp(id:Nat):ck (.mp id):=fun w γ v h=>by cases h with|mp h=>exact .mp h
def ck.sl{rt:Rt}{rows:T5}(h:∀i s,rt≠.own i s):ck (.sl rt rows):=fun w γ v k=>by
 cases k with
 |sl b off sz cv hcap hnil ha hsz hc hr aY=>
  refine .sl b off sz cv hcap hnil ha hsz hc hr ?_;cases rt with
  |own i s=>exact absurd rfl (h i s)
  |_=>exact aY
def LB(cells:P2):Prop:=∀c∈cells,ck c/\∀kn kvs,c=.aJ kn kvs->∀p∈kvs,ck p.2
def Kept(bs:T5)(id:Nat)(cc cells:P2):Prop:=
 (cc=cells/\bs[id]?=some cells/\LB cells)\/(cc=cells/\∀c∈cells,Idle c/\Qx c=true)\/
 ∃(kn:Nat)(Mu kvs:List (Pi×AV)),cc=[.aJ kn Mu]/\cells=[.aJ kn kvs]/\Mu.length=kvs.length/\(∀p∈kvs,Idle p.2)/\∀(i:Nat)(k:Pi)(a:AV)(k':Pi)(a':AV),Mu[i]?=some (k',a')->kvs[i]?=some (k,a)->k'=k/\Wk a' a
def Kept.empty{bs:T5}{id:Nat}{cc cells:P2}(h:Kept bs id cc cells)(h':cc=[]):cells=[]:=by
 obtain⟨rfl,_⟩|⟨rfl,_⟩|⟨kn,Mu,kvs,rfl,rfl,_⟩:=h
 ·exact h'
 ·exact h'
 cases h'
section
variable {N:Nat} {w0:eO} {an:Nat->Nat->Prop} {γ γ':G} {w w':World} {P:Program} {gl:Nat->AV} {Y:YT}
def Sm(n:Nat):Nq w' (γ.only γ'.ajP) w' (γ.cW n γ'):=
 ⟨zzab _,fun _ _ _ h=>⟨h,rfl⟩,fun _ _ h=>h,fun _=>zzbv _,fun _ _ h=>h,fun _ _ h=>h,fun _ _ _ h=>(by cases h),Sz.refl w'⟩
def aA.cW{a:AV}{v v0:Value}(n:Nat)(h:aA w' γ' a v)(no:ck a)(h0:aA w γ a v0):aA w' (γ.cW n γ') a v:=
 ((no _ _ _ h).only (γ:=γ) h0).eN (Sm n)
def Idle.auG{a:AV}(n:Nat)(h:Idle a){v:Value}(hr:aA w' γ' a v):aA w' (γ.cW n γ') a v:=aA.gm (γ:=γ.cW n γ') (h w' γ' v hr)
def cI.cW{x:AV}{o o0:Obj}(n:Nat)(h:cI w' γ' x o)(h0:cI w γ x o0)(no:∀kn kvs,x=.aJ kn kvs->∀p∈kvs,ck p.2):cI w' (γ.cW n γ') x o:=by
 unfold cI at h;split at h
 ·rename_i kn kvs es clock;cases o0<;>try exact h0.elim
  rename_i es0 an9;obtain⟨h1,h2,h3⟩:=h;obtain⟨k1,k2,k3⟩:=h0;refine⟨h1,h2,fun i k a e q1 q2=>?_⟩;obtain⟨p1,p2,p3,p4⟩:=h3 i k a e q1 q2;have hi:i<es0.size:=by have:=(zza.1 q1).1;omega
  exact⟨p1,p2,p3,p4.cW n (no kn kvs rfl (k,a) (zzad q1)) (k3 i k a es0[i] q1 (by simp[hi])).2.2.2⟩
 ·rename_i mid n' seen mb Nr sn st;cases o0<;>try exact h0.elim
  rename_i mp0 s0 a0 b0;cases mp0<;>try exact h0.elim
  exact⟨kU h0.1 h.1,h.2⟩
 exact h.elim
def au.cW{m m1:AM}{mx ex:T5}{exl:Pa}(hm:au N w0 an γ w m.B m.L)(fG:au N w0 an γ' w' (fun i=>(mx++ex)[i]?) (fun i=>(m.lens++exl)[i]?))(e:ey w γ w' γ')
  (aH:m1.boxes.length=m.boxes.length)(hmx:mx.length=m.boxes.length)(hL:m1.lens=m.lens)
  (hk:∀(id:Nat)(cells cc:P2),m1.boxes[id]?=some cells->mx[id]?=some cc->Kept m.boxes id cc cells):
  au N w0 an (γ.cW m.lens.length γ') w' m1.B m1.L:=by
 have hB:∀{id:Nat}{cells:P2},m1.B id=some cells->∃cc,mx[id]?=some cc/\(mx++ex)[id]?=some cc:=fun{id cells}h=>by
  have h':id<m1.boxes.length:=(zza.1 h).1;have h2:id<mx.length:=zE
  exact⟨mx[id],by simp[h2],by rw[zzak h2];simp[h2]⟩
 have hB1:∀{id:Nat}{cells:P2},m.B id=some cells->∃nT,m1.B id=some nT:=fun{id cells}h=>by
  have:=(zza.1 h).1;exact⟨_,zzaf zE⟩
 have qb:∀{id:Nat},(γ.β id).isSome->∃b cells nT,γ.β id=some b/\γ'.β id=some b/\m.B id=some cells/\m1.B id=some nT:=fun{id}h=>by
  obtain⟨b,hb⟩:=zzby.1 h;obtain⟨_,_,_,_,c,hc⟩:=hm.β id b hb;obtain⟨c1,fA⟩:=hB1 hc;exact⟨b,c,c1,hb,e.β id b hb,hc,fA⟩
 have yY:∀{id b:Nat},(γ.cW m.lens.length γ').own id=some b->id<m.lens.length/\γ'.own id=some b:=fun{id b}h=>by
  have h:(if id<m.lens.length then γ'.own id else none)=some b:=h;split at h
  ·exact⟨by assumption,h⟩
  cases h
 refine⟨w0.st _ _ _ _ fG.bs ⟨rfl,rfl,rfl,zzab _,fun _ _ _=>rfl,fun _ _ _ h=>⟨h,rfl⟩,fun b hb=>.inl ?_,fun _ _ h=>.inl h⟩,fG.hN,fG.an,fG.robd,fun id cells b hb h1=>?_,fun id b hb=>?_,fun i i' b h h'=>?_,fun id b hb=>?_,fun i i' b h h'=>fG.oinj i i' b (yY h).2 (yY h').2,fun b hb=>?_,fun id b hb=>?_,fun i i' b h h'=>?_,fun id n hn=>?_,fun id hn=>?_⟩
 ·obtain⟨i,hi⟩|⟨i,hi⟩|hb|⟨i,hi⟩:=hb
  ·exact .inl ⟨i,(Yv hi).2⟩
  ·exact .inr (.inl ⟨i,(yY hi).2⟩)
  ·exact .inr (.inr (.inl hb))
  exact .inr (.inr (.inr ⟨i,(Qat hi).2⟩))
 ·obtain⟨h2,h3⟩:=Yv h1;obtain⟨b0,c0,_,g1,g2,g3,_⟩:=qb h2;rw[h3]at g2;cases g2;obtain⟨cc,fA,Ct⟩:=hB hb;obtain⟨arr,e',q1,q2,q3⟩:=fG.box id cc b Ct h3;rcases hk id cells cc hb fA with⟨rfl,hk,no⟩|⟨rfl,aK⟩|⟨kn,Mu,kvs,rfl,rfl,_⟩
  ·refine⟨arr,e',q1,⟨q2.1,fun i c v hi hv=>?_⟩,q3⟩;obtain⟨dY,_,_,k2,_⟩:=hm.box id cc b hk g1
   have ah:i<dY.size:=by
    have h5:=(zza.1 hi).1;have h6:=k2.1;simp at h6;omega
   exact(q2.2 i c v hi hv).cW _ (no c (zzad hi)).1 (k2.2 i c dY[i] hi (by simp[ah]))
  ·exact⟨arr,e',q1,⟨q2.1,fun i c v hi hv=>(aK c (zzad hi)).1.auG _ (q2.2 i c v hi hv)⟩,q3⟩
  refine⟨arr,e',q1,⟨Nm q2.1,fun i c v hi hv=>?_⟩,q3⟩;cases i with
  |zero=>have:=q2.2 0 _ v rfl hv;cases this
  |succ i=>cases hi
 ·obtain⟨h2,h3⟩:=Yv hb;obtain⟨b0,c0,c1,_,_,_,g4⟩:=qb h2;obtain⟨q1,q2,q3,q4,_⟩:=fG.β id b h3;exact⟨q1,q2,q3,fun id' h=>q4 id' (yY h).2,c1,g4⟩
 ·obtain⟨h2,h3⟩:=Yv h;obtain⟨h4,h5⟩:=Yv h';obtain⟨_,_,c,_,_,_,g3⟩:=qb h2;obtain⟨_,_,c',_,_,_,g3'⟩:=qb h4;obtain⟨d,d1,d2⟩:=hB g3;obtain⟨d',d1',d2'⟩:=hB g3';have:=fG.inj i i' b h3 h5;simp only[d2,d2']at this
  have em:∀{id:Nat}{c d:P2},m1.B id=some c->mx[id]?=some d->d=[]->c=[]:=fun{id c d}h1 h2 h3=>by
   exact(hk id c d h1 h2).empty h3
  obtain h|h|h:=this
  ·exact .inl (by rw[g3,em g3 d1 (Nm h)])
  ·exact .inr (.inl (by rw[g3',em g3' d1' (Nm h)]))
  exact .inr (.inr h)
 ·obtain⟨h1,h2⟩:=yY hb;obtain⟨q1,q2,_⟩:=fG.own id b h2;refine⟨q1,q2,m.lens[id],?_⟩;simp only[AM.L,hL];exact zzaf h1
 ·obtain⟨q1,q2,q3,q4,q5⟩:=fG.sp b hb;exact⟨q1,q2,q3,fun i hi=>q4 i (Yv hi).2,fun i hi=>q5 i (yY hi).2⟩
 ·obtain⟨h2,h3⟩:=Qat hb;obtain⟨b0,dZ⟩:=zzby.1 h2;obtain⟨q1,q2,q3,q4,q5,q6,q8,x,o,q7,q9,q10⟩:=fG.mm id b h3;obtain⟨_,_,_,_,_,_,_,x0,o0,k7,k9,k10⟩:=hm.mm id b0 dZ;obtain⟨c1,fA⟩:=hB1 k7;obtain⟨cc,d1,d2⟩:=hB fA;have hx:cc=[x]:=by rw[d2]at q7;cases q7;rfl
  subst hx
  have hβ:(γ.cW m.lens.length γ').β id=none:=by
   show(if(γ.β id).isSome then γ'.β id else none)=none;rw[q8];split<;>rfl
  refine⟨q1,q2,q3,fun i hi=>q4 i (Yv hi).2,fun i hi=>q5 i (yY hi).2,q6,hβ,?_⟩;rcases hk id c1 [x] fA d1 with⟨rfl,hk,no⟩|⟨rfl,aK⟩|⟨kn,Mu,kvs,h1,rfl,h4,aK,h5⟩
  ·refine⟨x,o,fA,q9,?_⟩
   have:x=x0:=by
    have k7':m.boxes[id]?=some [x0]:=k7;rw[hk]at k7';cases k7';rfl
   subst this;exact q10.cW _ k10 (no x zd).2
  ·have:=(aK x zd).2;cases x<;>cases o<;>first|exact q10.elim|(simp[Qx]at this)
  cases h1;cases o<;>try exact q10.elim
  obtain⟨g4,g5,g6⟩:=q10;refine⟨_,_,fA,q9,g4,zE,fun i k a e s1 s2=>?_⟩;have c9:=(zza.1 s1).1;obtain⟨k',a',uh⟩:∃k' a',Mu[i]?=some (k',a'):=⟨_,_,zzaf zE⟩;obtain⟨p1,p2,p3,p4⟩:=g6 i k' a' e uh s2;obtain⟨rfl,r2⟩:=h5 i k a k' a' uh s1;exact⟨p1,p2,p3,(aK _ (zzad s1)).auG _ (r2 _ _ _ p4)⟩
 ·exact fG.minj i i' b (Qat h).2 (Qat h').2
 ·have hn:m.lens[id]?=some n:=by rw[<- hL];exact hn
  have ah:=(zza.1 hn).1;have:=fG.len id n (by show(m.lens++exl)[id]?=some n;rw[zzak ah];exact hn);show(if id<m.lens.length then γ'.cur id else 0)=n;rw[ac ah];exact this
 have hn:m.lens[id]?=none:=by rw[<- hL];exact hn
 have bu:=zzgu.1 hn;show(if id<m.lens.length then γ'.cur id else 0)=0;rw[ab zE]
def ey.cW{m:AM}(hm:au N w0 an γ w m.B m.L)(e:ey w γ w' γ'):ey w γ w' (γ.cW m.lens.length γ'):=by
 have ho:∀id b,γ.own id=some b->id<m.lens.length:=fun id b h=>by
  obtain⟨_,_,n,hn⟩:=hm.own id b h;exact(zza.1 hn).1
 have hc:∀id,¬id<m.lens.length->γ.cur id=0:=fun id h=>hm.cur0 id (zzgu.2 zE);refine⟨e.size,e.ro,fun id b h=>Eb h (e.β id b h),fun id=>?_,fun id b h=>kU h (e.mm id b h),e.lp,fun id b h1 h2=>?_,e.sp,e.ss⟩
 ·show γ.cur id<=if id<m.lens.length then γ'.cur id else 0;split
  ·exact e.cur id
  rename_i h;rw[hc id h];exact zzab _
 have ah:=ho id b h2;have h1:(if id<m.lens.length then γ'.cur id else 0)=γ.cur id:=h1;rw[ac ah]at h1;obtain⟨a1,a2,a3⟩:=e.own id b h1 h2;refine⟨?_,a2,a3⟩;show(if id<m.lens.length then γ'.own id else none)=some b;rw[ac ah];exact a1
def aB.mono{f:FuncId}{as':P2}{m:AM}{K K':So}(h:aB P gl Y f as' m K)(hk:∀r m',K r m'->K' r m'):aB P gl Y f as' m K':=by
 refine⟨h.1,fun N w0 an γ w vs hm hl hg hy hr=>CallsIn.mono (h.2 N w0 an γ w vs hm hl hg hy hr) ?_⟩;rintro en w' ⟨v,γ',r,m',g0,g1,g2,g3,g4,g5⟩;exact⟨v,γ',r,m',g0,g1,g2,g3,g4,hk _ _ g5⟩
end
end Go.Abs
namespace Go.Proofs.YthjppoincojfkaaGreatDoor
noncomputable section
open Go Go.RowKit Go.Lib
def yZ(b:Nat)(w:World)(h0:w.cell? ⟨b,0,none⟩=some (.pointer (some ⟨b,0,none⟩))):
  Calls Tryz.prog 125 #[.pointer (some ⟨b,0,none⟩)] w fun e w'=>e=.returned (.tuple #[])/\w'=w:=by
 obtain⟨j,hj,lN⟩:∃j,Tryz.prog.info? 142=some j/\j.size=2:=⟨_,rfl,rfl⟩;have mixed:Tryz.prog.follows Departure.mixedOrders=true:=by kernel_rfl
 go_enter Tryz.func125,Tryz.ntmps125
 go_wp2
 rw[Lib.run_neq_ptr_same w _ Tryz.underlying139 hj]
 go_wp2
 go_end0
 exact⟨rfl,rfl⟩
def ue(b:Nat)(w:World)(h0:w.cell? ⟨b,0,none⟩=some (.pointer none))(fC:w.shape? b=some (142,2))(hfz:w.frozen? ⟨b,0,none⟩=false):
  Calls Tryz.prog 125 #[.pointer (some ⟨b,0,none⟩)] w fun e w'=>e=.returned (.tuple #[])/\w'=w.setCell ⟨b,0,none⟩ (.pointer (some ⟨b,0,none⟩)):=by
 obtain⟨j,hj,lN⟩:∃j,Tryz.prog.info? 142=some j/\j.size=2:=⟨_,rfl,rfl⟩;have ayU:liesAt Tryz.prog Tryz.prog.depth 142 (2/Tryz.prog.cellsOf 142) 0 142 1=true:=by kernel_rfl
 have mixed:Tryz.prog.follows Departure.mixedOrders=true:=by kernel_rfl
 go_enter Tryz.func125,Tryz.ntmps125
 go_wp2
 rw[Lib.run_to_unsafe w ⟨b,0,none⟩ Tryz.underlying139 Tryz.underlying269 hj (by rw[lN];decide) fC (Nat.zero_lt_succ 1)];simp only[Result.andThen];rw[Oper.upon_value]
 go_wp2
 rw[run_callFunc_extern Tryz.func181 (by kernel_rfl) (by kernel_rfl) (by kernel_rfl) (e:=Extern.AbiNoEscape.same) (by kernel_rfl)];rw[Lib.run_noEscape];simp only[Result.andThen];rw[Oper.upon_value]
 go_wp2
 rw[Lib.run_from_unsafe w ⟨b,0,none⟩ Tryz.underlying269 Tryz.underlying139 hj fC ayU];simp only[Result.andThen];rw[Oper.upon_value]
 go_wp2
 go_end0
 exact⟨rfl,rfl⟩
def abo(b:Nat)(v:Value)(w w':World):Prop:=∀k,k<w.heap.size->k≠b->v.ownBlock≠some k->w'.heap[k]?=w.heap[k]?
def Ip(B b:Nat)(bs:List Value)(s:ByteArray)(p v:Value)(w:World)(hp:p=.pointer none\/p=.pointer (some ⟨b,0,none⟩))(hBb:B<=b)(Mv:w.heap[b]?=some (.cells #[p,v] 142 (0,0)))(ajQ:w.ownsRow B 5 1 v bs.length bs)(kV:v.ownBlock≠some b)
  (aH:bs.length+s.size<=1000000)(hBw:B<=w.heap.size):
  Calls Tryz.prog 70 #[.pointer (some ⟨b,0,none⟩),.string s] w fun e w'=>e=.returned (.tuple #[.int .i64 s.size,.nilIface])/\
   ∃v',w'.heap[b]?=some (.cells #[.pointer (some ⟨b,0,none⟩),v'] 142 (0,0))/\w'.ownsRow B 5 1 v' (bs++Lib.strCells s).length (bs++Lib.strCells s)/\v'.ownBlock≠some b/\Below B w w'/\abo b v w w':=by
 obtain⟨i0,hi,hz0,hz1,hz2⟩:=info_parts (P:=Tryz.prog) (e:=5) (z:=.int .u8 0) (size:=1) (bytes:=1) (by rfl);have mixed:Tryz.prog.follows Departure.mixedOrders=true:=by kernel_rfl
 have auH:b<w.heap.size:=by
  rcases zzaa b w.heap.size with h'|h'
  ·exact h'
  simp[zzbq h']at Mv
 have cC:Calls Tryz.prog 125 #[.pointer (some ⟨b,0,none⟩)] w fun e w'=>e=.returned (.tuple #[])/\w'.heap[b]?=some (.cells #[.pointer (some ⟨b,0,none⟩),v] 142 (0,0))/\w'.ownsRow B 5 1 v bs.length bs/\w'.heap.size=w.heap.size/\Below B w w'/\∀k,k≠b->w'.heap[k]?=w.heap[k]?:=by
  obtain rfl|rfl:=hp
  ·refine(ue b w (by rw[Lib.cell_of_heap Mv];rfl) (by simp[World.shape?,Mv]) (Lib.frozen_of_heap Mv 0)).mono ?_;rintro e w' ⟨rfl,rfl⟩;refine⟨rfl,by simp[World.setCell,zzdq,Mv],?_,by simp[World.setCell],(Below.refl B w).setCell (p:=⟨b,0,none⟩) hBb _,fun k hk=>Below.heap_setCell _ _ _ _ hk⟩;exact ajQ.kept (row:=some b) ⟨rfl,rfl,rfl,by simp[World.setCell],fun k _ hk=>Below.heap_setCell _ _ _ _ (fun e=>hk (by simp[e]))⟩ (Or.inr kV)
  refine(yZ b w (by rw[Lib.cell_of_heap Mv];rfl)).mono ?_;rintro e w' ⟨rfl,rfl⟩;exact⟨rfl,Mv,ajQ,rfl,Below.refl B _,fun _ _=>rfl⟩
 have e94:∀args w,(callFunc 125 args).run Tryz.prog w=.ok (.enter 125 args) w:=enters_of Tryz.func125 (by kernel_rfl) rfl
 go_enter Tryz.func70,Tryz.ntmps70
 go_wp2_with (go_at_fn 125;refine cC.mono ?_)
 rintro e w1 ⟨rfl,uv,cr,hsz,dx,WG⟩;have c0:w1.cell? ⟨b,0,none⟩=some (.pointer (some ⟨b,0,none⟩)):=by rw[Lib.cell_of_heap uv];rfl
 have c1:w1.cell? ⟨b,1,none⟩=some v:=by rw[Lib.cell_of_heap uv];rfl
 go_wp2_with (at_builtin;refine Lib.wpList_append_own_string _ rfl _ _ 140 9 rfl B 5 i0 Tryz.underlying140 Tryz.underlying9 hi hz0 hz1 hz2 _ _ _ rfl cr s rfl ?c3 ?c4 ?c5 ?_)
 case c3=>unfold maxLen;omega
 case c4=>omega
 case c5=>rw[hsz];exact hBw
 intro v' w2 abp Iq _;have ah:b<w1.heap.size:=zE
 have fh:w2.heap[b]?=some (.cells #[.pointer (some ⟨b,0,none⟩),v] 142 (0,0)):=by
  rw[Iq.block b ah (fun e=>kV e.symm)];exact uv
 have d0:w2.cell? ⟨b,0,none⟩=some (.pointer (some ⟨b,0,none⟩)):=by rw[Lib.cell_of_heap fh];rfl
 have d1:w2.cell? ⟨b,1,none⟩=some v:=by rw[Lib.cell_of_heap fh];rfl
 have f1:w2.frozen? ⟨b,1,none⟩=false:=Lib.frozen_of_heap fh 1
 obtain⟨ao,n',cap,rfl⟩:∃ao n' cap,v'=.slice ao n' cap:=by
  rcases abp.2 with⟨hv,_⟩|⟨g,cap,cur,hv,_⟩
  ·exact⟨_,_,_,hv⟩
  exact⟨_,_,_,hv⟩
 go_wp2
 go_ret2
 have fI:=Lib.ownBlock_ne abp fh (by decide);refine⟨rfl,.slice ao n' cap,by simp[World.setCell,zzdq,fh],?_,fI,?_,fun k hk hkb Sw=>?_⟩
 ·have:=abp.kept (w':=w2.setCell ⟨b,1,none⟩ (.slice ao n' cap)) (row:=some b) ⟨rfl,rfl,rfl,by simp[World.setCell],fun k _ hk=>Below.heap_setCell _ _ _ _ (fun e=>hk (by simp[e]))⟩ (Or.inr fI);simpa[Lib.strCells_length]using this
 ·exact(dx.grown Iq zE (fun k hk=>(cr.lt k hk).1)).setCell (p:=⟨b,1,none⟩) hBb _
 exact(Below.heap_setCell _ _ _ _ hkb).trans ((Iq.block k zE (fun e=>Sw e.symm)).trans (WG k hkb))
def Bld(B b:Nat)(bs:List Value)(v:Value)(w:World):Prop:=∃p,(p=.pointer none\/p=.pointer (some ⟨b,0,none⟩))/\B<=b/\w.heap[b]?=some (.cells #[p,v] 142 (0,0))/\w.ownsRow B 5 1 v bs.length bs/\v.ownBlock≠some b
def BP(B b:Nat)(bs:List Value)(v:Value)(n:Int)(s:ByteArray)(w:World)(h:Bld B b bs v w)(hB:B<=w.heap.size)(aH:bs.length+s.size<=1000000)
  (h37:∀w:World,Calls Tryz.prog 69 #[.int .i64 n] w fun e w'=>e=.returned (.tuple #[.string s,.int .i64 0])/\Below w.heap.size w w'):
  Calls Tryz.prog 68 #[.int .i64 n,.pointer (some ⟨b,0,none⟩)] w fun e w'=>e=.returned (.tuple #[])/\∃v',Bld B b (bs++Lib.strCells s) v' w'/\Below B w w'/\abo b v w w':=by
 have mixed:Tryz.prog.follows Departure.mixedOrders=true:=by kernel_rfl
 have e37:∀args w,(callFunc 69 args).run Tryz.prog w=.ok (.enter 69 args) w:=enters_of Tryz.func69 (by kernel_rfl) rfl;have e38:∀args w,(callFunc 70 args).run Tryz.prog w=.ok (.enter 70 args) w:=enters_of Tryz.func70 (by kernel_rfl) rfl;obtain⟨p,hp,hBb,uv,cr,aO⟩:=h
 go_enter Tryz.func68,Tryz.ntmps68
 go_wp2_with (go_at_fn 69;refine(h37 _).mono ?_)
 rintro e w1 ⟨rfl,dx⟩
 have ah:b<w.heap.size:=by
  rcases zzaa b w.heap.size with h'|h'
  ·exact h'
  simp[zzbq h']at uv
 have ayV:w1.heap[b]?=some (.cells #[p,v] 142 (0,0)):=by rw[dx.block b ah];exact uv
 have auI:w1.ownsRow B 5 1 v bs.length bs:=cr.kept (row:=none) ⟨dx.os,dx.tape,dx.output,dx.size,fun k hk _=>dx.block k hk⟩ (by cases h:v.ownBlock with|none=>exact .inl rfl|some k=>exact .inr zd)
 go_wp2_with (go_at_fn 70;refine(Ip B b bs s p v w1 hp hBb ayV auI aO aH (by have:=dx.size;omega)).mono ?_)
 rintro e w2 ⟨rfl,v',g1,g2,g3,g4,g5⟩
 go_wp2
 go_end0
 refine⟨rfl,v',⟨_,.inr rfl,hBb,g1,g2,g3⟩,?_,fun k hk hkb Sw=>?_⟩
 ·exact Below.trans ⟨dx.os,dx.tape,dx.output,dx.size,fun k hk=>dx.block k zE⟩ g4
 exact(g5 k (zzaz hk dx.size) hkb Sw).trans (dx.block k hk)
def Sn(ob:Nat)(arr:Array Value)(w:World)(hb:w.heap[ob]?=some (.cells arr 53 (0,0)))(h3:arr[3]?=some (.int .i64 1))(hs:26<=arr.size):
  Calls Tryz.prog 71 #[.pointer (some ⟨ob,0,none⟩)] w fun e w'=>e=.returned (.slice (some ⟨w.heap.size,0,none⟩) 2 2)/\w'.heap[w.heap.size]?=some (.cells #[.pointer (some ⟨ob,4,none⟩),.pointer (some ⟨ob,5,none⟩)] 152 (0,0))/\Below w.heap.size w w':=by
 have mixed:Tryz.prog.follows Departure.mixedOrders=true:=by kernel_rfl
 have c3:w.cell? ⟨ob,3,none⟩=some (.int .i64 1):=by rw[Lib.cell_of_heap hb];exact h3
 go_enter Tryz.func71,Tryz.ntmps71
 go_wp2
 go_region_o
 go_wp2
 go_ret
 exact⟨rfl,heap_alloc_new w _,((Below.refl _ w).alloc (zzab _) _).drew⟩
def abq(B b:Nat)(l:List UInt8)(v:Value)(w:World)(h:Bld B b (Lib.byteCells l) v w)(h0:l≠[]):
  Calls Tryz.prog 73 #[.pointer (some ⟨b,0,none⟩)] w fun e w'=>e=.returned (.string ⟨l.toArray⟩)/\Below B w w':=by
 have mixed:Tryz.prog.follows Departure.mixedOrders=true:=by kernel_rfl
 obtain⟨p,hp,hBb,uv,cr,aO⟩:=h;have qf:l.length≠0:=by simpa using h0
 rw[Lib.byteCells_length]at cr
 obtain⟨g,cap,cur,rfl,hbg,hg,hnc,hcm,j4,azd⟩:∃g cap cur,v=.slice (some ⟨g,0,none⟩) l.length cap/\B<=g/\w.heap[g]?=some (.cells cur 5 (0,0))/\l.length<=cap/\cap<=maxLen/\cur.size=cap*1/\cur.toList.take (l.length*1)=Lib.byteCells l:=by
  rcases cr.2 with⟨_,hz⟩|⟨g,cap,cur,hv,r⟩
  ·exact absurd hz qf
  exact⟨g,cap,cur,hv,r⟩
 have c1:w.drew.cell? ⟨b,1,none⟩=some (.slice (some ⟨g,0,none⟩) l.length cap):=by
  have:w.drew.heap[b]?=some (.cells #[p,.slice (some ⟨g,0,none⟩) l.length cap] 142 (0,0)):=uv;rw[Lib.cell_of_heap this];rfl
 have hSD:(Builtin.unsafeSliceData_ #[140] 214 #[.slice (some ⟨g,0,none⟩) l.length cap]).run Tryz.prog w.drew=.ok (.pointer (some ⟨g,0,none⟩)) w.drew:=
  Lib.run_unsafeSliceData_row _ _ _ _ _ _ zE
 have hUS:(Builtin.unsafeString_ #[214,3] 9 #[.pointer (some ⟨g,0,none⟩),.int .i64 l.length]).run Tryz.prog w.drew=.ok (.string ⟨l.toArray⟩) (w.drew.freeze ⟨g,0,none⟩ l.length):=by
  refine Lib.run_unsafeString_row w.drew 214 3 9 5 Tryz.underlying214 (by kernel_rfl) g cur.size (by have hg':w.drew.heap[g]?=some (.cells cur 5 (0,0)):=hg;simp[World.shape?,hg']) l h0 zE (by unfold maxLen at hcm;omega) ?_;intro j x hx;have:=cr.cells (g:=g) rfl j (.int .u8 x.toNat) (by simp[Lib.byteCells,hx]);exact this
 go_enter Tryz.func73,Tryz.ntmps73
 go_wp2
 go_region_o
 all_goals(go_wp2;go_ret;exact⟨rfl,Lib.below_freeze (Below.drew (Below.refl B w)) (p:=⟨g,0,none⟩) hbg _⟩)
def s1(b:UInt8):ByteArray:=⟨#[b]⟩
def aoa:Code->Code
 |.seq _ b=>b
 |c=>c
def Kept(b:Nat)(w w':World):Prop:=∀k o ty l,k≠b->ty≠5->w.heap[k]?=some (.cells o ty l)->w'.heap[k]?=some (.cells o ty l)
def Bld.kept{B b:Nat}{bs:List Value}{v:Value}{w w':World}(h:Bld B b bs v w)(hs:abo b v w w'):Kept b w w':=by
 intro k o ty l hk ht hb;obtain⟨p,hp,hBb,uv,cr,aO⟩:=h
 have ah:k<w.heap.size:=by
  rcases zzaa k w.heap.size with h'|h'
  ·exact h'
  simp[zzbq h']at hb
 rw[hs k ah hk (Lib.ownBlock_ne cr hb ht)];exact hb
def Sq(w:World)(o1 o2:Obj):((w.alloc o1).alloc o2).heap.size=w.heap.size+2/\((w.alloc o1).alloc o2).heap[w.heap.size]?=some o1/\((w.alloc o1).alloc o2).heap[w.heap.size+1]?=some o2/\Below w.heap.size w ((w.alloc o1).alloc o2):=by
 have h1:∀(w:World)(o:Obj),(w.alloc o).heap=w.heap.push o:=fun _ _=>rfl;refine⟨by rw[h1,h1];simp,by rw[h1,h1];simp[Array.getElem?_push],by rw[h1,h1,show w.heap.size+1=(w.heap.push o1).size by simp,zzep],((Below.refl _ w).alloc (zzab _) _).alloc (by rw[h1];simp) _⟩
def Pe{w:World}{k:Nat}{o:Obj}(h:w.heap[k]?=some o):k<w.heap.size:=by
 rcases zzaa k w.heap.size with h'|h'
 ·exact h'
 simp[zzbq h']at h
def Bld.mono{B b:Nat}{bs:List Value}{v:Value}{w w':World}(h:Bld B b bs v w)(hb:Below w.heap.size w w'):Bld B b bs v w':=by
 obtain⟨p,hp,hBb,uv,cr,aO⟩:=h;refine⟨p,hp,hBb,by rw[hb.block b (Pe uv)];exact uv,?_,aO⟩;exact cr.kept (row:=none) ⟨hb.os,hb.tape,hb.output,hb.size,fun k hk _=>hb.block k hk⟩ (by cases h:v.ownBlock with|none=>exact .inl rfl|some k=>exact .inr zd)
def Bld.lt{B b:Nat}{bs:List Value}{v:Value}{w:World}(h:Bld B b bs v w):b<w.heap.size:=by
 obtain⟨p,hp,hBb,uv,cr,aO⟩:=h;exact Pe uv
def Mw:Code:=aoa (aoa (Tryz.f32.body.getD .skip))
def Sr(Q:(Exit->Act->World->Prop))(ob:Nat)(arr:Array Value)(x0 x13 x14 x15 x16:Value)(n0 n1 n2 n4 n5:Int)(b0 b1 b2 b3 b4 b5:UInt8)(w:World)(hsz:arr.size=26)
  (a0:arr[0]?=some (.int .i64 n0))(a1:arr[1]?=some (.int .i64 n1))(a2:arr[2]?=some (.int .i64 n2))(a3:arr[3]?=some (.int .i64 1))(a4:arr[4]?=some (.int .i64 n4))(a5:arr[5]?=some (.int .i64 n5))
  (hob:w.heap[ob]?=some (.cells arr 53 (0,0)))
  (p0:∀w:World,Calls Tryz.prog 69 #[.int .i64 n0] w fun e w'=>e=.returned (.tuple #[.string (s1 b0),.int .i64 0])/\Below w.heap.size w w')
  (p1:∀w:World,Calls Tryz.prog 69 #[.int .i64 n1] w fun e w'=>e=.returned (.tuple #[.string (s1 b1),.int .i64 0])/\Below w.heap.size w w')
  (p2:∀w:World,Calls Tryz.prog 69 #[.int .i64 n2] w fun e w'=>e=.returned (.tuple #[.string (s1 b2),.int .i64 0])/\Below w.heap.size w w')
  (p3:∀w:World,Calls Tryz.prog 69 #[.int .i64 1] w fun e w'=>e=.returned (.tuple #[.string (s1 b3),.int .i64 0])/\Below w.heap.size w w')
  (p4:∀w:World,Calls Tryz.prog 69 #[.int .i64 n4] w fun e w'=>e=.returned (.tuple #[.string (s1 b4),.int .i64 0])/\Below w.heap.size w w')
  (p5:∀w:World,Calls Tryz.prog 69 #[.int .i64 n5] w fun e w'=>e=.returned (.tuple #[.string (s1 b5),.int .i64 0])/\Below w.heap.size w w')
  (hQ:∀(tm:Array Value)w',tm.getD 2 undef=.string ⟨#[b0,b1,b2,b3,b4,b5]⟩->tm.getD 3 undef=.int .i64 0->Below w.heap.size w w'->Q .ret ⟨tm,[]⟩ w'):
  Code.wp Tryz.prog Mw Q ⟨#[x0,.pointer (some ⟨ob,0,none⟩),.string ⟨#[]⟩,.int .i64 0,undef,undef,undef,undef,undef,undef,undef,undef,undef,x13,x14,x15,x16,undef,undef,undef,undef,undef,undef,undef,undef,undef,undef,undef,undef,undef,undef,undef,undef,undef,undef,undef,undef,undef,undef,undef,undef,undef,undef,undef,undef,undef,undef,undef,undef,undef,undef,undef,undef,undef,undef,undef,undef,undef,undef,undef,undef,undef,undef,undef,undef,undef,undef,undef,undef,undef,undef,undef,undef,undef,undef,undef,undef,undef,undef,undef,undef,undef,undef,undef,undef,undef,undef],[]⟩ w:=by
 have mixed:Tryz.prog.follows Departure.mixedOrders=true:=by kernel_rfl
 have ah:ob<w.heap.size:=by
  rcases zzaa ob w.heap.size with h'|h'
  ·exact h'
  simp[zzbq h']at hob
 have e36:∀args w,(callFunc 68 args).run Tryz.prog w=.ok (.enter 68 args) w:=enters_of Tryz.func68 (by kernel_rfl) rfl;have e39:∀args w,(callFunc 71 args).run Tryz.prog w=.ok (.enter 71 args) w:=enters_of Tryz.func71 (by kernel_rfl) rfl;have e41:∀args w,(callFunc 73 args).run Tryz.prog w=.ok (.enter 73 args) w:=enters_of Tryz.func73 (by kernel_rfl) rfl;have c0:w.cell? ⟨ob,0,none⟩=some (.int .i64 n0):=by rw[Lib.cell_of_heap hob];exact a0
 have c1:w.cell? ⟨ob,1,none⟩=some (.int .i64 n1):=by rw[Lib.cell_of_heap hob];exact a1
 have c2:w.cell? ⟨ob,2,none⟩=some (.int .i64 n2):=by rw[Lib.cell_of_heap hob];exact a2
 have c3:w.cell? ⟨ob,3,none⟩=some (.int .i64 1):=by rw[Lib.cell_of_heap hob];exact a3
 dsimp only;simp only[Mw,aoa,Tryz.f32,Option.getD]
 go_wp2
 obtain⟨hzW,uv,fU,wN⟩:=Sq w (Obj.cells #[Value.pointer none,Value.slice none 0 0] 142) (Obj.cells #[Value.int IntKind.i64 n0,Value.int IntKind.i64 n1,Value.int IntKind.i64 n2,Value.int IntKind.i64 1] 3);have gF:=(wN.block ob ah).trans hob;clear c0 c1 c2 c3 hob;generalize(w.alloc (Obj.cells #[Value.pointer none,Value.slice none 0 0] 142)).alloc (Obj.cells #[Value.int IntKind.i64 n0,Value.int IntKind.i64 n1,Value.int IntKind.i64 n2,Value.int IntKind.i64 1] 3)=W at*
 generalize w.heap.size=b at*
 have dU:Bld b b [] (.slice none 0 0) W:=⟨.pointer none,.inl rfl,zzab _,uv,World.ownsRow_nil _ _ _ _,by simp[Value.ownBlock]⟩;have Ag:b<=W.heap.size:=zE
 have IA:ob≠b:=zE
 have Sy:b+1≠b:=zE
 clear ah uv hzW;have d:W.cell? ⟨b+1,0,none⟩=some (.int .i64 n0):=by rw[Lib.cell_of_heap fU];rfl
 refine wp_loop_rounds 5 ?_;rw[rounds_succ]
 go_wp2_with (go_at_fn 68;refine(BP b b _ _ _ _ _ dU Ag (by simp[s1,Lib.strCells,ByteArray.size]) p0).mono ?_)
 rintro e W0 ⟨rfl,v',hbd',eP,dz⟩;have hk:=dU.kept dz;replace wN:=wN.trans eP;replace gF:=hk _ _ _ _ IA (by decide) gF;replace fU:=hk _ _ _ _ Sy (by decide) fU;replace Ag:b<=W0.heap.size:=zzbb Ag eP.size;replace dU:=hbd';clear hk d dz eP hbd';have d:W0.cell? ⟨b+1,1,none⟩=some (.int .i64 n1):=by rw[Lib.cell_of_heap fU];rfl
 go_wp2
 rw[rounds_succ]
 go_wp2_with (go_at_fn 68;refine(BP b b _ _ _ _ _ dU Ag (by simp[s1,Lib.strCells,ByteArray.size]) p1).mono ?_)
 rintro e W1 ⟨rfl,v',hbd',eP,dz⟩;have hk:=dU.kept dz;replace wN:=wN.trans eP;replace gF:=hk _ _ _ _ IA (by decide) gF;replace fU:=hk _ _ _ _ Sy (by decide) fU;replace Ag:b<=W1.heap.size:=zzbb Ag eP.size;replace dU:=hbd';clear hk d dz eP hbd';have d:W1.cell? ⟨b+1,2,none⟩=some (.int .i64 n2):=by rw[Lib.cell_of_heap fU];rfl
 go_wp2
 rw[rounds_succ]
 go_wp2_with (go_at_fn 68;refine(BP b b _ _ _ _ _ dU Ag (by simp[s1,Lib.strCells,ByteArray.size]) p2).mono ?_)
 rintro e W2 ⟨rfl,v',hbd',eP,dz⟩;have hk:=dU.kept dz;replace wN:=wN.trans eP;replace gF:=hk _ _ _ _ IA (by decide) gF;replace fU:=hk _ _ _ _ Sy (by decide) fU;replace Ag:b<=W2.heap.size:=zzbb Ag eP.size;replace dU:=hbd';clear hk d dz eP hbd';have d:W2.cell? ⟨b+1,3,none⟩=some (.int .i64 1):=by rw[Lib.cell_of_heap fU];rfl
 go_wp2
 rw[rounds_succ]
 go_wp2_with (go_at_fn 68;refine(BP b b _ _ _ _ _ dU Ag (by simp[s1,Lib.strCells,ByteArray.size]) p3).mono ?_)
 rintro e W3 ⟨rfl,v',hbd',eP,dz⟩;have hk:=dU.kept dz;replace wN:=wN.trans eP;replace gF:=hk _ _ _ _ IA (by decide) gF;replace fU:=hk _ _ _ _ Sy (by decide) fU;replace Ag:b<=W3.heap.size:=zzbb Ag eP.size;replace dU:=hbd';clear hk d dz eP hbd';have d:W3.cell? ⟨b+1,3,none⟩=some (.int .i64 1):=by rw[Lib.cell_of_heap fU];rfl
 go_wp2
 rw[rounds_succ]
 go_wp2_with (go_at_fn 71;refine(Sn ob arr _ gF a3 zE).mono ?_)
 rintro e Y ⟨rfl,hpt,hY⟩;have fT:=dU.lt;replace dU:=dU.mono hY;replace gF:=(hY.block _ (Pe gF)).trans gF;replace wN:=wN.trans (hY.mono Ag);replace Ag:b<=Y.heap.size:=zzbb Ag hY.size;generalize hz:W3.heap.size=sp at*
 have Sy:sp≠b:=zE
 clear fU d;have d:Y.cell? ⟨sp,0,none⟩=some (.pointer (some ⟨ob,4,none⟩)):=by rw[Lib.cell_of_heap hpt];rfl
 have d1:Y.cell? ⟨ob,4,none⟩=some (.int .i64 n4):=by rw[Lib.cell_of_heap gF];exact a4
 go_wp2
 refine wp_loop_rounds 3 ?_;rw[rounds_succ]
 go_wp2_with (go_at_fn 68;refine(BP b b _ _ _ _ _ dU Ag (by simp[s1,Lib.strCells,ByteArray.size]) p4).mono ?_)
 rintro e Y0 ⟨rfl,v',hbd',eP,dz⟩;have hk:=dU.kept dz;replace wN:=wN.trans eP;replace gF:=hk _ _ _ _ IA (by decide) gF;replace hpt:=hk _ _ _ _ Sy (by decide) hpt;replace Ag:b<=Y0.heap.size:=zzbb Ag eP.size;replace dU:=hbd';clear hk d d1 dz eP hbd';have d:Y0.cell? ⟨sp,1,none⟩=some (.pointer (some ⟨ob,5,none⟩)):=by rw[Lib.cell_of_heap hpt];rfl
 have d1:Y0.cell? ⟨ob,5,none⟩=some (.int .i64 n5):=by rw[Lib.cell_of_heap gF];exact a5
 go_wp2
 rw[rounds_succ]
 go_wp2_with (go_at_fn 68;refine(BP b b _ _ _ _ _ dU Ag (by simp[s1,Lib.strCells,ByteArray.size]) p5).mono ?_)
 rintro e Y1 ⟨rfl,v',hbd',eP,dz⟩;have hk:=dU.kept dz;replace wN:=wN.trans eP;replace gF:=hk _ _ _ _ IA (by decide) gF;replace hpt:=hk _ _ _ _ Sy (by decide) hpt;replace Ag:b<=Y1.heap.size:=zzbb Ag eP.size;replace dU:=hbd';clear hk d d1 dz eP hbd';have d:Y1.cell? ⟨sp,1,none⟩=some (.pointer (some ⟨ob,5,none⟩)):=by rw[Lib.cell_of_heap hpt];rfl
 have d1:Y1.cell? ⟨ob,3,none⟩=some (.int .i64 1):=by rw[Lib.cell_of_heap gF];exact a3
 go_wp2
 rw[rounds_succ]
 go_wp2_with (go_at_fn 73;refine(abq b b [b0,b1,b2,b3,b4,b5] _ _ dU zd).mono ?_)
 rintro e Z ⟨rfl,hZ⟩
 go_wp2
 exact hQ _ _ rfl rfl (wN.trans hZ)
end
end Go.Proofs.YthjppoincojfkaaGreatDoor
namespace Go.Proofs.YthjppoincojfkaaGreatDoor
noncomputable section
open Go Go.Abs
def agG:List (Nat×(SC×List aF×Nat))->Nat->Option (SC×List aF×Nat)
 |[],_=>none
 |(k,x)::r,f=>bif Nat.beq f k then some x else agG r f
def Pf{P:Program}:∀{l:List (Nat×(SC×List aF×Nat))},(∀y∈l,cV P y.1 y.2.1 y.2.2.1 y.2.2.2)->wH P (agG l)
 |[],_,f,sc,rs,n,h=>by cases h
 |(k,x)::r,hl,f,sc,rs,n,h=>by
  rw[agG]at h;cases hb:Nat.beq f k with
  |true=>
   rw[hb]at h;cases h;obtain rfl:=zzds hb;exact hl (f,(sc,rs,n)) zd
  |false=>
   rw[hb]at h;exact Pf (fun y hy=>hl y (by simp[hy])) f sc rs n h
def aob:W4:=agG [(22,(eT,eU,87)),(45,(abQ,abR,9)),(46,(akk,akl,62)),(47,(qp,gW,75)),(48,(abS,fW,95)),(49,(tD,tE,51)),(69,(aps,apt,40)),(71,(apu,apv,97)),(76,(akG,apw,94)),(96,(BQ,BR,54)),(97,(ab3,ab4,11)),(98,(alb,alc,15)),(99,(ab5,ab6,10)),(100,(Ew,rZ,59)),(124,(ag5,ag6,4)),(128,(ag7,ag8,27)),(129,(ag9,aha,27)),(158,(MY,EF,20)),(159,(T9,Up,4)),(180,(ahF,ahG,19)),(182,(UF,ahH,68)),(183,(ahI,ahJ,43)),(211,(Nh,UO,33))]
def Qbt:wH Tryz.prog aob:=Pf fun y hy=>by
 simp only[zzao,zzdo,or_false]at hy;obtain rfl|rfl|rfl|rfl|rfl|rfl|rfl|rfl|rfl|rfl|rfl|rfl|rfl|rfl|rfl|rfl|rfl|rfl|rfl|rfl|rfl|rfl|rfl:=hy
 ·exact S9
 ·exact Tg
 ·exact Th
 ·exact Ti
 ·exact Tj
 ·exact Tk
 ·exact akE
 ·exact akF
 ·exact akH
 ·exact TG
 ·exact TH
 ·exact TI
 ·exact TJ
 ·exact MG
 ·exact acs
 ·exact acu
 ·exact acv
 ·exact MZ
 ·exact M0
 ·exact adb
 ·exact ade
 ·exact adf
 exact Ni
def lvE:FuncId->Nat:=fun k=>if k=143 then 0 else 1
def glE(g:Nat):AV:=.junk
def ayW:Pure Tryz.prog glE 69 [.int .i64 10] (.aS [.str ⟨#[20]⟩,.int .i64 0]):=Qcu Qbt lvE 300 4 (by kernel_rfl) rfl
open Go.RowKit Go.Lib
def auJ{P:Program}{ops:Array Oper}{rest:List Oper}{o:Oper}{a:Act}{w:World}{Q:PP}(hg:o.guard=none)(t:TypeId)(x:Operand)(ho:o.op=.box t x)(cells:P1)(hx:(a.eval x).cells=cells)
  (h:wpList P ops Q rest (a.put o.dst (.pointer (some ⟨w.heap.size,0,none⟩))) (w.alloc (.cells cells t))):wpList P ops Q (o::rest) a w:=by
 subst hx;refine wpList_plain hg fun K hK=>?_;unfold Oper.wp execOp;simp only[ho,Sem.run_bind,Instr.box,newVar,newRow,run_newObj_alloc,Sem.run_pure,Result.andThen_ok];exact hK _ _ h
def abr(arr:P1)(n0 n1 n2 n4 n5:Int)(b0 b1 b2 b3 b4 b5:UInt8)(w:World)(hsz:arr.size=26)
  (a0:arr[0]?=some (.int .i64 n0))(a1:arr[1]?=some (.int .i64 n1))(a2:arr[2]?=some (.int .i64 n2))(a3:arr[3]?=some (.int .i64 1))(a4:arr[4]?=some (.int .i64 n4))(a5:arr[5]?=some (.int .i64 n5))
  (h9:∀w:World,Calls Tryz.prog 22 #[.agg arr] w fun e w'=>e=.returned (.bool true)/\Below w.heap.size w w')
  (p0:∀w:World,Calls Tryz.prog 69 #[.int .i64 n0] w fun e w'=>e=.returned (.tuple #[.string (s1 b0),.int .i64 0])/\Below w.heap.size w w')
  (p1:∀w:World,Calls Tryz.prog 69 #[.int .i64 n1] w fun e w'=>e=.returned (.tuple #[.string (s1 b1),.int .i64 0])/\Below w.heap.size w w')
  (p2:∀w:World,Calls Tryz.prog 69 #[.int .i64 n2] w fun e w'=>e=.returned (.tuple #[.string (s1 b2),.int .i64 0])/\Below w.heap.size w w')
  (p3:∀w:World,Calls Tryz.prog 69 #[.int .i64 1] w fun e w'=>e=.returned (.tuple #[.string (s1 b3),.int .i64 0])/\Below w.heap.size w w')
  (p4:∀w:World,Calls Tryz.prog 69 #[.int .i64 n4] w fun e w'=>e=.returned (.tuple #[.string (s1 b4),.int .i64 0])/\Below w.heap.size w w')
  (p5:∀w:World,Calls Tryz.prog 69 #[.int .i64 n5] w fun e w'=>e=.returned (.tuple #[.string (s1 b5),.int .i64 0])/\Below w.heap.size w w'):
  Calls Tryz.prog 32 #[.agg arr] w fun e w'=>e=.returned (.tuple #[.string ⟨#[b0,b1,b2,b3,b4,b5]⟩,.int .i64 0])/\Below w.heap.size w w':=by
 have mixed:Tryz.prog.follows Departure.mixedOrders=true:=by kernel_rfl
 have e9:∀args w,(callFunc 22 args).run Tryz.prog w=.ok (.enter 22 args) w:=enters_of Tryz.func22 (by kernel_rfl) rfl;obtain⟨d,hd,hd2⟩:∃d,Tryz.prog.underlying 53=some d/\(match d with|.struct _|.array _ _=>true|_=>false)=true:=⟨_,Tryz.underlying53,rfl⟩;have hi:(Tryz.prog.info? 53).map (·.size)=some arr.size:=by rw[hsz];rfl
 have key:∀(Q:PP)(K2:Act->World->Prop)(w1:World)(x13 x14 x15 x16:Value),w1.heap[w.heap.size]?=some (.cells arr 53 (0,0))->Below w.heap.size w w1->(∀a w,Code.wp Tryz.prog Mw Q a w->K2 a w)->(∀(tm:P1)w',tm.getD 2 undef=.string ⟨#[b0,b1,b2,b3,b4,b5]⟩->tm.getD 3 undef=.int .i64 0->Below w.heap.size w w'->Q .ret ⟨tm,[]⟩ w')->K2 ⟨#[.agg arr,.pointer (some ⟨w.heap.size,0,none⟩),.string ⟨#[]⟩,.int .i64 0,undef,undef,undef,undef,undef,undef,undef,undef,undef,x13,x14,x15,x16,undef,undef,undef,undef,undef,undef,undef,undef,undef,undef,undef,undef,undef,undef,undef,undef,undef,undef,undef,undef,undef,undef,undef,undef,undef,undef,undef,undef,undef,undef,undef,undef,undef,undef,undef,undef,undef,undef,undef,undef,undef,undef,undef,undef,undef,undef,undef,undef,undef,undef,undef,undef,undef,undef,undef,undef,undef,undef,undef,undef,undef,undef,undef,undef,undef,undef,undef,undef,undef,undef],[]⟩ w1:=
  fun Q K2 w1 x13 x14 x15 x16 hob hb hK hQ=>hK _ _ (Sr _ w.heap.size _ _ x13 x14 x15 x16 n0 n1 n2 n4 n5 b0 b1 b2 b3 b4 b5 w1 hsz a0 a1 a2 a3 a4 a5 hob p0 p1 p2 p3 p4 p5 (fun tm w' h2 h3 h=>hQ tm w' h2 h3 (hb.trans (h.mono hb.size))))
 go_enter Tryz.func32,Tryz.ntmps32
 refine wp_seq_k fun K1 VZ=>?_;refine wp_region_lit ?_;refine auJ rfl 53 (.tmp 0) rfl arr rfl ?_;have aoc:(w.alloc (.cells arr 53)).heap[w.heap.size]?=some (.cells arr 53 (0,0)):=heap_alloc_new w _;have fT:Below w.heap.size w (w.alloc (.cells arr 53)):=(Below.refl _ w).alloc (zzab _) _;have amV:w.heap.size<=(w.alloc (.cells arr 53)).heap.size:=fT.size;have auH:=Pe aoc;generalize w.alloc (.cells arr 53)=w0 at*
 go_wp2_with (first|refine wpList_load_row rfl 53 (.tmp 1) rfl w.heap.size rfl 53 arr (0,0) _ aoc Tryz.underlying53 rfl hi ?_|(go_at_fn 22;refine(h9 _).mono ?_))
 rintro e w1 rfl dx;rename_i Q K2 a2 K1 a1 K0 a0;have ayX:=fun x13 x14 x15 x16=>key _ K2 w1 x13 x14 x15 x16 ((dx.block _ auH).trans aoc) (fT.trans (dx.mono amV)) a2 (fun tm w' h2 h3 hb=>bodyPost_ret (results_tmp2 rfl _ _ _) rfl (by rw[h2,h3];exact⟨rfl,hb⟩));clear a2 h9 p0 p1 p2 p3 p4 p5 key
 go_wp2
 exact ayX _ _ _ _
open Go.Extern.Stop Go.Stop Go.Extern
def Mx(p q:Addr)(w:World):
  CallsD Tryz.prog 74 #[.pointer (some p),.pointer (some q)] .returning w fun e u' w'=>e=.returned (.tuple #[])/\u'=.returning/\w'=w:=by
 refine callsD_of_wpS Tryz.func74 rfl fun c₀ cs hu=>?_;apply wpS_seq;apply wpS_region;simp[wpOpsS,go_sem,recoverD,hu,Tryz.ntmps74,Exit.thenS];apply wpS_seq;apply wpS_seq;apply wpS_region;simp[wpOpsS,go_sem,Exit.thenS];refine wpS_cond (t:=true) (by simp[Act.eval,Array.replicate]) ?_;simp only[if_true];refine wpS_of_wp (wp_ret ?_);cases c₀;simp_all[bodyPostS,results,Tryz.results74,Exit.thenS]
def tq(w:World)(o1 o2 o3:Obj):(((w.alloc o1).alloc o2).alloc o3).heap.size=w.heap.size+3/\(((w.alloc o1).alloc o2).alloc o3).heap[w.heap.size]?=some o1/\(((w.alloc o1).alloc o2).alloc o3).heap[w.heap.size+1]?=some o2/\(((w.alloc o1).alloc o2).alloc o3).heap[w.heap.size+1+1]?=some o3/\Below w.heap.size w (((w.alloc o1).alloc o2).alloc o3):=by
 have h1:∀(w:World)(o:Obj),(w.alloc o).heap=w.heap.push o:=fun _ _=>rfl;have e1:∀(h:Array Obj)(o:Obj)(k:Nat),k<h.size->(h.push o)[k]?=h[k]?:=fun h o k hk=>by rw[Array.getElem?_push,ab zE]
 refine⟨by rw[h1,h1,h1];simp,?_,?_,?_,(((Below.refl _ w).alloc (zzab _) _).alloc (by rw[h1];simp) _).alloc (by rw[h1,h1];simp;omega) _⟩
 ·rw[h1,h1,h1,e1 _ _ _ (by simp;omega),e1 _ _ _ zd,zzep]
 ·rw[h1,h1,h1,e1 _ _ _ zd,show w.heap.size+1=(w.heap.push o1).size by simp,zzep]
 rw[h1,h1,h1,show w.heap.size+1+1=((w.heap.push o1).push o2).size by simp,zzep]
def aod{w:World}{k:Nat}{o:Obj}(h:w.heap[k]?=some o):k<w.heap.size:=by
 rcases zzaa k w.heap.size with h'|h'
 ·exact h'
 simp[zzbq h']at h
def zO:P1:=#[.int .i64 0,.int .i64 0,.int .i64 0,.int .i64 0,.int .i64 0,.int .i64 0,.int .i64 0,.int .i64 0,.int .i64 0,.int .i64 0,.int .i64 0,.int .i64 0,.slice none 0 0,.int .i64 0,.int .i64 0,.int .i64 0,.int .i64 0,.int .i64 0,.int .i64 0,.int .i64 0,.int .i64 0,.int .i64 0,.int .i64 0,.int .i64 0,.int .i64 0,.string ⟨#[]⟩]
def abt(arr:P1)(s:ByteArray)(hsz:arr.size=26)(Iv:arr.all (·.oneCell')=true)(w:World)
  (hO:∀(w:World)(b:Nat),w.heap[b]?=some (.cells #[.string s,.int .i64 0] 159 (0,0))->Calls Tryz.prog 76 #[.pointer (some ⟨b,0,none⟩)] w fun e w'=>e=.returned (.agg arr)/\Below b w w')
  (h22:∀w:World,Calls Tryz.prog 22 #[.agg arr] w fun e w'=>e=.returned (.bool true)/\Below w.heap.size w w'):
  Calls Tryz.prog 33 #[.string s] w fun e w'=>e=.returned (.tuple #[.agg arr,.int .i64 0])/\Below w.heap.size w w':=by
 have hmf:∀(fn:Fn)(first cap:P1)(w:World),(Instr.makeFunc fn first cap).run Tryz.prog w=.ok (.func fn first cap) w:=fun _ _ _ _=>rfl;have e76:∀args w,(callFunc 76 args).run Tryz.prog w=.ok (.enter 76 args) w:=enters_of Tryz.func76 (by kernel_rfl) rfl;have e22:∀args w,(callFunc 22 args).run Tryz.prog w=.ok (.enter 22 args) w:=enters_of Tryz.func22 (by kernel_rfl) rfl;have hi:(Tryz.prog.info? 53).map (·.size)=some arr.size:=by rw[hsz];rfl
 go_enter_defers Tryz.func33,Tryz.ntmps33
 go_wp2_with (go_at_fn 76;refine(hO _ (w.heap.size+1+1) (tq _ _ _ _).2.2.2.1).mono ?_)
 rintro e w1 ⟨rfl,dx⟩;obtain⟨t1,t2,t3,t4,t5⟩:=tq w (.cells zO 53) (.cells #[.int .i64 0] 81) (.cells #[.string s,.int .i64 0] 159);have dZ:=(dx.block w.heap.size zE).trans t2;have hbc:=(dx.block (w.heap.size+1) zE).trans t3;have wN:=t5.trans (dx.mono zE);have hs1:=zzaz (Nat.lt_of_lt_of_eq (zzfe (w.heap.size+2)) t1.symm) dx.size;clear dx t1 t2 t3 t4 t5;have bR:=setRow_heap (w1.alloc (.cells zO 53)) w1.heap.size zO arr 53 (0,0) (heap_alloc_new _ _);have A4:Below w1.heap.size w1 ((w1.alloc (.cells zO 53)).setRow w1.heap.size arr):=below_setRow ((Below.refl _ _).alloc (zzab _) _) (zzab _) arr
 go_wp2_with (first
  |refine wpList_store_row rfl 53 (.tmp 5) (.tmp 11) rfl w1.heap.size arr rfl rfl 53 zO (heap_alloc_new _ _) hi (by rw[hsz];rfl) Iv ?_
  |refine wpList_load_row rfl 53 (.tmp 5) rfl w1.heap.size rfl 53 arr (0,0) _ bR Tryz.underlying53 rfl hi ?_
  |(go_at_fn 22;refine(h22 _).mono ?_))
 rintro e w2 ⟨rfl,fh⟩;have ah:=aod bR;have QF:=(fh.block _ ah).trans bR;have SH:=A4.trans (fh.mono (zzgz ah));have KG:=(SH.block w.heap.size zE).trans dZ;have ayY:=(SH.block (w.heap.size+1) zE).trans hbc;have FK:=wN.trans (SH.mono zE);clear fh bR A4 dZ hbc wN SH ah;have hc3:=(setRow_other w2 w.heap.size (w.heap.size+1) arr zE).trans ayY;have d:(w2.setRow w.heap.size arr).cell? ⟨w.heap.size+1,0,none⟩=some (.int .i64 0):=by rw[Lib.cell_of_heap hc3];rfl
 have fz:(w2.setRow w.heap.size arr).frozen? ⟨w.heap.size+1,0,none⟩=false:=Lib.frozen_of_heap hc3 0;have OD:=setRow_heap w2 w.heap.size zO arr 53 (0,0) KG;have hB4:Below w.heap.size w (w2.setRow w.heap.size arr):=below_setRow FK (zzab _) arr
 go_wp2_with (first
  |refine wpList_load_row rfl 53 (.tmp 5) rfl w1.heap.size rfl 53 arr (0,0) _ QF Tryz.underlying53 rfl hi ?_
  |refine wpList_store_row rfl 53 (.tmp 2) (.tmp 16) rfl w.heap.size arr rfl rfl 53 zO KG hi (by rw[hsz];rfl) Iv ?_)
 have hr5:=(Below.heap_setCell (w2.setRow w.heap.size arr) ⟨w.heap.size+1,0,none⟩ (.int .i64 0) w.heap.size zd).trans OD;have hc5:=setRow_heap _ _ _ ((#[.int .i64 0]:P1).setIfInBounds 0 (.int .i64 0)) _ _ hc3;rw[<- setCell_eq_setRow _ _ _ _ _ _ _ hc3]at hc5;have hB5:=hB4.setCell (p:=⟨w.heap.size+1,0,none⟩) (Nat.le_succ _) (.int .i64 0);generalize(w2.setRow w.heap.size arr).setCell ⟨w.heap.size+1,0,none⟩ (.int .i64 0)=W at*
 have d5:W.cell? ⟨w.heap.size+1,0,none⟩=some (.int .i64 0):=by rw[Lib.cell_of_heap hc5];rfl
 have hl:=run_loadVar_row (P:=Tryz.prog) W w.heap.size 53 53 arr (0,0) _ hr5 Tryz.underlying53 rfl hi;refine leaves_cons (f:=74) (args:=#[.pointer (some ⟨w.heap.size,0,none⟩),.pointer (some ⟨w.heap.size+1,0,none⟩)]) zd (by simp[go_sem]) ?_;refine(Mx ⟨w.heap.size,0,none⟩ ⟨w.heap.size+1,0,none⟩ _).mono ?_;rintro e u' qz ⟨rfl,rfl,rfl⟩;have ze:(loadVar 81 ⟨w.heap.size+1,0,none⟩).run Tryz.prog qz=.ok (.int .i64 0) qz:=by simp[go_sem,d5]
 simp[Leaves,settle,results,Tryz.results33,asAddr,hl,ze,hB5]
def auK(b:Nat)(w1:World):eO where
 p γ w:=Below b w1 w/\b<=w1.heap.size/\∀x,OI γ x->b<=x
 st γ w γ' w' h hc:=by
  obtain⟨h1,h2,h3⟩:=h;have hs:=h1.size;refine⟨h1.trans ⟨hc.os,hc.tape,hc.output,hc.size,fun k hk=>hc.same k zE fun ho=>?_⟩,h2,fun k hk=>?_⟩
  ·have:=h3 k ho;omega
  rcases hc.oi k hk with hk|hk
  ·exact h3 k hk
  omega
def Ss{P:Program}{f:FuncId}{cells:P2}{K:So}(h:aB P (fun _=>.junk) Y0 f [.ptr 0 0] ⟨[cells],[],fun _=>.gone,0⟩ K)(w:World)(b:Nat)(arr:P1)(t:TypeId)
  (hb:w.heap[b]?=some (.cells arr t (0,0)))(hr:∀γ,cq w γ cells arr.toList)(h1:∀v∈arr.toList,v.oneCell'=true):
  Calls P f #[.pointer (some ⟨b,0,none⟩)] w fun e w'=>∃v γ' r m',e=.returned v/\Below b w w'/\aA w' γ' r v/\K r m':=by
 have ah:b<w.heap.size:=by
  rcases zzaa b w.heap.size with h|h
  ·exact h
  rw[zzbq h]at hb;cases hb
 let γ0:G:={G0 (fun _ _=>False)with β:=fun id=>if id=0 then some b else none}
 have hβ:∀id x,γ0.β id=some x->id=0/\x=b:=fun id x hx=>by
  by_cases hi:id=0
  ·refine⟨hi,?_⟩;have:γ0.β id=some b:=ac hi;rw[this]at hx;exact(ap hx).symm
  have:γ0.β id=none:=ab hi;rw[this]at hx;cases hx
 have hm:au b (auK b w) (fun _ _=>False) γ0 w (⟨[cells],[],fun _=>.gone,0⟩:AM).B (⟨[cells],[],fun _=>.gone,0⟩:AM).L:=by
  refine⟨⟨Below.refl _ _,zzgz ah,fun x hx=>?_⟩,zzgz ah,fun _ _ h=>h.elim,fun _ _ h=>h.elim,fun id cs x hB hx=>?_,fun id x hx=>?_,fun id id' x hx hy=>?_,fun id x h=>(by cases h),fun id id' x h=>(by cases h),fun x h=>h.elim,fun id x h=>(by cases h),fun id id' x h=>(by cases h),fun id n h=>by simp[AM.L]at h,fun _ _=>rfl⟩
  ·obtain⟨id,hx⟩|⟨_,hx⟩|hx|⟨_,hx⟩:=hx
   ·have:=(hβ id x hx).2;omega
   ·cases hx
   ·exact hx.elim
   cases hx
  ·obtain⟨rfl,rfl⟩:=hβ id x hx;have:cells=cs:=by simpa[AM.B]using hB
   subst this;exact⟨arr,t,hb,hr _,h1⟩
  ·obtain⟨rfl,rfl⟩:=hβ id x hx;exact⟨zzab _,ah,fun _ h=>h,fun id' h=>(by cases h),cells,by simp[AM.B]⟩
  exact .inr (.inr ((hβ id x hx).1.trans (hβ id' x hy).1.symm))
 have hv:ak w γ0 [.ptr 0 0] [.pointer (some ⟨b,0,none⟩)]:=⟨rfl,fun i a v ha hv=>by
  match i,ha,hv with
  |0,ha,hv=>cases ha;cases hv;exact .ptr rfl
  |i+1,ha,hv=>simp at ha⟩
 have lJ:cQ γ0 w (⟨[cells],[],fun _=>.gone,0⟩:AM):=⟨fun _=>.inl rfl,fun _ _=>rfl,fun _ _ _ h=>(by cases h),fun _ _ h=>(by cases h)⟩;refine(callsIn_wide (n:=0)).1 ?_;refine CallsIn.mono (h.2 b (auK b w) _ γ0 w _ hm lJ (fun g=>.junk _) (fun _ _ _ _ _ _ _ _ _ _ _ hY _ _=>hY.elim) hv) ?_;rintro e w' ⟨v,γ',r,m',rfl,_,h2,_,h4,h5⟩;exact⟨v,γ',r,m',rfl,h2.bs.1,h4,h5⟩
def valOf:AV->Value
 |.int k n=>.int k n
 |.str s=>.string s
 |_=>.slice none 0 0
def nU:AV->Bool
 |.int _ _=>true
 |.str _=>true
 |.sl .nil []=>true
 |_=>false
def Ir{w:World}{γ:G}{a:AV}{v:Value}(ha:nU a=true)(h:aA w γ a v):v=valOf a:=by
 cases h with
 |int k n=>rfl
 |str s=>rfl
 |sl b off sz cv hcap hnil hh hsz hc hr aY=>
  rename_i rt rows a cap;cases rt<;>cases rows<;>simp[nU]at ha;simp only[qx]at aY;subst aY;have:=hnil rfl;subst this;rfl
 |_=>simp[nU]at ha
def abu{w:World}{γ:G}{cs:P2}{v:Value}(ha:cs.all nU=true)(h:aA w γ (.agg cs) v):v=.agg (cs.map valOf).toArray:=by
 cases h with
 |agg hl hc=>
  rename_i arr;congr 1;refine Array.ext (by simp[hl]) fun i h1 h2=>?_;have hi:i<cs.length:=zE
  have:=Ir (zzax.1 ha _ (zzdi hi)) (hc i cs[i] arr[i] (zzaf hi) (zzah h1));rw[this];simp
def lvO:FuncId->Nat:=fun k=>if k=999999 then 77 else if k=180 then 0 else if k=182 then 1 else 100
def oSL:P2:=[.int .i64 1,.int .i64 (-1),.int .i64 30,.int .i64 1,.int .i64 2,.int .i64 10,.int .i64 0,.int .i64 0,.int .i64 0,.int .i64 0,.int .i64 0,.int .i64 0,.sl .nil [],.int .i64 0,.int .i64 0,.int .i64 0,.int .i64 0,.int .i64 0,.int .i64 0,.int .i64 0,.int .i64 0,.int .i64 0,.int .i64 0,.int .i64 0,.int .i64 0,.str ⟨#[]⟩]
def oSV:P1:=#[.int .i64 1,.int .i64 (-1),.int .i64 30,.int .i64 1,.int .i64 2,.int .i64 10,.int .i64 0,.int .i64 0,.int .i64 0,.int .i64 0,.int .i64 0,.int .i64 0,.slice none 0 0,.int .i64 0,.int .i64 0,.int .i64 0,.int .i64 0,.int .i64 0,.int .i64 0,.int .i64 0,.int .i64 0,.int .i64 0,.int .i64 0,.int .i64 0,.int .i64 0,.string ⟨#[]⟩]
theorem My:(oSL.map valOf).toArray=oSV:=rfl
def Is:((CU Tryz.prog (fun _=>.junk) (J8 Tryz.prog (fun _=>.junk) aob lvO 300 4) aob 300).fn .nil 76 [.ptr 0 0] ⟨[[.str ⟨#[2,1,60,2,4,20]⟩,.int .i64 0]],[],fun _=>.gone,0⟩).map (·.1)=some (.agg oSL):=by kernel_rfl
def Iu:aB Tryz.prog (fun _=>.junk) Y0 76 [.ptr 0 0] ⟨[[.str ⟨#[2,1,60,2,4,20]⟩,.int .i64 0]],[],fun _=>.gone,0⟩ fun r _=>r=.agg oSL:=by
 have h:=Is;obtain⟨⟨r,m'⟩,hx,hr⟩:=zzca.1 h;exact(NT (uA Qbt lvO 300 4) Qbt 300).2 .nil _ _ _ _ _ hx _ hr
def agH(w:World)(b:Nat)(t:TypeId)(hb:w.heap[b]?=some (.cells #[.string ⟨#[2,1,60,2,4,20]⟩,.int .i64 0] t (0,0))):
  Calls Tryz.prog 76 #[.pointer (some ⟨b,0,none⟩)] w fun e w'=>e=.returned (.agg oSV)/\Below b w w':=by
 refine Calls.mono (Ss Iu w b _ t hb (fun γ=>⟨zzab _,fun i a v ha hv=>?_⟩) (fun v hv=>?_)) ?_
 ·match i,ha,hv with
  |0,ha,hv=>cases ha;cases hv;exact .str _
  |1,ha,hv=>cases ha;cases hv;exact .int _ _
  |i+2,ha,hv=>simp at ha
 ·simp at hv;rcases hv with rfl|rfl<;>rfl
 rintro e w' ⟨v,γ',r,m',rfl,h1,h2,rfl⟩;have:=abu (by rfl) h2;rw[My]at this;exact⟨by rw[this],h1⟩
def HA:P2:=[I 24000,I 1001,I 24,I 0,I 24,I 1,I 24,I 0,I 25,I 1,I 25,I 0,I 30000,I 1001,I 30,I 2,I 30,I 1,I 30,I 0,I 50,I 1,I 50,I 0,I 60000,I 1001,I 60,I 4,I 60,I 1,I 60,I 0]
def aD:Nat->AV
 |2=>.ep HA 0
 |_=>.junk
def Zc{α:Type}{l:List α}{i:Nat}{a:α}(h:l[i]?=some a):l.drop i=a::l.drop (i+1):=by
 obtain⟨h1,h2⟩:=zza.1 h;rw[zzai h1,h2]
structure Evt where
 id:Int
 it:Int
 st:Int
 fr:Int
 i:Int
 re:Int
 al:Option Int
def jh:Pure Tryz.prog aD 64 [.sl .nil []] (.sl .nil []):=by
 refine Qp IX (fun _ _ _=>.junk) zd ?_;simp[abV,abW]
def nG(f:Int):Prop:= -1000000<=f/\f<=1000000
def wu(n:Int)(h:0<=n)(h':n<=2000000):IntKind.u64.wrap n=n:=by
 simp[IntKind.wrap,IntKind.bits,IntKind.signed];omega
def ai2:AV:=.aS [.agg [I 0,I 0,I 0,I 0,I 0,I 0,.sl .nil []],I 0,.bool false]
end
end Go.Proofs.YthjppoincojfkaaGreatDoor
namespace Go.Abs
open Go Go.RowKit
def abv{P:Program}{gl:Nat->AV}{Y:YT}{f:FuncId}(hc:bA P f)(bh:∀(b:Nat)(es:Array MapEntry)(clock:Nat)(w:World),w.heap[b]?=some (.map es clock)->Calls P f #[.map (some b)] w fun e w'=>e=.returned (.map (some w.heap.size))/\w'=w.alloc (.map es clock))
  {m:AM}{id kn:Nat}{kvs:List (Pi×AV)}(hb:m.boxes.getD id []=[.aJ kn kvs]){K:So}(hK:K (.mp m.boxes.length) {m with boxes:=m.boxes++[[.aJ kn kvs]]}):aB P gl Y f [.mp id] m K:=by
 refine aB.fP hc fun N w0 an γ w vs hm hl hr=>?_
 match vs,hr with
 |[v],hr=>
  obtain⟨aK,hB⟩:=mP hb;obtain⟨b,es,h1,rfl,h3,h4,h5⟩:=hm.iR (hr.2 0 _ v rfl rfl) hB;refine(bh b es _ w h3).mono fun e w'⟨he,hw⟩=>?_;subst hw;obtain⟨g1,g2⟩:=hm.JP m.boxes.length (by simp[AM.B]) (x:=.aJ kn kvs) (o:=.map es es.size) ⟨rfl,h4,h5⟩;refine⟨_,_,.mp m.boxes.length,{m with boxes:=m.boxes++[[.aJ kn kvs]]},he,g1.cF,?_,hl.mono' g1 rfl,.mp (by simp[G.gz]),hK⟩;rw[Sx];exact g2
 |[],hr=>exact absurd hr.1 zd
 |_::_::_,hr=>exact absurd hr.1 zd
def Ph{P:Program}{t:TypeId}{a b c:Nat}(h:(P.info? t).bind (fun i=>i.zero.map fun z=>(i.size,i.bytes,z.cells.size))=some (a,b,c)):∃i z,P.info? t=some i/\i.zero=some z/\i.size=a/\i.bytes=b/\z.cells.size=c:=by
 cases hi:P.info? t with
 |none=>rw[hi]at h;cases h
 |some i=>
  rw[hi]at h;simp only[zzcx]at h;cases hz:i.zero with
  |none=>rw[hz]at h;cases h
  |some z=>
   rw[hz]at h;simp only[zzcv,Option.some.injEq,Prod.mk.injEq]at h;exact⟨i,z,rfl,hz,h.1,h.2.1,h.2.2⟩
def Pj{P:Program}{gl:Nat->AV}{Y:YT}{f:FuncId}{t:TypeId}{sz n:Nat}(hc:bA P f)
  (cA:n=0->∀w:World,Calls P f #[.slice none 0 0,.int .i64 (n:Nat)] w fun e w'=>e=.returned (.slice none 0 0)/\w'=w)
  (Iq:0<n->∀w:World,Calls P f #[.slice none 0 0,.int .i64 (n:Nat)] w fun e w'=>∃cap cs,e=.returned (.slice (some ⟨w.heap.size,0,none⟩) 0 cap)/\w'=w.drew.alloc (.cells cs t)/\cap*sz<=cs.size)
  {m:AM}{K:So}(h0:n=0->K (.sl .nil []) m)(h1:0<n->K (.sl (.own m.lens.length sz) []) {m with lens:=m.lens++[0]}):aB P gl Y f [.sl .nil [],.int .i64 (n:Nat)] m K:=by
 refine aB.fP hc fun N w0 an γ w vs hm hl hr=>?_
 match vs,hr with
 |[v,u],hr=>
  have hv:v=.slice none 0 0:=by
   have h:=hr.2 0 _ v rfl rfl;cases h with
   |@sl _ _ _ a cap b off dy cv hcap hnil ha hsz hcc Q4 aY=>
    have:a=none:=aY;subst this;rw[hnil rfl];rfl
  have hu:u=.int .i64 (n:Nat):=(hr.2 1 _ u rfl rfl).aI;subst hv;subst hu;rcases zzci n with hn|hn
  ·refine(cA hn w).mono fun e w'⟨he,hw⟩=>?_;subst hw;exact⟨_,γ,_,m,he,(Ev.refl _ γ).cF,hm,hl,Cm,h0 hn⟩
  refine(Iq hn w).mono fun e w'⟨cap,cs,he,hw,hs⟩=>?_;subst hw;have sv:=hm.aiF;have hL:m.L m.lens.length=none:=by simp[AM.L]
  have cr:γ.own m.lens.length=none:=by
   cases h:γ.own m.lens.length with
   |none=>rfl
   |some b=>obtain⟨_,_,k,hk⟩:=hm.own _ _ h;rw[hL]at hk;cases hk
  have cU:γ.cur m.lens.length=0:=hm.cur0 _ hL;have bU:=sv.2.trans (sv.1.fH (q:=0) (id:=m.lens.length) (n:=0) zE (fun _=>cr) (.cells cs t));refine⟨_,γ.renew m.lens.length w.heap.size 0 0,.sl (.own m.lens.length sz) [],{m with lens:=m.lens++[0]},he,bU.cF,?_,hl.mono' bU rfl,?_,h1 hn⟩
  ·rw[Cx];exact sv.1.renew zE (fun _=>cr) _
  refine .sl (rows:=[]) w.heap.size 0 sz (fun _ _=>undef) (zzbv _) (fun h=>(by cases h)) (fun h=>absurd rfl h) (fun _ h=>by cases h) (fun i j c h=>by simp[Qu]at h) (fun i j c h=>by simp[Qu]at h) ?_;refine⟨rfl,zzbv _,fun _=>.inr ⟨w.heap.size,0,cs,t,rfl,by simp[G.renew],by show(w.heap.push _)[w.heap.size]?=_;simp,zE,fun o' _ hr=>?_⟩⟩;obtain hr|⟨_,hr⟩:=hr
  ·have:=hm.robd _ _ hr;omega
  omega
 |[],hr=>exact absurd hr.1 zd
 |[_],hr=>exact absurd hr.1 zd
 |_::_::_::_,hr=>exact absurd hr.1 zd
end Go.Abs
namespace Go.Proofs.YthjppoincojfkaaGreatDoor
noncomputable section
open Go Go.Abs Go.Shelf Go.RowKit Go.Lib
def Mz:Go.Shelf.Ren:=⟨fun|5=>169|7=>225|n=>n,fun|23=>254|25=>3|3=>3|4=>4|20=>20|n=>n,fun|n=>n⟩
def aoe:Go.Proofs.SlLaysW.n5 Tryz.prog Mz:={
 mixed:=by kernel_rfl,
 f5:=⟨Tryz.f169.name,by decide,Tryz.func169.trans (congrArg some (by kernel_rfl))⟩,
 f7:=Tryz.func225.trans (congrArg some (by kernel_rfl)),
 t4:=Tryz.underlying4,
 a4:=Tryz.isAgg4,
 z4:=Tryz.sizeOf4,
 v4:=Tryz.zeroValue4,
 t20:=Tryz.underlying20,
 a20:=Tryz.isAgg20,
 z20:=Tryz.sizeOf20,
 v20:=Tryz.zeroValue20,
 t23:=Tryz.underlying254,
 a23:=Tryz.isAgg254,
 z23:=Tryz.sizeOf254,
 v23:=Tryz.zeroValue254}
def tu:Go.Shelf.Ren:=⟨fun|4=>230|n=>n,fun|22=>42|25=>3|3=>3|4=>4|9=>9|20=>20|0=>0|n=>n,fun|n=>n⟩
def Pk:Go.Proofs.Lays8.n4 Tryz.prog tu:={
 mixed:=by kernel_rfl,
 f4:=⟨Tryz.f230.name,by decide,Tryz.func230.trans (congrArg some (by kernel_rfl))⟩,
 t0:=Tryz.underlying0,
 a0:=Tryz.isAgg0,
 z0:=Tryz.sizeOf0,
 v0:=Tryz.zeroValue0,
 t3:=Tryz.underlying3,
 a3:=Tryz.isAgg3,
 z3:=Tryz.sizeOf3,
 v3:=Tryz.zeroValue3,
 t4:=Tryz.underlying4,
 a4:=Tryz.isAgg4,
 z4:=Tryz.sizeOf4,
 v4:=Tryz.zeroValue4,
 t9:=Tryz.underlying9,
 a9:=Tryz.isAgg9,
 z9:=Tryz.sizeOf9,
 v9:=Tryz.zeroValue9,
 t20:=Tryz.underlying20,
 a20:=Tryz.isAgg20,
 z20:=Tryz.sizeOf20,
 v20:=Tryz.zeroValue20,
 t22:=Tryz.underlying42,
 a22:=Tryz.isAgg42,
 z22:=Tryz.sizeOf42,
 v22:=Tryz.zeroValue42}
def y5:Go.Shelf.Ren:=⟨fun|4=>270|n=>n,fun|22=>98|25=>96|3=>3|4=>4|9=>9|20=>20|0=>0|2=>3|n=>n,fun|n=>n⟩
def abw:Go.Proofs.Lays8.n4 Tryz.prog y5:={
 mixed:=by kernel_rfl,
 f4:=⟨Tryz.f270.name,by decide,Tryz.func270.trans (congrArg some (by kernel_rfl))⟩,
 t0:=Tryz.underlying0,
 a0:=Tryz.isAgg0,
 z0:=Tryz.sizeOf0,
 v0:=Tryz.zeroValue0,
 t3:=Tryz.underlying3,
 a3:=Tryz.isAgg3,
 z3:=Tryz.sizeOf3,
 v3:=Tryz.zeroValue3,
 t4:=Tryz.underlying4,
 a4:=Tryz.isAgg4,
 z4:=Tryz.sizeOf4,
 v4:=Tryz.zeroValue4,
 t9:=Tryz.underlying9,
 a9:=Tryz.isAgg9,
 z9:=Tryz.sizeOf9,
 v9:=Tryz.zeroValue9,
 t20:=Tryz.underlying20,
 a20:=Tryz.isAgg20,
 z20:=Tryz.sizeOf20,
 v20:=Tryz.zeroValue20,
 t22:=Tryz.underlying98,
 a22:=Tryz.isAgg98,
 z22:=Tryz.sizeOf98,
 v22:=Tryz.zeroValue98}
def O5{Y:YT}{m:AM}{id kn:Nat}{kvs:List (Pi×AV)}(hb:m.boxes.getD id []=[.aJ kn kvs]){K:So}(hK:K (.mp m.boxes.length) {m with boxes:=m.boxes++[[.aJ kn kvs]]}):aB Tryz.prog aD Y 169 [.mp id] m K:=
 abv ⟨_,Tryz.func169,by kernel_rfl,by kernel_rfl⟩ (fun b es clock w h=>AnyW.maps_Clone aoe b es clock w h) hb hK
def aeZ{Y:YT}{m:AM}{n:Nat}(hn:n<=1000000000){K:So}(h0:n=0->K (.sl .nil []) m)(h1:0<n->K (.sl (.own m.lens.length 1) []) {m with lens:=m.lens++[0]}):aB Tryz.prog aD Y 230 [.sl .nil [],I n] m K:=by
 obtain⟨i0,z,hi0,hz0,Ee,dZ,Cr⟩:=Ph (P:=Tryz.prog) (t:=3) (a:=1) (b:=8) (c:=1) (by kernel_rfl);refine Pj (t:=3) (sz:=1) ⟨_,Tryz.func230,by kernel_rfl,by kernel_rfl⟩ (fun gq w=>?_) (fun hp w=>?_) h0 h1
 ·subst gq;exact Any8.slices_Grow_room Pk none 0 0 0 w (zzab _) zE zE (zzab _)
 refine(Any8.slices_Grow_grow Pk i0 z hi0 hz0 zE none 0 0 n [] w (zzab _) zE (by rw[dZ];omega) zE zd (fun _=>rfl) (fun a h=>by cases h)).mono fun e w'⟨he,hw⟩=>?_;refine⟨_,_,he,hw,?_⟩;have hg:n<=grownCap w (0+n) 0 3:=by have:=grownCap_ge w (0+n) 0 3;omega
 simp only[zzew,size_zeroCells,Cr];simp;have e1:tu.t 25=3:=rfl;simp only[e1];omega
def aeW{Y:YT}{m:AM}{n:Nat}(hn:n<=1000000000){K:So}(h0:n=0->K (.sl .nil []) m)(h1:0<n->K (.sl (.own m.lens.length 2) []) {m with lens:=m.lens++[0]}):aB Tryz.prog aD Y 270 [.sl .nil [],I n] m K:=by
 obtain⟨i0,z,hi0,hz0,Ee,dZ,Cr⟩:=Ph (P:=Tryz.prog) (t:=96) (a:=2) (b:=16) (c:=2) (by kernel_rfl);refine Pj (t:=96) (sz:=2) ⟨_,Tryz.func270,by kernel_rfl,by kernel_rfl⟩ (fun gq w=>?_) (fun hp w=>?_) h0 h1
 ·subst gq;exact Any8.slices_Grow_room abw none 0 0 0 w (zzab _) zE zE (zzab _)
 refine(Any8.slices_Grow_grow abw i0 z hi0 hz0 zE none 0 0 n [] w (zzab _) zE (by rw[dZ];omega) zE zd (fun _=>rfl) (fun a h=>by cases h)).mono fun e w'⟨he,hw⟩=>?_;refine⟨_,_,he,hw,?_⟩;have hg:n<=grownCap w (0+n) 0 96:=by have:=grownCap_ge w (0+n) 0 96;omega
 simp only[zzew,size_zeroCells,Cr];simp;have e1:y5.t 25=96:=rfl;simp only[e1];omega
def aof{w:World}{γ:G}:∀{a:AV},nU a=true->aA w γ a (valOf a)
 |.int k n,_=>.int k n
 |.str s,_=>.str s
 |.sl .nil [],_=>aA.sl 0 0 0 (fun _ _=>undef) (zzab _) (fun _=>rfl) (fun h=>(h rfl).elim) (fun r h=>by cases h) (fun i j c h=>by simp[Qu]at h) (fun i j c h=>by simp[Qu]at h) rfl
def abx{w:World}{γ:G}{cs:P2}(h:cs.all nU=true):aA w γ (.agg cs) (.agg (cs.map valOf).toArray):=
 .agg zd fun i c v hc hv=>by
  have hp:=zzax.1 h c (zzad hc);have:(cs.map valOf)[i]?=some v:=by simpa using hv
  rw[zzbn,hc]at this;cases this;exact aof hp
def aog{w:World}{γ:G}{cs:P2}{v:Value}(ha:cs.all nU=true)(h:aA w γ (.aS cs) v):v=.tuple (cs.map valOf).toArray:=by
 cases h with
 |aS hl hc=>
  rename_i arr;congr 1;refine Array.ext (by simp[hl]) fun i h1 h2=>?_;have hi:i<cs.length:=zE
  have:=Ir (zzax.1 ha _ (zzdi hi)) (hc i cs[i] arr[i] (zzaf hi) (zzah h1));rw[this];simp
def Qax{n:Int}{b:UInt8}(h:Pure Tryz.prog glE 69 [.int .i64 n] (.aS [.str ⟨#[b]⟩,.int .i64 0]))(w:World):
  Calls Tryz.prog 69 #[.int .i64 n] w fun e w'=>e=.returned (.tuple #[.string (s1 b),.int .i64 0])/\Below w.heap.size w w':=by
 refine Calls.mono (h.2 (fun _ _=>False) w [.int .i64 n] (fun g=>.junk _) ⟨rfl,fun i a v ha hv=>?_⟩) ?_
 ·match i,ha,hv with
  |0,ha,hv=>cases ha;cases hv;exact .int _ _
  |i+1,ha,hv=>simp at ha
 rintro e w' ⟨v,rfl,h1,h2⟩;have:=aog (by rfl) h2;exact⟨by rw[this];rfl,h1⟩
def tw(w:World)(h:Pure Tryz.prog glE 22 [.agg oSL] (.bool true)):Calls Tryz.prog 22 #[.agg oSV] w fun e w'=>e=.returned (.bool true)/\Below w.heap.size w w':=by
 refine Calls.mono (h.2 (fun _ _=>False) w [.agg oSV] (fun g=>.junk _) ⟨rfl,fun i a v ha hv=>?_⟩) ?_
 ·match i,ha,hv with
  |0,ha,hv=>cases ha;cases hv;exact abx (by rfl)
  |i+1,ha,hv=>simp at ha
 rintro e w' ⟨v,rfl,h1,h2⟩;cases h2;exact⟨rfl,h1⟩
def lvV:FuncId->Nat:=fun k=>100
def ajR:Pure Tryz.prog glE 69 [.int .i64 1] (.aS [.str ⟨#[2]⟩,.int .i64 0]):=Qcu Qbt lvE 300 4 (by kernel_rfl) rfl
def aoh:Pure Tryz.prog glE 69 [.int .i64 (-1)] (.aS [.str ⟨#[1]⟩,.int .i64 0]):=Qcu Qbt lvE 300 4 (by kernel_rfl) rfl
def aoi:Pure Tryz.prog glE 69 [.int .i64 30] (.aS [.str ⟨#[60]⟩,.int .i64 0]):=Qcu Qbt lvE 300 4 (by kernel_rfl) rfl
def auL:Pure Tryz.prog glE 69 [.int .i64 2] (.aS [.str ⟨#[4]⟩,.int .i64 0]):=Qcu Qbt lvE 300 4 (by kernel_rfl) rfl
def aby:Pure Tryz.prog glE 22 [.agg oSL] (.bool true):=Qcu Qbt lvV 300 4 (by kernel_rfl) rfl
def ajS{gl:Nat->AV}{f:FuncId}{x r:AV}{v u:Value}(hc:bA Tryz.prog f)(hx:∀{w:World}{γ:G}{y:Value},aA w γ x y->y=v)(hr:∀(w:World)(γ:G),aA w γ r u)
  (h:∀w:World,Calls Tryz.prog f #[v] w fun e w'=>e=.returned u/\Below w.heap.size w w'):Pure Tryz.prog gl f [x] r:=by
 refine⟨hc,fun ro w vs _ hv=>?_⟩;obtain⟨hl,hc⟩:=hv
 match vs,hl with
 |[y],_=>
  have:=hx (hc 0 x y rfl rfl);subst this;refine Calls.mono (h w) ?_;rintro e w' ⟨rfl,h1⟩;exact⟨_,rfl,h1,hr _ _⟩
def abz{w:World}{γ:G}{a b:AV}{x y:Value}(h1:aA w γ a x)(h2:aA w γ b y):aA w γ (.aS [a,b]) (.tuple #[x,y]):=
 .aS rfl fun i c v hc hv=>by
  match i,hc,hv with
  |0,hc,hv=>cases hc;cases hv;exact h1
  |1,hc,hv=>cases hc;cases hv;exact h2
  |i+2,hc,hv=>simp at hc
def H6{gl:Nat->AV}:Pure Tryz.prog gl 32 [.agg oSL] (.aS [.str ⟨#[2,1,60,2,4,20]⟩,.int .i64 0]):=by
 refine ajS (v:=.agg oSV) (u:=.tuple #[.string ⟨#[2,1,60,2,4,20]⟩,.int .i64 0]) ⟨_,Tryz.func32,rfl,rfl⟩ (fun h=>?_) (fun w γ=>abz (.str _) (.int _ _)) fun w=>?_
 ·have:=abu (by rfl) h;rw[My]at this;exact this
 exact abr oSV 1 (-1) 30 2 10 2 1 60 2 4 20 w rfl rfl rfl rfl rfl rfl rfl (fun w=>tw w aby) (Qax ajR) (Qax aoh) (Qax aoi) (Qax ajR) (Qax auL) (Qax ayW)
def H7{gl:Nat->AV}:Pure Tryz.prog gl 33 [.str ⟨#[2,1,60,2,4,20]⟩] (.aS [.agg oSL,.int .i64 0]):=by
 refine ajS (v:=.string ⟨#[2,1,60,2,4,20]⟩) (u:=.tuple #[.agg oSV,.int .i64 0]) ⟨_,Tryz.func33,rfl,rfl⟩ (fun h=>?_) (fun w γ=>abz ?_ (.int _ _)) fun w=>?_
 ·cases h;rfl
 ·have:=abx (w:=w) (γ:=γ) (cs:=oSL) (by rfl);rw[My]at this;exact this
 exact abt oSV _ rfl (by kernel_rfl) w (fun w b hb=>agH w b _ hb) (fun w=>tw w aby)
end
