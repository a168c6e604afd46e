import Derived.Test.YtjmgelbfndnpjaaGreatDoorPPMH
set_option linter.unusedVariables false
set_option linter.unusedSimpArgs false
namespace Go.Abs
open Go Go.RowKit
def G.only (γ γ':G):G:={ γ' with β:=fun i=>if (γ.β i).isSome then γ'.β i else none,mm:=fun i=>if (γ.mm i).isSome then γ'.mm i else none }
section
variable {N:Nat} {w0:Bas} {ro0:Nat->Nat->Prop} {γ γ':G} {w w':World} {P:Program} {gl:Nat->AV} {Y:YT}
theorem Qav {id b:Nat} (h:(γ.only γ').β id=some b):(γ.β id).isSome/\γ'.β id=some b:=by
 simp only [G.only] at h
 split at h
 ·exact ⟨by assumption,h⟩
 ·cases h
theorem only_mm {id b:Nat} (h:(γ.only γ').mm id=some b):(γ.mm id).isSome/\γ'.mm id=some b:=by
 simp only [G.only] at h
 split at h
 ·exact ⟨by assumption,h⟩
 ·cases h
theorem β_only {id b b0:Nat} (h0:γ.β id=some b0) (h:γ'.β id=some b):(γ.only γ').β id=some b:=by simp [G.only,h0,h]
theorem mm_only {id b b0:Nat} (h0:γ.mm id=some b0) (h:γ'.mm id=some b):(γ.only γ').mm id=some b:=by simp [G.only,h0,h]
theorem rtOK_only {a:Option Addr} {len cap sz:Nat} {rt:Rt} (h:RtOK w' γ' a len cap sz rt):RtOK w' (γ.only γ') a len cap sz rt:=by
 cases rt<;>exact h
theorem Rep.only {a:AV} {v:Value} (h:Rep w' γ' a v):∀ {v0:Value},Rep w γ a v0->Rep w' (γ.only γ') a v:=by
 induction h generalizing γ with
 | junk v=>exact fun _=>.junk _
 | gd h h' ih=>exact fun k=>.gd (fun hg=>by cases k with | gd k1 _=>exact ih hg (k1 hg)) h'
 | bool b=>exact fun _=>.bool b
 | int k n=>exact fun _=>.int k n
 | str s=>exact fun _=>.str s
 | nilfn=>exact fun _=>.nilfn
 | nilv p=>exact fun _=>.nilv p
 | yld h=>exact fun _=>.yld h
 | mp h=>exact fun k=>by cases k with | mp k=>exact .mp (mm_only k h)
 | it h=>exact fun k=>by cases k with | it k=>exact .it (mm_only k h)
 | agg hl _ ih =>
  intro v0 k
  cases k with
  | @agg _ _ arr0 kl k =>
   refine .agg hl fun i c v h1 h2=>?_
   ·have hi:i < arr0.size:=by have:=(List.getElem?_eq_some_iff.1 h1).1;omega
    exact ih i c v h1 h2 (k i c arr0[i] h1 (by simp [hi]))
 | tup hl _ ih =>
  intro v0 k
  cases k with
  | @tup _ _ arr0 kl k =>
   refine .tup hl fun i c v h1 h2=>?_
   ·have hi:i < arr0.size:=by have:=(List.getElem?_eq_some_iff.1 h1).1;omega
    exact ih i c v h1 h2 (k i c arr0[i] h1 (by simp [hi]))
 | fn hl _ hl' _ ih ih' =>
  intro v0 k
  cases k with
  | @fn _ _ _ _ fa0 ca0 kl k kl' k' =>
   refine .fn hl (fun i c v h1 h2=>?_) hl' fun i c v h1 h2=>?_
   ·have hi:i < fa0.size:=by have:=(List.getElem?_eq_some_iff.1 h1).1;omega
    exact ih i c v h1 h2 (k i c fa0[i] h1 (by simp [hi]))
   ·have hi:i < ca0.size:=by have:=(List.getElem?_eq_some_iff.1 h1).1;omega
    exact ih' i c v h1 h2 (k' i c ca0[i] h1 (by simp [hi]))
 | ptr h=>exact fun k=>by cases k with | ptr k=>exact .ptr (β_only k h)
 | bs h hl hh hs=>exact fun k=>by cases k with | bs k _ _ _=>exact .bs (β_only k h) hl hh hs
 | ep cv hb hc h _=>exact fun _=>.ep cv hb hc h
 | sl b off sz cv hcap hnil ha hsz hc h hrt _=>exact fun _=>.sl b off sz cv hcap hnil ha hsz hc h (rtOK_only hrt)
theorem ObjOK.only {x:AV} {o o0:Obj} (h:ObjOK w' γ' x o) (h0:ObjOK w γ x o0):ObjOK w' (γ.only γ') x o:=by
 unfold ObjOK at h
 split at h
 ·rename_i kn kvs es clock
  cases o0<;>try exact h0.elim
  rename_i es0 clock0
  obtain ⟨h1,h2,h3⟩:=h
  obtain ⟨k1,k2,k3⟩:=h0
  refine ⟨h1,h2,fun i k a e q1 q2=>?_⟩
  obtain ⟨p1,p2,p3,p4⟩:=h3 i k a e q1 q2
  have hi:i < es0.size:=by have:=(List.getElem?_eq_some_iff.1 q1).1;omega
  exact ⟨p1,p2,p3,p4.only (k3 i k a es0[i] q1 (by simp [hi])).2.2.2⟩
 ·rename_i mid n seen mb since sn st
  cases o0<;>try exact h0.elim
  rename_i mp0 s0 a0 b0
  cases mp0<;>try exact h0.elim
  exact ⟨mm_only h0.1 h.1,h.2⟩
 ·exact h.elim
def Idle (a:AV):Prop:=∀ (w:World) (γ:G) (v:Value),Rep w γ a v->Rep w γ.imm a v
theorem Idle.bool (b:Bool):Idle (.bool b):=fun w γ v h=>by rw [h.inv_bool];exact .bool b
theorem Idle.int (k:IntKind) (n:Int):Idle (.int k n):=fun w γ v h=>by rw [h.inv_int];exact .int k n
theorem Idle.str (s:ByteArray):Idle (.str s):=fun w γ v h=>by rw [h.inv_str];exact .str s
theorem Idle.junk:Idle .junk:=fun w γ v h=>.junk _
theorem Idle.agg {cs:List AV} (h:∀ c∈cs,Idle c):Idle (.agg cs):=fun w γ v k=>by
 cases k with
 | agg hl k=>exact .agg hl fun i c v h1 h2=>h c (List.mem_of_getElem? h1) w γ v (k i c v h1 h2)
theorem Idle.tup {cs:List AV} (h:∀ c∈cs,Idle c):Idle (.tup cs):=fun w γ v k=>by
 cases k with
 | tup hl k=>exact .tup hl fun i c v h1 h2=>h c (List.mem_of_getElem? h1) w γ v (k i c v h1 h2)
theorem Idle.sl {rt:Rt} {rows:List (List AV)} (h:∀ i s,rt≠.own i s):Idle (.sl rt rows):=fun w γ v k=>by
 cases k with
 | sl b off sz cv hcap hnil ha hsz hc hr hrt =>
  refine .sl b off sz cv hcap hnil ha hsz hc hr ?_
  cases rt with
  | own i s=>exact absurd rfl (h i s)
  | _=>exact hrt
theorem Idle.ro (rows:List (List AV)):Idle (.sl .ro rows):=Idle.sl fun _ _ h=>by cases h
theorem Idle.nil (rows:List (List AV)):Idle (.sl .nil rows):=Idle.sl fun _ _ h=>by cases h
theorem Idle.full (rows:List (List AV)):Idle (.sl .full rows):=Idle.sl fun _ _ h=>by cases h
def IdleB (cells:List AV):Prop:=(∀ c∈cells,Idle c/\Qs c=true)\/∃ kn kvs,cells=[.mobj kn kvs]/\∀ p∈kvs,Idle p.2
theorem Idle.rep {a:AV} (h:Idle a) {v:Value} (hr:Rep w' γ' a v):Rep w' (γ.only γ') a v:=Rep.of_imm (γ:=γ.only γ') (h w' γ' v hr)
theorem MSim.only {m m1:AM} {ex:List (List AV)} (hm:MSim N w0 ro0 γ w m.B m.L) (hm':MSim N w0 ro0 γ' w' ({ m1 with boxes:=m1.boxes++ex }:AM).B m1.L) (e:EvR w γ w' γ')
  (hlen:m1.boxes.length=m.boxes.length) (hL:m1.lens=m.lens) (hk:∀ (id:Nat) (cells:List AV),m1.boxes[id]? = some cells->m.boxes[id]? = some cells\/IdleB cells):MSim N w0 ro0 (γ.only γ') w' m1.B m1.L:=by
 have hB:∀ {id:Nat} {cells:List AV},m1.B id=some cells->({ m1 with boxes:=m1.boxes++ex }:AM).B id=some cells:=fun {id cells} h=>by
  simp only [AM.B] at h |-
  rw [List.getElem?_append_left (List.getElem?_eq_some_iff.1 h).1];exact h
 have hB1:∀ {id:Nat} {cells:List AV},m.B id=some cells->∃ cells1,m1.B id=some cells1:=fun {id cells} h=>by
  have:=(List.getElem?_eq_some_iff.1 h).1
  exact ⟨_,List.getElem?_eq_getElem (by omega)⟩
 have hbox0:∀ {id:Nat},(γ.β id).isSome->∃ b cells cells1,γ.β id=some b/\γ'.β id=some b/\m.B id=some cells/\m1.B id=some cells1:=fun {id} h=>by
  obtain ⟨b,hb⟩:=Option.isSome_iff_exists.1 h
  obtain ⟨_,_,_,_,c,hc⟩:=hm.β id b hb
  obtain ⟨c1,hc1⟩:=hB1 hc
  exact ⟨b,c,c1,hb,e.β id b hb,hc,hc1⟩
 refine ⟨w0.st _ _ _ _ hm'.bs ⟨rfl,rfl,rfl,Nat.le_refl _,fun _ _ _=>rfl,fun _ _ _ h=>⟨h,rfl⟩,fun b hb=>.inl ?_,fun _ _ h=>.inl h⟩,hm'.hN,hm'.ro0,hm'.robd,fun id cells b hb h1=>?_,fun id b hb=>?_,fun i i' b h h'=>?_,hm'.own,hm'.oinj,fun b hb=>?_,fun id b hb=>?_,fun i i' b h h'=>?_,hm'.len,hm'.cur0⟩
 ·rcases hb with ⟨i,hi⟩ | hb | hb | ⟨i,hi⟩
  ·exact .inl ⟨i,(Qav hi).2⟩
  ·exact .inr (.inl hb)
  ·exact .inr (.inr (.inl hb))
  ·exact .inr (.inr (.inr ⟨i,(only_mm hi).2⟩))
 ·obtain ⟨h2,h3⟩:=Qav h1
  obtain ⟨b0,c0,_,g1,g2,g3,_⟩:=hbox0 h2
  rw [h3] at g2
  cases g2
  obtain ⟨arr,e',q1,q2,q3⟩:=hm'.box id cells b (hB hb) h3
  refine ⟨arr,e',q1,⟨q2.1,fun i c v hi hv=>?_⟩,q3⟩
  rcases hk id cells hb with hk | hk | ⟨kn,kvs,rfl,_⟩
  ·obtain ⟨arr0,_,_,k2,_⟩:=hm.box id cells b hk g1
   have hlt:i < arr0.size:=by
    have h5:=(List.getElem?_eq_some_iff.1 hi).1
    have h6:=k2.1
    simp at h6;omega
   exact (q2.2 i c v hi hv).only (k2.2 i c arr0[i] hi (by simp [hlt]))
  ·exact (hk c (List.mem_of_getElem? hi)).1.rep (q2.2 i c v hi hv)
  ·have:=q2.2 i c v hi hv
   cases i with
   | zero=>cases hi;cases this
   | succ i=>cases hi
 ·obtain ⟨h2,h3⟩:=Qav hb
  obtain ⟨b0,c0,c1,_,_,_,g4⟩:=hbox0 h2
  obtain ⟨q1,q2,q3,q4,_⟩:=hm'.β id b h3
  exact ⟨q1,q2,q3,q4,c1,g4⟩
 ·obtain ⟨h2,h3⟩:=Qav h
  obtain ⟨h4,h5⟩:=Qav h'
  obtain ⟨_,_,c,_,_,_,g3⟩:=hbox0 h2
  obtain ⟨_,_,c',_,_,_,g3'⟩:=hbox0 h4
  have:=hm'.inj i i' b h3 h5
  rw [hB g3,hB g3'] at this
  rw [g3,g3']
  exact this
 ·obtain ⟨q1,q2,q3,q4,q5⟩:=hm'.sp b hb
  exact ⟨q1,q2,q3,fun i hi=>q4 i (Qav hi).2,q5⟩
 ·obtain ⟨h2,h3⟩:=only_mm hb
  obtain ⟨b0,hb0⟩:=Option.isSome_iff_exists.1 h2
  obtain ⟨q1,q2,q3,q4,q5,q6,q8,x,o,q7,q9,q10⟩:=hm'.mm id b h3
  obtain ⟨_,_,_,_,_,_,_,x0,o0,k7,k9,k10⟩:=hm.mm id b0 hb0
  obtain ⟨c1,hc1⟩:=hB1 k7
  have hx:c1=[x]:=by rw [hB hc1] at q7;cases q7;rfl
  subst hx
  refine ⟨q1,q2,q3,fun i hi=>q4 i (Qav hi).2,q5,q6,by simp [G.only,q8],x,o,hc1,q9,?_⟩
  rcases hk id [x] hc1 with hk | hk | ⟨kn,kvs,hx,hk⟩
  ·have:x=x0:=by
    have k7':m.boxes[id]? = some [x0]:=k7
    rw [hk] at k7';cases k7';rfl
   subst this
   exact q10.only k10
  ·have:=(hk x (by simp)).2
   cases x<;>cases o<;>first | exact q10.elim | (simp [Qs] at this)
  ·cases hx
   cases o<;>try exact q10.elim
   obtain ⟨h4,h5,h6⟩:=q10
   refine ⟨h4,h5,fun i k a e s1 s2=>?_⟩
   obtain ⟨p1,p2,p3,p4⟩:=h6 i k a e s1 s2
   exact ⟨p1,p2,p3,(hk (k,a) (List.mem_of_getElem? s1)).rep p4⟩
 ·exact hm'.minj i i' b (only_mm h).2 (only_mm h').2
theorem EvR.only (e:EvR w γ w' γ'):EvR w γ w' (γ.only γ') :=
 ⟨e.size,e.ro,fun id b h=>β_only h (e.β id b h),e.cur,fun id b h=>mm_only h (e.mm id b h),e.lp,e.own,e.sp,e.ss⟩
theorem EffY.forget {f:FuncId} {as:List AV} {m:AM} {K:AV->AM->Prop}
  (h:EffY P gl Y f as m fun r m'=>∃ m1 ex,m'={ m1 with boxes:=m1.boxes++ex }/\m1.boxes.length=m.boxes.length/\m1.lens=m.lens /\
   (∀ (id:Nat) (cells:List AV),m1.boxes[id]? = some cells->m.boxes[id]? = some cells\/IdleB cells)/\Idle r/\K r m1):EffY P gl Y f as m K:=by
 refine ⟨h.1,fun N w0 ro0 γ w vs hm hl hg hy hr=>CallsIn.mono (h.2 N w0 ro0 γ w vs hm hl hg hy hr) ?_⟩
 rintro en w' ⟨v,γ',r,m',rfl,g1,g2,g3,g4,m1,ex,rfl,g5,g6,g7,g8,g9⟩
 exact ⟨v,γ.only γ',r,m1,rfl,g1.only,hm.only g2 g1 g5 g6 g7,g3,g8.rep g4,g9⟩
theorem EffY.read {f:FuncId} {as:List AV} {m:AM} {K:AV->Prop} (h:EffY P gl Y f as m fun r m'=>∃ ex,m'={ m with boxes:=m.boxes++ex }/\Idle r/\K r):EffY P gl Y f as m fun r m'=>m'=m/\K r:=by
 refine EffY.forget ⟨h.1,fun N w0 ro0 γ w vs hm hl hg hy hr=>CallsIn.mono (h.2 N w0 ro0 γ w vs hm hl hg hy hr) ?_⟩
 rintro en w' ⟨v,γ',r,m',rfl,g1,g2,g3,g4,ex,rfl,g5,g6⟩
 exact ⟨v,γ',r,_,rfl,g1,g2,g3,g4,m,ex,rfl,rfl,rfl,fun _ _ h=>.inl h,g5,rfl,g6⟩
end
end Go.Abs
namespace Go.Abs
open Go Go.RowKit
def G.noown (γ:G):G:={ γ with own:=fun _=>none,cur:=fun _=>0 }
def NoOwn (a:AV):Prop:=∀ (w:World) (γ:G) (v:Value),Rep w γ a v->Rep w γ.noown a v
theorem NoOwn.bool (b:Bool):NoOwn (.bool b):=fun w γ v h=>by rw [h.inv_bool];exact .bool b
theorem NoOwn.int (k:IntKind) (n:Int):NoOwn (.int k n):=fun w γ v h=>by rw [h.inv_int];exact .int k n
theorem NoOwn.str (s:ByteArray):NoOwn (.str s):=fun w γ v h=>by rw [h.inv_str];exact .str s
theorem NoOwn.junk:NoOwn .junk:=fun w γ v h=>.junk _
theorem NoOwn.mobj (kn:Nat) (kvs:List (List Int×AV)):NoOwn (.mobj kn kvs):=fun w γ v h=>by cases h
theorem NoOwn.mp (id:Nat):NoOwn (.mp id):=fun w γ v h=>by cases h with | mp h=>exact .mp h
theorem NoOwn.ptr (id o:Nat):NoOwn (.ptr id o):=fun w γ v h=>by cases h with | ptr h=>exact .ptr h
theorem NoOwn.agg {cs:List AV} (h:∀ c∈cs,NoOwn c):NoOwn (.agg cs):=fun w γ v k=>by
 cases k with
 | agg hl k=>exact .agg hl fun i c v h1 h2=>h c (List.mem_of_getElem? h1) w γ v (k i c v h1 h2)
theorem NoOwn.sl {rt:Rt} {rows:List (List AV)} (h:∀ i s,rt≠.own i s):NoOwn (.sl rt rows):=fun w γ v k=>by
 cases k with
 | sl b off sz cv hcap hnil ha hsz hc hr hrt =>
  refine .sl b off sz cv hcap hnil ha hsz hc hr ?_
  cases rt with
  | own i s=>exact absurd rfl (h i s)
  | _=>exact hrt
theorem NoOwn.ro (rows:List (List AV)):NoOwn (.sl .ro rows):=NoOwn.sl fun _ _ h=>by cases h
theorem NoOwn.nil (rows:List (List AV)):NoOwn (.sl .nil rows):=NoOwn.sl fun _ _ h=>by cases h
def NoOwnB (cells:List AV):Prop:=∀ c∈cells,NoOwn c/\∀ kn kvs,c=.mobj kn kvs->∀ p∈kvs,NoOwn p.2
def Kept (bs:List (List AV)) (id:Nat) (cells' cells:List AV):Prop :=
 (cells'=cells/\bs[id]? = some cells/\NoOwnB cells)\/(cells'=cells/\∀ c∈cells,Idle c/\Qs c=true) \/
 ∃ (kn:Nat) (kvs' kvs:List (List Int×AV)),cells'=[.mobj kn kvs']/\cells=[.mobj kn kvs]/\kvs'.length=kvs.length/\(∀ p∈kvs,Idle p.2)/\∀ (i:Nat) (k:List Int) (a:AV) (k':List Int) (a':AV),kvs'[i]? = some (k',a')->kvs[i]? = some (k,a)->k'=k/\Wk a' a
theorem Kept.empty {bs:List (List AV)} {id:Nat} {cells' cells:List AV} (h:Kept bs id cells' cells) (h':cells'=[]):cells=[]:=by
 rcases h with ⟨rfl,_⟩ | ⟨rfl,_⟩ | ⟨kn,kvs',kvs,rfl,rfl,_⟩
 ·exact h'
 ·exact h'
 ·cases h'
section
variable {N:Nat} {w0:Bas} {ro0:Nat->Nat->Prop} {γ γ':G} {w w':World} {P:Program} {gl:Nat->AV} {Y:YT}
theorem EffY.mono {f:FuncId} {as:List AV} {m:AM} {K K':AV->AM->Prop} (h:EffY P gl Y f as m K) (hk:∀ r m',K r m'->K' r m'):EffY P gl Y f as m K':=by
 refine ⟨h.1,fun N w0 ro0 γ w vs hm hl hg hy hr=>CallsIn.mono (h.2 N w0 ro0 γ w vs hm hl hg hy hr) ?_⟩
 rintro en w' ⟨v,γ',r,m',g0,g1,g2,g3,g4,g5⟩
 exact ⟨v,γ',r,m',g0,g1,g2,g3,g4,hk _ _ g5⟩
end
end Go.Abs
namespace Go.Abs
open Go Go.RowKit
end Go.Abs
