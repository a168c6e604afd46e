import Derived.WalkLawsBesides
import Derived.WalkSpells
import Derived.OrdersIn
import Derived.RangeFuncRecord
set_option linter.unusedVariables false
set_option linter.unusedSimpArgs false
namespace Go.Abs
open Go Go.RowKit
inductive Rt where
 | ro
 | full
 | nil
 | nn
 | own (id sz:Nat)
inductive AV where
 | junk
 | bool (b:Bool)
 | int (k:IntKind) (n:Int)
 | str (s:ByteArray)
 | agg (cs:List AV)
 | tup (vs:List AV)
 | sl (rt:Rt) (rows:List (List AV))
 | ep (row:List AV) (o:Nat)
 | ptr (id o:Nat)
 | fn (f:FuncId) (first cap:List AV)
 | nilfn
 | yld (l:Nat)
 | mp (id:Nat)
 | nilv (p:Bool)
 | mobj (kn:Nat) (kvs:List (List Int×AV))
 | it (id:Nat)
 | mitr (mid n:Nat) (seen:List Nat)
 | bs (id off len sz:Nat)
 | gd (g:Bool) (a:AV)
structure G where
 β:Nat->Option Nat
 own:Nat->Option Nat
 cur:Nat->Nat
 ro:Nat->Nat->Prop
 sp:Nat->Prop
 mm:Nat->Option Nat
 lp:Nat->Option Nat
def G.imm (γ:G):G:={ β:=fun _=>none,own:=fun _=>none,cur:=fun _=>0,ro:=γ.ro,sp:=fun _=>False,mm:=fun _=>none,lp:=fun _=>none }
def G0 (ro:Nat->Nat->Prop):G:={ β:=fun _=>none,own:=fun _=>none,cur:=fun _=>0,ro:=ro,sp:=fun _=>False,mm:=fun _=>none,lp:=fun _=>none }
theorem G0_imm (ro:Nat->Nat->Prop):(G0 ro).imm=G0 ro:=rfl
def Qr (rows:List (List AV)) (i j:Nat):Option AV:=(rows[i]?).bind (·[j]?)
def Spare (w:World) (γ:G) (a:Option Addr) (id len cap sz:Nat):Prop :=
 ∃ b off arr e,a=some ⟨b,off,none⟩/\γ.own id=some b/\w.heap[b]? = some (.cells arr e (0,0))/\off+cap*sz<=arr.size /\
  ∀ o,off+len*sz<=o->¬ γ.ro b o
def RtOK (w:World) (γ:G) (a:Option Addr) (len cap sz:Nat):Rt->Prop
 | .ro=>True
 | .full=>cap=len
 | .nil=>a=none
 | .nn=>a≠none
 | .own id sz'=>sz'=sz/\len<=γ.cur id/\(len=γ.cur id->cap=len\/Spare w γ a id len cap sz)
inductive Rep (w:World):G->AV->Value->Prop
 | junk {γ:G} (v:Value):Rep w γ .junk v
 | gd {γ:G} {g:Bool} {a:AV} {v:Value} (h:g=true->Rep w γ a v) (h':g=false->v=undef):Rep w γ (.gd g a) v
 | bool {γ:G} (b:Bool):Rep w γ (.bool b) (.bool b)
 | int {γ:G} (k:IntKind) (n:Int):Rep w γ (.int k n) (.int k n)
 | str {γ:G} (s:ByteArray):Rep w γ (.str s) (.string s)
 | nilfn {γ:G}:Rep w γ .nilfn .nilFunc
 | nilv {γ:G} (p:Bool):Rep w γ (.nilv p) (bif p then .pointer none else .map none)
 | yld {γ:G} {i l:Nat} (h:γ.lp i=some l):Rep w γ (.yld i) (.func (.yield l) #[] #[])
 | mp {γ:G} {id b:Nat} (h:γ.mm id=some b):Rep w γ (.mp id) (.map (some b))
 | it {γ:G} {id b:Nat} (h:γ.mm id=some b):Rep w γ (.it id) (.pointer (some ⟨b,0,none⟩))
 | agg {γ:G} {cs:List AV} {arr:Array Value} (hl:cs.length=arr.size) (h:∀ (i:Nat) (c:AV) (v:Value),cs[i]? = some c->arr[i]? = some v->Rep w γ c v):Rep w γ (.agg cs) (.agg arr)
 | tup {γ:G} {cs:List AV} {arr:Array Value} (hl:cs.length=arr.size) (h:∀ (i:Nat) (c:AV) (v:Value),cs[i]? = some c->arr[i]? = some v->Rep w γ c v):Rep w γ (.tup cs) (.tuple arr)
 | fn {γ:G} {f:FuncId} {first cap:List AV} {fa ca:Array Value} (hl:first.length=fa.size) (h:∀ (i:Nat) (c:AV) (v:Value),first[i]? = some c->fa[i]? = some v->Rep w γ c v)
   (hl':cap.length=ca.size) (h':∀ (i:Nat) (c:AV) (v:Value),cap[i]? = some c->ca[i]? = some v->Rep w γ c v):Rep w γ (.fn f first cap) (.func (.func f) fa ca)
 | ptr {γ:G} {id o b:Nat} (h:γ.β id=some b):Rep w γ (.ptr id o) (.pointer (some ⟨b,o,none⟩))
 | ep {γ:G} {row:List AV} {o b off:Nat} (cv:Nat->Value) (hb:b < w.heap.size)
   (hc:∀ (j:Nat) (c:AV),row[j]? = some c->w.cell? ⟨b,off+j,none⟩=some (cv j)/\γ.ro b (off+j)/\(cv j).oneCell'=true)
   (h:∀ (j:Nat) (c:AV),row[j]? = some c->Rep w γ.imm c (cv j)):Rep w γ (.ep row o) (.pointer (some ⟨b,off+o,none⟩))
 | bs {γ:G} {id off len sz cap b:Nat} {arr:Array Value} {e:TypeId} (h:γ.β id=some b) (hl:len<=cap) (hh:w.heap[b]? = some (.cells arr e (0,0))) (hs:off+cap*sz<=arr.size) :
   Rep w γ (.bs id off len sz) (.slice (some ⟨b,off,none⟩) len cap)
 | sl {γ:G} {rt:Rt} {rows:List (List AV)} {a:Option Addr} {cap:Nat} (b off sz:Nat) (cv:Nat->Nat->Value)
   (hcap:rows.length<=cap) (hnil:a=none->cap=0) (ha:rows≠[]->a=some ⟨b,off,none⟩/\b < w.heap.size)
   (hsz:∀ row∈rows,row.length=sz)
   (hc:∀ (i j:Nat) (c:AV),Qr rows i j=some c->w.cell? ⟨b,off+i*sz+j,none⟩=some (cv i j)/\γ.ro b (off+i*sz+j)/\(cv i j).oneCell'=true)
   (h:∀ (i j:Nat) (c:AV),Qr rows i j=some c->Rep w γ.imm c (cv i j))
   (hrt:RtOK w γ a rows.length cap sz rt):Rep w γ (.sl rt rows) (.slice a rows.length cap)
def SameSp (o o':Option Obj):Prop:=o'=o\/∃ r s p,o=some (.loop r)/\o'=some (.loop { r with state:=s,pending:=p })
theorem SameSp.trans {o o' o'':Option Obj} (h:SameSp o o') (k:SameSp o' o''):SameSp o o'':=by
 rcases h with rfl | ⟨r,s,p,rfl,rfl⟩
 ·exact k
 ·rcases k with rfl | ⟨r',s',p',e,rfl⟩
  ·exact .inr ⟨r,s,p,rfl,rfl⟩
  ·simp at e;subst e;exact .inr ⟨r,s',p',rfl,rfl⟩
def Sz (w w':World):Prop:=∀ (b:Nat) (arr:Array Value) (e:TypeId) (f:Nat×Nat),w.heap[b]? = some (.cells arr e f)->∃ arr':Array Value,w'.heap[b]? = some (.cells arr' e f)/\arr'.size=arr.size
theorem Sz.refl (w:World):Sz w w:=fun _ arr _ _ h=>⟨arr,h,rfl⟩
theorem Sz.trans {w w' w'':World} (h:Sz w w') (k:Sz w' w''):Sz w w'':=fun b arr e f hb=>by
 obtain ⟨arr',h1,h2⟩:=h b arr e f hb
 obtain ⟨arr'',h3,h4⟩:=k b arr' e f h1
 exact ⟨arr'',h3,h4.trans h2⟩
theorem Sz.of_same {w w':World} (h:∀ b,b < w.heap.size->w'.heap[b]? = w.heap[b]?):Sz w w':=fun b arr e f hb=>by
 have hlt:b < w.heap.size:=by
  rcases Nat.lt_or_ge b w.heap.size with h' | h'
  ·exact h'
  ·simp [Array.getElem?_eq_none h'] at hb
 exact ⟨arr,(h b hlt).trans hb,rfl⟩
structure EvV (w:World) (γ:G) (w':World) (γ':G):Prop where
 size:w.heap.size<=w'.heap.size
 ro:∀ b o,b < w.heap.size->γ.ro b o->γ'.ro b o/\w'.cell? ⟨b,o,none⟩=w.cell? ⟨b,o,none⟩
 β:∀ id b,γ.β id=some b->γ'.β id=some b
 cur:∀ id,γ.cur id<=γ'.cur id
 mm:∀ b F,γ.mm b=some F->γ'.mm b=some F
 lp:∀ i l,γ.lp i=some l->γ'.lp i=some l
 own:∀ id b,γ'.cur id=γ.cur id->γ.own id=some b->γ'.own id=some b /\
  (∀ arr e,w.heap[b]? = some (.cells arr e (0,0))->∃ arr',w'.heap[b]? = some (.cells arr' e (0,0))/\arr.size<=arr'.size)/\∀ o,γ'.ro b o->γ.ro b o
 ss:Sz w w'
structure EvR (w:World) (γ:G) (w':World) (γ':G):Prop where
 size:w.heap.size<=w'.heap.size
 ro:∀ b o,b < w.heap.size->γ.ro b o->γ'.ro b o/\w'.cell? ⟨b,o,none⟩=w.cell? ⟨b,o,none⟩
 β:∀ id b,γ.β id=some b->γ'.β id=some b
 cur:∀ id,γ.cur id<=γ'.cur id
 mm:∀ b F,γ.mm b=some F->γ'.mm b=some F
 lp:∀ i l,γ.lp i=some l->γ'.lp i=some l
 own:∀ id b,γ'.cur id=γ.cur id->γ.own id=some b->γ'.own id=some b /\
  (∀ arr e,w.heap[b]? = some (.cells arr e (0,0))->∃ arr',w'.heap[b]? = some (.cells arr' e (0,0))/\arr.size<=arr'.size)/\∀ o,γ'.ro b o->γ.ro b o
 sp:∀ b,γ.sp b->γ'.sp b/\SameSp w.heap[b]? w'.heap[b]?
 ss:Sz w w'
structure Ev (w:World) (γ:G) (w':World) (γ':G):Prop where
 size:w.heap.size<=w'.heap.size
 ro:∀ b o,b < w.heap.size->γ.ro b o->γ'.ro b o/\w'.cell? ⟨b,o,none⟩=w.cell? ⟨b,o,none⟩
 β:∀ id b,γ.β id=some b->γ'.β id=some b
 cur:∀ id,γ.cur id<=γ'.cur id
 mm:∀ b F,γ.mm b=some F->γ'.mm b=some F
 lp:γ'.lp=γ.lp
 own:∀ id b,γ'.cur id=γ.cur id->γ.own id=some b->γ'.own id=some b /\
  (∀ arr e,w.heap[b]? = some (.cells arr e (0,0))->∃ arr',w'.heap[b]? = some (.cells arr' e (0,0))/\arr.size<=arr'.size)/\∀ o,γ'.ro b o->γ.ro b o
 sp:∀ b,γ.sp b->γ'.sp b/\w'.heap[b]? = w.heap[b]?
 ss:Sz w w'
theorem EvR.toV {w:World} {γ:G} {w':World} {γ':G} (h:EvR w γ w' γ'):EvV w γ w' γ':=⟨h.size,h.ro,h.β,h.cur,h.mm,h.lp,h.own,h.ss⟩
theorem Ev.toR {w:World} {γ:G} {w':World} {γ':G} (h:Ev w γ w' γ'):EvR w γ w' γ':=⟨h.size,h.ro,h.β,h.cur,h.mm,fun i l hl=>by rw [h.lp];exact hl,h.own,fun b hb=>⟨(h.sp b hb).1,.inl (h.sp b hb).2⟩,h.ss⟩
theorem Ev.refl (w:World) (γ:G):Ev w γ w γ :=
 ⟨Nat.le_refl _,fun _ _ _ h=>⟨h,rfl⟩,fun _ _ h=>h,fun _=>Nat.le_refl _,fun _ _ h=>h,rfl,fun _ _ _ h=>⟨h,fun arr _ h=>⟨arr,h,Nat.le_refl _⟩,fun _ h=>h⟩,fun _ h=>⟨h,rfl⟩,Sz.refl w⟩
theorem Ev.trans {w:World} {γ:G} {w':World} {γ':G} {w'':World} {γ'':G} (h:Ev w γ w' γ') (k:Ev w' γ' w'' γ''):Ev w γ w'' γ'' where
 size:=Nat.le_trans h.size k.size
 ro b o hb hr:=by
  obtain ⟨h1,h2⟩:=h.ro b o hb hr
  obtain ⟨h3,h4⟩:=k.ro b o (Nat.lt_of_lt_of_le hb h.size) h1
  exact ⟨h3,h4.trans h2⟩
 β id b hb:=k.β id b (h.β id b hb)
 cur id:=Nat.le_trans (h.cur id) (k.cur id)
 mm b F hb:=k.mm b F (h.mm b F hb)
 lp:=k.lp.trans h.lp
 own id b hc ho:=by
  have h1:=h.cur id
  have h2:=k.cur id
  have e1:γ'.cur id=γ.cur id:=by omega
  have e2:γ''.cur id=γ'.cur id:=by omega
  obtain ⟨a1,a2,a3⟩:=h.own id b e1 ho
  obtain ⟨b1,b2,b3⟩:=k.own id b e2 a1
  refine ⟨b1,fun arr e hh=>?_,fun o ho=>a3 o (b3 o ho)⟩
  obtain ⟨arr',h3,h4⟩:=a2 arr e hh
  obtain ⟨arr'',h5,h6⟩:=b2 arr' e h3
  exact ⟨arr'',h5,Nat.le_trans h4 h6⟩
 sp b hb:=by
  obtain ⟨h1,h2⟩:=h.sp b hb
  obtain ⟨h3,h4⟩:=k.sp b h1
  exact ⟨h3,h4.trans h2⟩
 ss:=h.ss.trans k.ss
theorem EvR.trans {w:World} {γ:G} {w':World} {γ':G} {w'':World} {γ'':G} (h:EvR w γ w' γ') (k:EvR w' γ' w'' γ''):EvR w γ w'' γ'' where
 size:=Nat.le_trans h.size k.size
 ro b o hb hr:=by
  obtain ⟨h1,h2⟩:=h.ro b o hb hr
  obtain ⟨h3,h4⟩:=k.ro b o (Nat.lt_of_lt_of_le hb h.size) h1
  exact ⟨h3,h4.trans h2⟩
 β id b hb:=k.β id b (h.β id b hb)
 cur id:=Nat.le_trans (h.cur id) (k.cur id)
 mm b F hb:=k.mm b F (h.mm b F hb)
 lp i l hl:=k.lp i l (h.lp i l hl)
 own id b hc ho:=by
  have h1:=h.cur id
  have h2:=k.cur id
  have e1:γ'.cur id=γ.cur id:=by omega
  have e2:γ''.cur id=γ'.cur id:=by omega
  obtain ⟨a1,a2,a3⟩:=h.own id b e1 ho
  obtain ⟨b1,b2,b3⟩:=k.own id b e2 a1
  refine ⟨b1,fun arr e hh=>?_,fun o ho=>a3 o (b3 o ho)⟩
  obtain ⟨arr',h3,h4⟩:=a2 arr e hh
  obtain ⟨arr'',h5,h6⟩:=b2 arr' e h3
  exact ⟨arr'',h5,Nat.le_trans h4 h6⟩
 sp b hb:=by
  obtain ⟨h1,h2⟩:=h.sp b hb
  obtain ⟨h3,h4⟩:=k.sp b h1
  exact ⟨h3,h2.trans h4⟩
 ss:=h.ss.trans k.ss
theorem EvV.imm {w:World} {γ:G} {w':World} {γ':G} (h:EvV w γ w' γ'):EvV w γ.imm w' γ'.imm :=
 ⟨h.size,h.ro,fun _ _ h=>(by cases h),fun _=>Nat.le_refl _,fun _ _ h=>(by cases h),fun _ _ h=>(by cases h),fun _ _ _ h=>(by cases h),h.ss⟩
theorem EvR.imm {w:World} {γ:G} {w':World} {γ':G} (h:EvR w γ w' γ'):EvR w γ.imm w' γ'.imm :=
 ⟨h.size,h.ro,fun _ _ h=>(by cases h),fun _=>Nat.le_refl _,fun _ _ h=>(by cases h),fun _ _ h=>(by cases h),fun _ _ _ h=>(by cases h),fun _ h=>h.elim,h.ss⟩
theorem EvR.immE {w:World} {γ:G} {w':World} {γ':G} (h:EvR w γ w' γ'):Ev w γ.imm w' γ'.imm :=
 ⟨h.size,h.ro,fun _ _ h=>(by cases h),fun _=>Nat.le_refl _,fun _ _ h=>(by cases h),rfl,fun _ _ _ h=>(by cases h),fun _ h=>h.elim,h.ss⟩
theorem Ev.imm {w:World} {γ:G} {w':World} {γ':G} (h:Ev w γ w' γ'):Ev w γ.imm w' γ'.imm:=h.toR.immE
theorem Spare.monoR {w:World} {γ:G} {w':World} {γ':G} (h:EvV w γ w' γ') {a:Option Addr} {id len cap sz:Nat} (hc:γ'.cur id=γ.cur id) (hs:Spare w γ a id len cap sz) :
  Spare w' γ' a id len cap sz:=by
 obtain ⟨b,off,arr,e,ha,ho,hh,hsz,hro⟩:=hs
 obtain ⟨h1,h2,h3⟩:=h.own id b hc ho
 obtain ⟨arr',h4,h5⟩:=h2 arr e hh
 exact ⟨b,off,arr',e,ha,h1,h4,Nat.le_trans hsz h5,fun o ho hr=>hro o ho (h3 o hr)⟩
theorem Spare.mono {w:World} {γ:G} {w':World} {γ':G} (h:Ev w γ w' γ') {a:Option Addr} {id len cap sz:Nat} (hc:γ'.cur id=γ.cur id) (hs:Spare w γ a id len cap sz) :
  Spare w' γ' a id len cap sz:=Spare.monoR h.toR.toV hc hs
theorem RtOK.mono {w:World} {γ:G} {w':World} {γ':G} (h:EvV w γ w' γ') {a:Option Addr} {len cap sz:Nat} {rt:Rt} (hr:RtOK w γ a len cap sz rt):RtOK w' γ' a len cap sz rt:=by
 cases rt with
 | ro=>trivial
 | full=>exact hr
 | nil=>exact hr
 | nn=>exact hr
 | own id sz' =>
  obtain ⟨h1,h2,h3⟩:=hr
  have hcu:=h.cur id
  refine ⟨h1,Nat.le_trans h2 hcu,fun he=>?_⟩
  have e1:γ'.cur id=γ.cur id:=by omega
  exact (h3 (by omega)).imp_right (Spare.monoR h e1)
theorem Rep.monoV {w:World} {γ:G} {a:AV} {v:Value} (h:Rep w γ a v):∀ {w':World} {γ':G},EvV w γ w' γ'->Rep w' γ' a v:=by
 induction h with
 | junk v=>exact fun _=>.junk v
 | gd _ h' ih=>exact fun e=>.gd (fun hg=>ih hg e) h'
 | bool b=>exact fun _=>.bool b
 | int k n=>exact fun _=>.int k n
 | str s=>exact fun _=>.str s
 | nilfn=>exact fun _=>.nilfn
 | nilv p=>exact fun _=>.nilv p
 | yld h=>exact fun e=>.yld (e.lp _ _ h)
 | mp h=>exact fun e=>.mp (e.mm _ _ h)
 | it h=>exact fun e=>.it (e.mm _ _ h)
 | agg hl _ ih=>exact fun e=>.agg hl fun i c v h1 h2=>ih i c v h1 h2 e
 | tup hl _ ih=>exact fun e=>.tup hl fun i c v h1 h2=>ih i c v h1 h2 e
 | fn hl _ hl' _ ih ih'=>exact fun e=>.fn hl (fun i c v h1 h2=>ih i c v h1 h2 e) hl' fun i c v h1 h2=>ih' i c v h1 h2 e
 | ptr h=>exact fun e=>.ptr (e.β _ _ h)
 | bs h hl hh hs =>
  intro w' γ' e
  obtain ⟨arr',h1,h2⟩:=e.ss _ _ _ _ hh
  exact .bs (e.β _ _ h) hl h1 (by omega)
 | ep cv hb hc _ ih =>
  exact fun e=>.ep cv (Nat.lt_of_lt_of_le hb e.size) (fun j c hj=>⟨(e.ro _ _ hb (hc j c hj).2.1).2.trans (hc j c hj).1,(e.ro _ _ hb (hc j c hj).2.1).1,(hc j c hj).2.2⟩) fun j c hj=>ih j c hj e.imm
 | @sl γ rt rows a cap b off sz cv hcap hnil ha hsz hc _ hrt ih =>
  intro w' γ' e
  have hb:∀ i j c,Qr rows i j=some c->b < w.heap.size:=fun i j c hij=>(ha (by rintro rfl;simp [Qr] at hij)).2
  exact .sl b off sz cv hcap hnil (fun hn=>⟨(ha hn).1,Nat.lt_of_lt_of_le (ha hn).2 e.size⟩) hsz
   (fun i j c hij=>⟨(e.ro _ _ (hb i j c hij) (hc i j c hij).2.1).2.trans (hc i j c hij).1,(e.ro _ _ (hb i j c hij) (hc i j c hij).2.1).1,(hc i j c hij).2.2⟩)
   (fun i j c hij=>ih i j c hij e.imm) (hrt.mono e)
theorem Rep.monoR {w:World} {γ:G} {a:AV} {v:Value} (h:Rep w γ a v) {w':World} {γ':G} (e:EvR w γ w' γ'):Rep w' γ' a v:=h.monoV e.toV
theorem Rep.mono {w:World} {γ:G} {a:AV} {v:Value} (h:Rep w γ a v) {w':World} {γ':G} (e:Ev w γ w' γ'):Rep w' γ' a v:=h.monoR e.toR
def RepL (w:World) (γ:G) (as:List AV) (vs:List Value):Prop:=as.length=vs.length/\∀ (i:Nat) (a:AV) (v:Value),as[i]? = some a->vs[i]? = some v->Rep w γ a v
theorem RepL.mono {w:World} {γ:G} {as:List AV} {vs:List Value} (h:RepL w γ as vs) {w':World} {γ':G} (e:Ev w γ w' γ'):RepL w' γ' as vs :=
 ⟨h.1,fun i a v h1 h2=>(h.2 i a v h1 h2).mono e⟩
theorem RepL.monoV {w:World} {γ:G} {as:List AV} {vs:List Value} (h:RepL w γ as vs) {w':World} {γ':G} (e:EvV w γ w' γ'):RepL w' γ' as vs :=
 ⟨h.1,fun i a v h1 h2=>(h.2 i a v h1 h2).monoV e⟩
theorem RepL.monoR {w:World} {γ:G} {as:List AV} {vs:List Value} (h:RepL w γ as vs) {w':World} {γ':G} (e:EvR w γ w' γ'):RepL w' γ' as vs :=
 ⟨h.1,fun i a v h1 h2=>(h.2 i a v h1 h2).monoR e⟩
theorem RepL.nil {w:World} {γ:G}:RepL w γ [] []:=⟨rfl,fun i a v h=>(by simp at h)⟩
theorem RepL.cons {w:World} {γ:G} {a:AV} {v:Value} {as:List AV} {vs:List Value} (h:Rep w γ a v) (hs:RepL w γ as vs):RepL w γ (a::as) (v::vs) :=
 ⟨by simp [hs.1],fun i x y h1 h2=>by
  cases i with
  | zero=>simp at h1 h2;subst h1;subst h2;exact h
  | succ i=>simp at h1 h2;exact hs.2 i x y h1 h2⟩
theorem RepL.get {w:World} {γ:G} {as:List AV} {vs:List Value} (h:RepL w γ as vs) (i:Nat):Rep w γ (as.getD i .junk) (vs.getD i undef):=by
 rcases Nat.lt_or_ge i as.length with hi | hi
 ·have hi':i < vs.length:=h.1 ▸ hi
  refine h.2 i _ _ (?_:as[i]? = some _) (?_:vs[i]? = some _)
  ·simp [List.getD,hi]
  ·simp [List.getD,hi']
 ·simp [List.getD,List.getElem?_eq_none hi];exact .junk _
theorem RepL.set {w:World} {γ:G} {as:List AV} {vs:List Value} (h:RepL w γ as vs) (i:Nat) {a:AV} {v:Value} (ha:Rep w γ a v):RepL w γ (as.set i a) (vs.set i v):=by
 refine ⟨by simp [h.1],fun j x y h1 h2=>?_⟩
 by_cases hij:i=j
 ·subst hij
  rw [List.getElem?_set] at h1 h2
  simp only [if_true] at h1 h2
  split at h1<;>split at h2<;>simp_all
 ·rw [List.getElem?_set_ne hij] at h1 h2
  exact h.2 j x y h1 h2
theorem RepL.append {w:World} {γ:G} {as bs:List AV} {vs us:List Value} (h:RepL w γ as vs) (k:RepL w γ bs us):RepL w γ (as++bs) (vs++us):=by
 refine ⟨by simp [h.1,k.1],fun i x y h1 h2=>?_⟩
 rcases Nat.lt_or_ge i as.length with hi | hi
 ·rw [List.getElem?_append_left hi] at h1
  rw [List.getElem?_append_left (h.1 ▸ hi)] at h2
  exact h.2 i x y h1 h2
 ·rw [List.getElem?_append_right hi] at h1
  rw [List.getElem?_append_right (h.1 ▸ hi),<- h.1] at h2
  exact k.2 _ x y h1 h2
def RepP (w:World) (γ:G) (as:List AV) (vs:List Value):Prop:=as.length<=vs.length/\∀ (i:Nat) (a:AV) (v:Value),as[i]? = some a->vs[i]? = some v->Rep w γ a v
theorem RepL.toP {w:World} {γ:G} {as:List AV} {vs:List Value} (h:RepL w γ as vs):RepP w γ as vs:=⟨Nat.le_of_eq h.1,h.2⟩
theorem RepP.nil {w:World} {γ:G} {vs:List Value}:RepP w γ [] vs:=⟨Nat.zero_le _,fun i a v h=>(by simp at h)⟩
theorem RepP.monoV {w:World} {γ:G} {as:List AV} {vs:List Value} (h:RepP w γ as vs) {w':World} {γ':G} (e:EvV w γ w' γ'):RepP w' γ' as vs :=
 ⟨h.1,fun i a v h1 h2=>(h.2 i a v h1 h2).monoV e⟩
theorem RepP.monoR {w:World} {γ:G} {as:List AV} {vs:List Value} (h:RepP w γ as vs) {w':World} {γ':G} (e:EvR w γ w' γ'):RepP w' γ' as vs:=h.monoV e.toV
theorem RepP.mono {w:World} {γ:G} {as:List AV} {vs:List Value} (h:RepP w γ as vs) {w':World} {γ':G} (e:Ev w γ w' γ'):RepP w' γ' as vs:=h.monoR e.toR
theorem RepP.set {w:World} {γ:G} {as:List AV} {vs:List Value} (h:RepP w γ as vs) (i:Nat) {a:AV} {v:Value} (ha:Rep w γ a v):RepP w γ (as.set i a) (vs.set i v):=by
 refine ⟨by simpa using h.1,fun j x y h1 h2=>?_⟩
 by_cases hij:i=j
 ·subst hij
  rw [List.getElem?_set] at h1 h2
  simp only [if_true] at h1 h2
  split at h1<;>split at h2<;>simp_all
 ·rw [List.getElem?_set_ne hij] at h1 h2
  exact h.2 j x y h1 h2
end Go.Abs
namespace Go.Abs
open Go Go.RowKit
inductive LS where
 | gone
 | ready
 | busy
 | done (ex:Exit)
structure AM where
 boxes:List (List AV)
 lens:List Nat
 st:Nat->LS
 ln:Nat
def OI (γ:G) (b:Nat):Prop:=(∃ id,γ.β id=some b)\/(∃ id,γ.own id=some b)\/γ.sp b\/∃ id,γ.mm id=some b
structure Chg (γ:G) (w:World) (γ':G) (w':World):Prop where
 os:w'.os=w.os
 tape:w'.tape=w.tape
 output:w'.output=w.output
 size:w.heap.size<=w'.heap.size
 same:∀ b,b < w.heap.size->¬ OI γ b->w'.heap[b]? = w.heap[b]?
 ro:∀ b o,b < w.heap.size->γ.ro b o->γ'.ro b o/\w'.cell? ⟨b,o,none⟩=w.cell? ⟨b,o,none⟩
 oi:∀ b,OI γ' b->OI γ b\/w.heap.size<=b
 ron:∀ b o,γ'.ro b o->γ.ro b o\/OI γ b\/w.heap.size<=b
structure Bas where
 p:G->World->Prop
 st:∀ γ w γ' w',p γ w->Chg γ w γ' w'->p γ' w'
def Vj:Nat->List Int->Value
 | 0,[n]=>.int .i64 n
 | 0,_=>undef
 | _+1,ns=>.agg (ns.map (Value.int .i64)).toArray
def Ji:Nat->List Int->Prop
 | 0,ns=>ns.length=1
 | kn+1,ns=>ns.length=kn+1
def ObjOK (w:World) (γ:G):AV->Obj->Prop
 | .mobj kn kvs,.map es clock=>clock=es.size/\kvs.length=es.size /\
  ∀ (i:Nat) (k:List Int) (a:AV) (e:MapEntry),kvs[i]? = some (k,a)->es[i]? = some e->Ji kn k/\e.key=Vj kn k/\e.born=i/\Rep w γ a e.val
 | .mitr mid n seen,.mapIter (some mb) since sn st=>γ.mm mid=some mb/\since=n/\st=n/\sn.toList=seen
 | _,_=>False
def MapOK (w:World) (γ:G) (b:Nat) (x:Option (List AV)):Prop:=∃ a o,x=some [a]/\w.heap[b]? = some o/\ObjOK w γ a o
theorem ObjOK.mono {w w':World} {γ γ':G} {a:AV} {o:Obj} (h:ObjOK w γ a o) (ev:EvV w γ w' γ'):ObjOK w' γ' a o:=by
 unfold ObjOK at h |-
 split at h
 ·exact ⟨h.1,h.2.1,fun i k a e q1 q2=>⟨(h.2.2 i k a e q1 q2).1,(h.2.2 i k a e q1 q2).2.1,(h.2.2 i k a e q1 q2).2.2.1,(h.2.2 i k a e q1 q2).2.2.2.monoV ev⟩⟩
 ·exact ⟨ev.mm _ _ h.1,h.2⟩
 ·exact h.elim
theorem MapOK.mono {w w':World} {γ γ':G} {b:Nat} {x:Option (List AV)} (h:MapOK w γ b x) (ev:EvV w γ w' γ') (e:w'.heap[b]? = w.heap[b]?):MapOK w' γ' b x:=by
 obtain ⟨a,o,h1,h2,h3⟩:=h;exact ⟨a,o,h1,e.trans h2,h3.mono ev⟩
theorem MapOK.notCells {w:World} {γ:G} {b:Nat} {x:Option (List AV)} (h:MapOK w γ b x) {arr:Array Value} {e:TypeId} {f:Nat×Nat} (hh:w.heap[b]? = some (.cells arr e f)):False:=by
 obtain ⟨a,o,_,h2,h3⟩:=h
 rw [hh] at h2
 cases h2
 cases a<;>exact h3
structure MSim (N:Nat) (w0:Bas) (ro0:Nat->Nat->Prop) (γ:G) (w:World) (B:Nat->Option (List AV)) (L:Nat->Option Nat):Prop where
 bs:w0.p γ w
 hN:N<=w.heap.size
 ro0:∀ b o,γ.ro b o->ro0 b o\/N<=b
 robd:∀ b o,γ.ro b o->b < w.heap.size
 box:∀ id cells b,B id=some cells->γ.β id=some b->∃ arr e,w.heap[b]? = some (.cells arr e (0,0))/\RepP w γ cells arr.toList/\∀ v∈arr.toList,v.oneCell'=true
 β:∀ id b,γ.β id=some b->N<=b/\b < w.heap.size/\(∀ o,¬ γ.ro b o)/\(∀ id',γ.own id'≠some b)/\∃ cells,B id=some cells
 inj:∀ id id' b,γ.β id=some b->γ.β id'=some b->B id=some []\/B id'=some []\/id=id'
 own:∀ id b,γ.own id=some b->N<=b/\b < w.heap.size/\∃ n,L id=some n
 oinj:∀ id id' b,γ.own id=some b->γ.own id'=some b->id=id'
 sp:∀ b,γ.sp b->N<=b/\b < w.heap.size/\(∀ o,¬ γ.ro b o)/\(∀ id,γ.β id≠some b)/\(∀ id,γ.own id≠some b)
 mm:∀ id b,γ.mm id=some b->N<=b/\b < w.heap.size/\(∀ o,¬ γ.ro b o)/\(∀ id,γ.β id≠some b)/\(∀ id,γ.own id≠some b)/\¬ γ.sp b/\γ.β id=none/\MapOK w γ b (B id)
 minj:∀ id id' b,γ.mm id=some b->γ.mm id'=some b->id=id'
 len:∀ id n,L id=some n->γ.cur id=n
 cur0:∀ id,L id=none->γ.cur id=0
def AM.B (m:AM):Nat->Option (List AV):=fun id=>m.boxes[id]?
def AM.L (m:AM):Nat->Option Nat:=fun id=>m.lens[id]?
def G.grow (γ:G) (n n':Nat):G:={ γ with ro:=fun b o=>γ.ro b o\/(n<=b/\b < n') }
theorem cell_of_heap {w w':World} {b o:Nat} (h:w'.heap[b]? = w.heap[b]?):w'.cell? ⟨b,o,none⟩=w.cell? ⟨b,o,none⟩:=by
 simp [World.cell?,h]
theorem cell_of_block {w:World} {b o:Nat} {arr:Array Value} {e:TypeId} {f:Nat×Nat} (h:w.heap[b]? = some (.cells arr e f)):w.cell? ⟨b,o,none⟩=arr[o]? := by
 simp [World.cell?,h]
theorem Vv {w:World} {b o:Nat} {arr:Array Value} {e:TypeId} (h:w.heap[b]? = some (.cells arr e (0,0))):w.frozen? ⟨b,o,none⟩=false:=by
 simp [World.frozen?,h]
theorem lt_of_heap {w:World} {b:Nat} {x:Obj} (h:w.heap[b]? = some x):b < w.heap.size:=by
 rcases Nat.lt_or_ge b w.heap.size with h' | h'
 ·exact h'
 ·simp [Array.getElem?_eq_none h'] at h
theorem Ev.of_below {w w':World} {γ:G} (h:Below w.heap.size w w') (hown:∀ id b,γ.own id=some b->b < w.heap.size) (hsp:∀ b,γ.sp b->b < w.heap.size):Ev w γ w' (γ.grow w.heap.size w'.heap.size) where
 size:=h.size
 ro b o hb hr:=⟨.inl hr,cell_of_heap (h.block b hb)⟩
 β _ _ h:=h
 cur _:=Nat.le_refl _
 mm _ _ h:=h
 lp:=rfl
 own id b _ ho:=by
  have hb:=hown id b ho
  refine ⟨ho,fun arr e he=>⟨arr,by rw [h.block b hb];exact he,Nat.le_refl _⟩,fun o hr=>?_⟩
  rcases hr with hr | ⟨hr,_⟩
  ·exact hr
  ·omega
 sp b hb:=⟨hb,h.block b (hsp b hb)⟩
 ss:=Sz.of_same h.block
variable {N:Nat} {w0:Bas} {ro0:Nat->Nat->Prop} {γ:G} {w:World} {B:Nat->Option (List AV)} {L:Nat->Option Nat}
theorem MSim.ev_below (hm:MSim N w0 ro0 γ w B L) {w':World} (h:Below w.heap.size w w'):Ev w γ w' (γ.grow w.heap.size w'.heap.size) :=
 Ev.of_below h (fun id b hb=>(hm.own id b hb).2.1) fun b hb=>(hm.sp b hb).2.1
theorem MSim.grow (hm:MSim N w0 ro0 γ w B L) {w':World} (h:Below w.heap.size w w'):MSim N w0 ro0 (γ.grow w.heap.size w'.heap.size) w' B L where
 bs:=w0.st _ _ _ _ hm.bs ⟨h.os,h.tape,h.output,h.size,fun b hb _=>h.block b hb,(hm.ev_below h).ro,fun b hb=>.inl hb,fun b o hr=>hr.imp_right fun h=>.inr h.1⟩
 hN:=Nat.le_trans hm.hN h.size
 ro0 b o hr:=by
  rcases hr with hr | ⟨hr,_⟩
  ·exact hm.ro0 b o hr
  ·exact .inr (Nat.le_trans hm.hN hr)
 robd b o hr:=by
  rcases hr with hr | ⟨_,hr⟩
  ·exact Nat.lt_of_lt_of_le (hm.robd b o hr) h.size
  ·exact hr
 box id cells b hb h1:=by
  obtain ⟨arr,e,h2,h3,h4⟩:=hm.box id cells b hb h1
  exact ⟨arr,e,by rw [h.block b (lt_of_heap h2)];exact h2,h3.mono (hm.ev_below h),h4⟩
 β id b hb:=by
  obtain ⟨h1,h2,h3,h4,h5⟩:=hm.β id b hb
  refine ⟨h1,Nat.lt_of_lt_of_le h2 h.size,fun o hr=>?_,h4,h5⟩
  rcases hr with hr | ⟨hr,_⟩
  ·exact h3 o hr
  ·omega
 inj:=hm.inj
 own id b hb:=by
  obtain ⟨h1,h2,h3⟩:=hm.own id b hb
  exact ⟨h1,Nat.lt_of_lt_of_le h2 h.size,h3⟩
 oinj:=hm.oinj
 sp b hb:=by
  obtain ⟨h1,h2,h3,h4⟩:=hm.sp b hb
  refine ⟨h1,Nat.lt_of_lt_of_le h2 h.size,fun o hr=>?_,h4⟩
  rcases hr with hr | ⟨hr,_⟩
  ·exact h3 o hr
  ·omega
 mm id b hb:=by
  obtain ⟨h1,h2,h3,h4,h5,h6,h8,h7⟩:=hm.mm id b hb
  refine ⟨h1,Nat.lt_of_lt_of_le h2 h.size,fun o hr=>?_,h4,h5,h6,h8,h7.mono (hm.ev_below h).toR.toV (h.block b h2)⟩
  rcases hr with hr | ⟨hr,_⟩
  ·exact h3 o hr
  ·omega
 minj:=hm.minj
 len:=hm.len
 cur0:=hm.cur0
def G.box (γ:G) (id b:Nat):G:={ γ with β:=fun i=>if i=id then some b else γ.β i }
theorem MSim.ev_box (hm:MSim N w0 ro0 γ w B L) (id:Nat) (hid:B id=none) (o:Obj):Ev w γ (w.alloc o) (γ.box id w.heap.size) where
 size:=by simp
 ro b o' hb hr:=⟨hr,cell_of_heap (Below.heap_alloc w o b hb)⟩
 β i b hb:=by
  have:i≠id:=by rintro rfl;obtain ⟨_,_,_,_,c,hc⟩:=hm.β i b hb;rw [hid] at hc;cases hc
  simp [G.box,this,hb]
 cur _:=Nat.le_refl _
 mm _ _ h:=h
 lp:=rfl
 own i b _ ho:=⟨ho,fun arr e he=>⟨arr,by rw [Below.heap_alloc w o b (hm.own i b ho).2.1];exact he,Nat.le_refl _⟩,fun _ h=>h⟩
 sp b hb:=⟨hb,Below.heap_alloc w o b (hm.sp b hb).2.1⟩
 ss:=Sz.of_same (Below.heap_alloc w o)
theorem MSim.newBox (hm:MSim N w0 ro0 γ w B L) (id:Nat) (hid:B id=none) {cells:List AV} {arr:Array Value} {e:TypeId} (hr:RepP w γ cells arr.toList) (h1c:∀ v∈arr.toList,v.oneCell'=true) :
  MSim N w0 ro0 (γ.box id w.heap.size) (w.alloc (.cells arr e)) (fun i=>if i=id then some cells else B i) L where
 bs:=w0.st _ _ _ _ hm.bs ⟨rfl,rfl,rfl,by simp,fun b hb _=>Below.heap_alloc w _ b hb,(hm.ev_box id hid _).ro,fun b hb=>by
  rcases hb with ⟨i,hi⟩ | hb | hb
  ·by_cases h:i=id
   ·simp [G.box,h] at hi;exact .inr (by omega)
   ·simp [G.box,h] at hi;exact .inl (.inl ⟨i,hi⟩)
  ·exact .inl (.inr (.inl hb))
  ·exact .inl (.inr (.inr hb)),fun _ _ h=>.inl h⟩
 hN:=by have:=hm.hN;simp;omega
 ro0:=hm.ro0
 robd b o h:=by have:=hm.robd b o h;simp;omega
 box i cs b hb h1:=by
  by_cases hi:i=id
  ·subst hi
   simp at hb
   subst hb
   simp [G.box] at h1
   subst h1
   exact ⟨arr,e,by show (w.heap.push _)[w.heap.size]? = _;simp,hr.mono (hm.ev_box i hid _),h1c⟩
  ·simp [hi] at hb
   simp [G.box,hi] at h1
   obtain ⟨arr',e',h2,h3,h4⟩:=hm.box i cs b hb h1
   exact ⟨arr',e',by rw [Below.heap_alloc w _ b (lt_of_heap h2)];exact h2,h3.mono (hm.ev_box id hid _),h4⟩
 β i b hb:=by
  by_cases hi:i=id
  ·subst hi
   simp [G.box] at hb
   subst hb
   refine ⟨hm.hN,by simp,fun o h=>?_,fun i' h=>?_,cells,by simp⟩
   ·have:=hm.robd _ o h;omega
   ·have:=(hm.own i' _ h).2.1;omega
  ·simp [G.box,hi] at hb
   obtain ⟨h1,h2,h3,h4,c,hc⟩:=hm.β i b hb
   exact ⟨h1,by simp;omega,h3,h4,c,by simp [hi,hc]⟩
 inj i i' b h h':=by
  by_cases hi:i=id<;>by_cases hi':i'=id
  ·exact .inr (.inr (by rw [hi,hi']))
  ·simp [G.box,hi] at h
   simp [G.box,hi'] at h'
   have:=(hm.β i' b h').2.1;omega
  ·simp [G.box,hi'] at h'
   simp [G.box,hi] at h
   have:=(hm.β i b h).2.1;omega
  ·simp [G.box,hi] at h
   simp [G.box,hi'] at h'
   simp only [if_neg hi,if_neg hi']
   exact hm.inj i i' b h h'
 own i b hb:=by
  obtain ⟨h1,h2,h3⟩:=hm.own i b hb
  exact ⟨h1,by simp;omega,h3⟩
 oinj:=hm.oinj
 sp b hb:=by
  obtain ⟨h1,h2,h3,h4,h5⟩:=hm.sp b hb
  refine ⟨h1,by simp;omega,h3,fun i hi=>?_,h5⟩
  by_cases hid:i=id
  ·simp [G.box,hid] at hi;omega
  ·simp [G.box,hid] at hi;exact h4 i hi
 mm i' b hb:=by
  obtain ⟨h1,h2,h3,h4,h5,h6,h8,h7⟩:=hm.mm i' b hb
  have hne:i'≠id:=by
   rintro rfl
   obtain ⟨_,_,hx,_⟩:=h7
   rw [hid] at hx;cases hx
  refine ⟨h1,by simp;omega,h3,fun i hi=>?_,h5,h6,by simp [G.box,hne,h8],?_⟩
  ·by_cases hid:i=id
   ·simp [G.box,hid] at hi;omega
   ·simp [G.box,hid] at hi;exact h4 i hi
  ·simp only [hne,if_false]
   exact h7.mono (hm.ev_box id hid _).toR.toV (Below.heap_alloc w _ b h2)
 minj:=hm.minj
 len:=hm.len
 cur0:=hm.cur0
def Kt (arr:Array Value):Nat->List Value->Array Value
 | _,[]=>arr
 | o,v::r=>Kt (arr.setIfInBounds o v) (o+1) r
theorem Um:∀ (vs:List Value) (arr:Array Value) (o:Nat),(Kt arr o vs).size=arr.size
 | [],_,_=>rfl
 | v::r,arr,o=>by rw [Kt,Um r];simp
theorem heap_setCell_same {w:World} {b o:Nat} {arr:Array Value} {e:TypeId} {f:Nat×Nat} (h:w.heap[b]? = some (.cells arr e f)) (v:Value) :
  (w.setCell ⟨b,o,none⟩ v).heap[b]? = some (.cells (arr.setIfInBounds o v) e f):=by
 simp [World.setCell,Array.getElem?_modify,h]
theorem Xr (b:Nat):∀ (vs:List Value) (o:Nat) (w:World) (arr:Array Value) (e:TypeId) (f:Nat×Nat),w.heap[b]? = some (.cells arr e f) ->
  (w.setCells b o vs).heap[b]? = some (.cells (Kt arr o vs) e f)
 | [],_,_,_,_,_,h=>h
 | v::r,o,w,arr,e,f,h=>by
  rw [World.setCells,Kt]
  exact Xr b r (o+1) _ _ e f (heap_setCell_same h v)
theorem Xi (b:Nat) {N:Nat} (hb:N<=b):∀ (vs:List Value) (o:Nat) (w:World),Below N w (w.setCells b o vs)
 | [],_,_=>Below.refl _ _
 | v::r,o,w=>by
  rw [World.setCells]
  exact ((Below.refl N w).setCell (p:=⟨b,o,none⟩) hb v).trans (Xi b hb r (o+1) _)
theorem Qu (b:Nat):∀ (vs:List Value) (o:Nat) (w:World) (b':Nat),b'≠b->(w.setCells b o vs).heap[b']? = w.heap[b']?
 | [],_,_,_,_=>rfl
 | v::r,o,w,b',h=>by
  rw [World.setCells,Qu b r (o+1) _ b' h]
  exact Below.heap_setCell w ⟨b,o,none⟩ v b' h
theorem setCells_size (b:Nat):∀ (vs:List Value) (o:Nat) (w:World),(w.setCells b o vs).heap.size=w.heap.size
 | [],_,_=>rfl
 | v::r,o,w=>by
  rw [World.setCells,setCells_size b r]
  simp [World.setCell]
theorem Sz.setCells (b o:Nat) (vs:List Value) (w:World):Sz w (w.setCells b o vs):=fun b' arr e f h=>by
 by_cases hb:b'=b
 ·subst hb;exact ⟨_,Xr b' vs o w arr e f h,Um vs arr o⟩
 ·exact ⟨arr,(Qu b vs o w b' hb).trans h,rfl⟩
def setA (cs:List AV):Nat->List AV->List AV
 | _,[]=>cs
 | o,a::r=>setA (cs.set o a) (o+1) r
theorem Qab:∀ (vs:List Value) (o:Nat) (arr:Array Value),(∀ v∈arr.toList,v.oneCell'=true)->(∀ v∈vs,v.oneCell'=true)->∀ v∈(Kt arr o vs).toList,v.oneCell'=true
 | [],_,_,h,_=>h
 | u::vs,o,arr,h,h'=>by
  rw [Kt]
  refine Qab vs (o+1) _ (fun v hv=>?_) (fun v hv=>h' v (by simp [hv]))
  rw [Array.toList_setIfInBounds] at hv
  rcases List.mem_or_eq_of_mem_set hv with hv | rfl
  ·exact h v hv
  ·exact h' _ (by simp)
theorem RepL.setA {w:World} {γ:G}:∀ {as:List AV} {vs:List Value} {o:Nat} {cs:List AV} {arr:Array Value},RepL w γ as vs->RepL w γ cs arr.toList->RepL w γ (setA cs o as) (Kt arr o vs).toList
 | [],[],_,_,_,_,h=>h
 | [],_::_,_,_,_,h,_=>by have:=h.1;simp at this
 | _::_,[],_,_,_,h,_=>by have:=h.1;simp at this
 | a::as,v::vs,o,cs,arr,h,hc=>by
  have h0:Rep w γ a v:=h.2 0 a v rfl rfl
  have hs:RepL w γ as vs:=⟨by have:=h.1;simpa using this,fun i x y h1 h2=>h.2 (i+1) x y (by simpa using h1) (by simpa using h2)⟩
  rw [Abs.setA,Kt]
  refine RepL.setA hs ?_
  rw [Array.toList_setIfInBounds]
  exact hc.set o h0
theorem RepP.setA {w:World} {γ:G}:∀ {as:List AV} {vs:List Value} {o:Nat} {cs:List AV} {arr:Array Value},RepL w γ as vs->RepP w γ cs arr.toList->RepP w γ (setA cs o as) (Kt arr o vs).toList
 | [],[],_,_,_,_,h=>h
 | [],_::_,_,_,_,h,_=>by have:=h.1;simp at this
 | _::_,[],_,_,_,h,_=>by have:=h.1;simp at this
 | a::as,v::vs,o,cs,arr,h,hc=>by
  have h0:Rep w γ a v:=h.2 0 a v rfl rfl
  have hs:RepL w γ as vs:=⟨by have:=h.1;simpa using this,fun i x y h1 h2=>h.2 (i+1) x y (by simpa using h1) (by simpa using h2)⟩
  rw [Abs.setA,Kt]
  refine RepP.setA hs ?_
  rw [Array.toList_setIfInBounds]
  exact hc.set o h0
theorem MSim.ev_store (hm:MSim N w0 ro0 γ w B L) {id b:Nat} (hb:γ.β id=some b) (o:Nat) (vs:List Value):Ev w γ (w.setCells b o vs) γ where
 size:=by rw [setCells_size];exact Nat.le_refl _
 ro b' o' _ hr:=⟨hr,cell_of_heap (Qu b vs o w b' (by rintro rfl;exact (hm.β id b' hb).2.2.1 o' hr))⟩
 β _ _ h:=h
 cur _:=Nat.le_refl _
 mm _ _ h:=h
 lp:=rfl
 own i b' _ ho:=by
  have hne:b'≠b:=by rintro rfl;exact (hm.β id b' hb).2.2.2.1 i ho
  exact ⟨ho,fun arr e he=>⟨arr,by rw [Qu b vs o w b' hne];exact he,Nat.le_refl _⟩,fun _ h=>h⟩
 sp b' hb':=⟨hb',Qu b vs o w b' (by rintro rfl;exact (hm.sp b' hb').2.2.2.1 id hb)⟩
 ss:=Sz.setCells b o vs w
theorem MSim.store (hm:MSim N w0 ro0 γ w B L) {id:Nat} {cells:List AV} (hB:B id=some cells) {b:Nat} {arr:Array Value} {e:TypeId} (hb:γ.β id=some b)
  (hh:w.heap[b]? = some (.cells arr e (0,0))) (hr:RepP w γ cells arr.toList) (h1c:∀ v∈arr.toList,v.oneCell'=true) {o:Nat} {as:List AV} {vs:List Value} (ha:RepL w γ as vs) (h1v:∀ v∈vs,v.oneCell'=true) (hne0:cells≠[]) :
  MSim N w0 ro0 γ (w.setCells b o vs) (fun i=>if i=id then some (setA cells o as) else B i) L where
 bs:=w0.st _ _ _ _ hm.bs ⟨(Xi b (Nat.le_refl b) vs o w).os,(Xi b (Nat.le_refl b) vs o w).tape,(Xi b (Nat.le_refl b) vs o w).output,by rw [setCells_size];exact Nat.le_refl _,
  fun b' _ hno=>Qu b vs o w b' (by rintro rfl;exact hno (.inl ⟨id,hb⟩)),(hm.ev_store hb o vs).ro,fun b hb=>.inl hb,fun _ _ h=>.inl h⟩
 hN:=by rw [setCells_size];exact hm.hN
 ro0:=hm.ro0
 robd b' o' h:=by rw [setCells_size];exact hm.robd b' o' h
 box i cs b' hbi h1:=by
  by_cases hi:i=id
  ·subst hi
   simp at hbi
   subst hbi
   obtain rfl:b'=b:=Option.some.inj (h1.symm.trans hb)
   exact ⟨_,e,Xr b' vs o w arr e _ hh,(RepP.setA ha hr).mono (hm.ev_store hb o vs),Qab vs o arr h1c h1v⟩
  ·simp [hi] at hbi
   obtain ⟨arr',e',h2,h3,h4⟩:=hm.box i cs b' hbi h1
   by_cases hne:b'=b
   ·subst hne
    rcases hm.inj _ _ _ h1 hb with h | h | h
    ·rw [h] at hbi;cases hbi
     exact ⟨_,e,Xr b' vs o w arr e _ hh,RepP.nil,Qab vs o arr h1c h1v⟩
    ·rw [h] at hB;cases hB;exact absurd rfl hne0
    ·exact absurd h hi
   ·exact ⟨arr',e',by rw [Qu b vs o w b' hne];exact h2,h3.mono (hm.ev_store hb o vs),h4⟩
 β i b' hbi:=by
  obtain ⟨h1,h2,h3,h4,c,hc⟩:=hm.β i b' hbi
  refine ⟨h1,by rw [setCells_size];exact h2,h3,h4,?_⟩
  by_cases hi:i=id
  ·exact ⟨setA cells o as,by simp [hi]⟩
  ·exact ⟨c,by simp [hi,hc]⟩
 inj i i' b' h h':=by
  rcases hm.inj i i' b' h h' with k | k | k
  ·refine .inl ?_
   by_cases hi:i=id
   ·subst hi;rw [k] at hB;cases hB;exact absurd rfl hne0
   ·simp only [if_neg hi];exact k
  ·refine .inr (.inl ?_)
   by_cases hi:i'=id
   ·subst hi;rw [k] at hB;cases hB;exact absurd rfl hne0
   ·simp only [if_neg hi];exact k
  ·exact .inr (.inr k)
 own i b' hbi:=by
  obtain ⟨h1,h2,h3⟩:=hm.own i b' hbi
  exact ⟨h1,by rw [setCells_size];exact h2,h3⟩
 oinj:=hm.oinj
 sp b' hb':=by
  obtain ⟨h1,h2,h3⟩:=hm.sp b' hb'
  exact ⟨h1,by rw [setCells_size];exact h2,h3⟩
 mm i' b' hb':=by
  obtain ⟨h1,h2,h3,h4,h5,h6,h8,h7⟩:=hm.mm i' b' hb'
  have hne:i'≠id:=by rintro rfl;rw [hb] at h8;cases h8
  refine ⟨h1,by rw [setCells_size];exact h2,h3,h4,h5,h6,h8,?_⟩
  simp only [hne,if_false]
  exact h7.mono (hm.ev_store hb o vs).toR.toV (Qu b vs o w b' (by rintro rfl;exact h4 id hb))
 minj:=hm.minj
 len:=hm.len
 cur0:=hm.cur0
def G.extend (γ:G) (id b p q n:Nat):G:={ γ with cur:=fun i=>if i=id then n else γ.cur i,ro:=fun b' o=>γ.ro b' o\/(b'=b/\p<=o/\o < q) }
theorem MSim.ev_extend (hm:MSim N w0 ro0 γ w B L) {id b p q n:Nat} {vs:List Value} (ho:γ.own id=some b) (hn:γ.cur id<=n) (hq:γ.cur id=n->q<=p) (hpq:q=p+vs.length) (hfree:∀ o,p<=o->¬ γ.ro b o):Ev w γ (w.setCells b p vs) (γ.extend id b p q n) where
 size:=by rw [setCells_size];exact Nat.le_refl _
 ro b' o' _ hr:=by
  refine ⟨.inl hr,World.cell?_setCells_out b vs p w _ fun e1 _=>?_⟩
  simp only at e1 |-
  subst e1
  rcases Nat.lt_or_ge o' p with h | h
  ·exact .inl h
  ·exact absurd hr (hfree o' h)
 β _ _ h:=h
 cur i:=by
  simp only [G.extend]
  split
  ·rename_i h;subst h;exact hn
  ·exact Nat.le_refl _
 mm _ _ h:=h
 lp:=rfl
 own i b' hc hoi:=by
  by_cases hi:i=id
  ·subst hi
   obtain rfl:b'=b:=Option.some.inj (hoi.symm.trans ho)
   simp only [G.extend,if_true] at hc
   have:=hq hc.symm
   have hvs:vs=[]:=List.eq_nil_of_length_eq_zero (by omega)
   subst hvs
   refine ⟨hoi,fun arr e he=>⟨arr,he,Nat.le_refl _⟩,fun o hr=>?_⟩
   rcases hr with hr | ⟨_,h1,h2⟩
   ·exact hr
   ·omega
  ·have hne:b'≠b:=by rintro rfl;exact hi (hm.oinj _ _ _ hoi ho)
   refine ⟨hoi,fun arr e he=>⟨arr,by rw [Qu b vs p w b' hne];exact he,Nat.le_refl _⟩,fun o hr=>?_⟩
   rcases hr with hr | ⟨h1,_,_⟩
   ·exact hr
   ·exact absurd h1 hne
 sp b' hb':=⟨hb',Qu b vs p w b' (by rintro rfl;exact (hm.sp b' hb').2.2.2.2 id ho)⟩
 ss:=Sz.setCells b p vs w
theorem MSim.extend (hm:MSim N w0 ro0 γ w B L) {id b p q n:Nat} {vs:List Value} (ho:γ.own id=some b) (hn:γ.cur id<=n) (hq:γ.cur id=n->q<=p) (hpq:q=p+vs.length) (hfree:∀ o,p<=o->¬ γ.ro b o) :
  MSim N w0 ro0 (γ.extend id b p q n) (w.setCells b p vs) B (fun i=>if i=id then some n else L i) where
 bs:=w0.st _ _ _ _ hm.bs ⟨(Xi b (Nat.le_refl b) vs p w).os,(Xi b (Nat.le_refl b) vs p w).tape,(Xi b (Nat.le_refl b) vs p w).output,by rw [setCells_size];exact Nat.le_refl _,
  fun b' _ hno=>Qu b vs p w b' (by rintro rfl;exact hno (.inr (.inl ⟨id,ho⟩))),(hm.ev_extend ho hn hq hpq hfree).ro,fun b hb=>.inl hb,fun b' o' hr=>hr.imp_right fun h=>.inl (by rw [h.1];exact .inr (.inl ⟨id,ho⟩))⟩
 hN:=by rw [setCells_size];exact hm.hN
 ro0 b' o' hr:=by
  rcases hr with hr | ⟨rfl,_,_⟩
  ·exact hm.ro0 b' o' hr
  ·exact .inr (hm.own id b' ho).1
 robd b' o' hr:=by
  rw [setCells_size]
  rcases hr with hr | ⟨rfl,_,_⟩
  ·exact hm.robd b' o' hr
  ·exact (hm.own id b' ho).2.1
 box i cs b' hbi h1:=by
  obtain ⟨arr',e',h2,h3,h4⟩:=hm.box i cs b' hbi h1
  have hne:b'≠b:=by rintro rfl;exact (hm.β i b' h1).2.2.2.1 id ho
  exact ⟨arr',e',by rw [Qu b vs p w b' hne];exact h2,h3.mono (hm.ev_extend ho hn hq hpq hfree),h4⟩
 β i b' hbi:=by
  obtain ⟨h1,h2,h3,h4,hc⟩:=hm.β i b' hbi
  refine ⟨h1,by rw [setCells_size];exact h2,fun o hr=>?_,h4,hc⟩
  rcases hr with hr | ⟨rfl,_,_⟩
  ·exact h3 o hr
  ·exact h4 id ho
 inj:=hm.inj
 own i b' hbi:=by
  obtain ⟨h1,h2,m,hm'⟩:=hm.own i b' hbi
  refine ⟨h1,by rw [setCells_size];exact h2,?_⟩
  by_cases hi:i=id
  ·exact ⟨n,by simp [hi]⟩
  ·exact ⟨m,by simp [hi,hm']⟩
 oinj:=hm.oinj
 sp b' hb':=by
  obtain ⟨h1,h2,h3,h4,h5⟩:=hm.sp b' hb'
  refine ⟨h1,by rw [setCells_size];exact h2,fun o hr=>?_,h4,h5⟩
  rcases hr with hr | ⟨rfl,_,_⟩
  ·exact h3 o hr
  ·exact h5 id ho
 mm i' b' hb':=by
  obtain ⟨h1,h2,h3,h4,h5,h6,h8,h7⟩:=hm.mm i' b' hb'
  have hne:b'≠b:=by rintro rfl;exact h5 id ho
  refine ⟨h1,by rw [setCells_size];exact h2,fun o hr=>?_,h4,h5,h6,h8,h7.mono (hm.ev_extend ho hn hq hpq hfree).toR.toV (Qu b vs p w b' hne)⟩
  rcases hr with hr | ⟨rfl,_,_⟩
  ·exact h3 o hr
  ·exact hne rfl
 minj:=hm.minj
 len i m hi:=by
  by_cases h:i=id
  ·simp [h] at hi;simp [G.extend,h,hi]
  ·simp [h] at hi;simp [G.extend,h,hm.len i m hi]
 cur0 i hi:=by
  by_cases h:i=id
  ·simp [h] at hi
  ·simp [h] at hi;simp [G.extend,h,hm.cur0 i hi]
def G.renew (γ:G) (id b q n:Nat):G:={ γ with own:=fun i=>if i=id then some b else γ.own i,cur:=fun i=>if i=id then n else γ.cur i,ro:=fun b' o=>γ.ro b' o\/(b'=b/\o < q) }
theorem MSim.ev_renew (hm:MSim N w0 ro0 γ w B L) {id q n:Nat} (hn:γ.cur id<=n) (hne:γ.cur id=n->γ.own id=none) (o:Obj):Ev w γ (w.alloc o) (γ.renew id w.heap.size q n) where
 size:=by simp
 ro b' o' hb hr:=⟨.inl hr,cell_of_heap (Below.heap_alloc w o b' hb)⟩
 β _ _ h:=h
 cur i:=by
  simp only [G.renew]
  split
  ·rename_i h;subst h;exact hn
  ·exact Nat.le_refl _
 mm _ _ h:=h
 lp:=rfl
 own i b' hc hoi:=by
  by_cases hi:i=id
  ·subst hi
   simp only [G.renew,if_true] at hc
   rw [hne hc.symm] at hoi
   cases hoi
  ·have hlt:=(hm.own i b' hoi).2.1
   refine ⟨by simp [G.renew,hi,hoi],fun arr e he=>⟨arr,by rw [Below.heap_alloc w o b' hlt];exact he,Nat.le_refl _⟩,fun o' hr=>?_⟩
   rcases hr with hr | ⟨h1,_⟩
   ·exact hr
   ·omega
 sp b hb:=⟨hb,Below.heap_alloc w o b (hm.sp b hb).2.1⟩
 ss:=Sz.of_same (Below.heap_alloc w o)
theorem MSim.renew (hm:MSim N w0 ro0 γ w B L) {id q n:Nat} (hn:γ.cur id<=n) (hne:γ.cur id=n->γ.own id=none) (o:Obj) :
  MSim N w0 ro0 (γ.renew id w.heap.size q n) (w.alloc o) B (fun i=>if i=id then some n else L i) where
 bs:=w0.st _ _ _ _ hm.bs ⟨rfl,rfl,rfl,by simp,fun b hb _=>Below.heap_alloc w _ b hb,(hm.ev_renew hn hne o).ro,fun b hb=>by
  rcases hb with hb | ⟨i,hi⟩ | hb
  ·exact .inl (.inl hb)
  ·by_cases h:i=id
   ·simp [G.renew,h] at hi;exact .inr (by omega)
   ·simp [G.renew,h] at hi;exact .inl (.inr (.inl ⟨i,hi⟩))
  ·exact .inl (.inr (.inr hb)),fun b' o' hr=>hr.imp_right fun h=>.inr (by rw [h.1];exact Nat.le_refl _)⟩
 hN:=by have:=hm.hN;simp;omega
 ro0 b' o' hr:=by
  rcases hr with hr | ⟨rfl,_⟩
  ·exact hm.ro0 b' o' hr
  ·exact .inr hm.hN
 robd b' o' hr:=by
  rcases hr with hr | ⟨rfl,_⟩
  ·have:=hm.robd b' o' hr;simp;omega
  ·simp
 box i cs b' hbi h1:=by
  obtain ⟨arr',e',h2,h3,h4⟩:=hm.box i cs b' hbi h1
  exact ⟨arr',e',by rw [Below.heap_alloc w _ b' (lt_of_heap h2)];exact h2,h3.mono (hm.ev_renew hn hne o),h4⟩
 β i b' hbi:=by
  obtain ⟨h1,h2,h3,h4,hc⟩:=hm.β i b' hbi
  refine ⟨h1,by simp;omega,fun o' hr=>?_,fun i' hr=>?_,hc⟩
  ·rcases hr with hr | ⟨rfl,_⟩
   ·exact h3 o' hr
   ·omega
  ·by_cases hi:i'=id
   ·simp [G.renew,hi] at hr;omega
   ·simp [G.renew,hi] at hr;exact h4 i' hr
 inj:=hm.inj
 own i b' hbi:=by
  by_cases hi:i=id
  ·simp [G.renew,hi] at hbi
   subst hbi
   exact ⟨hm.hN,by simp,n,by simp [hi]⟩
  ·simp [G.renew,hi] at hbi
   obtain ⟨h1,h2,m,hm'⟩:=hm.own i b' hbi
   exact ⟨h1,by simp;omega,m,by simp [hi,hm']⟩
 oinj i i' b' h h':=by
  by_cases hi:i=id<;>by_cases hi':i'=id
  ·rw [hi,hi']
  ·simp [G.renew,hi] at h
   simp [G.renew,hi'] at h'
   have:=(hm.own i' b' h').2.1;omega
  ·simp [G.renew,hi'] at h'
   simp [G.renew,hi] at h
   have:=(hm.own i b' h).2.1;omega
  ·simp [G.renew,hi] at h
   simp [G.renew,hi'] at h'
   exact hm.oinj i i' b' h h'
 sp b hb:=by
  obtain ⟨h1,h2,h3,h4,h5⟩:=hm.sp b hb
  refine ⟨h1,by simp;omega,fun o' hr=>?_,h4,fun i hi=>?_⟩
  ·rcases hr with hr | ⟨rfl,_⟩
   ·exact h3 o' hr
   ·omega
  ·by_cases h:i=id
   ·simp [G.renew,h] at hi;omega
   ·simp [G.renew,h] at hi;exact h5 i hi
 minj:=hm.minj
 mm i' b hb:=by
  obtain ⟨h1,h2,h3,h4,h5,h6,h8,h7⟩:=hm.mm i' b hb
  refine ⟨h1,by simp;omega,fun o' hr=>?_,h4,fun i hi=>?_,h6,h8,h7.mono (hm.ev_renew hn hne o).toR.toV (Below.heap_alloc w _ b h2)⟩
  ·rcases hr with hr | ⟨rfl,_⟩
   ·exact h3 o' hr
   ·omega
  ·by_cases h:i=id
   ·simp [G.renew,h] at hi;omega
   ·simp [G.renew,h] at hi;exact h5 i hi
 len i m hi:=by
  by_cases h:i=id
  ·simp [h] at hi;simp [G.renew,h,hi]
  ·simp [h] at hi;simp [G.renew,h,hm.len i m hi]
 cur0 i hi:=by
  by_cases h:i=id
  ·simp [h] at hi
  ·simp [h] at hi;simp [G.renew,h,hm.cur0 i hi]
theorem MSim.drew (hm:MSim N w0 ro0 γ w B L):MSim N w0 ro0 γ w.drew B L where
 bs:=w0.st _ _ _ _ hm.bs ⟨rfl,rfl,rfl,Nat.le_refl _,fun _ _ _=>rfl,fun _ _ _ h=>⟨h,rfl⟩,fun _ hb=>.inl hb,fun _ _ h=>.inl h⟩
 hN:=hm.hN
 ro0:=hm.ro0
 robd:=hm.robd
 box i cs b hb h1:=by
  obtain ⟨arr,e,h2,h3,h4⟩:=hm.box i cs b hb h1
  exact ⟨arr,e,h2,h3.mono ⟨Nat.le_refl _,fun _ _ _ h=>⟨h,rfl⟩,fun _ _ h=>h,fun _=>Nat.le_refl _,fun _ _ h=>h,rfl,fun _ _ _ h=>⟨h,fun arr _ h=>⟨arr,h,Nat.le_refl _⟩,fun _ h=>h⟩,fun _ h=>⟨h,rfl⟩,Sz.refl w⟩,h4⟩
 β:=hm.β
 inj:=hm.inj
 own:=hm.own
 oinj:=hm.oinj
 sp:=hm.sp
 mm i b hb:=by
  obtain ⟨h1,h2,h3,h4,h5,h6,h8,h7⟩:=hm.mm i b hb
  exact ⟨h1,h2,h3,h4,h5,h6,h8,h7.mono (w':=w.drew) (γ':=γ) ⟨Nat.le_refl _,fun _ _ _ h=>⟨h,rfl⟩,fun _ _ h=>h,fun _=>Nat.le_refl _,fun _ _ h=>h,fun _ _ h=>h,fun _ _ _ h=>⟨h,fun arr _ h=>⟨arr,h,Nat.le_refl _⟩,fun _ h=>h⟩,Sz.refl w⟩ rfl⟩
 minj:=hm.minj
 len:=hm.len
 cur0:=hm.cur0
theorem Ev.drew (w:World) (γ:G):Ev w γ w.drew γ :=
 ⟨Nat.le_refl _,fun _ _ _ h=>⟨h,rfl⟩,fun _ _ h=>h,fun _=>Nat.le_refl _,fun _ _ h=>h,rfl,fun _ _ _ h=>⟨h,fun arr _ h=>⟨arr,h,Nat.le_refl _⟩,fun _ h=>h⟩,fun _ h=>⟨h,rfl⟩,Sz.refl w⟩
theorem MSim.kill (hm:MSim N w0 ro0 γ w B L) {id b:Nat} (hb:γ.β id=some b):MSim N w0 ro0 γ w (fun i=>if i=id then some [] else B i) L where
 bs:=hm.bs
 hN:=hm.hN
 ro0:=hm.ro0
 robd:=hm.robd
 box i cells b' hbi h1:=by
  by_cases hi:i=id
  ·subst hi
   simp at hbi
   subst hbi
   obtain ⟨_,_,_,_,c,hc⟩:=hm.β i b' h1
   obtain ⟨arr,e,h2,_,h4⟩:=hm.box i c b' hc h1
   exact ⟨arr,e,h2,RepP.nil,h4⟩
  ·simp [hi] at hbi;exact hm.box i cells b' hbi h1
 β i b' hbi:=by
  obtain ⟨h1,h2,h3,h4,c,hc⟩:=hm.β i b' hbi
  refine ⟨h1,h2,h3,h4,?_⟩
  by_cases hi:i=id
  ·exact ⟨[],by simp [hi]⟩
  ·exact ⟨c,by simp [hi,hc]⟩
 inj i i' b' h h':=by
  rcases hm.inj i i' b' h h' with k | k | k
  ·refine .inl ?_
   by_cases hi:i=id
   ·simp [hi]
   ·simp only [if_neg hi];exact k
  ·refine .inr (.inl ?_)
   by_cases hi:i'=id
   ·simp [hi]
   ·simp only [if_neg hi];exact k
  ·exact .inr (.inr k)
 own:=hm.own
 oinj:=hm.oinj
 sp:=hm.sp
 mm i' b' hb':=by
  obtain ⟨h1,h2,h3,h4,h5,h6,h8,h7⟩:=hm.mm i' b' hb'
  have hne:i'≠id:=by rintro rfl;rw [hb] at h8;cases h8
  exact ⟨h1,h2,h3,h4,h5,h6,h8,by simp only [hne,if_false];exact h7⟩
 minj:=hm.minj
 len:=hm.len
 cur0:=hm.cur0
theorem MSim.share (hm:MSim N w0 ro0 γ w B L) {id b id':Nat} {cells new:List AV} (hb:γ.β id=some b) (hB:B id=some cells) (hne0:cells≠[]) (hid':B id'=none) {arr:Array Value} {e:TypeId}
  (hh:w.heap[b]? = some (.cells arr e (0,0))) {p:Nat} {vs:List Value} (hr:RepP w γ new (Kt arr p vs).toList) (h1c:∀ v∈arr.toList,v.oneCell'=true) (h1v:∀ v∈vs,v.oneCell'=true) :
  Ev w γ (w.setCells b p vs) (γ.box id' b)/\MSim N w0 ro0 (γ.box id' b) (w.setCells b p vs) (fun i=>if i=id' then some new else if i=id then some [] else B i) L:=by
 have hneid:id'≠id:=by rintro rfl;rw [hid'] at hB;cases hB
 have hfresh:∀ i b',γ.β i=some b'->i≠id':=fun i b' h=>by
  rintro rfl;obtain ⟨_,_,_,_,c,hc⟩:=hm.β i b' h;rw [hid'] at hc;cases hc
 have hst:=hm.ev_store hb p vs
 have hev:Ev w γ (w.setCells b p vs) (γ.box id' b) :=
  ⟨hst.size,hst.ro,fun i b' h=>by simp [G.box,hfresh i b' h,h],hst.cur,hst.mm,hst.lp,hst.own,hst.sp,hst.ss⟩
 refine ⟨hev,?_⟩
 exact {
  bs:=w0.st _ _ _ _ hm.bs ⟨(Xi b (Nat.le_refl b) vs p w).os,(Xi b (Nat.le_refl b) vs p w).tape,(Xi b (Nat.le_refl b) vs p w).output,by rw [setCells_size];exact Nat.le_refl _,
   fun b' _ hno=>Qu b vs p w b' (by rintro rfl;exact hno (.inl ⟨id,hb⟩)),hev.ro,fun b' hb'=>by
    rcases hb' with ⟨i,hi⟩ | hb' | hb'
    ·by_cases h:i=id'
     ·simp [G.box,h] at hi;subst hi;exact .inl (.inl ⟨id,hb⟩)
     ·simp [G.box,h] at hi;exact .inl (.inl ⟨i,hi⟩)
    ·exact .inl (.inr (.inl hb'))
    ·exact .inl (.inr (.inr hb')),fun _ _ h=>.inl h⟩
  hN:=by rw [setCells_size];exact hm.hN
  ro0:=hm.ro0
  robd:=fun b' o' h=>by rw [setCells_size];exact hm.robd b' o' h
  box:=fun i cs b' hbi h1=>by
   by_cases hi:i=id'
   ·subst hi
    simp at hbi
    subst hbi
    simp [G.box] at h1
    subst h1
    exact ⟨_,e,Xr b vs p w arr e _ hh,hr.mono hev,Qab vs p arr h1c h1v⟩
   ·simp [G.box,hi] at h1
    simp only [if_neg hi] at hbi
    by_cases hii:i=id
    ·subst hii
     simp at hbi
     subst hbi
     obtain rfl:b'=b:=Option.some.inj (h1.symm.trans hb)
     exact ⟨_,e,Xr b' vs p w arr e _ hh,RepP.nil,Qab vs p arr h1c h1v⟩
    ·simp only [if_neg hii] at hbi
     obtain ⟨arr',e',h2,h3,h4⟩:=hm.box i cs b' hbi h1
     by_cases hne:b'=b
     ·subst hne
      rcases hm.inj _ _ _ h1 hb with h | h | h
      ·rw [h] at hbi;cases hbi
       exact ⟨_,e,Xr b' vs p w arr e _ hh,RepP.nil,Qab vs p arr h1c h1v⟩
      ·rw [h] at hB;cases hB;exact absurd rfl hne0
      ·exact absurd h hii
     ·exact ⟨arr',e',by rw [Qu b vs p w b' hne];exact h2,h3.mono hev,h4⟩
  β:=fun i b' hbi=>by
   by_cases hi:i=id'
   ·subst hi
    simp [G.box] at hbi
    subst hbi
    obtain ⟨h1,h2,h3,h4,_⟩:=hm.β id b hb
    exact ⟨h1,by rw [setCells_size];exact h2,h3,h4,new,by simp⟩
   ·simp [G.box,hi] at hbi
    obtain ⟨h1,h2,h3,h4,c,hc⟩:=hm.β i b' hbi
    refine ⟨h1,by rw [setCells_size];exact h2,h3,h4,?_⟩
    by_cases hii:i=id
    ·exact ⟨[],by simp [hi,hii,Ne.symm hneid]⟩
    ·exact ⟨c,by simp [hi,hii,hc]⟩
  inj:=fun i i' b' h h'=>by
   have key:∀ j,j≠id'->γ.β j=some b->(if j=id' then some new else if j=id then some [] else B j)=some []:=fun j hj hβ=>by
    rw [if_neg hj]
    by_cases hji:j=id
    ·rw [if_pos hji]
    ·rw [if_neg hji]
     rcases hm.inj _ _ _ hβ hb with h | h | h
     ·exact h
     ·rw [h] at hB;cases hB;exact absurd rfl hne0
     ·exact absurd h hji
   by_cases hi:i=id'<;>by_cases hi':i'=id'
   ·exact .inr (.inr (by rw [hi,hi']))
   ·simp [G.box,hi] at h
    simp [G.box,hi'] at h'
    subst h
    exact .inr (.inl (key i' hi' h'))
   ·simp [G.box,hi] at h
    simp [G.box,hi'] at h'
    subst h'
    exact .inl (key i hi h)
   ·simp [G.box,hi] at h
    simp [G.box,hi'] at h'
    simp only [if_neg hi,if_neg hi']
    rcases hm.inj i i' b' h h' with k | k | k
    ·refine .inl ?_
     by_cases hii:i=id
     ·rw [if_pos hii]
     ·rw [if_neg hii];exact k
    ·refine .inr (.inl ?_)
     by_cases hii:i'=id
     ·rw [if_pos hii]
     ·rw [if_neg hii];exact k
    ·exact .inr (.inr k)
  own:=fun i b' hbi=>by
   obtain ⟨h1,h2,h3⟩:=hm.own i b' hbi
   exact ⟨h1,by rw [setCells_size];exact h2,h3⟩
  oinj:=hm.oinj
  sp:=fun b' hb'=>by
   obtain ⟨h1,h2,h3,h4,h5⟩:=hm.sp b' hb'
   refine ⟨h1,by rw [setCells_size];exact h2,h3,fun i hi=>?_,h5⟩
   by_cases hid:i=id'
   ·simp [G.box,hid] at hi;subst hi;exact h4 id hb
   ·simp [G.box,hid] at hi;exact h4 i hi
  mm:=fun i' b' hb'=>by
   obtain ⟨h1,h2,h3,h4,h5,h6,h8,h7⟩:=hm.mm i' b' hb'
   have hne:i'≠id:=by rintro rfl;rw [hb] at h8;cases h8
   have hne':i'≠id':=by
    rintro rfl
    obtain ⟨_,_,hx,_⟩:=h7
    rw [hid'] at hx;cases hx
   refine ⟨h1,by rw [setCells_size];exact h2,h3,fun i hi=>?_,h5,h6,by simp [G.box,hne',h8],?_⟩
   ·by_cases hid:i=id'
    ·simp [G.box,hid] at hi;subst hi;exact h4 id hb
    ·simp [G.box,hid] at hi;exact h4 i hi
   ·simp only [hne,hne',if_false]
    exact h7.mono hev.toR.toV (Qu b vs p w b' (by rintro rfl;exact h4 id hb))
  minj:=hm.minj
  len:=hm.len
  cur0:=hm.cur0 }
end Go.Abs
namespace Go.Abs
open Go Go.RowKit
inductive Opd where
 | tmp (t:Nat)
 | const (a:AV)
 | func (f:FuncId)
 | glob (g:Nat)
def ofVal1:Value->AV
 | .bool b=>.bool b
 | .int k n=>.int k n
 | .string s=>.str s
 | .slice none 0 0=>.sl .nil []
 | .nilFunc=>.nilfn
 | .pointer none=>.nilv true
 | .map none=>.nilv false
 | _=>.junk
def ofVal:Value->AV
 | .agg cs=>.agg (cs.toList.map ofVal1)
 | v=>ofVal1 v
theorem rep_nil {w:World} {γ:G}:Rep w γ (.sl .nil []) (.slice none 0 0) :=
 .sl (rows:=[]) 0 0 0 (fun _ _=>undef) (Nat.le_refl _) (fun _=>rfl) (fun h=>absurd rfl h) (fun _ h=>by cases h) (fun i j c h=>by simp [Qr] at h) (fun i j c h=>by simp [Qr] at h) rfl
theorem rep_ofVal1 (w:World) (γ:G) (v:Value):Rep w γ (ofVal1 v) v:=by
 unfold ofVal1
 split
 ·exact .bool _
 ·exact .int _ _
 ·exact .str _
 ·exact rep_nil
 ·exact .nilfn
 ·exact .nilv true
 ·exact .nilv false
 ·exact .junk _
theorem Yw (w:World) (γ:G) (v:Value):Rep w γ (ofVal v) v:=by
 unfold ofVal
 split
 ·refine .agg (by simp) fun i c u h1 h2=>?_
  simp at h1
  obtain ⟨u',h3,h4⟩:=h1
  rw [h2] at h3
  cases h3
  subst h4
  exact rep_ofVal1 w γ u
 ·exact rep_ofVal1 w γ _
def opd:Operand->Opd
 | .tmp t=>.tmp t
 | .const v=>.const (ofVal v)
 | .func f=>.func f
 | .global g=>.glob g
def ev (gl:Nat->AV) (T:List AV):Opd->AV
 | .tmp t=>T.getD t .junk
 | .const a=>a
 | .func f=>.fn f [] []
 | .glob g=>gl g
inductive SOp where
 | mv (x:Opd)
 | pick (c a b:Opd)
 | alloc (zs:List AV)
 | box (x:Opd)
 | build (zs:List AV) (parts:List (Nat×Nat×Opd))
 | bsl (sz len:Nat) (parts:List (Nat×Opd))
 | load (agg:Bool) (n:Nat) (x:Opd)
 | store (n:Nat) (x v:Opd)
 | faddr (off:Nat) (x:Opd)
 | fld (agg:Bool) (off n:Nat) (x:Opd)
 | iaddr (sz:Nat) (x i:Opd)
 | iaddrA (len sz:Nat) (x i:Opd)
 | idxS (x i:Opd)
 | idxA (agg:Bool) (n sz:Nat) (x i:Opd)
 | bin (op:BinOp) (x y:Opd)
 | binB (op:BinOp) (x y:Opd)
 | un (op:UnOp) (x:Opd)
 | conv (k:IntKind) (x:Opd)
 | len (x:Opd)
 | lenS (x:Opd)
 | mn (x y:Opd)
 | mx (x y:Opd)
 | mm3 (big:Bool) (x y z:Opd)
 | mkfn (f:FuncId) (first cap:List Opd)
 | ext (x:Opd) (i:Nat)
 | call (f:Opd) (args:List Opd)
 | app (sz bytes:Nat) (s x:Opd)
 | slS (x:Opd) (lo hi:Option Opd)
 | nilc (x:Opd)
 | nilS (neg:Bool) (x:Opd)
 | b2s (x:Opd)
 | look (kn:Nat) (ok:Bool) (z:AV) (x k:Opd)
 | mupd (kn:Nat) (x k v:Opd)
 | mkmap (kn:Nat)
 | ment (kn:Nat) (z:AV) (x k:Opd)
 | esto (x s v:Opd)
 | rng (x:Opd)
 | nxt (x:Opd)
 | entr (x:Opd)
 | mks0 (sz bytes:Nat) (c:Opd)
 | slL (sz:Nat) (x:Opd) (lo hi:Option Opd)
 | slA (n sz:Nat) (x:Opd) (lo hi:Option Opd)
 | eqA (neg:Bool) (ks:List Nat) (x y:Opd)
 | mks (sz bytes:Nat) (zs:List AV) (l c:Opd)
 | cpy (sz:Nat) (x y:Opd)
 | clr (zs:List AV) (x:Opd)
 | bad
def zc (P:Program) (t:TypeId):Option (List AV):=do
 let i <- P.info? t
 let z <- i.zero
 pure (z.cells.toList.map ofVal1)
def Ub (P:Program) (t:TypeId):Bool :=
 match P.underlying t with
 | some (.struct _) | some (.array _ _)=>true
 | _=>false
def Uy (P:Program) (t:TypeId) (parts:Array (Nat×Operand)):SOp :=
 match P.underlying t,zc P t with
 | some (.struct fields),some zs =>
  match parts.toList.mapM (fun p:Nat×Operand=>(fields[p.1]?).bind fun f=>(P.info? f.type).map fun i=>(f.offset,i.size,opd p.2)) with
  | some ps=>if fields.toList.all (fun f=>(P.info? f.type).isSome) then .build zs ps else .bad
  | none=>.bad
 | _,_=>.bad
def kindT (P:Program) (t:TypeId):Option Nat :=
 match P.underlying t with
 | some .bool=>some 0
 | some (.int _)=>some 1
 | some .string=>some 2
 | _=>none
def Jl (P:Program):List Field->Nat->Option (List Nat)
 | [],_=>some []
 | f :: r, i => (match (f.offset == i) && (f.name != "_"), kindT P f.type, Jl P r (i + 1) with
  | true,some k,some ks=>some (k::ks)
  | _,_,_=>none)
def trEq (P:Program) (t:TypeId) (fs:List Field) (op:BinOp) (x y:Operand):SOp :=
 match Jl P fs 0,(P.stoodInHeld t||P.eqGuardType P.depth t),op with
 | some ks,false,.eql=>.eqA false ks (opd x) (opd y)
 | some ks,false,.neq=>.eqA true ks (opd x) (opd y)
 | _,_,_=>.bad
def Xw (P:Program) (c:Call):SOp :=
 match c.callee with
 | .value f=>.call (opd f) (c.args.toList.map opd)
 | .builtin .len =>
  match c.args.toList,c.argTypes.toList with
  | [x],[t]=>(match P.underlying t with | some .string=>.lenS (opd x) | some (.slice _)=>.len (opd x) | _=>.bad)
  | _,_=>.bad
 | .builtin .min=>(match c.args.toList with | [x,y]=>.mn (opd x) (opd y) | [x,y,z]=>.mm3 false (opd x) (opd y) (opd z) | _=>.bad)
 | .builtin .max=>(match c.args.toList with | [x,y]=>.mx (opd x) (opd y) | [x,y,z]=>.mm3 true (opd x) (opd y) (opd z) | _=>.bad)
 | .builtin .append =>
  match c.args.toList,c.argTypes.toList with
  | [s,x],[t,t'] =>
   (match P.underlying t,P.underlying t' with
   | some (.slice e),some (.slice e') =>
    (match P.info? e with
    | some i=>if t==t'&&((i.zero.map fun z=>(z.cells.size,z.cells.toList.all (·.oneCell')))==some (i.size,true))&&(i.size != 0)&&(i.bytes != 0) then .app i.size i.bytes (opd s) (opd x) else .bad
    | none=>.bad)
   | _,_=>.bad)
  | _,_=>.bad
 | .builtin .copy =>
  match c.args.toList,c.argTypes.toList with
  | [x,y],t::_=>(match P.underlying t with
   | some (.slice e)=>(match P.info? e with | some i=>.cpy i.size (opd x) (opd y) | none=>.bad)
   | _=>.bad)
  | _,_=>.bad
 | .builtin .clear =>
  match c.args.toList,c.argTypes.toList with
  | [x],[t]=>(match P.underlying t with
   | some (.slice e)=>(match zc P e with | some zs=>.clr zs (opd x) | none=>.bad)
   | _=>.bad)
  | _,_=>.bad
 | _=>.bad
def trNil (op:BinOp) (x y:Operand):SOp :=
 match op,y with
 | .eql,.const (.slice none 0 0)=>.nilS false (opd x)
 | .neq,.const (.slice none 0 0)=>.nilS true (opd x)
 | _,_=>.bad
def mapT (P:Program) (t:TypeId):Option (Nat×AV) :=
 match P.underlying t with
 | some (.map k v)=>(match P.underlying k,P.info? v with
  | some (.int .i64),some i=>i.zero.map fun z=>(0,ofVal z)
  | some (.struct fs),some i=>(match Jl P fs.toList 0 with
   | some ks=>if ks.all (·==1)&&(fs.size != 0)&&!(P.stoodInHeld k) then i.zero.map fun z=>(fs.size,ofVal z) else none
   | none=>none)
  | _,_=>none)
 | _=>none
def tr (P:Program) (o:Oper):SOp :=
 match o.op with
 | .move x | .assign x=>.mv (opd x)
 | .pick c a b=>.pick (opd c) (opd a) (opd b)
 | .alloc t=>(match zc P t with | some zs=>.alloc zs | none=>.bad)
 | .box _ x=>.box (opd x)
 | .build t parts=>Uy P t parts
 | .buildSlice t len parts =>
  (match P.underlying t with
  | some (.slice e) =>
   (match P.info? e with
   | some i=>if ((i.zero.map fun z=>z.cells.size)==some i.size)&&(i.size != 0)&&decide (len*i.size<=16777216) then .bsl i.size len (parts.toList.map fun p=>(p.1,opd p.2)) else .bad
   | none=>.bad)
  | _=>.bad)
 | .load t a=>(match P.info? t,P.underlying t with | some i,some _=>if Ub P t then .load true i.size (opd a) else .load false 1 (opd a) | _,_=>.bad)
 | .store t a v=>(match P.info? t with | some i=>.store i.size (opd a) (opd v) | none=>.bad)
 | .fieldAddr s x f =>
  (match P.underlying s with
  | some (.struct fields) =>
   (match fields[f]? with
   | some fl=>(match P.info? fl.type with | some i=>if i.size==0 then .bad else .faddr fl.offset (opd x) | none=>.bad)
   | none=>.bad)
  | _=>.bad)
 | .field t x f =>
  (match P.underlying t with
  | some (.struct fields) =>
   (match fields[f]? with
   | some fl=>(match P.info? fl.type,P.underlying fl.type with | some i,some _=>if Ub P fl.type then .fld true fl.offset i.size (opd x) else .fld false fl.offset 1 (opd x) | _,_=>.bad)
   | none=>.bad)
  | _=>.bad)
 | .indexAddr t x i =>
  (match P.underlying t with
  | some (.slice e)=>(match P.info? e with | some j=>.iaddr j.size (opd x) (opd i) | none=>.bad)
  | some (.array n e)=>(match P.info? e with | some j=>.iaddrA n j.size (opd x) (opd i) | none=>.bad)
  | _=>.bad)
 | .index t x i=>(match P.underlying t with
  | some .string=>.idxS (opd x) (opd i)
  | some (.array n e)=>(match P.info? e,P.underlying e with | some j,some _=>if Ub P e then .idxA true n j.size (opd x) (opd i) else (if j.size==1 then .idxA false n 1 (opd x) (opd i) else .bad) | _,_=>.bad)
  | _=>.bad)
 | .binOp op t x y _ =>
  (match P.underlying t with
  | some .bool=>.binB op (opd x) (opd y)
  | some (.int _)=>.bin op (opd x) (opd y)
  | some .string=>.bin op (opd x) (opd y)
  | some (.slice _)=>trNil op x y
  | some (.struct fs)=>trEq P t fs.toList op x y
  | _=>.bad)
 | .unOp op _ x=>.un op (opd x)
 | .convert s d x =>
  (match P.underlying s,P.underlying d with
  | some (.int _),some (.int k)=>.conv k (opd x)
  | some (.slice e),some .string=>(match P.underlying e with | some (.int .u8)=>.b2s (opd x) | _=>.bad)
  | _,_=>.bad)
 | .makeFunc (.func f) first cap=>.mkfn f (first.toList.map opd) (cap.toList.map opd)
 | .extract x i=>.ext (opd x) i
 | .nilCheck x=>.nilc (opd x)
 | .slice t x lo hi none=>(match P.underlying t with
  | some .string=>.slS (opd x) (lo.map opd) (hi.map opd)
  | some (.slice e)=>(match P.info? e with | some i=>.slL i.size (opd x) (lo.map opd) (hi.map opd) | none=>.bad)
  | some (.array n e)=>(match P.info? e with | some i=>.slA n i.size (opd x) (lo.map opd) (hi.map opd) | none=>.bad)
  | _=>.bad)
 | .lookup t x k ok=>(match mapT P t with | some (kn,z)=>.look kn ok z (opd x) (opd k) | none=>.bad)
 | .mapUpdate t x k v=>(match mapT P t with | some (kn,_)=>.mupd kn (opd x) (opd k) (opd v) | none=>.bad)
 | .makeMap t none=>(match mapT P t with | some (kn,_)=>.mkmap kn | none=>.bad)
 | .mapEntry t x k=>(match mapT P t with | some (kn,z)=>.ment kn z (opd x) (opd k) | none=>.bad)
 | .entryStore _ x s v=>.esto (opd x) (opd s) (opd v)
 | .range t x=>(match mapT P t with | some _=>.rng (opd x) | none=>.bad)
 | .next x false=>.nxt (opd x)
 | .entry x=>.entr (opd x)
 | .makeSlice t l c =>
  (match P.underlying t with
  | some (.slice e)=>(match P.info? e,l with
   | some i,.const (.int .i64 0)=>(if ((i.zero.map fun z=>(z.cells.size,z.cells.toList.all (·.oneCell')))==some (i.size,true))&&(i.size != 0) then .mks0 i.size i.bytes (opd c) else .bad)
   | some i,l=>(match zc P e with | some zs=>.mks i.size i.bytes zs (opd l) (opd c) | none=>.bad)
   | _,_=>.bad)
  | _=>.bad)
 | .call c=>Xw P c
 | _=>.bad
def Qs:AV->Bool
 | .bool _ | .int _ _ | .str _ | .sl _ _ | .ep _ _ | .ptr _ _ | .fn _ _ _ | .nilfn | .yld _ | .mp _ | .it _ | .nilv _ | .bs _ _ _ _=>true
 | _=>false
def bare:AV->Bool
 | .junk | .gd _ _ | .tup _ | .mobj _ _ | .mitr _ _ _=>false
 | _=>true
def cellsOf:AV->List AV
 | .agg cs=>cs
 | a=>[a]
def chunk (sz:Nat):Nat->List AV->List (List AV)
 | 0,_=>[]
 | n+1,l=>l.take sz::chunk sz n (l.drop sz)
theorem chunk_eq (sz:Nat):∀ (n:Nat) (l:List AV),chunk sz n l=(List.range n).map fun i=>(l.drop (i*sz)).take sz
 | 0,_=>rfl
 | n+1,l=>by
  rw [chunk,chunk_eq sz n,List.range_succ_eq_map,List.map_cons,List.map_map]
  simp only [Nat.zero_mul,List.drop_zero,List.cons.injEq,true_and]
  refine List.map_congr_left fun i _=>?_
  simp only [Function.comp,List.drop_drop,Nat.succ_mul]
  rw [Nat.add_comm]
def cvn (m:AM):Nat->AV->AV
 | 0,_=>.junk
 | d+1,a=>match a with
  | .agg cs=>.agg (cs.map (cvn m d))
  | .tup cs=>.tup (cs.map (cvn m d))
  | .fn f first cap=>.fn f (first.map (cvn m d)) (cap.map (cvn m d))
  | .sl (.own _ _) rows=>.sl .ro rows
  | .ptr id o=>.ep ((m.boxes.getD id []).map (cvn m d)) o
  | .gd _ _=>.junk
  | .yld _=>.junk
  | .mp _=>.junk
  | .it _=>.junk
  | .mobj _ _=>.junk
  | .mitr _ _ _=>.junk
  | .bs id off len sz=>bif Nat.ble (off+len*sz) (m.boxes.getD id []).length then .sl .ro (chunk sz len (((m.boxes.getD id []).map (cvn m d)).drop off)) else .junk
  | a=>a
def Zj:Nat->AV->Bool
 | 0,_=>true
 | d+1,a=>match a with
  | .agg cs=>cs.any (Zj d)
  | .tup cs=>cs.any (Zj d)
  | .fn _ first cap=>first.any (Zj d)||cap.any (Zj d)
  | .ptr _ _=>true
  | .bs _ _ _ _=>true
  | _=>false
def flat1:AV->Bool
 | .bool _ | .int _ _ | .str _=>true
 | _=>false
def flat:AV->Bool
 | .tup cs=>cs.all flat1
 | a=>flat1 a
def callable (P : Program) (f : FuncId) : Prop := ∃ fn, P.funcs[f]? = some fn /\ fn.body.isNone = false /\ (fn.name == "runtime.NumGoroutine") = false
def Pure (P:Program) (gl:Nat->AV) (f:FuncId) (as:List AV) (r:AV):Prop :=
 callable P f/\∀ (ro:Nat->Nat->Prop) (w:World) (vs:List Value),(∀ g,Rep w (G0 ro) (gl g) (.pointer (some ⟨g,0,none⟩)))->RepL w (G0 ro) as vs ->
  Calls P f vs.toArray w fun e w'=>∃ v,e=.returned v/\Below w.heap.size w w'/\Rep w' (G0 fun b o=>ro b o\/w.heap.size<=b) r v
def Quiet (P:Program) (gl:Nat->AV) (f:FuncId) (as:List AV) (m:AM) (r:AV):Prop :=
 callable P f/\∀ (N:Nat) (w0:Bas) (ro0:Nat->Nat->Prop) (γ:G) (w:World) (B:Nat->Option (List AV)) (L:Nat->Option Nat) (vs:List Value),MSim N w0 ro0 γ w B L ->
  (∀ id cells,m.boxes[id]? = some cells->B id=some cells)->(∀ g,Rep w γ.imm (gl g) (.pointer (some ⟨g,0,none⟩)))->RepL w γ as vs ->
  Calls P f vs.toArray w fun e w'=>∃ v γ',e=.returned v/\Ev w γ w' γ'/\MSim N w0 ro0 γ' w' B L/\Rep w' γ' r v
def callV (P:Program) (gl:Nat->AV) (f:FuncId) (as:List AV) (m:AM):AV->Prop×AV
 | .gd _ r=>(Quiet P gl f as m r,r)
 | r=>(Pure P gl f (as.map (cvn m 6)) r/\(as.any (Zj 6)=true->flat r=true),r)
def binI (op:BinOp) (k:IntKind) (a b:Int):Prop×AV :=
 match op with
 | .add=>(True,.int k (k.wrap (a+b)))
 | .sub=>(True,.int k (k.wrap (a - b)))
 | .mul=>(True,.int k (k.wrap (a*b)))
 | .quo=>(b≠0,.int k (k.wrap (a.tdiv b)))
 | .rem=>(b≠0,.int k (a.tmod b))
 | .eql=>(True,.bool (a==b))
 | .neq=>(True,.bool (a != b))
 | .lss=>(True,.bool (decide (a < b)))
 | .leq=>(True,.bool (decide (a<=b)))
 | .gtr=>(True,.bool (decide (b < a)))
 | .geq=>(True,.bool (decide (b<=a)))
 | .and=>(True,.int k (k.wrap (BitVec.ofInt k.bits a &&& BitVec.ofInt k.bits b).toNat))
 | .or=>(True,.int k (k.wrap (BitVec.ofInt k.bits a ||| BitVec.ofInt k.bits b).toNat))
 | .xor=>(True,.int k (k.wrap (BitVec.ofInt k.bits a ^^^ BitVec.ofInt k.bits b).toNat))
 | .andNot=>(True,.int k (k.wrap (BitVec.ofInt k.bits a &&& ~~~ BitVec.ofInt k.bits b).toNat))
 | _=>(False,.junk)
def binS (op:BinOp) (a b:ByteArray):Prop×AV :=
 match op with
 | .add=>(a.size+b.size<=9223372036854775807,.str (a++b))
 | .eql=>(True,.bool (a.toList==b.toList))
 | .neq=>(True,.bool (!(a.toList==b.toList)))
 | _=>(False,.junk)
def binV (op:BinOp) (x y:AV):Prop×AV :=
 match op with
 | .shl=>(match x,y with | .int k a,.int _ b=>(0<=b,.int k (k.wrap (a*2 ^ (min b.toNat k.bits)))) | _,_=>(False,.junk))
 | .shr=>(match x,y with | .int k a,.int _ b=>(0<=b,.int k (a.fdiv (2 ^ (min b.toNat k.bits)))) | _,_=>(False,.junk))
 | op=>match x,y with
  | .int k a,.int k' b=>(k=k'/\(binI op k a b).1,(binI op k a b).2)
  | .str a,.str b=>binS op a b
  | _,_=>(False,.junk)
def binBool (op:BinOp) (x y:AV):Prop×AV :=
 match op,x,y with
 | .eql,.bool a,.bool b=>(True,.bool (a==b))
 | .neq,.bool a,.bool b=>(True,.bool (!(a==b)))
 | _,_,_=>(False,.junk)
def isB:AV->Bool
 | .bool _=>true
 | _=>false
def bOf:AV->Bool
 | .bool b=>b
 | _=>false
def asB:AV->Option (Bool×Bool)
 | .bool b=>some (true,b)
 | .gd g a=>some (bif g then isB a else false,bOf a)
 | _=>none
def Qah (cs:List AV):List (Nat×Nat×AV)->Prop×List AV
 | []=>(True,cs)
 | (off,size,a)::r=>let q:=Qah (setA cs off (cellsOf a)) r;(bare a=true/\(cellsOf a).length=size/\off+size<=cs.length/\q.1,q.2)
def Zl (agg:Bool) (n:Nat) (cs:List AV):Prop×AV:=((cs.take n).length=n/\(agg=false->n=1),if agg then .agg (cs.take n) else cs.getD 0 .junk)
def intsA:List AV->Option (List Int)
 | []=>some []
 | .int .i64 n::r=>(match intsA r with | some ns=>some (n::ns) | none=>none)
 | _=>none
def keyA:Nat->AV->Option (List Int)
 | 0,.int .i64 n=>some [n]
 | kn+1,.agg cs=>(match intsA cs with | some ns=>if ns.length=kn+1 then some ns else none | none=>none)
 | _,_=>none
def keyAV:Nat->List Int->AV
 | 0,[n]=>.int .i64 n
 | 0,_=>.junk
 | _+1,ns=>.agg (ns.map (AV.int .i64))
def Qx (n:List Int):List (List Int×AV)->Nat->Option (Nat×AV)
 | [],_=>none
 | (k,a)::r,i=>if n=k then some (i,a) else Qx n r (i+1)
def byteOf:List AV->Option UInt8
 | [.int .u8 n]=>some (UInt8.ofNat n.toNat)
 | _=>none
def Yr:List (List AV)->Option (List UInt8)
 | []=>some []
 | r::rs=>(match byteOf r,Yr rs with | some b,some l=>some (b::l) | _,_=>none)
def kindF:Nat->AV->AV->Bool
 | 0,.bool _,.bool _=>true
 | 1,.int k _,.int k' _=>decide (k=k')
 | 2,.str _,.str _=>true
 | _,_,_=>false
def eqF:AV->AV->Bool
 | .bool a,.bool b=>a==b
 | .int _ a,.int _ b=>a==b
 | .str a,.str b=>a.toList==b.toList
 | _,_=>false
def Km:List Nat->List AV->List AV->Bool
 | [],[],[]=>true
 | k::ks,a::as,b::bs=>kindF k a b&&Km ks as bs
 | _,_,_=>false
def eqFs:List AV->List AV->Bool
 | a::as,b::bs=>eqF a b&&eqFs as bs
 | _,_=>true
def loOf:Option AV->Option Int
 | none=>some 0
 | some (.int _ l)=>some l
 | _=>none
def hiOf (n:Nat):Option AV->Option Int
 | none=>some n
 | some (.int _ h)=>some h
 | _=>none
def fills:Nat->List AV->List AV
 | 0,_=>[]
 | n+1,zs=>zs++fills n zs
def cellsS (m:AM) (sz:Nat):AV->Prop×List AV
 | .sl _ rows=>((∀ row∈rows,row.length=sz),rows.flatten)
 | .bs id off len sz'=>(sz'=sz/\off+len*sz<=(m.boxes.getD id []).length/\id < m.boxes.length,((m.boxes.getD id []).drop off).take (len*sz))
 | _=>(False,[])
def lenS:AV->Nat
 | .sl _ rows=>rows.length
 | .bs _ _ len _=>len
 | _=>0
def mutO (orc:Nat->FuncId->List AV->AV) (dst:Option Nat):Bool:=match orc (dst.getD 0) 999999 [] with
 | .mobj _ []=>true
 | _=>false
def Yl:Rt->Bool
 | .full | .nil=>true
 | _=>false
def mm2 (big:Bool) (a b:Int):Int:=if big=true then (if a < b then b else a) else (if b < a then b else a)
def rop (P:Program) (gl:Nat->AV) (orc:Nat->FuncId->List AV->AV) (e:Opd->AV) (m:AM) (dst:Option Nat):SOp->Prop×AV
 | .mv x=>(True,e x)
 | .pick c a b=>(match asB (e c),asB (e a),asB (e b) with
  | some (g0,c),some (g1,x),some (g2,y)=>(g0=true/\(c=true->g1=true)/\(c=false->g2=true),.bool (bif c then x else y))
  | _,_,_=>(False,.junk))
 | .build zs parts=>let q:=Qah zs (parts.map fun p=>(p.1,p.2.1,e p.2.2));(q.1,.agg q.2)
 | .bsl sz len parts=>let q:=Qah (List.replicate (len*sz) .junk) (parts.map fun p=>(p.1*sz,sz,e p.2));
  (q.1/\q.2.all Qs=true/\q.2.any (Zj 6)=false,.sl .full (chunk sz len (q.2.map (cvn m 6))))
 | .load agg n x=>(match e x with
  | .ptr id o=>Zl agg n ((m.boxes.getD id []).drop o)
  | .ep row o=>Zl agg n (row.drop o)
  | _=>(False,.junk))
 | .faddr off x=>(match e x with
  | .ptr id o=>(True,.ptr id (o+off))
  | .ep row o=>(True,.ep row (o+off))
  | _=>(False,.junk))
 | .fld agg off n x=>(match e x with
  | .agg cs=>Zl agg n (cs.drop off)
  | _=>(False,.junk))
 | .iaddr sz x i=>(match e x,e i with
  | .sl _ rows,.int _ i=>((0<=i/\i < rows.length)/\(rows.getD i.toNat []).length=sz,.ep (rows.getD i.toNat []) 0)
  | .bs id off len sz',.int _ i=>((0<=i/\i < len)/\sz'=sz,.ptr id (off+i.toNat*sz))
  | _,_=>(False,.junk))
 | .iaddrA len sz x i=>(match e x,e i with
  | .ptr id o,.int _ i=>(0<=i/\i < len,.ptr id (o+i.toNat*sz))
  | .ep row o,.int _ i=>(0<=i/\i < len,.ep row (o+i.toNat*sz))
  | _,_=>(False,.junk))
 | .idxS x i=>(match e x,e i with
  | .str s,.int _ i=>(0<=i/\i < s.size,.int .u8 (s.data.toList.getD i.toNat 0).toNat)
  | _,_=>(False,.junk))
 | .idxA agg n sz x i=>(match e x,e i with
  | .agg cs,.int _ i=>((0<=i/\i < n)/\(Zl agg sz (cs.drop (i.toNat*sz))).1,(Zl agg sz (cs.drop (i.toNat*sz))).2)
  | _,_=>(False,.junk))
 | .bin op x y=>binV op (e x) (e y)
 | .binB op x y=>binBool op (e x) (e y)
 | .un op x=>(match op,e x with
  | .not,.bool b=>(True,.bool (!b))
  | .neg,.int k n=>(True,.int k (k.wrap (0 - n)))
  | .xor,.int k n=>(True,.int k (k.wrap (BitVec.ofInt k.bits (if k.signed then -1 else k.max) ^^^ BitVec.ofInt k.bits n).toNat))
  | _,_=>(False,.junk))
 | .conv k x=>(match e x with
  | .int _ n=>(True,.int k (k.wrap n))
  | _=>(False,.junk))
 | .len x=>(match e x with
  | .sl _ rows=>(True,.int .i64 rows.length)
  | .bs _ _ len _=>(True,.int .i64 len)
  | _=>(False,.junk))
 | .lenS x=>(match e x with
  | .str s=>(True,.int .i64 s.size)
  | _=>(False,.junk))
 | .mn x y=>(match e x,e y with
  | .int k a,.int _ b=>(True,.int k (if b < a then b else a))
  | _,_=>(False,.junk))
 | .mx x y=>(match e x,e y with
  | .int k a,.int _ b=>(True,.int k (if a < b then b else a))
  | _,_=>(False,.junk))
 | .mm3 big x y z=>(match e x,e y,e z with
  | .int k a,.int _ b,.int _ c=>(True,.int k (mm2 big (mm2 big a b) c))
  | _,_,_=>(False,.junk))
 | .mkfn f first cap=>(True,.fn f (first.map e) (cap.map e))
 | .ext x i=>(match e x with
  | .tup vs=>(i < vs.length,vs.getD i .junk)
  | _=>(False,.junk))
 | .call f args=>(match e f with
  | .fn f first cap=>callV P gl f (first++args.map e++cap) m (orc (dst.getD 0) f ((first++args.map e++cap).map (cvn m 6)))
  | _=>(False,.junk))
 | .app sz bytes s x=>(match e s,e x with
  | .sl rt rows,.sl _ rows2=>(Yl rt=true/\(∀ row∈rows++rows2,row.length=sz)/\(3*(rows.length+rows2.length)+4000)*bytes<=562949953421312,.sl .ro (rows++rows2))
  | _,_=>(False,.junk))
 | .slS x lo hi=>(match e x,lo.map e,hi.map e with
  | .str s,some (.int _ l),some (.int _ h)=>(0<=l/\l<=h/\h<=s.size,.str (s.extract l.toNat h.toNat))
  | .str s,none,some (.int _ h)=>(0<=h/\h<=s.size,.str (s.extract 0 h.toNat))
  | .str s,some (.int _ l),none=>(0<=l/\l<=s.size,.str (s.extract l.toNat s.size))
  | _,_,_=>(False,.junk))
 | .nilc x=>(match e x with
  | .ptr id o=>(True,.ptr id o)
  | .ep row o=>(True,.ep row o)
  | .fn f first cap=>(True,.fn f first cap)
  | _=>(False,.junk))
 | .nilS neg x=>(match e x with
  | .sl .nil _=>(True,.bool (!neg))
  | .sl .nn _=>(True,.bool neg)
  | .sl _ (_::_)=>(True,.bool neg)
  | .bs _ _ _ _=>(True,.bool neg)
  | _=>(False,.junk))
 | .b2s x=>(match e x with
  | .sl _ rows=>(match Yr rows with
   | some l=>(True,.str ⟨l.toArray⟩)
   | none=>(False,.junk))
  | .bs id off len sz=>(match Yr (chunk 1 len ((m.boxes.getD id []).drop off)) with
   | some l=>(sz=1/\off+len<=(m.boxes.getD id []).length,.str ⟨l.toArray⟩)
   | none=>(False,.junk))
  | _=>(False,.junk))
 | .eqA neg ks x y=>(match e x,e y with
  | .agg xs,.agg ys=>(Km ks xs ys=true,.bool (if neg then !(eqFs xs ys) else eqFs xs ys))
  | _,_=>(False,.junk))
 | .slL sz x lo hi=>(match e x with
  | .sl _ rows=>(match loOf (lo.map e),hiOf rows.length (hi.map e) with
   | some l,some h=>((0<=l/\l<=h/\h<=rows.length)/\∀ row∈rows,row.length=sz,.sl .ro ((rows.drop l.toNat).take (h.toNat - l.toNat)))
   | _,_=>(False,.junk))
  | .bs id off len sz'=>(match loOf (lo.map e),hiOf len (hi.map e) with
   | some l,some h=>((0<=l/\l<=h/\h<=len)/\sz'=sz,if l < h\/l=0 then .bs id (off+l.toNat*sz) (h.toNat - l.toNat) sz else .sl .nn [])
   | _,_=>(False,.junk))
  | _=>(False,.junk))
 | .slA n sz x lo hi=>(match e x with
  | .ptr id o=>(match loOf (lo.map e),hiOf n (hi.map e) with
   | some l,some h=>((0<=l/\l<=h/\h<=n)/\o+n*sz<=(m.boxes.getD id []).length/\id < m.boxes.length,if l < h\/l=0 then .bs id (o+l.toNat*sz) (h.toNat - l.toNat) sz else .sl .nn [])
   | _,_=>(False,.junk))
  | _=>(False,.junk))
 | .look kn ok z x k=>(match e x,keyA kn (e k) with
  | .mp id,some n=>(match m.boxes.getD id [] with
   | [.mobj kn' kvs]=>(kn'=kn,(match Qx n kvs 0 with
    | some (_,a)=>(if ok then .tup [a,.bool true] else a)
    | none=>(if ok then .tup [z,.bool false] else z)))
   | _=>(False,.junk))
  | _,_=>(False,.junk))
 | .entr x=>(match e x with
  | .it id=>(match m.boxes.getD id [] with
   | [.mitr mid n seen]=>(match m.boxes.getD mid [],seen.getLast? with
    | [.mobj kn kvs],some i=>(kvs.length=n/\i < n,.tup [keyAV kn (kvs.getD i ([],.junk)).1,(kvs.getD i ([],.junk)).2])
    | _,_=>(False,.junk))
   | _=>(False,.junk))
  | _=>(False,.junk))
 | _=>(False,.junk)
def sop (P:Program) (gl:Nat->AV) (orc:Nat->FuncId->List AV->AV) (e:Opd->AV) (m:AM) (dst:Option Nat) (so:SOp):Prop×AV×AM :=
 match so with
 | .alloc zs=>(zs.all Qs=true,.ptr m.boxes.length 0,{ m with boxes:=m.boxes++[zs] })
 | .box x=>(bare (e x)=true/\(cellsOf (e x)).all Qs=true,.ptr m.boxes.length 0,{ m with boxes:=m.boxes++[cellsOf (e x)] })
 | .store n x v=>(match e x with
  | .ptr id o=>(bare (e v)=true/\(cellsOf (e v)).all Qs=true/\(cellsOf (e v)).length=n/\o+n<=(m.boxes.getD id []).length/\id < m.boxes.length,
    .junk,{ m with boxes:=m.boxes.set id (setA (m.boxes.getD id []) o (cellsOf (e v))) })
  | _=>(False,.junk,m))
 | .app sz bytes s x=>(match e s,e x with
  | .sl (.own id sz') rows,.sl _ rows2=>(sz'=sz/\m.lens[id]? = some rows.length/\(∀ row∈rows++rows2,row.length=sz)/\(3*(rows.length+rows2.length)+4000)*bytes<=562949953421312,
    .sl (.own id sz) (rows++rows2),{ m with lens:=m.lens.set id (rows.length+rows2.length) })
  | .bs id off len sz',y=>(((sz'=sz/\off=0/\id < m.boxes.length/\m.boxes.getD id []≠[]/\len*sz<=(m.boxes.getD id []).length)/\(3*(len+lenS y)+4000)*bytes<=562949953421312)/\(cellsS m sz y).1,
    .bs m.boxes.length 0 (len+lenS y) sz,{ m with boxes:=m.boxes.set id []++[(m.boxes.getD id []).take (len*sz)++(cellsS m sz y).2] })
  | .sl (.own id sz') rows,.bs id2 off2 len2 sz2=>((sz'=sz/\sz2=sz)/\m.lens[id]? = some rows.length/\(∀ row∈rows,row.length=sz)/\(3*(rows.length+len2)+4000)*bytes<=562949953421312/\off2+len2*sz<=(m.boxes.getD id2 []).length/\id2 < m.boxes.length/\(m.boxes.getD id2 []).all Qs=true/\(m.boxes.getD id2 []).any (Zj 6)=false,
    .sl (.own id sz) (rows++chunk sz len2 (((m.boxes.getD id2 []).map (cvn m 6)).drop off2)),{ m with lens:=m.lens.set id (rows.length+len2) })
  | .sl rt rows,y=>if mutO orc dst=true then ((Yl rt=true/\lenS y≠0/\(∀ row∈rows,row.length=sz)/\(3*(rows.length+lenS y)+4000)*bytes<=562949953421312)/\(cellsS m sz y).1,
    .bs m.boxes.length 0 (rows.length+lenS y) sz,{ m with boxes:=m.boxes++[rows.flatten++(cellsS m sz y).2] })
   else (match y with
   | .sl _ rows2=>(Yl rt=true/\(∀ row∈rows++rows2,row.length=sz)/\(3*(rows.length+rows2.length)+4000)*bytes<=562949953421312,
    .sl (.own m.lens.length sz) (rows++rows2),{ m with lens:=m.lens++[rows.length+rows2.length] })
   | .bs id2 off2 len2 sz2=>((Yl rt=true/\sz2=sz)/\(∀ row∈rows,row.length=sz)/\(3*(rows.length+len2)+4000)*bytes<=562949953421312/\off2+len2*sz<=(m.boxes.getD id2 []).length/\id2 < m.boxes.length/\(m.boxes.getD id2 []).all Qs=true/\(m.boxes.getD id2 []).any (Zj 6)=false,
    .sl (.own m.lens.length sz) (rows++chunk sz len2 (((m.boxes.getD id2 []).map (cvn m 6)).drop off2)),{ m with lens:=m.lens++[rows.length+len2] })
   | _=>(False,.junk,m))
  | _,_=>(False,.junk,m))
 | .bsl sz len parts=>if mutO orc dst=true then let q:=Qah (List.replicate (len*sz) .junk) (parts.map fun p=>(p.1*sz,sz,e p.2));
   (q.1/\q.2.all Qs=true,.bs m.boxes.length 0 len sz,{ m with boxes:=m.boxes++[q.2] })
  else ((rop P gl orc e m dst (.bsl sz len parts)).1,(rop P gl orc e m dst (.bsl sz len parts)).2,m)
 | .mks sz bytes zs l c=>(match e l,e c with
  | .int _ l,.int _ c=>((0<=l/\l<=c/\bytes*c<=281474976710656/\c<=9223372036854775807)/\zs.length=sz/\zs.all Qs=true,.bs m.boxes.length 0 l.toNat sz,{ m with boxes:=m.boxes++[fills c.toNat zs] })
  | _,_=>(False,.junk,m))
 | .cpy sz x y=>(match e x with
  | .bs id off len sz'=>(match e y with
   | .str s=>((sz'=1/\sz=1)/\id < m.boxes.length/\off+len<=(m.boxes.getD id []).length/\m.boxes.getD id []≠[],.int .i64 (min s.size len:Nat),{ m with boxes:=m.boxes.set id (setA (m.boxes.getD id []) off ((s.data.toList.take len).map fun b=>.int .u8 b.toNat)) })
   | y=>(sz'=sz/\(cellsS m sz y).1/\id < m.boxes.length/\off+len*sz<=(m.boxes.getD id []).length/\m.boxes.getD id []≠[],.int .i64 (min (lenS y) len:Nat),{ m with boxes:=m.boxes.set id (setA (m.boxes.getD id []) off ((cellsS m sz y).2.take (len*sz))) }))
  | _=>(False,.junk,m))
 | .clr zs x=>(match e x with
  | .bs id off len sz'=>((sz'=zs.length/\zs.all Qs=true)/\id < m.boxes.length/\off+len*zs.length<=(m.boxes.getD id []).length/\m.boxes.getD id []≠[],.tup [],{ m with boxes:=m.boxes.set id (setA (m.boxes.getD id []) off (fills len zs)) })
  | .sl _ []=>(True,.tup [],m)
  | _=>(False,.junk,m))
 | .mkmap kn=>(True,.mp m.boxes.length,{ m with boxes:=m.boxes++[[.mobj kn []]] })
 | .mupd kn x k v=>(match e x,keyA kn (e k) with
  | .mp id,some n=>(match m.boxes.getD id [] with
   | [.mobj kn' kvs]=>(kn'=kn/\bare (e v)=true,.junk,{ m with boxes:=m.boxes.set id [.mobj kn (match Qx n kvs 0 with
    | some (i,_)=>kvs.set i (n,e v)
    | none=>kvs++[(n,e v)])] })
   | _=>(False,.junk,m))
  | _,_=>(False,.junk,m))
 | .ment kn z x k=>(match e x,keyA kn (e k) with
  | .mp id,some n=>(match m.boxes.getD id [] with
   | [.mobj kn' kvs]=>(kn'=kn,(match Qx n kvs 0 with
    | some (i,c)=>.tup [c,.int .i64 i]
    | none=>.tup [z,.int .i64 kvs.length]),{ m with boxes:=m.boxes.set id [.mobj kn (match Qx n kvs 0 with
    | some _=>kvs
    | none=>kvs++[(n,z)])] })
   | _=>(False,.junk,m))
  | _,_=>(False,.junk,m))
 | .esto x s v=>(match e x,e s with
  | .mp id,.int _ i=>(match m.boxes.getD id [] with
   | [.mobj kn kvs]=>((0<=i/\i < kvs.length)/\bare (e v)=true,.junk,{ m with boxes:=m.boxes.set id [.mobj kn (kvs.set i.toNat ((kvs.getD i.toNat ([],.junk)).1,e v))] })
   | _=>(False,.junk,m))
  | _,_=>(False,.junk,m))
 | .rng x=>(match e x with
  | .mp id=>(match m.boxes.getD id [] with
   | [.mobj _ kvs]=>(True,.it m.boxes.length,{ m with boxes:=m.boxes++[[.mitr id kvs.length []]] })
   | _=>(False,.junk,m))
  | _=>(False,.junk,m))
 | .mks0 sz bytes c=>(match e c with
  | .int _ c=>if mutO orc dst=true then (if c.toNat=0 then (0<=c/\bytes*c<=281474976710656/\c<=9223372036854775807,.sl .full [],{ m with boxes:=m.boxes++[[]] })
    else (0<=c/\bytes*c<=281474976710656/\c<=9223372036854775807,.bs m.boxes.length 0 0 sz,{ m with boxes:=m.boxes++[List.replicate (c.toNat*sz) .junk] }))
   else (0<=c/\bytes*c<=281474976710656/\c<=9223372036854775807,.sl (.own m.lens.length sz) [],{ m with lens:=m.lens++[0] })
  | _=>(False,.junk,m))
 | so=>((rop P gl orc e m dst so).1,(rop P gl orc e m dst so).2,m)
end Go.Abs
