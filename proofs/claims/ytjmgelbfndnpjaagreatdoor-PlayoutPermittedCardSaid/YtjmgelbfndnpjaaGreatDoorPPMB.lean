import Derived.Test.YtjmgelbfndnpjaaGreatDoorPPMA
set_option linter.unusedVariables false
set_option linter.unusedSimpArgs false
namespace Go.Abs
open Go Go.RowKit
section inv
variable {w:World} {γ:G} {v:Value}
theorem Rep.inv_bool {b:Bool} (h:Rep w γ (.bool b) v):v=.bool b:=by cases h;rfl
theorem Rep.inv_int {k:IntKind} {n:Int} (h:Rep w γ (.int k n) v):v=.int k n:=by cases h;rfl
theorem Rep.inv_str {s:ByteArray} (h:Rep w γ (.str s) v):v=.string s:=by cases h;rfl
theorem Rep.inv_nilfn (h:Rep w γ .nilfn v):v=.nilFunc:=by cases h;rfl
theorem Rep.inv_ptr {id o:Nat} (h:Rep w γ (.ptr id o) v):∃ b,γ.β id=some b/\v=.pointer (some ⟨b,o,none⟩):=by cases h with | ptr h=>exact ⟨_,h,rfl⟩
theorem Rep.inv_bs {id off len sz:Nat} (h:Rep w γ (.bs id off len sz) v):∃ (b cap:Nat) (arr:Array Value) (e:TypeId),γ.β id=some b/\v=.slice (some ⟨b,off,none⟩) len cap/\len<=cap /\
  w.heap[b]? = some (.cells arr e (0,0))/\off+cap*sz<=arr.size:=by
 cases h with | bs h hl hh hs=>exact ⟨_,_,_,_,h,rfl,hl,hh,hs⟩
theorem Rep.inv_gd {g:Bool} {a:AV} (h:Rep w γ (.gd g a) v) (hg:g=true):Rep w γ a v:=by cases h with | gd h _=>exact h hg
theorem Rep.inv_gdF {a:AV} (h:Rep w γ (.gd false a) v):v=undef:=by cases h with | gd _ h=>exact h rfl
theorem Rep.inv_agg {cs:List AV} (h:Rep w γ (.agg cs) v):∃ arr:Array Value,v=.agg arr/\RepL w γ cs arr.toList:=by
 cases h with
 | @agg _ _ arr hl h=>exact ⟨arr,rfl,by simpa using hl,fun i a v h1 h2=>h i a v h1 (by simpa using h2)⟩
theorem Rep.inv_tup {cs:List AV} (h:Rep w γ (.tup cs) v):∃ arr:Array Value,v=.tuple arr/\RepL w γ cs arr.toList:=by
 cases h with
 | @tup _ _ arr hl h=>exact ⟨arr,rfl,by simpa using hl,fun i a v h1 h2=>h i a v h1 (by simpa using h2)⟩
theorem Rep.inv_fn {f:FuncId} {first cap:List AV} (h:Rep w γ (.fn f first cap) v):∃ fa ca:Array Value,v=.func (.func f) fa ca/\RepL w γ first fa.toList/\RepL w γ cap ca.toList:=by
 cases h with
 | @fn _ _ _ _ fa ca hl h hl' h'=>exact ⟨fa,ca,rfl,⟨by simpa using hl,fun i a v h1 h2=>h i a v h1 (by simpa using h2)⟩,⟨by simpa using hl',fun i a v h1 h2=>h' i a v h1 (by simpa using h2)⟩⟩
theorem Rep.inv_ep {row:List AV} {o:Nat} (h:Rep w γ (.ep row o) v):∃ (b off:Nat) (cv:Nat->Value),v=.pointer (some ⟨b,off+o,none⟩)/\b < w.heap.size /\
  (∀ (j:Nat) (c:AV),row[j]? = some c->w.cell? ⟨b,off+j,none⟩=some (cv j)/\γ.ro b (off+j)/\(cv j).oneCell'=true)/\(∀ (j:Nat) (c:AV),row[j]? = some c->Rep w γ.imm c (cv j)):=by
 cases h with
 | @ep _ _ _ b off cv hb hc h=>exact ⟨b,off,cv,rfl,hb,hc,h⟩
theorem Rep.inv_sl {rt:Rt} {rows:List (List AV)} (h:Rep w γ (.sl rt rows) v):∃ (a:Option Addr) (cap b off sz:Nat) (cv:Nat->Nat->Value),v=.slice a rows.length cap /\
  rows.length<=cap/\(a=none->cap=0)/\(rows≠[]->a=some ⟨b,off,none⟩/\b < w.heap.size)/\(∀ row∈rows,row.length=sz) /\
  (∀ (i j:Nat) (c:AV),Qr rows i j=some c->w.cell? ⟨b,off+i*sz+j,none⟩=some (cv i j)/\γ.ro b (off+i*sz+j)/\(cv i j).oneCell'=true) /\
  (∀ (i j:Nat) (c:AV),Qr rows i j=some c->Rep w γ.imm c (cv i j))/\RtOK w γ a rows.length cap sz rt:=by
 cases h with
 | @sl _ _ _ a cap b off sz cv h1 h2 h3 h4 h5 h6 h7=>exact ⟨a,cap,b,off,sz,cv,rfl,h1,h2,h3,h4,h5,h6,h7⟩
end inv
theorem Rep.of_imm {w:World} {γ:G} {a:AV} {v:Value} (h:Rep w γ.imm a v):Rep w γ a v :=
 h.monoV ⟨Nat.le_refl _,fun _ _ _ h=>⟨h,rfl⟩,fun _ _ h=>(by cases h),fun _=>Nat.zero_le _,fun _ _ h=>(by cases h),fun _ _ h=>(by cases h),fun _ _ _ h=>(by cases h),Sz.refl w⟩
theorem RepL.agg {w:World} {γ:G} {cs:List AV} {vs:List Value} (h:RepL w γ cs vs):Rep w γ (.agg cs) (.agg vs.toArray) :=
 .agg (by simpa using h.1) fun i c v h1 h2=>h.2 i c v h1 (by simpa using h2)
theorem RepL.agg' {w:World} {γ:G} {cs:List AV} {arr:Array Value} (h:RepL w γ cs arr.toList):Rep w γ (.agg cs) (.agg arr):=by
 have:=h.agg;simpa using this
theorem RepL.take {w:World} {γ:G} {cs:List AV} {vs:List Value} (h:RepL w γ cs vs) (n:Nat):RepL w γ (cs.take n) (vs.take n) :=
 ⟨by simp [h.1],fun i a v h1 h2=>by
  rw [List.getElem?_take] at h1 h2
  split at h1<;>simp_all
  exact h.2 i a v h1 h2⟩
theorem RepL.drop {w:World} {γ:G} {cs:List AV} {vs:List Value} (h:RepL w γ cs vs) (n:Nat):RepL w γ (cs.drop n) (vs.drop n) :=
 ⟨by simp [h.1],fun i a v h1 h2=>by
  rw [List.getElem?_drop] at h1 h2
  exact h.2 _ a v h1 h2⟩
def FW (r:Option Nat):Fence:={ Fence.wide with round:=r }
section
variable {P:Program} {o:Oper} {a:Act} {w:World} {next:Act->World->Prop} {Q:Exit->Act->World->Prop} {r:Option Nat}
theorem no_defer {x:Next} {w':World} (h:(execOp a.eval o).run P w=.ok x w') (hx:∀ d,x≠.defer d):∀ c,o.op≠.defer c:=by
 intro c hc
 unfold execOp at h
 simp only [hc,Sem.run_bind] at h
 cases hr:(resolve a.eval c o.type).run P w with
 | ok d w''=>rw [hr] at h;simp at h;exact hx d h.1.symm
 | halt e w''=>rw [hr] at h;simp at h
theorem wp_run {x:Next} {w':World} (h:(execOp a.eval o).run P w=.ok x w') (hx:∀ d,x≠.defer d) (hn:o.uponIn (FW r) 0 P a next Q (.ok x w')):o.wpIn (FW r) 0 P a w next Q:=by
 refine ⟨fun f _=>trivial,?_⟩
 rw [Oper.semAt_eq _ _ _ (no_defer h hx),h]
 exact hn
theorem Xv {v:Value} {w':World} (h:(execOp a.eval o).run P w=.ok (.value v) w') (hn:next (a.put o.dst v) w'):o.wpIn (FW r) 0 P a w next Q :=
 wp_run h (fun _ h=>by cases h) hn
theorem wp_skip' {w':World} (h:(execOp a.eval o).run P w=.ok .skip w') (hn:next (a.put o.dst undef) w'):o.wpIn (FW r) 0 P a w next Q :=
 wp_run h (fun _ h=>by cases h) hn
theorem wp_enter {f:FuncId} {args:Array Value} {w':World} (h:(execOp a.eval o).run P w=.ok (.enter f args) w') (hn:Calls P f args w' fun
   | .returned v,w''=>next (a.put o.dst v) w''
   | .panicked chain,w''=>Q (.panic chain) a w''
   | .outgrown,_=>LetsOut Q):o.wpIn (FW r) 0 P a w next Q :=
 wp_run h (fun _ h=>by cases h) ⟨fun h=>by simp [FW,Fence.wide] at h,callsIn_wide.2 hn⟩
end
theorem addr_add (b o n:Nat):(⟨b,o,none⟩:Addr).add n=⟨b,o+n,none⟩:=by
 unfold Addr.add;split<;>simp_all
theorem Qan {P:Program} {w:World} {γ:G} {agg:Bool} {n b o:Nat} {t:TypeId} {i:TypeInfo} {d:TypeDesc} (hi:P.info? t=some i) (hd:P.underlying t=some d) (hagg:Ub P t=agg)
  (hn:agg=true->n=i.size) {cs:List AV} {cv:Nat->Value} (hcell:∀ (j:Nat) (c:AV),cs[j]? = some c->w.cell? ⟨b,o+j,none⟩=some (cv j)) (hrep:∀ (j:Nat) (c:AV),cs[j]? = some c->Rep w γ c (cv j))
  (hc:(Zl agg n cs).1):∃ v,(Instr.loadAt t (.pointer (some ⟨b,o,none⟩))).run P w=.ok v w/\Rep w γ (Zl agg n cs).2 v:=by
 obtain ⟨h1,h2⟩:=hc
 have hlen:n<=cs.length:=by rw [List.length_take] at h1;omega
 cases agg with
 | false =>
  have hn1:=h2 rfl
  subst hn1
  have hz:cs[0]? = some (cs.getD 0 .junk):=by simp [List.getD];cases cs<;>simp_all
  have hc0:=hcell 0 _ hz
  refine ⟨cv 0,?_,?_⟩
  ·unfold Ub at hagg
   rw [hd] at hagg
   simp only [Nat.add_zero] at hc0
   cases d<;>simp at hagg<;>simp [Instr.loadAt,Instr.sureAddr,loadVar,isAgg,run_underlying hd,hc0]
  ·simpa [Zl] using hrep 0 _ hz
 | true =>
  have hn1:=hn rfl
  subst hn1
  have hl:(loadCells ⟨b,o,none⟩ i.size).run P w=.ok ((List.range i.size).map cv).toArray w:=by
   refine run_loadCells w _ _ _ fun j hj=>?_
   rw [addr_add]
   exact hcell j _ (List.getElem?_eq_getElem (by omega))
  refine ⟨.agg ((List.range i.size).map cv).toArray,?_,?_⟩
  ·unfold Ub at hagg
   rw [hd] at hagg
   cases d<;>simp at hagg<;>simp [Instr.loadAt,Instr.sureAddr,loadVar,isAgg,run_underlying hd,sizeOf,typeInfo,hi,hl]
  ·simp only [Zl,if_true]
   refine RepL.agg ⟨by simp;omega,fun j c v hj1 hj2=>?_⟩
   rw [List.getElem?_take] at hj1
   split at hj1
   ·simp at hj2
    obtain ⟨k,hk,rfl⟩:=hj2
    rename_i hlt
    rw [List.getElem?_range hlt] at hk
    cases hk
    exact hrep j c hj1
   ·cases hj1
end Go.Abs
namespace Go.Abs
open Go Go.RowKit
variable {N:Nat} {w0:Bas} {ro0:Nat->Nat->Prop} {γ:G} {w:World} {B:Nat->Option (List AV)} {L:Nat->Option Nat}
theorem rep_one {a:AV} {v:Value} (h:Rep w γ a v) (hc:Qs a=true):v.oneCell'=true:=by
 cases a<;>simp [Qs] at hc<;>cases h<;>first | rfl | (rename_i p;cases p<;>rfl)
theorem RepL.map {ro':Nat->Nat->Prop} {as:List AV} {vs:List Value} {f:AV->AV} (h:RepL w γ as vs) (hf:∀ a∈as,∀ v,Rep w γ a v->Rep w (G0 ro') (f a) v):RepL w (G0 ro') (as.map f) vs :=
 ⟨by simpa using h.1,fun i a v h1 h2=>by
  simp at h1
  obtain ⟨a',h3,rfl⟩:=h1
  exact hf a' (List.mem_of_getElem? h3) v (h.2 i a' v h3 h2)⟩
theorem RepL.any_of {as:List AV} {p:AV->Bool} {a:AV} (ha:a∈as) (hp:p a=true):as.any p=true:=List.any_eq_true.2 ⟨a,ha,hp⟩
theorem Qax (sz:Nat):∀ (n:Nat) (l:List AV),(chunk sz n l).length=n
 | 0,_=>rfl
 | n+1,l=>by simp [chunk,Qax sz n]
theorem chunk_row {sz:Nat}:∀ {n:Nat} {l:List AV} {row:List AV},n*sz<=l.length->row∈chunk sz n l->row.length=sz
 | 0,_,_,_,h=>by cases h
 | n+1,l,row,hl,h=>by
  rw [Nat.add_mul,Nat.one_mul] at hl
  rcases List.mem_cons.1 h with rfl | h
  ·simp;omega
  ·exact chunk_row (by simp;omega) h
theorem Uz {sz:Nat} {c:AV}:∀ {n:Nat} {l:List AV} {i j:Nat},Qr (chunk sz n l) i j=some c->i < n/\j < sz/\l[i*sz+j]? = some c
 | 0,_,i,j,h=>by simp [Qr,chunk] at h
 | n+1,l,0,j,h=>by
  simp only [Qr,chunk,List.getElem?_cons_zero,Option.bind_some] at h
  rw [List.getElem?_take] at h
  split at h
  ·rename_i hj;exact ⟨by omega,hj,by simpa using h⟩
  ·cases h
 | n+1,l,i+1,j,h=>by
  have h':Qr (chunk sz n (l.drop sz)) i j=some c:=by simpa [Qr,chunk] using h
  obtain ⟨h1,h2,h3⟩:=Uz h'
  rw [List.getElem?_drop] at h3
  refine ⟨by omega,h2,?_⟩
  rw [Nat.add_mul,Nat.one_mul,Nat.add_comm (i*sz) sz,Nat.add_assoc];exact h3
theorem cvn_rep (hm:MSim N w0 ro0 γ w B L) {m:AM} (hB:∀ id cells,m.boxes[id]? = some cells->B id=some cells) {ro':Nat->Nat->Prop} (hro:∀ b o,γ.ro b o->ro' b o) :
  ∀ (d:Nat) (a:AV) (v:Value),Rep w γ a v->(Zj d a=true->∀ id b,γ.β id=some b->∀ o,ro' b o)->Rep w (G0 ro') (cvn m d a) v:=by
 have himm:∀ (a:AV) (v:Value),Rep w γ.imm a v->Rep w (G0 ro') a v:=fun a v h =>
  h.mono ⟨Nat.le_refl _,fun b o _ h=>⟨hro b o h,rfl⟩,fun _ _ h=>(by cases h),fun _=>Nat.le_refl _,fun _ _ h=>(by cases h),rfl,fun _ _ _ h=>(by cases h),fun _ h=>h.elim,Sz.refl w⟩
 intro d
 induction d with
 | zero=>exact fun _ _ _ _=>.junk _
 | succ d ih =>
  intro a v h hp
  cases a with
  | junk=>exact .junk _
  | bool b=>rw [h.inv_bool];exact .bool b
  | int k n=>rw [h.inv_int];exact .int k n
  | str s=>rw [h.inv_str];exact .str s
  | nilfn=>rw [h.inv_nilfn];exact .nilfn
  | gd g a=>exact .junk _
  | yld l=>exact .junk _
  | mp id=>exact .junk _
  | nilv p=>cases h;exact .nilv p
  | it id=>exact .junk _
  | mobj kn kvs=>exact .junk _
  | mitr mid n s=>exact .junk _
  | agg cs =>
   obtain ⟨arr,rfl,hr⟩:=h.inv_agg
   refine RepL.agg' (hr.map fun a ha v hv=>ih a v hv fun hpa=>hp ?_)
   simp only [Zj];exact RepL.any_of ha hpa
  | tup cs =>
   obtain ⟨arr,rfl,hr⟩:=h.inv_tup
   have:=hr.map (ro':=ro') (f:=cvn m d) fun a ha v hv=>ih a v hv fun hpa=>hp (by simp only [Zj];exact RepL.any_of ha hpa)
   exact .tup (by simpa using this.1) fun i c v h1 h2=>this.2 i c v h1 (by simpa using h2)
  | fn f first cap =>
   obtain ⟨fa,ca,rfl,h1,h2⟩:=h.inv_fn
   have t1:=h1.map (ro':=ro') (f:=cvn m d) fun a ha v hv=>ih a v hv fun hpa=>hp (by simp only [Zj];rw [RepL.any_of ha hpa];rfl)
   have t2:=h2.map (ro':=ro') (f:=cvn m d) fun a ha v hv=>ih a v hv fun hpa=>hp (by simp only [Zj];rw [RepL.any_of ha hpa];simp)
   exact .fn (by simpa using t1.1) (fun i c v h1 h2=>t1.2 i c v h1 (by simpa using h2)) (by simpa using t2.1) fun i c v h1 h2=>t2.2 i c v h1 (by simpa using h2)
  | ep row o =>
   obtain ⟨b,off,cv,rfl,hb,hc,hr⟩:=h.inv_ep
   exact .ep cv hb (fun j c hj=>⟨(hc j c hj).1,hro _ _ (hc j c hj).2.1,(hc j c hj).2.2⟩) fun j c hj=>himm _ _ (hr j c hj)
  | sl rt rows =>
   obtain ⟨a,cap,b,off,sz,cv,rfl,h1,h2,h3,h4,h5,h6,h7⟩:=h.inv_sl
   have key:∀ rt',RtOK w (G0 ro') a rows.length cap sz rt'->Rep w (G0 ro') (.sl rt' rows) (.slice a rows.length cap):=fun rt' hrt =>
    .sl b off sz cv h1 h2 h3 h4 (fun i j c hj=>⟨(h5 i j c hj).1,hro _ _ (h5 i j c hj).2.1,(h5 i j c hj).2.2⟩) (fun i j c hj=>himm _ _ (h6 i j c hj)) hrt
   cases rt with
   | ro=>exact key .ro trivial
   | full=>exact key .full h7
   | nil=>exact key .nil h7
   | nn=>exact key .nn h7
   | own id sz'=>exact key .ro trivial
  | bs id off len sz =>
   obtain ⟨b,cap,arr,te,hb,rfl,hl,hh,hs⟩:=h.inv_bs
   have hbox:=hp rfl
   obtain ⟨_,hlt,_⟩:=hm.β id b hb
   simp only [cvn]
   cases hble:Nat.ble (off+len*sz) (m.boxes.getD id []).length with
   | false=>exact .junk _
   | true =>
    have hle:=Nat.le_of_ble_eq_true hble
    have hget:∀ (k:Nat) (c:AV),(((m.boxes.getD id []).map (cvn m d)).drop off)[k]? = some c->∃ c' u,c=cvn m d c'/\arr[off+k]? = some u/\arr.getD (off+k) undef=u/\Rep w γ c' u/\u.oneCell'=true:=fun k c hk=>by
     rw [List.getElem?_drop,List.getElem?_map] at hk
     cases hmb:m.boxes[id]? with
     | none=>simp [List.getD,hmb] at hk
     | some cells =>
      have:m.boxes.getD id []=cells:=by simp [List.getD,hmb]
      rw [this] at hk
      obtain ⟨arr',e',g2,g3,g4⟩:=hm.box id cells b (hB id cells hmb) hb
      rw [hh] at g2
      cases g2
      cases hc:cells[off+k]? with
      | none=>simp [hc] at hk
      | some c' =>
       simp [hc] at hk
       have h1:=(List.getElem?_eq_some_iff.1 hc).1
       have h2:=g3.1
       have hlt':off+k < arr.size:=by simp at h2;omega
       have hu:arr[off+k]? = some arr[off+k]:=Array.getElem?_eq_getElem hlt'
       exact ⟨c',arr[off+k],hk.symm,hu,by simp [hlt'],g3.2 _ c' _ hc (by simp [hlt']),g4 _ (by simp)⟩
    have hlen:=Qax sz len (((m.boxes.getD id []).map (cvn m d)).drop off)
    have hr:Rep w (G0 ro') (.sl .ro (chunk sz len (((m.boxes.getD id []).map (cvn m d)).drop off))) (.slice (some ⟨b,off,none⟩) (chunk sz len (((m.boxes.getD id []).map (cvn m d)).drop off)).length cap):=by
     refine .sl b off sz (fun i j=>arr.getD (off+(i*sz+j)) undef) (by rw [hlen];exact hl) (fun h=>by cases h) (fun _=>⟨rfl,hlt⟩) (fun row hrow=>?_) (fun i j c hc=>?_) (fun i j c hc=>?_) trivial
     ·exact chunk_row (by rw [List.length_drop,List.length_map];omega) hrow
     ·obtain ⟨_,_,h3⟩:=Uz hc
      obtain ⟨c',u,rfl,h4,h5,h6,h7⟩:=hget _ _ h3
      rw [cell_of_block hh,Nat.add_assoc,h5]
      exact ⟨h4,hbox id b hb _,h7⟩
     ·obtain ⟨_,_,h3⟩:=Uz hc
      obtain ⟨c',u,rfl,h4,h5,h6,h7⟩:=hget _ _ h3
      rw [G0_imm,h5]
      exact ih c' u h6 fun _=>hbox
    rw [hlen] at hr
    exact hr
  | ptr id o =>
   obtain ⟨b,hb,rfl⟩:=h.inv_ptr
   have hbox:=hp rfl
   obtain ⟨_,hlt,_⟩:=hm.β id b hb
   simp only [cvn]
   have hz:(.pointer (some ⟨b,o,none⟩):Value)=.pointer (some ⟨b,0+o,none⟩):=by rw [Nat.zero_add]
   rw [hz]
   cases hmb:m.boxes[id]? with
   | none =>
    have:m.boxes.getD id []=[]:=by simp [List.getD,hmb]
    rw [this]
    exact .ep (fun _=>undef) hlt (fun j c hj=>by simp at hj) fun j c hj=>by simp at hj
   | some cells =>
    have:m.boxes.getD id []=cells:=by simp [List.getD,hmb]
    rw [this]
    obtain ⟨arr,e,g2,g3,g4⟩:=hm.box id cells b (hB id cells hmb) hb
    have hget:∀ (j:Nat) (c:AV),(cells.map (cvn m d))[j]? = some c->∃ c' u,cells[j]? = some c'/\c=cvn m d c'/\arr[j]? = some u/\arr.getD j undef=u/\Rep w γ c' u:=fun j c hj=>by
     simp at hj
     obtain ⟨c',h1,rfl⟩:=hj
     have hlt':j < arr.size:=by
      have:=g3.1
      rcases Nat.lt_or_ge j cells.length with h | h
      ·simp at this;omega
      ·rw [List.getElem?_eq_none h] at h1;cases h1
     have hu:arr[j]? = some arr[j]:=Array.getElem?_eq_getElem hlt'
     exact ⟨c',arr[j],h1,rfl,hu,by simp [hlt'],g3.2 j c' _ h1 (by simp [hlt'])⟩
    refine .ep (fun j=>arr.getD j undef) hlt (fun j c hj=>?_) fun j c hj=>?_
    ·obtain ⟨c',u,h1,h2,h3,h4,h5⟩:=hget j c hj
     rw [Nat.zero_add,cell_of_block g2,h4]
     exact ⟨h3,hbox id b hb j,g4 u (by simpa using Array.mem_of_getElem? h3)⟩
    ·obtain ⟨c',u,h1,rfl,h3,h4,h5⟩:=hget j c hj
     rw [G0_imm,h4]
     exact ih c' u h5 fun _=>hbox
theorem flat_rep {w':World} {γ':G} {r:AV} {v:Value} (hf:flat r=true) (h:Rep w γ r v):Rep w' γ' r v:=by
 have one:∀ (a:AV) (v:Value),flat1 a=true->Rep w γ a v->Rep w' γ' a v:=fun a v hf h=>by
  cases a<;>simp [flat1] at hf
  ·rw [h.inv_bool];exact .bool _
  ·rw [h.inv_int];exact .int _ _
  ·rw [h.inv_str];exact .str _
 cases r with
 | tup cs =>
  obtain ⟨arr,rfl,hr⟩:=h.inv_tup
  simp only [flat] at hf
  exact .tup (by simpa using hr.1) fun i c v h1 h2=>one c v (List.all_eq_true.1 hf c (List.mem_of_getElem? h1)) (hr.2 i c v h1 (by simpa using h2))
 | _=>exact one _ _ hf h
theorem call_sound {P:Program} {gl:Nat->AV} (hm:MSim N w0 ro0 γ w B L) {m:AM} (hB:∀ id cells,m.boxes[id]? = some cells->B id=some cells) (hgl:∀ g,Rep w γ.imm (gl g) (.pointer (some ⟨g,0,none⟩)))
  {f:FuncId} {as:List AV} {vs:List Value} {r:AV} (hr:RepL w γ as vs) (hp:Pure P gl f (as.map (cvn m 6)) r) (hfl:as.any (Zj 6)=true->flat r=true)
  {R:Ending->World->Prop} (hk:∀ v w' γ',Ev w γ w' γ'->MSim N w0 ro0 γ' w' B L->Rep w' γ' r v->R (.returned v) w'):Calls P f vs.toArray w R:=by
 let ro':Nat->Nat->Prop:=fun b o=>γ.ro b o\/(as.any (Zj 6)=true/\∃ id,γ.β id=some b)
 have hargs:RepL w (G0 ro') (as.map (cvn m 6)) vs:=hr.map fun a ha v hv=>cvn_rep hm hB (fun b o h=>.inl h) 6 a v hv fun hpa id b hb o=>.inr ⟨RepL.any_of ha hpa,id,hb⟩
 have hgl':∀ g,Rep w (G0 ro') (gl g) (.pointer (some ⟨g,0,none⟩)):=fun g =>
  (hgl g).mono ⟨Nat.le_refl _,fun b o _ h=>⟨.inl h,rfl⟩,fun _ _ h=>(by cases h),fun _=>Nat.le_refl _,fun _ _ h=>(by cases h),rfl,fun _ _ _ h=>(by cases h),fun _ h=>h.elim,Sz.refl w⟩
 refine (hp.2 ro' w vs hgl' hargs).mono ?_
 rintro e w' ⟨v,rfl,hb,hv⟩
 refine hk v w' _ (hm.ev_below hb) (hm.grow hb) ?_
 cases hany:as.any (Zj 6) with
 | true=>exact flat_rep (hfl hany) hv
 | false =>
  refine hv.monoV ⟨Nat.le_refl _,fun b o hlt h=>⟨?_,rfl⟩,fun _ _ h=>(by cases h),fun _=>Nat.zero_le _,fun _ _ h=>(by cases h),fun _ _ h=>(by cases h),fun _ _ _ h=>(by cases h),Sz.refl w'⟩
  rcases h with (h | ⟨h,_⟩) | h
  ·exact .inl h
  ·rw [hany] at h;cases h
  ·exact .inr ⟨h,hlt⟩
end Go.Abs
namespace Go.Abs
open Go Go.RowKit
def Zf (n sz:Nat) (cv:Nat->Nat->Value):List Value:=(List.range (n*sz)).map fun k=>cv (k / sz) (k % sz)
theorem Xn (n sz:Nat) (cv:Nat->Nat->Value):(Zf n sz cv).length=n*sz:=by simp [Zf]
theorem flatV_get {n sz:Nat} {cv:Nat->Nat->Value} {k:Nat} {u:Value} (h:(Zf n sz cv)[k]? = some u):k < n*sz/\u=cv (k / sz) (k % sz):=by
 simp only [Zf,List.getElem?_map] at h
 rcases Nat.lt_or_ge k (n*sz) with hk | hk
 ·rw [List.getElem?_range hk] at h
  simp at h
  exact ⟨hk,h.symm⟩
 ·rw [List.getElem?_eq_none (by simpa using hk)] at h
  simp at h
theorem flatV_at (n sz:Nat) (cv:Nat->Nat->Value) {i j:Nat} (hi:i < n) (hj:j < sz):(Zf n sz cv)[i*sz+j]? = some (cv i j):=by
 have hk:i*sz+j < n*sz:=by
  have:(i+1)*sz<=n*sz:=Nat.mul_le_mul_right _ hi
  rw [Nat.add_mul,Nat.one_mul] at this
  omega
 have h1:(i*sz+j) / sz=i:=by
  rw [Nat.mul_comm,Nat.mul_add_div (by omega),Nat.div_eq_of_lt hj];rfl
 have h2:(i*sz+j) % sz=j:=by
  rw [Nat.mul_comm,Nat.mul_add_mod,Nat.mod_eq_of_lt hj]
 simp [Zf,List.getElem?_range hk,h1,h2]
theorem rowCell_at {rows:List (List AV)} {sz k:Nat} (hsz:∀ row∈rows,row.length=sz) (hk:k < rows.length*sz):∃ c,Qr rows (k / sz) (k % sz)=some c:=by
 have h0:0 < sz:=by rcases Nat.eq_zero_or_pos sz with h | h;· subst h;simp at hk
                    · exact h
 have h1:k / sz < rows.length:=by rw [Nat.div_lt_iff_lt_mul h0];exact hk
 have h2:k % sz < (rows[k / sz]).length:=by rw [hsz _ (List.getElem_mem h1)];exact Nat.mod_lt _ h0
 exact ⟨rows[k / sz][k % sz],by simp [Qr,h1,h2]⟩
structure SlV (w:World) (γ:G) (rows:List (List AV)) (a:Option Addr) (cap b off sz:Nat) (cv:Nat->Nat->Value):Prop where
 hcap:rows.length<=cap
 hnil:a=none->cap=0
 at_:rows≠[]->a=some ⟨b,off,none⟩/\b < w.heap.size
 hsz:∀ row∈rows,row.length=sz
 cell:∀ (i j:Nat) (c:AV),Qr rows i j=some c->w.cell? ⟨b,off+i*sz+j,none⟩=some (cv i j)/\γ.ro b (off+i*sz+j)/\(cv i j).oneCell'=true
 rep:∀ (i j:Nat) (c:AV),Qr rows i j=some c->Rep w γ.imm c (cv i j)
theorem SlV.mk' {w:World} {γ:G} {rows:List (List AV)} {a:Option Addr} {cap b off sz:Nat} {cv:Nat->Nat->Value} (h:SlV w γ rows a cap b off sz cv) {rt:Rt} (hrt:RtOK w γ a rows.length cap sz rt) :
  Rep w γ (.sl rt rows) (.slice a rows.length cap) :=   .sl b off sz cv h.hcap h.hnil h.at_ h.hsz h.cell h.rep hrt
theorem Rep.sl_inv {w:World} {γ:G} {v:Value} {rt:Rt} {rows:List (List AV)} (h:Rep w γ (.sl rt rows) v):∃ (a:Option Addr) (cap b off sz:Nat) (cv:Nat->Nat->Value),
  v=.slice a rows.length cap/\SlV w γ rows a cap b off sz cv/\RtOK w γ a rows.length cap sz rt:=by
 obtain ⟨a,cap,b,off,sz,cv,h0,h1,h2,h3,h4,h5,h6,h7⟩:=h.inv_sl
 exact ⟨a,cap,b,off,sz,cv,h0,⟨h1,h2,h3,h4,h5,h6⟩,h7⟩
theorem SlV.cells {w:World} {γ:G} {rows:List (List AV)} {a:Option Addr} {cap b off sz:Nat} {cv:Nat->Nat->Value} (h:SlV w γ rows a cap b off sz cv) :
  ∀ k u,(Zf rows.length sz cv)[k]? = some u->w.cell? ((⟨b,off,none⟩:Addr).add k)=some u:=fun k u hu=>by
 obtain ⟨hk,rfl⟩:=flatV_get hu
 obtain ⟨c,hc⟩:=rowCell_at h.hsz hk
 have:=(h.cell _ _ c hc).1
 have h0:0 < sz:=by rcases Nat.eq_zero_or_pos sz with h | h;· subst h;simp at hk
                    · exact h
 rw [addr_add]
 rw [<- this]
 have e:off+k=off+k / sz*sz+k % sz:=by
  have:=Nat.div_add_mod k sz
  rw [Nat.mul_comm] at this
  omega
 rw [e]
theorem SlV.one {w:World} {γ:G} {rows:List (List AV)} {a:Option Addr} {cap b off sz:Nat} {cv:Nat->Nat->Value} (h:SlV w γ rows a cap b off sz cv) :
  ∀ u∈Zf rows.length sz cv,u.oneCell'=true:=fun u hu=>by
 obtain ⟨k,hk⟩:=List.mem_iff_getElem?.1 hu
 obtain ⟨hk',rfl⟩:=flatV_get hk
 obtain ⟨c,hc⟩:=rowCell_at h.hsz hk'
 exact (h.cell _ _ c hc).2.2
theorem SlV.first {P:Program} {w:World} {γ:G} {rows:List (List AV)} {a:Option Addr} {cap b off sz:Nat} {cv:Nat->Nat->Value} (h:SlV w γ rows a cap b off sz cv) {w':World} (hw:∀ x,w'.cell? x=w.cell? x) :
  (Builtin.firstCells sz rows.length (.slice a rows.length cap)).run P w'=.ok (Zf rows.length sz cv).toArray w':=by
 cases hr:rows with
 | nil =>
  subst hr
  cases a with
  | none=>simp [Builtin.firstCells,Zf]
  | some a=>simp [Builtin.firstCells,loadCells,loadCellsFrom,Zf]
 | cons r rs =>
  rw [<- hr]
  obtain ⟨rfl,_⟩:=h.at_ (by rw [hr];simp)
  exact run_firstCells_some w' sz rows.length _ rows.length cap _ (Xn _ _ _) fun j u hj=>by rw [hw];exact h.cells j u hj
def Wo (n:Nat) (cv cv2:Nat->Nat->Value):Nat->Nat->Value:=fun i j=>if i < n then cv i j else cv2 (i - n) j
theorem Ya {rows rows2:List (List AV)} {i j:Nat} {c:AV} (h:Qr (rows++rows2) i j=some c) :
  (i < rows.length/\Qr rows i j=some c)\/(rows.length<=i/\Qr rows2 (i - rows.length) j=some c):=by
 unfold Qr at *
 rcases Nat.lt_or_ge i rows.length with hi | hi
 ·rw [List.getElem?_append_left hi] at h;exact .inl ⟨hi,h⟩
 ·rw [List.getElem?_append_right hi] at h;exact .inr ⟨hi,h⟩
theorem rowCell_lt {rows:List (List AV)} {i j:Nat} {c:AV} (h:Qr rows i j=some c):∃ hi:i < rows.length,j < rows[i].length:=by
 unfold Qr at h
 cases hr:rows[i]? with
 | none=>simp [hr] at h
 | some row =>
  obtain ⟨hi,rfl⟩:=List.getElem?_eq_some_iff.1 hr
  simp [hr] at h
  exact ⟨hi,(List.getElem?_eq_some_iff.1 h).1⟩
theorem growBy_le (n:Nat):∀ (k c:Nat),c < n->Builtin.growBy n k c<=n+n / 4+192
 | 0,c,h=>by simp only [Builtin.growBy];omega
 | k+1,c,h=>by
  simp only [Builtin.growBy]
  rw [if_neg (by omega)]
  by_cases h2:c+(c+768) / 4 < n
  ·exact growBy_le n k _ h2
  ·cases k with
   | zero=>simp only [Builtin.growBy];omega
   | succ k=>simp only [Builtin.growBy];rw [if_pos (by omega)];omega
theorem nsc_le {n c:Nat} (h:c < n):2*Builtin.nextslicecap n c<=3*n+4000:=by
 unfold Builtin.nextslicecap
 split
 ·omega
 ·split
  ·omega
  ·have:=growBy_le n 4 c h;omega
section run
variable {P:Program} {w:World} {γ:G} {t ty e:TypeId} {i:TypeInfo} {z:Value} {rows rows2:List (List AV)} {a a2:Option Addr} {cap b off cap2 b2 off2 sz:Nat} {cv cv2:Nat->Nat->Value}
theorem run_app_none (ht:P.underlying t=some (.slice e)) (hi:P.info? e=some i) (a2:Option Addr) (cap2 len:Nat) (hcap:len<=cap) :
  (Builtin.append_ #[t,t] ty #[.slice a len cap,.slice a2 0 cap2]).run P w=.ok (.slice a len cap) w:=by
 cases a<;>cases a2<;>simp [Builtin.append_,run_underlying ht,sizeOf,typeInfo,hi,Builtin.lenOf,hcap,Builtin.firstCells,loadCells,loadCellsFrom,storeCells]
theorem run_app_grow (ht:P.underlying t=some (.slice e)) (hi:P.info? e=some i) (hz:i.zero=some z) (h:SlV w γ rows a cap b off i.size cv) {γ2:G} (h2:SlV w γ2 rows2 a2 cap2 b2 off2 i.size cv2)
  (hg:cap < rows.length+rows2.length) (hfit:(3*(rows.length+rows2.length)+4000)*i.bytes<=562949953421312) (hbig:rows.length+rows2.length<=9223372036854775807) :
  ∃ newcap,rows.length+rows2.length<=newcap/\(Builtin.append_ #[t,t] ty #[.slice a rows.length cap,.slice a2 rows2.length cap2]).run P w =
   .ok (.slice (some ⟨w.heap.size,0,none⟩) (rows.length+rows2.length) newcap)
    (w.drew.alloc (.cells ((Zf rows.length i.size cv).toArray++(Zf rows2.length i.size cv2).toArray++Builtin.zeroCells z.cells (newcap - (rows.length+rows2.length))) e)):=by
 have hn:¬ (rows.length+rows2.length<=cap):=by omega
 have h63':¬ (9223372036854775807 < ((rows.length:Int)+(rows2.length:Int))):=by omega
 have hle:=nsc_le hg
 have h48':¬ (281474976710656 < Builtin.nextslicecap (rows.length+rows2.length) cap*i.bytes):=by
  have:2*Builtin.nextslicecap (rows.length+rows2.length) cap*i.bytes<=(3*(rows.length+rows2.length)+4000)*i.bytes:=Nat.mul_le_mul_right _ (by omega)
  rw [Nat.mul_assoc] at this
  omega
 have f1:=h.first (P:=P) (w':=w.drew) fun _=>rfl
 have f2:=h2.first (P:=P) (w':=w.drew) fun _=>rfl
 refine ⟨grownCap w (rows.length+rows2.length) cap e,grownCap_ge w _ _ _,?_⟩
 simp [Builtin.append_,run_underlying ht,sizeOf,typeInfo,zeroValue,hi,hz,Builtin.lenOf,hn,h63',h48',Question.forced,f1,f2,newRow,grownCap]
 congr 2
 apply Array.ext'
 simp [List.append_assoc]
theorem run_app_room (ht:P.underlying t=some (.slice e)) (hi:P.info? e=some i) (h2:SlV w γ rows2 a2 cap2 b2 off2 i.size cv2) {len:Nat}
  (hroom:len+rows2.length<=cap) {arr:Array Value} {e':TypeId} (hh:w.heap[b]? = some (.cells arr e' (0,0))) (hsz:off+cap*i.size<=arr.size) :
  (Builtin.append_ #[t,t] ty #[.slice (some ⟨b,off,none⟩) len cap,.slice a2 rows2.length cap2]).run P w =
   .ok (.slice (some ⟨b,off,none⟩) (len+rows2.length) cap) (w.setCells b (off+len*i.size) (Zf rows2.length i.size cv2)):=by
 have f2:=h2.first (P:=P) (w':=w) fun _=>rfl
 have hle:(len+rows2.length)*i.size<=cap*i.size:=Nat.mul_le_mul_right _ hroom
 rw [Nat.add_mul] at hle
 have hst:=run_storeCells_cells (P:=P) b (off+len*i.size) (Zf rows2.length i.size cv2) 0 w (fun j hj=>by
   rw [Xn] at hj
   rw [cell_of_block hh,Nat.add_zero,Array.getElem?_eq_getElem (by omega)];rfl)
  (fun j hj=>Vv hh) h2.one
 simp only [Nat.add_zero] at hst
 simp [Builtin.append_,run_underlying ht,sizeOf,typeInfo,hi,Builtin.lenOf,hroom,f2,addr_add,hst]
end run
end Go.Abs
namespace Go.Abs
open Go Go.RowKit
variable {N:Nat} {w0:Bas} {ro0:Nat->Nat->Prop} {γ:G} {w:World} {B:Nat->Option (List AV)} {L:Nat->Option Nat}
theorem SlV.fix {rows:List (List AV)} {a:Option Addr} {cap b off sz sz':Nat} {cv:Nat->Nat->Value} (h:SlV w γ rows a cap b off sz' cv) (hr:∀ row∈rows,row.length=sz):SlV w γ rows a cap b off sz cv:=by
 cases hrows:rows with
 | nil =>
  subst hrows
  exact ⟨h.hcap,h.hnil,h.at_,hr,fun i j c hc=>by simp [Qr] at hc,fun i j c hc=>by simp [Qr] at hc⟩
 | cons r rs =>
  have e:sz'=sz:=(h.hsz r (by simp [hrows])).symm.trans (hr r (by simp [hrows]))
  rw [<- hrows];subst e;exact h
theorem SlV.mono {rows:List (List AV)} {a:Option Addr} {cap b off sz:Nat} {cv:Nat->Nat->Value} (h:SlV w γ rows a cap b off sz cv) {w':World} {γ':G} (e:Ev w γ w' γ'):SlV w' γ' rows a cap b off sz cv:=by
 obtain ⟨a',cap',b',off',sz',cv',e0,h1,h2⟩:=((h.mk' (rt:=.ro) trivial).mono e).sl_inv
 refine ⟨h.hcap,h.hnil,fun hn=>⟨(h.at_ hn).1,Nat.lt_of_lt_of_le (h.at_ hn).2 e.size⟩,h.hsz,fun i j c hc=>?_,fun i j c hc=>(h.rep i j c hc).mono e.imm⟩
 have hb:=(h.at_ (by rintro rfl;simp [Qr] at hc)).2
 obtain ⟨g1,g2,g3⟩:=h.cell i j c hc
 exact ⟨(e.ro _ _ hb g2).2.trans g1,(e.ro _ _ hb g2).1,g3⟩
theorem SlV.join_new {rows rows2:List (List AV)} {a a2:Option Addr} {cap b off cap2 b2 off2 sz:Nat} {cv cv2:Nat->Nat->Value} (h:SlV w γ rows a cap b off sz cv) {γ2:G} (h2:SlV w γ2 rows2 a2 cap2 b2 off2 sz cv2) (hr2:∀ i j c,Qr rows2 i j=some c->Rep w γ.imm c (cv2 i j))
  {w':World} {γ':G} (e:Ev w γ w' γ') {nb:Nat} {rest:Array Value} {te:TypeId}
  (hh:w'.heap[nb]? = some (.cells ((Zf rows.length sz cv).toArray++(Zf rows2.length sz cv2).toArray++rest) te (0,0)))
  (hro:∀ o,o < (rows.length+rows2.length)*sz->γ'.ro nb o) {newcap:Nat} (hcap:rows.length+rows2.length<=newcap) :
  SlV w' γ' (rows++rows2) (some ⟨nb,0,none⟩) newcap nb 0 sz (Wo rows.length cv cv2):=by
 refine ⟨by simpa using hcap,fun hn=>(by cases hn),fun _=>⟨rfl,lt_of_heap hh⟩,fun row hr=>?_,fun i j c hc=>?_,fun i j c hc=>?_⟩
 ·rcases List.mem_append.1 hr with hr | hr
  ·exact h.hsz row hr
  ·exact h2.hsz row hr
 ·obtain ⟨hi,hj⟩:=rowCell_lt hc
  have hj':j < sz:=by
   rcases List.mem_append.1 (List.getElem_mem hi) with hr | hr
   ·rw [h.hsz _ hr] at hj;exact hj
   ·rw [h2.hsz _ hr] at hj;exact hj
  have hlt:i*sz+j < (rows.length+rows2.length)*sz:=by
   have:(i+1)*sz<=(rows.length+rows2.length)*sz:=Nat.mul_le_mul_right _ (by simp at hi;omega)
   rw [Nat.add_mul,Nat.one_mul] at this
   omega
  rw [Nat.zero_add]
  refine ⟨?_,hro _ hlt,?_⟩
  ·rw [cell_of_block hh]
   rcases Ya hc with ⟨h1,h3⟩ | ⟨h1,h3⟩
   ·have:=flatV_at rows.length sz cv h1 hj'
    have hl:i*sz+j < (Zf rows.length sz cv).length:=(List.getElem?_eq_some_iff.1 this).1
    rw [Array.append_assoc,Array.getElem?_append_left (by simpa using hl)]
    simp [Wo,h1,this]
   ·have h4:i - rows.length < rows2.length:=(rowCell_lt h3).1
    have:=flatV_at rows2.length sz cv2 h4 hj'
    have e1:i*sz+j=rows.length*sz+((i - rows.length)*sz+j):=by
     rw [Nat.sub_mul]
     have:rows.length*sz<=i*sz:=Nat.mul_le_mul_right _ h1
     omega
    have hl:(i - rows.length)*sz+j < (Zf rows2.length sz cv2).length:=(List.getElem?_eq_some_iff.1 this).1
    rw [Array.append_assoc,Array.getElem?_append_right (by simp [Xn];omega)]
    rw [Array.getElem?_append_left (by simp [Xn] at hl |-;omega)]
    have e2:i*sz+j - rows.length*sz=(i - rows.length)*sz+j:=by omega
    simp only [List.size_toArray,Xn,e2,List.getElem?_toArray,this,Wo,if_neg (Nat.not_lt.2 h1)]
  ·unfold Wo
   rcases Ya hc with ⟨h1,h3⟩ | ⟨h1,h3⟩
   ·rw [if_pos h1];exact (h.cell i j c h3).2.2
   ·rw [if_neg (Nat.not_lt.2 h1)];exact (h2.cell _ j c h3).2.2
 ·unfold Wo
  rcases Ya hc with ⟨h1,h3⟩ | ⟨h1,h3⟩
  ·rw [if_pos h1];exact (h.rep i j c h3).mono e.imm
  ·rw [if_neg (Nat.not_lt.2 h1)];exact (hr2 _ j c h3).mono e.imm
theorem Ja (w:World) (o:Obj):(w.drew.alloc o).heap[w.heap.size]? = some o:=by
 show (w.heap.push o)[w.heap.size]? = some o
 simp
theorem size_drew_alloc (w:World) (o:Obj):w.heap.size < (w.drew.alloc o).heap.size:=by
 show _ < (w.heap.push o).size
 simp
theorem below_drew_alloc (w:World) (o:Obj):Below w.heap.size w (w.drew.alloc o) :=
 ((Below.refl w.heap.size w).drew).alloc (Nat.le_refl _) o
section
variable {P:Program} {t ty e:TypeId} {i:TypeInfo} {z:Value} {rows rows2:List (List AV)} {rt rt2:Rt} {v1 v2:Value}
theorem app_ro (hm:MSim N w0 ro0 γ w B L) (ht:P.underlying t=some (.slice e)) (hi:P.info? e=some i) (hz:i.zero=some z) (h1:Rep w γ (.sl .full rows) v1) (h2:Rep w γ (.sl rt2 rows2) v2)
  (hr:∀ row∈rows++rows2,row.length=i.size) (hfit:(3*(rows.length+rows2.length)+4000)*i.bytes<=562949953421312) (hbig:rows.length+rows2.length<=9223372036854775807) :
  ∃ v w' γ',(Builtin.append_ #[t,t] ty #[v1,v2]).run P w=.ok v w'/\Ev w γ w' γ'/\MSim N w0 ro0 γ' w' B L/\Rep w' γ' (.sl .ro (rows++rows2)) v:=by
 obtain ⟨a,cap,b,off,sz,cv,rfl,s1,r1⟩:=h1.sl_inv
 obtain ⟨a2,cap2,b2,off2,sz2,cv2,rfl,s2,r2⟩:=h2.sl_inv
 replace s1:=s1.fix (sz:=i.size) fun row h=>hr row (by simp [h])
 replace s2:=s2.fix (sz:=i.size) fun row h=>hr row (by simp [h])
 by_cases hn:rows2=[]
 ·subst hn
  refine ⟨_,w,γ,run_app_none ht hi _ _ _ s1.hcap,Ev.refl _ _,hm,?_⟩
  rw [List.append_nil]
  exact s1.mk' trivial
 ·have hpos:0 < rows2.length:=List.length_pos_iff.2 hn
  have hcap:cap=rows.length:=r1
  obtain ⟨newcap,hle,hrun⟩:=run_app_grow (P:=P) (ty:=ty) ht hi hz s1 s2 (by omega) hfit hbig
  have hb:=below_drew_alloc w (.cells ((Zf rows.length i.size cv).toArray++(Zf rows2.length i.size cv2).toArray++Builtin.zeroCells z.cells (newcap - (rows.length+rows2.length))) e)
  refine ⟨_,_,_,hrun,hm.ev_below hb,hm.grow hb,?_⟩
  have hj:=s1.join_new s2 s2.rep (hm.ev_below hb) (nb:=w.heap.size) (te:=e) (Ja w _) (fun o _=>.inr ⟨Nat.le_refl _,size_drew_alloc w _⟩) hle
  have:=hj.mk' (rt:=.ro) trivial
  rwa [List.length_append] at this
def G.mark (γ:G) (id n:Nat):G:={ γ with cur:=fun i=>if i=id then n else γ.cur i }
theorem MSim.ev_mark (hm:MSim N w0 ro0 γ w B L) {id n:Nat} (hn:γ.cur id<=n) (h0:γ.cur id=n\/γ.own id=none):Ev w γ w (γ.mark id n) where
 size:=Nat.le_refl _
 ro _ _ _ h:=⟨h,rfl⟩
 β _ _ h:=h
 cur j:=by simp only [G.mark];split<;>simp_all
 mm _ _ h:=h
 lp:=rfl
 own j b _ ho:=⟨ho,fun arr _ h=>⟨arr,h,Nat.le_refl _⟩,fun _ h=>h⟩
 sp _ h:=⟨h,rfl⟩
 ss:=Sz.refl w
theorem MSim.mark (hm:MSim N w0 ro0 γ w B L) {id n:Nat} (hn:γ.cur id<=n) (h0:γ.cur id=n\/γ.own id=none):MSim N w0 ro0 (γ.mark id n) w B (fun i=>if i=id then some n else L i) where
 bs:=w0.st _ _ _ _ hm.bs ⟨rfl,rfl,rfl,Nat.le_refl _,fun _ _ _=>rfl,fun _ _ _ h=>⟨h,rfl⟩,fun _ hb=>.inl hb,fun _ _ h=>.inl h⟩
 hN:=hm.hN
 ro0:=hm.ro0
 robd:=hm.robd
 box j cs b hb h1:=by
  obtain ⟨arr,e,h2,h3,h4⟩:=hm.box j cs b hb h1
  exact ⟨arr,e,h2,h3.mono (hm.ev_mark hn h0),h4⟩
 β:=hm.β
 inj:=hm.inj
 own j b hb:=by
  obtain ⟨h1,h2,k,hk⟩:=hm.own j b hb
  refine ⟨h1,h2,?_⟩
  by_cases hj:j=id
  ·exact ⟨n,by simp [hj]⟩
  ·exact ⟨k,by simp [hj,hk]⟩
 oinj:=hm.oinj
 sp:=hm.sp
 mm i b hb:=by
  obtain ⟨h1,h2,h3,h4,h5,h6,h8,h7⟩:=hm.mm i b hb
  exact ⟨h1,h2,h3,h4,h5,h6,h8,h7.mono (hm.ev_mark hn h0).toR.toV rfl⟩
 minj:=hm.minj
 len j k hj:=by
  by_cases h:j=id
  ·simp [h] at hj;simp [G.mark,h,hj]
  ·simp [h] at hj;simp [G.mark,h,hm.len j k hj]
 cur0 j hj:=by
  by_cases h:j=id
  ·simp [h] at hj
  ·simp [h] at hj;simp [G.mark,h,hm.cur0 j hj]
theorem app_ownG (hm:MSim N w0 ro0 γ w B L) (ht:P.underlying t=some (.slice e)) (hi:P.info? e=some i) (hz:i.zero=some z) (hzs:z.cells.size=i.size) {id:Nat}
  (h1:(Rep w γ (.sl .full rows) v1/\L id=none)\/(Rep w γ (.sl (.own id i.size) rows) v1/\L id=some rows.length)) {γ2:G} {a2:Option Addr} {cap2 b2 off2:Nat} {cv2:Nat->Nat->Value} (s2:SlV w γ2 rows2 a2 cap2 b2 off2 i.size cv2) (hr2:∀ i j c,Qr rows2 i j=some c->Rep w γ.imm c (cv2 i j))
  (hr:∀ row∈rows++rows2,row.length=i.size) (hfit:(3*(rows.length+rows2.length)+4000)*i.bytes<=562949953421312) (hbig:rows.length+rows2.length<=9223372036854775807) :
  ∃ v w' γ',(Builtin.append_ #[t,t] ty #[v1,.slice a2 rows2.length cap2]).run P w=.ok v w'/\Ev w γ w' γ'/\MSim N w0 ro0 γ' w' B (fun j=>if j=id then some (rows.length+rows2.length) else L j)/\Rep w' γ' (.sl (.own id i.size) (rows++rows2)) v:=by
 have key:∃ a cap b off cv,v1=.slice a rows.length cap/\SlV w γ rows a cap b off i.size cv/\γ.cur id<=rows.length/\(γ.cur id=rows.length\/γ.own id=none)/\(cap=rows.length\/(Spare w γ a id rows.length cap i.size/\γ.cur id=rows.length)):=by
  rcases h1 with ⟨h1,hL⟩ | ⟨h1,hL⟩
  ·obtain ⟨a,cap,b,off,sz,cv,rfl,s1,r1⟩:=h1.sl_inv
   have hown:γ.own id=none:=by
    cases ho:γ.own id with
    | none=>rfl
    | some b=>obtain ⟨_,_,n,hn⟩:=hm.own id b ho;rw [hL] at hn;cases hn
   exact ⟨a,cap,b,off,cv,rfl,s1.fix fun row h=>hr row (by simp [h]),by rw [hm.cur0 id hL];exact Nat.zero_le _,.inr hown,.inl r1⟩
  ·obtain ⟨a,cap,b,off,sz,cv,rfl,s1,r1,r2,r3⟩:=h1.sl_inv
   subst r1
   have hc:=hm.len id _ hL
   exact ⟨a,cap,b,off,cv,rfl,s1,by omega,.inl hc,(r3 hc.symm).imp_right fun h=>⟨h,hc⟩⟩
 obtain ⟨a,cap,b,off,cv,rfl,s1,hcle,hcur,hsp⟩:=key
 by_cases hn:rows2=[]
 ·subst hn
  refine ⟨_,w,γ.mark id rows.length,run_app_none ht hi _ _ _ s1.hcap,hm.ev_mark hcle hcur,by simpa using hm.mark hcle hcur,?_⟩
  rw [List.append_nil]
  refine (s1.mono (hm.ev_mark hcle hcur)).mk' ⟨rfl,by simp [G.mark],fun _=>?_⟩
  rcases hsp with h | ⟨h,hc⟩
  ·exact .inl h
  ·refine .inr (h.mono (hm.ev_mark hcle hcur) ?_)
   simp [G.mark,hc]
 ·have hpos:0 < rows2.length:=List.length_pos_iff.2 hn
  by_cases hroom:rows.length+rows2.length<=cap
  ·
   rcases hsp with h | ⟨⟨b',off',arr,te,ha,ho,hh,hsz,hfree⟩,hc⟩
   ·omega
   ·subst ha
    have hrun:=run_app_room (P:=P) (ty:=ty) (off:=off') ht hi s2 hroom hh hsz
    have hq:off'+(rows.length+rows2.length)*i.size=off'+rows.length*i.size+(Zf rows2.length i.size cv2).length:=by rw [Xn,Nat.add_mul];omega
    have hev:=hm.ev_extend (vs:=Zf rows2.length i.size cv2) (n:=rows.length+rows2.length) ho (by omega) (fun h=>by omega) hq hfree
    refine ⟨_,_,_,hrun,hev,hm.extend ho (by omega) (fun h=>by omega) hq hfree,?_⟩
    have hb:b' < w.heap.size:=lt_of_heap hh
    have hle:(rows.length+rows2.length)*i.size<=cap*i.size:=Nat.mul_le_mul_right _ hroom
    have hat:rows≠[]->b=b'/\off=off':=fun h=>by
     obtain ⟨h1,_⟩:=s1.at_ h
     injection h1 with h1
     injection h1 with h1 h2
     exact ⟨h1.symm,h2.symm⟩
    have hin:∀ j (hj:j < (Zf rows2.length i.size cv2).length),(w.setCells b' (off'+rows.length*i.size) (Zf rows2.length i.size cv2)).cell? ⟨b',off'+rows.length*i.size+j,none⟩=some (Zf rows2.length i.size cv2)[j] :=
     World.cell?_setCells_in b' _ _ w fun j hj=>by
      rw [Xn] at hj
      rw [cell_of_block hh,Array.getElem?_eq_getElem (by rw [Nat.add_mul] at hle;omega)];rfl
    have hj:SlV (w.setCells b' (off'+rows.length*i.size) (Zf rows2.length i.size cv2)) (γ.extend id b' (off'+rows.length*i.size) (off'+(rows.length+rows2.length)*i.size) (rows.length+rows2.length))
      (rows++rows2) (some ⟨b',off',none⟩) cap b' off' i.size (Wo rows.length cv cv2):=by
     refine ⟨by simpa using hroom,fun hn=>(by cases hn),fun _=>⟨rfl,by rw [setCells_size];exact hb⟩,hr,fun j k c hc=>?_,fun j k c hc=>?_⟩
     ·rcases Ya hc with ⟨hx1,h3⟩ | ⟨h1,h3⟩
      ·obtain ⟨rfl,rfl⟩:=hat (by rintro rfl;simp at hx1)
       obtain ⟨g1,g2,g3⟩:=(s1.mono hev).cell j k c h3
       have ej:Wo rows.length cv cv2 j k=cv j k:=by unfold Wo;rw [if_pos hx1]
       rw [ej]
       exact ⟨g1,g2,g3⟩
      ·obtain ⟨hi4,hj4⟩:=rowCell_lt h3
       have hk:k < i.size:=by rw [s2.hsz _ (List.getElem_mem hi4)] at hj4;exact hj4
       have hf:=flatV_at rows2.length i.size cv2 hi4 hk
       obtain ⟨hlt,hval⟩:=List.getElem?_eq_some_iff.1 hf
       have e1:off'+j*i.size+k=off'+rows.length*i.size+((j - rows.length)*i.size+k):=by
        rw [Nat.sub_mul]
        have:rows.length*i.size<=j*i.size:=Nat.mul_le_mul_right _ h1
        omega
       simp only [Wo,if_neg (Nat.not_lt.2 h1)]
       refine ⟨?_,?_,(s2.cell _ _ c h3).2.2⟩
       ·rw [e1,hin _ hlt,hval]
       ·rw [Xn] at hlt
        exact .inr ⟨rfl,by rw [e1];omega,by rw [e1,Nat.add_mul];omega⟩
     ·unfold Wo
      rcases Ya hc with ⟨h1,h3⟩ | ⟨h1,h3⟩
      ·rw [if_pos h1];exact (s1.rep j k c h3).mono hev.imm
      ·rw [if_neg (Nat.not_lt.2 h1)];exact (hr2 _ k c h3).mono hev.imm
    have:=hj.mk' (rt:=.own id i.size) ⟨rfl,by simp [G.extend],fun _=>.inr ⟨b',off',_,te,rfl,ho,Xr b' _ _ w arr te _ hh,by rw [Um];exact hsz,fun o ho' hro=>?_⟩⟩
    ·rwa [List.length_append] at this
    ·rw [List.length_append] at ho'
     rcases hro with hro | ⟨_,_,h4⟩
     ·refine hfree o ?_ hro
      have:rows.length*i.size<=(rows.length+rows2.length)*i.size:=Nat.mul_le_mul_right _ (by omega)
      omega
     ·omega
  ·
   obtain ⟨newcap,hle,hrun⟩:=run_app_grow (P:=P) (ty:=ty) ht hi hz s1 s2 (by omega) hfit hbig
   have hmd:=hm.drew
   have hne:γ.cur id=rows.length+rows2.length->γ.own id=none:=fun h=>by omega
   have hcn:γ.cur id<=rows.length+rows2.length:=by omega
   have hev:Ev w γ _ _:=(Ev.drew w γ).trans (hmd.ev_renew (q:=(rows.length+rows2.length)*i.size) hcn hne (.cells ((Zf rows.length i.size cv).toArray++(Zf rows2.length i.size cv2).toArray++Builtin.zeroCells z.cells (newcap - (rows.length+rows2.length))) e))
   refine ⟨_,_,_,hrun,hev,hmd.renew hcn hne _,?_⟩
   have hh:(w.drew.alloc (.cells ((Zf rows.length i.size cv).toArray++(Zf rows2.length i.size cv2).toArray++Builtin.zeroCells z.cells (newcap - (rows.length+rows2.length))) e)).heap[w.heap.size]? = some (.cells ((Zf rows.length i.size cv).toArray++(Zf rows2.length i.size cv2).toArray++Builtin.zeroCells z.cells (newcap - (rows.length+rows2.length))) e (0,0)):=by
    exact Ja w _
   have hj:=s1.join_new s2 hr2 hev (nb:=w.heap.size) hh (fun o ho=>.inr ⟨rfl,ho⟩) hle
   have:=hj.mk' (rt:=.own id i.size) ⟨rfl,by simp [G.renew],fun _=>?_⟩
   ·rwa [List.length_append] at this
   ·by_cases hz0:newcap=rows.length+rows2.length
    ·exact .inl (by simp [hz0])
    ·refine .inr ⟨w.heap.size,0,_,e,rfl,by simp [G.renew],hh,?_,fun o ho hro=>?_⟩
     ·simp only [Array.size_append,List.size_toArray,Xn,size_zeroCells]
      have hmul:newcap*i.size=rows.length*i.size+rows2.length*i.size+(newcap - (rows.length+rows2.length))*i.size:=by
       rw [<- Nat.add_mul,<- Nat.add_mul]
       congr 1
       omega
      rw [hzs,hmul]
      omega
     ·simp only [List.length_append,Nat.zero_add] at ho
      rcases hro with hro | ⟨_,hro⟩
      ·have:=hm.robd _ _ hro;omega
      ·omega
theorem app_own (hm:MSim N w0 ro0 γ w B L) (ht:P.underlying t=some (.slice e)) (hi:P.info? e=some i) (hz:i.zero=some z) (hzs:z.cells.size=i.size) {id:Nat}
  (h1:(Rep w γ (.sl .full rows) v1/\L id=none)\/(Rep w γ (.sl (.own id i.size) rows) v1/\L id=some rows.length)) (h2:Rep w γ (.sl rt2 rows2) v2)
  (hr:∀ row∈rows++rows2,row.length=i.size) (hfit:(3*(rows.length+rows2.length)+4000)*i.bytes<=562949953421312) (hbig:rows.length+rows2.length<=9223372036854775807) :
  ∃ v w' γ',(Builtin.append_ #[t,t] ty #[v1,v2]).run P w=.ok v w'/\Ev w γ w' γ'/\MSim N w0 ro0 γ' w' B (fun j=>if j=id then some (rows.length+rows2.length) else L j)/\Rep w' γ' (.sl (.own id i.size) (rows++rows2)) v:=by
 obtain ⟨a2,cap2,b2,off2,sz2,cv2,rfl,s2,r2⟩:=h2.sl_inv
 exact app_ownG hm ht hi hz hzs h1 (s2.fix (sz:=i.size) fun row h=>hr row (by simp [h])) s2.rep hr hfit hbig
end
end Go.Abs
namespace Go.Abs
open Go Go.RowKit
def Step (N:Nat) (w0:Bas) (ro0:Nat->Nat->Prop) (P:Program) (o:Oper) (a:Act) (γ:G) (w:World) (B:Nat->Option (List AV)) (L:Nat->Option Nat) (r:AV):Prop :=
 ∀ (rd:Option Nat) (next:Act->World->Prop) (Q:Exit->Act->World->Prop),(∀ v w' γ',Ev w γ w' γ'->MSim N w0 ro0 γ' w' B L->Rep w' γ' r v->next (a.put o.dst v) w')->o.wpIn (FW rd) 0 P a w next Q
section
variable {N:Nat} {w0:Bas} {ro0:Nat->Nat->Prop} {γ:G} {w:World} {B:Nat->Option (List AV)} {L:Nat->Option Nat} {P:Program} {o:Oper} {a:Act} {r:AV}
theorem Qp (hm:MSim N w0 ro0 γ w B L) {v:Value} (h:(execOp a.eval o).run P w=.ok (.value v) w) (hr:Rep w γ r v):Step N w0 ro0 P o a γ w B L r :=
 fun _ _ _ hk=>Xv h (hk v w γ (Ev.refl _ _) hm hr)
theorem step_val' {v:Value} {w':World} {γ':G} (hm:MSim N w0 ro0 γ' w' B L) (e:Ev w γ w' γ') (h:(execOp a.eval o).run P w=.ok (.value v) w') (hr:Rep w' γ' r v):Step N w0 ro0 P o a γ w B L r :=
 fun _ _ _ hk=>Xv h (hk v w' γ' e hm hr)
variable {dst:Option Tmp} {ty:TypeId} {pos:String} {after:Array Edge} {guard:Option (Nat×Bool)} {gl:Nat->AV} {orc:Nat->FuncId->List AV->AV} {e:Opd->AV} {m:AM}
theorem asB_rep {x:AV} {v:Value} {g b:Bool} (h:asB x=some (g,b)) (hr:Rep w γ x v) (hg:g=true):v=.bool b:=by
 cases x<;>simp [asB] at h
 ·obtain ⟨rfl,rfl⟩:=h;exact hr.inv_bool
 ·rename_i g' y
  obtain ⟨h1,rfl⟩:=h
  rw [hg] at h1
  cases g' with
  | false=>cases h1
  | true =>
   cases y<;>simp [isB] at h1
   exact (hr.inv_gd rfl).inv_bool
theorem step_pick (hm:MSim N w0 ro0 γ w B L) {c x y:Operand} (h1:Rep w γ (e (opd c)) (a.eval c)) (h2:Rep w γ (e (opd x)) (a.eval x)) (h3:Rep w γ (e (opd y)) (a.eval y))
  (hc:(rop P gl orc e m dst (.pick (opd c) (opd x) (opd y))).1) :
  Step N w0 ro0 P ⟨dst,.pick c x y,ty,pos,after,guard⟩ a γ w B L (rop P gl orc e m dst (.pick (opd c) (opd x) (opd y))).2:=by
 simp only [rop] at hc |-
 split at hc
 ·rename_i g0 c' g1 x' g2 y' e1 e2 e3
  try simp only [e1,e2,e3]
  obtain ⟨hc0,hc1,hc2⟩:=hc
  have h1:=asB_rep e1 h1 hc0
  cases c' with
  | true =>
   have:=asB_rep e2 h2 (hc1 rfl)
   exact Qp hm (v:=.bool x') (by simp [execOp,h1,asBool,this]) (.bool _)
  | false =>
   have:=asB_rep e3 h3 (hc2 rfl)
   exact Qp hm (v:=.bool y') (by simp [execOp,h1,asBool,this]) (.bool _)
 ·exact hc.elim
theorem step_load (hm:MSim N w0 ro0 γ w B L) (hB:∀ id cells,m.boxes[id]? = some cells->B id=some cells) {t:TypeId} {x:Operand} (h1:Rep w γ (e (opd x)) (a.eval x))
  (hc:(rop P gl orc e m dst (tr P ⟨dst,.load t x,ty,pos,after,guard⟩)).1) :
  Step N w0 ro0 P ⟨dst,.load t x,ty,pos,after,guard⟩ a γ w B L (rop P gl orc e m dst (tr P ⟨dst,.load t x,ty,pos,after,guard⟩)).2:=by
 simp only [tr] at hc |-
 split at hc
 case h_2=>exact hc.elim
 rename_i i d hi hd
 try simp only [hi,hd]
 have main:∀ (agg:Bool) (n:Nat),Ub P t=agg->(agg=true->n=i.size)->(rop P gl orc e m dst (.load agg n (opd x))).1 ->
   Step N w0 ro0 P ⟨dst,.load t x,ty,pos,after,guard⟩ a γ w B L (rop P gl orc e m dst (.load agg n (opd x))).2:=by
  intro agg n hagg hn hc
  simp only [rop] at hc |-
  split at hc
  ·rename_i id o' he
   try simp only [he]
   rw [he] at h1
   obtain ⟨b,hb,hv⟩:=h1.inv_ptr
   cases hmb:m.boxes[id]? with
   | none =>
    have e0:m.boxes.getD id []=[]:=by simp [List.getD,hmb]
    rw [e0] at hc |-
    obtain ⟨v,h2,h3⟩:=Qan (P:=P) (w:=w) (γ:=γ) (b:=b) (o:=o') (cv:=fun _=>undef) hi hd hagg hn (fun j c hj=>by simp at hj) (fun j c hj=>by simp at hj) hc
    exact Qp hm (by simp [execOp,hv,h2]) h3
   | some cells =>
    have e0:m.boxes.getD id []=cells:=by simp [List.getD,hmb]
    rw [e0] at hc |-
    obtain ⟨arr,te,g2,g3,g4⟩:=hm.box id cells b (hB id cells hmb) hb
    have hget:∀ (j:Nat) (c:AV),(cells.drop o')[j]? = some c->arr[o'+j]? = some (arr.getD (o'+j) undef)/\Rep w γ c (arr.getD (o'+j) undef):=fun j c hj=>by
     rw [List.getElem?_drop] at hj
     have hlt:o'+j < arr.size:=by
      have:=(List.getElem?_eq_some_iff.1 hj).1
      have h0:=g3.1
      simp at h0
      omega
     have hu:arr[o'+j]? = some (arr.getD (o'+j) undef):=by simp [hlt]
     exact ⟨hu,g3.2 _ _ _ hj (by simpa using hu)⟩
    obtain ⟨v,h2,h3⟩:=Qan (P:=P) (w:=w) (γ:=γ) (b:=b) (o:=o') (cv:=fun j=>arr.getD (o'+j) undef) hi hd hagg hn (fun j c hj=>by rw [cell_of_block g2];exact (hget j c hj).1) (fun j c hj=>(hget j c hj).2) hc
    exact Qp hm (by simp [execOp,hv,h2]) h3
  ·rename_i row o' he
   try simp only [he]
   rw [he] at h1
   obtain ⟨b,off,cv,hv,hb,hcell,hrep⟩:=h1.inv_ep
   have hget:∀ (j:Nat) (c:AV),(row.drop o')[j]? = some c->row[o'+j]? = some c:=fun j c hj=>by rw [List.getElem?_drop] at hj;exact hj
   obtain ⟨v,h2,h3⟩:=Qan (P:=P) (w:=w) (γ:=γ) (b:=b) (o:=off+o') (cv:=fun j=>cv (o'+j)) hi hd hagg hn
    (fun j c hj=>by rw [Nat.add_assoc];exact (hcell _ _ (hget j c hj)).1) (fun j c hj=>(hrep _ _ (hget j c hj)).of_imm) hc
   exact Qp hm (by simp [execOp,hv,h2]) h3
  ·exact hc.elim
 cases hagg:Ub P t with
 | true=>simp only [hagg,if_true] at hc |-;exact main true _ hagg (fun _=>rfl) hc
 | false=>simp only [hagg] at hc |-;exact main false 1 hagg (fun h=>by cases h) hc
theorem step_faddr (hm:MSim N w0 ro0 γ w B L) {t:TypeId} {x:Operand} {f:Nat} (h1:Rep w γ (e (opd x)) (a.eval x))
  (hc:(rop P gl orc e m dst (tr P ⟨dst,.fieldAddr t x f,ty,pos,after,guard⟩)).1) :
  Step N w0 ro0 P ⟨dst,.fieldAddr t x f,ty,pos,after,guard⟩ a γ w B L (rop P gl orc e m dst (tr P ⟨dst,.fieldAddr t x f,ty,pos,after,guard⟩)).2:=by
 simp only [tr] at hc |-
 split at hc
 case h_2=>exact hc.elim
 rename_i fields hu
 try simp only [hu]
 split at hc
 case h_2=>exact hc.elim
 rename_i fl hfl
 try simp only [hfl]
 split at hc
 case h_2=>exact hc.elim
 rename_i i hi
 try simp only [hi]
 split at hc
 case isTrue=>exact hc.elim
 rename_i hsz
 try rw [if_neg hsz]
 simp only [rop] at hc |-
 have hsz':i.size≠0:=by simpa using hsz
 split at hc
 ·rename_i id o' he
  try simp only [he]
  rw [he] at h1
  obtain ⟨b,hb,hv⟩:=h1.inv_ptr
  exact Qp hm (v:=.pointer (some ⟨b,o'+fl.offset,none⟩)) (by simp [execOp,hv,Instr.fieldAt,run_underlying hu,hfl,Instr.sureAddr,fieldPlace,sizeOf,typeInfo,hi,hsz',addr_add]) (.ptr hb)
 ·rename_i row o' he
  try simp only [he]
  rw [he] at h1
  obtain ⟨b,off,cv,hv,hb,hcell,hrep⟩:=h1.inv_ep
  refine Qp hm (v:=.pointer (some ⟨b,off+(o'+fl.offset),none⟩)) (by simp [execOp,hv,Instr.fieldAt,run_underlying hu,hfl,Instr.sureAddr,fieldPlace,sizeOf,typeInfo,hi,hsz',addr_add,Nat.add_assoc]) (.ep cv hb hcell hrep)
 ·exact hc.elim
theorem step_iaddr (hm:MSim N w0 ro0 γ w B L) {t:TypeId} {x y:Operand} (h1:Rep w γ (e (opd x)) (a.eval x)) (h2:Rep w γ (e (opd y)) (a.eval y))
  (hc:(rop P gl orc e m dst (tr P ⟨dst,.indexAddr t x y,ty,pos,after,guard⟩)).1) :
  Step N w0 ro0 P ⟨dst,.indexAddr t x y,ty,pos,after,guard⟩ a γ w B L (rop P gl orc e m dst (tr P ⟨dst,.indexAddr t x y,ty,pos,after,guard⟩)).2:=by
 simp only [tr] at hc |-
 split at hc
 ·rename_i te hu
  try simp only [hu]
  split at hc
  case h_2=>exact hc.elim
  rename_i i hi
  try simp only [hi]
  simp only [rop] at hc |-
  split at hc
  case h_3=>exact hc.elim
  case h_2 =>
   rename_i id off len sz' k n e1 e2
   try simp only [e1,e2]
   rw [e1] at h1
   rw [e2] at h2
   obtain ⟨b,cap,arr,te',hb,hv,hl,hh,hs⟩:=h1.inv_bs
   obtain ⟨⟨hn0,hn1⟩,rfl⟩:=hc
   refine Qp hm (v:=.pointer (some ⟨b,off+n.toNat*i.size,none⟩)) ?_ (.ptr hb)
   simp [execOp,hv,h2.inv_int,Instr.indexAt,run_underlying hu,asIntOf,hn0,hn1,sizeOf,typeInfo,hi,addr_add]
  rename_i rt rows k n e1 e2
  try simp only [e1,e2]
  rw [e1] at h1
  rw [e2] at h2
  obtain ⟨a',cap,b,off,sz,cv,hv,s,_⟩:=h1.sl_inv
  obtain ⟨⟨hn0,hn1⟩,hlen⟩:=hc
  have hlt:n.toNat < rows.length:=by omega
  have hmem:rows.getD n.toNat []∈rows:=by simp [List.getD,hlt]
  have hsz:sz=i.size:=(s.hsz _ hmem).symm.trans hlen
  subst hsz
  obtain ⟨ha,hb⟩:=s.at_ (by rintro rfl;simp at hlt)
  have hrc:∀ (j:Nat) (c:AV),(rows.getD n.toNat [])[j]? = some c->Qr rows n.toNat j=some c:=fun j c hj=>by
   simp [Qr,List.getD,hlt] at hj |-;exact hj
  refine Qp hm (v:=.pointer (some ⟨b,(off+n.toNat*i.size)+0,none⟩)) ?_ (.ep (off:=off+n.toNat*i.size) (cv n.toNat) hb (fun j c hj=>s.cell _ j c (hrc j c hj)) fun j c hj=>s.rep _ j c (hrc j c hj))
  have hn2:n < (rows.length:Int):=hn1
  simp [execOp,hv,h2.inv_int,ha,Instr.indexAt,run_underlying hu,asIntOf,hn0,hn2,sizeOf,typeInfo,hi,addr_add]
 ·rename_i len te hu
  try simp only [hu]
  split at hc
  case h_2=>exact hc.elim
  rename_i i hi
  try simp only [hi]
  simp only [rop] at hc |-
  split at hc
  ·rename_i id o' k n e1 e2
   try simp only [e1,e2]
   rw [e1] at h1
   rw [e2] at h2
   obtain ⟨b,hb,hv⟩:=h1.inv_ptr
   obtain ⟨hn0,hn1⟩:=hc
   refine Qp hm (v:=.pointer (some ⟨b,o'+n.toNat*i.size,none⟩)) ?_ (.ptr hb)
   simp [execOp,hv,h2.inv_int,Instr.indexAt,Instr.sureAddr,run_underlying hu,asIntOf,hn0,hn1,sizeOf,typeInfo,hi,addr_add]
  ·rename_i row o' k n e1 e2
   try simp only [e1,e2]
   rw [e1] at h1
   rw [e2] at h2
   obtain ⟨b,off,cv,hv,hb,hcell,hrep⟩:=h1.inv_ep
   obtain ⟨hn0,hn1⟩:=hc
   refine Qp hm (v:=.pointer (some ⟨b,off+(o'+n.toNat*i.size),none⟩)) ?_ (.ep cv hb hcell hrep)
   simp [execOp,hv,h2.inv_int,Instr.indexAt,Instr.sureAddr,run_underlying hu,asIntOf,hn0,hn1,sizeOf,typeInfo,hi,addr_add,Nat.add_assoc]
  ·exact hc.elim
 ·exact hc.elim
end
end Go.Abs
