import Derived.WalkLawsBesides
import Derived.WalkSpells
import Derived.OrdersIn
import Derived.RangeFuncRecord
set_option linter.all false
namespace Go
def zE{p:Prop}(h:p:=by omega):p:=h
def zd{p:Prop}(h:p:=by simp):p:=h
def ab:=@if_neg
def ac:=@if_pos
def am:=@decide_eq_true_eq
def ap:=@Option.some.inj
def zza:=@List.getElem?_eq_some_iff
def zzaa:=@Nat.lt_or_ge
def zzab:=@Nat.le_refl
def zzac:=@Bool.and_eq_true
def zzad:=@List.mem_of_getElem?
def zzae:=@List.cons_append
def zzaf:=@List.getElem?_eq_getElem
def zzag:=@List.nil_append
def zzah:=@Array.getElem?_eq_getElem
def zzai:=@List.drop_eq_getElem_cons
def zzaj:=@List.mem_append
def zzak:=@List.getElem?_append_left
def zzal:=@List.length_append
def zzam:=@List.drop_eq_nil_of_le
def zzan:=@List.mem_map
def zzao:=@List.mem_cons
def zzap:=@Nat.add_assoc
def zzaq:=@List.getElem?_append_right
def zzar:=@List.map_cons
def zzas:=@List.length_take
def zzat:=@List.append_nil
def zzau:=@List.take_of_length_le
def zzav:=@List.getElem?_eq_none
def zzaw:=@List.getD_eq_getElem?_getD
def zzax:=@List.all_eq_true
def zzay:=@List.take_add_one
def zzaz:=@Nat.lt_of_lt_of_le
def zzb:=@List.mem_range
def zzba:=@Nat.le_of_ble_eq_true
def zzbb:=@Nat.le_trans
def zzbc:=@Nat.mul_le_mul_right
def zzbd:=@Int.le_refl
def zzbe:=@List.eq_nil_of_length_eq_zero
def zzbf:=@List.length_cons
def zzbg:=@List.append_assoc
def zzbh:=@List.getElem?_set_self
def zzbi:=@Bool.false_eq_true
def zzbj:=@Array.length_toList
def zzbk:=@List.getElem?_take
def zzbl:=@List.getElem?_drop
def zzbm:=@Nat.not_lt
def zzbn:=@List.getElem?_map
def zzbo:=@List.getElem?_set_ne
def zzbp:=@List.mem_filter
def zzbq:=@Array.getElem?_eq_none
def zzbr:=@Nat.add_mul
def zzbs:=@Nat.zero_add
def zzbt:=@List.any_eq_true
def zzbu:=@List.take_length
def zzbv:=@Nat.zero_le
def zzbw:=@List.length_map
def zzbx:=@List.mem_singleton
def zzby:=@Option.isSome_iff_exists
def zzbz:=@Array.getElem?_eq_some_iff
def zzc:=@List.drop_length
def zzca:=@Option.map_eq_some_iff
def zzcb:=@List.map_append
def zzcc:=@List.mem_of_mem_take
def zzcd:=@List.length_eq_zero_iff
def zzce:=@Array.getElem?_toList
def zzcf:=@List.length_filter_le
def zzcg:=@List.pairwise_cons
def zzch:=@List.flatten_cons
def zzci:=@Nat.eq_zero_or_pos
def zzcj:=@Int.tdiv_eq_ediv_of_nonneg
def zzck:=@List.getElem?_replicate
def zzcl:=@List.getElem?_cons_succ
def zzcm:=@Nat.add_zero
def zzcn:=@List.length_nil
def zzco:=@Array.getElem?_setIfInBounds_ne
def zzcp:=@List.mem_iff_getElem?
def zzcq:=@List.length_set
def zzcr:=@Bool.eq_iff_iff
def zzcs:=@List.map_congr_left
def zzct:=@List.map_nil
def zzcu:=@List.mem_cons_of_mem
def zzcv:=@Option.map_some
def zzcw:=@List.map_map
def zzcx:=@Option.bind_some
def zzcy:=@List.length_drop
def zzcz:=@Bool.not_eq_true'
def zzd:=@List.filter_cons_of_pos
def zzda:=@List.foldl_cons
def zzdb:=@List.filter_append
def zzdc:=@List.ext_getElem?
def zzdd:=@List.drop_zero
def zzde:=@Array.mem_of_getElem?
def zzdf:=@List.length_pos_iff
def zzdg:=@List.mem_of_find?_eq_some
def zzdh:=@List.set_append_right
def zzdi:=@List.getElem_mem
def zzdj:=@List.zip_cons_cons
def zzdk:=@List.mem_of_mem_drop
def zzdl:=@List.any_eq_false
def zzdm:=@Array.toList_setIfInBounds
def zzdn:=@List.nodup_range
def zzdo:=@List.not_mem_nil
def zzdp:=@List.filter_cons
def zzdq:=@Array.getElem?_modify
def zzdr:=@List.drop_drop
def zzds:=@Nat.eq_of_beq_eq_true
def zzdt:=@List.take_append_drop
def zzdu:=@List.pairwise_iff_getElem
def zzdv:=@Nat.one_mul
def zzdw:=@Int.lt_or_le
def zzdx:=@List.flatMap_cons
def zzdy:=@Bool.true_and
def zzdz:=@List.drop_append_of_le_length
def zze:=@Nat.add_sub_cancel_left
def zzea:=@List.filter_cons_of_neg
def zzeb:=@List.filter_sublist
def zzec:=@List.set_cons_succ
def zzed:=@List.nodup_cons
def zzee:=@List.length_replicate
def zzef:=@List.concat_eq_append
def zzeg:=@Nat.lt_trichotomy
def zzeh:=@List.foldl_append
def zzei:=@Nat.mod_lt
def zzej:=@Int.mul_nonneg
def zzek:=@Nat.mul_comm
def zzel:=@Nat.sub_zero
def zzem:=@Int.le_trans
def zzen:=@Nat.testBit_eq_decide_div_mod_eq
def zzeo:=@List.flatMap_nil
def zzep:=@Array.getElem?_push_size
def zzeq:=@List.getElem?_range
def zzer:=@List.flatten_append
def zzes:=@List.take_succ_cons
def zzet:=@Array.eq_empty_of_size_eq_zero
def zzeu:=@List.zip_nil_right
def zzev:=@List.size_toArray
def zzew:=@Array.size_append
def zzex:=@Array.getElem?_setIfInBounds
def zzey:=@List.countP_le_length
def zzez:=@List.mem_append_right
def zzf:=@List.length_mergeSort
def zzfa:=@List.singleton_append
def zzfb:=@List.dropLast_concat_getLast
def zzfc:=@List.eq_nil_or_concat
def zzfd:=@List.ext_getElem
def zzfe:=@Nat.lt_succ_self
def zzff:=@List.mem_append_left
def zzfg:=@Array.getElem?_append_left
def zzfh:=@Nat.le_zero
def zzfi:=@List.getLast?_eq_some_iff
def zzfj:=@List.range_succ
def zzfk:=@List.find?_cons
def zzfl:=@List.find?_some
def zzfm:=@List.all_append
def zzfn:=@Nat.add_comm
def zzfo:=@List.mem_filterMap
def zzfp:=@List.map_set
def zzfq:=@List.pairwise_mergeSort
def zzfr:=@List.filter_congr
def zzfs:=@List.filter_eq_nil_iff
def zzft:=@List.mem_reverse
def zzfu:=@Array.toList_extract
def zzfv:=@List.drop_eq_nil_iff
def zzfw:=@Bool.or_eq_true
def zzfx:=@List.range_eq_range'
def zzfy:=@List.getElem?_of_mem
def zzfz:=@List.dropLast_concat
def zzg:=@Nat.sub_self
def zzga:=@List.forall_mem_cons
def zzgb:=@Int.mul_le_mul_of_nonneg_left
def zzgc:=@List.getElem_of_mem
def zzgd:=@List.take_set_of_le
def zzge:=@List.drop_set_of_lt
def zzgf:=@List.filter_eq_self
def zzgg:=@List.mergeSort_perm
def zzgh:=@List.replicate_succ
def zzgi:=@List.drop_left
def zzgj:=@Array.getElem?_map
def zzgk:=@Nat.add_sub_cancel
def zzgl:=@Array.ext_getElem?
def zzgm:=@List.map_drop
def zzgn:=@Bool.and_true
def zzgo:=@List.perm_ext_iff_of_nodup
def zzgp:=@List.map_take
def zzgq:=@List.getElem?_set
def zzgr:=@Bool.not_eq_false
def zzgs:=@List.mem_or_eq_of_mem_set
def zzgt:=@List.getElem?_zip_eq_some
def zzgu:=@List.getElem?_eq_none_iff
def zzgv:=@Nat.div_eq_of_lt
def zzgw:=@Nat.mod_eq_of_lt
def zzgx:=@List.range'_succ
def zzgy:=@List.length_filterMap_le
def zzgz:=@Nat.le_of_lt
def zzh:=@Nat.div_add_mod
def zzha:=@Nat.min_eq_left
def zzhb:=@List.range_succ_eq_map
def zzhc:=@Nat.min_def
def zzhd:=@List.append_eq_nil_iff
def zzhe:=@List.mapM_cons
def zzhf:=@Array.mem_iff_getElem
def zzhg:=@List.length_singleton
def zzhh:=@List.take_zero
def zzhi:=@Bool.and_false
def zzhj:=@Array.getElem?_mapIdx
def zzhk:=@Nat.zero_mul
def zzhl:=@Nat.succ_mul
def zzhm:=@Nat.le_total
def zzhn:=@Nat.pow_succ
end Go
namespace Go.Abs
open Go Go.RowKit
def Nm{p q:Prop}(h:p)(w:p->q:=by intro h;simpa using h):q:=w h
abbrev Pi:=List Int
abbrev Pa:=List Nat
abbrev P1:=Array Value
abbrev PQ:=List Value
abbrev PP:=Exit->Act->World->Prop
abbrev QR:=List (Int×Bool)
inductive Rt where
 |ro
 |full
 |nil
 |nn
 |own (id sz:Nat)
inductive AV where
 |junk
 |bool (b:Bool)
 |int (k:IntKind) (n:Int)
 |str (s:ByteArray)
 |agg (cs:List AV)
 |aS (vs:List AV)
 |sl (rt:Rt) (rows:List (List AV))
 |ep (row:List AV) (o:Nat)
 |ptr (id o:Nat)
 |fn (f:FuncId) (first cap:List AV)
 |nilfn
 |yld (l:Nat)
 |mp (id:Nat)
 |nilv (p:Bool)
 |aJ (kn:Nat) (kvs:List (Pi×AV))
 |it (id:Nat)
 |mitr (mid n:Nat) (seen:Pa)
 |bs (id off len sz:Nat)
 |gd (g:Bool) (a:AV)
abbrev P2:=List AV
abbrev PH:=Option (P2)
abbrev QQ:=List (Nat×AV)
abbrev T5:=List (P2)
abbrev UV:=Nat->FuncId->P2->AV
structure G where
 β:Nat->Option Nat
 own:Nat->Option Nat
 cur:Nat->Nat
 ro:Nat->Nat->Prop
 sp:Nat->Prop
 mm:Nat->Option Nat
 lp:Nat->Option Nat
def G.cS(γ:G):G:={β:=fun _=>none,own:=fun _=>none,cur:=fun _=>0,ro:=γ.ro,sp:=fun _=>False,mm:=fun _=>none,lp:=fun _=>none}
def G0(ro:Nat->Nat->Prop):G:={β:=fun _=>none,own:=fun _=>none,cur:=fun _=>0,ro:=ro,sp:=fun _=>False,mm:=fun _=>none,lp:=fun _=>none}
theorem UZ(ro:Nat->Nat->Prop):(G0 ro).cS=G0 ro:=rfl
def Qu(rows:T5)(i j:Nat):Option AV:=(rows[i]?).bind (·[j]?)
def lH(w:World)(γ:G)(a:Option Addr)(id len cap sz:Nat):Prop:=
 ∃b off arr e,a=some ⟨b,off,none⟩/\γ.own id=some b/\w.heap[b]?=some (.cells arr e (0,0))/\off+cap*sz<=arr.size/\
  ∀o,off+len*sz<=o->¬γ.ro b o
def qx(w:World)(γ:G)(a:Option Addr)(len cap sz:Nat):Rt->Prop
 |.ro=>True
 |.full=>cap=len
 |.nil=>a=none
 |.nn=>a≠none
 |.own id dy=>dy=sz/\len<=γ.cur id/\(len=γ.cur id->cap=len\/lH w γ a id len cap sz)
inductive aA (w:World):G->AV->Value->Prop
 |junk {γ:G} (v:Value):aA w γ .junk v
 |gd {γ:G} {g:Bool} {a:AV} {v:Value} (h:g=true->aA w γ a v) (h':g=false->v=undef):aA w γ (.gd g a) v
 |bool {γ:G} (b:Bool):aA w γ (.bool b) (.bool b)
 |int {γ:G} (k:IntKind) (n:Int):aA w γ (.int k n) (.int k n)
 |str {γ:G} (s:ByteArray):aA w γ (.str s) (.string s)
 |nilfn {γ:G}:aA w γ .nilfn .nilFunc
 |nilv {γ:G} (p:Bool):aA w γ (.nilv p) (bif p then .pointer none else .map none)
 |yld {γ:G} {i l:Nat} (h:γ.lp i=some l):aA w γ (.yld i) (.func (.yield l) #[] #[])
 |mp {γ:G} {id b:Nat} (h:γ.mm id=some b):aA w γ (.mp id) (.map (some b))
 |it {γ:G} {id b:Nat} (h:γ.mm id=some b):aA w γ (.it id) (.pointer (some ⟨b,0,none⟩))
 |agg {γ:G} {cs:P2} {arr:P1} (hl:cs.length=arr.size) (h:∀(i:Nat)(c:AV)(v:Value),cs[i]?=some c->arr[i]?=some v->aA w γ c v):aA w γ (.agg cs) (.agg arr)
 |aS {γ:G} {cs:P2} {arr:P1} (hl:cs.length=arr.size) (h:∀(i:Nat)(c:AV)(v:Value),cs[i]?=some c->arr[i]?=some v->aA w γ c v):aA w γ (.aS cs) (.tuple arr)
 |fn {γ:G} {f:FuncId} {first cap:P2} {fa ca:P1} (hl:first.length=fa.size) (h:∀(i:Nat)(c:AV)(v:Value),first[i]?=some c->fa[i]?=some v->aA w γ c v)
   (eH:cap.length=ca.size) (h':∀(i:Nat)(c:AV)(v:Value),cap[i]?=some c->ca[i]?=some v->aA w γ c v):aA w γ (.fn f first cap) (.func (.func f) fa ca)
 |ptr {γ:G} {id o b:Nat} (h:γ.β id=some b):aA w γ (.ptr id o) (.pointer (some ⟨b,o,none⟩))
 |ep {γ:G} {row:P2} {o b off:Nat} (cv:Nat->Value) (hb:b<w.heap.size)
   (hc:∀(j:Nat)(c:AV),row[j]?=some c->w.cell? ⟨b,off+j,none⟩=some (cv j)/\γ.ro b (off+j)/\(cv j).oneCell'=true)
   (h:∀(j:Nat)(c:AV),row[j]?=some c->aA w γ.cS c (cv j)):aA w γ (.ep row o) (.pointer (some ⟨b,off+o,none⟩))
 |bs {γ:G} {id off len sz cap b:Nat} {arr:P1} {e:TypeId} (h:γ.β id=some b) (hl:len<=cap) (hh:w.heap[b]?=some (.cells arr e (0,0))) (hs:off+cap*sz<=arr.size):
   aA w γ (.bs id off len sz) (.slice (some ⟨b,off,none⟩) len cap)
 |sl {γ:G} {rt:Rt} {rows:T5} {a:Option Addr} {cap:Nat} (b off sz:Nat) (cv:Nat->Nat->Value)
   (hcap:rows.length<=cap) (hnil:a=none->cap=0) (ha:rows≠[]->a=some ⟨b,off,none⟩/\b<w.heap.size)
   (hsz:∀row∈rows,row.length=sz)
   (hc:∀(i j:Nat)(c:AV),Qu rows i j=some c->w.cell? ⟨b,off+i*sz+j,none⟩=some (cv i j)/\γ.ro b (off+i*sz+j)/\(cv i j).oneCell'=true)
   (h:∀(i j:Nat)(c:AV),Qu rows i j=some c->aA w γ.cS c (cv i j))
   (aY:qx w γ a rows.length cap sz rt):aA w γ (.sl rt rows) (.slice a rows.length cap)
def qy(o o':Option Obj):Prop:=o'=o\/∃r s p,o=some (.loop r)/\o'=some (.loop {r with state:=s,pending:=p})
def qy.trans{o o' o'':Option Obj}(h:qy o o')(k:qy o' o''):qy o o'':=by
 obtain rfl|⟨r,s,p,rfl,rfl⟩:=h
 ·exact k
 obtain rfl|⟨r',s',p',e,rfl⟩:=k
 ·exact .inr ⟨r,s,p,rfl,rfl⟩
 simp at e;subst e;exact .inr ⟨r,s',p',rfl,rfl⟩
def Sz(w w':World):Prop:=∀(b:Nat)(arr:P1)(e:TypeId)(f:Nat×Nat),w.heap[b]?=some (.cells arr e f)->∃bN:P1,w'.heap[b]?=some (.cells bN e f)/\bN.size=arr.size
def Sz.refl(w:World):Sz w w:=fun _ arr _ _ h=>⟨arr,h,rfl⟩
def Sz.trans{w w' qz:World}(h:Sz w w')(k:Sz w' qz):Sz w qz:=fun b arr e f hb=>by
 obtain⟨bN,h1,h2⟩:=h b arr e f hb;obtain⟨EN,h3,h4⟩:=k b bN e f h1;exact⟨EN,h3,h4.trans h2⟩
def Sz.of_same{w w':World}(h:∀b,b<w.heap.size->w'.heap[b]?=w.heap[b]?):Sz w w':=fun b arr e f hb=>by
 have ah:b<w.heap.size:=by
  rcases zzaa b w.heap.size with h'|h'
  ·exact h'
  simp[zzbq h']at hb
 exact⟨arr,(h b ah).trans hb,rfl⟩
structure Nq (w:World) (γ:G) (w':World) (γ':G):Prop where
 size:w.heap.size<=w'.heap.size
 ro:∀b o,b<w.heap.size->γ.ro b o->γ'.ro b o/\w'.cell? ⟨b,o,none⟩=w.cell? ⟨b,o,none⟩
 β:∀id b,γ.β id=some b->γ'.β id=some b
 cur:∀id,γ.cur id<=γ'.cur id
 mm:∀b F,γ.mm b=some F->γ'.mm b=some F
 lp:∀i l,γ.lp i=some l->γ'.lp i=some l
 own:∀id b,γ'.cur id=γ.cur id->γ.own id=some b->γ'.own id=some b/\
  (∀arr e,w.heap[b]?=some (.cells arr e (0,0))->∃bN,w'.heap[b]?=some (.cells bN e (0,0))/\arr.size<=bN.size)/\∀o,γ'.ro b o->γ.ro b o
 ss:Sz w w'
structure ey (w:World) (γ:G) (w':World) (γ':G):Prop where
 size:w.heap.size<=w'.heap.size
 ro:∀b o,b<w.heap.size->γ.ro b o->γ'.ro b o/\w'.cell? ⟨b,o,none⟩=w.cell? ⟨b,o,none⟩
 β:∀id b,γ.β id=some b->γ'.β id=some b
 cur:∀id,γ.cur id<=γ'.cur id
 mm:∀b F,γ.mm b=some F->γ'.mm b=some F
 lp:∀i l,γ.lp i=some l->γ'.lp i=some l
 own:∀id b,γ'.cur id=γ.cur id->γ.own id=some b->γ'.own id=some b/\
  (∀arr e,w.heap[b]?=some (.cells arr e (0,0))->∃bN,w'.heap[b]?=some (.cells bN e (0,0))/\arr.size<=bN.size)/\∀o,γ'.ro b o->γ.ro b o
 sp:∀b,γ.sp b->γ'.sp b/\qy w.heap[b]? w'.heap[b]?
 ss:Sz w w'
structure Ev (w:World) (γ:G) (w':World) (γ':G):Prop where
 size:w.heap.size<=w'.heap.size
 ro:∀b o,b<w.heap.size->γ.ro b o->γ'.ro b o/\w'.cell? ⟨b,o,none⟩=w.cell? ⟨b,o,none⟩
 β:∀id b,γ.β id=some b->γ'.β id=some b
 cur:∀id,γ.cur id<=γ'.cur id
 mm:∀b F,γ.mm b=some F->γ'.mm b=some F
 lp:γ'.lp=γ.lp
 own:∀id b,γ'.cur id=γ.cur id->γ.own id=some b->γ'.own id=some b/\
  (∀arr e,w.heap[b]?=some (.cells arr e (0,0))->∃bN,w'.heap[b]?=some (.cells bN e (0,0))/\arr.size<=bN.size)/\∀o,γ'.ro b o->γ.ro b o
 sp:∀b,γ.sp b->γ'.sp b/\w'.heap[b]?=w.heap[b]?
 ss:Sz w w'
def ey.Av{w:World}{γ:G}{w':World}{γ':G}(h:ey w γ w' γ'):Nq w γ w' γ':=⟨h.size,h.ro,h.β,h.cur,h.mm,h.lp,h.own,h.ss⟩
def Ev.cF{w:World}{γ:G}{w':World}{γ':G}(h:Ev w γ w' γ'):ey w γ w' γ':=⟨h.size,h.ro,h.β,h.cur,h.mm,fun i l hl=>by rw[h.lp];exact hl,h.own,fun b hb=>⟨(h.sp b hb).1,.inl (h.sp b hb).2⟩,h.ss⟩
def Ev.refl(w:World)(γ:G):Ev w γ w γ:=
 ⟨zzab _,fun _ _ _ h=>⟨h,rfl⟩,fun _ _ h=>h,fun _=>zzab _,fun _ _ h=>h,rfl,fun _ _ _ h=>⟨h,fun arr _ h=>⟨arr,h,zzab _⟩,fun _ h=>h⟩,fun _ h=>⟨h,rfl⟩,Sz.refl w⟩
def Ev.trans{w:World}{γ:G}{w':World}{γ':G}{qz:World}{Ec:G}(h:Ev w γ w' γ')(k:Ev w' γ' qz Ec):Ev w γ qz Ec where
 size:=zzbb h.size k.size
 ro b o hb hr:=by
  obtain⟨h1,h2⟩:=h.ro b o hb hr;obtain⟨h3,h4⟩:=k.ro b o (zzaz hb h.size) h1;exact⟨h3,h4.trans h2⟩
 β id b hb:=k.β id b (h.β id b hb)
 cur id:=zzbb (h.cur id) (k.cur id)
 mm b F hb:=k.mm b F (h.mm b F hb)
 lp:=k.lp.trans h.lp
 own id b hc ho:=by
  have h1:=h.cur id;have h2:=k.cur id;have e1:γ'.cur id=γ.cur id:=zE
  have e2:Ec.cur id=γ'.cur id:=zE
  obtain⟨a1,a2,a3⟩:=h.own id b e1 ho;obtain⟨b1,b2,b3⟩:=k.own id b e2 a1;refine⟨b1,fun arr e hh=>?_,fun o ho=>a3 o (b3 o ho)⟩;obtain⟨bN,h3,h4⟩:=a2 arr e hh;obtain⟨EN,h5,h6⟩:=b2 bN e h3;exact⟨EN,h5,zzbb h4 h6⟩
 sp b hb:=by
  obtain⟨h1,h2⟩:=h.sp b hb;obtain⟨h3,h4⟩:=k.sp b h1;exact⟨h3,h4.trans h2⟩
 ss:=h.ss.trans k.ss
def ey.trans{w:World}{γ:G}{w':World}{γ':G}{qz:World}{Ec:G}(h:ey w γ w' γ')(k:ey w' γ' qz Ec):ey w γ qz Ec where
 size:=zzbb h.size k.size
 ro b o hb hr:=by
  obtain⟨h1,h2⟩:=h.ro b o hb hr;obtain⟨h3,h4⟩:=k.ro b o (zzaz hb h.size) h1;exact⟨h3,h4.trans h2⟩
 β id b hb:=k.β id b (h.β id b hb)
 cur id:=zzbb (h.cur id) (k.cur id)
 mm b F hb:=k.mm b F (h.mm b F hb)
 lp i l hl:=k.lp i l (h.lp i l hl)
 own id b hc ho:=by
  have h1:=h.cur id;have h2:=k.cur id;have e1:γ'.cur id=γ.cur id:=zE
  have e2:Ec.cur id=γ'.cur id:=zE
  obtain⟨a1,a2,a3⟩:=h.own id b e1 ho;obtain⟨b1,b2,b3⟩:=k.own id b e2 a1;refine⟨b1,fun arr e hh=>?_,fun o ho=>a3 o (b3 o ho)⟩;obtain⟨bN,h3,h4⟩:=a2 arr e hh;obtain⟨EN,h5,h6⟩:=b2 bN e h3;exact⟨EN,h5,zzbb h4 h6⟩
 sp b hb:=by
  obtain⟨h1,h2⟩:=h.sp b hb;obtain⟨h3,h4⟩:=k.sp b h1;exact⟨h3,h2.trans h4⟩
 ss:=h.ss.trans k.ss
def Nq.cS{w:World}{γ:G}{w':World}{γ':G}(h:Nq w γ w' γ'):Nq w γ.cS w' γ'.cS:=
 ⟨h.size,h.ro,fun _ _ h=>(by cases h),fun _=>zzab _,fun _ _ h=>(by cases h),fun _ _ h=>(by cases h),fun _ _ _ h=>(by cases h),h.ss⟩
def ey.cS{w:World}{γ:G}{w':World}{γ':G}(h:ey w γ w' γ'):ey w γ.cS w' γ'.cS:=
 ⟨h.size,h.ro,fun _ _ h=>(by cases h),fun _=>zzab _,fun _ _ h=>(by cases h),fun _ _ h=>(by cases h),fun _ _ _ h=>(by cases h),fun _ h=>h.elim,h.ss⟩
def ey.awD{w:World}{γ:G}{w':World}{γ':G}(h:ey w γ w' γ'):Ev w γ.cS w' γ'.cS:=
 ⟨h.size,h.ro,fun _ _ h=>(by cases h),fun _=>zzab _,fun _ _ h=>(by cases h),rfl,fun _ _ _ h=>(by cases h),fun _ h=>h.elim,h.ss⟩
def Ev.cS{w:World}{γ:G}{w':World}{γ':G}(h:Ev w γ w' γ'):Ev w γ.cS w' γ'.cS:=h.cF.awD
def lH.aU{w:World}{γ:G}{w':World}{γ':G}(h:Nq w γ w' γ'){a:Option Addr}{id len cap sz:Nat}(hc:γ'.cur id=γ.cur id)(hs:lH w γ a id len cap sz):
  lH w' γ' a id len cap sz:=by
 obtain⟨b,off,arr,e,ha,ho,hh,hsz,gh⟩:=hs;obtain⟨h1,h2,h3⟩:=h.own id b hc ho;obtain⟨bN,h4,h5⟩:=h2 arr e hh;exact⟨b,off,bN,e,ha,h1,h4,zzbb hsz h5,fun o ho hr=>gh o ho (h3 o hr)⟩
def lH.mono{w:World}{γ:G}{w':World}{γ':G}(h:Ev w γ w' γ'){a:Option Addr}{id len cap sz:Nat}(hc:γ'.cur id=γ.cur id)(hs:lH w γ a id len cap sz):
  lH w' γ' a id len cap sz:=lH.aU h.cF.Av hc hs
def qx.mono{w:World}{γ:G}{w':World}{γ':G}(h:Nq w γ w' γ'){a:Option Addr}{len cap sz:Nat}{rt:Rt}(hr:qx w γ a len cap sz rt):qx w' γ' a len cap sz rt:=by
 cases rt with
 |ro=>trivial
 |full=>exact hr
 |nil=>exact hr
 |nn=>exact hr
 |own id dy=>
  obtain⟨h1,h2,h3⟩:=hr;have qc:=h.cur id;refine⟨h1,zzbb h2 qc,fun he=>?_⟩;have e1:γ'.cur id=γ.cur id:=zE
  exact(h3 zE).imp_right (lH.aU h e1)
def aA.eN{w:World}{γ:G}{a:AV}{v:Value}(h:aA w γ a v):∀{w':World}{γ':G},Nq w γ w' γ'->aA w' γ' a v:=by
 induction h with
 |junk v=>exact fun _=>.junk v
 |gd _ h' ih=>exact fun e=>.gd (fun hg=>ih hg e) h'
 |bool b=>exact fun _=>.bool b
 |int k n=>exact fun _=>.int k n
 |str s=>exact fun _=>.str s
 |nilfn=>exact fun _=>.nilfn
 |nilv p=>exact fun _=>.nilv p
 |yld h=>exact fun e=>.yld (e.lp _ _ h)
 |mp h=>exact fun e=>.mp (e.mm _ _ h)
 |it h=>exact fun e=>.it (e.mm _ _ h)
 |agg hl _ ih=>exact fun e=>.agg hl fun i c v h1 h2=>ih i c v h1 h2 e
 |aS hl _ ih=>exact fun e=>.aS hl fun i c v h1 h2=>ih i c v h1 h2 e
 |fn hl _ eH _ ih ih'=>exact fun e=>.fn hl (fun i c v h1 h2=>ih i c v h1 h2 e) eH fun i c v h1 h2=>ih' i c v h1 h2 e
 |ptr h=>exact fun e=>.ptr (e.β _ _ h)
 |bs h hl hh hs=>
  intro w' γ' e;obtain⟨bN,h1,h2⟩:=e.ss _ _ _ _ hh;exact .bs (e.β _ _ h) hl h1 zE
 |ep cv hb hc _ ih=>
  exact fun e=>.ep cv (zzaz hb e.size) (fun j c hj=>⟨(e.ro _ _ hb (hc j c hj).2.1).2.trans (hc j c hj).1,(e.ro _ _ hb (hc j c hj).2.1).1,(hc j c hj).2.2⟩) fun j c hj=>ih j c hj e.cS
 |@sl γ rt rows a cap b off sz cv hcap hnil ha hsz hc _ aY ih=>
  intro w' γ' e;have hb:∀i j c,Qu rows i j=some c->b<w.heap.size:=fun i j c fu=>(ha (by rintro rfl;simp[Qu]at fu)).2
  exact .sl b off sz cv hcap hnil (fun hn=>⟨(ha hn).1,zzaz (ha hn).2 e.size⟩) hsz
   (fun i j c fu=>⟨(e.ro _ _ (hb i j c fu) (hc i j c fu).2.1).2.trans (hc i j c fu).1,(e.ro _ _ (hb i j c fu) (hc i j c fu).2.1).1,(hc i j c fu).2.2⟩)
   (fun i j c fu=>ih i j c fu e.cS) (aY.mono e)
def aA.aU{w:World}{γ:G}{a:AV}{v:Value}(h:aA w γ a v){w':World}{γ':G}(e:ey w γ w' γ'):aA w' γ' a v:=h.eN e.Av
def aA.mono{w:World}{γ:G}{a:AV}{v:Value}(h:aA w γ a v){w':World}{γ':G}(e:Ev w γ w' γ'):aA w' γ' a v:=h.aU e.cF
def ak(w:World)(γ:G)(as':P2)(vs:PQ):Prop:=as'.length=vs.length/\∀(i:Nat)(a:AV)(v:Value),as'[i]?=some a->vs[i]?=some v->aA w γ a v
def ak.mono{w:World}{γ:G}{as':P2}{vs:PQ}(h:ak w γ as' vs){w':World}{γ':G}(e:Ev w γ w' γ'):ak w' γ' as' vs:=
 ⟨h.1,fun i a v h1 h2=>(h.2 i a v h1 h2).mono e⟩
def ak.eN{w:World}{γ:G}{as':P2}{vs:PQ}(h:ak w γ as' vs){w':World}{γ':G}(e:Nq w γ w' γ'):ak w' γ' as' vs:=
 ⟨h.1,fun i a v h1 h2=>(h.2 i a v h1 h2).eN e⟩
def ak.aU{w:World}{γ:G}{as':P2}{vs:PQ}(h:ak w γ as' vs){w':World}{γ':G}(e:ey w γ w' γ'):ak w' γ' as' vs:=
 ⟨h.1,fun i a v h1 h2=>(h.2 i a v h1 h2).aU e⟩
def ak.nil{w:World}{γ:G}:ak w γ [] []:=⟨rfl,fun i a v h=>(by simp at h)⟩
def ak.cons{w:World}{γ:G}{a:AV}{v:Value}{as':P2}{vs:PQ}(h:aA w γ a v)(hs:ak w γ as' vs):ak w γ (a::as') (v::vs):=
 ⟨by simp[hs.1],fun i x y h1 h2=>by
  cases i with
  |zero=>simp at h1 h2;subst h1;subst h2;exact h
  |succ i=>simp at h1 h2;exact hs.2 i x y h1 h2⟩
def ak.get{w:World}{γ:G}{as':P2}{vs:PQ}(h:ak w γ as' vs)(i:Nat):aA w γ (as'.getD i .junk) (vs.getD i undef):=by
 rcases zzaa i as'.length with hi|hi
 ·have c9:i<vs.length:=h.1 ▸ hi;refine h.2 i _ _ (?_:as'[i]?=some _) (?_:vs[i]?=some _)
  ·simp[List.getD,hi]
  simp[List.getD,c9]
 simp[List.getD,zzav hi];exact .junk _
def ak.set{w:World}{γ:G}{as':P2}{vs:PQ}(h:ak w γ as' vs)(i:Nat){a:AV}{v:Value}(ha:aA w γ a v):ak w γ (as'.set i a) (vs.set i v):=by
 refine⟨by simp[h.1],fun j x y h1 h2=>?_⟩;by_cases fu:i=j
 ·subst fu;rw[zzgq]at h1 h2;simp only[if_true]at h1 h2;split at h1<;>split at h2<;>simp_all
 rw[zzbo fu]at h1 h2;exact h.2 j x y h1 h2
def ak.append{w:World}{γ:G}{as' bs:P2}{vs us:PQ}(h:ak w γ as' vs)(k:ak w γ bs us):ak w γ (as'++bs) (vs++us):=by
 refine⟨by simp[h.1,k.1],fun i x y h1 h2=>?_⟩;rcases zzaa i as'.length with hi|hi
 ·rw[zzak hi]at h1;rw[zzak (h.1 ▸ hi)]at h2;exact h.2 i x y h1 h2
 rw[zzaq hi]at h1;rw[zzaq (h.1 ▸ hi),<- h.1]at h2;exact k.2 _ x y h1 h2
def cq(w:World)(γ:G)(as':P2)(vs:PQ):Prop:=as'.length<=vs.length/\∀(i:Nat)(a:AV)(v:Value),as'[i]?=some a->vs[i]?=some v->aA w γ a v
def ak.toP{w:World}{γ:G}{as':P2}{vs:PQ}(h:ak w γ as' vs):cq w γ as' vs:=⟨Nat.le_of_eq h.1,h.2⟩
def cq.nil{w:World}{γ:G}{vs:PQ}:cq w γ [] vs:=⟨zzbv _,fun i a v h=>(by simp at h)⟩
def cq.eN{w:World}{γ:G}{as':P2}{vs:PQ}(h:cq w γ as' vs){w':World}{γ':G}(e:Nq w γ w' γ'):cq w' γ' as' vs:=
 ⟨h.1,fun i a v h1 h2=>(h.2 i a v h1 h2).eN e⟩
def cq.aU{w:World}{γ:G}{as':P2}{vs:PQ}(h:cq w γ as' vs){w':World}{γ':G}(e:ey w γ w' γ'):cq w' γ' as' vs:=h.eN e.Av
def cq.mono{w:World}{γ:G}{as':P2}{vs:PQ}(h:cq w γ as' vs){w':World}{γ':G}(e:Ev w γ w' γ'):cq w' γ' as' vs:=h.aU e.cF
def cq.set{w:World}{γ:G}{as':P2}{vs:PQ}(h:cq w γ as' vs)(i:Nat){a:AV}{v:Value}(ha:aA w γ a v):cq w γ (as'.set i a) (vs.set i v):=by
 refine⟨Nm h.1,fun j x y h1 h2=>?_⟩;by_cases fu:i=j
 ·subst fu;rw[zzgq]at h1 h2;simp only[if_true]at h1 h2;split at h1<;>split at h2<;>simp_all
 rw[zzbo fu]at h1 h2;exact h.2 j x y h1 h2
inductive LS where
 |gone
 |ready
 |busy
 |done (ex:Exit)
structure AM where
 boxes:T5
 lens:Pa
 st:Nat->LS
 ln:Nat
abbrev QP:=List (AV×AM)
abbrev So:=AV->AM->Prop
def OI(γ:G)(b:Nat):Prop:=(∃id,γ.β id=some b)\/(∃id,γ.own id=some b)\/γ.sp b\/∃id,γ.mm id=some b
structure Chg (γ:G) (w:World) (γ':G) (w':World):Prop where
 os:w'.os=w.os
 tape:w'.tape=w.tape
 output:w'.output=w.output
 size:w.heap.size<=w'.heap.size
 same:∀b,b<w.heap.size->¬OI γ b->w'.heap[b]?=w.heap[b]?
 ro:∀b o,b<w.heap.size->γ.ro b o->γ'.ro b o/\w'.cell? ⟨b,o,none⟩=w.cell? ⟨b,o,none⟩
 oi:∀b,OI γ' b->OI γ b\/w.heap.size<=b
 ron:∀b o,γ'.ro b o->γ.ro b o\/OI γ b\/w.heap.size<=b
structure eO where
 p:G->World->Prop
 st:∀γ w γ' w',p γ w->Chg γ w γ' w'->p γ' w'
def Yp:Nat->Pi->Value
 |0,[n]=>.int .i64 n
 |0,_=>undef
 |_+1,ns=>.agg (ns.map (Value.int .i64)).toArray
def Wx:Nat->Pi->Prop
 |0,ns=>ns.length=1
 |kn+1,ns=>ns.length=kn+1
def cI(w:World)(γ:G):AV->Obj->Prop
 |.aJ kn kvs,.map es clock=>clock=es.size/\kvs.length=es.size/\
  ∀(i:Nat)(k:Pi)(a:AV)(e:MapEntry),kvs[i]?=some (k,a)->es[i]?=some e->Wx kn k/\e.key=Yp kn k/\e.born=i/\aA w γ a e.val
 |.mitr mid n seen,.mapIter (some mb) Nr sn st=>γ.mm mid=some mb/\Nr=n/\st=n/\sn.toList=seen
 |_,_=>False
def vE(w:World)(γ:G)(b:Nat)(x:PH):Prop:=∃a o,x=some [a]/\w.heap[b]?=some o/\cI w γ a o
def cI.mono{w w':World}{γ γ':G}{a:AV}{o:Obj}(h:cI w γ a o)(ev:Nq w γ w' γ'):cI w' γ' a o:=by
 unfold cI at h |-
 split at h
 ·exact⟨h.1,h.2.1,fun i k a e q1 q2=>⟨(h.2.2 i k a e q1 q2).1,(h.2.2 i k a e q1 q2).2.1,(h.2.2 i k a e q1 q2).2.2.1,(h.2.2 i k a e q1 q2).2.2.2.eN ev⟩⟩
 ·exact⟨ev.mm _ _ h.1,h.2⟩
 exact h.elim
def vE.mono{w w':World}{γ γ':G}{b:Nat}{x:PH}(h:vE w γ b x)(ev:Nq w γ w' γ')(e:w'.heap[b]?=w.heap[b]?):vE w' γ' b x:=by
 obtain⟨a,o,h1,h2,h3⟩:=h;exact⟨a,o,h1,e.trans h2,h3.mono ev⟩
def vE.U0{w:World}{γ:G}{b:Nat}{x:PH}(h:vE w γ b x){arr:P1}{e:TypeId}{f:Nat×Nat}(hh:w.heap[b]?=some (.cells arr e f)):False:=by
 obtain⟨a,o,_,h2,h3⟩:=h;rw[hh]at h2;cases h2;cases a<;>exact h3
structure au (N:Nat) (w0:eO) (an:Nat->Nat->Prop) (γ:G) (w:World) (B:Nat->PH) (L:Nat->Option Nat):Prop where
 bs:w0.p γ w
 hN:N<=w.heap.size
 an:∀b o,γ.ro b o->an b o\/N<=b
 robd:∀b o,γ.ro b o->b<w.heap.size
 box:∀id cells b,B id=some cells->γ.β id=some b->∃arr e,w.heap[b]?=some (.cells arr e (0,0))/\cq w γ cells arr.toList/\∀v∈arr.toList,v.oneCell'=true
 β:∀id b,γ.β id=some b->N<=b/\b<w.heap.size/\(∀o,¬γ.ro b o)/\(∀id',γ.own id'≠some b)/\∃cells,B id=some cells
 inj:∀id id' b,γ.β id=some b->γ.β id'=some b->B id=some []\/B id'=some []\/id=id'
 own:∀id b,γ.own id=some b->N<=b/\b<w.heap.size/\∃n,L id=some n
 oinj:∀id id' b,γ.own id=some b->γ.own id'=some b->id=id'
 sp:∀b,γ.sp b->N<=b/\b<w.heap.size/\(∀o,¬γ.ro b o)/\(∀id,γ.β id≠some b)/\(∀id,γ.own id≠some b)
 mm:∀id b,γ.mm id=some b->N<=b/\b<w.heap.size/\(∀o,¬γ.ro b o)/\(∀id,γ.β id≠some b)/\(∀id,γ.own id≠some b)/\¬γ.sp b/\γ.β id=none/\vE w γ b (B id)
 minj:∀id id' b,γ.mm id=some b->γ.mm id'=some b->id=id'
 len:∀id n,L id=some n->γ.cur id=n
 cur0:∀id,L id=none->γ.cur id=0
def AM.B(m:AM):Nat->PH:=fun id=>m.boxes[id]?
def AM.L(m:AM):Nat->Option Nat:=fun id=>m.lens[id]?
def G.grow(γ:G)(n n':Nat):G:={γ with ro:=fun b o=>γ.ro b o\/(n<=b/\b<n')}
def cell_of_heap{w w':World}{b o:Nat}(h:w'.heap[b]?=w.heap[b]?):w'.cell? ⟨b,o,none⟩=w.cell? ⟨b,o,none⟩:=by
 simp[World.cell?,h]
def aN{w:World}{b o:Nat}{arr:P1}{e:TypeId}{f:Nat×Nat}(h:w.heap[b]?=some (.cells arr e f)):w.cell? ⟨b,o,none⟩=arr[o]?:=by
 simp[World.cell?,h]
def Zp{w:World}{b o:Nat}{arr:P1}{e:TypeId}(h:w.heap[b]?=some (.cells arr e (0,0))):w.frozen? ⟨b,o,none⟩=false:=by
 simp[World.frozen?,h]
def aR{w:World}{b:Nat}{x:Obj}(h:w.heap[b]?=some x):b<w.heap.size:=by
 rcases zzaa b w.heap.size with h'|h'
 ·exact h'
 simp[zzbq h']at h
def Ev.U1{w w':World}{γ:G}(h:Below w.heap.size w w')(cr:∀id b,γ.own id=some b->b<w.heap.size)(di:∀b,γ.sp b->b<w.heap.size):Ev w γ w' (γ.grow w.heap.size w'.heap.size) where
 size:=h.size
 ro b o hb hr:=⟨.inl hr,cell_of_heap (h.block b hb)⟩
 β _ _ h:=h
 cur _:=zzab _
 mm _ _ h:=h
 lp:=rfl
 own id b _ ho:=by
  have hb:=cr id b ho;refine⟨ho,fun arr e he=>⟨arr,by rw[h.block b hb];exact he,zzab _⟩,fun o hr=>?_⟩;obtain hr|⟨hr,_⟩:=hr
  ·exact hr
  omega
 sp b hb:=⟨hb,h.block b (di b hb)⟩
 ss:=Sz.of_same h.block
variable {N:Nat} {w0:eO} {an:Nat->Nat->Prop} {γ:G} {w:World} {B:Nat->PH} {L:Nat->Option Nat}
def au.dm(hm:au N w0 an γ w B L){w':World}(h:Below w.heap.size w w'):Ev w γ w' (γ.grow w.heap.size w'.heap.size):=
 Ev.U1 h (fun id b hb=>(hm.own id b hb).2.1) fun b hb=>(hm.sp b hb).2.1
def au.grow(hm:au N w0 an γ w B L){w':World}(h:Below w.heap.size w w'):au N w0 an (γ.grow w.heap.size w'.heap.size) w' B L where
 bs:=w0.st _ _ _ _ hm.bs ⟨h.os,h.tape,h.output,h.size,fun b hb _=>h.block b hb,(hm.dm h).ro,fun b hb=>.inl hb,fun b o hr=>hr.imp_right fun h=>.inr h.1⟩
 hN:=zzbb hm.hN h.size
 an b o hr:=by
  obtain hr|⟨hr,_⟩:=hr
  ·exact hm.an b o hr
  exact .inr (zzbb hm.hN hr)
 robd b o hr:=by
  obtain hr|⟨_,hr⟩:=hr
  ·exact zzaz (hm.robd b o hr) h.size
  exact hr
 box id cells b hb h1:=by
  obtain⟨arr,e,h2,h3,h4⟩:=hm.box id cells b hb h1;exact⟨arr,e,by rw[h.block b (aR h2)];exact h2,h3.mono (hm.dm h),h4⟩
 β id b hb:=by
  obtain⟨h1,h2,h3,h4,h5⟩:=hm.β id b hb;refine⟨h1,zzaz h2 h.size,fun o hr=>?_,h4,h5⟩;obtain hr|⟨hr,_⟩:=hr
  ·exact h3 o hr
  omega
 inj:=hm.inj
 own id b hb:=by
  obtain⟨h1,h2,h3⟩:=hm.own id b hb;exact⟨h1,zzaz h2 h.size,h3⟩
 oinj:=hm.oinj
 sp b hb:=by
  obtain⟨h1,h2,h3,h4⟩:=hm.sp b hb;refine⟨h1,zzaz h2 h.size,fun o hr=>?_,h4⟩;obtain hr|⟨hr,_⟩:=hr
  ·exact h3 o hr
  omega
 mm id b hb:=by
  obtain⟨h1,h2,h3,h4,h5,h6,h8,h7⟩:=hm.mm id b hb;refine⟨h1,zzaz h2 h.size,fun o hr=>?_,h4,h5,h6,h8,h7.mono (hm.dm h).cF.Av (h.block b h2)⟩;obtain hr|⟨hr,_⟩:=hr
  ·exact h3 o hr
  omega
 minj:=hm.minj
 len:=hm.len
 cur0:=hm.cur0
def G.box(γ:G)(id b:Nat):G:={γ with β:=fun i=>if i=id then some b else γ.β i}
def au.dn(hm:au N w0 an γ w B L)(id:Nat)(aK:B id=none)(o:Obj):Ev w γ (w.alloc o) (γ.box id w.heap.size) where
 size:=zd
 ro b o' hb hr:=⟨hr,cell_of_heap (Below.heap_alloc w o b hb)⟩
 β i b hb:=by
  have:i≠id:=by rintro rfl;obtain⟨_,_,_,_,c,hc⟩:=hm.β i b hb;rw[aK]at hc;cases hc
  simp[G.box,this,hb]
 cur _:=zzab _
 mm _ _ h:=h
 lp:=rfl
 own i b _ ho:=⟨ho,fun arr e he=>⟨arr,by rw[Below.heap_alloc w o b (hm.own i b ho).2.1];exact he,zzab _⟩,fun _ h=>h⟩
 sp b hb:=⟨hb,Below.heap_alloc w o b (hm.sp b hb).2.1⟩
 ss:=Sz.of_same (Below.heap_alloc w o)
def au.eW(hm:au N w0 an γ w B L)(id:Nat)(aK:B id=none){cells:P2}{arr:P1}{e:TypeId}(hr:cq w γ cells arr.toList)(Iv:∀v∈arr.toList,v.oneCell'=true):
  au N w0 an (γ.box id w.heap.size) (w.alloc (.cells arr e)) (fun i=>if i=id then some cells else B i) L where
 bs:=w0.st _ _ _ _ hm.bs ⟨rfl,rfl,rfl,zd,fun b hb _=>Below.heap_alloc w _ b hb,(hm.dn id aK _).ro,fun b hb=>by
  obtain⟨i,hi⟩|hb|hb:=hb
  ·by_cases h:i=id
   ·simp[G.box,h]at hi;exact .inr zE
   simp[G.box,h]at hi;exact .inl (.inl ⟨i,hi⟩)
  ·exact .inl (.inr (.inl hb))
  exact .inl (.inr (.inr hb)),fun _ _ h=>.inl h⟩
 hN:=by have:=hm.hN;simp;omega
 an:=hm.an
 robd b o h:=by have:=hm.robd b o h;simp;omega
 box i cs b hb h1:=by
  by_cases hi:i=id
  ·subst hi;simp at hb;subst hb;simp[G.box]at h1;subst h1;exact⟨arr,e,by show(w.heap.push _)[w.heap.size]?=_;simp,hr.mono (hm.dn i aK _),Iv⟩
  simp[hi]at hb;simp[G.box,hi]at h1;obtain⟨bN,e',h2,h3,h4⟩:=hm.box i cs b hb h1;exact⟨bN,e',by rw[Below.heap_alloc w _ b (aR h2)];exact h2,h3.mono (hm.dn id aK _),h4⟩
 β i b hb:=by
  by_cases hi:i=id
  ·subst hi;simp[G.box]at hb;subst hb;refine⟨hm.hN,zd,fun o h=>?_,fun i' h=>?_,cells,zd⟩
   ·have:=hm.robd _ o h;omega
   have:=(hm.own i' _ h).2.1;omega
  simp[G.box,hi]at hb;obtain⟨h1,h2,h3,h4,c,hc⟩:=hm.β i b hb;exact⟨h1,by simp;omega,h3,h4,c,by simp[hi,hc]⟩
 inj i i' b h h':=by
  by_cases hi:i=id<;>by_cases c9:i'=id
  ·exact .inr (.inr (by rw[hi,c9]))
  ·simp[G.box,hi]at h;simp[G.box,c9]at h';have:=(hm.β i' b h').2.1;omega
  ·simp[G.box,c9]at h';simp[G.box,hi]at h;have:=(hm.β i b h).2.1;omega
  simp[G.box,hi]at h;simp[G.box,c9]at h';simp only[ab hi,ab c9];exact hm.inj i i' b h h'
 own i b hb:=by
  obtain⟨h1,h2,h3⟩:=hm.own i b hb;exact⟨h1,by simp;omega,h3⟩
 oinj:=hm.oinj
 sp b hb:=by
  obtain⟨h1,h2,h3,h4,h5⟩:=hm.sp b hb;refine⟨h1,by simp;omega,h3,fun i hi=>?_,h5⟩;by_cases aK:i=id
  ·simp[G.box,aK]at hi;omega
  simp[G.box,aK]at hi;exact h4 i hi
 mm i' b hb:=by
  obtain⟨h1,h2,h3,h4,h5,h6,h8,h7⟩:=hm.mm i' b hb
  have aO:i'≠id:=by
   rintro rfl;obtain⟨_,_,hx,_⟩:=h7;rw[aK]at hx;cases hx
  refine⟨h1,by simp;omega,h3,fun i hi=>?_,h5,h6,by simp[G.box,aO,h8],?_⟩
  ·by_cases aK:i=id
   ·simp[G.box,aK]at hi;omega
   simp[G.box,aK]at hi;exact h4 i hi
  simp only[aO,if_false];exact h7.mono (hm.dn id aK _).cF.Av (Below.heap_alloc w _ b h2)
 minj:=hm.minj
 len:=hm.len
 cur0:=hm.cur0
def tF(arr:P1):Nat->PQ->P1
 |_,[]=>arr
 |o,v::r=>tF (arr.setIfInBounds o v) (o+1) r
def Vd:∀(vs:PQ)(arr:P1)(o:Nat),(tF arr o vs).size=arr.size
 |[],_,_=>rfl
 |v::r,arr,o=>by rw[tF,Vd r];simp
def heap_setCell_same{w:World}{b o:Nat}{arr:P1}{e:TypeId}{f:Nat×Nat}(h:w.heap[b]?=some (.cells arr e f))(v:Value):
  (w.setCell ⟨b,o,none⟩ v).heap[b]?=some (.cells (arr.setIfInBounds o v) e f):=by
 simp[World.setCell,zzdq,h]
def Xb(b:Nat):∀(vs:PQ)(o:Nat)(w:World)(arr:P1)(e:TypeId)(f:Nat×Nat),w.heap[b]?=some (.cells arr e f)->
  (w.setCells b o vs).heap[b]?=some (.cells (tF arr o vs) e f)
 |[],_,_,_,_,_,h=>h
 |v::r,o,w,arr,e,f,h=>by
  rw[World.setCells,tF];exact Xb b r (o+1) _ _ e f (heap_setCell_same h v)
def Xw(b:Nat){N:Nat}(hb:N<=b):∀(vs:PQ)(o:Nat)(w:World),Below N w (w.setCells b o vs)
 |[],_,_=>Below.refl _ _
 |v::r,o,w=>by
  rw[World.setCells];exact((Below.refl N w).setCell (p:=⟨b,o,none⟩) hb v).trans (Xw b hb r (o+1) _)
def Qy(b:Nat):∀(vs:PQ)(o:Nat)(w:World)(b':Nat),b'≠b->(w.setCells b o vs).heap[b']?=w.heap[b']?
 |[],_,_,_,_=>rfl
 |v::r,o,w,b',h=>by
  rw[World.setCells,Qy b r (o+1) _ b' h];exact Below.heap_setCell w ⟨b,o,none⟩ v b' h
def aG(b:Nat):∀(vs:PQ)(o:Nat)(w:World),(w.setCells b o vs).heap.size=w.heap.size
 |[],_,_=>rfl
 |v::r,o,w=>by
  rw[World.setCells,aG b r];simp[World.setCell]
def Sz.setCells(b o:Nat)(vs:PQ)(w:World):Sz w (w.setCells b o vs):=fun b' arr e f h=>by
 by_cases hb:b'=b
 ·subst hb;exact⟨_,Xb b' vs o w arr e f h,Vd vs arr o⟩
 exact⟨arr,(Qy b vs o w b' hb).trans h,rfl⟩
def setA(cs:P2):Nat->P2->P2
 |_,[]=>cs
 |o,a::r=>setA (cs.set o a) (o+1) r
def Wv:∀(vs:PQ)(o:Nat)(arr:P1),(∀v∈arr.toList,v.oneCell'=true)->(∀v∈vs,v.oneCell'=true)->∀v∈(tF arr o vs).toList,v.oneCell'=true
 |[],_,_,h,_=>h
 |u::vs,o,arr,h,h'=>by
  rw[tF];refine Wv vs (o+1) _ (fun v hv=>?_) (fun v hv=>h' v (by simp[hv]));rw[zzdm]at hv;rcases zzgs hv with hv|rfl
  ·exact h v hv
  exact h' _ zd
def ak.setA{w:World}{γ:G}:∀{as':P2}{vs:PQ}{o:Nat}{cs:P2}{arr:P1},ak w γ as' vs->ak w γ cs arr.toList->ak w γ (setA cs o as') (tF arr o vs).toList
 |[],[],_,_,_,_,h=>h
 |[],_::_,_,_,_,h,_=>by have:=h.1;simp at this
 |_::_,[],_,_,_,h,_=>by have:=h.1;simp at this
 |a::as',v::vs,o,cs,arr,h,hc=>by
  have h0:aA w γ a v:=h.2 0 a v rfl rfl;have hs:ak w γ as' vs:=⟨by have:=h.1;simpa using this,fun i x y h1 h2=>h.2 (i+1) x y (Nm h1) (Nm h2)⟩;rw[Abs.setA,tF];refine ak.setA hs ?_;rw[zzdm];exact hc.set o h0
def cq.setA{w:World}{γ:G}:∀{as':P2}{vs:PQ}{o:Nat}{cs:P2}{arr:P1},ak w γ as' vs->cq w γ cs arr.toList->cq w γ (setA cs o as') (tF arr o vs).toList
 |[],[],_,_,_,_,h=>h
 |[],_::_,_,_,_,h,_=>by have:=h.1;simp at this
 |_::_,[],_,_,_,h,_=>by have:=h.1;simp at this
 |a::as',v::vs,o,cs,arr,h,hc=>by
  have h0:aA w γ a v:=h.2 0 a v rfl rfl;have hs:ak w γ as' vs:=⟨by have:=h.1;simpa using this,fun i x y h1 h2=>h.2 (i+1) x y (Nm h1) (Nm h2)⟩;rw[Abs.setA,tF];refine cq.setA hs ?_;rw[zzdm];exact hc.set o h0
def og:∀(as':P2)(o:Nat)(cs:P2),(setA cs o as').length=cs.length
 |[],_,_=>rfl
 |a::as',o,cs=>by rw[setA,og as'];simp
def au.cz(hm:au N w0 an γ w B L){id b:Nat}(hb:γ.β id=some b)(o:Nat)(vs:PQ):Ev w γ (w.setCells b o vs) γ where
 size:=by rw[aG];exact zzab _
 ro b' o' _ hr:=⟨hr,cell_of_heap (Qy b vs o w b' (by rintro rfl;exact(hm.β id b' hb).2.2.1 o' hr))⟩
 β _ _ h:=h
 cur _:=zzab _
 mm _ _ h:=h
 lp:=rfl
 own i b' _ ho:=by
  have aO:b'≠b:=by rintro rfl;exact(hm.β id b' hb).2.2.2.1 i ho
  exact⟨ho,fun arr e he=>⟨arr,by rw[Qy b vs o w b' aO];exact he,zzab _⟩,fun _ h=>h⟩
 sp b' cK:=⟨cK,Qy b vs o w b' (by rintro rfl;exact(hm.sp b' cK).2.2.2.1 id hb)⟩
 ss:=Sz.setCells b o vs w
def au.store(hm:au N w0 an γ w B L){id:Nat}{cells:P2}(hB:B id=some cells){b:Nat}{arr:P1}{e:TypeId}(hb:γ.β id=some b)
  (hh:w.heap[b]?=some (.cells arr e (0,0)))(hr:cq w γ cells arr.toList)(Iv:∀v∈arr.toList,v.oneCell'=true){o:Nat}{as':P2}{vs:PQ}(ha:ak w γ as' vs)(h1v:∀v∈vs,v.oneCell'=true)(kV:cells≠[]):
  au N w0 an γ (w.setCells b o vs) (fun i=>if i=id then some (setA cells o as')else B i) L where
 bs:=w0.st _ _ _ _ hm.bs ⟨(Xw b (zzab b) vs o w).os,(Xw b (zzab b) vs o w).tape,(Xw b (zzab b) vs o w).output,by rw[aG];exact zzab _,
  fun b' _ eX=>Qy b vs o w b' (by rintro rfl;exact eX (.inl ⟨id,hb⟩)),(hm.cz hb o vs).ro,fun b hb=>.inl hb,fun _ _ h=>.inl h⟩
 hN:=by rw[aG];exact hm.hN
 an:=hm.an
 robd b' o' h:=by rw[aG];exact hm.robd b' o' h
 box i cs b' dw h1:=by
  by_cases hi:i=id
  ·subst hi;simp at dw;subst dw;obtain rfl:b'=b:=ap (h1.symm.trans hb);exact⟨_,e,Xb b' vs o w arr e _ hh,(cq.setA ha hr).mono (hm.cz hb o vs),Wv vs o arr Iv h1v⟩
  simp[hi]at dw;obtain⟨bN,e',h2,h3,h4⟩:=hm.box i cs b' dw h1;by_cases aO:b'=b
  ·subst aO;rcases hm.inj _ _ _ h1 hb with h|h|h
   ·rw[h]at dw;cases dw;exact⟨_,e,Xb b' vs o w arr e _ hh,cq.nil,Wv vs o arr Iv h1v⟩
   ·rw[h]at hB;cases hB;exact absurd rfl kV
   exact absurd h hi
  exact⟨bN,e',by rw[Qy b vs o w b' aO];exact h2,h3.mono (hm.cz hb o vs),h4⟩
 β i b' dw:=by
  obtain⟨h1,h2,h3,h4,c,hc⟩:=hm.β i b' dw;refine⟨h1,by rw[aG];exact h2,h3,h4,?_⟩;by_cases hi:i=id
  ·exact⟨setA cells o as',by simp[hi]⟩
  exact⟨c,by simp[hi,hc]⟩
 inj i i' b' h h':=by
  rcases hm.inj i i' b' h h' with k|k|k
  ·refine .inl ?_;by_cases hi:i=id
   ·subst hi;rw[k]at hB;cases hB;exact absurd rfl kV
   simp only[ab hi];exact k
  ·refine .inr (.inl ?_);by_cases hi:i'=id
   ·subst hi;rw[k]at hB;cases hB;exact absurd rfl kV
   simp only[ab hi];exact k
  exact .inr (.inr k)
 own i b' dw:=by
  obtain⟨h1,h2,h3⟩:=hm.own i b' dw;exact⟨h1,by rw[aG];exact h2,h3⟩
 oinj:=hm.oinj
 sp b' cK:=by
  obtain⟨h1,h2,h3⟩:=hm.sp b' cK;exact⟨h1,by rw[aG];exact h2,h3⟩
 mm i' b' cK:=by
  obtain⟨h1,h2,h3,h4,h5,h6,h8,h7⟩:=hm.mm i' b' cK;have aO:i'≠id:=by rintro rfl;rw[hb]at h8;cases h8
  refine⟨h1,by rw[aG];exact h2,h3,h4,h5,h6,h8,?_⟩;simp only[aO,if_false];exact h7.mono (hm.cz hb o vs).cF.Av (Qy b vs o w b' (by rintro rfl;exact h4 id hb))
 minj:=hm.minj
 len:=hm.len
 cur0:=hm.cur0
def G.extend(γ:G)(id b p q n:Nat):G:={γ with cur:=fun i=>if i=id then n else γ.cur i,ro:=fun b' o=>γ.ro b' o\/(b'=b/\p<=o/\o<q)}
def au.jV(hm:au N w0 an γ w B L){id b p q n:Nat}{vs:PQ}(ho:γ.own id=some b)(hn:γ.cur id<=n)(hq:γ.cur id=n->q<=p)(hpq:q=p+vs.length)(oh:∀o,p<=o->¬γ.ro b o):Ev w γ (w.setCells b p vs) (γ.extend id b p q n) where
 size:=by rw[aG];exact zzab _
 ro b' o' _ hr:=by
  refine⟨.inl hr,World.cell?_setCells_out b vs p w _ fun e1 _=>?_⟩;simp only at e1 |-
  subst e1;rcases zzaa o' p with h|h
  ·exact .inl h
  exact absurd hr (oh o' h)
 β _ _ h:=h
 cur i:=by
  simp only[G.extend];split
  ·rename_i h;subst h;exact hn
  exact zzab _
 mm _ _ h:=h
 lp:=rfl
 own i b' hc hoi:=by
  by_cases hi:i=id
  ·subst hi;obtain rfl:b'=b:=ap (hoi.symm.trans ho);simp only[G.extend,if_true]at hc;have:=hq hc.symm;have hvs:vs=[]:=zzbe zE;subst hvs;refine⟨hoi,fun arr e he=>⟨arr,he,zzab _⟩,fun o hr=>?_⟩;obtain hr|⟨_,h1,h2⟩:=hr
   ·exact hr
   omega
  have aO:b'≠b:=by rintro rfl;exact hi (hm.oinj _ _ _ hoi ho)
  refine⟨hoi,fun arr e he=>⟨arr,by rw[Qy b vs p w b' aO];exact he,zzab _⟩,fun o hr=>?_⟩;obtain hr|⟨h1,_,_⟩:=hr
  ·exact hr
  exact absurd h1 aO
 sp b' cK:=⟨cK,Qy b vs p w b' (by rintro rfl;exact(hm.sp b' cK).2.2.2.2 id ho)⟩
 ss:=Sz.setCells b p vs w
def au.extend(hm:au N w0 an γ w B L){id b p q n:Nat}{vs:PQ}(ho:γ.own id=some b)(hn:γ.cur id<=n)(hq:γ.cur id=n->q<=p)(hpq:q=p+vs.length)(oh:∀o,p<=o->¬γ.ro b o):
  au N w0 an (γ.extend id b p q n) (w.setCells b p vs) B (fun i=>if i=id then some n else L i) where
 bs:=w0.st _ _ _ _ hm.bs ⟨(Xw b (zzab b) vs p w).os,(Xw b (zzab b) vs p w).tape,(Xw b (zzab b) vs p w).output,by rw[aG];exact zzab _,
  fun b' _ eX=>Qy b vs p w b' (by rintro rfl;exact eX (.inr (.inl ⟨id,ho⟩))),(hm.jV ho hn hq hpq oh).ro,fun b hb=>.inl hb,fun b' o' hr=>hr.imp_right fun h=>.inl (by rw[h.1];exact .inr (.inl ⟨id,ho⟩))⟩
 hN:=by rw[aG];exact hm.hN
 an b' o' hr:=by
  obtain hr|⟨rfl,_,_⟩:=hr
  ·exact hm.an b' o' hr
  exact .inr (hm.own id b' ho).1
 robd b' o' hr:=by
  rw[aG];obtain hr|⟨rfl,_,_⟩:=hr
  ·exact hm.robd b' o' hr
  exact(hm.own id b' ho).2.1
 box i cs b' dw h1:=by
  obtain⟨bN,e',h2,h3,h4⟩:=hm.box i cs b' dw h1;have aO:b'≠b:=by rintro rfl;exact(hm.β i b' h1).2.2.2.1 id ho
  exact⟨bN,e',by rw[Qy b vs p w b' aO];exact h2,h3.mono (hm.jV ho hn hq hpq oh),h4⟩
 β i b' dw:=by
  obtain⟨h1,h2,h3,h4,hc⟩:=hm.β i b' dw;refine⟨h1,by rw[aG];exact h2,fun o hr=>?_,h4,hc⟩;obtain hr|⟨rfl,_,_⟩:=hr
  ·exact h3 o hr
  exact h4 id ho
 inj:=hm.inj
 own i b' dw:=by
  obtain⟨h1,h2,m,fG⟩:=hm.own i b' dw;refine⟨h1,by rw[aG];exact h2,?_⟩;by_cases hi:i=id
  ·exact⟨n,by simp[hi]⟩
  exact⟨m,by simp[hi,fG]⟩
 oinj:=hm.oinj
 sp b' cK:=by
  obtain⟨h1,h2,h3,h4,h5⟩:=hm.sp b' cK;refine⟨h1,by rw[aG];exact h2,fun o hr=>?_,h4,h5⟩;obtain hr|⟨rfl,_,_⟩:=hr
  ·exact h3 o hr
  exact h5 id ho
 mm i' b' cK:=by
  obtain⟨h1,h2,h3,h4,h5,h6,h8,h7⟩:=hm.mm i' b' cK;have aO:b'≠b:=by rintro rfl;exact h5 id ho
  refine⟨h1,by rw[aG];exact h2,fun o hr=>?_,h4,h5,h6,h8,h7.mono (hm.jV ho hn hq hpq oh).cF.Av (Qy b vs p w b' aO)⟩;obtain hr|⟨rfl,_,_⟩:=hr
  ·exact h3 o hr
  exact aO rfl
 minj:=hm.minj
 len i m hi:=by
  by_cases h:i=id
  ·simp[h]at hi;simp[G.extend,h,hi]
  simp[h]at hi;simp[G.extend,h,hm.len i m hi]
 cur0 i hi:=by
  by_cases h:i=id
  ·simp[h]at hi
  simp[h]at hi;simp[G.extend,h,hm.cur0 i hi]
def G.renew(γ:G)(id b q n:Nat):G:={γ with own:=fun i=>if i=id then some b else γ.own i,cur:=fun i=>if i=id then n else γ.cur i,ro:=fun b' o=>γ.ro b' o\/(b'=b/\o<q)}
def au.fH(hm:au N w0 an γ w B L){id q n:Nat}(hn:γ.cur id<=n)(aO:γ.cur id=n->γ.own id=none)(o:Obj):Ev w γ (w.alloc o) (γ.renew id w.heap.size q n) where
 size:=zd
 ro b' o' hb hr:=⟨.inl hr,cell_of_heap (Below.heap_alloc w o b' hb)⟩
 β _ _ h:=h
 cur i:=by
  simp only[G.renew];split
  ·rename_i h;subst h;exact hn
  exact zzab _
 mm _ _ h:=h
 lp:=rfl
 own i b' hc hoi:=by
  by_cases hi:i=id
  ·subst hi;simp only[G.renew,if_true]at hc;rw[aO hc.symm]at hoi;cases hoi
  have ah:=(hm.own i b' hoi).2.1;refine⟨by simp[G.renew,hi,hoi],fun arr e he=>⟨arr,by rw[Below.heap_alloc w o b' ah];exact he,zzab _⟩,fun o' hr=>?_⟩;obtain hr|⟨h1,_⟩:=hr
  ·exact hr
  omega
 sp b hb:=⟨hb,Below.heap_alloc w o b (hm.sp b hb).2.1⟩
 ss:=Sz.of_same (Below.heap_alloc w o)
def au.renew(hm:au N w0 an γ w B L){id q n:Nat}(hn:γ.cur id<=n)(aO:γ.cur id=n->γ.own id=none)(o:Obj):
  au N w0 an (γ.renew id w.heap.size q n) (w.alloc o) B (fun i=>if i=id then some n else L i) where
 bs:=w0.st _ _ _ _ hm.bs ⟨rfl,rfl,rfl,zd,fun b hb _=>Below.heap_alloc w _ b hb,(hm.fH hn aO o).ro,fun b hb=>by
  obtain hb|⟨i,hi⟩|hb:=hb
  ·exact .inl (.inl hb)
  ·by_cases h:i=id
   ·simp[G.renew,h]at hi;exact .inr zE
   simp[G.renew,h]at hi;exact .inl (.inr (.inl ⟨i,hi⟩))
  exact .inl (.inr (.inr hb)),fun b' o' hr=>hr.imp_right fun h=>.inr (by rw[h.1];exact zzab _)⟩
 hN:=by have:=hm.hN;simp;omega
 an b' o' hr:=by
  obtain hr|⟨rfl,_⟩:=hr
  ·exact hm.an b' o' hr
  exact .inr hm.hN
 robd b' o' hr:=by
  obtain hr|⟨rfl,_⟩:=hr
  ·have:=hm.robd b' o' hr;simp;omega
  simp
 box i cs b' dw h1:=by
  obtain⟨bN,e',h2,h3,h4⟩:=hm.box i cs b' dw h1;exact⟨bN,e',by rw[Below.heap_alloc w _ b' (aR h2)];exact h2,h3.mono (hm.fH hn aO o),h4⟩
 β i b' dw:=by
  obtain⟨h1,h2,h3,h4,hc⟩:=hm.β i b' dw;refine⟨h1,by simp;omega,fun o' hr=>?_,fun i' hr=>?_,hc⟩
  ·obtain hr|⟨rfl,_⟩:=hr
   ·exact h3 o' hr
   omega
  by_cases hi:i'=id
  ·simp[G.renew,hi]at hr;omega
  simp[G.renew,hi]at hr;exact h4 i' hr
 inj:=hm.inj
 own i b' dw:=by
  by_cases hi:i=id
  ·simp[G.renew,hi]at dw;subst dw;exact⟨hm.hN,zd,n,by simp[hi]⟩
  simp[G.renew,hi]at dw;obtain⟨h1,h2,m,fG⟩:=hm.own i b' dw;exact⟨h1,by simp;omega,m,by simp[hi,fG]⟩
 oinj i i' b' h h':=by
  by_cases hi:i=id<;>by_cases c9:i'=id
  ·rw[hi,c9]
  ·simp[G.renew,hi]at h;simp[G.renew,c9]at h';have:=(hm.own i' b' h').2.1;omega
  ·simp[G.renew,c9]at h';simp[G.renew,hi]at h;have:=(hm.own i b' h).2.1;omega
  simp[G.renew,hi]at h;simp[G.renew,c9]at h';exact hm.oinj i i' b' h h'
 sp b hb:=by
  obtain⟨h1,h2,h3,h4,h5⟩:=hm.sp b hb;refine⟨h1,by simp;omega,fun o' hr=>?_,h4,fun i hi=>?_⟩
  ·obtain hr|⟨rfl,_⟩:=hr
   ·exact h3 o' hr
   omega
  by_cases h:i=id
  ·simp[G.renew,h]at hi;omega
  simp[G.renew,h]at hi;exact h5 i hi
 minj:=hm.minj
 mm i' b hb:=by
  obtain⟨h1,h2,h3,h4,h5,h6,h8,h7⟩:=hm.mm i' b hb;refine⟨h1,by simp;omega,fun o' hr=>?_,h4,fun i hi=>?_,h6,h8,h7.mono (hm.fH hn aO o).cF.Av (Below.heap_alloc w _ b h2)⟩
  ·obtain hr|⟨rfl,_⟩:=hr
   ·exact h3 o' hr
   omega
  by_cases h:i=id
  ·simp[G.renew,h]at hi;omega
  simp[G.renew,h]at hi;exact h5 i hi
 len i m hi:=by
  by_cases h:i=id
  ·simp[h]at hi;simp[G.renew,h,hi]
  simp[h]at hi;simp[G.renew,h,hm.len i m hi]
 cur0 i hi:=by
  by_cases h:i=id
  ·simp[h]at hi
  simp[h]at hi;simp[G.renew,h,hm.cur0 i hi]
def au.drew(hm:au N w0 an γ w B L):au N w0 an γ w.drew B L where
 bs:=w0.st _ _ _ _ hm.bs ⟨rfl,rfl,rfl,zzab _,fun _ _ _=>rfl,fun _ _ _ h=>⟨h,rfl⟩,fun _ hb=>.inl hb,fun _ _ h=>.inl h⟩
 hN:=hm.hN
 an:=hm.an
 robd:=hm.robd
 box i cs b hb h1:=by
  obtain⟨arr,e,h2,h3,h4⟩:=hm.box i cs b hb h1;exact⟨arr,e,h2,h3.mono ⟨zzab _,fun _ _ _ h=>⟨h,rfl⟩,fun _ _ h=>h,fun _=>zzab _,fun _ _ h=>h,rfl,fun _ _ _ h=>⟨h,fun arr _ h=>⟨arr,h,zzab _⟩,fun _ h=>h⟩,fun _ h=>⟨h,rfl⟩,Sz.refl w⟩,h4⟩
 β:=hm.β
 inj:=hm.inj
 own:=hm.own
 oinj:=hm.oinj
 sp:=hm.sp
 mm i b hb:=by
  obtain⟨h1,h2,h3,h4,h5,h6,h8,h7⟩:=hm.mm i b hb;exact⟨h1,h2,h3,h4,h5,h6,h8,h7.mono (w':=w.drew) (γ':=γ) ⟨zzab _,fun _ _ _ h=>⟨h,rfl⟩,fun _ _ h=>h,fun _=>zzab _,fun _ _ h=>h,fun _ _ h=>h,fun _ _ _ h=>⟨h,fun arr _ h=>⟨arr,h,zzab _⟩,fun _ h=>h⟩,Sz.refl w⟩ rfl⟩
 minj:=hm.minj
 len:=hm.len
 cur0:=hm.cur0
def Ev.drew(w:World)(γ:G):Ev w γ w.drew γ:=
 ⟨zzab _,fun _ _ _ h=>⟨h,rfl⟩,fun _ _ h=>h,fun _=>zzab _,fun _ _ h=>h,rfl,fun _ _ _ h=>⟨h,fun arr _ h=>⟨arr,h,zzab _⟩,fun _ h=>h⟩,fun _ h=>⟨h,rfl⟩,Sz.refl w⟩
def au.kill(hm:au N w0 an γ w B L){id b:Nat}(hb:γ.β id=some b):au N w0 an γ w (fun i=>if i=id then some []else B i) L where
 bs:=hm.bs
 hN:=hm.hN
 an:=hm.an
 robd:=hm.robd
 box i cells b' dw h1:=by
  by_cases hi:i=id
  ·subst hi;simp at dw;subst dw;obtain⟨_,_,_,_,c,hc⟩:=hm.β i b' h1;obtain⟨arr,e,h2,_,h4⟩:=hm.box i c b' hc h1;exact⟨arr,e,h2,cq.nil,h4⟩
  simp[hi]at dw;exact hm.box i cells b' dw h1
 β i b' dw:=by
  obtain⟨h1,h2,h3,h4,c,hc⟩:=hm.β i b' dw;refine⟨h1,h2,h3,h4,?_⟩;by_cases hi:i=id
  ·exact⟨[],by simp[hi]⟩
  exact⟨c,by simp[hi,hc]⟩
 inj i i' b' h h':=by
  rcases hm.inj i i' b' h h' with k|k|k
  ·refine .inl ?_;by_cases hi:i=id
   ·simp[hi]
   simp only[ab hi];exact k
  ·refine .inr (.inl ?_);by_cases hi:i'=id
   ·simp[hi]
   simp only[ab hi];exact k
  exact .inr (.inr k)
 own:=hm.own
 oinj:=hm.oinj
 sp:=hm.sp
 mm i' b' cK:=by
  obtain⟨h1,h2,h3,h4,h5,h6,h8,h7⟩:=hm.mm i' b' cK;have aO:i'≠id:=by rintro rfl;rw[hb]at h8;cases h8
  exact⟨h1,h2,h3,h4,h5,h6,h8,by simp only[aO,if_false];exact h7⟩
 minj:=hm.minj
 len:=hm.len
 cur0:=hm.cur0
def au.share(hm:au N w0 an γ w B L){id b id':Nat}{cells new:P2}(hb:γ.β id=some b)(hB:B id=some cells)(kV:cells≠[])(cG:B id'=none){arr:P1}{e:TypeId}
  (hh:w.heap[b]?=some (.cells arr e (0,0))){p:Nat}{vs:PQ}(hr:cq w γ new (tF arr p vs).toList)(Iv:∀v∈arr.toList,v.oneCell'=true)(h1v:∀v∈vs,v.oneCell'=true):
  Ev w γ (w.setCells b p vs) (γ.box id' b)/\au N w0 an (γ.box id' b) (w.setCells b p vs) (fun i=>if i=id' then some new else if i=id then some []else B i) L:=by
 have aq7:id'≠id:=by rintro rfl;rw[cG]at hB;cases hB
 have U2:∀i b',γ.β i=some b'->i≠id':=fun i b' h=>by
  rintro rfl;obtain⟨_,_,_,_,c,hc⟩:=hm.β i b' h;rw[cG]at hc;cases hc
 have bM:=hm.cz hb p vs
 have bU:Ev w γ (w.setCells b p vs) (γ.box id' b):=
  ⟨bM.size,bM.ro,fun i b' h=>by simp[G.box,U2 i b' h,h],bM.cur,bM.mm,bM.lp,bM.own,bM.sp,bM.ss⟩
 refine⟨bU,?_⟩
 exact{
  bs:=w0.st _ _ _ _ hm.bs ⟨(Xw b (zzab b) vs p w).os,(Xw b (zzab b) vs p w).tape,(Xw b (zzab b) vs p w).output,by rw[aG];exact zzab _,
   fun b' _ eX=>Qy b vs p w b' (by rintro rfl;exact eX (.inl ⟨id,hb⟩)),bU.ro,fun b' cK=>by
    obtain⟨i,hi⟩|cK|cK:=cK
    ·by_cases h:i=id'
     ·simp[G.box,h]at hi;subst hi;exact .inl (.inl ⟨id,hb⟩)
     simp[G.box,h]at hi;exact .inl (.inl ⟨i,hi⟩)
    ·exact .inl (.inr (.inl cK))
    exact .inl (.inr (.inr cK)),fun _ _ h=>.inl h⟩
  hN:=by rw[aG];exact hm.hN
  an:=hm.an
  robd:=fun b' o' h=>by rw[aG];exact hm.robd b' o' h
  box:=fun i cs b' dw h1=>by
   by_cases hi:i=id'
   ·subst hi;simp at dw;subst dw;simp[G.box]at h1;subst h1;exact⟨_,e,Xb b vs p w arr e _ hh,hr.mono bU,Wv vs p arr Iv h1v⟩
   simp[G.box,hi]at h1;simp only[ab hi]at dw;by_cases Pw:i=id
   ·subst Pw;simp at dw;subst dw;obtain rfl:b'=b:=ap (h1.symm.trans hb);exact⟨_,e,Xb b' vs p w arr e _ hh,cq.nil,Wv vs p arr Iv h1v⟩
   simp only[ab Pw]at dw;obtain⟨bN,e',h2,h3,h4⟩:=hm.box i cs b' dw h1;by_cases aO:b'=b
   ·subst aO;rcases hm.inj _ _ _ h1 hb with h|h|h
    ·rw[h]at dw;cases dw;exact⟨_,e,Xb b' vs p w arr e _ hh,cq.nil,Wv vs p arr Iv h1v⟩
    ·rw[h]at hB;cases hB;exact absurd rfl kV
    exact absurd h Pw
   exact⟨bN,e',by rw[Qy b vs p w b' aO];exact h2,h3.mono bU,h4⟩
  β:=fun i b' dw=>by
   by_cases hi:i=id'
   ·subst hi;simp[G.box]at dw;subst dw;obtain⟨h1,h2,h3,h4,_⟩:=hm.β id b hb;exact⟨h1,by rw[aG];exact h2,h3,h4,new,zd⟩
   simp[G.box,hi]at dw;obtain⟨h1,h2,h3,h4,c,hc⟩:=hm.β i b' dw;refine⟨h1,by rw[aG];exact h2,h3,h4,?_⟩;by_cases Pw:i=id
   ·exact⟨[],by simp[hi,Pw,Ne.symm aq7]⟩
   exact⟨c,by simp[hi,Pw,hc]⟩
  inj:=fun i i' b' h h'=>by
   have key:∀j,j≠id'->γ.β j=some b->(if j=id' then some new else if j=id then some []else B j)=some []:=fun j hj hβ=>by
    rw[ab hj];by_cases Aw:j=id
    ·rw[ac Aw]
    rw[ab Aw];rcases hm.inj _ _ _ hβ hb with h|h|h
    ·exact h
    ·rw[h]at hB;cases hB;exact absurd rfl kV
    exact absurd h Aw
   by_cases hi:i=id'<;>by_cases c9:i'=id'
   ·exact .inr (.inr (by rw[hi,c9]))
   ·simp[G.box,hi]at h;simp[G.box,c9]at h';subst h;exact .inr (.inl (key i' c9 h'))
   ·simp[G.box,hi]at h;simp[G.box,c9]at h';subst h';exact .inl (key i hi h)
   simp[G.box,hi]at h;simp[G.box,c9]at h';simp only[ab hi,ab c9];rcases hm.inj i i' b' h h' with k|k|k
   ·refine .inl ?_;by_cases Pw:i=id
    ·rw[ac Pw]
    rw[ab Pw];exact k
   ·refine .inr (.inl ?_);by_cases Pw:i'=id
    ·rw[ac Pw]
    rw[ab Pw];exact k
   exact .inr (.inr k)
  own:=fun i b' dw=>by
   obtain⟨h1,h2,h3⟩:=hm.own i b' dw;exact⟨h1,by rw[aG];exact h2,h3⟩
  oinj:=hm.oinj
  sp:=fun b' cK=>by
   obtain⟨h1,h2,h3,h4,h5⟩:=hm.sp b' cK;refine⟨h1,by rw[aG];exact h2,h3,fun i hi=>?_,h5⟩;by_cases aK:i=id'
   ·simp[G.box,aK]at hi;subst hi;exact h4 id hb
   simp[G.box,aK]at hi;exact h4 i hi
  mm:=fun i' b' cK=>by
   obtain⟨h1,h2,h3,h4,h5,h6,h8,h7⟩:=hm.mm i' b' cK;have aO:i'≠id:=by rintro rfl;rw[hb]at h8;cases h8
   have fI:i'≠id':=by
    rintro rfl;obtain⟨_,_,hx,_⟩:=h7;rw[cG]at hx;cases hx
   refine⟨h1,by rw[aG];exact h2,h3,fun i hi=>?_,h5,h6,by simp[G.box,fI,h8],?_⟩
   ·by_cases aK:i=id'
    ·simp[G.box,aK]at hi;subst hi;exact h4 id hb
    simp[G.box,aK]at hi;exact h4 i hi
   simp only[aO,fI,if_false];exact h7.mono bU.cF.Av (Qy b vs p w b' (by rintro rfl;exact h4 id hb))
  minj:=hm.minj
  len:=hm.len
  cur0:=hm.cur0}
inductive bE where
 |tmp (t:Nat)
 |const (a:AV)
 |func (f:FuncId)
 |glob (g:Nat)
def vF:Value->AV
 |.bool b=>.bool b
 |.int k n=>.int k n
 |.string s=>.str s
 |.slice none 0 0=>.sl .nil []
 |.nilFunc=>.nilfn
 |.pointer none=>.nilv true
 |.map none=>.nilv false
 |_=>.junk
def Ay:Value->AV
 |.agg cs=>.agg (cs.toList.map vF)
 |v=>vF v
def Cm{w:World}{γ:G}:aA w γ (.sl .nil []) (.slice none 0 0):=
 .sl (rows:=[]) 0 0 0 (fun _ _=>undef) (zzab _) (fun _=>rfl) (fun h=>absurd rfl h) (fun _ h=>by cases h) (fun i j c h=>by simp[Qu]at h) (fun i j c h=>by simp[Qu]at h) rfl
def mF(w:World)(γ:G)(v:Value):aA w γ (vF v) v:=by
 unfold vF;split
 ·exact .bool _
 ·exact .int _ _
 ·exact .str _
 ·exact Cm
 ·exact .nilfn
 ·exact .nilv true
 ·exact .nilv false
 exact .junk _
def Kb(w:World)(γ:G)(v:Value):aA w γ (Ay v) v:=by
 unfold Ay;split
 ·refine .agg zd fun i c u h1 h2=>?_;simp at h1;obtain⟨u',h3,h4⟩:=h1;rw[h2]at h3;cases h3;subst h4;exact mF w γ u
 exact mF w γ _
def aC:Operand->bE
 |.tmp t=>.tmp t
 |.const v=>.const (Ay v)
 |.func f=>.func f
 |.global g=>.glob g
def ev(gl:Nat->AV)(T:P2):bE->AV
 |.tmp t=>T.getD t .junk
 |.const a=>a
 |.func f=>.fn f [] []
 |.glob g=>gl g
inductive aF where
 |mv (x:bE)
 |pick (c a b:bE)
 |alloc (zs:P2)
 |box (x:bE)
 |build (zs:P2) (parts:List (Nat×Nat×bE))
 |bsl (sz len:Nat) (parts:List (Nat×bE))
 |load (agg:Bool) (n:Nat) (x:bE)
 |store (n:Nat) (x v:bE)
 |faddr (off:Nat) (x:bE)
 |fld (agg:Bool) (off n:Nat) (x:bE)
 |iaddr (sz:Nat) (x i:bE)
 |iaddrA (len sz:Nat) (x i:bE)
 |U3 (x i:bE)
 |idxA (agg:Bool) (n sz:Nat) (x i:bE)
 |bin (op:BinOp) (x y:bE)
 |binB (op:BinOp) (x y:bE)
 |un (op:UnOp) (x:bE)
 |conv(k:IntKind) (x:bE)
 |len (x:bE)
 |lenS (x:bE)
 |mn (x y:bE)
 |mx (x y:bE)
 |mm3 (big:Bool) (x y z:bE)
 |mkfn (f:FuncId) (first cap:List bE)
 |ext (x:bE) (i:Nat)
 |call (f:bE) (args:List bE)
 |app (sz bytes:Nat) (s x:bE)
 |slS (x:bE) (lo hi:Option bE)
 |nilc (x:bE)
 |nilS (neg:Bool) (x:bE)
 |nilP (neg:Bool) (x:bE)
 |b2s (x:bE)
 |look (kn:Nat) (ok:Bool) (z:AV) (x k:bE)
 |mupd (kn:Nat) (x k v:bE)
 |mkmap (kn:Nat)
 |ment (kn:Nat) (z:AV) (x k:bE)
 |esto (x s v:bE)
 |rng (x:bE)
 |nxt (x:bE)
 |entr (x:bE)
 |mks0 (sz bytes:Nat) (c:bE)
 |slL (sz:Nat) (x:bE) (lo hi:Option bE)
 |slA (n sz:Nat) (x:bE) (lo hi:Option bE)
 |eqA (neg:Bool) (ks:Pa) (x y:bE)
 |mks (sz bytes:Nat) (zs:P2) (l c:bE)
 |cpy (sz:Nat) (x y:bE)
 |clr (zs:P2) (x:bE)
 |bad
def zc(P:Program)(t:TypeId):PH:=do
 let i <- P.info? t
 let z <- i.zero
 pure (z.cells.toList.map vF)
def Jq(P:Program)(t:TypeId):Bool:=
 match P.underlying t with
 |some (.struct _)|some (.array _ _)=>true
 |_=>false
def Wn(P:Program)(t:TypeId)(parts:Array (Nat×Operand)):aF:=
 match P.underlying t,zc P t with
 |some (.struct fields),some zs=>
  match parts.toList.mapM (fun p:Nat×Operand=>(fields[p.1]?).bind fun f=>(P.info? f.type).map fun i=>(f.offset,i.size,aC p.2))with
  |some ps=>if fields.toList.all (fun f=>(P.info? f.type).isSome)then .build zs ps else .bad
  |none=>.bad
 |_,_=>.bad
def EO(P:Program)(t:TypeId):Option Nat:=
 match P.underlying t with
 |some .bool=>some 0
 |some (.int _)=>some 1
 |some .string=>some 2
 |_=>none
def St(P:Program):List Field->Nat->Option (Pa)
 |[],_=>some []
 |f::r,i=>(match(f.offset==i)&&(f.name != "_"),EO P f.type,St P r (i+1)with
  |true,some k,some ks=>some (k::ks)
  |_,_,_=>none)
def zq(P:Program)(t:TypeId)(fs:List Field)(op:BinOp)(x y:Operand):aF:=
 match St P fs 0,(P.stoodInHeld t||P.eqGuardType P.depth t),op with
 |some ks,false,.eql=>.eqA false ks (aC x) (aC y)
 |some ks,false,.neq=>.eqA true ks (aC x) (aC y)
 |_,_,_=>.bad
def Zu(P:Program)(c:Call):aF:=
 match c.callee with
 |.value f=>.call (aC f) (c.args.toList.map aC)
 |.builtin .len=>
  match c.args.toList,c.argTypes.toList with
  |[x],[t]=>(match P.underlying t with|some .string=>.lenS (aC x)|some (.slice _)=>.len (aC x)|_=>.bad)
  |_,_=>.bad
 |.builtin .min=>(match c.args.toList with|[x,y]=>.mn (aC x) (aC y)|[x,y,z]=>.mm3 false (aC x) (aC y) (aC z)|_=>.bad)
 |.builtin .max=>(match c.args.toList with|[x,y]=>.mx (aC x) (aC y)|[x,y,z]=>.mm3 true (aC x) (aC y) (aC z)|_=>.bad)
 |.builtin .append=>
  match c.args.toList,c.argTypes.toList with
  |[s,x],[t,t']=>
   (match P.underlying t,P.underlying t' with
   |some (.slice e),some (.slice e')=>
    (match P.info? e with
    |some i=>if t==t'&&((i.zero.map fun z=>(z.cells.size,z.cells.toList.all (·.oneCell')))==some (i.size,true))&&(i.size !=0)&&(i.bytes !=0)then .app i.size i.bytes (aC s) (aC x)else .bad
    |none=>.bad)
   |_,_=>.bad)
  |_,_=>.bad
 |.builtin .copy=>
  match c.args.toList,c.argTypes.toList with
  |[x,y],t::_=>(match P.underlying t with
   |some (.slice e)=>(match P.info? e with|some i=>.cpy i.size (aC x) (aC y)|none=>.bad)
   |_=>.bad)
  |_,_=>.bad
 |.builtin .clear=>
  match c.args.toList,c.argTypes.toList with
  |[x],[t]=>(match P.underlying t with
   |some (.slice e)=>(match zc P e with|some zs=>.clr zs (aC x)|none=>.bad)
   |_=>.bad)
  |_,_=>.bad
 |_=>.bad
def lI(op:BinOp)(x y:Operand):aF:=
 match op,y with
 |.eql,.const (.slice none 0 0)=>.nilS false (aC x)
 |.neq,.const (.slice none 0 0)=>.nilS true (aC x)
 |_,_=>.bad
def Qci(op:BinOp)(x y:Operand):aF:=
 match op,y with
 |.eql,.const (.pointer none)=>.nilP false (aC x)
 |.neq,.const (.pointer none)=>.nilP true (aC x)
 |_,_=>.bad
def EP(P:Program)(t:TypeId):Option (Nat×AV):=
 match P.underlying t with
 |some (.map k v)=>(match P.underlying k,P.info? v with
  |some (.int .i64),some i=>i.zero.map fun z=>(0,Ay z)
  |some (.struct fs),some i=>(match St P fs.toList 0 with
   |some ks=>if ks.all (·==1)&&(fs.size !=0)&&!(P.stoodInHeld k)then i.zero.map fun z=>(fs.size,Ay z)else none
   |none=>none)
  |_,_=>none)
 |_=>none
def tr(P:Program)(o:Oper):aF:=
 match o.op with
 |.move x|.assign x=>.mv (aC x)
 |.pick c a b=>.pick (aC c) (aC a) (aC b)
 |.alloc t=>(match zc P t with|some zs=>.alloc zs|none=>.bad)
 |.box _ x=>.box (aC x)
 |.build t parts=>Wn P t parts
 |.buildSlice t len parts=>
  (match P.underlying t with
  |some (.slice e)=>
   (match P.info? e with
   |some i=>if((i.zero.map fun z=>z.cells.size)==some i.size)&&(i.size !=0)&&decide (len*i.size<=16777216)then .bsl i.size len (parts.toList.map fun p=>(p.1,aC p.2))else .bad
   |none=>.bad)
  |_=>.bad)
 |.load t a=>(match P.info? t,P.underlying t with|some i,some _=>if Jq P t then .load true i.size (aC a)else .load false 1 (aC a)|_,_=>.bad)
 |.store t a v=>(match P.info? t with|some i=>.store i.size (aC a) (aC v)|none=>.bad)
 |.fieldAddr s x f=>
  (match P.underlying s with
  |some (.struct fields)=>
   (match fields[f]? with
   |some fl=>(match P.info? fl.type with|some i=>if i.size==0 then .bad else .faddr fl.offset (aC x)|none=>.bad)
   |none=>.bad)
  |_=>.bad)
 |.field t x f=>
  (match P.underlying t with
  |some (.struct fields)=>
   (match fields[f]? with
   |some fl=>(match P.info? fl.type,P.underlying fl.type with|some i,some _=>if Jq P fl.type then .fld true fl.offset i.size (aC x)else .fld false fl.offset 1 (aC x)|_,_=>.bad)
   |none=>.bad)
  |_=>.bad)
 |.indexAddr t x i=>
  (match P.underlying t with
  |some (.slice e)=>(match P.info? e with|some j=>.iaddr j.size (aC x) (aC i)|none=>.bad)
  |some (.array n e)=>(match P.info? e with|some j=>.iaddrA n j.size (aC x) (aC i)|none=>.bad)
  |_=>.bad)
 |.index t x i=>(match P.underlying t with
  |some .string=>.U3 (aC x) (aC i)
  |some (.array n e)=>(match P.info? e,P.underlying e with|some j,some _=>if Jq P e then .idxA true n j.size (aC x) (aC i)else(if j.size==1 then .idxA false n 1 (aC x) (aC i)else .bad)|_,_=>.bad)
  |_=>.bad)
 |.binOp op t x y _=>
  (match P.underlying t with
  |some .bool=>.binB op (aC x) (aC y)
  |some (.int _)=>.bin op (aC x) (aC y)
  |some .string=>.bin op (aC x) (aC y)
  |some (.slice _)=>lI op x y
  |some (.pointer _)=>Qci op x y
  |some (.struct fs)=>zq P t fs.toList op x y
  |_=>.bad)
 |.unOp op _ x=>.un op (aC x)
 |.convert s d x=>
  (match P.underlying s,P.underlying d with
  |some (.int _),some (.int k)=>.conv k (aC x)
  |some (.slice e),some .string=>(match P.underlying e with|some (.int .u8)=>.b2s (aC x)|_=>.bad)
  |_,_=>.bad)
 |.makeFunc (.func f) first cap=>.mkfn f (first.toList.map aC) (cap.toList.map aC)
 |.extract x i=>.ext (aC x) i
 |.nilCheck x=>.nilc (aC x)
 |.slice t x lo hi none=>(match P.underlying t with
  |some .string=>.slS (aC x) (lo.map aC) (hi.map aC)
  |some (.slice e)=>(match P.info? e with|some i=>.slL i.size (aC x) (lo.map aC) (hi.map aC)|none=>.bad)
  |some (.array n e)=>(match P.info? e with|some i=>.slA n i.size (aC x) (lo.map aC) (hi.map aC)|none=>.bad)
  |_=>.bad)
 |.lookup t x k ok=>(match EP P t with|some (kn,z)=>.look kn ok z (aC x) (aC k)|none=>.bad)
 |.mapUpdate t x k v=>(match EP P t with|some (kn,_)=>.mupd kn (aC x) (aC k) (aC v)|none=>.bad)
 |.makeMap t none=>(match EP P t with|some (kn,_)=>.mkmap kn|none=>.bad)
 |.mapEntry t x k=>(match EP P t with|some (kn,z)=>.ment kn z (aC x) (aC k)|none=>.bad)
 |.entryStore _ x s v=>.esto (aC x) (aC s) (aC v)
 |.range t x=>(match EP P t with|some _=>.rng (aC x)|none=>.bad)
 |.next x false=>.nxt (aC x)
 |.entry x=>.entr (aC x)
 |.makeSlice t l c=>
  (match P.underlying t with
  |some (.slice e)=>(match P.info? e,l with
   |some i,.const (.int .i64 0)=>(if((i.zero.map fun z=>(z.cells.size,z.cells.toList.all (·.oneCell')))==some (i.size,true))&&(i.size !=0)then .mks0 i.size i.bytes (aC c)else .bad)
   |some i,l=>(match zc P e with|some zs=>.mks i.size i.bytes zs (aC l) (aC c)|none=>.bad)
   |_,_=>.bad)
  |_=>.bad)
 |.call c=>Zu P c
 |_=>.bad
def Qx:AV->Bool
 |.bool _|.int _ _|.str _|.sl _ _|.ep _ _|.ptr _ _|.fn _ _ _|.nilfn|.yld _|.mp _|.it _|.nilv _|.bs _ _ _ _=>true
 |_=>false
def bare:AV->Bool
 |.junk|.gd _ _|.aS _|.aJ _ _|.mitr _ _ _=>false
 |_=>true
def cellsOf:AV->P2
 |.agg cs=>cs
 |a=>[a]
def aZ(sz:Nat):Nat->P2->T5
 |0,_=>[]
 |n+1,l=>l.take sz::aZ sz n (l.drop sz)
def Qaa(sz:Nat):∀(n:Nat)(l:P2),aZ sz n l=(List.range n).map fun i=>(l.drop (i*sz)).take sz
 |0,_=>rfl
 |n+1,l=>by
  rw[aZ,Qaa sz n,zzhb,zzar,zzcw];simp only[zzhk,zzdd,List.cons.injEq,true_and];refine zzcs fun i _=>?_;simp only[Function.comp,zzdr,zzhl];rw[zzfn]
def bB(m:AM):Nat->AV->AV
 |0,_=>.junk
 |d+1,a=>match a with
  |.agg cs=>.agg (cs.map (bB m d))
  |.aS cs=>.aS (cs.map (bB m d))
  |.fn f first cap=>.fn f (first.map (bB m d)) (cap.map (bB m d))
  |.sl (.own _ _) rows=>.sl .ro rows
  |.ptr id o=>.ep ((m.boxes.getD id []).map (bB m d)) o
  |.gd _ _=>.junk
  |.yld _=>.junk
  |.mp _=>.junk
  |.it _=>.junk
  |.aJ _ _=>.junk
  |.mitr _ _ _=>.junk
  |.bs id off len sz=>bif Nat.ble (off+len*sz) (m.boxes.getD id []).length then .sl .ro (aZ sz len (((m.boxes.getD id []).map (bB m d)).drop off))else .junk
  |a=>a
def Vi:Nat->AV->Bool
 |0,_=>true
 |d+1,a=>match a with
  |.agg cs=>cs.any (Vi d)
  |.aS cs=>cs.any (Vi d)
  |.fn _ first cap=>first.any (Vi d)||cap.any (Vi d)
  |.ptr _ _=>true
  |.bs _ _ _ _=>true
  |_=>false
def iL:AV->Bool
 |.bool _|.int _ _|.str _=>true
 |_=>false
def flat:AV->Bool
 |.aS cs=>cs.all iL
 |a=>iL a
def bA(P:Program)(f:FuncId):Prop:=∃fn,P.funcs[f]?=some fn/\fn.body.isNone=false/\(fn.name== "runtime.NumGoroutine")=false
def Pure(P:Program)(gl:Nat->AV)(f:FuncId)(as':P2)(r:AV):Prop:=
 bA P f/\∀(ro:Nat->Nat->Prop)(w:World)(vs:PQ),(∀g,aA w (G0 ro) (gl g) (.pointer (some ⟨g,0,none⟩)))->ak w (G0 ro) as' vs->
  Calls P f vs.toArray w fun e w'=>∃v,e=.returned v/\Below w.heap.size w w'/\aA w' (G0 fun b o=>ro b o\/w.heap.size<=b) r v
def aq8(P:Program)(gl:Nat->AV)(f:FuncId)(as':P2)(m:AM)(r:AV):Prop:=
 bA P f/\∀(N:Nat)(w0:eO)(an:Nat->Nat->Prop)(γ:G)(w:World)(B:Nat->PH)(L:Nat->Option Nat)(vs:PQ),au N w0 an γ w B L->
  (∀id cells,m.boxes[id]?=some cells->B id=some cells)->(∀g,aA w γ.cS (gl g) (.pointer (some ⟨g,0,none⟩)))->ak w γ as' vs->
  Calls P f vs.toArray w fun e w'=>∃v γ',e=.returned v/\Ev w γ w' γ'/\au N w0 an γ' w' B L/\aA w' γ' r v
def callV(P:Program)(gl:Nat->AV)(f:FuncId)(as':P2)(m:AM):AV->Prop×AV
 |.gd _ r=>(aq8 P gl f as' m r,r)
 |r=>(Pure P gl f (as'.map (bB m 6)) r/\(as'.any (Vi 6)=true->flat r=true),r)
def binI(op:BinOp)(k:IntKind)(a b:Int):Prop×AV:=
 match op with
 |.add=>(True,.int k (k.wrap (a+b)))
 |.sub=>(True,.int k (k.wrap (a-b)))
 |.mul=>(True,.int k (k.wrap (a*b)))
 |.quo=>(b≠0,.int k (k.wrap (a.tdiv b)))
 |.rem=>(b≠0,.int k (a.tmod b))
 |.eql=>(True,.bool (a==b))
 |.neq=>(True,.bool (a !=b))
 |.lss=>(True,.bool (decide (a<b)))
 |.leq=>(True,.bool (decide (a<=b)))
 |.gtr=>(True,.bool (decide (b<a)))
 |.geq=>(True,.bool (decide (b<=a)))
 |.and=>(True,.int k (k.wrap (BitVec.ofInt k.bits a&&& BitVec.ofInt k.bits b).toNat))
 |.or=>(True,.int k (k.wrap (BitVec.ofInt k.bits a|||BitVec.ofInt k.bits b).toNat))
 |.xor=>(True,.int k (k.wrap (BitVec.ofInt k.bits a ^^^ BitVec.ofInt k.bits b).toNat))
 |.andNot=>(True,.int k (k.wrap (BitVec.ofInt k.bits a&&& ~~~ BitVec.ofInt k.bits b).toNat))
 |_=>(False,.junk)
def binS(op:BinOp)(a b:ByteArray):Prop×AV:=
 match op with
 |.add=>(a.size+b.size<=9223372036854775807,.str (a++b))
 |.eql=>(True,.bool (a.toList==b.toList))
 |.neq=>(True,.bool (!(a.toList==b.toList)))
 |_=>(False,.junk)
def binV(op:BinOp)(x y:AV):Prop×AV:=
 match op with
 |.shl=>(match x,y with|.int k a,.int _ b=>(0<=b,.int k (k.wrap (a*2 ^ (min b.toNat k.bits))))|_,_=>(False,.junk))
 |.shr=>(match x,y with|.int k a,.int _ b=>(0<=b,.int k (a.fdiv (2 ^ (min b.toNat k.bits))))|_,_=>(False,.junk))
 |op=>match x,y with
  |.int k a,.int k' b=>(k=k'/\(binI op k a b).1,(binI op k a b).2)
  |.str a,.str b=>binS op a b
  |_,_=>(False,.junk)
def binBool(op:BinOp)(x y:AV):Prop×AV:=
 match op,x,y with
 |.eql,.bool a,.bool b=>(True,.bool (a==b))
 |.neq,.bool a,.bool b=>(True,.bool (!(a==b)))
 |_,_,_=>(False,.junk)
def isB:AV->Bool
 |.bool _=>true
 |_=>false
def bOf:AV->Bool
 |.bool b=>b
 |_=>false
def JC:AV->Option (Bool×Bool)
 |.bool b=>some (true,b)
 |.gd g a=>some (bif g then isB a else false,bOf a)
 |_=>none
def Qda(cs:P2):List (Nat×Nat×AV)->Prop×P2
 |[]=>(True,cs)
 |(off,size,a)::r=>let q:=Qda (setA cs off (cellsOf a)) r;(bare a=true/\(cellsOf a).length=size/\off+size<=cs.length/\q.1,q.2)
def Vk(agg:Bool)(n:Nat)(cs:P2):Prop×AV:=((cs.take n).length=n/\(agg=false->n=1),if agg then .agg (cs.take n)else cs.getD 0 .junk)
def intsA:P2->Option (Pi)
 |[]=>some []
 |.int .i64 n::r=>(match intsA r with|some ns=>some (n::ns)|none=>none)
 |_=>none
def keyA:Nat->AV->Option (Pi)
 |0,.int .i64 n=>some [n]
 |kn+1,.agg cs=>(match intsA cs with|some ns=>if ns.length=kn+1 then some ns else none|none=>none)
 |_,_=>none
def keyAV:Nat->Pi->AV
 |0,[n]=>.int .i64 n
 |0,_=>.junk
 |_+1,ns=>.agg (ns.map (AV.int .i64))
def Xh(n:Pi):List (Pi×AV)->Nat->Option (Nat×AV)
 |[],_=>none
 |(k,a)::r,i=>if n=k then some (i,a)else Xh n r (i+1)
def byteOf:P2->Option UInt8
 |[.int .u8 n]=>some (UInt8.ofNat n.toNat)
 |_=>none
def Ju:T5->Option (List UInt8)
 |[]=>some []
 |r::rs=>(match byteOf r,Ju rs with|some b,some l=>some (b::l)|_,_=>none)
def kindF:Nat->AV->AV->Bool
 |0,.bool _,.bool _=>true
 |1,.int k _,.int k' _=>decide (k=k')
 |2,.str _,.str _=>true
 |_,_,_=>false
def eqF:AV->AV->Bool
 |.bool a,.bool b=>a==b
 |.int _ a,.int _ b=>a==b
 |.str a,.str b=>a.toList==b.toList
 |_,_=>false
def Qbf:Pa->P2->P2->Bool
 |[],[],[]=>true
 |k::ks,a::as',b::bs=>kindF k a b&&Qbf ks as' bs
 |_,_,_=>false
def eqFs:P2->P2->Bool
 |a::as',b::bs=>eqF a b&&eqFs as' bs
 |_,_=>true
def loOf:Option AV->Option Int
 |none=>some 0
 |some (.int _ l)=>some l
 |_=>none
def hiOf(n:Nat):Option AV->Option Int
 |none=>some n
 |some (.int _ h)=>some h
 |_=>none
def bF:Nat->P2->P2
 |0,_=>[]
 |n+1,zs=>zs++bF n zs
def cellsS(m:AM)(sz:Nat):AV->Prop×P2
 |.sl _ rows=>((∀row∈rows,row.length=sz),rows.flatten)
 |.bs id off len dy=>(dy=sz/\off+len*sz<=(m.boxes.getD id []).length/\id<m.boxes.length,((m.boxes.getD id []).drop off).take (len*sz))
 |_=>(False,[])
def lenS:AV->Nat
 |.sl _ rows=>rows.length
 |.bs _ _ len _=>len
 |_=>0
def mutO(orc:UV)(dst:Option Nat):Bool:=match orc (dst.getD 0) 999999 []with
 |.aJ _ []=>true
 |_=>false
def Jj:Rt->Bool
 |.full|.nil=>true
 |_=>false
def Px(big:Bool)(a b:Int):Int:=if big=true then(if a<b then b else a)else(if b<a then b else a)
def rop(P:Program)(gl:Nat->AV)(orc:UV)(e:bE->AV)(m:AM)(dst:Option Nat):aF->Prop×AV
 |.mv x=>(True,e x)
 |.pick c a b=>(match JC (e c),JC (e a),JC (e b)with
  |some (g0,c),some (g1,x),some (g2,y)=>(g0=true/\(c=true->g1=true)/\(c=false->g2=true),.bool (bif c then x else y))
  |_,_,_=>(False,.junk))
 |.build zs parts=>let q:=Qda zs (parts.map fun p=>(p.1,p.2.1,e p.2.2));(q.1,.agg q.2)
 |.bsl sz len parts=>let q:=Qda (List.replicate (len*sz) .junk) (parts.map fun p=>(p.1*sz,sz,e p.2));
  (q.1/\q.2.all Qx=true/\q.2.any (Vi 6)=false,.sl .full (aZ sz len (q.2.map (bB m 6))))
 |.load agg n x=>(match e x with
  |.ptr id o=>Vk agg n ((m.boxes.getD id []).drop o)
  |.ep row o=>Vk agg n (row.drop o)
  |_=>(False,.junk))
 |.faddr off x=>(match e x with
  |.ptr id o=>(True,.ptr id (o+off))
  |.ep row o=>(True,.ep row (o+off))
  |_=>(False,.junk))
 |.fld agg off n x=>(match e x with
  |.agg cs=>Vk agg n (cs.drop off)
  |_=>(False,.junk))
 |.iaddr sz x i=>(match e x,e i with
  |.sl _ rows,.int _ i=>((0<=i/\i<rows.length)/\(rows.getD i.toNat []).length=sz,.ep (rows.getD i.toNat []) 0)
  |.bs id off len dy,.int _ i=>((0<=i/\i<len)/\dy=sz,.ptr id (off+i.toNat*sz))
  |_,_=>(False,.junk))
 |.iaddrA len sz x i=>(match e x,e i with
  |.ptr id o,.int _ i=>(0<=i/\i<len,.ptr id (o+i.toNat*sz))
  |.ep row o,.int _ i=>(0<=i/\i<len,.ep row (o+i.toNat*sz))
  |_,_=>(False,.junk))
 |.U3 x i=>(match e x,e i with
  |.str s,.int _ i=>(0<=i/\i<s.size,.int .u8 (s.data.toList.getD i.toNat 0).toNat)
  |_,_=>(False,.junk))
 |.idxA agg n sz x i=>(match e x,e i with
  |.agg cs,.int _ i=>((0<=i/\i<n)/\(Vk agg sz (cs.drop (i.toNat*sz))).1,(Vk agg sz (cs.drop (i.toNat*sz))).2)
  |_,_=>(False,.junk))
 |.bin op x y=>binV op (e x) (e y)
 |.binB op x y=>binBool op (e x) (e y)
 |.un op x=>(match op,e x with
  |.not,.bool b=>(True,.bool (!b))
  |.neg,.int k n=>(True,.int k (k.wrap (0-n)))
  |.xor,.int k n=>(True,.int k (k.wrap (BitVec.ofInt k.bits (if k.signed then -1 else k.max) ^^^ BitVec.ofInt k.bits n).toNat))
  |_,_=>(False,.junk))
 |.conv k x=>(match e x with
  |.int _ n=>(True,.int k (k.wrap n))
  |_=>(False,.junk))
 |.len x=>(match e x with
  |.sl _ rows=>(True,.int .i64 rows.length)
  |.bs _ _ len _=>(True,.int .i64 len)
  |_=>(False,.junk))
 |.lenS x=>(match e x with
  |.str s=>(True,.int .i64 s.size)
  |_=>(False,.junk))
 |.mn x y=>(match e x,e y with
  |.int k a,.int _ b=>(True,.int k (if b<a then b else a))
  |_,_=>(False,.junk))
 |.mx x y=>(match e x,e y with
  |.int k a,.int _ b=>(True,.int k (if a<b then b else a))
  |_,_=>(False,.junk))
 |.mm3 big x y z=>(match e x,e y,e z with
  |.int k a,.int _ b,.int _ c=>(True,.int k (Px big (Px big a b) c))
  |_,_,_=>(False,.junk))
 |.mkfn f first cap=>(True,.fn f (first.map e) (cap.map e))
 |.ext x i=>(match e x with
  |.aS vs=>(i<vs.length,vs.getD i .junk)
  |_=>(False,.junk))
 |.call f args=>(match e f with
  |.fn f first cap=>callV P gl f (first++args.map e++cap) m (orc (dst.getD 0) f ((first++args.map e++cap).map (bB m 6)))
  |_=>(False,.junk))
 |.app sz bytes s x=>(match e s,e x with
  |.sl rt rows,.sl _ aq=>(Jj rt=true/\(∀row∈rows++aq,row.length=sz)/\(3*(rows.length+aq.length)+4000)*bytes<=562949953421312,.sl .ro (rows++aq))
  |_,_=>(False,.junk))
 |.slS x lo hi=>(match e x,lo.map e,hi.map e with
  |.str s,some (.int _ l),some (.int _ h)=>(0<=l/\l<=h/\h<=s.size,.str (s.extract l.toNat h.toNat))
  |.str s,none,some (.int _ h)=>(0<=h/\h<=s.size,.str (s.extract 0 h.toNat))
  |.str s,some (.int _ l),none=>(0<=l/\l<=s.size,.str (s.extract l.toNat s.size))
  |_,_,_=>(False,.junk))
 |.nilc x=>(match e x with
  |.ptr id o=>(True,.ptr id o)
  |.ep row o=>(True,.ep row o)
  |.fn f first cap=>(True,.fn f first cap)
  |_=>(False,.junk))
 |.nilS neg x=>(match e x with
  |.sl .nil _=>(True,.bool (!neg))
  |.sl .nn _=>(True,.bool neg)
  |.sl _ (_::_)=>(True,.bool neg)
  |.bs _ _ _ _=>(True,.bool neg)
  |_=>(False,.junk))
 |.nilP neg x=>(match e x with
  |.ptr _ _=>(True,.bool neg)
  |.ep _ _=>(True,.bool neg)
  |.nilv true=>(True,.bool (!neg))
  |_=>(False,.junk))
 |.b2s x=>(match e x with
  |.sl _ rows=>(match Ju rows with
   |some l=>(True,.str ⟨l.toArray⟩)
   |none=>(False,.junk))
  |.bs id off len sz=>(match Ju (aZ 1 len ((m.boxes.getD id []).drop off))with
   |some l=>(sz=1/\off+len<=(m.boxes.getD id []).length,.str ⟨l.toArray⟩)
   |none=>(False,.junk))
  |_=>(False,.junk))
 |.eqA neg ks x y=>(match e x,e y with
  |.agg xs,.agg ys=>(Qbf ks xs ys=true,.bool (if neg then !(eqFs xs ys)else eqFs xs ys))
  |_,_=>(False,.junk))
 |.slL sz x lo hi=>(match e x with
  |.sl _ rows=>(match loOf (lo.map e),hiOf rows.length (hi.map e)with
   |some l,some h=>((0<=l/\l<=h/\h<=rows.length)/\∀row∈rows,row.length=sz,.sl .ro ((rows.drop l.toNat).take (h.toNat-l.toNat)))
   |_,_=>(False,.junk))
  |.bs id off len dy=>(match loOf (lo.map e),hiOf len (hi.map e)with
   |some l,some h=>((0<=l/\l<=h/\h<=len)/\dy=sz,if l<h\/l=0 then .bs id (off+l.toNat*sz) (h.toNat-l.toNat) sz else .sl .nn [])
   |_,_=>(False,.junk))
  |_=>(False,.junk))
 |.slA n sz x lo hi=>(match e x with
  |.ptr id o=>(match loOf (lo.map e),hiOf n (hi.map e)with
   |some l,some h=>((0<=l/\l<=h/\h<=n)/\o+n*sz<=(m.boxes.getD id []).length/\id<m.boxes.length,if l<h\/l=0 then .bs id (o+l.toNat*sz) (h.toNat-l.toNat) sz else .sl .nn [])
   |_,_=>(False,.junk))
  |_=>(False,.junk))
 |.look kn ok z x k=>(match e x,keyA kn (e k)with
  |.mp id,some n=>(match m.boxes.getD id []with
   |[.aJ sg kvs]=>(sg=kn,(match Xh n kvs 0 with
    |some (_,a)=>(if ok then .aS [a,.bool true]else a)
    |none=>(if ok then .aS [z,.bool false]else z)))
   |_=>(False,.junk))
  |_,_=>(False,.junk))
 |.entr x=>(match e x with
  |.it id=>(match m.boxes.getD id []with
   |[.mitr mid n seen]=>(match m.boxes.getD mid [],seen.getLast? with
    |[.aJ kn kvs],some i=>(kvs.length=n/\i<n,.aS [keyAV kn (kvs.getD i ([],.junk)).1,(kvs.getD i ([],.junk)).2])
    |_,_=>(False,.junk))
   |_=>(False,.junk))
  |_=>(False,.junk))
 |_=>(False,.junk)
def sop(P:Program)(gl:Nat->AV)(orc:UV)(e:bE->AV)(m:AM)(dst:Option Nat)(so:aF):Prop×AV×AM:=
 match so with
 |.alloc zs=>(zs.all Qx=true,.ptr m.boxes.length 0,{m with boxes:=m.boxes++[zs]})
 |.box x=>(bare (e x)=true/\(cellsOf (e x)).all Qx=true,.ptr m.boxes.length 0,{m with boxes:=m.boxes++[cellsOf (e x)]})
 |.store n x v=>(match e x with
  |.ptr id o=>(bare (e v)=true/\(cellsOf (e v)).all Qx=true/\(cellsOf (e v)).length=n/\o+n<=(m.boxes.getD id []).length/\id<m.boxes.length,
    .junk,{m with boxes:=m.boxes.set id (setA (m.boxes.getD id []) o (cellsOf (e v)))})
  |_=>(False,.junk,m))
 |.app sz bytes s x=>(match e s,e x with
  |.sl (.own id dy) rows,.sl _ aq=>(dy=sz/\m.lens[id]?=some rows.length/\(∀row∈rows++aq,row.length=sz)/\(3*(rows.length+aq.length)+4000)*bytes<=562949953421312,
    .sl (.own id sz) (rows++aq),{m with lens:=m.lens.set id (rows.length+aq.length)})
  |.bs id off len dy,y=>(((dy=sz/\off=0/\id<m.boxes.length/\m.boxes.getD id []≠[]/\len*sz<=(m.boxes.getD id []).length)/\(3*(len+lenS y)+4000)*bytes<=562949953421312)/\(cellsS m sz y).1,
    .bs m.boxes.length 0 (len+lenS y) sz,{m with boxes:=m.boxes.set id []++[(m.boxes.getD id []).take (len*sz)++(cellsS m sz y).2]})
  |.sl (.own id dy) rows,.bs gI gi ct sz2=>((dy=sz/\sz2=sz)/\m.lens[id]?=some rows.length/\(∀row∈rows,row.length=sz)/\(3*(rows.length+ct)+4000)*bytes<=562949953421312/\gi+ct*sz<=(m.boxes.getD gI []).length/\gI<m.boxes.length/\(m.boxes.getD gI []).all Qx=true/\(m.boxes.getD gI []).any (Vi 6)=false,
    .sl (.own id sz) (rows++aZ sz ct (((m.boxes.getD gI []).map (bB m 6)).drop gi)),{m with lens:=m.lens.set id (rows.length+ct)})
  |.sl rt rows,y=>if mutO orc dst=true then(if lenS y=0 then((cellsS m sz y).1,.sl rt rows,m)else((Jj rt=true/\lenS y≠0/\(∀row∈rows,row.length=sz)/\(3*(rows.length+lenS y)+4000)*bytes<=562949953421312)/\(cellsS m sz y).1,
    .bs m.boxes.length 0 (rows.length+lenS y) sz,{m with boxes:=m.boxes++[rows.flatten++(cellsS m sz y).2]}))
   else(match y with
   |.sl _ aq=>(Jj rt=true/\(∀row∈rows++aq,row.length=sz)/\(3*(rows.length+aq.length)+4000)*bytes<=562949953421312,
    .sl (.own m.lens.length sz) (rows++aq),{m with lens:=m.lens++[rows.length+aq.length]})
   |.bs gI gi ct sz2=>((Jj rt=true/\sz2=sz)/\(∀row∈rows,row.length=sz)/\(3*(rows.length+ct)+4000)*bytes<=562949953421312/\gi+ct*sz<=(m.boxes.getD gI []).length/\gI<m.boxes.length/\(m.boxes.getD gI []).all Qx=true/\(m.boxes.getD gI []).any (Vi 6)=false,
    .sl (.own m.lens.length sz) (rows++aZ sz ct (((m.boxes.getD gI []).map (bB m 6)).drop gi)),{m with lens:=m.lens++[rows.length+ct]})
   |_=>(False,.junk,m))
  |_,_=>(False,.junk,m))
 |.bsl sz len parts=>if mutO orc dst=true then let q:=Qda (List.replicate (len*sz) .junk) (parts.map fun p=>(p.1*sz,sz,e p.2));
   (q.1/\q.2.all Qx=true,.bs m.boxes.length 0 len sz,{m with boxes:=m.boxes++[q.2]})
  else((rop P gl orc e m dst (.bsl sz len parts)).1,(rop P gl orc e m dst (.bsl sz len parts)).2,m)
 |.mks sz bytes zs l c=>(match e l,e c with
  |.int _ l,.int _ c=>((0<=l/\l<=c/\bytes*c<=281474976710656/\c<=9223372036854775807)/\zs.length=sz/\zs.all Qx=true,.bs m.boxes.length 0 l.toNat sz,{m with boxes:=m.boxes++[bF c.toNat zs]})
  |_,_=>(False,.junk,m))
 |.cpy sz x y=>(match e x with
  |.bs id off len dy=>(match e y with
   |.str s=>((dy=1/\sz=1)/\id<m.boxes.length/\off+len<=(m.boxes.getD id []).length/\m.boxes.getD id []≠[],.int .i64 (min s.size len:Nat),{m with boxes:=m.boxes.set id (setA (m.boxes.getD id []) off ((s.data.toList.take len).map fun b=>.int .u8 b.toNat))})
   |y=>(dy=sz/\(cellsS m sz y).1/\id<m.boxes.length/\off+len*sz<=(m.boxes.getD id []).length/\m.boxes.getD id []≠[],.int .i64 (min (lenS y) len:Nat),{m with boxes:=m.boxes.set id (setA (m.boxes.getD id []) off ((cellsS m sz y).2.take (len*sz)))}))
  |_=>(False,.junk,m))
 |.clr zs x=>(match e x with
  |.bs id off len dy=>((dy=zs.length/\zs.all Qx=true)/\id<m.boxes.length/\off+len*zs.length<=(m.boxes.getD id []).length/\m.boxes.getD id []≠[],.aS [],{m with boxes:=m.boxes.set id (setA (m.boxes.getD id []) off (bF len zs))})
  |.sl _ []=>(True,.aS [],m)
  |_=>(False,.junk,m))
 |.mkmap kn=>(True,.mp m.boxes.length,{m with boxes:=m.boxes++[[.aJ kn []]]})
 |.mupd kn x k v=>(match e x,keyA kn (e k)with
  |.mp id,some n=>(match m.boxes.getD id []with
   |[.aJ sg kvs]=>(sg=kn/\bare (e v)=true,.junk,{m with boxes:=m.boxes.set id [.aJ kn (match Xh n kvs 0 with
    |some (i,_)=>kvs.set i (n,e v)
    |none=>kvs++[(n,e v)])]})
   |_=>(False,.junk,m))
  |_,_=>(False,.junk,m))
 |.ment kn z x k=>(match e x,keyA kn (e k)with
  |.mp id,some n=>(match m.boxes.getD id []with
   |[.aJ sg kvs]=>(sg=kn,(match Xh n kvs 0 with
    |some (i,c)=>.aS [c,.int .i64 i]
    |none=>.aS [z,.int .i64 kvs.length]),{m with boxes:=m.boxes.set id [.aJ kn (match Xh n kvs 0 with
    |some _=>kvs
    |none=>kvs++[(n,z)])]})
   |_=>(False,.junk,m))
  |_,_=>(False,.junk,m))
 |.esto x s v=>(match e x,e s with
  |.mp id,.int _ i=>(match m.boxes.getD id []with
   |[.aJ kn kvs]=>((0<=i/\i<kvs.length)/\bare (e v)=true,.junk,{m with boxes:=m.boxes.set id [.aJ kn (kvs.set i.toNat ((kvs.getD i.toNat ([],.junk)).1,e v))]})
   |_=>(False,.junk,m))
  |_,_=>(False,.junk,m))
 |.rng x=>(match e x with
  |.mp id=>(match m.boxes.getD id []with
   |[.aJ _ kvs]=>(True,.it m.boxes.length,{m with boxes:=m.boxes++[[.mitr id kvs.length []]]})
   |_=>(False,.junk,m))
  |_=>(False,.junk,m))
 |.mks0 sz bytes c=>(match e c with
  |.int _ c=>if mutO orc dst=true then(if c.toNat=0 then(0<=c/\bytes*c<=281474976710656/\c<=9223372036854775807,.sl .full [],{m with boxes:=m.boxes++[[]]})
    else(0<=c/\bytes*c<=281474976710656/\c<=9223372036854775807,.bs m.boxes.length 0 0 sz,{m with boxes:=m.boxes++[List.replicate (c.toNat*sz) .junk]}))
   else(0<=c/\bytes*c<=281474976710656/\c<=9223372036854775807,.sl (.own m.lens.length sz) [],{m with lens:=m.lens++[0]})
  |_=>(False,.junk,m))
 |so=>((rop P gl orc e m dst so).1,(rop P gl orc e m dst so).2,m)
end Go.Abs
