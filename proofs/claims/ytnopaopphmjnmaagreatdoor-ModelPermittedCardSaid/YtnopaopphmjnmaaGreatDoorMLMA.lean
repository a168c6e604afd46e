import Derived.WalkLawsBesides
import Derived.WalkSpells
import Derived.OrdersIn
import Derived.RangeFuncRecord
set_option linter.all false
namespace Go
def zza:=@List.getElem?_eq_some_iff
def zzaa:=@Nat.lt_or_ge
def zzab:=@Nat.le_refl
def zzac:=@List.getElem?_eq_getElem
def zzad:=@List.mem_of_getElem?
def zzae:=@List.cons_append
def zzaf:=@List.drop_eq_getElem_cons
def zzag:=@List.getElem?_append_left
def zzah:=@List.length_append
def zzai:=@List.nil_append
def zzaj:=@Array.getElem?_eq_getElem
def zzak:=@Bool.and_eq_true
def zzal:=@List.getElem?_append_right
def zzam:=@List.drop_eq_nil_of_le
def zzan:=@Nat.add_assoc
def zzao:=@List.mem_append
def zzap:=@List.take_of_length_le
def zzaq:=@List.length_take
def zzar:=@List.getD_eq_getElem?_getD
def zzas:=@List.take_add_one
def zzat:=@List.mem_cons
def zzau:=@List.append_nil
def zzav:=@List.eq_nil_of_length_eq_zero
def zzaw:=@List.append_assoc
def zzax:=@List.mem_map
def zzay:=@List.getElem?_eq_none
def zzaz:=@List.map_cons
def zzb:=@List.getElem?_set_self
def zzba:=@Nat.mul_le_mul_right
def zzbb:=@List.length_cons
def zzbc:=@Nat.lt_of_lt_of_le
def zzbd:=@List.mem_singleton
def zzbe:=@List.getElem?_set_ne
def zzbf:=@List.mem_range
def zzbg:=@List.length_map
def zzbh:=@List.all_eq_true
def zzbi:=@Array.length_toList
def zzbj:=@List.getElem?_take
def zzbk:=@List.getElem?_drop
def zzbl:=@List.getElem?_map
def zzbm:=@Nat.not_lt
def zzbn:=@Nat.le_trans
def zzbo:=@List.drop_length
def zzbp:=@Nat.add_mul
def zzbq:=@Bool.false_eq_true
def zzbr:=@List.length_filter_le
def zzbs:=@List.take_length
def zzbt:=@Bool.eq_iff_iff
def zzbu:=@Int.le_refl
def zzbv:=@Nat.zero_add
def zzbw:=@Array.getElem?_eq_some_iff
def zzbx:=@List.pairwise_cons
def zzby:=@List.mem_iff_getElem?
def zzbz:=@List.any_eq_true
def zzc:=@List.map_append
def zzca:=@List.mem_of_mem_take
def zzcb:=@List.length_eq_zero_iff
def zzcc:=@Nat.zero_le
def zzcd:=@Array.getElem?_toList
def zzce:=@Option.map_eq_some_iff
def zzcf:=@List.map_nil
def zzcg:=@Option.bind_some
def zzch:=@List.length_nil
def zzci:=@List.length_set
def zzcj:=@Option.isSome_iff_exists
def zzck:=@List.mem_filter
def zzcl:=@List.flatten_cons
def zzcm:=@List.ext_getElem?
def zzcn:=@Nat.eq_zero_or_pos
def zzco:=@Int.tdiv_eq_ediv_of_nonneg
def zzcp:=@List.getElem?_replicate
def zzcq:=@Nat.add_zero
def zzcr:=@List.length_drop
def zzcs:=@List.set_append_right
def zzct:=@Array.getElem?_eq_none
def zzcu:=@List.filter_append
def zzcv:=@Option.map_some
def zzcw:=@List.length_pos_iff
def zzcx:=@List.getElem?_set
def zzcy:=@List.map_map
def zzcz:=@List.foldl_cons
def zzd:=@List.map_congr_left
def zzda:=@Array.mem_of_getElem?
def zzdb:=@List.take_append_drop
def zzdc:=@List.getElem?_cons_succ
def zzdd:=@Array.getElem?_setIfInBounds_ne
def zzde:=@List.drop_zero
def zzdf:=@List.flatMap_cons
def zzdg:=@List.zip_cons_cons
def zzdh:=@Array.toList_setIfInBounds
def zzdi:=@List.getElem_mem
def zzdj:=@Nat.testBit_eq_decide_div_mod_eq
def zzdk:=@List.pairwise_iff_getElem
def zzdl:=@Nat.one_mul
def zzdm:=@List.mem_of_mem_drop
def zzdn:=@Nat.sub_self
def zzdo:=@Bool.true_and
def zzdp:=@List.drop_append_of_le_length
def zzdq:=@Nat.add_sub_cancel_left
def zzdr:=@List.filter_cons_of_pos
def zzds:=@List.drop_drop
def zzdt:=@List.nodup_range
def zzdu:=@List.filter_cons
def zzdv:=@List.flatMap_nil
def zzdw:=@List.set_cons_succ
def zzdx:=@List.length_replicate
def zzdy:=@List.singleton_append
def zzdz:=@List.length_singleton
def zze:=@Nat.mod_lt
def zzea:=@List.mem_of_find?_eq_some
def zzeb:=@Int.mul_nonneg
def zzec:=@Nat.mul_comm
def zzed:=@List.ext_getElem
def zzee:=@List.not_mem_nil
def zzef:=@List.getElem?_range
def zzeg:=@List.flatten_append
def zzeh:=@List.take_succ_cons
def zzei:=@Array.eq_empty_of_size_eq_zero
def zzej:=@List.zip_nil_right
def zzek:=@List.size_toArray
def zzel:=@Array.size_append
def zzem:=@List.any_eq_false
def zzen:=@Array.getElem?_modify
def zzeo:=@Array.getElem?_setIfInBounds
def zzep:=@List.length_mergeSort
def zzeq:=@List.dropLast_concat_getLast
def zzer:=@List.eq_nil_or_concat
def zzes:=@List.concat_eq_append
def zzet:=@Nat.div_eq_of_lt
def zzeu:=@Bool.or_eq_false_iff
def zzev:=@Nat.pow_le_pow_right
def zzew:=@List.pairwise_append
def zzex:=@List.mem_cons_of_mem
def zzey:=@Array.getElem?_append_left
def zzez:=@List.exists_cons_of_ne_nil
def zzf:=@List.replicate_succ
def zzfa:=@List.getLast?_eq_some_iff
def zzfb:=@List.range_succ
def zzfc:=@List.getLast?_eq_getElem?
def zzfd:=@List.all_append
def zzfe:=@List.find?_cons
def zzff:=@Nat.add_comm
def zzfg:=@Nat.sub_zero
def zzfh:=@List.mem_filterMap
def zzfi:=@List.map_set
def zzfj:=@Int.lt_or_le
def zzfk:=@List.drop_left
def zzfl:=@List.filter_cons_of_neg
def zzfm:=@Nat.lt_trichotomy
def zzfn:=@List.filter_eq_nil_iff
def zzfo:=@ByteArray.size_extract
def zzfp:=@List.mem_reverse
def zzfq:=@List.countP_le_length
def zzfr:=@List.getElem?_zipWith
def zzfs:=@Array.toList_extract
def zzft:=@Nat.min_eq_left
def zzfu:=@List.drop_eq_nil_iff
def zzfv:=@List.range_eq_range'
def zzfw:=@List.set_append_left
def zzfx:=@List.getElem?_of_mem
def zzfy:=@List.dropLast_concat
def zzfz:=@Int.mul_le_mul_of_nonneg_left
def zzg:=@List.getElem_of_mem
def zzga:=@List.take_set_of_le
def zzgb:=@List.drop_set_of_lt
def zzgc:=@List.filter_eq_self
def zzgd:=@List.mergeSort_perm
def zzge:=@Int.toNat_of_nonneg
def zzgf:=@Nat.le_zero
def zzgg:=@Array.getElem?_map
def zzgh:=@Option.toList_some
def zzgi:=@Nat.add_sub_cancel
def zzgj:=@Array.ext_getElem?
def zzgk:=@List.map_drop
def zzgl:=@Int.fdiv_eq_ediv_of_nonneg
def zzgm:=@Bool.and_true
def zzgn:=@List.perm_ext_iff_of_nodup
def zzgo:=@List.foldl_append
def zzgp:=@Bool.not_eq_false
def zzgq:=@Int.toNat_natCast
def zzgr:=@List.mem_or_eq_of_mem_set
def zzgs:=@List.getElem?_zip_eq_some
def zzgt:=@List.getElem?_eq_none_iff
def zzgu:=@List.getLast?_eq_none_iff
def zzgv:=@Nat.mod_eq_of_lt
def zzgw:=@Nat.min_eq_right
def zzgx:=@List.range'_succ
def zzgy:=@Nat.le_add_right
def zzgz:=@List.mem_flatMap
def zzh:=@List.length_filterMap_le
def zzha:=@Option.getD_some
def zzhb:=@List.pairwise_mergeSort
def zzhc:=@Int.eq_ofNat_of_zero_le
def zzhd:=@List.pairwise_singleton
def zzhe:=@Nat.div_add_mod
def zzhf:=@Bool.or_eq_true
def zzhg:=@List.find?_some
def zzhh:=@List.range_succ_eq_map
def zzhi:=@Nat.min_def
def zzhj:=@List.append_eq_nil_iff
def zzhk:=@ByteArray.append_assoc
def zzhl:=@Nat.le_of_ble_eq_true
def zzhm:=@List.mapM_cons
def zzhn:=@Array.mem_iff_getElem
def zzho:=@List.take_zero
def zzhp:=@Array.getElem?_mapIdx
def zzhq:=@Nat.zero_mul
def zzhr:=@Nat.succ_mul
def zzhs:=@Nat.le_total
def zzht:=@Int.le_trans
def zzhu:=@Nat.pow_succ
end Go
namespace Go.Abs
open Go Go.RowKit
inductive Rt where
 |ro
 |full
 |nil
 |nn
 |own (id sz:Nat)
inductive AV where
 |junk
 |bool (b:Bool)
 |int (k:IntKind) (n:Int)
 |str (s:ByteArray)
 |agg (cs:List AV)
 |aW (vs:List AV)
 |sl (rt:Rt) (rows:List (List AV))
 |ep (row:List AV) (o:Nat)
 |ptr (id o:Nat)
 |fn (f:FuncId) (first cap:List AV)
 |nilfn
 |yld (l:Nat)
 |mp (id:Nat)
 |nilv (p:Bool)
 |aJ (kn:Nat) (kvs:List (List Int×AV))
 |it (id:Nat)
 |mitr (mid n:Nat) (seen:List Nat)
 |bs (id off len sz:Nat)
 |gd (g:Bool) (a:AV)
structure G where
 β:Nat->Option Nat
 own:Nat->Option Nat
 cur:Nat->Nat
 ro:Nat->Nat->Prop
 sp:Nat->Prop
 mm:Nat->Option Nat
 lp:Nat->Option Nat
def G.cT(γ:G):G:={β:=fun _=>none,own:=fun _=>none,cur:=fun _=>0,ro:=γ.ro,sp:=fun _=>False,mm:=fun _=>none,lp:=fun _=>none}
def G0(ro:Nat->Nat->Prop):G:={β:=fun _=>none,own:=fun _=>none,cur:=fun _=>0,ro:=ro,sp:=fun _=>False,mm:=fun _=>none,lp:=fun _=>none}
theorem VN(ro:Nat->Nat->Prop):(G0 ro).cT=G0 ro:=rfl
def Qt(rows:List (List AV))(i j:Nat):Option AV:=(rows[i]?).bind (·[j]?)
def mw(w:World)(γ:G)(a:Option Addr)(id len cap sz:Nat):Prop:=
 ∃b off arr e,a=some ⟨b,off,none⟩/\γ.own id=some b/\w.heap[b]?=some (.cells arr e (0,0))/\off+cap*sz<=arr.size/\
  ∀o,off+len*sz<=o->¬γ.ro b o
def tF(w:World)(γ:G)(a:Option Addr)(len cap sz:Nat):Rt->Prop
 |.ro=>True
 |.full=>cap=len
 |.nil=>a=none
 |.nn=>a≠none
 |.own id gz=>gz=sz/\len<=γ.cur id/\(len=γ.cur id->cap=len\/mw w γ a id len cap sz)
inductive aB (w:World):G->AV->Value->Prop
 |junk {γ:G} (v:Value):aB w γ .junk v
 |gd {γ:G} {g:Bool} {a:AV} {v:Value} (h:g=true->aB w γ a v) (h':g=false->v=undef):aB w γ (.gd g a) v
 |bool {γ:G} (b:Bool):aB w γ (.bool b) (.bool b)
 |int {γ:G} (k:IntKind) (n:Int):aB w γ (.int k n) (.int k n)
 |str {γ:G} (s:ByteArray):aB w γ (.str s) (.string s)
 |nilfn {γ:G}:aB w γ .nilfn .nilFunc
 |nilv {γ:G} (p:Bool):aB w γ (.nilv p) (bif p then .pointer none else .map none)
 |yld {γ:G} {i l:Nat} (h:γ.lp i=some l):aB w γ (.yld i) (.func (.yield l) #[] #[])
 |mp {γ:G} {id b:Nat} (h:γ.mm id=some b):aB w γ (.mp id) (.map (some b))
 |it {γ:G} {id b:Nat} (h:γ.mm id=some b):aB w γ (.it id) (.pointer (some ⟨b,0,none⟩))
 |agg {γ:G} {cs:List AV} {arr:Array Value} (hl:cs.length=arr.size) (h:∀(i:Nat)(c:AV)(v:Value),cs[i]?=some c->arr[i]?=some v->aB w γ c v):aB w γ (.agg cs) (.agg arr)
 |aW {γ:G} {cs:List AV} {arr:Array Value} (hl:cs.length=arr.size) (h:∀(i:Nat)(c:AV)(v:Value),cs[i]?=some c->arr[i]?=some v->aB w γ c v):aB w γ (.aW cs) (.tuple arr)
 |fn {γ:G} {f:FuncId} {first cap:List AV} {fa ca:Array Value} (hl:first.length=fa.size) (h:∀(i:Nat)(c:AV)(v:Value),first[i]?=some c->fa[i]?=some v->aB w γ c v)
   (ey:cap.length=ca.size) (h':∀(i:Nat)(c:AV)(v:Value),cap[i]?=some c->ca[i]?=some v->aB w γ c v):aB w γ (.fn f first cap) (.func (.func f) fa ca)
 |ptr {γ:G} {id o b:Nat} (h:γ.β id=some b):aB w γ (.ptr id o) (.pointer (some ⟨b,o,none⟩))
 |ep {γ:G} {row:List AV} {o b off:Nat} (cv:Nat->Value) (hb:b<w.heap.size)
   (hc:∀(j:Nat)(c:AV),row[j]?=some c->w.cell? ⟨b,off+j,none⟩=some (cv j)/\γ.ro b (off+j)/\(cv j).oneCell'=true)
   (h:∀(j:Nat)(c:AV),row[j]?=some c->aB w γ.cT c (cv j)):aB w γ (.ep row o) (.pointer (some ⟨b,off+o,none⟩))
 |bs {γ:G} {id off len sz cap b:Nat} {arr:Array Value} {e:TypeId} (h:γ.β id=some b) (hl:len<=cap) (hh:w.heap[b]?=some (.cells arr e (0,0))) (hs:off+cap*sz<=arr.size):
   aB w γ (.bs id off len sz) (.slice (some ⟨b,off,none⟩) len cap)
 |sl {γ:G} {rt:Rt} {rows:List (List AV)} {a:Option Addr} {cap:Nat} (b off sz:Nat) (cv:Nat->Nat->Value)
   (hcap:rows.length<=cap) (hnil:a=none->cap=0) (ha:rows≠[]->a=some ⟨b,off,none⟩/\b<w.heap.size)
   (hsz:∀row∈rows,row.length=sz)
   (hc:∀(i j:Nat)(c:AV),Qt rows i j=some c->w.cell? ⟨b,off+i*sz+j,none⟩=some (cv i j)/\γ.ro b (off+i*sz+j)/\(cv i j).oneCell'=true)
   (h:∀(i j:Nat)(c:AV),Qt rows i j=some c->aB w γ.cT c (cv i j))
   (aR:tF w γ a rows.length cap sz rt):aB w γ (.sl rt rows) (.slice a rows.length cap)
def qF(o o':Option Obj):Prop:=o'=o\/∃r s p,o=some (.loop r)/\o'=some (.loop {r with state:=s,pending:=p})
def qF.trans{o o' o'':Option Obj}(h:qF o o')(k:qF o' o''):qF o o'':=by
 obtain rfl|⟨r,s,p,rfl,rfl⟩:=h
 ·exact k
 obtain rfl|⟨r',s',p',e,rfl⟩:=k
 ·exact .inr ⟨r,s,p,rfl,rfl⟩
 simp at e;subst e;exact .inr ⟨r,s',p',rfl,rfl⟩
def Sz(w w':World):Prop:=∀(b:Nat)(arr:Array Value)(e:TypeId)(f:Nat×Nat),w.heap[b]?=some (.cells arr e f)->∃bT:Array Value,w'.heap[b]?=some (.cells bT e f)/\bT.size=arr.size
def Sz.refl(w:World):Sz w w:=fun _ arr _ _ h=>⟨arr,h,rfl⟩
def Sz.trans{w w' zg:World}(h:Sz w w')(k:Sz w' zg):Sz w zg:=fun b arr e f hb=>by
 obtain⟨bT,h1,h2⟩:=h b arr e f hb;obtain⟨EM,h3,h4⟩:=k b bT e f h1;exact⟨EM,h3,h4.trans h2⟩
def Sz.of_same{w w':World}(h:∀b,b<w.heap.size->w'.heap[b]?=w.heap[b]?):Sz w w':=fun b arr e f hb=>by
 have ai:b<w.heap.size:=by
  rcases zzaa b w.heap.size with h'|h'
  ·exact h'
  simp[zzct h']at hb
 exact⟨arr,(h b ai).trans hb,rfl⟩
structure NL (w:World) (γ:G) (w':World) (γ':G):Prop where
 size:w.heap.size<=w'.heap.size
 ro:∀b o,b<w.heap.size->γ.ro b o->γ'.ro b o/\w'.cell? ⟨b,o,none⟩=w.cell? ⟨b,o,none⟩
 β:∀id b,γ.β id=some b->γ'.β id=some b
 cur:∀id,γ.cur id<=γ'.cur id
 mm:∀b F,γ.mm b=some F->γ'.mm b=some F
 lp:∀i l,γ.lp i=some l->γ'.lp i=some l
 own:∀id b,γ'.cur id=γ.cur id->γ.own id=some b->γ'.own id=some b/\
  (∀arr e,w.heap[b]?=some (.cells arr e (0,0))->∃bT,w'.heap[b]?=some (.cells bT e (0,0))/\arr.size<=bT.size)/\∀o,γ'.ro b o->γ.ro b o
 ss:Sz w w'
structure eD (w:World) (γ:G) (w':World) (γ':G):Prop where
 size:w.heap.size<=w'.heap.size
 ro:∀b o,b<w.heap.size->γ.ro b o->γ'.ro b o/\w'.cell? ⟨b,o,none⟩=w.cell? ⟨b,o,none⟩
 β:∀id b,γ.β id=some b->γ'.β id=some b
 cur:∀id,γ.cur id<=γ'.cur id
 mm:∀b F,γ.mm b=some F->γ'.mm b=some F
 lp:∀i l,γ.lp i=some l->γ'.lp i=some l
 own:∀id b,γ'.cur id=γ.cur id->γ.own id=some b->γ'.own id=some b/\
  (∀arr e,w.heap[b]?=some (.cells arr e (0,0))->∃bT,w'.heap[b]?=some (.cells bT e (0,0))/\arr.size<=bT.size)/\∀o,γ'.ro b o->γ.ro b o
 sp:∀b,γ.sp b->γ'.sp b/\qF w.heap[b]? w'.heap[b]?
 ss:Sz w w'
structure Ev (w:World) (γ:G) (w':World) (γ':G):Prop where
 size:w.heap.size<=w'.heap.size
 ro:∀b o,b<w.heap.size->γ.ro b o->γ'.ro b o/\w'.cell? ⟨b,o,none⟩=w.cell? ⟨b,o,none⟩
 β:∀id b,γ.β id=some b->γ'.β id=some b
 cur:∀id,γ.cur id<=γ'.cur id
 mm:∀b F,γ.mm b=some F->γ'.mm b=some F
 lp:γ'.lp=γ.lp
 own:∀id b,γ'.cur id=γ.cur id->γ.own id=some b->γ'.own id=some b/\
  (∀arr e,w.heap[b]?=some (.cells arr e (0,0))->∃bT,w'.heap[b]?=some (.cells bT e (0,0))/\arr.size<=bT.size)/\∀o,γ'.ro b o->γ.ro b o
 sp:∀b,γ.sp b->γ'.sp b/\w'.heap[b]?=w.heap[b]?
 ss:Sz w w'
def eD.D4{w:World}{γ:G}{w':World}{γ':G}(h:eD w γ w' γ'):NL w γ w' γ':=⟨h.size,h.ro,h.β,h.cur,h.mm,h.lp,h.own,h.ss⟩
def Ev.dD{w:World}{γ:G}{w':World}{γ':G}(h:Ev w γ w' γ'):eD w γ w' γ':=⟨h.size,h.ro,h.β,h.cur,h.mm,fun i l hl=>by rw[h.lp];exact hl,h.own,fun b hb=>⟨(h.sp b hb).1,.inl (h.sp b hb).2⟩,h.ss⟩
def Ev.refl(w:World)(γ:G):Ev w γ w γ:=
 ⟨zzab _,fun _ _ _ h=>⟨h,rfl⟩,fun _ _ h=>h,fun _=>zzab _,fun _ _ h=>h,rfl,fun _ _ _ h=>⟨h,fun arr _ h=>⟨arr,h,zzab _⟩,fun _ h=>h⟩,fun _ h=>⟨h,rfl⟩,Sz.refl w⟩
def Ev.trans{w:World}{γ:G}{w':World}{γ':G}{zg:World}{JO:G}(h:Ev w γ w' γ')(k:Ev w' γ' zg JO):Ev w γ zg JO where
 size:=zzbn h.size k.size
 ro b o hb hr:=by
  obtain⟨h1,h2⟩:=h.ro b o hb hr;obtain⟨h3,h4⟩:=k.ro b o (zzbc hb h.size) h1;exact⟨h3,h4.trans h2⟩
 β id b hb:=k.β id b (h.β id b hb)
 cur id:=zzbn (h.cur id) (k.cur id)
 mm b F hb:=k.mm b F (h.mm b F hb)
 lp:=k.lp.trans h.lp
 own id b hc ho:=by
  have h1:=h.cur id;have h2:=k.cur id;have e1:γ'.cur id=γ.cur id:=by omega
  have e2:JO.cur id=γ'.cur id:=by omega
  obtain⟨a1,a2,a3⟩:=h.own id b e1 ho;obtain⟨b1,b2,b3⟩:=k.own id b e2 a1;refine⟨b1,fun arr e hh=>?_,fun o ho=>a3 o (b3 o ho)⟩;obtain⟨bT,h3,h4⟩:=a2 arr e hh;obtain⟨EM,h5,h6⟩:=b2 bT e h3;exact⟨EM,h5,zzbn h4 h6⟩
 sp b hb:=by
  obtain⟨h1,h2⟩:=h.sp b hb;obtain⟨h3,h4⟩:=k.sp b h1;exact⟨h3,h4.trans h2⟩
 ss:=h.ss.trans k.ss
def eD.trans{w:World}{γ:G}{w':World}{γ':G}{zg:World}{JO:G}(h:eD w γ w' γ')(k:eD w' γ' zg JO):eD w γ zg JO where
 size:=zzbn h.size k.size
 ro b o hb hr:=by
  obtain⟨h1,h2⟩:=h.ro b o hb hr;obtain⟨h3,h4⟩:=k.ro b o (zzbc hb h.size) h1;exact⟨h3,h4.trans h2⟩
 β id b hb:=k.β id b (h.β id b hb)
 cur id:=zzbn (h.cur id) (k.cur id)
 mm b F hb:=k.mm b F (h.mm b F hb)
 lp i l hl:=k.lp i l (h.lp i l hl)
 own id b hc ho:=by
  have h1:=h.cur id;have h2:=k.cur id;have e1:γ'.cur id=γ.cur id:=by omega
  have e2:JO.cur id=γ'.cur id:=by omega
  obtain⟨a1,a2,a3⟩:=h.own id b e1 ho;obtain⟨b1,b2,b3⟩:=k.own id b e2 a1;refine⟨b1,fun arr e hh=>?_,fun o ho=>a3 o (b3 o ho)⟩;obtain⟨bT,h3,h4⟩:=a2 arr e hh;obtain⟨EM,h5,h6⟩:=b2 bT e h3;exact⟨EM,h5,zzbn h4 h6⟩
 sp b hb:=by
  obtain⟨h1,h2⟩:=h.sp b hb;obtain⟨h3,h4⟩:=k.sp b h1;exact⟨h3,h2.trans h4⟩
 ss:=h.ss.trans k.ss
def NL.cT{w:World}{γ:G}{w':World}{γ':G}(h:NL w γ w' γ'):NL w γ.cT w' γ'.cT:=
 ⟨h.size,h.ro,fun _ _ h=>(by cases h),fun _=>zzab _,fun _ _ h=>(by cases h),fun _ _ h=>(by cases h),fun _ _ _ h=>(by cases h),h.ss⟩
def eD.cT{w:World}{γ:G}{w':World}{γ':G}(h:eD w γ w' γ'):eD w γ.cT w' γ'.cT:=
 ⟨h.size,h.ro,fun _ _ h=>(by cases h),fun _=>zzab _,fun _ _ h=>(by cases h),fun _ _ h=>(by cases h),fun _ _ _ h=>(by cases h),fun _ h=>h.elim,h.ss⟩
def eD.avP{w:World}{γ:G}{w':World}{γ':G}(h:eD w γ w' γ'):Ev w γ.cT w' γ'.cT:=
 ⟨h.size,h.ro,fun _ _ h=>(by cases h),fun _=>zzab _,fun _ _ h=>(by cases h),rfl,fun _ _ _ h=>(by cases h),fun _ h=>h.elim,h.ss⟩
def Ev.cT{w:World}{γ:G}{w':World}{γ':G}(h:Ev w γ w' γ'):Ev w γ.cT w' γ'.cT:=h.dD.avP
def mw.bq{w:World}{γ:G}{w':World}{γ':G}(h:NL w γ w' γ'){a:Option Addr}{id len cap sz:Nat}(hc:γ'.cur id=γ.cur id)(hs:mw w γ a id len cap sz):
  mw w' γ' a id len cap sz:=by
 obtain⟨b,off,arr,e,ha,ho,hh,hsz,dM⟩:=hs;obtain⟨h1,h2,h3⟩:=h.own id b hc ho;obtain⟨bT,h4,h5⟩:=h2 arr e hh;exact⟨b,off,bT,e,ha,h1,h4,zzbn hsz h5,fun o ho hr=>dM o ho (h3 o hr)⟩
def mw.mono{w:World}{γ:G}{w':World}{γ':G}(h:Ev w γ w' γ'){a:Option Addr}{id len cap sz:Nat}(hc:γ'.cur id=γ.cur id)(hs:mw w γ a id len cap sz):
  mw w' γ' a id len cap sz:=mw.bq h.dD.D4 hc hs
def tF.mono{w:World}{γ:G}{w':World}{γ':G}(h:NL w γ w' γ'){a:Option Addr}{len cap sz:Nat}{rt:Rt}(hr:tF w γ a len cap sz rt):tF w' γ' a len cap sz rt:=by
 cases rt with
 |ro=>trivial
 |full=>exact hr
 |nil=>exact hr
 |nn=>exact hr
 |own id gz=>
  obtain⟨h1,h2,h3⟩:=hr;have ue:=h.cur id;refine⟨h1,zzbn h2 ue,fun he=>?_⟩;have e1:γ'.cur id=γ.cur id:=by omega
  exact(h3 (by omega)).imp_right (mw.bq h e1)
def aB.eX{w:World}{γ:G}{a:AV}{v:Value}(h:aB w γ a v):∀{w':World}{γ':G},NL w γ w' γ'->aB w' γ' a v:=by
 induction h with
 |junk v=>exact fun _=>.junk v
 |gd _ h' ih=>exact fun e=>.gd (fun hg=>ih hg e) h'
 |bool b=>exact fun _=>.bool b
 |int k n=>exact fun _=>.int k n
 |str s=>exact fun _=>.str s
 |nilfn=>exact fun _=>.nilfn
 |nilv p=>exact fun _=>.nilv p
 |yld h=>exact fun e=>.yld (e.lp _ _ h)
 |mp h=>exact fun e=>.mp (e.mm _ _ h)
 |it h=>exact fun e=>.it (e.mm _ _ h)
 |agg hl _ ih=>exact fun e=>.agg hl fun i c v h1 h2=>ih i c v h1 h2 e
 |aW hl _ ih=>exact fun e=>.aW hl fun i c v h1 h2=>ih i c v h1 h2 e
 |fn hl _ ey _ ih ih'=>exact fun e=>.fn hl (fun i c v h1 h2=>ih i c v h1 h2 e) ey fun i c v h1 h2=>ih' i c v h1 h2 e
 |ptr h=>exact fun e=>.ptr (e.β _ _ h)
 |bs h hl hh hs=>
  intro w' γ' e;obtain⟨bT,h1,h2⟩:=e.ss _ _ _ _ hh;exact .bs (e.β _ _ h) hl h1 (by omega)
 |ep cv hb hc _ ih=>
  exact fun e=>.ep cv (zzbc hb e.size) (fun j c hj=>⟨(e.ro _ _ hb (hc j c hj).2.1).2.trans (hc j c hj).1,(e.ro _ _ hb (hc j c hj).2.1).1,(hc j c hj).2.2⟩) fun j c hj=>ih j c hj e.cT
 |@sl γ rt rows a cap b off sz cv hcap hnil ha hsz hc _ aR ih=>
  intro w' γ' e;have hb:∀i j c,Qt rows i j=some c->b<w.heap.size:=fun i j c eM=>(ha (by rintro rfl;simp[Qt]at eM)).2
  exact .sl b off sz cv hcap hnil (fun hn=>⟨(ha hn).1,zzbc (ha hn).2 e.size⟩) hsz
   (fun i j c eM=>⟨(e.ro _ _ (hb i j c eM) (hc i j c eM).2.1).2.trans (hc i j c eM).1,(e.ro _ _ (hb i j c eM) (hc i j c eM).2.1).1,(hc i j c eM).2.2⟩)
   (fun i j c eM=>ih i j c eM e.cT) (aR.mono e)
def aB.bq{w:World}{γ:G}{a:AV}{v:Value}(h:aB w γ a v){w':World}{γ':G}(e:eD w γ w' γ'):aB w' γ' a v:=h.eX e.D4
def aB.mono{w:World}{γ:G}{a:AV}{v:Value}(h:aB w γ a v){w':World}{γ':G}(e:Ev w γ w' γ'):aB w' γ' a v:=h.bq e.dD
def ak(w:World)(γ:G)(as:List AV)(vs:List Value):Prop:=as.length=vs.length/\∀(i:Nat)(a:AV)(v:Value),as[i]?=some a->vs[i]?=some v->aB w γ a v
def ak.mono{w:World}{γ:G}{as:List AV}{vs:List Value}(h:ak w γ as vs){w':World}{γ':G}(e:Ev w γ w' γ'):ak w' γ' as vs:=
 ⟨h.1,fun i a v h1 h2=>(h.2 i a v h1 h2).mono e⟩
def ak.eX{w:World}{γ:G}{as:List AV}{vs:List Value}(h:ak w γ as vs){w':World}{γ':G}(e:NL w γ w' γ'):ak w' γ' as vs:=
 ⟨h.1,fun i a v h1 h2=>(h.2 i a v h1 h2).eX e⟩
def ak.bq{w:World}{γ:G}{as:List AV}{vs:List Value}(h:ak w γ as vs){w':World}{γ':G}(e:eD w γ w' γ'):ak w' γ' as vs:=
 ⟨h.1,fun i a v h1 h2=>(h.2 i a v h1 h2).bq e⟩
def ak.nil{w:World}{γ:G}:ak w γ [] []:=⟨rfl,fun i a v h=>(by simp at h)⟩
def ak.cons{w:World}{γ:G}{a:AV}{v:Value}{as:List AV}{vs:List Value}(h:aB w γ a v)(hs:ak w γ as vs):ak w γ (a::as) (v::vs):=
 ⟨by simp[hs.1],fun i x y h1 h2=>by
  cases i with
  |zero=>simp at h1 h2;subst h1;subst h2;exact h
  |succ i=>simp at h1 h2;exact hs.2 i x y h1 h2⟩
def ak.get{w:World}{γ:G}{as:List AV}{vs:List Value}(h:ak w γ as vs)(i:Nat):aB w γ (as.getD i .junk) (vs.getD i undef):=by
 rcases zzaa i as.length with hi|hi
 ·have dV:i<vs.length:=h.1 ▸ hi;refine h.2 i _ _ (?_:as[i]?=some _) (?_:vs[i]?=some _)
  ·simp[List.getD,hi]
  simp[List.getD,dV]
 simp[List.getD,zzay hi];exact .junk _
def ak.set{w:World}{γ:G}{as:List AV}{vs:List Value}(h:ak w γ as vs)(i:Nat){a:AV}{v:Value}(ha:aB w γ a v):ak w γ (as.set i a) (vs.set i v):=by
 refine⟨by simp[h.1],fun j x y h1 h2=>?_⟩;by_cases eM:i=j
 ·subst eM;rw[zzcx]at h1 h2;simp only[if_true]at h1 h2;split at h1<;>split at h2<;>simp_all
 rw[zzbe eM]at h1 h2;exact h.2 j x y h1 h2
def ak.append{w:World}{γ:G}{as bs:List AV}{vs us:List Value}(h:ak w γ as vs)(k:ak w γ bs us):ak w γ (as++bs) (vs++us):=by
 refine⟨by simp[h.1,k.1],fun i x y h1 h2=>?_⟩;rcases zzaa i as.length with hi|hi
 ·rw[zzag hi]at h1;rw[zzag (h.1 ▸ hi)]at h2;exact h.2 i x y h1 h2
 rw[zzal hi]at h1;rw[zzal (h.1 ▸ hi),<- h.1]at h2;exact k.2 _ x y h1 h2
def cD(w:World)(γ:G)(as:List AV)(vs:List Value):Prop:=as.length<=vs.length/\∀(i:Nat)(a:AV)(v:Value),as[i]?=some a->vs[i]?=some v->aB w γ a v
def ak.toP{w:World}{γ:G}{as:List AV}{vs:List Value}(h:ak w γ as vs):cD w γ as vs:=⟨Nat.le_of_eq h.1,h.2⟩
def cD.nil{w:World}{γ:G}{vs:List Value}:cD w γ [] vs:=⟨zzcc _,fun i a v h=>(by simp at h)⟩
def cD.eX{w:World}{γ:G}{as:List AV}{vs:List Value}(h:cD w γ as vs){w':World}{γ':G}(e:NL w γ w' γ'):cD w' γ' as vs:=
 ⟨h.1,fun i a v h1 h2=>(h.2 i a v h1 h2).eX e⟩
def cD.bq{w:World}{γ:G}{as:List AV}{vs:List Value}(h:cD w γ as vs){w':World}{γ':G}(e:eD w γ w' γ'):cD w' γ' as vs:=h.eX e.D4
def cD.mono{w:World}{γ:G}{as:List AV}{vs:List Value}(h:cD w γ as vs){w':World}{γ':G}(e:Ev w γ w' γ'):cD w' γ' as vs:=h.bq e.dD
def cD.set{w:World}{γ:G}{as:List AV}{vs:List Value}(h:cD w γ as vs)(i:Nat){a:AV}{v:Value}(ha:aB w γ a v):cD w γ (as.set i a) (vs.set i v):=by
 refine⟨by simpa using h.1,fun j x y h1 h2=>?_⟩;by_cases eM:i=j
 ·subst eM;rw[zzcx]at h1 h2;simp only[if_true]at h1 h2;split at h1<;>split at h2<;>simp_all
 rw[zzbe eM]at h1 h2;exact h.2 j x y h1 h2
open Go Go.RowKit
inductive LS where
 |gone
 |ready
 |busy
 |done (ex:Exit)
structure AM where
 boxes:List (List AV)
 lens:List Nat
 st:Nat->LS
 ln:Nat
def OI(γ:G)(b:Nat):Prop:=(∃id,γ.β id=some b)\/(∃id,γ.own id=some b)\/γ.sp b\/∃id,γ.mm id=some b
structure Chg (γ:G) (w:World) (γ':G) (w':World):Prop where
 os:w'.os=w.os
 tape:w'.tape=w.tape
 output:w'.output=w.output
 size:w.heap.size<=w'.heap.size
 same:∀b,b<w.heap.size->¬OI γ b->w'.heap[b]?=w.heap[b]?
 ro:∀b o,b<w.heap.size->γ.ro b o->γ'.ro b o/\w'.cell? ⟨b,o,none⟩=w.cell? ⟨b,o,none⟩
 oi:∀b,OI γ' b->OI γ b\/w.heap.size<=b
 ron:∀b o,γ'.ro b o->γ.ro b o\/OI γ b\/w.heap.size<=b
structure ir where
 p:G->World->Prop
 st:∀γ w γ' w',p γ w->Chg γ w γ' w'->p γ' w'
def Yo:Nat->List Int->Value
 |0,[n]=>.int .i64 n
 |0,_=>undef
 |_+1,ns=>.agg (ns.map (Value.int .i64)).toArray
def Wx:Nat->List Int->Prop
 |0,ns=>ns.length=1
 |kn+1,ns=>ns.length=kn+1
def cG(w:World)(γ:G):AV->Obj->Prop
 |.aJ kn kvs,.map es clock=>clock=es.size/\kvs.length=es.size/\
  ∀(i:Nat)(k:List Int)(a:AV)(e:MapEntry),kvs[i]?=some (k,a)->es[i]?=some e->Wx kn k/\e.key=Yo kn k/\e.born=i/\aB w γ a e.val
 |.mitr mid n seen,.mapIter (some mb) NM sn st=>γ.mm mid=some mb/\NM=n/\st=n/\sn.toList=seen
 |_,_=>False
def vJ(w:World)(γ:G)(b:Nat)(x:Option (List AV)):Prop:=∃a o,x=some [a]/\w.heap[b]?=some o/\cG w γ a o
def cG.mono{w w':World}{γ γ':G}{a:AV}{o:Obj}(h:cG w γ a o)(ev:NL w γ w' γ'):cG w' γ' a o:=by
 unfold cG at h |-
 split at h
 ·exact⟨h.1,h.2.1,fun i k a e q1 q2=>⟨(h.2.2 i k a e q1 q2).1,(h.2.2 i k a e q1 q2).2.1,(h.2.2 i k a e q1 q2).2.2.1,(h.2.2 i k a e q1 q2).2.2.2.eX ev⟩⟩
 ·exact⟨ev.mm _ _ h.1,h.2⟩
 exact h.elim
def vJ.mono{w w':World}{γ γ':G}{b:Nat}{x:Option (List AV)}(h:vJ w γ b x)(ev:NL w γ w' γ')(e:w'.heap[b]?=w.heap[b]?):vJ w' γ' b x:=by
 obtain⟨a,o,h1,h2,h3⟩:=h;exact⟨a,o,h1,e.trans h2,h3.mono ev⟩
def vJ.VO{w:World}{γ:G}{b:Nat}{x:Option (List AV)}(h:vJ w γ b x){arr:Array Value}{e:TypeId}{f:Nat×Nat}(hh:w.heap[b]?=some (.cells arr e f)):False:=by
 obtain⟨a,o,_,h2,h3⟩:=h;rw[hh]at h2;cases h2;cases a<;>exact h3
structure au (N:Nat) (w0:ir) (aq:Nat->Nat->Prop) (γ:G) (w:World) (B:Nat->Option (List AV)) (L:Nat->Option Nat):Prop where
 bs:w0.p γ w
 hN:N<=w.heap.size
 aq:∀b o,γ.ro b o->aq b o\/N<=b
 robd:∀b o,γ.ro b o->b<w.heap.size
 box:∀id cells b,B id=some cells->γ.β id=some b->∃arr e,w.heap[b]?=some (.cells arr e (0,0))/\cD w γ cells arr.toList/\∀v∈arr.toList,v.oneCell'=true
 β:∀id b,γ.β id=some b->N<=b/\b<w.heap.size/\(∀o,¬γ.ro b o)/\(∀id',γ.own id'≠some b)/\∃cells,B id=some cells
 inj:∀id id' b,γ.β id=some b->γ.β id'=some b->B id=some []\/B id'=some []\/id=id'
 own:∀id b,γ.own id=some b->N<=b/\b<w.heap.size/\∃n,L id=some n
 oinj:∀id id' b,γ.own id=some b->γ.own id'=some b->id=id'
 sp:∀b,γ.sp b->N<=b/\b<w.heap.size/\(∀o,¬γ.ro b o)/\(∀id,γ.β id≠some b)/\(∀id,γ.own id≠some b)
 mm:∀id b,γ.mm id=some b->N<=b/\b<w.heap.size/\(∀o,¬γ.ro b o)/\(∀id,γ.β id≠some b)/\(∀id,γ.own id≠some b)/\¬γ.sp b/\γ.β id=none/\vJ w γ b (B id)
 minj:∀id id' b,γ.mm id=some b->γ.mm id'=some b->id=id'
 len:∀id n,L id=some n->γ.cur id=n
 cur0:∀id,L id=none->γ.cur id=0
def AM.B(m:AM):Nat->Option (List AV):=fun id=>m.boxes[id]?
def AM.L(m:AM):Nat->Option Nat:=fun id=>m.lens[id]?
def G.grow(γ:G)(n n':Nat):G:={γ with ro:=fun b o=>γ.ro b o\/(n<=b/\b<n')}
def cell_of_heap{w w':World}{b o:Nat}(h:w'.heap[b]?=w.heap[b]?):w'.cell? ⟨b,o,none⟩=w.cell? ⟨b,o,none⟩:=by
 simp[World.cell?,h]
def aM{w:World}{b o:Nat}{arr:Array Value}{e:TypeId}{f:Nat×Nat}(h:w.heap[b]?=some (.cells arr e f)):w.cell? ⟨b,o,none⟩=arr[o]?:=by
 simp[World.cell?,h]
def Zm{w:World}{b o:Nat}{arr:Array Value}{e:TypeId}(h:w.heap[b]?=some (.cells arr e (0,0))):w.frozen? ⟨b,o,none⟩=false:=by
 simp[World.frozen?,h]
def aT{w:World}{b:Nat}{x:Obj}(h:w.heap[b]?=some x):b<w.heap.size:=by
 rcases zzaa b w.heap.size with h'|h'
 ·exact h'
 simp[zzct h']at h
def Ev.VQ{w w':World}{γ:G}(h:Below w.heap.size w w')(eP:∀id b,γ.own id=some b->b<w.heap.size)(dy:∀b,γ.sp b->b<w.heap.size):Ev w γ w' (γ.grow w.heap.size w'.heap.size) where
 size:=h.size
 ro b o hb hr:=⟨.inl hr,cell_of_heap (h.block b hb)⟩
 β _ _ h:=h
 cur _:=zzab _
 mm _ _ h:=h
 lp:=rfl
 own id b _ ho:=by
  have hb:=eP id b ho;refine⟨ho,fun arr e he=>⟨arr,by rw[h.block b hb];exact he,zzab _⟩,fun o hr=>?_⟩;obtain hr|⟨hr,_⟩:=hr
  ·exact hr
  omega
 sp b hb:=⟨hb,h.block b (dy b hb)⟩
 ss:=Sz.of_same h.block
variable {N:Nat} {w0:ir} {aq:Nat->Nat->Prop} {γ:G} {w:World} {B:Nat->Option (List AV)} {L:Nat->Option Nat}
def au.di(hm:au N w0 aq γ w B L){w':World}(h:Below w.heap.size w w'):Ev w γ w' (γ.grow w.heap.size w'.heap.size):=
 Ev.VQ h (fun id b hb=>(hm.own id b hb).2.1) fun b hb=>(hm.sp b hb).2.1
def au.grow(hm:au N w0 aq γ w B L){w':World}(h:Below w.heap.size w w'):au N w0 aq (γ.grow w.heap.size w'.heap.size) w' B L where
 bs:=w0.st _ _ _ _ hm.bs ⟨h.os,h.tape,h.output,h.size,fun b hb _=>h.block b hb,(hm.di h).ro,fun b hb=>.inl hb,fun b o hr=>hr.imp_right fun h=>.inr h.1⟩
 hN:=zzbn hm.hN h.size
 aq b o hr:=by
  obtain hr|⟨hr,_⟩:=hr
  ·exact hm.aq b o hr
  exact .inr (zzbn hm.hN hr)
 robd b o hr:=by
  obtain hr|⟨_,hr⟩:=hr
  ·exact zzbc (hm.robd b o hr) h.size
  exact hr
 box id cells b hb h1:=by
  obtain⟨arr,e,h2,h3,h4⟩:=hm.box id cells b hb h1;exact⟨arr,e,by rw[h.block b (aT h2)];exact h2,h3.mono (hm.di h),h4⟩
 β id b hb:=by
  obtain⟨h1,h2,h3,h4,h5⟩:=hm.β id b hb;refine⟨h1,zzbc h2 h.size,fun o hr=>?_,h4,h5⟩;obtain hr|⟨hr,_⟩:=hr
  ·exact h3 o hr
  omega
 inj:=hm.inj
 own id b hb:=by
  obtain⟨h1,h2,h3⟩:=hm.own id b hb;exact⟨h1,zzbc h2 h.size,h3⟩
 oinj:=hm.oinj
 sp b hb:=by
  obtain⟨h1,h2,h3,h4⟩:=hm.sp b hb;refine⟨h1,zzbc h2 h.size,fun o hr=>?_,h4⟩;obtain hr|⟨hr,_⟩:=hr
  ·exact h3 o hr
  omega
 mm id b hb:=by
  obtain⟨h1,h2,h3,h4,h5,h6,h8,h7⟩:=hm.mm id b hb;refine⟨h1,zzbc h2 h.size,fun o hr=>?_,h4,h5,h6,h8,h7.mono (hm.di h).dD.D4 (h.block b h2)⟩;obtain hr|⟨hr,_⟩:=hr
  ·exact h3 o hr
  omega
 minj:=hm.minj
 len:=hm.len
 cur0:=hm.cur0
def G.box(γ:G)(id b:Nat):G:={γ with β:=fun i=>if i=id then some b else γ.β i}
def au.dm(hm:au N w0 aq γ w B L)(id:Nat)(aN:B id=none)(o:Obj):Ev w γ (w.alloc o) (γ.box id w.heap.size) where
 size:=by simp
 ro b o' hb hr:=⟨hr,cell_of_heap (Below.heap_alloc w o b hb)⟩
 β i b hb:=by
  have:i≠id:=by rintro rfl;obtain⟨_,_,_,_,c,hc⟩:=hm.β i b hb;rw[aN]at hc;cases hc
  simp[G.box,this,hb]
 cur _:=zzab _
 mm _ _ h:=h
 lp:=rfl
 own i b _ ho:=⟨ho,fun arr e he=>⟨arr,by rw[Below.heap_alloc w o b (hm.own i b ho).2.1];exact he,zzab _⟩,fun _ h=>h⟩
 sp b hb:=⟨hb,Below.heap_alloc w o b (hm.sp b hb).2.1⟩
 ss:=Sz.of_same (Below.heap_alloc w o)
def au.fk(hm:au N w0 aq γ w B L)(id:Nat)(aN:B id=none){cells:List AV}{arr:Array Value}{e:TypeId}(hr:cD w γ cells arr.toList)(VR:∀v∈arr.toList,v.oneCell'=true):
  au N w0 aq (γ.box id w.heap.size) (w.alloc (.cells arr e)) (fun i=>if i=id then some cells else B i) L where
 bs:=w0.st _ _ _ _ hm.bs ⟨rfl,rfl,rfl,by simp,fun b hb _=>Below.heap_alloc w _ b hb,(hm.dm id aN _).ro,fun b hb=>by
  obtain⟨i,hi⟩|hb|hb:=hb
  ·by_cases h:i=id
   ·simp[G.box,h]at hi;exact .inr (by omega)
   simp[G.box,h]at hi;exact .inl (.inl ⟨i,hi⟩)
  ·exact .inl (.inr (.inl hb))
  exact .inl (.inr (.inr hb)),fun _ _ h=>.inl h⟩
 hN:=by have:=hm.hN;simp;omega
 aq:=hm.aq
 robd b o h:=by have:=hm.robd b o h;simp;omega
 box i cs b hb h1:=by
  by_cases hi:i=id
  ·subst hi;simp at hb;subst hb;simp[G.box]at h1;subst h1;exact⟨arr,e,by show(w.heap.push _)[w.heap.size]?=_;simp,hr.mono (hm.dm i aN _),VR⟩
  simp[hi]at hb;simp[G.box,hi]at h1;obtain⟨bT,e',h2,h3,h4⟩:=hm.box i cs b hb h1;exact⟨bT,e',by rw[Below.heap_alloc w _ b (aT h2)];exact h2,h3.mono (hm.dm id aN _),h4⟩
 β i b hb:=by
  by_cases hi:i=id
  ·subst hi;simp[G.box]at hb;subst hb;refine⟨hm.hN,by simp,fun o h=>?_,fun i' h=>?_,cells,by simp⟩
   ·have:=hm.robd _ o h;omega
   have:=(hm.own i' _ h).2.1;omega
  simp[G.box,hi]at hb;obtain⟨h1,h2,h3,h4,c,hc⟩:=hm.β i b hb;exact⟨h1,by simp;omega,h3,h4,c,by simp[hi,hc]⟩
 inj i i' b h h':=by
  by_cases hi:i=id<;>by_cases dV:i'=id
  ·exact .inr (.inr (by rw[hi,dV]))
  ·simp[G.box,hi]at h;simp[G.box,dV]at h';have:=(hm.β i' b h').2.1;omega
  ·simp[G.box,dV]at h';simp[G.box,hi]at h;have:=(hm.β i b h).2.1;omega
  simp[G.box,hi]at h;simp[G.box,dV]at h';simp only[if_neg hi,if_neg dV];exact hm.inj i i' b h h'
 own i b hb:=by
  obtain⟨h1,h2,h3⟩:=hm.own i b hb;exact⟨h1,by simp;omega,h3⟩
 oinj:=hm.oinj
 sp b hb:=by
  obtain⟨h1,h2,h3,h4,h5⟩:=hm.sp b hb;refine⟨h1,by simp;omega,h3,fun i hi=>?_,h5⟩;by_cases aN:i=id
  ·simp[G.box,aN]at hi;omega
  simp[G.box,aN]at hi;exact h4 i hi
 mm i' b hb:=by
  obtain⟨h1,h2,h3,h4,h5,h6,h8,h7⟩:=hm.mm i' b hb
  have aK:i'≠id:=by
   rintro rfl;obtain⟨_,_,hx,_⟩:=h7;rw[aN]at hx;cases hx
  refine⟨h1,by simp;omega,h3,fun i hi=>?_,h5,h6,by simp[G.box,aK,h8],?_⟩
  ·by_cases aN:i=id
   ·simp[G.box,aN]at hi;omega
   simp[G.box,aN]at hi;exact h4 i hi
  simp only[aK,if_false];exact h7.mono (hm.dm id aN _).dD.D4 (Below.heap_alloc w _ b h2)
 minj:=hm.minj
 len:=hm.len
 cur0:=hm.cur0
def tG(arr:Array Value):Nat->List Value->Array Value
 |_,[]=>arr
 |o,v::r=>tG (arr.setIfInBounds o v) (o+1) r
def Vb:∀(vs:List Value)(arr:Array Value)(o:Nat),(tG arr o vs).size=arr.size
 |[],_,_=>rfl
 |v::r,arr,o=>by rw[tG,Vb r];simp
def heap_setCell_same{w:World}{b o:Nat}{arr:Array Value}{e:TypeId}{f:Nat×Nat}(h:w.heap[b]?=some (.cells arr e f))(v:Value):
  (w.setCell ⟨b,o,none⟩ v).heap[b]?=some (.cells (arr.setIfInBounds o v) e f):=by
 simp[World.setCell,zzen,h]
def Xa(b:Nat):∀(vs:List Value)(o:Nat)(w:World)(arr:Array Value)(e:TypeId)(f:Nat×Nat),w.heap[b]?=some (.cells arr e f)->
  (w.setCells b o vs).heap[b]?=some (.cells (tG arr o vs) e f)
 |[],_,_,_,_,_,h=>h
 |v::r,o,w,arr,e,f,h=>by
  rw[World.setCells,tG];exact Xa b r (o+1) _ _ e f (heap_setCell_same h v)
def Xv(b:Nat){N:Nat}(hb:N<=b):∀(vs:List Value)(o:Nat)(w:World),Below N w (w.setCells b o vs)
 |[],_,_=>Below.refl _ _
 |v::r,o,w=>by
  rw[World.setCells];exact((Below.refl N w).setCell (p:=⟨b,o,none⟩) hb v).trans (Xv b hb r (o+1) _)
def Qw(b:Nat):∀(vs:List Value)(o:Nat)(w:World)(b':Nat),b'≠b->(w.setCells b o vs).heap[b']?=w.heap[b']?
 |[],_,_,_,_=>rfl
 |v::r,o,w,b',h=>by
  rw[World.setCells,Qw b r (o+1) _ b' h];exact Below.heap_setCell w ⟨b,o,none⟩ v b' h
def aF(b:Nat):∀(vs:List Value)(o:Nat)(w:World),(w.setCells b o vs).heap.size=w.heap.size
 |[],_,_=>rfl
 |v::r,o,w=>by
  rw[World.setCells,aF b r];simp[World.setCell]
def Sz.setCells(b o:Nat)(vs:List Value)(w:World):Sz w (w.setCells b o vs):=fun b' arr e f h=>by
 by_cases hb:b'=b
 ·subst hb;exact⟨_,Xa b' vs o w arr e f h,Vb vs arr o⟩
 exact⟨arr,(Qw b vs o w b' hb).trans h,rfl⟩
def setA(cs:List AV):Nat->List AV->List AV
 |_,[]=>cs
 |o,a::r=>setA (cs.set o a) (o+1) r
def Wu:∀(vs:List Value)(o:Nat)(arr:Array Value),(∀v∈arr.toList,v.oneCell'=true)->(∀v∈vs,v.oneCell'=true)->∀v∈(tG arr o vs).toList,v.oneCell'=true
 |[],_,_,h,_=>h
 |u::vs,o,arr,h,h'=>by
  rw[tG];refine Wu vs (o+1) _ (fun v hv=>?_) (fun v hv=>h' v (by simp[hv]));rw[zzdh]at hv;rcases zzgr hv with hv|rfl
  ·exact h v hv
  exact h' _ (by simp)
def ak.setA{w:World}{γ:G}:∀{as:List AV}{vs:List Value}{o:Nat}{cs:List AV}{arr:Array Value},ak w γ as vs->ak w γ cs arr.toList->ak w γ (setA cs o as) (tG arr o vs).toList
 |[],[],_,_,_,_,h=>h
 |[],_::_,_,_,_,h,_=>by have:=h.1;simp at this
 |_::_,[],_,_,_,h,_=>by have:=h.1;simp at this
 |a::as,v::vs,o,cs,arr,h,hc=>by
  have h0:aB w γ a v:=h.2 0 a v rfl rfl;have hs:ak w γ as vs:=⟨by have:=h.1;simpa using this,fun i x y h1 h2=>h.2 (i+1) x y (by simpa using h1) (by simpa using h2)⟩;rw[Abs.setA,tG];refine ak.setA hs ?_;rw[zzdh];exact hc.set o h0
def cD.setA{w:World}{γ:G}:∀{as:List AV}{vs:List Value}{o:Nat}{cs:List AV}{arr:Array Value},ak w γ as vs->cD w γ cs arr.toList->cD w γ (setA cs o as) (tG arr o vs).toList
 |[],[],_,_,_,_,h=>h
 |[],_::_,_,_,_,h,_=>by have:=h.1;simp at this
 |_::_,[],_,_,_,h,_=>by have:=h.1;simp at this
 |a::as,v::vs,o,cs,arr,h,hc=>by
  have h0:aB w γ a v:=h.2 0 a v rfl rfl;have hs:ak w γ as vs:=⟨by have:=h.1;simpa using this,fun i x y h1 h2=>h.2 (i+1) x y (by simpa using h1) (by simpa using h2)⟩;rw[Abs.setA,tG];refine cD.setA hs ?_;rw[zzdh];exact hc.set o h0
def oG:∀(as:List AV)(o:Nat)(cs:List AV),(setA cs o as).length=cs.length
 |[],_,_=>rfl
 |a::as,o,cs=>by rw[setA,oG as];simp
def au.cA(hm:au N w0 aq γ w B L){id b:Nat}(hb:γ.β id=some b)(o:Nat)(vs:List Value):Ev w γ (w.setCells b o vs) γ where
 size:=by rw[aF];exact zzab _
 ro b' o' _ hr:=⟨hr,cell_of_heap (Qw b vs o w b' (by rintro rfl;exact(hm.β id b' hb).2.2.1 o' hr))⟩
 β _ _ h:=h
 cur _:=zzab _
 mm _ _ h:=h
 lp:=rfl
 own i b' _ ho:=by
  have aK:b'≠b:=by rintro rfl;exact(hm.β id b' hb).2.2.2.1 i ho
  exact⟨ho,fun arr e he=>⟨arr,by rw[Qw b vs o w b' aK];exact he,zzab _⟩,fun _ h=>h⟩
 sp b' cH:=⟨cH,Qw b vs o w b' (by rintro rfl;exact(hm.sp b' cH).2.2.2.1 id hb)⟩
 ss:=Sz.setCells b o vs w
def au.store(hm:au N w0 aq γ w B L){id:Nat}{cells:List AV}(hB:B id=some cells){b:Nat}{arr:Array Value}{e:TypeId}(hb:γ.β id=some b)
  (hh:w.heap[b]?=some (.cells arr e (0,0)))(hr:cD w γ cells arr.toList)(VR:∀v∈arr.toList,v.oneCell'=true){o:Nat}{as:List AV}{vs:List Value}(ha:ak w γ as vs)(h1v:∀v∈vs,v.oneCell'=true)(qG:cells≠[]):
  au N w0 aq γ (w.setCells b o vs) (fun i=>if i=id then some (setA cells o as)else B i) L where
 bs:=w0.st _ _ _ _ hm.bs ⟨(Xv b (zzab b) vs o w).os,(Xv b (zzab b) vs o w).tape,(Xv b (zzab b) vs o w).output,by rw[aF];exact zzab _,
  fun b' _ zh=>Qw b vs o w b' (by rintro rfl;exact zh (.inl ⟨id,hb⟩)),(hm.cA hb o vs).ro,fun b hb=>.inl hb,fun _ _ h=>.inl h⟩
 hN:=by rw[aF];exact hm.hN
 aq:=hm.aq
 robd b' o' h:=by rw[aF];exact hm.robd b' o' h
 box i cs b' dA h1:=by
  by_cases hi:i=id
  ·subst hi;simp at dA;subst dA;obtain rfl:b'=b:=Option.some.inj (h1.symm.trans hb);exact⟨_,e,Xa b' vs o w arr e _ hh,(cD.setA ha hr).mono (hm.cA hb o vs),Wu vs o arr VR h1v⟩
  simp[hi]at dA;obtain⟨bT,e',h2,h3,h4⟩:=hm.box i cs b' dA h1;by_cases aK:b'=b
  ·subst aK;rcases hm.inj _ _ _ h1 hb with h|h|h
   ·rw[h]at dA;cases dA;exact⟨_,e,Xa b' vs o w arr e _ hh,cD.nil,Wu vs o arr VR h1v⟩
   ·rw[h]at hB;cases hB;exact absurd rfl qG
   exact absurd h hi
  exact⟨bT,e',by rw[Qw b vs o w b' aK];exact h2,h3.mono (hm.cA hb o vs),h4⟩
 β i b' dA:=by
  obtain⟨h1,h2,h3,h4,c,hc⟩:=hm.β i b' dA;refine⟨h1,by rw[aF];exact h2,h3,h4,?_⟩;by_cases hi:i=id
  ·exact⟨setA cells o as,by simp[hi]⟩
  exact⟨c,by simp[hi,hc]⟩
 inj i i' b' h h':=by
  rcases hm.inj i i' b' h h' with k|k|k
  ·refine .inl ?_;by_cases hi:i=id
   ·subst hi;rw[k]at hB;cases hB;exact absurd rfl qG
   simp only[if_neg hi];exact k
  ·refine .inr (.inl ?_);by_cases hi:i'=id
   ·subst hi;rw[k]at hB;cases hB;exact absurd rfl qG
   simp only[if_neg hi];exact k
  exact .inr (.inr k)
 own i b' dA:=by
  obtain⟨h1,h2,h3⟩:=hm.own i b' dA;exact⟨h1,by rw[aF];exact h2,h3⟩
 oinj:=hm.oinj
 sp b' cH:=by
  obtain⟨h1,h2,h3⟩:=hm.sp b' cH;exact⟨h1,by rw[aF];exact h2,h3⟩
 mm i' b' cH:=by
  obtain⟨h1,h2,h3,h4,h5,h6,h8,h7⟩:=hm.mm i' b' cH;have aK:i'≠id:=by rintro rfl;rw[hb]at h8;cases h8
  refine⟨h1,by rw[aF];exact h2,h3,h4,h5,h6,h8,?_⟩;simp only[aK,if_false];exact h7.mono (hm.cA hb o vs).dD.D4 (Qw b vs o w b' (by rintro rfl;exact h4 id hb))
 minj:=hm.minj
 len:=hm.len
 cur0:=hm.cur0
def G.extend(γ:G)(id b p q n:Nat):G:={γ with cur:=fun i=>if i=id then n else γ.cur i,ro:=fun b' o=>γ.ro b' o\/(b'=b/\p<=o/\o<q)}
def au.kJ(hm:au N w0 aq γ w B L){id b p q n:Nat}{vs:List Value}(ho:γ.own id=some b)(hn:γ.cur id<=n)(hq:γ.cur id=n->q<=p)(hpq:q=p+vs.length)(oH:∀o,p<=o->¬γ.ro b o):Ev w γ (w.setCells b p vs) (γ.extend id b p q n) where
 size:=by rw[aF];exact zzab _
 ro b' o' _ hr:=by
  refine⟨.inl hr,World.cell?_setCells_out b vs p w _ fun e1 _=>?_⟩;simp only at e1 |-
  subst e1;rcases zzaa o' p with h|h
  ·exact .inl h
  exact absurd hr (oH o' h)
 β _ _ h:=h
 cur i:=by
  simp only[G.extend];split
  ·rename_i h;subst h;exact hn
  exact zzab _
 mm _ _ h:=h
 lp:=rfl
 own i b' hc hoi:=by
  by_cases hi:i=id
  ·subst hi;obtain rfl:b'=b:=Option.some.inj (hoi.symm.trans ho);simp only[G.extend,if_true]at hc;have:=hq hc.symm;have hvs:vs=[]:=zzav (by omega);subst hvs;refine⟨hoi,fun arr e he=>⟨arr,he,zzab _⟩,fun o hr=>?_⟩;obtain hr|⟨_,h1,h2⟩:=hr
   ·exact hr
   omega
  have aK:b'≠b:=by rintro rfl;exact hi (hm.oinj _ _ _ hoi ho)
  refine⟨hoi,fun arr e he=>⟨arr,by rw[Qw b vs p w b' aK];exact he,zzab _⟩,fun o hr=>?_⟩;obtain hr|⟨h1,_,_⟩:=hr
  ·exact hr
  exact absurd h1 aK
 sp b' cH:=⟨cH,Qw b vs p w b' (by rintro rfl;exact(hm.sp b' cH).2.2.2.2 id ho)⟩
 ss:=Sz.setCells b p vs w
def au.extend(hm:au N w0 aq γ w B L){id b p q n:Nat}{vs:List Value}(ho:γ.own id=some b)(hn:γ.cur id<=n)(hq:γ.cur id=n->q<=p)(hpq:q=p+vs.length)(oH:∀o,p<=o->¬γ.ro b o):
  au N w0 aq (γ.extend id b p q n) (w.setCells b p vs) B (fun i=>if i=id then some n else L i) where
 bs:=w0.st _ _ _ _ hm.bs ⟨(Xv b (zzab b) vs p w).os,(Xv b (zzab b) vs p w).tape,(Xv b (zzab b) vs p w).output,by rw[aF];exact zzab _,
  fun b' _ zh=>Qw b vs p w b' (by rintro rfl;exact zh (.inr (.inl ⟨id,ho⟩))),(hm.kJ ho hn hq hpq oH).ro,fun b hb=>.inl hb,fun b' o' hr=>hr.imp_right fun h=>.inl (by rw[h.1];exact .inr (.inl ⟨id,ho⟩))⟩
 hN:=by rw[aF];exact hm.hN
 aq b' o' hr:=by
  obtain hr|⟨rfl,_,_⟩:=hr
  ·exact hm.aq b' o' hr
  exact .inr (hm.own id b' ho).1
 robd b' o' hr:=by
  rw[aF];obtain hr|⟨rfl,_,_⟩:=hr
  ·exact hm.robd b' o' hr
  exact(hm.own id b' ho).2.1
 box i cs b' dA h1:=by
  obtain⟨bT,e',h2,h3,h4⟩:=hm.box i cs b' dA h1;have aK:b'≠b:=by rintro rfl;exact(hm.β i b' h1).2.2.2.1 id ho
  exact⟨bT,e',by rw[Qw b vs p w b' aK];exact h2,h3.mono (hm.kJ ho hn hq hpq oH),h4⟩
 β i b' dA:=by
  obtain⟨h1,h2,h3,h4,hc⟩:=hm.β i b' dA;refine⟨h1,by rw[aF];exact h2,fun o hr=>?_,h4,hc⟩;obtain hr|⟨rfl,_,_⟩:=hr
  ·exact h3 o hr
  exact h4 id ho
 inj:=hm.inj
 own i b' dA:=by
  obtain⟨h1,h2,m,fO⟩:=hm.own i b' dA;refine⟨h1,by rw[aF];exact h2,?_⟩;by_cases hi:i=id
  ·exact⟨n,by simp[hi]⟩
  exact⟨m,by simp[hi,fO]⟩
 oinj:=hm.oinj
 sp b' cH:=by
  obtain⟨h1,h2,h3,h4,h5⟩:=hm.sp b' cH;refine⟨h1,by rw[aF];exact h2,fun o hr=>?_,h4,h5⟩;obtain hr|⟨rfl,_,_⟩:=hr
  ·exact h3 o hr
  exact h5 id ho
 mm i' b' cH:=by
  obtain⟨h1,h2,h3,h4,h5,h6,h8,h7⟩:=hm.mm i' b' cH;have aK:b'≠b:=by rintro rfl;exact h5 id ho
  refine⟨h1,by rw[aF];exact h2,fun o hr=>?_,h4,h5,h6,h8,h7.mono (hm.kJ ho hn hq hpq oH).dD.D4 (Qw b vs p w b' aK)⟩;obtain hr|⟨rfl,_,_⟩:=hr
  ·exact h3 o hr
  exact aK rfl
 minj:=hm.minj
 len i m hi:=by
  by_cases h:i=id
  ·simp[h]at hi;simp[G.extend,h,hi]
  simp[h]at hi;simp[G.extend,h,hm.len i m hi]
 cur0 i hi:=by
  by_cases h:i=id
  ·simp[h]at hi
  simp[h]at hi;simp[G.extend,h,hm.cur0 i hi]
def G.renew(γ:G)(id b q n:Nat):G:={γ with own:=fun i=>if i=id then some b else γ.own i,cur:=fun i=>if i=id then n else γ.cur i,ro:=fun b' o=>γ.ro b' o\/(b'=b/\o<q)}
def au.fP(hm:au N w0 aq γ w B L){id q n:Nat}(hn:γ.cur id<=n)(aK:γ.cur id=n->γ.own id=none)(o:Obj):Ev w γ (w.alloc o) (γ.renew id w.heap.size q n) where
 size:=by simp
 ro b' o' hb hr:=⟨.inl hr,cell_of_heap (Below.heap_alloc w o b' hb)⟩
 β _ _ h:=h
 cur i:=by
  simp only[G.renew];split
  ·rename_i h;subst h;exact hn
  exact zzab _
 mm _ _ h:=h
 lp:=rfl
 own i b' hc hoi:=by
  by_cases hi:i=id
  ·subst hi;simp only[G.renew,if_true]at hc;rw[aK hc.symm]at hoi;cases hoi
  have ai:=(hm.own i b' hoi).2.1;refine⟨by simp[G.renew,hi,hoi],fun arr e he=>⟨arr,by rw[Below.heap_alloc w o b' ai];exact he,zzab _⟩,fun o' hr=>?_⟩;obtain hr|⟨h1,_⟩:=hr
  ·exact hr
  omega
 sp b hb:=⟨hb,Below.heap_alloc w o b (hm.sp b hb).2.1⟩
 ss:=Sz.of_same (Below.heap_alloc w o)
def au.renew(hm:au N w0 aq γ w B L){id q n:Nat}(hn:γ.cur id<=n)(aK:γ.cur id=n->γ.own id=none)(o:Obj):
  au N w0 aq (γ.renew id w.heap.size q n) (w.alloc o) B (fun i=>if i=id then some n else L i) where
 bs:=w0.st _ _ _ _ hm.bs ⟨rfl,rfl,rfl,by simp,fun b hb _=>Below.heap_alloc w _ b hb,(hm.fP hn aK o).ro,fun b hb=>by
  obtain hb|⟨i,hi⟩|hb:=hb
  ·exact .inl (.inl hb)
  ·by_cases h:i=id
   ·simp[G.renew,h]at hi;exact .inr (by omega)
   simp[G.renew,h]at hi;exact .inl (.inr (.inl ⟨i,hi⟩))
  exact .inl (.inr (.inr hb)),fun b' o' hr=>hr.imp_right fun h=>.inr (by rw[h.1];exact zzab _)⟩
 hN:=by have:=hm.hN;simp;omega
 aq b' o' hr:=by
  obtain hr|⟨rfl,_⟩:=hr
  ·exact hm.aq b' o' hr
  exact .inr hm.hN
 robd b' o' hr:=by
  obtain hr|⟨rfl,_⟩:=hr
  ·have:=hm.robd b' o' hr;simp;omega
  simp
 box i cs b' dA h1:=by
  obtain⟨bT,e',h2,h3,h4⟩:=hm.box i cs b' dA h1;exact⟨bT,e',by rw[Below.heap_alloc w _ b' (aT h2)];exact h2,h3.mono (hm.fP hn aK o),h4⟩
 β i b' dA:=by
  obtain⟨h1,h2,h3,h4,hc⟩:=hm.β i b' dA;refine⟨h1,by simp;omega,fun o' hr=>?_,fun i' hr=>?_,hc⟩
  ·obtain hr|⟨rfl,_⟩:=hr
   ·exact h3 o' hr
   omega
  by_cases hi:i'=id
  ·simp[G.renew,hi]at hr;omega
  simp[G.renew,hi]at hr;exact h4 i' hr
 inj:=hm.inj
 own i b' dA:=by
  by_cases hi:i=id
  ·simp[G.renew,hi]at dA;subst dA;exact⟨hm.hN,by simp,n,by simp[hi]⟩
  simp[G.renew,hi]at dA;obtain⟨h1,h2,m,fO⟩:=hm.own i b' dA;exact⟨h1,by simp;omega,m,by simp[hi,fO]⟩
 oinj i i' b' h h':=by
  by_cases hi:i=id<;>by_cases dV:i'=id
  ·rw[hi,dV]
  ·simp[G.renew,hi]at h;simp[G.renew,dV]at h';have:=(hm.own i' b' h').2.1;omega
  ·simp[G.renew,dV]at h';simp[G.renew,hi]at h;have:=(hm.own i b' h).2.1;omega
  simp[G.renew,hi]at h;simp[G.renew,dV]at h';exact hm.oinj i i' b' h h'
 sp b hb:=by
  obtain⟨h1,h2,h3,h4,h5⟩:=hm.sp b hb;refine⟨h1,by simp;omega,fun o' hr=>?_,h4,fun i hi=>?_⟩
  ·obtain hr|⟨rfl,_⟩:=hr
   ·exact h3 o' hr
   omega
  by_cases h:i=id
  ·simp[G.renew,h]at hi;omega
  simp[G.renew,h]at hi;exact h5 i hi
 minj:=hm.minj
 mm i' b hb:=by
  obtain⟨h1,h2,h3,h4,h5,h6,h8,h7⟩:=hm.mm i' b hb;refine⟨h1,by simp;omega,fun o' hr=>?_,h4,fun i hi=>?_,h6,h8,h7.mono (hm.fP hn aK o).dD.D4 (Below.heap_alloc w _ b h2)⟩
  ·obtain hr|⟨rfl,_⟩:=hr
   ·exact h3 o' hr
   omega
  by_cases h:i=id
  ·simp[G.renew,h]at hi;omega
  simp[G.renew,h]at hi;exact h5 i hi
 len i m hi:=by
  by_cases h:i=id
  ·simp[h]at hi;simp[G.renew,h,hi]
  simp[h]at hi;simp[G.renew,h,hm.len i m hi]
 cur0 i hi:=by
  by_cases h:i=id
  ·simp[h]at hi
  simp[h]at hi;simp[G.renew,h,hm.cur0 i hi]
def au.drew(hm:au N w0 aq γ w B L):au N w0 aq γ w.drew B L where
 bs:=w0.st _ _ _ _ hm.bs ⟨rfl,rfl,rfl,zzab _,fun _ _ _=>rfl,fun _ _ _ h=>⟨h,rfl⟩,fun _ hb=>.inl hb,fun _ _ h=>.inl h⟩
 hN:=hm.hN
 aq:=hm.aq
 robd:=hm.robd
 box i cs b hb h1:=by
  obtain⟨arr,e,h2,h3,h4⟩:=hm.box i cs b hb h1;exact⟨arr,e,h2,h3.mono ⟨zzab _,fun _ _ _ h=>⟨h,rfl⟩,fun _ _ h=>h,fun _=>zzab _,fun _ _ h=>h,rfl,fun _ _ _ h=>⟨h,fun arr _ h=>⟨arr,h,zzab _⟩,fun _ h=>h⟩,fun _ h=>⟨h,rfl⟩,Sz.refl w⟩,h4⟩
 β:=hm.β
 inj:=hm.inj
 own:=hm.own
 oinj:=hm.oinj
 sp:=hm.sp
 mm i b hb:=by
  obtain⟨h1,h2,h3,h4,h5,h6,h8,h7⟩:=hm.mm i b hb;exact⟨h1,h2,h3,h4,h5,h6,h8,h7.mono (w':=w.drew) (γ':=γ) ⟨zzab _,fun _ _ _ h=>⟨h,rfl⟩,fun _ _ h=>h,fun _=>zzab _,fun _ _ h=>h,fun _ _ h=>h,fun _ _ _ h=>⟨h,fun arr _ h=>⟨arr,h,zzab _⟩,fun _ h=>h⟩,Sz.refl w⟩ rfl⟩
 minj:=hm.minj
 len:=hm.len
 cur0:=hm.cur0
def Ev.drew(w:World)(γ:G):Ev w γ w.drew γ:=
 ⟨zzab _,fun _ _ _ h=>⟨h,rfl⟩,fun _ _ h=>h,fun _=>zzab _,fun _ _ h=>h,rfl,fun _ _ _ h=>⟨h,fun arr _ h=>⟨arr,h,zzab _⟩,fun _ h=>h⟩,fun _ h=>⟨h,rfl⟩,Sz.refl w⟩
def au.kill(hm:au N w0 aq γ w B L){id b:Nat}(hb:γ.β id=some b):au N w0 aq γ w (fun i=>if i=id then some []else B i) L where
 bs:=hm.bs
 hN:=hm.hN
 aq:=hm.aq
 robd:=hm.robd
 box i cells b' dA h1:=by
  by_cases hi:i=id
  ·subst hi;simp at dA;subst dA;obtain⟨_,_,_,_,c,hc⟩:=hm.β i b' h1;obtain⟨arr,e,h2,_,h4⟩:=hm.box i c b' hc h1;exact⟨arr,e,h2,cD.nil,h4⟩
  simp[hi]at dA;exact hm.box i cells b' dA h1
 β i b' dA:=by
  obtain⟨h1,h2,h3,h4,c,hc⟩:=hm.β i b' dA;refine⟨h1,h2,h3,h4,?_⟩;by_cases hi:i=id
  ·exact⟨[],by simp[hi]⟩
  exact⟨c,by simp[hi,hc]⟩
 inj i i' b' h h':=by
  rcases hm.inj i i' b' h h' with k|k|k
  ·refine .inl ?_;by_cases hi:i=id
   ·simp[hi]
   simp only[if_neg hi];exact k
  ·refine .inr (.inl ?_);by_cases hi:i'=id
   ·simp[hi]
   simp only[if_neg hi];exact k
  exact .inr (.inr k)
 own:=hm.own
 oinj:=hm.oinj
 sp:=hm.sp
 mm i' b' cH:=by
  obtain⟨h1,h2,h3,h4,h5,h6,h8,h7⟩:=hm.mm i' b' cH;have aK:i'≠id:=by rintro rfl;rw[hb]at h8;cases h8
  exact⟨h1,h2,h3,h4,h5,h6,h8,by simp only[aK,if_false];exact h7⟩
 minj:=hm.minj
 len:=hm.len
 cur0:=hm.cur0
def au.share(hm:au N w0 aq γ w B L){id b id':Nat}{cells new:List AV}(hb:γ.β id=some b)(hB:B id=some cells)(qG:cells≠[])(cE:B id'=none){arr:Array Value}{e:TypeId}
  (hh:w.heap[b]?=some (.cells arr e (0,0))){p:Nat}{vs:List Value}(hr:cD w γ new (tG arr p vs).toList)(VR:∀v∈arr.toList,v.oneCell'=true)(h1v:∀v∈vs,v.oneCell'=true):
  Ev w γ (w.setCells b p vs) (γ.box id' b)/\au N w0 aq (γ.box id' b) (w.setCells b p vs) (fun i=>if i=id' then some new else if i=id then some []else B i) L:=by
 have aqx:id'≠id:=by rintro rfl;rw[cE]at hB;cases hB
 have VT:∀i b',γ.β i=some b'->i≠id':=fun i b' h=>by
  rintro rfl;obtain⟨_,_,_,_,c,hc⟩:=hm.β i b' h;rw[cE]at hc;cases hc
 have cc:=hm.cA hb p vs
 have cw:Ev w γ (w.setCells b p vs) (γ.box id' b):=
  ⟨cc.size,cc.ro,fun i b' h=>by simp[G.box,VT i b' h,h],cc.cur,cc.mm,cc.lp,cc.own,cc.sp,cc.ss⟩
 refine⟨cw,?_⟩
 exact{
  bs:=w0.st _ _ _ _ hm.bs ⟨(Xv b (zzab b) vs p w).os,(Xv b (zzab b) vs p w).tape,(Xv b (zzab b) vs p w).output,by rw[aF];exact zzab _,
   fun b' _ zh=>Qw b vs p w b' (by rintro rfl;exact zh (.inl ⟨id,hb⟩)),cw.ro,fun b' cH=>by
    obtain⟨i,hi⟩|cH|cH:=cH
    ·by_cases h:i=id'
     ·simp[G.box,h]at hi;subst hi;exact .inl (.inl ⟨id,hb⟩)
     simp[G.box,h]at hi;exact .inl (.inl ⟨i,hi⟩)
    ·exact .inl (.inr (.inl cH))
    exact .inl (.inr (.inr cH)),fun _ _ h=>.inl h⟩
  hN:=by rw[aF];exact hm.hN
  aq:=hm.aq
  robd:=fun b' o' h=>by rw[aF];exact hm.robd b' o' h
  box:=fun i cs b' dA h1=>by
   by_cases hi:i=id'
   ·subst hi;simp at dA;subst dA;simp[G.box]at h1;subst h1;exact⟨_,e,Xa b vs p w arr e _ hh,hr.mono cw,Wu vs p arr VR h1v⟩
   simp[G.box,hi]at h1;simp only[if_neg hi]at dA;by_cases PM:i=id
   ·subst PM;simp at dA;subst dA;obtain rfl:b'=b:=Option.some.inj (h1.symm.trans hb);exact⟨_,e,Xa b' vs p w arr e _ hh,cD.nil,Wu vs p arr VR h1v⟩
   simp only[if_neg PM]at dA;obtain⟨bT,e',h2,h3,h4⟩:=hm.box i cs b' dA h1;by_cases aK:b'=b
   ·subst aK;rcases hm.inj _ _ _ h1 hb with h|h|h
    ·rw[h]at dA;cases dA;exact⟨_,e,Xa b' vs p w arr e _ hh,cD.nil,Wu vs p arr VR h1v⟩
    ·rw[h]at hB;cases hB;exact absurd rfl qG
    exact absurd h PM
   exact⟨bT,e',by rw[Qw b vs p w b' aK];exact h2,h3.mono cw,h4⟩
  β:=fun i b' dA=>by
   by_cases hi:i=id'
   ·subst hi;simp[G.box]at dA;subst dA;obtain⟨h1,h2,h3,h4,_⟩:=hm.β id b hb;exact⟨h1,by rw[aF];exact h2,h3,h4,new,by simp⟩
   simp[G.box,hi]at dA;obtain⟨h1,h2,h3,h4,c,hc⟩:=hm.β i b' dA;refine⟨h1,by rw[aF];exact h2,h3,h4,?_⟩;by_cases PM:i=id
   ·exact⟨[],by simp[hi,PM,Ne.symm aqx]⟩
   exact⟨c,by simp[hi,PM,hc]⟩
  inj:=fun i i' b' h h'=>by
   have key:∀j,j≠id'->γ.β j=some b->(if j=id' then some new else if j=id then some []else B j)=some []:=fun j hj hβ=>by
    rw[if_neg hj];by_cases Ar:j=id
    ·rw[if_pos Ar]
    rw[if_neg Ar];rcases hm.inj _ _ _ hβ hb with h|h|h
    ·exact h
    ·rw[h]at hB;cases hB;exact absurd rfl qG
    exact absurd h Ar
   by_cases hi:i=id'<;>by_cases dV:i'=id'
   ·exact .inr (.inr (by rw[hi,dV]))
   ·simp[G.box,hi]at h;simp[G.box,dV]at h';subst h;exact .inr (.inl (key i' dV h'))
   ·simp[G.box,hi]at h;simp[G.box,dV]at h';subst h';exact .inl (key i hi h)
   simp[G.box,hi]at h;simp[G.box,dV]at h';simp only[if_neg hi,if_neg dV];rcases hm.inj i i' b' h h' with k|k|k
   ·refine .inl ?_;by_cases PM:i=id
    ·rw[if_pos PM]
    rw[if_neg PM];exact k
   ·refine .inr (.inl ?_);by_cases PM:i'=id
    ·rw[if_pos PM]
    rw[if_neg PM];exact k
   exact .inr (.inr k)
  own:=fun i b' dA=>by
   obtain⟨h1,h2,h3⟩:=hm.own i b' dA;exact⟨h1,by rw[aF];exact h2,h3⟩
  oinj:=hm.oinj
  sp:=fun b' cH=>by
   obtain⟨h1,h2,h3,h4,h5⟩:=hm.sp b' cH;refine⟨h1,by rw[aF];exact h2,h3,fun i hi=>?_,h5⟩;by_cases aN:i=id'
   ·simp[G.box,aN]at hi;subst hi;exact h4 id hb
   simp[G.box,aN]at hi;exact h4 i hi
  mm:=fun i' b' cH=>by
   obtain⟨h1,h2,h3,h4,h5,h6,h8,h7⟩:=hm.mm i' b' cH;have aK:i'≠id:=by rintro rfl;rw[hb]at h8;cases h8
   have ei:i'≠id':=by
    rintro rfl;obtain⟨_,_,hx,_⟩:=h7;rw[cE]at hx;cases hx
   refine⟨h1,by rw[aF];exact h2,h3,fun i hi=>?_,h5,h6,by simp[G.box,ei,h8],?_⟩
   ·by_cases aN:i=id'
    ·simp[G.box,aN]at hi;subst hi;exact h4 id hb
    simp[G.box,aN]at hi;exact h4 i hi
   simp only[aK,ei,if_false];exact h7.mono cw.dD.D4 (Qw b vs p w b' (by rintro rfl;exact h4 id hb))
  minj:=hm.minj
  len:=hm.len
  cur0:=hm.cur0}
open Go Go.RowKit
inductive bK where
 |tmp (t:Nat)
 |const (a:AV)
 |func (f:FuncId)
 |glob (g:Nat)
def vK:Value->AV
 |.bool b=>.bool b
 |.int k n=>.int k n
 |.string s=>.str s
 |.slice none 0 0=>.sl .nil []
 |.nilFunc=>.nilfn
 |.pointer none=>.nilv true
 |.map none=>.nilv false
 |_=>.junk
def As:Value->AV
 |.agg cs=>.agg (cs.toList.map vK)
 |v=>vK v
def Co{w:World}{γ:G}:aB w γ (.sl .nil []) (.slice none 0 0):=
 .sl (rows:=[]) 0 0 0 (fun _ _=>undef) (zzab _) (fun _=>rfl) (fun h=>absurd rfl h) (fun _ h=>by cases h) (fun i j c h=>by simp[Qt]at h) (fun i j c h=>by simp[Qt]at h) rfl
def nk(w:World)(γ:G)(v:Value):aB w γ (vK v) v:=by
 unfold vK;split
 ·exact .bool _
 ·exact .int _ _
 ·exact .str _
 ·exact Co
 ·exact .nilfn
 ·exact .nilv true
 ·exact .nilv false
 exact .junk _
def Jw(w:World)(γ:G)(v:Value):aB w γ (As v) v:=by
 unfold As;split
 ·refine .agg (by simp) fun i c u h1 h2=>?_;simp at h1;obtain⟨u',h3,h4⟩:=h1;rw[h2]at h3;cases h3;subst h4;exact nk w γ u
 exact nk w γ _
def aA:Operand->bK
 |.tmp t=>.tmp t
 |.const v=>.const (As v)
 |.func f=>.func f
 |.global g=>.glob g
def ev(gl:Nat->AV)(T:List AV):bK->AV
 |.tmp t=>T.getD t .junk
 |.const a=>a
 |.func f=>.fn f [] []
 |.glob g=>gl g
inductive aD where
 |mv (x:bK)
 |pick (c a b:bK)
 |alloc (zs:List AV)
 |box (x:bK)
 |build (zs:List AV) (parts:List (Nat×Nat×bK))
 |bsl (sz len:Nat) (parts:List (Nat×bK))
 |load (agg:Bool) (n:Nat) (x:bK)
 |store (n:Nat) (x v:bK)
 |faddr (off:Nat) (x:bK)
 |fld (agg:Bool) (off n:Nat) (x:bK)
 |iaddr (sz:Nat) (x i:bK)
 |iaddrA (len sz:Nat) (x i:bK)
 |aly (x i:bK)
 |idxA (agg:Bool) (n sz:Nat) (x i:bK)
 |bin (op:BinOp) (x y:bK)
 |binB (op:BinOp) (x y:bK)
 |un (op:UnOp) (x:bK)
 |conv(k:IntKind) (x:bK)
 |len (x:bK)
 |lenS (x:bK)
 |mn (x y:bK)
 |mx (x y:bK)
 |mm3 (big:Bool) (x y z:bK)
 |mkfn (f:FuncId) (first cap:List bK)
 |ext (x:bK) (i:Nat)
 |call (f:bK) (args:List bK)
 |app (sz bytes:Nat) (s x:bK)
 |slS (x:bK) (lo hi:Option bK)
 |nilc (x:bK)
 |nilS (neg:Bool) (x:bK)
 |nilP (neg:Bool) (x:bK)
 |b2s (x:bK)
 |look (kn:Nat) (ok:Bool) (z:AV) (x k:bK)
 |mupd (kn:Nat) (x k v:bK)
 |mkmap (kn:Nat)
 |ment (kn:Nat) (z:AV) (x k:bK)
 |esto (x s v:bK)
 |rng (x:bK)
 |nxt (x:bK)
 |entr (x:bK)
 |mks0 (sz bytes:Nat) (c:bK)
 |slL (sz:Nat) (x:bK) (lo hi:Option bK)
 |slA (n sz:Nat) (x:bK) (lo hi:Option bK)
 |eqA (neg:Bool) (ks:List Nat) (x y:bK)
 |mks (sz bytes:Nat) (zs:List AV) (l c:bK)
 |cpy (sz:Nat) (x y:bK)
 |clr (zs:List AV) (x:bK)
 |bad
def zc(P:Program)(t:TypeId):Option (List AV):=do
 let i <- P.info? t
 let z <- i.zero
 pure (z.cells.toList.map vK)
def Ja(P:Program)(t:TypeId):Bool:=
 match P.underlying t with
 |some (.struct _)|some (.array _ _)=>true
 |_=>false
def Wj(P:Program)(t:TypeId)(parts:Array (Nat×Operand)):aD:=
 match P.underlying t,zc P t with
 |some (.struct fields),some zs=>
  match parts.toList.mapM (fun p:Nat×Operand=>(fields[p.1]?).bind fun f=>(P.info? f.type).map fun i=>(f.offset,i.size,aA p.2))with
  |some ps=>if fields.toList.all (fun f=>(P.info? f.type).isSome)then .build zs ps else .bad
  |none=>.bad
 |_,_=>.bad
def EN(P:Program)(t:TypeId):Option Nat:=
 match P.underlying t with
 |some .bool=>some 0
 |some (.int _)=>some 1
 |some .string=>some 2
 |_=>none
def Te(P:Program):List Field->Nat->Option (List Nat)
 |[],_=>some []
 |f::r,i=>(match(f.offset==i)&&(f.name != "_"),EN P f.type,Te P r (i+1)with
  |true,some k,some ks=>some (k::ks)
  |_,_,_=>none)
def zi(P:Program)(t:TypeId)(fs:List Field)(op:BinOp)(x y:Operand):aD:=
 match Te P fs 0,(P.stoodInHeld t||P.eqGuardType P.depth t),op with
 |some ks,false,.eql=>.eqA false ks (aA x) (aA y)
 |some ks,false,.neq=>.eqA true ks (aA x) (aA y)
 |_,_,_=>.bad
def Zr(P:Program)(c:Call):aD:=
 match c.callee with
 |.value f=>.call (aA f) (c.args.toList.map aA)
 |.builtin .len=>
  match c.args.toList,c.argTypes.toList with
  |[x],[t]=>(match P.underlying t with|some .string=>.lenS (aA x)|some (.slice _)=>.len (aA x)|_=>.bad)
  |_,_=>.bad
 |.builtin .min=>(match c.args.toList with|[x,y]=>.mn (aA x) (aA y)|[x,y,z]=>.mm3 false (aA x) (aA y) (aA z)|_=>.bad)
 |.builtin .max=>(match c.args.toList with|[x,y]=>.mx (aA x) (aA y)|[x,y,z]=>.mm3 true (aA x) (aA y) (aA z)|_=>.bad)
 |.builtin .append=>
  match c.args.toList,c.argTypes.toList with
  |[s,x],[t,t']=>
   (match P.underlying t,P.underlying t' with
   |some (.slice e),some (.slice e')=>
    (match P.info? e with
    |some i=>if t==t'&&((i.zero.map fun z=>(z.cells.size,z.cells.toList.all (·.oneCell')))==some (i.size,true))&&(i.size !=0)&&(i.bytes !=0)then .app i.size i.bytes (aA s) (aA x)else .bad
    |none=>.bad)
   |_,_=>.bad)
  |_,_=>.bad
 |.builtin .copy=>
  match c.args.toList,c.argTypes.toList with
  |[x,y],t::_=>(match P.underlying t with
   |some (.slice e)=>(match P.info? e with|some i=>.cpy i.size (aA x) (aA y)|none=>.bad)
   |_=>.bad)
  |_,_=>.bad
 |.builtin .clear=>
  match c.args.toList,c.argTypes.toList with
  |[x],[t]=>(match P.underlying t with
   |some (.slice e)=>(match zc P e with|some zs=>.clr zs (aA x)|none=>.bad)
   |_=>.bad)
  |_,_=>.bad
 |_=>.bad
def mz(op:BinOp)(x y:Operand):aD:=
 match op,y with
 |.eql,.const (.slice none 0 0)=>.nilS false (aA x)
 |.neq,.const (.slice none 0 0)=>.nilS true (aA x)
 |_,_=>.bad
def Qch(op:BinOp)(x y:Operand):aD:=
 match op,y with
 |.eql,.const (.pointer none)=>.nilP false (aA x)
 |.neq,.const (.pointer none)=>.nilP true (aA x)
 |_,_=>.bad
def EO(P:Program)(t:TypeId):Option (Nat×AV):=
 match P.underlying t with
 |some (.map k v)=>(match P.underlying k,P.info? v with
  |some (.int .i64),some i=>i.zero.map fun z=>(0,As z)
  |some (.struct fs),some i=>(match Te P fs.toList 0 with
   |some ks=>if ks.all (·==1)&&(fs.size !=0)&&!(P.stoodInHeld k)then i.zero.map fun z=>(fs.size,As z)else none
   |none=>none)
  |_,_=>none)
 |_=>none
def tr(P:Program)(o:Oper):aD:=
 match o.op with
 |.move x|.assign x=>.mv (aA x)
 |.pick c a b=>.pick (aA c) (aA a) (aA b)
 |.alloc t=>(match zc P t with|some zs=>.alloc zs|none=>.bad)
 |.box _ x=>.box (aA x)
 |.build t parts=>Wj P t parts
 |.buildSlice t len parts=>
  (match P.underlying t with
  |some (.slice e)=>
   (match P.info? e with
   |some i=>if((i.zero.map fun z=>z.cells.size)==some i.size)&&(i.size !=0)&&decide (len*i.size<=16777216)then .bsl i.size len (parts.toList.map fun p=>(p.1,aA p.2))else .bad
   |none=>.bad)
  |_=>.bad)
 |.load t a=>(match P.info? t,P.underlying t with|some i,some _=>if Ja P t then .load true i.size (aA a)else .load false 1 (aA a)|_,_=>.bad)
 |.store t a v=>(match P.info? t with|some i=>.store i.size (aA a) (aA v)|none=>.bad)
 |.fieldAddr s x f=>
  (match P.underlying s with
  |some (.struct fields)=>
   (match fields[f]? with
   |some fl=>(match P.info? fl.type with|some i=>if i.size==0 then .bad else .faddr fl.offset (aA x)|none=>.bad)
   |none=>.bad)
  |_=>.bad)
 |.field t x f=>
  (match P.underlying t with
  |some (.struct fields)=>
   (match fields[f]? with
   |some fl=>(match P.info? fl.type,P.underlying fl.type with|some i,some _=>if Ja P fl.type then .fld true fl.offset i.size (aA x)else .fld false fl.offset 1 (aA x)|_,_=>.bad)
   |none=>.bad)
  |_=>.bad)
 |.indexAddr t x i=>
  (match P.underlying t with
  |some (.slice e)=>(match P.info? e with|some j=>.iaddr j.size (aA x) (aA i)|none=>.bad)
  |some (.array n e)=>(match P.info? e with|some j=>.iaddrA n j.size (aA x) (aA i)|none=>.bad)
  |_=>.bad)
 |.index t x i=>(match P.underlying t with
  |some .string=>.aly (aA x) (aA i)
  |some (.array n e)=>(match P.info? e,P.underlying e with|some j,some _=>if Ja P e then .idxA true n j.size (aA x) (aA i)else(if j.size==1 then .idxA false n 1 (aA x) (aA i)else .bad)|_,_=>.bad)
  |_=>.bad)
 |.binOp op t x y _=>
  (match P.underlying t with
  |some .bool=>.binB op (aA x) (aA y)
  |some (.int _)=>.bin op (aA x) (aA y)
  |some .string=>.bin op (aA x) (aA y)
  |some (.slice _)=>mz op x y
  |some (.pointer _)=>Qch op x y
  |some (.struct fs)=>zi P t fs.toList op x y
  |_=>.bad)
 |.unOp op _ x=>.un op (aA x)
 |.convert s d x=>
  (match P.underlying s,P.underlying d with
  |some (.int _),some (.int k)=>.conv k (aA x)
  |some (.slice e),some .string=>(match P.underlying e with|some (.int .u8)=>.b2s (aA x)|_=>.bad)
  |_,_=>.bad)
 |.makeFunc (.func f) first cap=>.mkfn f (first.toList.map aA) (cap.toList.map aA)
 |.extract x i=>.ext (aA x) i
 |.nilCheck x=>.nilc (aA x)
 |.slice t x lo hi none=>(match P.underlying t with
  |some .string=>.slS (aA x) (lo.map aA) (hi.map aA)
  |some (.slice e)=>(match P.info? e with|some i=>.slL i.size (aA x) (lo.map aA) (hi.map aA)|none=>.bad)
  |some (.array n e)=>(match P.info? e with|some i=>.slA n i.size (aA x) (lo.map aA) (hi.map aA)|none=>.bad)
  |_=>.bad)
 |.lookup t x k ok=>(match EO P t with|some (kn,z)=>.look kn ok z (aA x) (aA k)|none=>.bad)
 |.mapUpdate t x k v=>(match EO P t with|some (kn,_)=>.mupd kn (aA x) (aA k) (aA v)|none=>.bad)
 |.makeMap t none=>(match EO P t with|some (kn,_)=>.mkmap kn|none=>.bad)
 |.mapEntry t x k=>(match EO P t with|some (kn,z)=>.ment kn z (aA x) (aA k)|none=>.bad)
 |.entryStore _ x s v=>.esto (aA x) (aA s) (aA v)
 |.range t x=>(match EO P t with|some _=>.rng (aA x)|none=>.bad)
 |.next x false=>.nxt (aA x)
 |.entry x=>.entr (aA x)
 |.makeSlice t l c=>
  (match P.underlying t with
  |some (.slice e)=>(match P.info? e,l with
   |some i,.const (.int .i64 0)=>(if((i.zero.map fun z=>(z.cells.size,z.cells.toList.all (·.oneCell')))==some (i.size,true))&&(i.size !=0)then .mks0 i.size i.bytes (aA c)else .bad)
   |some i,l=>(match zc P e with|some zs=>.mks i.size i.bytes zs (aA l) (aA c)|none=>.bad)
   |_,_=>.bad)
  |_=>.bad)
 |.call c=>Zr P c
 |_=>.bad
def Qv:AV->Bool
 |.bool _|.int _ _|.str _|.sl _ _|.ep _ _|.ptr _ _|.fn _ _ _|.nilfn|.yld _|.mp _|.it _|.nilv _|.bs _ _ _ _=>true
 |_=>false
def bare:AV->Bool
 |.junk|.gd _ _|.aW _|.aJ _ _|.mitr _ _ _=>false
 |_=>true
def cellsOf:AV->List AV
 |.agg cs=>cs
 |a=>[a]
def aV(sz:Nat):Nat->List AV->List (List AV)
 |0,_=>[]
 |n+1,l=>l.take sz::aV sz n (l.drop sz)
def Qad(sz:Nat):∀(n:Nat)(l:List AV),aV sz n l=(List.range n).map fun i=>(l.drop (i*sz)).take sz
 |0,_=>rfl
 |n+1,l=>by
  rw[aV,Qad sz n,zzhh,zzaz,zzcy];simp only[zzhq,zzde,List.cons.injEq,true_and];refine zzd fun i _=>?_;simp only[Function.comp,zzds,zzhr];rw[zzff]
def bF(m:AM):Nat->AV->AV
 |0,_=>.junk
 |d+1,a=>match a with
  |.agg cs=>.agg (cs.map (bF m d))
  |.aW cs=>.aW (cs.map (bF m d))
  |.fn f first cap=>.fn f (first.map (bF m d)) (cap.map (bF m d))
  |.sl (.own _ _) rows=>.sl .ro rows
  |.ptr id o=>.ep ((m.boxes.getD id []).map (bF m d)) o
  |.gd _ _=>.junk
  |.yld _=>.junk
  |.mp _=>.junk
  |.it _=>.junk
  |.aJ _ _=>.junk
  |.mitr _ _ _=>.junk
  |.bs id off len sz=>bif Nat.ble (off+len*sz) (m.boxes.getD id []).length then .sl .ro (aV sz len (((m.boxes.getD id []).map (bF m d)).drop off))else .junk
  |a=>a
def Yj:Nat->AV->Bool
 |0,_=>true
 |d+1,a=>match a with
  |.agg cs=>cs.any (Yj d)
  |.aW cs=>cs.any (Yj d)
  |.fn _ first cap=>first.any (Yj d)||cap.any (Yj d)
  |.ptr _ _=>true
  |.bs _ _ _ _=>true
  |_=>false
def iV:AV->Bool
 |.bool _|.int _ _|.str _=>true
 |_=>false
def flat:AV->Bool
 |.aW cs=>cs.all iV
 |a=>iV a
def bC(P:Program)(f:FuncId):Prop:=∃fn,P.funcs[f]?=some fn/\fn.body.isNone=false/\(fn.name== "runtime.NumGoroutine")=false
def Pure(P:Program)(gl:Nat->AV)(f:FuncId)(as:List AV)(r:AV):Prop:=
 bC P f/\∀(ro:Nat->Nat->Prop)(w:World)(vs:List Value),(∀g,aB w (G0 ro) (gl g) (.pointer (some ⟨g,0,none⟩)))->ak w (G0 ro) as vs->
  Calls P f vs.toArray w fun e w'=>∃v,e=.returned v/\Below w.heap.size w w'/\aB w' (G0 fun b o=>ro b o\/w.heap.size<=b) r v
def aqy(P:Program)(gl:Nat->AV)(f:FuncId)(as:List AV)(m:AM)(r:AV):Prop:=
 bC P f/\∀(N:Nat)(w0:ir)(aq:Nat->Nat->Prop)(γ:G)(w:World)(B:Nat->Option (List AV))(L:Nat->Option Nat)(vs:List Value),au N w0 aq γ w B L->
  (∀id cells,m.boxes[id]?=some cells->B id=some cells)->(∀g,aB w γ.cT (gl g) (.pointer (some ⟨g,0,none⟩)))->ak w γ as vs->
  Calls P f vs.toArray w fun e w'=>∃v γ',e=.returned v/\Ev w γ w' γ'/\au N w0 aq γ' w' B L/\aB w' γ' r v
def callV(P:Program)(gl:Nat->AV)(f:FuncId)(as:List AV)(m:AM):AV->Prop×AV
 |.gd _ r=>(aqy P gl f as m r,r)
 |r=>(Pure P gl f (as.map (bF m 6)) r/\(as.any (Yj 6)=true->flat r=true),r)
def binI(op:BinOp)(k:IntKind)(a b:Int):Prop×AV:=
 match op with
 |.add=>(True,.int k (k.wrap (a+b)))
 |.sub=>(True,.int k (k.wrap (a-b)))
 |.mul=>(True,.int k (k.wrap (a*b)))
 |.quo=>(b≠0,.int k (k.wrap (a.tdiv b)))
 |.rem=>(b≠0,.int k (a.tmod b))
 |.eql=>(True,.bool (a==b))
 |.neq=>(True,.bool (a !=b))
 |.lss=>(True,.bool (decide (a<b)))
 |.leq=>(True,.bool (decide (a<=b)))
 |.gtr=>(True,.bool (decide (b<a)))
 |.geq=>(True,.bool (decide (b<=a)))
 |.and=>(True,.int k (k.wrap (BitVec.ofInt k.bits a&&& BitVec.ofInt k.bits b).toNat))
 |.or=>(True,.int k (k.wrap (BitVec.ofInt k.bits a|||BitVec.ofInt k.bits b).toNat))
 |.xor=>(True,.int k (k.wrap (BitVec.ofInt k.bits a ^^^ BitVec.ofInt k.bits b).toNat))
 |.andNot=>(True,.int k (k.wrap (BitVec.ofInt k.bits a&&& ~~~ BitVec.ofInt k.bits b).toNat))
 |_=>(False,.junk)
def binS(op:BinOp)(a b:ByteArray):Prop×AV:=
 match op with
 |.add=>(a.size+b.size<=9223372036854775807,.str (a++b))
 |.eql=>(True,.bool (a.toList==b.toList))
 |.neq=>(True,.bool (!(a.toList==b.toList)))
 |_=>(False,.junk)
def binV(op:BinOp)(x y:AV):Prop×AV:=
 match op with
 |.shl=>(match x,y with|.int k a,.int _ b=>(0<=b,.int k (k.wrap (a*2 ^ (min b.toNat k.bits))))|_,_=>(False,.junk))
 |.shr=>(match x,y with|.int k a,.int _ b=>(0<=b,.int k (a.fdiv (2 ^ (min b.toNat k.bits))))|_,_=>(False,.junk))
 |op=>match x,y with
  |.int k a,.int k' b=>(k=k'/\(binI op k a b).1,(binI op k a b).2)
  |.str a,.str b=>binS op a b
  |_,_=>(False,.junk)
def binBool(op:BinOp)(x y:AV):Prop×AV:=
 match op,x,y with
 |.eql,.bool a,.bool b=>(True,.bool (a==b))
 |.neq,.bool a,.bool b=>(True,.bool (!(a==b)))
 |_,_,_=>(False,.junk)
def isB:AV->Bool
 |.bool _=>true
 |_=>false
def bOf:AV->Bool
 |.bool b=>b
 |_=>false
def asB:AV->Option (Bool×Bool)
 |.bool b=>some (true,b)
 |.gd g a=>some (bif g then isB a else false,bOf a)
 |_=>none
def fillA(cs:List AV):List (Nat×Nat×AV)->Prop×List AV
 |[]=>(True,cs)
 |(off,size,a)::r=>let q:=fillA (setA cs off (cellsOf a)) r;(bare a=true/\(cellsOf a).length=size/\off+size<=cs.length/\q.1,q.2)
def Ya(agg:Bool)(n:Nat)(cs:List AV):Prop×AV:=((cs.take n).length=n/\(agg=false->n=1),if agg then .agg (cs.take n)else cs.getD 0 .junk)
def intsA:List AV->Option (List Int)
 |[]=>some []
 |.int .i64 n::r=>(match intsA r with|some ns=>some (n::ns)|none=>none)
 |_=>none
def keyA:Nat->AV->Option (List Int)
 |0,.int .i64 n=>some [n]
 |kn+1,.agg cs=>(match intsA cs with|some ns=>if ns.length=kn+1 then some ns else none|none=>none)
 |_,_=>none
def keyAV:Nat->List Int->AV
 |0,[n]=>.int .i64 n
 |0,_=>.junk
 |_+1,ns=>.agg (ns.map (AV.int .i64))
def Xj(n:List Int):List (List Int×AV)->Nat->Option (Nat×AV)
 |[],_=>none
 |(k,a)::r,i=>if n=k then some (i,a)else Xj n r (i+1)
def byteOf:List AV->Option UInt8
 |[.int .u8 n]=>some (UInt8.ofNat n.toNat)
 |_=>none
def Wh:List (List AV)->Option (List UInt8)
 |[]=>some []
 |r::rs=>(match byteOf r,Wh rs with|some b,some l=>some (b::l)|_,_=>none)
def kindF:Nat->AV->AV->Bool
 |0,.bool _,.bool _=>true
 |1,.int k _,.int k' _=>decide (k=k')
 |2,.str _,.str _=>true
 |_,_,_=>false
def eqF:AV->AV->Bool
 |.bool a,.bool b=>a==b
 |.int _ a,.int _ b=>a==b
 |.str a,.str b=>a.toList==b.toList
 |_,_=>false
def Qcm:List Nat->List AV->List AV->Bool
 |[],[],[]=>true
 |k::ks,a::as,b::bs=>kindF k a b&&Qcm ks as bs
 |_,_,_=>false
def eqFs:List AV->List AV->Bool
 |a::as,b::bs=>eqF a b&&eqFs as bs
 |_,_=>true
def loOf:Option AV->Option Int
 |none=>some 0
 |some (.int _ l)=>some l
 |_=>none
def hiOf(n:Nat):Option AV->Option Int
 |none=>some n
 |some (.int _ h)=>some h
 |_=>none
def bG:Nat->List AV->List AV
 |0,_=>[]
 |n+1,zs=>zs++bG n zs
def cellsS(m:AM)(sz:Nat):AV->Prop×List AV
 |.sl _ rows=>((∀row∈rows,row.length=sz),rows.flatten)
 |.bs id off len gz=>(gz=sz/\off+len*sz<=(m.boxes.getD id []).length/\id<m.boxes.length,((m.boxes.getD id []).drop off).take (len*sz))
 |_=>(False,[])
def lenS:AV->Nat
 |.sl _ rows=>rows.length
 |.bs _ _ len _=>len
 |_=>0
def mutO(orc:Nat->FuncId->List AV->AV)(dst:Option Nat):Bool:=match orc (dst.getD 0) 999999 []with
 |.aJ _ []=>true
 |_=>false
def VU:Rt->Bool
 |.full|.nil=>true
 |_=>false
def VV(big:Bool)(a b:Int):Int:=if big=true then(if a<b then b else a)else(if b<a then b else a)
def rop(P:Program)(gl:Nat->AV)(orc:Nat->FuncId->List AV->AV)(e:bK->AV)(m:AM)(dst:Option Nat):aD->Prop×AV
 |.mv x=>(True,e x)
 |.pick c a b=>(match asB (e c),asB (e a),asB (e b)with
  |some (g0,c),some (g1,x),some (g2,y)=>(g0=true/\(c=true->g1=true)/\(c=false->g2=true),.bool (bif c then x else y))
  |_,_,_=>(False,.junk))
 |.build zs parts=>let q:=fillA zs (parts.map fun p=>(p.1,p.2.1,e p.2.2));(q.1,.agg q.2)
 |.bsl sz len parts=>let q:=fillA (List.replicate (len*sz) .junk) (parts.map fun p=>(p.1*sz,sz,e p.2));
  (q.1/\q.2.all Qv=true/\q.2.any (Yj 6)=false,.sl .full (aV sz len (q.2.map (bF m 6))))
 |.load agg n x=>(match e x with
  |.ptr id o=>Ya agg n ((m.boxes.getD id []).drop o)
  |.ep row o=>Ya agg n (row.drop o)
  |_=>(False,.junk))
 |.faddr off x=>(match e x with
  |.ptr id o=>(True,.ptr id (o+off))
  |.ep row o=>(True,.ep row (o+off))
  |_=>(False,.junk))
 |.fld agg off n x=>(match e x with
  |.agg cs=>Ya agg n (cs.drop off)
  |_=>(False,.junk))
 |.iaddr sz x i=>(match e x,e i with
  |.sl _ rows,.int _ i=>((0<=i/\i<rows.length)/\(rows.getD i.toNat []).length=sz,.ep (rows.getD i.toNat []) 0)
  |.bs id off len gz,.int _ i=>((0<=i/\i<len)/\gz=sz,.ptr id (off+i.toNat*sz))
  |_,_=>(False,.junk))
 |.iaddrA len sz x i=>(match e x,e i with
  |.ptr id o,.int _ i=>(0<=i/\i<len,.ptr id (o+i.toNat*sz))
  |.ep row o,.int _ i=>(0<=i/\i<len,.ep row (o+i.toNat*sz))
  |_,_=>(False,.junk))
 |.aly x i=>(match e x,e i with
  |.str s,.int _ i=>(0<=i/\i<s.size,.int .u8 (s.data.toList.getD i.toNat 0).toNat)
  |_,_=>(False,.junk))
 |.idxA agg n sz x i=>(match e x,e i with
  |.agg cs,.int _ i=>((0<=i/\i<n)/\(Ya agg sz (cs.drop (i.toNat*sz))).1,(Ya agg sz (cs.drop (i.toNat*sz))).2)
  |_,_=>(False,.junk))
 |.bin op x y=>binV op (e x) (e y)
 |.binB op x y=>binBool op (e x) (e y)
 |.un op x=>(match op,e x with
  |.not,.bool b=>(True,.bool (!b))
  |.neg,.int k n=>(True,.int k (k.wrap (0-n)))
  |.xor,.int k n=>(True,.int k (k.wrap (BitVec.ofInt k.bits (if k.signed then -1 else k.max) ^^^ BitVec.ofInt k.bits n).toNat))
  |_,_=>(False,.junk))
 |.conv k x=>(match e x with
  |.int _ n=>(True,.int k (k.wrap n))
  |_=>(False,.junk))
 |.len x=>(match e x with
  |.sl _ rows=>(True,.int .i64 rows.length)
  |.bs _ _ len _=>(True,.int .i64 len)
  |_=>(False,.junk))
 |.lenS x=>(match e x with
  |.str s=>(True,.int .i64 s.size)
  |_=>(False,.junk))
 |.mn x y=>(match e x,e y with
  |.int k a,.int _ b=>(True,.int k (if b<a then b else a))
  |_,_=>(False,.junk))
 |.mx x y=>(match e x,e y with
  |.int k a,.int _ b=>(True,.int k (if a<b then b else a))
  |_,_=>(False,.junk))
 |.mm3 big x y z=>(match e x,e y,e z with
  |.int k a,.int _ b,.int _ c=>(True,.int k (VV big (VV big a b) c))
  |_,_,_=>(False,.junk))
 |.mkfn f first cap=>(True,.fn f (first.map e) (cap.map e))
 |.ext x i=>(match e x with
  |.aW vs=>(i<vs.length,vs.getD i .junk)
  |_=>(False,.junk))
 |.call f args=>(match e f with
  |.fn f first cap=>callV P gl f (first++args.map e++cap) m (orc (dst.getD 0) f ((first++args.map e++cap).map (bF m 6)))
  |_=>(False,.junk))
 |.app sz bytes s x=>(match e s,e x with
  |.sl rt rows,.sl _ aC=>(VU rt=true/\(∀row∈rows++aC,row.length=sz)/\(3*(rows.length+aC.length)+4000)*bytes<=562949953421312,.sl .ro (rows++aC))
  |_,_=>(False,.junk))
 |.slS x lo hi=>(match e x,lo.map e,hi.map e with
  |.str s,some (.int _ l),some (.int _ h)=>(0<=l/\l<=h/\h<=s.size,.str (s.extract l.toNat h.toNat))
  |.str s,none,some (.int _ h)=>(0<=h/\h<=s.size,.str (s.extract 0 h.toNat))
  |.str s,some (.int _ l),none=>(0<=l/\l<=s.size,.str (s.extract l.toNat s.size))
  |_,_,_=>(False,.junk))
 |.nilc x=>(match e x with
  |.ptr id o=>(True,.ptr id o)
  |.ep row o=>(True,.ep row o)
  |.fn f first cap=>(True,.fn f first cap)
  |_=>(False,.junk))
 |.nilS neg x=>(match e x with
  |.sl .nil _=>(True,.bool (!neg))
  |.sl .nn _=>(True,.bool neg)
  |.sl _ (_::_)=>(True,.bool neg)
  |.bs _ _ _ _=>(True,.bool neg)
  |_=>(False,.junk))
 |.nilP neg x=>(match e x with
  |.ptr _ _=>(True,.bool neg)
  |.ep _ _=>(True,.bool neg)
  |.nilv true=>(True,.bool (!neg))
  |_=>(False,.junk))
 |.b2s x=>(match e x with
  |.sl _ rows=>(match Wh rows with
   |some l=>(True,.str ⟨l.toArray⟩)
   |none=>(False,.junk))
  |.bs id off len sz=>(match Wh (aV 1 len ((m.boxes.getD id []).drop off))with
   |some l=>(sz=1/\off+len<=(m.boxes.getD id []).length,.str ⟨l.toArray⟩)
   |none=>(False,.junk))
  |_=>(False,.junk))
 |.eqA neg ks x y=>(match e x,e y with
  |.agg xs,.agg ys=>(Qcm ks xs ys=true,.bool (if neg then !(eqFs xs ys)else eqFs xs ys))
  |_,_=>(False,.junk))
 |.slL sz x lo hi=>(match e x with
  |.sl _ rows=>(match loOf (lo.map e),hiOf rows.length (hi.map e)with
   |some l,some h=>((0<=l/\l<=h/\h<=rows.length)/\∀row∈rows,row.length=sz,.sl .ro ((rows.drop l.toNat).take (h.toNat-l.toNat)))
   |_,_=>(False,.junk))
  |.bs id off len gz=>(match loOf (lo.map e),hiOf len (hi.map e)with
   |some l,some h=>((0<=l/\l<=h/\h<=len)/\gz=sz,if l<h\/l=0 then .bs id (off+l.toNat*sz) (h.toNat-l.toNat) sz else .sl .nn [])
   |_,_=>(False,.junk))
  |_=>(False,.junk))
 |.slA n sz x lo hi=>(match e x with
  |.ptr id o=>(match loOf (lo.map e),hiOf n (hi.map e)with
   |some l,some h=>((0<=l/\l<=h/\h<=n)/\o+n*sz<=(m.boxes.getD id []).length/\id<m.boxes.length,if l<h\/l=0 then .bs id (o+l.toNat*sz) (h.toNat-l.toNat) sz else .sl .nn [])
   |_,_=>(False,.junk))
  |_=>(False,.junk))
 |.look kn ok z x k=>(match e x,keyA kn (e k)with
  |.mp id,some n=>(match m.boxes.getD id []with
   |[.aJ Au kvs]=>(Au=kn,(match Xj n kvs 0 with
    |some (_,a)=>(if ok then .aW [a,.bool true]else a)
    |none=>(if ok then .aW [z,.bool false]else z)))
   |_=>(False,.junk))
  |_,_=>(False,.junk))
 |.entr x=>(match e x with
  |.it id=>(match m.boxes.getD id []with
   |[.mitr mid n seen]=>(match m.boxes.getD mid [],seen.getLast? with
    |[.aJ kn kvs],some i=>(kvs.length=n/\i<n,.aW [keyAV kn (kvs.getD i ([],.junk)).1,(kvs.getD i ([],.junk)).2])
    |_,_=>(False,.junk))
   |_=>(False,.junk))
  |_=>(False,.junk))
 |_=>(False,.junk)
def sop(P:Program)(gl:Nat->AV)(orc:Nat->FuncId->List AV->AV)(e:bK->AV)(m:AM)(dst:Option Nat)(so:aD):Prop×AV×AM:=
 match so with
 |.alloc zs=>(zs.all Qv=true,.ptr m.boxes.length 0,{m with boxes:=m.boxes++[zs]})
 |.box x=>(bare (e x)=true/\(cellsOf (e x)).all Qv=true,.ptr m.boxes.length 0,{m with boxes:=m.boxes++[cellsOf (e x)]})
 |.store n x v=>(match e x with
  |.ptr id o=>(bare (e v)=true/\(cellsOf (e v)).all Qv=true/\(cellsOf (e v)).length=n/\o+n<=(m.boxes.getD id []).length/\id<m.boxes.length,
    .junk,{m with boxes:=m.boxes.set id (setA (m.boxes.getD id []) o (cellsOf (e v)))})
  |_=>(False,.junk,m))
 |.app sz bytes s x=>(match e s,e x with
  |.sl (.own id gz) rows,.sl _ aC=>(gz=sz/\m.lens[id]?=some rows.length/\(∀row∈rows++aC,row.length=sz)/\(3*(rows.length+aC.length)+4000)*bytes<=562949953421312,
    .sl (.own id sz) (rows++aC),{m with lens:=m.lens.set id (rows.length+aC.length)})
  |.bs id off len gz,y=>(((gz=sz/\off=0/\id<m.boxes.length/\m.boxes.getD id []≠[]/\len*sz<=(m.boxes.getD id []).length)/\(3*(len+lenS y)+4000)*bytes<=562949953421312)/\(cellsS m sz y).1,
    .bs m.boxes.length 0 (len+lenS y) sz,{m with boxes:=m.boxes.set id []++[(m.boxes.getD id []).take (len*sz)++(cellsS m sz y).2]})
  |.sl (.own id gz) rows,.bs gO gA cr sz2=>((gz=sz/\sz2=sz)/\m.lens[id]?=some rows.length/\(∀row∈rows,row.length=sz)/\(3*(rows.length+cr)+4000)*bytes<=562949953421312/\gA+cr*sz<=(m.boxes.getD gO []).length/\gO<m.boxes.length/\(m.boxes.getD gO []).all Qv=true/\(m.boxes.getD gO []).any (Yj 6)=false,
    .sl (.own id sz) (rows++aV sz cr (((m.boxes.getD gO []).map (bF m 6)).drop gA)),{m with lens:=m.lens.set id (rows.length+cr)})
  |.sl rt rows,y=>if mutO orc dst=true then(if lenS y=0 then((cellsS m sz y).1,.sl rt rows,m)else((VU rt=true/\lenS y≠0/\(∀row∈rows,row.length=sz)/\(3*(rows.length+lenS y)+4000)*bytes<=562949953421312)/\(cellsS m sz y).1,
    .bs m.boxes.length 0 (rows.length+lenS y) sz,{m with boxes:=m.boxes++[rows.flatten++(cellsS m sz y).2]}))
   else(match y with
   |.sl _ aC=>(VU rt=true/\(∀row∈rows++aC,row.length=sz)/\(3*(rows.length+aC.length)+4000)*bytes<=562949953421312,
    .sl (.own m.lens.length sz) (rows++aC),{m with lens:=m.lens++[rows.length+aC.length]})
   |.bs gO gA cr sz2=>((VU rt=true/\sz2=sz)/\(∀row∈rows,row.length=sz)/\(3*(rows.length+cr)+4000)*bytes<=562949953421312/\gA+cr*sz<=(m.boxes.getD gO []).length/\gO<m.boxes.length/\(m.boxes.getD gO []).all Qv=true/\(m.boxes.getD gO []).any (Yj 6)=false,
    .sl (.own m.lens.length sz) (rows++aV sz cr (((m.boxes.getD gO []).map (bF m 6)).drop gA)),{m with lens:=m.lens++[rows.length+cr]})
   |_=>(False,.junk,m))
  |_,_=>(False,.junk,m))
 |.bsl sz len parts=>if mutO orc dst=true then let q:=fillA (List.replicate (len*sz) .junk) (parts.map fun p=>(p.1*sz,sz,e p.2));
   (q.1/\q.2.all Qv=true,.bs m.boxes.length 0 len sz,{m with boxes:=m.boxes++[q.2]})
  else((rop P gl orc e m dst (.bsl sz len parts)).1,(rop P gl orc e m dst (.bsl sz len parts)).2,m)
 |.mks sz bytes zs l c=>(match e l,e c with
  |.int _ l,.int _ c=>((0<=l/\l<=c/\bytes*c<=281474976710656/\c<=9223372036854775807)/\zs.length=sz/\zs.all Qv=true,.bs m.boxes.length 0 l.toNat sz,{m with boxes:=m.boxes++[bG c.toNat zs]})
  |_,_=>(False,.junk,m))
 |.cpy sz x y=>(match e x with
  |.bs id off len gz=>(match e y with
   |.str s=>((gz=1/\sz=1)/\id<m.boxes.length/\off+len<=(m.boxes.getD id []).length/\m.boxes.getD id []≠[],.int .i64 (min s.size len:Nat),{m with boxes:=m.boxes.set id (setA (m.boxes.getD id []) off ((s.data.toList.take len).map fun b=>.int .u8 b.toNat))})
   |y=>(gz=sz/\(cellsS m sz y).1/\id<m.boxes.length/\off+len*sz<=(m.boxes.getD id []).length/\m.boxes.getD id []≠[],.int .i64 (min (lenS y) len:Nat),{m with boxes:=m.boxes.set id (setA (m.boxes.getD id []) off ((cellsS m sz y).2.take (len*sz)))}))
  |_=>(False,.junk,m))
 |.clr zs x=>(match e x with
  |.bs id off len gz=>((gz=zs.length/\zs.all Qv=true)/\id<m.boxes.length/\off+len*zs.length<=(m.boxes.getD id []).length/\m.boxes.getD id []≠[],.aW [],{m with boxes:=m.boxes.set id (setA (m.boxes.getD id []) off (bG len zs))})
  |.sl _ []=>(True,.aW [],m)
  |_=>(False,.junk,m))
 |.mkmap kn=>(True,.mp m.boxes.length,{m with boxes:=m.boxes++[[.aJ kn []]]})
 |.mupd kn x k v=>(match e x,keyA kn (e k)with
  |.mp id,some n=>(match m.boxes.getD id []with
   |[.aJ Au kvs]=>(Au=kn/\bare (e v)=true,.junk,{m with boxes:=m.boxes.set id [.aJ kn (match Xj n kvs 0 with
    |some (i,_)=>kvs.set i (n,e v)
    |none=>kvs++[(n,e v)])]})
   |_=>(False,.junk,m))
  |_,_=>(False,.junk,m))
 |.ment kn z x k=>(match e x,keyA kn (e k)with
  |.mp id,some n=>(match m.boxes.getD id []with
   |[.aJ Au kvs]=>(Au=kn,(match Xj n kvs 0 with
    |some (i,c)=>.aW [c,.int .i64 i]
    |none=>.aW [z,.int .i64 kvs.length]),{m with boxes:=m.boxes.set id [.aJ kn (match Xj n kvs 0 with
    |some _=>kvs
    |none=>kvs++[(n,z)])]})
   |_=>(False,.junk,m))
  |_,_=>(False,.junk,m))
 |.esto x s v=>(match e x,e s with
  |.mp id,.int _ i=>(match m.boxes.getD id []with
   |[.aJ kn kvs]=>((0<=i/\i<kvs.length)/\bare (e v)=true,.junk,{m with boxes:=m.boxes.set id [.aJ kn (kvs.set i.toNat ((kvs.getD i.toNat ([],.junk)).1,e v))]})
   |_=>(False,.junk,m))
  |_,_=>(False,.junk,m))
 |.rng x=>(match e x with
  |.mp id=>(match m.boxes.getD id []with
   |[.aJ _ kvs]=>(True,.it m.boxes.length,{m with boxes:=m.boxes++[[.mitr id kvs.length []]]})
   |_=>(False,.junk,m))
  |_=>(False,.junk,m))
 |.mks0 sz bytes c=>(match e c with
  |.int _ c=>if mutO orc dst=true then(if c.toNat=0 then(0<=c/\bytes*c<=281474976710656/\c<=9223372036854775807,.sl .full [],{m with boxes:=m.boxes++[[]]})
    else(0<=c/\bytes*c<=281474976710656/\c<=9223372036854775807,.bs m.boxes.length 0 0 sz,{m with boxes:=m.boxes++[List.replicate (c.toNat*sz) .junk]}))
   else(0<=c/\bytes*c<=281474976710656/\c<=9223372036854775807,.sl (.own m.lens.length sz) [],{m with lens:=m.lens++[0]})
  |_=>(False,.junk,m))
 |so=>((rop P gl orc e m dst so).1,(rop P gl orc e m dst so).2,m)
end Go.Abs
