import Derived.WalkLawsBesides
import Derived.WalkSpells
import Derived.OrdersIn
import Derived.RangeFuncRecord
set_option linter.all false
namespace Go
def zE{p:Prop}(h:p:=by omega):p:=h
def zd{p:Prop}(h:p:=by simp):p:=h
def zza:=@List.getElem?_eq_some_iff
def zzaa:=@Nat.le_refl
def zzab:=@Nat.lt_or_ge
def zzac:=@List.getElem?_eq_getElem
def zzad:=@List.mem_of_getElem?
def zzae:=@List.drop_eq_getElem_cons
def zzaf:=@List.cons_append
def zzag:=@Array.getElem?_eq_getElem
def zzah:=@List.nil_append
def zzai:=@List.take_of_length_le
def zzaj:=@List.drop_eq_nil_of_le
def zzak:=@Bool.and_eq_true
def zzal:=@List.length_append
def zzam:=@List.getElem?_append_left
def zzan:=@Nat.lt_of_lt_of_le
def zzao:=@List.mem_cons
def zzap:=@List.take_add_one
def zzaq:=@List.getD_eq_getElem?_getD
def zzar:=@List.getElem?_eq_none
def zzas:=@Nat.add_assoc
def zzat:=@List.mem_append
def zzau:=@List.append_nil
def zzav:=@List.length_take
def zzaw:=@List.getElem?_append_right
def zzax:=@List.map_cons
def zzay:=@List.mem_range
def zzaz:=@Nat.le_trans
def zzb:=@Option.map_eq_some_iff
def zzba:=@List.length_cons
def zzbb:=@Nat.mul_le_mul_right
def zzbc:=@List.getElem?_map
def zzbd:=@List.append_assoc
def zzbe:=@Nat.zero_le
def zzbf:=@List.all_eq_true
def zzbg:=@List.getElem?_set_self
def zzbh:=@List.eq_nil_of_length_eq_zero
def zzbi:=@Nat.add_mul
def zzbj:=@Nat.not_lt
def zzbk:=@List.mem_map
def zzbl:=@List.length_eq_zero_iff
def zzbm:=@List.getElem?_set_ne
def zzbn:=@Nat.zero_add
def zzbo:=@Bool.false_eq_true
def zzbp:=@List.take_length
def zzbq:=@Bool.eq_iff_iff
def zzbr:=@List.getElem?_drop
def zzbs:=@Array.getElem?_eq_some_iff
def zzbt:=@Array.getElem?_eq_none
def zzbu:=@List.any_eq_true
def zzbv:=@List.length_map
def zzbw:=@List.getElem?_take
def zzbx:=@Nat.eq_zero_or_pos
def zzby:=@Array.getElem?_toList
def zzbz:=@List.drop_length
def zzc:=@List.pairwise_cons
def zzca:=@Int.tdiv_eq_ediv_of_nonneg
def zzcb:=@Option.map_some
def zzcc:=@Nat.mul_comm
def zzcd:=@Option.isSome_iff_exists
def zzce:=@List.map_nil
def zzcf:=@List.length_set
def zzcg:=@List.flatten_cons
def zzch:=@List.set_append_right
def zzci:=@List.length_filter_le
def zzcj:=@List.map_append
def zzck:=@Array.getElem?_setIfInBounds_ne
def zzcl:=@List.mem_iff_getElem?
def zzcm:=@List.not_mem_nil
def zzcn:=@List.getElem?_replicate
def zzco:=@List.append_ne_nil_of_right_ne_nil
def zzcp:=@List.length_nil
def zzcq:=@List.mem_filter
def zzcr:=@Option.bind_some
def zzcs:=@Array.length_toList
def zzct:=@List.ext_getElem?
def zzcu:=@List.foldl_cons
def zzcv:=@List.mem_singleton
def zzcw:=@List.length_drop
def zzcx:=@Int.le_refl
def zzcy:=@List.take_succ_cons
def zzcz:=@List.map_map
def zzd:=@Nat.add_zero
def zzda:=@Array.mem_of_getElem?
def zzdb:=@List.map_congr_left
def zzdc:=@List.getElem_mem
def zzdd:=@List.filter_append
def zzde:=@Nat.pow_succ
def zzdf:=@List.drop_zero
def zzdg:=@List.mem_cons_of_mem
def zzdh:=@List.getElem?_cons_succ
def zzdi:=@List.length_pos_iff
def zzdj:=@Array.toList_setIfInBounds
def zzdk:=@Nat.mod_lt
def zzdl:=@List.nodup_range
def zzdm:=@Array.getElem?_modify
def zzdn:=@List.set_cons_succ
def zzdo:=@List.pairwise_iff_getElem
def zzdp:=@Nat.one_mul
def zzdq:=@List.mem_of_mem_take
def zzdr:=@Nat.div_lt_of_lt_mul
def zzds:=@Nat.pow_le_pow_right
def zzdt:=@Bool.true_and
def zzdu:=@List.take_append_of_le_length
def zzdv:=@List.filter_cons_of_pos
def zzdw:=@List.drop_drop
def zzdx:=@Nat.mod_eq_of_lt
def zzdy:=@List.drop_left
def zzdz:=@List.zip_cons_cons
def zze:=@List.take_append_drop
def zzea:=@Int.tmod_eq_emod_of_nonneg
def zzeb:=@List.any_eq_false
def zzec:=@List.mem_of_mem_drop
def zzed:=@List.range_eq_range'
def zzee:=@Int.mul_nonneg
def zzef:=@Nat.sub_zero
def zzeg:=@List.filter_cons
def zzeh:=@Array.getElem?_push_size
def zzei:=@List.getElem?_range
def zzej:=@List.flatten_append
def zzek:=@List.replicate_succ
def zzel:=@Nat.add_sub_cancel_left
def zzem:=@Array.eq_empty_of_size_eq_zero
def zzen:=@ByteArray.size_extract
def zzeo:=@List.drop_append_of_le_length
def zzep:=@Nat.lt_trichotomy
def zzeq:=@List.flatMap_cons
def zzer:=@Nat.add_comm
def zzes:=@Array.getElem?_setIfInBounds
def zzet:=@List.countP_le_length
def zzeu:=@List.length_mergeSort
def zzev:=@List.dropLast_concat_getLast
def zzew:=@List.singleton_append
def zzex:=@Nat.sub_self
def zzey:=@List.ext_getElem
def zzez:=@List.range'_succ
def zzf:=@Nat.lt_succ_self
def zzfa:=@List.take_append
def zzfb:=@List.flatMap_nil
def zzfc:=@Array.getElem?_append_left
def zzfd:=@Nat.le_zero
def zzfe:=@List.getLast?_eq_some_iff
def zzff:=@List.range_succ
def zzfg:=@List.find?_cons
def zzfh:=@List.mem_of_find?_eq_some
def zzfi:=@List.all_append
def zzfj:=@List.mem_filterMap
def zzfk:=@List.map_set
def zzfl:=@List.set_cons_zero
def zzfm:=@List.filter_cons_of_neg
def zzfn:=@List.size_toArray
def zzfo:=@Array.size_append
def zzfp:=@List.map_drop
def zzfq:=@List.mem_reverse
def zzfr:=@Array.toList_extract
def zzfs:=@List.drop_eq_nil_iff
def zzft:=@List.getElem?_of_mem
def zzfu:=@List.dropLast_concat
def zzfv:=@List.set_append_left
def zzfw:=@Nat.and_two_pow_sub_one_eq_mod
def zzfx:=@Int.mul_le_mul_of_nonneg_left
def zzfy:=@List.getElem_of_mem
def zzfz:=@List.take_set_of_le
def zzg:=@List.drop_set_of_lt
def zzga:=@List.filter_eq_self
def zzgb:=@List.mergeSort_perm
def zzgc:=@List.take_zero
def zzgd:=@Array.getElem?_map
def zzge:=@Nat.add_sub_cancel
def zzgf:=@Array.ext_getElem?
def zzgg:=@Nat.mul_lt_mul_of_pos_right
def zzgh:=@List.zip_nil_right
def zzgi:=@Nat.mul_assoc
def zzgj:=@Int.fdiv_eq_ediv_of_nonneg
def zzgk:=@List.perm_ext_iff_of_nodup
def zzgl:=@List.getElem?_set
def zzgm:=@List.foldl_append
def zzgn:=@List.mem_or_eq_of_mem_set
def zzgo:=@List.extract_eq_take_drop
def zzgp:=@List.getElem?_zip_eq_some
def zzgq:=@List.getElem?_eq_none_iff
def zzgr:=@List.length_filterMap_le
def zzgs:=@Nat.le_of_lt
def zzgt:=@Int.lt_or_le
def zzgu:=@List.pairwise_mergeSort
def zzgv:=@Nat.div_add_mod
def zzgw:=@Nat.min_eq_left
def zzgx:=@Bool.or_eq_true
def zzgy:=@List.range_succ_eq_map
def zzgz:=@List.filter_eq_nil_iff
def zzh:=@ByteArray.append_assoc
def zzha:=@Nat.le_of_ble_eq_true
def zzhb:=@List.mapM_cons
def zzhc:=@Array.mem_iff_getElem
def zzhd:=@List.mem_append_right
def zzhe:=@List.length_singleton
def zzhf:=@Bool.and_false
def zzhg:=@List.eq_nil_or_concat
def zzhh:=@List.concat_eq_append
def zzhi:=@Array.getElem?_mapIdx
def zzhj:=@Array.size_eq_one_iff
def zzhk:=@Bool.and_true
def zzhl:=@Nat.zero_mul
def zzhm:=@Nat.succ_mul
def zzhn:=@Nat.le_total
def zzho:=@Int.le_trans
def zzhp:=@List.set_set
def zzhq:=@Nat.pow_zero
end Go
namespace Go.Abs
open Go Go.RowKit
def Nm{p q:Prop}(h:p)(w:p->q:=by intro h;simpa using h):q:=w h
abbrev Pi:=List Int
abbrev P2:=List Nat
abbrev PQ:=Array Value
abbrev PP:=List Value
abbrev PH:=Exit->Act->World->Prop
abbrev QQ:=List (Int×Bool)
inductive Rt where
 |ro
 |full
 |nil
 |nn
 |own (id sz:Nat)
inductive AV where
 |junk
 |bool (b:Bool)
 |int (k:IntKind) (n:Int)
 |str (s:ByteArray)
 |agg (cs:List AV)
 |aS (vs:List AV)
 |sl (rt:Rt) (rows:List (List AV))
 |ep (row:List AV) (o:Nat)
 |ptr (id o:Nat)
 |fn (f:FuncId) (first cap:List AV)
 |nilfn
 |yld (l:Nat)
 |mp (id:Nat)
 |nilv (p:Bool)
 |aM (kn:Nat) (kvs:List (Pi×AV))
 |it (id:Nat)
 |mitr (mid n:Nat) (seen:P2)
 |bs (id off len sz:Nat)
 |gd (g:Bool) (a:AV)
 |er (t:TypeId) (a:Addr)
abbrev P1:=List AV
abbrev QR:=Option (P1)
abbrev QP:=List (Nat×AV)
abbrev X2:=List (P1)
abbrev X1:=Nat->FuncId->P1->AV
structure G where
 β:Nat->Option Nat
 own:Nat->Option Nat
 cur:Nat->Nat
 ro:Nat->Nat->Prop
 sp:Nat->Prop
 mm:Nat->Option Nat
 lp:Nat->Option Nat
def G.cQ(γ:G):G:={β:=fun _=>none,own:=fun _=>none,cur:=fun _=>0,ro:=γ.ro,sp:=fun _=>False,mm:=fun _=>none,lp:=fun _=>none}
def G0(ro:Nat->Nat->Prop):G:={β:=fun _=>none,own:=fun _=>none,cur:=fun _=>0,ro:=ro,sp:=fun _=>False,mm:=fun _=>none,lp:=fun _=>none}
theorem UI(ro:Nat->Nat->Prop):(G0 ro).cQ=G0 ro:=rfl
def Qr(rows:X2)(i j:Nat):Option AV:=(rows[i]?).bind (·[j]?)
def lQ(w:World)(γ:G)(a:Option Addr)(id len cap sz:Nat):Prop:=
 ∃b off arr e,a=some ⟨b,off,none⟩/\γ.own id=some b/\w.heap[b]?=some (.cells arr e (0,0))/\off+cap*sz<=arr.size/\
  ∀o,off+len*sz<=o->¬γ.ro b o
def tG(w:World)(γ:G)(a:Option Addr)(len cap sz:Nat):Rt->Prop
 |.ro=>True
 |.full=>cap=len
 |.nil=>a=none
 |.nn=>a≠none
 |.own id gz=>gz=sz/\len<=γ.cur id/\(len=γ.cur id->cap=len\/lQ w γ a id len cap sz)
inductive au (w:World):G->AV->Value->Prop
 |junk {γ:G} (v:Value):au w γ .junk v
 |gd {γ:G} {g:Bool} {a:AV} {v:Value} (h:g=true->au w γ a v) (h':g=false->v=undef):au w γ (.gd g a) v
 |er {γ:G} {t:TypeId} {a:Addr} {arr:PQ} {e:TypeId} (hh:w.heap[a.block]?=some (.cells arr e (0,0))):au w γ (.er t a) (.iface t (.pointer (some a)))
 |bool {γ:G} (b:Bool):au w γ (.bool b) (.bool b)
 |int {γ:G} (k:IntKind) (n:Int):au w γ (.int k n) (.int k n)
 |str {γ:G} (s:ByteArray):au w γ (.str s) (.string s)
 |nilfn {γ:G}:au w γ .nilfn .nilFunc
 |nilv {γ:G} (p:Bool):au w γ (.nilv p) (bif p then .pointer none else .map none)
 |yld {γ:G} {i l:Nat} (h:γ.lp i=some l):au w γ (.yld i) (.func (.yield l) #[] #[])
 |mp {γ:G} {id b:Nat} (h:γ.mm id=some b):au w γ (.mp id) (.map (some b))
 |it {γ:G} {id b:Nat} (h:γ.mm id=some b):au w γ (.it id) (.pointer (some ⟨b,0,none⟩))
 |agg {γ:G} {cs:P1} {arr:PQ} (hl:cs.length=arr.size) (h:∀(i:Nat)(c:AV)(v:Value),cs[i]?=some c->arr[i]?=some v->au w γ c v):au w γ (.agg cs) (.agg arr)
 |aS {γ:G} {cs:P1} {arr:PQ} (hl:cs.length=arr.size) (h:∀(i:Nat)(c:AV)(v:Value),cs[i]?=some c->arr[i]?=some v->au w γ c v):au w γ (.aS cs) (.tuple arr)
 |fn {γ:G} {f:FuncId} {first cap:P1} {fa ca:PQ} (hl:first.length=fa.size) (h:∀(i:Nat)(c:AV)(v:Value),first[i]?=some c->fa[i]?=some v->au w γ c v)
   (fA:cap.length=ca.size) (h':∀(i:Nat)(c:AV)(v:Value),cap[i]?=some c->ca[i]?=some v->au w γ c v):au w γ (.fn f first cap) (.func (.func f) fa ca)
 |ptr {γ:G} {id o b:Nat} (h:γ.β id=some b):au w γ (.ptr id o) (.pointer (some ⟨b,o,none⟩))
 |ep {γ:G} {row:P1} {o b off:Nat} (cv:Nat->Value) (hb:b<w.heap.size)
   (hc:∀(j:Nat)(c:AV),row[j]?=some c->w.cell? ⟨b,off+j,none⟩=some (cv j)/\γ.ro b (off+j)/\(cv j).oneCell'=true)
   (h:∀(j:Nat)(c:AV),row[j]?=some c->au w γ.cQ c (cv j)):au w γ (.ep row o) (.pointer (some ⟨b,off+o,none⟩))
 |bs {γ:G} {id off len sz cap b:Nat} {arr:PQ} {e:TypeId} (h:γ.β id=some b) (hl:len<=cap) (hh:w.heap[b]?=some (.cells arr e (0,0))) (hs:off+cap*sz<=arr.size):
   au w γ (.bs id off len sz) (.slice (some ⟨b,off,none⟩) len cap)
 |sl {γ:G} {rt:Rt} {rows:X2} {a:Option Addr} {cap:Nat} (b off sz:Nat) (cv:Nat->Nat->Value)
   (hcap:rows.length<=cap) (hnil:a=none->cap=0) (ha:rows≠[]->a=some ⟨b,off,none⟩/\b<w.heap.size)
   (hsz:∀row∈rows,row.length=sz)
   (hc:∀(i j:Nat)(c:AV),Qr rows i j=some c->w.cell? ⟨b,off+i*sz+j,none⟩=some (cv i j)/\γ.ro b (off+i*sz+j)/\(cv i j).oneCell'=true)
   (h:∀(i j:Nat)(c:AV),Qr rows i j=some c->au w γ.cQ c (cv i j))
   (bn:tG w γ a rows.length cap sz rt):au w γ (.sl rt rows) (.slice a rows.length cap)
def qD(o o':Option Obj):Prop:=o'=o\/∃r s p,o=some (.loop r)/\o'=some (.loop {r with state:=s,pending:=p})
def qD.trans{o o' o'':Option Obj}(h:qD o o')(k:qD o' o''):qD o o'':=by
 obtain rfl|⟨r,s,p,rfl,rfl⟩:=h
 ·exact k
 obtain rfl|⟨r',s',p',e,rfl⟩:=k
 ·exact .inr ⟨r,s,p,rfl,rfl⟩
 simp at e;subst e;exact .inr ⟨r,s',p',rfl,rfl⟩
def Sz(w w':World):Prop:=∀(b:Nat)(arr:PQ)(e:TypeId)(f:Nat×Nat),w.heap[b]?=some (.cells arr e f)->∃bU:PQ,w'.heap[b]?=some (.cells bU e f)/\bU.size=arr.size
def Sz.refl(w:World):Sz w w:=fun _ arr _ _ h=>⟨arr,h,rfl⟩
def Sz.trans{w w' iw:World}(h:Sz w w')(k:Sz w' iw):Sz w iw:=fun b arr e f hb=>by
 obtain⟨bU,h1,h2⟩:=h b arr e f hb;obtain⟨ET,h3,h4⟩:=k b bU e f h1;exact⟨ET,h3,h4.trans h2⟩
def Sz.of_same{w w':World}(h:∀b,b<w.heap.size->w'.heap[b]?=w.heap[b]?):Sz w w':=fun b arr e f hb=>by
 have ah:b<w.heap.size:=by
  rcases zzab b w.heap.size with h'|h'
  ·exact h'
  simp[zzbt h']at hb
 exact⟨arr,(h b ah).trans hb,rfl⟩
structure Ny (w:World) (γ:G) (w':World) (γ':G):Prop where
 size:w.heap.size<=w'.heap.size
 ro:∀b o,b<w.heap.size->γ.ro b o->γ'.ro b o/\w'.cell? ⟨b,o,none⟩=w.cell? ⟨b,o,none⟩
 β:∀id b,γ.β id=some b->γ'.β id=some b
 cur:∀id,γ.cur id<=γ'.cur id
 mm:∀b F,γ.mm b=some F->γ'.mm b=some F
 lp:∀i l,γ.lp i=some l->γ'.lp i=some l
 own:∀id b,γ'.cur id=γ.cur id->γ.own id=some b->γ'.own id=some b/\
  (∀arr e,w.heap[b]?=some (.cells arr e (0,0))->∃bU,w'.heap[b]?=some (.cells bU e (0,0))/\arr.size<=bU.size)/\∀o,γ'.ro b o->γ.ro b o
 ss:Sz w w'
structure eC (w:World) (γ:G) (w':World) (γ':G):Prop where
 size:w.heap.size<=w'.heap.size
 ro:∀b o,b<w.heap.size->γ.ro b o->γ'.ro b o/\w'.cell? ⟨b,o,none⟩=w.cell? ⟨b,o,none⟩
 β:∀id b,γ.β id=some b->γ'.β id=some b
 cur:∀id,γ.cur id<=γ'.cur id
 mm:∀b F,γ.mm b=some F->γ'.mm b=some F
 lp:∀i l,γ.lp i=some l->γ'.lp i=some l
 own:∀id b,γ'.cur id=γ.cur id->γ.own id=some b->γ'.own id=some b/\
  (∀arr e,w.heap[b]?=some (.cells arr e (0,0))->∃bU,w'.heap[b]?=some (.cells bU e (0,0))/\arr.size<=bU.size)/\∀o,γ'.ro b o->γ.ro b o
 sp:∀b,γ.sp b->γ'.sp b/\qD w.heap[b]? w'.heap[b]?
 ss:Sz w w'
structure Ev (w:World) (γ:G) (w':World) (γ':G):Prop where
 size:w.heap.size<=w'.heap.size
 ro:∀b o,b<w.heap.size->γ.ro b o->γ'.ro b o/\w'.cell? ⟨b,o,none⟩=w.cell? ⟨b,o,none⟩
 β:∀id b,γ.β id=some b->γ'.β id=some b
 cur:∀id,γ.cur id<=γ'.cur id
 mm:∀b F,γ.mm b=some F->γ'.mm b=some F
 lp:γ'.lp=γ.lp
 own:∀id b,γ'.cur id=γ.cur id->γ.own id=some b->γ'.own id=some b/\
  (∀arr e,w.heap[b]?=some (.cells arr e (0,0))->∃bU,w'.heap[b]?=some (.cells bU e (0,0))/\arr.size<=bU.size)/\∀o,γ'.ro b o->γ.ro b o
 sp:∀b,γ.sp b->γ'.sp b/\w'.heap[b]?=w.heap[b]?
 ss:Sz w w'
def eC.Aq{w:World}{γ:G}{w':World}{γ':G}(h:eC w γ w' γ'):Ny w γ w' γ':=⟨h.size,h.ro,h.β,h.cur,h.mm,h.lp,h.own,h.ss⟩
def Ev.cR{w:World}{γ:G}{w':World}{γ':G}(h:Ev w γ w' γ'):eC w γ w' γ':=⟨h.size,h.ro,h.β,h.cur,h.mm,fun i l hl=>by rw[h.lp];exact hl,h.own,fun b hb=>⟨(h.sp b hb).1,.inl (h.sp b hb).2⟩,h.ss⟩
def Ev.refl(w:World)(γ:G):Ev w γ w γ:=
 ⟨zzaa _,fun _ _ _ h=>⟨h,rfl⟩,fun _ _ h=>h,fun _=>zzaa _,fun _ _ h=>h,rfl,fun _ _ _ h=>⟨h,fun arr _ h=>⟨arr,h,zzaa _⟩,fun _ h=>h⟩,fun _ h=>⟨h,rfl⟩,Sz.refl w⟩
def Ev.trans{w:World}{γ:G}{w':World}{γ':G}{iw:World}{Ar:G}(h:Ev w γ w' γ')(k:Ev w' γ' iw Ar):Ev w γ iw Ar where
 size:=zzaz h.size k.size
 ro b o hb hr:=by
  obtain⟨h1,h2⟩:=h.ro b o hb hr;obtain⟨h3,h4⟩:=k.ro b o (zzan hb h.size) h1;exact⟨h3,h4.trans h2⟩
 β id b hb:=k.β id b (h.β id b hb)
 cur id:=zzaz (h.cur id) (k.cur id)
 mm b F hb:=k.mm b F (h.mm b F hb)
 lp:=k.lp.trans h.lp
 own id b hc ho:=by
  have h1:=h.cur id;have h2:=k.cur id;have e1:γ'.cur id=γ.cur id:=zE
  have e2:Ar.cur id=γ'.cur id:=zE
  obtain⟨a1,a2,a3⟩:=h.own id b e1 ho;obtain⟨b1,b2,b3⟩:=k.own id b e2 a1;refine⟨b1,fun arr e hh=>?_,fun o ho=>a3 o (b3 o ho)⟩;obtain⟨bU,h3,h4⟩:=a2 arr e hh;obtain⟨ET,h5,h6⟩:=b2 bU e h3;exact⟨ET,h5,zzaz h4 h6⟩
 sp b hb:=by
  obtain⟨h1,h2⟩:=h.sp b hb;obtain⟨h3,h4⟩:=k.sp b h1;exact⟨h3,h4.trans h2⟩
 ss:=h.ss.trans k.ss
def eC.trans{w:World}{γ:G}{w':World}{γ':G}{iw:World}{Ar:G}(h:eC w γ w' γ')(k:eC w' γ' iw Ar):eC w γ iw Ar where
 size:=zzaz h.size k.size
 ro b o hb hr:=by
  obtain⟨h1,h2⟩:=h.ro b o hb hr;obtain⟨h3,h4⟩:=k.ro b o (zzan hb h.size) h1;exact⟨h3,h4.trans h2⟩
 β id b hb:=k.β id b (h.β id b hb)
 cur id:=zzaz (h.cur id) (k.cur id)
 mm b F hb:=k.mm b F (h.mm b F hb)
 lp i l hl:=k.lp i l (h.lp i l hl)
 own id b hc ho:=by
  have h1:=h.cur id;have h2:=k.cur id;have e1:γ'.cur id=γ.cur id:=zE
  have e2:Ar.cur id=γ'.cur id:=zE
  obtain⟨a1,a2,a3⟩:=h.own id b e1 ho;obtain⟨b1,b2,b3⟩:=k.own id b e2 a1;refine⟨b1,fun arr e hh=>?_,fun o ho=>a3 o (b3 o ho)⟩;obtain⟨bU,h3,h4⟩:=a2 arr e hh;obtain⟨ET,h5,h6⟩:=b2 bU e h3;exact⟨ET,h5,zzaz h4 h6⟩
 sp b hb:=by
  obtain⟨h1,h2⟩:=h.sp b hb;obtain⟨h3,h4⟩:=k.sp b h1;exact⟨h3,h2.trans h4⟩
 ss:=h.ss.trans k.ss
def Ny.cQ{w:World}{γ:G}{w':World}{γ':G}(h:Ny w γ w' γ'):Ny w γ.cQ w' γ'.cQ:=
 ⟨h.size,h.ro,fun _ _ h=>(by cases h),fun _=>zzaa _,fun _ _ h=>(by cases h),fun _ _ h=>(by cases h),fun _ _ _ h=>(by cases h),h.ss⟩
def eC.cQ{w:World}{γ:G}{w':World}{γ':G}(h:eC w γ w' γ'):eC w γ.cQ w' γ'.cQ:=
 ⟨h.size,h.ro,fun _ _ h=>(by cases h),fun _=>zzaa _,fun _ _ h=>(by cases h),fun _ _ h=>(by cases h),fun _ _ _ h=>(by cases h),fun _ h=>h.elim,h.ss⟩
def eC.axy{w:World}{γ:G}{w':World}{γ':G}(h:eC w γ w' γ'):Ev w γ.cQ w' γ'.cQ:=
 ⟨h.size,h.ro,fun _ _ h=>(by cases h),fun _=>zzaa _,fun _ _ h=>(by cases h),rfl,fun _ _ _ h=>(by cases h),fun _ h=>h.elim,h.ss⟩
def Ev.cQ{w:World}{γ:G}{w':World}{γ':G}(h:Ev w γ w' γ'):Ev w γ.cQ w' γ'.cQ:=h.cR.axy
def lQ.aV{w:World}{γ:G}{w':World}{γ':G}(h:Ny w γ w' γ'){a:Option Addr}{id len cap sz:Nat}(hc:γ'.cur id=γ.cur id)(hs:lQ w γ a id len cap sz):
  lQ w' γ' a id len cap sz:=by
 obtain⟨b,off,arr,e,ha,ho,hh,hsz,gA⟩:=hs;obtain⟨h1,h2,h3⟩:=h.own id b hc ho;obtain⟨bU,h4,h5⟩:=h2 arr e hh;exact⟨b,off,bU,e,ha,h1,h4,zzaz hsz h5,fun o ho hr=>gA o ho (h3 o hr)⟩
def lQ.mono{w:World}{γ:G}{w':World}{γ':G}(h:Ev w γ w' γ'){a:Option Addr}{id len cap sz:Nat}(hc:γ'.cur id=γ.cur id)(hs:lQ w γ a id len cap sz):
  lQ w' γ' a id len cap sz:=lQ.aV h.cR.Aq hc hs
def tG.mono{w:World}{γ:G}{w':World}{γ':G}(h:Ny w γ w' γ'){a:Option Addr}{len cap sz:Nat}{rt:Rt}(hr:tG w γ a len cap sz rt):tG w' γ' a len cap sz rt:=by
 cases rt with
 |ro=>trivial
 |full=>exact hr
 |nil=>exact hr
 |nn=>exact hr
 |own id gz=>
  obtain⟨h1,h2,h3⟩:=hr;have ud:=h.cur id;refine⟨h1,zzaz h2 ud,fun he=>?_⟩;have e1:γ'.cur id=γ.cur id:=zE
  exact(h3 zE).imp_right (lQ.aV h e1)
def au.eD{w:World}{γ:G}{a:AV}{v:Value}(h:au w γ a v):∀{w':World}{γ':G},Ny w γ w' γ'->au w' γ' a v:=by
 induction h with
 |junk v=>exact fun _=>.junk v
 |gd _ h' ih=>exact fun e=>.gd (fun hg=>ih hg e) h'
 |er hh=>
  intro w' γ' e;obtain⟨bU,h1,_⟩:=e.ss _ _ _ _ hh;exact .er h1
 |bool b=>exact fun _=>.bool b
 |int k n=>exact fun _=>.int k n
 |str s=>exact fun _=>.str s
 |nilfn=>exact fun _=>.nilfn
 |nilv p=>exact fun _=>.nilv p
 |yld h=>exact fun e=>.yld (e.lp _ _ h)
 |mp h=>exact fun e=>.mp (e.mm _ _ h)
 |it h=>exact fun e=>.it (e.mm _ _ h)
 |agg hl _ ih=>exact fun e=>.agg hl fun i c v h1 h2=>ih i c v h1 h2 e
 |aS hl _ ih=>exact fun e=>.aS hl fun i c v h1 h2=>ih i c v h1 h2 e
 |fn hl _ fA _ ih ih'=>exact fun e=>.fn hl (fun i c v h1 h2=>ih i c v h1 h2 e) fA fun i c v h1 h2=>ih' i c v h1 h2 e
 |ptr h=>exact fun e=>.ptr (e.β _ _ h)
 |bs h hl hh hs=>
  intro w' γ' e;obtain⟨bU,h1,h2⟩:=e.ss _ _ _ _ hh;exact .bs (e.β _ _ h) hl h1 zE
 |ep cv hb hc _ ih=>
  exact fun e=>.ep cv (zzan hb e.size) (fun j c hj=>⟨(e.ro _ _ hb (hc j c hj).2.1).2.trans (hc j c hj).1,(e.ro _ _ hb (hc j c hj).2.1).1,(hc j c hj).2.2⟩) fun j c hj=>ih j c hj e.cQ
 |@sl γ rt rows a cap b off sz cv hcap hnil ha hsz hc _ bn ih=>
  intro w' γ' e;have hb:∀i j c,Qr rows i j=some c->b<w.heap.size:=fun i j c fP=>(ha (by rintro rfl;simp[Qr]at fP)).2
  exact .sl b off sz cv hcap hnil (fun hn=>⟨(ha hn).1,zzan (ha hn).2 e.size⟩) hsz
   (fun i j c fP=>⟨(e.ro _ _ (hb i j c fP) (hc i j c fP).2.1).2.trans (hc i j c fP).1,(e.ro _ _ (hb i j c fP) (hc i j c fP).2.1).1,(hc i j c fP).2.2⟩)
   (fun i j c fP=>ih i j c fP e.cQ) (bn.mono e)
def au.aV{w:World}{γ:G}{a:AV}{v:Value}(h:au w γ a v){w':World}{γ':G}(e:eC w γ w' γ'):au w' γ' a v:=h.eD e.Aq
def au.mono{w:World}{γ:G}{a:AV}{v:Value}(h:au w γ a v){w':World}{γ':G}(e:Ev w γ w' γ'):au w' γ' a v:=h.aV e.cR
def ak(w:World)(γ:G)(as':P1)(vs:PP):Prop:=as'.length=vs.length/\∀(i:Nat)(a:AV)(v:Value),as'[i]?=some a->vs[i]?=some v->au w γ a v
def ak.mono{w:World}{γ:G}{as':P1}{vs:PP}(h:ak w γ as' vs){w':World}{γ':G}(e:Ev w γ w' γ'):ak w' γ' as' vs:=
 ⟨h.1,fun i a v h1 h2=>(h.2 i a v h1 h2).mono e⟩
def ak.eD{w:World}{γ:G}{as':P1}{vs:PP}(h:ak w γ as' vs){w':World}{γ':G}(e:Ny w γ w' γ'):ak w' γ' as' vs:=
 ⟨h.1,fun i a v h1 h2=>(h.2 i a v h1 h2).eD e⟩
def ak.aV{w:World}{γ:G}{as':P1}{vs:PP}(h:ak w γ as' vs){w':World}{γ':G}(e:eC w γ w' γ'):ak w' γ' as' vs:=
 ⟨h.1,fun i a v h1 h2=>(h.2 i a v h1 h2).aV e⟩
def ak.nil{w:World}{γ:G}:ak w γ [] []:=⟨rfl,fun i a v h=>(by simp at h)⟩
def ak.cons{w:World}{γ:G}{a:AV}{v:Value}{as':P1}{vs:PP}(h:au w γ a v)(hs:ak w γ as' vs):ak w γ (a::as') (v::vs):=
 ⟨by simp[hs.1],fun i x y h1 h2=>by
  cases i with
  |zero=>simp at h1 h2;subst h1;subst h2;exact h
  |succ i=>simp at h1 h2;exact hs.2 i x y h1 h2⟩
def ak.get{w:World}{γ:G}{as':P1}{vs:PP}(h:ak w γ as' vs)(i:Nat):au w γ (as'.getD i .junk) (vs.getD i undef):=by
 rcases zzab i as'.length with hi|hi
 ·have dm:i<vs.length:=h.1 ▸ hi;refine h.2 i _ _ (?_:as'[i]?=some _) (?_:vs[i]?=some _)
  ·simp[List.getD,hi]
  simp[List.getD,dm]
 simp[List.getD,zzar hi];exact .junk _
def ak.set{w:World}{γ:G}{as':P1}{vs:PP}(h:ak w γ as' vs)(i:Nat){a:AV}{v:Value}(ha:au w γ a v):ak w γ (as'.set i a) (vs.set i v):=by
 refine⟨by simp[h.1],fun j x y h1 h2=>?_⟩;by_cases fP:i=j
 ·subst fP;rw[zzgl]at h1 h2;simp only[if_true]at h1 h2;split at h1<;>split at h2<;>simp_all
 rw[zzbm fP]at h1 h2;exact h.2 j x y h1 h2
def ak.append{w:World}{γ:G}{as' bs:P1}{vs us:PP}(h:ak w γ as' vs)(k:ak w γ bs us):ak w γ (as'++bs) (vs++us):=by
 refine⟨by simp[h.1,k.1],fun i x y h1 h2=>?_⟩;rcases zzab i as'.length with hi|hi
 ·rw[zzam hi]at h1;rw[zzam (h.1 ▸ hi)]at h2;exact h.2 i x y h1 h2
 rw[zzaw hi]at h1;rw[zzaw (h.1 ▸ hi),<- h.1]at h2;exact k.2 _ x y h1 h2
def cG(w:World)(γ:G)(as':P1)(vs:PP):Prop:=as'.length<=vs.length/\∀(i:Nat)(a:AV)(v:Value),as'[i]?=some a->vs[i]?=some v->au w γ a v
def ak.toP{w:World}{γ:G}{as':P1}{vs:PP}(h:ak w γ as' vs):cG w γ as' vs:=⟨Nat.le_of_eq h.1,h.2⟩
def cG.nil{w:World}{γ:G}{vs:PP}:cG w γ [] vs:=⟨zzbe _,fun i a v h=>(by simp at h)⟩
def cG.eD{w:World}{γ:G}{as':P1}{vs:PP}(h:cG w γ as' vs){w':World}{γ':G}(e:Ny w γ w' γ'):cG w' γ' as' vs:=
 ⟨h.1,fun i a v h1 h2=>(h.2 i a v h1 h2).eD e⟩
def cG.aV{w:World}{γ:G}{as':P1}{vs:PP}(h:cG w γ as' vs){w':World}{γ':G}(e:eC w γ w' γ'):cG w' γ' as' vs:=h.eD e.Aq
def cG.mono{w:World}{γ:G}{as':P1}{vs:PP}(h:cG w γ as' vs){w':World}{γ':G}(e:Ev w γ w' γ'):cG w' γ' as' vs:=h.aV e.cR
def cG.set{w:World}{γ:G}{as':P1}{vs:PP}(h:cG w γ as' vs)(i:Nat){a:AV}{v:Value}(ha:au w γ a v):cG w γ (as'.set i a) (vs.set i v):=by
 refine⟨Nm h.1,fun j x y h1 h2=>?_⟩;by_cases fP:i=j
 ·subst fP;rw[zzgl]at h1 h2;simp only[if_true]at h1 h2;split at h1<;>split at h2<;>simp_all
 rw[zzbm fP]at h1 h2;exact h.2 j x y h1 h2
inductive LS where
 |gone
 |ready
 |busy
 |done (ex:Exit)
structure AM where
 boxes:X2
 lens:P2
 st:Nat->LS
 ln:Nat
abbrev R0:=List (AV×AM)
abbrev UV:=AV->AM->Prop
def OI(γ:G)(b:Nat):Prop:=(∃id,γ.β id=some b)\/(∃id,γ.own id=some b)\/γ.sp b\/∃id,γ.mm id=some b
structure Chg (γ:G) (w:World) (γ':G) (w':World):Prop where
 os:w'.os=w.os
 tape:w'.tape=w.tape
 output:w'.output=w.output
 size:w.heap.size<=w'.heap.size
 same:∀b,b<w.heap.size->¬OI γ b->w'.heap[b]?=w.heap[b]?
 ro:∀b o,b<w.heap.size->γ.ro b o->γ'.ro b o/\w'.cell? ⟨b,o,none⟩=w.cell? ⟨b,o,none⟩
 oi:∀b,OI γ' b->OI γ b\/w.heap.size<=b
 ron:∀b o,γ'.ro b o->γ.ro b o\/OI γ b\/w.heap.size<=b
structure fE where
 p:G->World->Prop
 st:∀γ w γ' w',p γ w->Chg γ w γ' w'->p γ' w'
def Yi:Nat->Pi->Value
 |0,[n]=>.int .i64 n
 |0,_=>undef
 |_+1,ns=>.agg (ns.map (Value.int .i64)).toArray
def Wl:Nat->Pi->Prop
 |0,ns=>ns.length=1
 |kn+1,ns=>ns.length=kn+1
def cS(w:World)(γ:G):AV->Obj->Prop
 |.aM kn kvs,.map es clock=>clock=es.size/\kvs.length=es.size/\
  ∀(i:Nat)(k:Pi)(a:AV)(e:MapEntry),kvs[i]?=some (k,a)->es[i]?=some e->Wl kn k/\e.key=Yi kn k/\e.born=i/\au w γ a e.val
 |.mitr mid n seen,.mapIter (some mb) Nz sn st=>γ.mm mid=some mb/\Nz=n/\st=n/\sn.toList=seen
 |_,_=>False
def vp(w:World)(γ:G)(b:Nat)(x:QR):Prop:=∃a o,x=some [a]/\w.heap[b]?=some o/\cS w γ a o
def cS.mono{w w':World}{γ γ':G}{a:AV}{o:Obj}(h:cS w γ a o)(ev:Ny w γ w' γ'):cS w' γ' a o:=by
 unfold cS at h |-
 split at h
 ·exact⟨h.1,h.2.1,fun i k a e q1 q2=>⟨(h.2.2 i k a e q1 q2).1,(h.2.2 i k a e q1 q2).2.1,(h.2.2 i k a e q1 q2).2.2.1,(h.2.2 i k a e q1 q2).2.2.2.eD ev⟩⟩
 ·exact⟨ev.mm _ _ h.1,h.2⟩
 exact h.elim
def vp.mono{w w':World}{γ γ':G}{b:Nat}{x:QR}(h:vp w γ b x)(ev:Ny w γ w' γ')(e:w'.heap[b]?=w.heap[b]?):vp w' γ' b x:=by
 obtain⟨a,o,h1,h2,h3⟩:=h;exact⟨a,o,h1,e.trans h2,h3.mono ev⟩
def vp.UJ{w:World}{γ:G}{b:Nat}{x:QR}(h:vp w γ b x){arr:PQ}{e:TypeId}{f:Nat×Nat}(hh:w.heap[b]?=some (.cells arr e f)):False:=by
 obtain⟨a,o,_,h2,h3⟩:=h;rw[hh]at h2;cases h2;cases a<;>exact h3
structure aq (N:Nat) (w0:fE) (an:Nat->Nat->Prop) (γ:G) (w:World) (B:Nat->QR) (L:Nat->Option Nat):Prop where
 bs:w0.p γ w
 hN:N<=w.heap.size
 an:∀b o,γ.ro b o->an b o\/N<=b
 robd:∀b o,γ.ro b o->b<w.heap.size
 box:∀id cells b,B id=some cells->γ.β id=some b->∃arr e,w.heap[b]?=some (.cells arr e (0,0))/\cG w γ cells arr.toList/\∀v∈arr.toList,v.oneCell'=true
 β:∀id b,γ.β id=some b->N<=b/\b<w.heap.size/\(∀o,¬γ.ro b o)/\(∀id',γ.own id'≠some b)/\∃cells,B id=some cells
 inj:∀id id' b,γ.β id=some b->γ.β id'=some b->B id=some []\/B id'=some []\/id=id'
 own:∀id b,γ.own id=some b->N<=b/\b<w.heap.size/\∃n,L id=some n
 oinj:∀id id' b,γ.own id=some b->γ.own id'=some b->id=id'
 sp:∀b,γ.sp b->N<=b/\b<w.heap.size/\(∀o,¬γ.ro b o)/\(∀id,γ.β id≠some b)/\(∀id,γ.own id≠some b)
 mm:∀id b,γ.mm id=some b->N<=b/\b<w.heap.size/\(∀o,¬γ.ro b o)/\(∀id,γ.β id≠some b)/\(∀id,γ.own id≠some b)/\¬γ.sp b/\γ.β id=none/\vp w γ b (B id)
 minj:∀id id' b,γ.mm id=some b->γ.mm id'=some b->id=id'
 len:∀id n,L id=some n->γ.cur id=n
 cur0:∀id,L id=none->γ.cur id=0
def AM.B(m:AM):Nat->QR:=fun id=>m.boxes[id]?
def AM.L(m:AM):Nat->Option Nat:=fun id=>m.lens[id]?
def G.grow(γ:G)(n n':Nat):G:={γ with ro:=fun b o=>γ.ro b o\/(n<=b/\b<n')}
def cell_of_heap{w w':World}{b o:Nat}(h:w'.heap[b]?=w.heap[b]?):w'.cell? ⟨b,o,none⟩=w.cell? ⟨b,o,none⟩:=by
 simp[World.cell?,h]
def aQ{w:World}{b o:Nat}{arr:PQ}{e:TypeId}{f:Nat×Nat}(h:w.heap[b]?=some (.cells arr e f)):w.cell? ⟨b,o,none⟩=arr[o]?:=by
 simp[World.cell?,h]
def Uc{w:World}{b o:Nat}{arr:PQ}{e:TypeId}(h:w.heap[b]?=some (.cells arr e (0,0))):w.frozen? ⟨b,o,none⟩=false:=by
 simp[World.frozen?,h]
def aW{w:World}{b:Nat}{x:Obj}(h:w.heap[b]?=some x):b<w.heap.size:=by
 rcases zzab b w.heap.size with h'|h'
 ·exact h'
 simp[zzbt h']at h
def Ev.UK{w w':World}{γ:G}(h:Below w.heap.size w w')(cp:∀id b,γ.own id=some b->b<w.heap.size)(dy:∀b,γ.sp b->b<w.heap.size):Ev w γ w' (γ.grow w.heap.size w'.heap.size) where
 size:=h.size
 ro b o hb hr:=⟨.inl hr,cell_of_heap (h.block b hb)⟩
 β _ _ h:=h
 cur _:=zzaa _
 mm _ _ h:=h
 lp:=rfl
 own id b _ ho:=by
  have hb:=cp id b ho;refine⟨ho,fun arr e he=>⟨arr,by rw[h.block b hb];exact he,zzaa _⟩,fun o hr=>?_⟩;obtain hr|⟨hr,_⟩:=hr
  ·exact hr
  omega
 sp b hb:=⟨hb,h.block b (dy b hb)⟩
 ss:=Sz.of_same h.block
variable {N:Nat} {w0:fE} {an:Nat->Nat->Prop} {γ:G} {w:World} {B:Nat->QR} {L:Nat->Option Nat}
def aq.cH(hm:aq N w0 an γ w B L){w':World}(h:Below w.heap.size w w'):Ev w γ w' (γ.grow w.heap.size w'.heap.size):=
 Ev.UK h (fun id b hb=>(hm.own id b hb).2.1) fun b hb=>(hm.sp b hb).2.1
def aq.grow(hm:aq N w0 an γ w B L){w':World}(h:Below w.heap.size w w'):aq N w0 an (γ.grow w.heap.size w'.heap.size) w' B L where
 bs:=w0.st _ _ _ _ hm.bs ⟨h.os,h.tape,h.output,h.size,fun b hb _=>h.block b hb,(hm.cH h).ro,fun b hb=>.inl hb,fun b o hr=>hr.imp_right fun h=>.inr h.1⟩
 hN:=zzaz hm.hN h.size
 an b o hr:=by
  obtain hr|⟨hr,_⟩:=hr
  ·exact hm.an b o hr
  exact .inr (zzaz hm.hN hr)
 robd b o hr:=by
  obtain hr|⟨_,hr⟩:=hr
  ·exact zzan (hm.robd b o hr) h.size
  exact hr
 box id cells b hb h1:=by
  obtain⟨arr,e,h2,h3,h4⟩:=hm.box id cells b hb h1;exact⟨arr,e,by rw[h.block b (aW h2)];exact h2,h3.mono (hm.cH h),h4⟩
 β id b hb:=by
  obtain⟨h1,h2,h3,h4,h5⟩:=hm.β id b hb;refine⟨h1,zzan h2 h.size,fun o hr=>?_,h4,h5⟩;obtain hr|⟨hr,_⟩:=hr
  ·exact h3 o hr
  omega
 inj:=hm.inj
 own id b hb:=by
  obtain⟨h1,h2,h3⟩:=hm.own id b hb;exact⟨h1,zzan h2 h.size,h3⟩
 oinj:=hm.oinj
 sp b hb:=by
  obtain⟨h1,h2,h3,h4⟩:=hm.sp b hb;refine⟨h1,zzan h2 h.size,fun o hr=>?_,h4⟩;obtain hr|⟨hr,_⟩:=hr
  ·exact h3 o hr
  omega
 mm id b hb:=by
  obtain⟨h1,h2,h3,h4,h5,h6,h8,h7⟩:=hm.mm id b hb;refine⟨h1,zzan h2 h.size,fun o hr=>?_,h4,h5,h6,h8,h7.mono (hm.cH h).cR.Aq (h.block b h2)⟩;obtain hr|⟨hr,_⟩:=hr
  ·exact h3 o hr
  omega
 minj:=hm.minj
 len:=hm.len
 cur0:=hm.cur0
def G.box(γ:G)(id b:Nat):G:={γ with β:=fun i=>if i=id then some b else γ.β i}
def aq.dK(hm:aq N w0 an γ w B L)(id:Nat)(aL:B id=none)(o:Obj):Ev w γ (w.alloc o) (γ.box id w.heap.size) where
 size:=zd
 ro b o' hb hr:=⟨hr,cell_of_heap (Below.heap_alloc w o b hb)⟩
 β i b hb:=by
  have:i≠id:=by rintro rfl;obtain⟨_,_,_,_,c,hc⟩:=hm.β i b hb;rw[aL]at hc;cases hc
  simp[G.box,this,hb]
 cur _:=zzaa _
 mm _ _ h:=h
 lp:=rfl
 own i b _ ho:=⟨ho,fun arr e he=>⟨arr,by rw[Below.heap_alloc w o b (hm.own i b ho).2.1];exact he,zzaa _⟩,fun _ h=>h⟩
 sp b hb:=⟨hb,Below.heap_alloc w o b (hm.sp b hb).2.1⟩
 ss:=Sz.of_same (Below.heap_alloc w o)
def aq.gC(hm:aq N w0 an γ w B L)(id:Nat)(aL:B id=none){cells:P1}{arr:PQ}{e:TypeId}(hr:cG w γ cells arr.toList)(yI:∀v∈arr.toList,v.oneCell'=true):
  aq N w0 an (γ.box id w.heap.size) (w.alloc (.cells arr e)) (fun i=>if i=id then some cells else B i) L where
 bs:=w0.st _ _ _ _ hm.bs ⟨rfl,rfl,rfl,zd,fun b hb _=>Below.heap_alloc w _ b hb,(hm.dK id aL _).ro,fun b hb=>by
  obtain⟨i,hi⟩|hb|hb:=hb
  ·by_cases h:i=id
   ·simp[G.box,h]at hi;exact .inr zE
   simp[G.box,h]at hi;exact .inl (.inl ⟨i,hi⟩)
  ·exact .inl (.inr (.inl hb))
  exact .inl (.inr (.inr hb)),fun _ _ h=>.inl h⟩
 hN:=by have:=hm.hN;simp;omega
 an:=hm.an
 robd b o h:=by have:=hm.robd b o h;simp;omega
 box i cs b hb h1:=by
  by_cases hi:i=id
  ·subst hi;simp at hb;subst hb;simp[G.box]at h1;subst h1;exact⟨arr,e,by show(w.heap.push _)[w.heap.size]?=_;simp,hr.mono (hm.dK i aL _),yI⟩
  simp[hi]at hb;simp[G.box,hi]at h1;obtain⟨bU,e',h2,h3,h4⟩:=hm.box i cs b hb h1;exact⟨bU,e',by rw[Below.heap_alloc w _ b (aW h2)];exact h2,h3.mono (hm.dK id aL _),h4⟩
 β i b hb:=by
  by_cases hi:i=id
  ·subst hi;simp[G.box]at hb;subst hb;refine⟨hm.hN,zd,fun o h=>?_,fun i' h=>?_,cells,zd⟩
   ·have:=hm.robd _ o h;omega
   have:=(hm.own i' _ h).2.1;omega
  simp[G.box,hi]at hb;obtain⟨h1,h2,h3,h4,c,hc⟩:=hm.β i b hb;exact⟨h1,by simp;omega,h3,h4,c,by simp[hi,hc]⟩
 inj i i' b h h':=by
  by_cases hi:i=id<;>by_cases dm:i'=id
  ·exact .inr (.inr (by rw[hi,dm]))
  ·simp[G.box,hi]at h;simp[G.box,dm]at h';have:=(hm.β i' b h').2.1;omega
  ·simp[G.box,dm]at h';simp[G.box,hi]at h;have:=(hm.β i b h).2.1;omega
  simp[G.box,hi]at h;simp[G.box,dm]at h';simp only[if_neg hi,if_neg dm];exact hm.inj i i' b h h'
 own i b hb:=by
  obtain⟨h1,h2,h3⟩:=hm.own i b hb;exact⟨h1,by simp;omega,h3⟩
 oinj:=hm.oinj
 sp b hb:=by
  obtain⟨h1,h2,h3,h4,h5⟩:=hm.sp b hb;refine⟨h1,by simp;omega,h3,fun i hi=>?_,h5⟩;by_cases aL:i=id
  ·simp[G.box,aL]at hi;omega
  simp[G.box,aL]at hi;exact h4 i hi
 mm i' b hb:=by
  obtain⟨h1,h2,h3,h4,h5,h6,h8,h7⟩:=hm.mm i' b hb
  have aK:i'≠id:=by
   rintro rfl;obtain⟨_,_,hx,_⟩:=h7;rw[aL]at hx;cases hx
  refine⟨h1,by simp;omega,h3,fun i hi=>?_,h5,h6,by simp[G.box,aK,h8],?_⟩
  ·by_cases aL:i=id
   ·simp[G.box,aL]at hi;omega
   simp[G.box,aL]at hi;exact h4 i hi
  simp only[aK,if_false];exact h7.mono (hm.dK id aL _).cR.Aq (Below.heap_alloc w _ b h2)
 minj:=hm.minj
 len:=hm.len
 cur0:=hm.cur0
def yJ(arr:PQ):Nat->PP->PQ
 |_,[]=>arr
 |o,v::r=>yJ (arr.setIfInBounds o v) (o+1) r
def Kk:∀(vs:PP)(arr:PQ)(o:Nat),(yJ arr o vs).size=arr.size
 |[],_,_=>rfl
 |v::r,arr,o=>by rw[yJ,Kk r];simp
def heap_setCell_same{w:World}{b o:Nat}{arr:PQ}{e:TypeId}{f:Nat×Nat}(h:w.heap[b]?=some (.cells arr e f))(v:Value):
  (w.setCell ⟨b,o,none⟩ v).heap[b]?=some (.cells (arr.setIfInBounds o v) e f):=by
 simp[World.setCell,zzdm,h]
def Zm(b:Nat):∀(vs:PP)(o:Nat)(w:World)(arr:PQ)(e:TypeId)(f:Nat×Nat),w.heap[b]?=some (.cells arr e f)->
  (w.setCells b o vs).heap[b]?=some (.cells (yJ arr o vs) e f)
 |[],_,_,_,_,_,h=>h
 |v::r,o,w,arr,e,f,h=>by
  rw[World.setCells,yJ];exact Zm b r (o+1) _ _ e f (heap_setCell_same h v)
def Xv(b:Nat){N:Nat}(hb:N<=b):∀(vs:PP)(o:Nat)(w:World),Below N w (w.setCells b o vs)
 |[],_,_=>Below.refl _ _
 |v::r,o,w=>by
  rw[World.setCells];exact((Below.refl N w).setCell (p:=⟨b,o,none⟩) hb v).trans (Xv b hb r (o+1) _)
def Qz(b:Nat):∀(vs:PP)(o:Nat)(w:World)(b':Nat),b'≠b->(w.setCells b o vs).heap[b']?=w.heap[b']?
 |[],_,_,_,_=>rfl
 |v::r,o,w,b',h=>by
  rw[World.setCells,Qz b r (o+1) _ b' h];exact Below.heap_setCell w ⟨b,o,none⟩ v b' h
def aG(b:Nat):∀(vs:PP)(o:Nat)(w:World),(w.setCells b o vs).heap.size=w.heap.size
 |[],_,_=>rfl
 |v::r,o,w=>by
  rw[World.setCells,aG b r];simp[World.setCell]
def Sz.setCells(b o:Nat)(vs:PP)(w:World):Sz w (w.setCells b o vs):=fun b' arr e f h=>by
 by_cases hb:b'=b
 ·subst hb;exact⟨_,Zm b' vs o w arr e f h,Kk vs arr o⟩
 exact⟨arr,(Qz b vs o w b' hb).trans h,rfl⟩
def setA(cs:P1):Nat->P1->P1
 |_,[]=>cs
 |o,a::r=>setA (cs.set o a) (o+1) r
def Qcy:∀(vs:PP)(o:Nat)(arr:PQ),(∀v∈arr.toList,v.oneCell'=true)->(∀v∈vs,v.oneCell'=true)->∀v∈(yJ arr o vs).toList,v.oneCell'=true
 |[],_,_,h,_=>h
 |u::vs,o,arr,h,h'=>by
  rw[yJ];refine Qcy vs (o+1) _ (fun v hv=>?_) (fun v hv=>h' v (by simp[hv]));rw[zzdj]at hv;rcases zzgn hv with hv|rfl
  ·exact h v hv
  exact h' _ zd
def ak.setA{w:World}{γ:G}:∀{as':P1}{vs:PP}{o:Nat}{cs:P1}{arr:PQ},ak w γ as' vs->ak w γ cs arr.toList->ak w γ (setA cs o as') (yJ arr o vs).toList
 |[],[],_,_,_,_,h=>h
 |[],_::_,_,_,_,h,_=>by have:=h.1;simp at this
 |_::_,[],_,_,_,h,_=>by have:=h.1;simp at this
 |a::as',v::vs,o,cs,arr,h,hc=>by
  have h0:au w γ a v:=h.2 0 a v rfl rfl;have hs:ak w γ as' vs:=⟨by have:=h.1;simpa using this,fun i x y h1 h2=>h.2 (i+1) x y (Nm h1) (Nm h2)⟩;rw[Abs.setA,yJ];refine ak.setA hs ?_;rw[zzdj];exact hc.set o h0
def cG.setA{w:World}{γ:G}:∀{as':P1}{vs:PP}{o:Nat}{cs:P1}{arr:PQ},ak w γ as' vs->cG w γ cs arr.toList->cG w γ (setA cs o as') (yJ arr o vs).toList
 |[],[],_,_,_,_,h=>h
 |[],_::_,_,_,_,h,_=>by have:=h.1;simp at this
 |_::_,[],_,_,_,h,_=>by have:=h.1;simp at this
 |a::as',v::vs,o,cs,arr,h,hc=>by
  have h0:au w γ a v:=h.2 0 a v rfl rfl;have hs:ak w γ as' vs:=⟨by have:=h.1;simpa using this,fun i x y h1 h2=>h.2 (i+1) x y (Nm h1) (Nm h2)⟩;rw[Abs.setA,yJ];refine cG.setA hs ?_;rw[zzdj];exact hc.set o h0
def aq.dV(hm:aq N w0 an γ w B L){id b:Nat}(hb:γ.β id=some b)(o:Nat)(vs:PP):Ev w γ (w.setCells b o vs) γ where
 size:=by rw[aG];exact zzaa _
 ro b' o' _ hr:=⟨hr,cell_of_heap (Qz b vs o w b' (by rintro rfl;exact(hm.β id b' hb).2.2.1 o' hr))⟩
 β _ _ h:=h
 cur _:=zzaa _
 mm _ _ h:=h
 lp:=rfl
 own i b' _ ho:=by
  have aK:b'≠b:=by rintro rfl;exact(hm.β id b' hb).2.2.2.1 i ho
  exact⟨ho,fun arr e he=>⟨arr,by rw[Qz b vs o w b' aK];exact he,zzaa _⟩,fun _ h=>h⟩
 sp b' cU:=⟨cU,Qz b vs o w b' (by rintro rfl;exact(hm.sp b' cU).2.2.2.1 id hb)⟩
 ss:=Sz.setCells b o vs w
def aq.store(hm:aq N w0 an γ w B L){id:Nat}{cells:P1}(hB:B id=some cells){b:Nat}{arr:PQ}{e:TypeId}(hb:γ.β id=some b)
  (hh:w.heap[b]?=some (.cells arr e (0,0)))(hr:cG w γ cells arr.toList)(yI:∀v∈arr.toList,v.oneCell'=true){o:Nat}{as':P1}{vs:PP}(ha:ak w γ as' vs)(h1v:∀v∈vs,v.oneCell'=true)(lg:cells≠[]):
  aq N w0 an γ (w.setCells b o vs) (fun i=>if i=id then some (setA cells o as')else B i) L where
 bs:=w0.st _ _ _ _ hm.bs ⟨(Xv b (zzaa b) vs o w).os,(Xv b (zzaa b) vs o w).tape,(Xv b (zzaa b) vs o w).output,by rw[aG];exact zzaa _,
  fun b' _ tH=>Qz b vs o w b' (by rintro rfl;exact tH (.inl ⟨id,hb⟩)),(hm.dV hb o vs).ro,fun b hb=>.inl hb,fun _ _ h=>.inl h⟩
 hN:=by rw[aG];exact hm.hN
 an:=hm.an
 robd b' o' h:=by rw[aG];exact hm.robd b' o' h
 box i cs b' dL h1:=by
  by_cases hi:i=id
  ·subst hi;simp at dL;subst dL;obtain rfl:b'=b:=Option.some.inj (h1.symm.trans hb);exact⟨_,e,Zm b' vs o w arr e _ hh,(cG.setA ha hr).mono (hm.dV hb o vs),Qcy vs o arr yI h1v⟩
  simp[hi]at dL;obtain⟨bU,e',h2,h3,h4⟩:=hm.box i cs b' dL h1;by_cases aK:b'=b
  ·subst aK;rcases hm.inj _ _ _ h1 hb with h|h|h
   ·rw[h]at dL;cases dL;exact⟨_,e,Zm b' vs o w arr e _ hh,cG.nil,Qcy vs o arr yI h1v⟩
   ·rw[h]at hB;cases hB;exact absurd rfl lg
   exact absurd h hi
  exact⟨bU,e',by rw[Qz b vs o w b' aK];exact h2,h3.mono (hm.dV hb o vs),h4⟩
 β i b' dL:=by
  obtain⟨h1,h2,h3,h4,c,hc⟩:=hm.β i b' dL;refine⟨h1,by rw[aG];exact h2,h3,h4,?_⟩;by_cases hi:i=id
  ·exact⟨setA cells o as',by simp[hi]⟩
  exact⟨c,by simp[hi,hc]⟩
 inj i i' b' h h':=by
  rcases hm.inj i i' b' h h' with k|k|k
  ·refine .inl ?_;by_cases hi:i=id
   ·subst hi;rw[k]at hB;cases hB;exact absurd rfl lg
   simp only[if_neg hi];exact k
  ·refine .inr (.inl ?_);by_cases hi:i'=id
   ·subst hi;rw[k]at hB;cases hB;exact absurd rfl lg
   simp only[if_neg hi];exact k
  exact .inr (.inr k)
 own i b' dL:=by
  obtain⟨h1,h2,h3⟩:=hm.own i b' dL;exact⟨h1,by rw[aG];exact h2,h3⟩
 oinj:=hm.oinj
 sp b' cU:=by
  obtain⟨h1,h2,h3⟩:=hm.sp b' cU;exact⟨h1,by rw[aG];exact h2,h3⟩
 mm i' b' cU:=by
  obtain⟨h1,h2,h3,h4,h5,h6,h8,h7⟩:=hm.mm i' b' cU;have aK:i'≠id:=by rintro rfl;rw[hb]at h8;cases h8
  refine⟨h1,by rw[aG];exact h2,h3,h4,h5,h6,h8,?_⟩;simp only[aK,if_false];exact h7.mono (hm.dV hb o vs).cR.Aq (Qz b vs o w b' (by rintro rfl;exact h4 id hb))
 minj:=hm.minj
 len:=hm.len
 cur0:=hm.cur0
def G.extend(γ:G)(id b p q n:Nat):G:={γ with cur:=fun i=>if i=id then n else γ.cur i,ro:=fun b' o=>γ.ro b' o\/(b'=b/\p<=o/\o<q)}
def aq.jZ(hm:aq N w0 an γ w B L){id b p q n:Nat}{vs:PP}(ho:γ.own id=some b)(hn:γ.cur id<=n)(hq:γ.cur id=n->q<=p)(hpq:q=p+vs.length)(ow:∀o,p<=o->¬γ.ro b o):Ev w γ (w.setCells b p vs) (γ.extend id b p q n) where
 size:=by rw[aG];exact zzaa _
 ro b' o' _ hr:=by
  refine⟨.inl hr,World.cell?_setCells_out b vs p w _ fun e1 _=>?_⟩;simp only at e1 |-
  subst e1;rcases zzab o' p with h|h
  ·exact .inl h
  exact absurd hr (ow o' h)
 β _ _ h:=h
 cur i:=by
  simp only[G.extend];split
  ·rename_i h;subst h;exact hn
  exact zzaa _
 mm _ _ h:=h
 lp:=rfl
 own i b' hc hoi:=by
  by_cases hi:i=id
  ·subst hi;obtain rfl:b'=b:=Option.some.inj (hoi.symm.trans ho);simp only[G.extend,if_true]at hc;have:=hq hc.symm;have hvs:vs=[]:=zzbh zE;subst hvs;refine⟨hoi,fun arr e he=>⟨arr,he,zzaa _⟩,fun o hr=>?_⟩;obtain hr|⟨_,h1,h2⟩:=hr
   ·exact hr
   omega
  have aK:b'≠b:=by rintro rfl;exact hi (hm.oinj _ _ _ hoi ho)
  refine⟨hoi,fun arr e he=>⟨arr,by rw[Qz b vs p w b' aK];exact he,zzaa _⟩,fun o hr=>?_⟩;obtain hr|⟨h1,_,_⟩:=hr
  ·exact hr
  exact absurd h1 aK
 sp b' cU:=⟨cU,Qz b vs p w b' (by rintro rfl;exact(hm.sp b' cU).2.2.2.2 id ho)⟩
 ss:=Sz.setCells b p vs w
def aq.extend(hm:aq N w0 an γ w B L){id b p q n:Nat}{vs:PP}(ho:γ.own id=some b)(hn:γ.cur id<=n)(hq:γ.cur id=n->q<=p)(hpq:q=p+vs.length)(ow:∀o,p<=o->¬γ.ro b o):
  aq N w0 an (γ.extend id b p q n) (w.setCells b p vs) B (fun i=>if i=id then some n else L i) where
 bs:=w0.st _ _ _ _ hm.bs ⟨(Xv b (zzaa b) vs p w).os,(Xv b (zzaa b) vs p w).tape,(Xv b (zzaa b) vs p w).output,by rw[aG];exact zzaa _,
  fun b' _ tH=>Qz b vs p w b' (by rintro rfl;exact tH (.inr (.inl ⟨id,ho⟩))),(hm.jZ ho hn hq hpq ow).ro,fun b hb=>.inl hb,fun b' o' hr=>hr.imp_right fun h=>.inl (by rw[h.1];exact .inr (.inl ⟨id,ho⟩))⟩
 hN:=by rw[aG];exact hm.hN
 an b' o' hr:=by
  obtain hr|⟨rfl,_,_⟩:=hr
  ·exact hm.an b' o' hr
  exact .inr (hm.own id b' ho).1
 robd b' o' hr:=by
  rw[aG];obtain hr|⟨rfl,_,_⟩:=hr
  ·exact hm.robd b' o' hr
  exact(hm.own id b' ho).2.1
 box i cs b' dL h1:=by
  obtain⟨bU,e',h2,h3,h4⟩:=hm.box i cs b' dL h1;have aK:b'≠b:=by rintro rfl;exact(hm.β i b' h1).2.2.2.1 id ho
  exact⟨bU,e',by rw[Qz b vs p w b' aK];exact h2,h3.mono (hm.jZ ho hn hq hpq ow),h4⟩
 β i b' dL:=by
  obtain⟨h1,h2,h3,h4,hc⟩:=hm.β i b' dL;refine⟨h1,by rw[aG];exact h2,fun o hr=>?_,h4,hc⟩;obtain hr|⟨rfl,_,_⟩:=hr
  ·exact h3 o hr
  exact h4 id ho
 inj:=hm.inj
 own i b' dL:=by
  obtain⟨h1,h2,m,eH⟩:=hm.own i b' dL;refine⟨h1,by rw[aG];exact h2,?_⟩;by_cases hi:i=id
  ·exact⟨n,by simp[hi]⟩
  exact⟨m,by simp[hi,eH]⟩
 oinj:=hm.oinj
 sp b' cU:=by
  obtain⟨h1,h2,h3,h4,h5⟩:=hm.sp b' cU;refine⟨h1,by rw[aG];exact h2,fun o hr=>?_,h4,h5⟩;obtain hr|⟨rfl,_,_⟩:=hr
  ·exact h3 o hr
  exact h5 id ho
 mm i' b' cU:=by
  obtain⟨h1,h2,h3,h4,h5,h6,h8,h7⟩:=hm.mm i' b' cU;have aK:b'≠b:=by rintro rfl;exact h5 id ho
  refine⟨h1,by rw[aG];exact h2,fun o hr=>?_,h4,h5,h6,h8,h7.mono (hm.jZ ho hn hq hpq ow).cR.Aq (Qz b vs p w b' aK)⟩;obtain hr|⟨rfl,_,_⟩:=hr
  ·exact h3 o hr
  exact aK rfl
 minj:=hm.minj
 len i m hi:=by
  by_cases h:i=id
  ·simp[h]at hi;simp[G.extend,h,hi]
  simp[h]at hi;simp[G.extend,h,hm.len i m hi]
 cur0 i hi:=by
  by_cases h:i=id
  ·simp[h]at hi
  simp[h]at hi;simp[G.extend,h,hm.cur0 i hi]
def G.renew(γ:G)(id b q n:Nat):G:={γ with own:=fun i=>if i=id then some b else γ.own i,cur:=fun i=>if i=id then n else γ.cur i,ro:=fun b' o=>γ.ro b' o\/(b'=b/\o<q)}
def aq.fZ(hm:aq N w0 an γ w B L){id q n:Nat}(hn:γ.cur id<=n)(aK:γ.cur id=n->γ.own id=none)(o:Obj):Ev w γ (w.alloc o) (γ.renew id w.heap.size q n) where
 size:=zd
 ro b' o' hb hr:=⟨.inl hr,cell_of_heap (Below.heap_alloc w o b' hb)⟩
 β _ _ h:=h
 cur i:=by
  simp only[G.renew];split
  ·rename_i h;subst h;exact hn
  exact zzaa _
 mm _ _ h:=h
 lp:=rfl
 own i b' hc hoi:=by
  by_cases hi:i=id
  ·subst hi;simp only[G.renew,if_true]at hc;rw[aK hc.symm]at hoi;cases hoi
  have ah:=(hm.own i b' hoi).2.1;refine⟨by simp[G.renew,hi,hoi],fun arr e he=>⟨arr,by rw[Below.heap_alloc w o b' ah];exact he,zzaa _⟩,fun o' hr=>?_⟩;obtain hr|⟨h1,_⟩:=hr
  ·exact hr
  omega
 sp b hb:=⟨hb,Below.heap_alloc w o b (hm.sp b hb).2.1⟩
 ss:=Sz.of_same (Below.heap_alloc w o)
def aq.renew(hm:aq N w0 an γ w B L){id q n:Nat}(hn:γ.cur id<=n)(aK:γ.cur id=n->γ.own id=none)(o:Obj):
  aq N w0 an (γ.renew id w.heap.size q n) (w.alloc o) B (fun i=>if i=id then some n else L i) where
 bs:=w0.st _ _ _ _ hm.bs ⟨rfl,rfl,rfl,zd,fun b hb _=>Below.heap_alloc w _ b hb,(hm.fZ hn aK o).ro,fun b hb=>by
  obtain hb|⟨i,hi⟩|hb:=hb
  ·exact .inl (.inl hb)
  ·by_cases h:i=id
   ·simp[G.renew,h]at hi;exact .inr zE
   simp[G.renew,h]at hi;exact .inl (.inr (.inl ⟨i,hi⟩))
  exact .inl (.inr (.inr hb)),fun b' o' hr=>hr.imp_right fun h=>.inr (by rw[h.1];exact zzaa _)⟩
 hN:=by have:=hm.hN;simp;omega
 an b' o' hr:=by
  obtain hr|⟨rfl,_⟩:=hr
  ·exact hm.an b' o' hr
  exact .inr hm.hN
 robd b' o' hr:=by
  obtain hr|⟨rfl,_⟩:=hr
  ·have:=hm.robd b' o' hr;simp;omega
  simp
 box i cs b' dL h1:=by
  obtain⟨bU,e',h2,h3,h4⟩:=hm.box i cs b' dL h1;exact⟨bU,e',by rw[Below.heap_alloc w _ b' (aW h2)];exact h2,h3.mono (hm.fZ hn aK o),h4⟩
 β i b' dL:=by
  obtain⟨h1,h2,h3,h4,hc⟩:=hm.β i b' dL;refine⟨h1,by simp;omega,fun o' hr=>?_,fun i' hr=>?_,hc⟩
  ·obtain hr|⟨rfl,_⟩:=hr
   ·exact h3 o' hr
   omega
  by_cases hi:i'=id
  ·simp[G.renew,hi]at hr;omega
  simp[G.renew,hi]at hr;exact h4 i' hr
 inj:=hm.inj
 own i b' dL:=by
  by_cases hi:i=id
  ·simp[G.renew,hi]at dL;subst dL;exact⟨hm.hN,zd,n,by simp[hi]⟩
  simp[G.renew,hi]at dL;obtain⟨h1,h2,m,eH⟩:=hm.own i b' dL;exact⟨h1,by simp;omega,m,by simp[hi,eH]⟩
 oinj i i' b' h h':=by
  by_cases hi:i=id<;>by_cases dm:i'=id
  ·rw[hi,dm]
  ·simp[G.renew,hi]at h;simp[G.renew,dm]at h';have:=(hm.own i' b' h').2.1;omega
  ·simp[G.renew,dm]at h';simp[G.renew,hi]at h;have:=(hm.own i b' h).2.1;omega
  simp[G.renew,hi]at h;simp[G.renew,dm]at h';exact hm.oinj i i' b' h h'
 sp b hb:=by
  obtain⟨h1,h2,h3,h4,h5⟩:=hm.sp b hb;refine⟨h1,by simp;omega,fun o' hr=>?_,h4,fun i hi=>?_⟩
  ·obtain hr|⟨rfl,_⟩:=hr
   ·exact h3 o' hr
   omega
  by_cases h:i=id
  ·simp[G.renew,h]at hi;omega
  simp[G.renew,h]at hi;exact h5 i hi
 minj:=hm.minj
 mm i' b hb:=by
  obtain⟨h1,h2,h3,h4,h5,h6,h8,h7⟩:=hm.mm i' b hb;refine⟨h1,by simp;omega,fun o' hr=>?_,h4,fun i hi=>?_,h6,h8,h7.mono (hm.fZ hn aK o).cR.Aq (Below.heap_alloc w _ b h2)⟩
  ·obtain hr|⟨rfl,_⟩:=hr
   ·exact h3 o' hr
   omega
  by_cases h:i=id
  ·simp[G.renew,h]at hi;omega
  simp[G.renew,h]at hi;exact h5 i hi
 len i m hi:=by
  by_cases h:i=id
  ·simp[h]at hi;simp[G.renew,h,hi]
  simp[h]at hi;simp[G.renew,h,hm.len i m hi]
 cur0 i hi:=by
  by_cases h:i=id
  ·simp[h]at hi
  simp[h]at hi;simp[G.renew,h,hm.cur0 i hi]
def aq.drew(hm:aq N w0 an γ w B L):aq N w0 an γ w.drew B L where
 bs:=w0.st _ _ _ _ hm.bs ⟨rfl,rfl,rfl,zzaa _,fun _ _ _=>rfl,fun _ _ _ h=>⟨h,rfl⟩,fun _ hb=>.inl hb,fun _ _ h=>.inl h⟩
 hN:=hm.hN
 an:=hm.an
 robd:=hm.robd
 box i cs b hb h1:=by
  obtain⟨arr,e,h2,h3,h4⟩:=hm.box i cs b hb h1;exact⟨arr,e,h2,h3.mono ⟨zzaa _,fun _ _ _ h=>⟨h,rfl⟩,fun _ _ h=>h,fun _=>zzaa _,fun _ _ h=>h,rfl,fun _ _ _ h=>⟨h,fun arr _ h=>⟨arr,h,zzaa _⟩,fun _ h=>h⟩,fun _ h=>⟨h,rfl⟩,Sz.refl w⟩,h4⟩
 β:=hm.β
 inj:=hm.inj
 own:=hm.own
 oinj:=hm.oinj
 sp:=hm.sp
 mm i b hb:=by
  obtain⟨h1,h2,h3,h4,h5,h6,h8,h7⟩:=hm.mm i b hb;exact⟨h1,h2,h3,h4,h5,h6,h8,h7.mono (w':=w.drew) (γ':=γ) ⟨zzaa _,fun _ _ _ h=>⟨h,rfl⟩,fun _ _ h=>h,fun _=>zzaa _,fun _ _ h=>h,fun _ _ h=>h,fun _ _ _ h=>⟨h,fun arr _ h=>⟨arr,h,zzaa _⟩,fun _ h=>h⟩,Sz.refl w⟩ rfl⟩
 minj:=hm.minj
 len:=hm.len
 cur0:=hm.cur0
def Ev.drew(w:World)(γ:G):Ev w γ w.drew γ:=
 ⟨zzaa _,fun _ _ _ h=>⟨h,rfl⟩,fun _ _ h=>h,fun _=>zzaa _,fun _ _ h=>h,rfl,fun _ _ _ h=>⟨h,fun arr _ h=>⟨arr,h,zzaa _⟩,fun _ h=>h⟩,fun _ h=>⟨h,rfl⟩,Sz.refl w⟩
def aq.kill(hm:aq N w0 an γ w B L){id b:Nat}(hb:γ.β id=some b):aq N w0 an γ w (fun i=>if i=id then some []else B i) L where
 bs:=hm.bs
 hN:=hm.hN
 an:=hm.an
 robd:=hm.robd
 box i cells b' dL h1:=by
  by_cases hi:i=id
  ·subst hi;simp at dL;subst dL;obtain⟨_,_,_,_,c,hc⟩:=hm.β i b' h1;obtain⟨arr,e,h2,_,h4⟩:=hm.box i c b' hc h1;exact⟨arr,e,h2,cG.nil,h4⟩
  simp[hi]at dL;exact hm.box i cells b' dL h1
 β i b' dL:=by
  obtain⟨h1,h2,h3,h4,c,hc⟩:=hm.β i b' dL;refine⟨h1,h2,h3,h4,?_⟩;by_cases hi:i=id
  ·exact⟨[],by simp[hi]⟩
  exact⟨c,by simp[hi,hc]⟩
 inj i i' b' h h':=by
  rcases hm.inj i i' b' h h' with k|k|k
  ·refine .inl ?_;by_cases hi:i=id
   ·simp[hi]
   simp only[if_neg hi];exact k
  ·refine .inr (.inl ?_);by_cases hi:i'=id
   ·simp[hi]
   simp only[if_neg hi];exact k
  exact .inr (.inr k)
 own:=hm.own
 oinj:=hm.oinj
 sp:=hm.sp
 mm i' b' cU:=by
  obtain⟨h1,h2,h3,h4,h5,h6,h8,h7⟩:=hm.mm i' b' cU;have aK:i'≠id:=by rintro rfl;rw[hb]at h8;cases h8
  exact⟨h1,h2,h3,h4,h5,h6,h8,by simp only[aK,if_false];exact h7⟩
 minj:=hm.minj
 len:=hm.len
 cur0:=hm.cur0
def aq.share(hm:aq N w0 an γ w B L){id b id':Nat}{cells new:P1}(hb:γ.β id=some b)(hB:B id=some cells)(lg:cells≠[])(dc:B id'=none){arr:PQ}{e:TypeId}
  (hh:w.heap[b]?=some (.cells arr e (0,0))){p:Nat}{vs:PP}(hr:cG w γ new (yJ arr p vs).toList)(yI:∀v∈arr.toList,v.oneCell'=true)(h1v:∀v∈vs,v.oneCell'=true):
  Ev w γ (w.setCells b p vs) (γ.box id' b)/\aq N w0 an (γ.box id' b) (w.setCells b p vs) (fun i=>if i=id' then some new else if i=id then some []else B i) L:=by
 have arI:id'≠id:=by rintro rfl;rw[dc]at hB;cases hB
 have UL:∀i b',γ.β i=some b'->i≠id':=fun i b' h=>by
  rintro rfl;obtain⟨_,_,_,_,c,hc⟩:=hm.β i b' h;rw[dc]at hc;cases hc
 have cI:=hm.dV hb p vs
 have bZ:Ev w γ (w.setCells b p vs) (γ.box id' b):=
  ⟨cI.size,cI.ro,fun i b' h=>by simp[G.box,UL i b' h,h],cI.cur,cI.mm,cI.lp,cI.own,cI.sp,cI.ss⟩
 refine⟨bZ,?_⟩
 exact{
  bs:=w0.st _ _ _ _ hm.bs ⟨(Xv b (zzaa b) vs p w).os,(Xv b (zzaa b) vs p w).tape,(Xv b (zzaa b) vs p w).output,by rw[aG];exact zzaa _,
   fun b' _ tH=>Qz b vs p w b' (by rintro rfl;exact tH (.inl ⟨id,hb⟩)),bZ.ro,fun b' cU=>by
    obtain⟨i,hi⟩|cU|cU:=cU
    ·by_cases h:i=id'
     ·simp[G.box,h]at hi;subst hi;exact .inl (.inl ⟨id,hb⟩)
     simp[G.box,h]at hi;exact .inl (.inl ⟨i,hi⟩)
    ·exact .inl (.inr (.inl cU))
    exact .inl (.inr (.inr cU)),fun _ _ h=>.inl h⟩
  hN:=by rw[aG];exact hm.hN
  an:=hm.an
  robd:=fun b' o' h=>by rw[aG];exact hm.robd b' o' h
  box:=fun i cs b' dL h1=>by
   by_cases hi:i=id'
   ·subst hi;simp at dL;subst dL;simp[G.box]at h1;subst h1;exact⟨_,e,Zm b vs p w arr e _ hh,hr.mono bZ,Qcy vs p arr yI h1v⟩
   simp[G.box,hi]at h1;simp only[if_neg hi]at dL;by_cases PA:i=id
   ·subst PA;simp at dL;subst dL;obtain rfl:b'=b:=Option.some.inj (h1.symm.trans hb);exact⟨_,e,Zm b' vs p w arr e _ hh,cG.nil,Qcy vs p arr yI h1v⟩
   simp only[if_neg PA]at dL;obtain⟨bU,e',h2,h3,h4⟩:=hm.box i cs b' dL h1;by_cases aK:b'=b
   ·subst aK;rcases hm.inj _ _ _ h1 hb with h|h|h
    ·rw[h]at dL;cases dL;exact⟨_,e,Zm b' vs p w arr e _ hh,cG.nil,Qcy vs p arr yI h1v⟩
    ·rw[h]at hB;cases hB;exact absurd rfl lg
    exact absurd h PA
   exact⟨bU,e',by rw[Qz b vs p w b' aK];exact h2,h3.mono bZ,h4⟩
  β:=fun i b' dL=>by
   by_cases hi:i=id'
   ·subst hi;simp[G.box]at dL;subst dL;obtain⟨h1,h2,h3,h4,_⟩:=hm.β id b hb;exact⟨h1,by rw[aG];exact h2,h3,h4,new,zd⟩
   simp[G.box,hi]at dL;obtain⟨h1,h2,h3,h4,c,hc⟩:=hm.β i b' dL;refine⟨h1,by rw[aG];exact h2,h3,h4,?_⟩;by_cases PA:i=id
   ·exact⟨[],by simp[hi,PA,Ne.symm arI]⟩
   exact⟨c,by simp[hi,PA,hc]⟩
  inj:=fun i i' b' h h'=>by
   have key:∀j,j≠id'->γ.β j=some b->(if j=id' then some new else if j=id then some []else B j)=some []:=fun j hj hβ=>by
    rw[if_neg hj];by_cases As:j=id
    ·rw[if_pos As]
    rw[if_neg As];rcases hm.inj _ _ _ hβ hb with h|h|h
    ·exact h
    ·rw[h]at hB;cases hB;exact absurd rfl lg
    exact absurd h As
   by_cases hi:i=id'<;>by_cases dm:i'=id'
   ·exact .inr (.inr (by rw[hi,dm]))
   ·simp[G.box,hi]at h;simp[G.box,dm]at h';subst h;exact .inr (.inl (key i' dm h'))
   ·simp[G.box,hi]at h;simp[G.box,dm]at h';subst h';exact .inl (key i hi h)
   simp[G.box,hi]at h;simp[G.box,dm]at h';simp only[if_neg hi,if_neg dm];rcases hm.inj i i' b' h h' with k|k|k
   ·refine .inl ?_;by_cases PA:i=id
    ·rw[if_pos PA]
    rw[if_neg PA];exact k
   ·refine .inr (.inl ?_);by_cases PA:i'=id
    ·rw[if_pos PA]
    rw[if_neg PA];exact k
   exact .inr (.inr k)
  own:=fun i b' dL=>by
   obtain⟨h1,h2,h3⟩:=hm.own i b' dL;exact⟨h1,by rw[aG];exact h2,h3⟩
  oinj:=hm.oinj
  sp:=fun b' cU=>by
   obtain⟨h1,h2,h3,h4,h5⟩:=hm.sp b' cU;refine⟨h1,by rw[aG];exact h2,h3,fun i hi=>?_,h5⟩;by_cases aL:i=id'
   ·simp[G.box,aL]at hi;subst hi;exact h4 id hb
   simp[G.box,aL]at hi;exact h4 i hi
  mm:=fun i' b' cU=>by
   obtain⟨h1,h2,h3,h4,h5,h6,h8,h7⟩:=hm.mm i' b' cU;have aK:i'≠id:=by rintro rfl;rw[hb]at h8;cases h8
   have dW:i'≠id':=by
    rintro rfl;obtain⟨_,_,hx,_⟩:=h7;rw[dc]at hx;cases hx
   refine⟨h1,by rw[aG];exact h2,h3,fun i hi=>?_,h5,h6,by simp[G.box,dW,h8],?_⟩
   ·by_cases aL:i=id'
    ·simp[G.box,aL]at hi;subst hi;exact h4 id hb
    simp[G.box,aL]at hi;exact h4 i hi
   simp only[aK,dW,if_false];exact h7.mono bZ.cR.Aq (Qz b vs p w b' (by rintro rfl;exact h4 id hb))
  minj:=hm.minj
  len:=hm.len
  cur0:=hm.cur0}
inductive bN where
 |tmp (t:Nat)
 |const (a:AV)
 |func (f:FuncId)
 |glob (g:Nat)
def vq:Value->AV
 |.bool b=>.bool b
 |.int k n=>.int k n
 |.string s=>.str s
 |.slice none 0 0=>.sl .nil []
 |.nilFunc=>.nilfn
 |.pointer none=>.nilv true
 |.map none=>.nilv false
 |_=>.junk
def Au:Value->AV
 |.agg cs=>.agg (cs.toList.map vq)
 |v=>vq v
def Ct{w:World}{γ:G}:au w γ (.sl .nil []) (.slice none 0 0):=
 .sl (rows:=[]) 0 0 0 (fun _ _=>undef) (zzaa _) (fun _=>rfl) (fun h=>absurd rfl h) (fun _ h=>by cases h) (fun i j c h=>by simp[Qr]at h) (fun i j c h=>by simp[Qr]at h) rfl
def mG(w:World)(γ:G)(v:Value):au w γ (vq v) v:=by
 unfold vq;split
 ·exact .bool _
 ·exact .int _ _
 ·exact .str _
 ·exact Ct
 ·exact .nilfn
 ·exact .nilv true
 ·exact .nilv false
 exact .junk _
def Jn(w:World)(γ:G)(v:Value):au w γ (Au v) v:=by
 unfold Au;split
 ·refine .agg zd fun i c u h1 h2=>?_;simp at h1;obtain⟨u',h3,h4⟩:=h1;rw[h2]at h3;cases h3;subst h4;exact mG w γ u
 exact mG w γ _
def aA:Operand->bN
 |.tmp t=>.tmp t
 |.const v=>.const (Au v)
 |.func f=>.func f
 |.global g=>.glob g
def ev(gl:Nat->AV)(T:P1):bN->AV
 |.tmp t=>T.getD t .junk
 |.const a=>a
 |.func f=>.fn f [] []
 |.glob g=>gl g
inductive aC where
 |mv (x:bN)
 |pick (c a b:bN)
 |alloc (zs:P1)
 |box (x:bN)
 |build (zs:P1) (parts:List (Nat×Nat×bN))
 |bsl (sz len:Nat) (parts:List (Nat×bN))
 |load (agg:Bool) (n:Nat) (x:bN)
 |store (n:Nat) (x v:bN)
 |faddr (off:Nat) (x:bN)
 |fld (agg:Bool) (off n:Nat) (x:bN)
 |iaddr (sz:Nat) (x i:bN)
 |iaddrA (len sz:Nat) (x i:bN)
 |alD (x i:bN)
 |idxA (agg:Bool) (n sz:Nat) (x i:bN)
 |bin (op:BinOp) (x y:bN)
 |binB (op:BinOp) (x y:bN)
 |un (op:UnOp) (x:bN)
 |conv(k:IntKind) (x:bN)
 |len (x:bN)
 |lenS (x:bN)
 |mn (x y:bN)
 |mx (x y:bN)
 |mm3 (big:Bool) (x y z:bN)
 |mkfn (f:FuncId) (first cap:List bN)
 |ext (x:bN) (i:Nat)
 |call (f:bN) (args:List bN)
 |app (sz bytes:Nat) (s x:bN)
 |slS (x:bN) (lo hi:Option bN)
 |nilc (x:bN)
 |nilS (neg:Bool) (x:bN)
 |nilP (neg:Bool) (x:bN)
 |b2s (x:bN)
 |look (kn:Nat) (ok:Bool) (z:AV) (x k:bN)
 |mupd (kn:Nat) (x k v:bN)
 |mkmap (kn:Nat)
 |ment (kn:Nat) (z:AV) (x k:bN)
 |esto (x s v:bN)
 |rng (x:bN)
 |nxt (x:bN)
 |entr (x:bN)
 |mks0 (sz bytes:Nat) (c:bN)
 |slL (sz:Nat) (x:bN) (lo hi:Option bN)
 |slA (n sz:Nat) (x:bN) (lo hi:Option bN)
 |eqA (neg:Bool) (ks:P2) (x y:bN)
 |mks (sz bytes:Nat) (zs:P1) (l c:bN)
 |cpy (sz:Nat) (x y:bN)
 |clr (zs:P1) (x:bN)
 |pan (x:bN)
 |bad
def zc(P:Program)(t:TypeId):QR:=do
 let i <- P.info? t
 let z <- i.zero
 pure (z.cells.toList.map vq)
def Jq(P:Program)(t:TypeId):Bool:=
 match P.underlying t with
 |some (.struct _)|some (.array _ _)=>true
 |_=>false
def Js(P:Program)(t:TypeId)(parts:Array (Nat×Operand)):aC:=
 match P.underlying t,zc P t with
 |some (.struct fields),some zs=>
  match parts.toList.mapM (fun p:Nat×Operand=>(fields[p.1]?).bind fun f=>(P.info? f.type).map fun i=>(f.offset,i.size,aA p.2))with
  |some ps=>if fields.toList.all (fun f=>(P.info? f.type).isSome)then .build zs ps else .bad
  |none=>.bad
 |_,_=>.bad
def EU(P:Program)(t:TypeId):Option Nat:=
 match P.underlying t with
 |some .bool=>some 0
 |some (.int _)=>some 1
 |some .string=>some 2
 |_=>none
def Ws(P:Program):List Field->Nat->Option (P2)
 |[],_=>some []
 |f::r,i=>(match(f.offset==i)&&(f.name != "_"),EU P f.type,Ws P r (i+1)with
  |true,some k,some ks=>some (k::ks)
  |_,_,_=>none)
def vr(P:Program)(t:TypeId)(fs:List Field)(op:BinOp)(x y:Operand):aC:=
 match Ws P fs 0,(P.stoodInHeld t||P.eqGuardType P.depth t),op with
 |some ks,false,.eql=>.eqA false ks (aA x) (aA y)
 |some ks,false,.neq=>.eqA true ks (aA x) (aA y)
 |_,_,_=>.bad
def Zq(P:Program)(c:Call):aC:=
 match c.callee with
 |.value f=>.call (aA f) (c.args.toList.map aA)
 |.builtin .len=>
  match c.args.toList,c.argTypes.toList with
  |[x],[t]=>(match P.underlying t with|some .string=>.lenS (aA x)|some (.slice _)=>.len (aA x)|_=>.bad)
  |_,_=>.bad
 |.builtin .min=>(match c.args.toList with|[x,y]=>.mn (aA x) (aA y)|[x,y,z]=>.mm3 false (aA x) (aA y) (aA z)|_=>.bad)
 |.builtin .max=>(match c.args.toList with|[x,y]=>.mx (aA x) (aA y)|[x,y,z]=>.mm3 true (aA x) (aA y) (aA z)|_=>.bad)
 |.builtin .append=>
  match c.args.toList,c.argTypes.toList with
  |[s,x],[t,t']=>
   (match P.underlying t,P.underlying t' with
   |some (.slice e),some (.slice e')=>
    (match P.info? e with
    |some i=>if t==t'&&((i.zero.map fun z=>(z.cells.size,z.cells.toList.all (·.oneCell')))==some (i.size,true))&&(i.size !=0)&&(i.bytes !=0)then .app i.size i.bytes (aA s) (aA x)else .bad
    |none=>.bad)
   |_,_=>.bad)
  |_,_=>.bad
 |.builtin .copy=>
  match c.args.toList,c.argTypes.toList with
  |[x,y],t::_=>(match P.underlying t with
   |some (.slice e)=>(match P.info? e with|some i=>.cpy i.size (aA x) (aA y)|none=>.bad)
   |_=>.bad)
  |_,_=>.bad
 |.builtin .clear=>
  match c.args.toList,c.argTypes.toList with
  |[x],[t]=>(match P.underlying t with
   |some (.slice e)=>(match zc P e with|some zs=>.clr zs (aA x)|none=>.bad)
   |_=>.bad)
  |_,_=>.bad
 |_=>.bad
def iR(op:BinOp)(x y:Operand):aC:=
 match op,y with
 |.eql,.const (.slice none 0 0)=>.nilS false (aA x)
 |.neq,.const (.slice none 0 0)=>.nilS true (aA x)
 |_,_=>.bad
def UM(op:BinOp)(x y:Operand):aC:=
 match op,y with
 |.eql,.const (.pointer none)=>.nilP false (aA x)
 |.neq,.const (.pointer none)=>.nilP true (aA x)
 |_,_=>.bad
def EV(P:Program)(t:TypeId):Option (Nat×AV):=
 match P.underlying t with
 |some (.map k v)=>(match P.underlying k,P.info? v with
  |some (.int .i64),some i=>i.zero.map fun z=>(0,Au z)
  |some (.struct fs),some i=>(match Ws P fs.toList 0 with
   |some ks=>if ks.all (·==1)&&(fs.size !=0)&&!(P.stoodInHeld k)then i.zero.map fun z=>(fs.size,Au z)else none
   |none=>none)
  |_,_=>none)
 |_=>none
def tr(P:Program)(o:Oper):aC:=
 match o.op with
 |.move x|.assign x=>.mv (aA x)
 |.pick c a b=>.pick (aA c) (aA a) (aA b)
 |.alloc t=>(match zc P t with|some zs=>.alloc zs|none=>.bad)
 |.box _ x=>.box (aA x)
 |.build t parts=>Js P t parts
 |.buildSlice t len parts=>
  (match P.underlying t with
  |some (.slice e)=>
   (match P.info? e with
   |some i=>if((i.zero.map fun z=>z.cells.size)==some i.size)&&(i.size !=0)&&decide (len*i.size<=16777216)then .bsl i.size len (parts.toList.map fun p=>(p.1,aA p.2))else .bad
   |none=>.bad)
  |_=>.bad)
 |.load t a=>(match P.info? t,P.underlying t with|some i,some _=>if Jq P t then .load true i.size (aA a)else .load false 1 (aA a)|_,_=>.bad)
 |.store t a v=>(match P.info? t with|some i=>.store i.size (aA a) (aA v)|none=>.bad)
 |.fieldAddr s x f=>
  (match P.underlying s with
  |some (.struct fields)=>
   (match fields[f]? with
   |some fl=>(match P.info? fl.type with|some i=>if i.size==0 then .bad else .faddr fl.offset (aA x)|none=>.bad)
   |none=>.bad)
  |_=>.bad)
 |.field t x f=>
  (match P.underlying t with
  |some (.struct fields)=>
   (match fields[f]? with
   |some fl=>(match P.info? fl.type,P.underlying fl.type with|some i,some _=>if Jq P fl.type then .fld true fl.offset i.size (aA x)else .fld false fl.offset 1 (aA x)|_,_=>.bad)
   |none=>.bad)
  |_=>.bad)
 |.indexAddr t x i=>
  (match P.underlying t with
  |some (.slice e)=>(match P.info? e with|some j=>.iaddr j.size (aA x) (aA i)|none=>.bad)
  |some (.array n e)=>(match P.info? e with|some j=>.iaddrA n j.size (aA x) (aA i)|none=>.bad)
  |_=>.bad)
 |.index t x i=>(match P.underlying t with
  |some .string=>.alD (aA x) (aA i)
  |some (.array n e)=>(match P.info? e,P.underlying e with|some j,some _=>if Jq P e then .idxA true n j.size (aA x) (aA i)else(if j.size==1 then .idxA false n 1 (aA x) (aA i)else .bad)|_,_=>.bad)
  |_=>.bad)
 |.binOp op t x y _=>
  (match P.underlying t with
  |some .bool=>.binB op (aA x) (aA y)
  |some (.int _)=>.bin op (aA x) (aA y)
  |some .string=>.bin op (aA x) (aA y)
  |some (.slice _)=>iR op x y
  |some (.pointer _)=>UM op x y
  |some (.struct fs)=>vr P t fs.toList op x y
  |_=>.bad)
 |.unOp op _ x=>.un op (aA x)
 |.convert s d x=>
  (match P.underlying s,P.underlying d with
  |some (.int _),some (.int k)=>.conv k (aA x)
  |some (.slice e),some .string=>(match P.underlying e with|some (.int .u8)=>.b2s (aA x)|_=>.bad)
  |_,_=>.bad)
 |.makeFunc (.func f) first cap=>.mkfn f (first.toList.map aA) (cap.toList.map aA)
 |.extract x i=>.ext (aA x) i
 |.nilCheck x=>.nilc (aA x)
 |.slice t x lo hi none=>(match P.underlying t with
  |some .string=>.slS (aA x) (lo.map aA) (hi.map aA)
  |some (.slice e)=>(match P.info? e with|some i=>.slL i.size (aA x) (lo.map aA) (hi.map aA)|none=>.bad)
  |some (.array n e)=>(match P.info? e with|some i=>.slA n i.size (aA x) (lo.map aA) (hi.map aA)|none=>.bad)
  |_=>.bad)
 |.lookup t x k ok=>(match EV P t with|some (kn,z)=>.look kn ok z (aA x) (aA k)|none=>.bad)
 |.mapUpdate t x k v=>(match EV P t with|some (kn,_)=>.mupd kn (aA x) (aA k) (aA v)|none=>.bad)
 |.makeMap t none=>(match EV P t with|some (kn,_)=>.mkmap kn|none=>.bad)
 |.mapEntry t x k=>(match EV P t with|some (kn,z)=>.ment kn z (aA x) (aA k)|none=>.bad)
 |.entryStore _ x s v=>.esto (aA x) (aA s) (aA v)
 |.range t x=>(match EV P t with|some _=>.rng (aA x)|none=>.bad)
 |.next x false=>.nxt (aA x)
 |.entry x=>.entr (aA x)
 |.makeSlice t l c=>
  (match P.underlying t with
  |some (.slice e)=>(match P.info? e,l with
   |some i,.const (.int .i64 0)=>(if((i.zero.map fun z=>(z.cells.size,z.cells.toList.all (·.oneCell')))==some (i.size,true))&&(i.size !=0)then .mks0 i.size i.bytes (aA c)else .bad)
   |some i,l=>(match zc P e with|some zs=>.mks i.size i.bytes zs (aA l) (aA c)|none=>.bad)
   |_,_=>.bad)
  |_=>.bad)
 |.panic x=>.pan (aA x)
 |.call c=>Zq P c
 |_=>.bad
def Qw:AV->Bool
 |.bool _|.int _ _|.str _|.sl _ _|.ep _ _|.ptr _ _|.fn _ _ _|.nilfn|.yld _|.mp _|.it _|.nilv _|.bs _ _ _ _=>true
 |_=>false
def bare:AV->Bool
 |.junk|.gd _ _|.aS _|.aM _ _|.mitr _ _ _=>false
 |_=>true
def cellsOf:AV->P1
 |.agg cs=>cs
 |a=>[a]
def aY(sz:Nat):Nat->P1->X2
 |0,_=>[]
 |n+1,l=>l.take sz::aY sz n (l.drop sz)
def Wp(sz:Nat):∀(n:Nat)(l:P1),aY sz n l=(List.range n).map fun i=>(l.drop (i*sz)).take sz
 |0,_=>rfl
 |n+1,l=>by
  rw[aY,Wp sz n,zzgy,zzax,zzcz];simp only[zzhl,zzdf,List.cons.injEq,true_and];refine zzdb fun i _=>?_;simp only[Function.comp,zzdw,zzhm];rw[zzer]
def bG(m:AM):Nat->AV->AV
 |0,_=>.junk
 |d+1,a=>match a with
  |.agg cs=>.agg (cs.map (bG m d))
  |.aS cs=>.aS (cs.map (bG m d))
  |.fn f first cap=>.fn f (first.map (bG m d)) (cap.map (bG m d))
  |.sl (.own _ _) rows=>.sl .ro rows
  |.ptr id o=>.ep ((m.boxes.getD id []).map (bG m d)) o
  |.gd _ _=>.junk
  |.yld _=>.junk
  |.mp _=>.junk
  |.it _=>.junk
  |.aM _ _=>.junk
  |.mitr _ _ _=>.junk
  |.bs id off len sz=>bif Nat.ble (off+len*sz) (m.boxes.getD id []).length then .sl .ro (aY sz len (((m.boxes.getD id []).map (bG m d)).drop off))else .junk
  |a=>a
def Vz:Nat->AV->Bool
 |0,_=>true
 |d+1,a=>match a with
  |.agg cs=>cs.any (Vz d)
  |.aS cs=>cs.any (Vz d)
  |.fn _ first cap=>first.any (Vz d)||cap.any (Vz d)
  |.ptr _ _=>true
  |.bs _ _ _ _=>true
  |_=>false
def iS:AV->Bool
 |.bool _|.int _ _|.str _=>true
 |_=>false
def flat:AV->Bool
 |.aS cs=>cs.all iS
 |a=>iS a
def bF(P:Program)(f:FuncId):Prop:=∃fn,P.funcs[f]?=some fn/\fn.body.isNone=false/\(fn.name== "runtime.NumGoroutine")=false
def Pure(P:Program)(gl:Nat->AV)(f:FuncId)(as':P1)(r:AV):Prop:=
 bF P f/\∀(ro:Nat->Nat->Prop)(w:World)(vs:PP),(∀g,au w (G0 ro) (gl g) (.pointer (some ⟨g,0,none⟩)))->ak w (G0 ro) as' vs->
  Calls P f vs.toArray w fun e w'=>∃v,e=.returned v/\Below w.heap.size w w'/\au w' (G0 fun b o=>ro b o\/w.heap.size<=b) r v
def arJ(P:Program)(gl:Nat->AV)(f:FuncId)(as':P1)(m:AM)(r:AV):Prop:=
 bF P f/\∀(N:Nat)(w0:fE)(an:Nat->Nat->Prop)(γ:G)(w:World)(B:Nat->QR)(L:Nat->Option Nat)(vs:PP),aq N w0 an γ w B L->
  (∀id cells,m.boxes[id]?=some cells->B id=some cells)->(∀g,au w γ.cQ (gl g) (.pointer (some ⟨g,0,none⟩)))->ak w γ as' vs->
  Calls P f vs.toArray w fun e w'=>∃v γ',e=.returned v/\Ev w γ w' γ'/\aq N w0 an γ' w' B L/\au w' γ' r v
def callV(P:Program)(gl:Nat->AV)(f:FuncId)(as':P1)(m:AM):AV->Prop×AV
 |.gd _ r=>(arJ P gl f as' m r,r)
 |r=>(Pure P gl f (as'.map (bG m 6)) r/\(as'.any (Vz 6)=true->flat r=true),r)
def binI(op:BinOp)(k:IntKind)(a b:Int):Prop×AV:=
 match op with
 |.add=>(True,.int k (k.wrap (a+b)))
 |.sub=>(True,.int k (k.wrap (a-b)))
 |.mul=>(True,.int k (k.wrap (a*b)))
 |.quo=>(b≠0,.int k (k.wrap (a.tdiv b)))
 |.rem=>(b≠0,.int k (a.tmod b))
 |.eql=>(True,.bool (a==b))
 |.neq=>(True,.bool (a !=b))
 |.lss=>(True,.bool (decide (a<b)))
 |.leq=>(True,.bool (decide (a<=b)))
 |.gtr=>(True,.bool (decide (b<a)))
 |.geq=>(True,.bool (decide (b<=a)))
 |.and=>(True,.int k (k.wrap (BitVec.ofInt k.bits a&&& BitVec.ofInt k.bits b).toNat))
 |.or=>(True,.int k (k.wrap (BitVec.ofInt k.bits a|||BitVec.ofInt k.bits b).toNat))
 |.xor=>(True,.int k (k.wrap (BitVec.ofInt k.bits a ^^^ BitVec.ofInt k.bits b).toNat))
 |.andNot=>(True,.int k (k.wrap (BitVec.ofInt k.bits a&&& ~~~ BitVec.ofInt k.bits b).toNat))
 |_=>(False,.junk)
def binS(op:BinOp)(a b:ByteArray):Prop×AV:=
 match op with
 |.add=>(a.size+b.size<=9223372036854775807,.str (a++b))
 |.eql=>(True,.bool (a.toList==b.toList))
 |.neq=>(True,.bool (!(a.toList==b.toList)))
 |_=>(False,.junk)
def binV(op:BinOp)(x y:AV):Prop×AV:=
 match op with
 |.shl=>(match x,y with|.int k a,.int _ b=>(0<=b,.int k (k.wrap (a*2 ^ (min b.toNat k.bits))))|_,_=>(False,.junk))
 |.shr=>(match x,y with|.int k a,.int _ b=>(0<=b,.int k (a.fdiv (2 ^ (min b.toNat k.bits))))|_,_=>(False,.junk))
 |op=>match x,y with
  |.int k a,.int k' b=>(k=k'/\(binI op k a b).1,(binI op k a b).2)
  |.str a,.str b=>binS op a b
  |_,_=>(False,.junk)
def binBool(op:BinOp)(x y:AV):Prop×AV:=
 match op,x,y with
 |.eql,.bool a,.bool b=>(True,.bool (a==b))
 |.neq,.bool a,.bool b=>(True,.bool (!(a==b)))
 |_,_,_=>(False,.junk)
def isB:AV->Bool
 |.bool _=>true
 |_=>false
def bOf:AV->Bool
 |.bool b=>b
 |_=>false
def asB:AV->Option (Bool×Bool)
 |.bool b=>some (true,b)
 |.gd g a=>some (bif g then isB a else false,bOf a)
 |_=>none
def fillA(cs:P1):List (Nat×Nat×AV)->Prop×P1
 |[]=>(True,cs)
 |(off,size,a)::r=>let q:=fillA (setA cs off (cellsOf a)) r;(bare a=true/\(cellsOf a).length=size/\off+size<=cs.length/\q.1,q.2)
def Vx(agg:Bool)(n:Nat)(cs:P1):Prop×AV:=((cs.take n).length=n/\(agg=false->n=1),if agg then .agg (cs.take n)else cs.getD 0 .junk)
def intsA:P1->Option (Pi)
 |[]=>some []
 |.int .i64 n::r=>(match intsA r with|some ns=>some (n::ns)|none=>none)
 |_=>none
def keyA:Nat->AV->Option (Pi)
 |0,.int .i64 n=>some [n]
 |kn+1,.agg cs=>(match intsA cs with|some ns=>if ns.length=kn+1 then some ns else none|none=>none)
 |_,_=>none
def keyAV:Nat->Pi->AV
 |0,[n]=>.int .i64 n
 |0,_=>.junk
 |_+1,ns=>.agg (ns.map (AV.int .i64))
def Xg(n:Pi):List (Pi×AV)->Nat->Option (Nat×AV)
 |[],_=>none
 |(k,a)::r,i=>if n=k then some (i,a)else Xg n r (i+1)
def byteOf:P1->Option UInt8
 |[.int .u8 n]=>some (UInt8.ofNat n.toNat)
 |_=>none
def Yj:X2->Option (List UInt8)
 |[]=>some []
 |r::rs=>(match byteOf r,Yj rs with|some b,some l=>some (b::l)|_,_=>none)
def kindF:Nat->AV->AV->Bool
 |0,.bool _,.bool _=>true
 |1,.int k _,.int k' _=>decide (k=k')
 |2,.str _,.str _=>true
 |_,_,_=>false
def eqF:AV->AV->Bool
 |.bool a,.bool b=>a==b
 |.int _ a,.int _ b=>a==b
 |.str a,.str b=>a.toList==b.toList
 |_,_=>false
def Qcl:P2->P1->P1->Bool
 |[],[],[]=>true
 |k::ks,a::as',b::bs=>kindF k a b&&Qcl ks as' bs
 |_,_,_=>false
def eqFs:P1->P1->Bool
 |a::as',b::bs=>eqF a b&&eqFs as' bs
 |_,_=>true
def loOf:Option AV->Option Int
 |none=>some 0
 |some (.int _ l)=>some l
 |_=>none
def hiOf(n:Nat):Option AV->Option Int
 |none=>some n
 |some (.int _ h)=>some h
 |_=>none
def bH:Nat->P1->P1
 |0,_=>[]
 |n+1,zs=>zs++bH n zs
def cellsS(m:AM)(sz:Nat):AV->Prop×P1
 |.sl _ rows=>((∀row∈rows,row.length=sz),rows.flatten)
 |.bs id off len gz=>(gz=sz/\off+len*sz<=(m.boxes.getD id []).length/\id<m.boxes.length,((m.boxes.getD id []).drop off).take (len*sz))
 |_=>(False,[])
def lenS:AV->Nat
 |.sl _ rows=>rows.length
 |.bs _ _ len _=>len
 |_=>0
def mutO(orc:X1)(dst:Option Nat):Bool:=match orc (dst.getD 0) 999999 []with
 |.aM _ []=>true
 |_=>false
def UN:Rt->Bool
 |.full|.nil=>true
 |_=>false
def UO(big:Bool)(a b:Int):Int:=if big=true then(if a<b then b else a)else(if b<a then b else a)
def rop(P:Program)(gl:Nat->AV)(orc:X1)(e:bN->AV)(m:AM)(dst:Option Nat):aC->Prop×AV
 |.mv x=>(True,e x)
 |.pick c a b=>(match asB (e c),asB (e a),asB (e b)with
  |some (g0,c),some (g1,x),some (g2,y)=>(g0=true/\(c=true->g1=true)/\(c=false->g2=true),.bool (bif c then x else y))
  |_,_,_=>(False,.junk))
 |.build zs parts=>let q:=fillA zs (parts.map fun p=>(p.1,p.2.1,e p.2.2));(q.1,.agg q.2)
 |.bsl sz len parts=>let q:=fillA (List.replicate (len*sz) .junk) (parts.map fun p=>(p.1*sz,sz,e p.2));
  (q.1/\q.2.all Qw=true/\q.2.any (Vz 6)=false,.sl .full (aY sz len (q.2.map (bG m 6))))
 |.load agg n x=>(match e x with
  |.ptr id o=>Vx agg n ((m.boxes.getD id []).drop o)
  |.ep row o=>Vx agg n (row.drop o)
  |_=>(False,.junk))
 |.faddr off x=>(match e x with
  |.ptr id o=>(True,.ptr id (o+off))
  |.ep row o=>(True,.ep row (o+off))
  |_=>(False,.junk))
 |.fld agg off n x=>(match e x with
  |.agg cs=>Vx agg n (cs.drop off)
  |_=>(False,.junk))
 |.iaddr sz x i=>(match e x,e i with
  |.sl _ rows,.int _ i=>((0<=i/\i<rows.length)/\(rows.getD i.toNat []).length=sz,.ep (rows.getD i.toNat []) 0)
  |.bs id off len gz,.int _ i=>((0<=i/\i<len)/\gz=sz,.ptr id (off+i.toNat*sz))
  |_,_=>(False,.junk))
 |.iaddrA len sz x i=>(match e x,e i with
  |.ptr id o,.int _ i=>(0<=i/\i<len,.ptr id (o+i.toNat*sz))
  |.ep row o,.int _ i=>(0<=i/\i<len,.ep row (o+i.toNat*sz))
  |_,_=>(False,.junk))
 |.alD x i=>(match e x,e i with
  |.str s,.int _ i=>(0<=i/\i<s.size,.int .u8 (s.data.toList.getD i.toNat 0).toNat)
  |_,_=>(False,.junk))
 |.idxA agg n sz x i=>(match e x,e i with
  |.agg cs,.int _ i=>((0<=i/\i<n)/\(Vx agg sz (cs.drop (i.toNat*sz))).1,(Vx agg sz (cs.drop (i.toNat*sz))).2)
  |_,_=>(False,.junk))
 |.bin op x y=>binV op (e x) (e y)
 |.binB op x y=>binBool op (e x) (e y)
 |.un op x=>(match op,e x with
  |.not,.bool b=>(True,.bool (!b))
  |.neg,.int k n=>(True,.int k (k.wrap (0-n)))
  |.xor,.int k n=>(True,.int k (k.wrap (BitVec.ofInt k.bits (if k.signed then -1 else k.max) ^^^ BitVec.ofInt k.bits n).toNat))
  |_,_=>(False,.junk))
 |.conv k x=>(match e x with
  |.int _ n=>(True,.int k (k.wrap n))
  |_=>(False,.junk))
 |.len x=>(match e x with
  |.sl _ rows=>(True,.int .i64 rows.length)
  |.bs _ _ len _=>(True,.int .i64 len)
  |_=>(False,.junk))
 |.lenS x=>(match e x with
  |.str s=>(True,.int .i64 s.size)
  |_=>(False,.junk))
 |.mn x y=>(match e x,e y with
  |.int k a,.int _ b=>(True,.int k (if b<a then b else a))
  |_,_=>(False,.junk))
 |.mx x y=>(match e x,e y with
  |.int k a,.int _ b=>(True,.int k (if a<b then b else a))
  |_,_=>(False,.junk))
 |.mm3 big x y z=>(match e x,e y,e z with
  |.int k a,.int _ b,.int _ c=>(True,.int k (UO big (UO big a b) c))
  |_,_,_=>(False,.junk))
 |.mkfn f first cap=>(True,.fn f (first.map e) (cap.map e))
 |.ext x i=>(match e x with
  |.aS vs=>(i<vs.length,vs.getD i .junk)
  |_=>(False,.junk))
 |.call f args=>(match e f with
  |.fn f first cap=>callV P gl f (first++args.map e++cap) m (orc (dst.getD 0) f ((first++args.map e++cap).map (bG m 6)))
  |_=>(False,.junk))
 |.app sz bytes s x=>(match e s,e x with
  |.sl rt rows,.sl _ aB=>(UN rt=true/\(∀row∈rows++aB,row.length=sz)/\(3*(rows.length+aB.length)+4000)*bytes<=562949953421312,.sl .ro (rows++aB))
  |_,_=>(False,.junk))
 |.slS x lo hi=>(match e x,lo.map e,hi.map e with
  |.str s,some (.int _ l),some (.int _ h)=>(0<=l/\l<=h/\h<=s.size,.str (s.extract l.toNat h.toNat))
  |.str s,none,some (.int _ h)=>(0<=h/\h<=s.size,.str (s.extract 0 h.toNat))
  |.str s,some (.int _ l),none=>(0<=l/\l<=s.size,.str (s.extract l.toNat s.size))
  |_,_,_=>(False,.junk))
 |.nilc x=>(match e x with
  |.ptr id o=>(True,.ptr id o)
  |.ep row o=>(True,.ep row o)
  |.fn f first cap=>(True,.fn f first cap)
  |_=>(False,.junk))
 |.nilS neg x=>(match e x with
  |.sl .nil _=>(True,.bool (!neg))
  |.sl .nn _=>(True,.bool neg)
  |.sl _ (_::_)=>(True,.bool neg)
  |.bs _ _ _ _=>(True,.bool neg)
  |_=>(False,.junk))
 |.nilP neg x=>(match e x with
  |.ptr _ _=>(True,.bool neg)
  |.ep _ _=>(True,.bool neg)
  |.nilv true=>(True,.bool (!neg))
  |_=>(False,.junk))
 |.b2s x=>(match e x with
  |.sl _ rows=>(match Yj rows with
   |some l=>(True,.str ⟨l.toArray⟩)
   |none=>(False,.junk))
  |.bs id off len sz=>(match Yj (aY 1 len ((m.boxes.getD id []).drop off))with
   |some l=>(sz=1/\off+len<=(m.boxes.getD id []).length,.str ⟨l.toArray⟩)
   |none=>(False,.junk))
  |_=>(False,.junk))
 |.eqA neg ks x y=>(match e x,e y with
  |.agg xs,.agg ys=>(Qcl ks xs ys=true,.bool (if neg then !(eqFs xs ys)else eqFs xs ys))
  |_,_=>(False,.junk))
 |.slL sz x lo hi=>(match e x with
  |.sl _ rows=>(match loOf (lo.map e),hiOf rows.length (hi.map e)with
   |some l,some h=>((0<=l/\l<=h/\h<=rows.length)/\∀row∈rows,row.length=sz,.sl .ro ((rows.drop l.toNat).take (h.toNat-l.toNat)))
   |_,_=>(False,.junk))
  |.bs id off len gz=>(match loOf (lo.map e),hiOf len (hi.map e)with
   |some l,some h=>((0<=l/\l<=h/\h<=len)/\gz=sz,if l<h\/l=0 then .bs id (off+l.toNat*sz) (h.toNat-l.toNat) sz else .sl .nn [])
   |_,_=>(False,.junk))
  |_=>(False,.junk))
 |.slA n sz x lo hi=>(match e x with
  |.ptr id o=>(match loOf (lo.map e),hiOf n (hi.map e)with
   |some l,some h=>((0<=l/\l<=h/\h<=n)/\o+n*sz<=(m.boxes.getD id []).length/\id<m.boxes.length,if l<h\/l=0 then .bs id (o+l.toNat*sz) (h.toNat-l.toNat) sz else .sl .nn [])
   |_,_=>(False,.junk))
  |_=>(False,.junk))
 |.look kn ok z x k=>(match e x,keyA kn (e k)with
  |.mp id,some n=>(match m.boxes.getD id []with
   |[.aM Av kvs]=>(Av=kn,(match Xg n kvs 0 with
    |some (_,a)=>(if ok then .aS [a,.bool true]else a)
    |none=>(if ok then .aS [z,.bool false]else z)))
   |_=>(False,.junk))
  |_,_=>(False,.junk))
 |.entr x=>(match e x with
  |.it id=>(match m.boxes.getD id []with
   |[.mitr mid n seen]=>(match m.boxes.getD mid [],seen.getLast? with
    |[.aM kn kvs],some i=>(kvs.length=n/\i<n,.aS [keyAV kn (kvs.getD i ([],.junk)).1,(kvs.getD i ([],.junk)).2])
    |_,_=>(False,.junk))
   |_=>(False,.junk))
  |_=>(False,.junk))
 |_=>(False,.junk)
def sop(P:Program)(gl:Nat->AV)(orc:X1)(e:bN->AV)(m:AM)(dst:Option Nat)(so:aC):Prop×AV×AM:=
 match so with
 |.alloc zs=>(zs.all Qw=true,.ptr m.boxes.length 0,{m with boxes:=m.boxes++[zs]})
 |.box x=>(bare (e x)=true/\(cellsOf (e x)).all Qw=true,.ptr m.boxes.length 0,{m with boxes:=m.boxes++[cellsOf (e x)]})
 |.store n x v=>(match e x with
  |.ptr id o=>(bare (e v)=true/\(cellsOf (e v)).all Qw=true/\(cellsOf (e v)).length=n/\o+n<=(m.boxes.getD id []).length/\id<m.boxes.length,
    .junk,{m with boxes:=m.boxes.set id (setA (m.boxes.getD id []) o (cellsOf (e v)))})
  |_=>(False,.junk,m))
 |.app sz bytes s x=>(match e s,e x with
  |.sl (.own id gz) rows,.sl _ aB=>(gz=sz/\m.lens[id]?=some rows.length/\(∀row∈rows++aB,row.length=sz)/\(3*(rows.length+aB.length)+4000)*bytes<=562949953421312,
    .sl (.own id sz) (rows++aB),{m with lens:=m.lens.set id (rows.length+aB.length)})
  |.bs id off len gz,y=>(((gz=sz/\off=0/\id<m.boxes.length/\m.boxes.getD id []≠[]/\len*sz<=(m.boxes.getD id []).length)/\(3*(len+lenS y)+4000)*bytes<=562949953421312)/\(cellsS m sz y).1,
    .bs m.boxes.length 0 (len+lenS y) sz,{m with boxes:=m.boxes.set id []++[(m.boxes.getD id []).take (len*sz)++(cellsS m sz y).2]})
  |.sl (.own id gz) rows,.bs qE gD cE sz2=>((gz=sz/\sz2=sz)/\m.lens[id]?=some rows.length/\(∀row∈rows,row.length=sz)/\(3*(rows.length+cE)+4000)*bytes<=562949953421312/\gD+cE*sz<=(m.boxes.getD qE []).length/\qE<m.boxes.length/\(m.boxes.getD qE []).all Qw=true/\(m.boxes.getD qE []).any (Vz 6)=false,
    .sl (.own id sz) (rows++aY sz cE (((m.boxes.getD qE []).map (bG m 6)).drop gD)),{m with lens:=m.lens.set id (rows.length+cE)})
  |.sl rt rows,y=>if mutO orc dst=true then(if lenS y=0 then((cellsS m sz y).1,.sl rt rows,m)else((UN rt=true/\lenS y≠0/\(∀row∈rows,row.length=sz)/\(3*(rows.length+lenS y)+4000)*bytes<=562949953421312)/\(cellsS m sz y).1,
    .bs m.boxes.length 0 (rows.length+lenS y) sz,{m with boxes:=m.boxes++[rows.flatten++(cellsS m sz y).2]}))
   else(match y with
   |.sl _ aB=>(UN rt=true/\(∀row∈rows++aB,row.length=sz)/\(3*(rows.length+aB.length)+4000)*bytes<=562949953421312,
    .sl (.own m.lens.length sz) (rows++aB),{m with lens:=m.lens++[rows.length+aB.length]})
   |.bs qE gD cE sz2=>((UN rt=true/\sz2=sz)/\(∀row∈rows,row.length=sz)/\(3*(rows.length+cE)+4000)*bytes<=562949953421312/\gD+cE*sz<=(m.boxes.getD qE []).length/\qE<m.boxes.length/\(m.boxes.getD qE []).all Qw=true/\(m.boxes.getD qE []).any (Vz 6)=false,
    .sl (.own m.lens.length sz) (rows++aY sz cE (((m.boxes.getD qE []).map (bG m 6)).drop gD)),{m with lens:=m.lens++[rows.length+cE]})
   |_=>(False,.junk,m))
  |_,_=>(False,.junk,m))
 |.bsl sz len parts=>if mutO orc dst=true then let q:=fillA (List.replicate (len*sz) .junk) (parts.map fun p=>(p.1*sz,sz,e p.2));
   (q.1/\q.2.all Qw=true,.bs m.boxes.length 0 len sz,{m with boxes:=m.boxes++[q.2]})
  else((rop P gl orc e m dst (.bsl sz len parts)).1,(rop P gl orc e m dst (.bsl sz len parts)).2,m)
 |.mks sz bytes zs l c=>(match e l,e c with
  |.int _ l,.int _ c=>((0<=l/\l<=c/\bytes*c<=281474976710656/\c<=9223372036854775807)/\zs.length=sz/\zs.all Qw=true,.bs m.boxes.length 0 l.toNat sz,{m with boxes:=m.boxes++[bH c.toNat zs]})
  |_,_=>(False,.junk,m))
 |.cpy sz x y=>(match e x with
  |.bs id off len gz=>(match e y with
   |.str s=>((gz=1/\sz=1)/\id<m.boxes.length/\off+len<=(m.boxes.getD id []).length/\m.boxes.getD id []≠[],.int .i64 (min s.size len:Nat),{m with boxes:=m.boxes.set id (setA (m.boxes.getD id []) off ((s.data.toList.take len).map fun b=>.int .u8 b.toNat))})
   |y=>(gz=sz/\(cellsS m sz y).1/\id<m.boxes.length/\off+len*sz<=(m.boxes.getD id []).length/\m.boxes.getD id []≠[],.int .i64 (min (lenS y) len:Nat),{m with boxes:=m.boxes.set id (setA (m.boxes.getD id []) off ((cellsS m sz y).2.take (len*sz)))}))
  |_=>(False,.junk,m))
 |.clr zs x=>(match e x with
  |.bs id off len gz=>((gz=zs.length/\zs.all Qw=true)/\id<m.boxes.length/\off+len*zs.length<=(m.boxes.getD id []).length/\m.boxes.getD id []≠[],.aS [],{m with boxes:=m.boxes.set id (setA (m.boxes.getD id []) off (bH len zs))})
  |.sl _ []=>(True,.aS [],m)
  |_=>(False,.junk,m))
 |.mkmap kn=>(True,.mp m.boxes.length,{m with boxes:=m.boxes++[[.aM kn []]]})
 |.mupd kn x k v=>(match e x,keyA kn (e k)with
  |.mp id,some n=>(match m.boxes.getD id []with
   |[.aM Av kvs]=>(Av=kn/\bare (e v)=true,.junk,{m with boxes:=m.boxes.set id [.aM kn (match Xg n kvs 0 with
    |some (i,_)=>kvs.set i (n,e v)
    |none=>kvs++[(n,e v)])]})
   |_=>(False,.junk,m))
  |_,_=>(False,.junk,m))
 |.ment kn z x k=>(match e x,keyA kn (e k)with
  |.mp id,some n=>(match m.boxes.getD id []with
   |[.aM Av kvs]=>(Av=kn,(match Xg n kvs 0 with
    |some (i,c)=>.aS [c,.int .i64 i]
    |none=>.aS [z,.int .i64 kvs.length]),{m with boxes:=m.boxes.set id [.aM kn (match Xg n kvs 0 with
    |some _=>kvs
    |none=>kvs++[(n,z)])]})
   |_=>(False,.junk,m))
  |_,_=>(False,.junk,m))
 |.esto x s v=>(match e x,e s with
  |.mp id,.int _ i=>(match m.boxes.getD id []with
   |[.aM kn kvs]=>((0<=i/\i<kvs.length)/\bare (e v)=true,.junk,{m with boxes:=m.boxes.set id [.aM kn (kvs.set i.toNat ((kvs.getD i.toNat ([],.junk)).1,e v))]})
   |_=>(False,.junk,m))
  |_,_=>(False,.junk,m))
 |.rng x=>(match e x with
  |.mp id=>(match m.boxes.getD id []with
   |[.aM _ kvs]=>(True,.it m.boxes.length,{m with boxes:=m.boxes++[[.mitr id kvs.length []]]})
   |_=>(False,.junk,m))
  |_=>(False,.junk,m))
 |.mks0 sz bytes c=>(match e c with
  |.int _ c=>if mutO orc dst=true then(if c.toNat=0 then(0<=c/\bytes*c<=281474976710656/\c<=9223372036854775807,.sl .full [],{m with boxes:=m.boxes++[[]]})
    else(0<=c/\bytes*c<=281474976710656/\c<=9223372036854775807,.bs m.boxes.length 0 0 sz,{m with boxes:=m.boxes++[List.replicate (c.toNat*sz) .junk]}))
   else(0<=c/\bytes*c<=281474976710656/\c<=9223372036854775807,.sl (.own m.lens.length sz) [],{m with lens:=m.lens++[0]})
  |_=>(False,.junk,m))
 |so=>((rop P gl orc e m dst so).1,(rop P gl orc e m dst so).2,m)
end Go.Abs
