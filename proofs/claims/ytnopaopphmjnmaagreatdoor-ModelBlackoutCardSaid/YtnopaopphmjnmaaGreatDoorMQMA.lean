import Derived.WalkLawsBesides
import Derived.WalkSpells
import Derived.OrdersIn
import Derived.RangeFuncRecord
set_option linter.all false
namespace Go
def zE{p:Prop}(h:p:=by omega):p:=h
def zd{p:Prop}(h:p:=by simp):p:=h
def zza:=@List.getElem?_eq_some_iff
def zzaa:=@Nat.lt_or_ge
def zzab:=@Nat.le_refl
def zzac:=@List.mem_of_getElem?
def zzad:=@List.cons_append
def zzae:=@List.getElem?_eq_getElem
def zzaf:=@List.drop_eq_getElem_cons
def zzag:=@List.getElem?_append_left
def zzah:=@List.nil_append
def zzai:=@List.length_append
def zzaj:=@Array.getElem?_eq_getElem
def zzak:=@Bool.and_eq_true
def zzal:=@List.getElem?_append_right
def zzam:=@List.mem_append
def zzan:=@List.drop_eq_nil_of_le
def zzao:=@Nat.add_assoc
def zzap:=@List.take_of_length_le
def zzaq:=@List.length_take
def zzar:=@List.getD_eq_getElem?_getD
def zzas:=@List.take_add_one
def zzat:=@List.mem_cons
def zzau:=@List.append_nil
def zzav:=@List.eq_nil_of_length_eq_zero
def zzaw:=@List.getElem?_eq_none
def zzax:=@List.mem_map
def zzay:=@List.map_cons
def zzaz:=@Nat.lt_of_lt_of_le
def zzb:=@List.append_assoc
def zzba:=@List.getElem?_set_self
def zzbb:=@List.mem_range
def zzbc:=@Nat.mul_le_mul_right
def zzbd:=@List.mem_singleton
def zzbe:=@List.length_cons
def zzbf:=@List.getElem?_set_ne
def zzbg:=@Nat.le_trans
def zzbh:=@List.all_eq_true
def zzbi:=@List.getElem?_map
def zzbj:=@List.length_map
def zzbk:=@Array.length_toList
def zzbl:=@List.getElem?_take
def zzbm:=@List.getElem?_drop
def zzbn:=@List.drop_length
def zzbo:=@Nat.not_lt
def zzbp:=@Bool.false_eq_true
def zzbq:=@Int.le_refl
def zzbr:=@Nat.add_mul
def zzbs:=@List.length_filter_le
def zzbt:=@Nat.zero_le
def zzbu:=@List.take_length
def zzbv:=@Bool.eq_iff_iff
def zzbw:=@Nat.zero_add
def zzbx:=@List.any_eq_true
def zzby:=@Array.getElem?_eq_some_iff
def zzbz:=@Option.bind_some
def zzc:=@List.mem_iff_getElem?
def zzca:=@List.map_append
def zzcb:=@List.mem_of_mem_take
def zzcc:=@List.map_nil
def zzcd:=@List.length_eq_zero_iff
def zzce:=@Array.getElem?_toList
def zzcf:=@List.length_nil
def zzcg:=@List.mem_filter
def zzch:=@List.pairwise_cons
def zzci:=@Option.isSome_iff_exists
def zzcj:=@Option.map_eq_some_iff
def zzck:=@List.length_set
def zzcl:=@List.flatten_cons
def zzcm:=@List.ext_getElem?
def zzcn:=@Nat.eq_zero_or_pos
def zzco:=@Int.tdiv_eq_ediv_of_nonneg
def zzcp:=@List.getElem?_replicate
def zzcq:=@Nat.add_zero
def zzcr:=@List.length_drop
def zzcs:=@Array.getElem?_setIfInBounds_ne
def zzct:=@List.filter_append
def zzcu:=@List.set_append_right
def zzcv:=@Array.getElem?_eq_none
def zzcw:=@Option.map_some
def zzcx:=@List.length_pos_iff
def zzcy:=@List.getElem?_set
def zzcz:=@List.map_map
def zzd:=@List.foldl_cons
def zzda:=@List.map_congr_left
def zzdb:=@List.flatMap_cons
def zzdc:=@Array.mem_of_getElem?
def zzdd:=@List.take_append_drop
def zzde:=@List.drop_zero
def zzdf:=@List.zip_cons_cons
def zzdg:=@List.filter_cons_of_pos
def zzdh:=@List.getElem?_cons_succ
def zzdi:=@Nat.sub_self
def zzdj:=@Array.toList_setIfInBounds
def zzdk:=@List.getElem_mem
def zzdl:=@List.nodup_range
def zzdm:=@Nat.testBit_eq_decide_div_mod_eq
def zzdn:=@List.flatMap_nil
def zzdo:=@List.singleton_append
def zzdp:=@List.eq_nil_or_concat
def zzdq:=@List.concat_eq_append
def zzdr:=@List.pairwise_iff_getElem
def zzds:=@Nat.one_mul
def zzdt:=@List.mem_of_mem_drop
def zzdu:=@Bool.true_and
def zzdv:=@List.drop_append_of_le_length
def zzdw:=@Nat.add_sub_cancel_left
def zzdx:=@List.drop_drop
def zzdy:=@List.not_mem_nil
def zzdz:=@List.set_cons_succ
def zze:=@List.length_replicate
def zzea:=@List.length_singleton
def zzeb:=@Nat.lt_trichotomy
def zzec:=@List.any_eq_false
def zzed:=@Nat.mod_lt
def zzee:=@List.mem_of_find?_eq_some
def zzef:=@Int.mul_nonneg
def zzeg:=@Nat.mul_comm
def zzeh:=@List.ext_getElem
def zzei:=@List.filter_cons
def zzej:=@List.getElem?_range
def zzek:=@List.flatten_append
def zzel:=@List.filter_eq_self
def zzem:=@List.take_succ_cons
def zzen:=@Array.eq_empty_of_size_eq_zero
def zzeo:=@List.find?_cons
def zzep:=@List.zip_nil_right
def zzeq:=@List.size_toArray
def zzer:=@Array.size_append
def zzes:=@Int.toNat_natCast
def zzet:=@Array.getElem?_modify
def zzeu:=@Array.getElem?_setIfInBounds
def zzev:=@List.countP_le_length
def zzew:=@List.length_mergeSort
def zzex:=@List.dropLast_concat_getLast
def zzey:=@Nat.div_eq_of_lt
def zzez:=@Bool.or_eq_false_iff
def zzf:=@List.mem_reverse
def zzfa:=@Nat.pow_le_pow_right
def zzfb:=@List.pairwise_append
def zzfc:=@List.mem_cons_of_mem
def zzfd:=@Array.getElem?_append_left
def zzfe:=@List.exists_cons_of_ne_nil
def zzff:=@Nat.le_zero
def zzfg:=@List.replicate_succ
def zzfh:=@List.getLast?_eq_some_iff
def zzfi:=@List.range_succ
def zzfj:=@List.getLast?_eq_getElem?
def zzfk:=@List.all_append
def zzfl:=@Nat.add_comm
def zzfm:=@Nat.sub_zero
def zzfn:=@List.mem_filterMap
def zzfo:=@List.map_set
def zzfp:=@Int.lt_or_le
def zzfq:=@List.drop_left
def zzfr:=@List.filter_cons_of_neg
def zzfs:=@ByteArray.size_extract
def zzft:=@Nat.lt_succ_self
def zzfu:=@List.getElem?_zipWith
def zzfv:=@Array.toList_extract
def zzfw:=@Nat.min_eq_left
def zzfx:=@List.drop_eq_nil_iff
def zzfy:=@List.range_eq_range'
def zzfz:=@List.set_append_left
def zzg:=@List.getElem?_of_mem
def zzga:=@List.dropLast_concat
def zzgb:=@Int.mul_le_mul_of_nonneg_left
def zzgc:=@List.getElem_of_mem
def zzgd:=@List.take_set_of_le
def zzge:=@List.drop_set_of_lt
def zzgf:=@List.mergeSort_perm
def zzgg:=@Int.toNat_of_nonneg
def zzgh:=@Array.getElem?_map
def zzgi:=@Option.toList_some
def zzgj:=@Nat.add_sub_cancel
def zzgk:=@Array.ext_getElem?
def zzgl:=@List.map_drop
def zzgm:=@Int.fdiv_eq_ediv_of_nonneg
def zzgn:=@Bool.and_true
def zzgo:=@List.perm_ext_iff_of_nodup
def zzgp:=@List.foldl_append
def zzgq:=@Bool.not_eq_false
def zzgr:=@List.mem_or_eq_of_mem_set
def zzgs:=@List.getElem?_zip_eq_some
def zzgt:=@List.getElem?_eq_none_iff
def zzgu:=@List.getLast?_eq_none_iff
def zzgv:=@Nat.mod_eq_of_lt
def zzgw:=@Nat.min_eq_right
def zzgx:=@List.range'_succ
def zzgy:=@Nat.le_add_right
def zzgz:=@Int.le_trans
def zzh:=@List.length_filterMap_le
def zzha:=@Option.getD_some
def zzhb:=@List.getElem?_cons_zero
def zzhc:=@List.pairwise_mergeSort
def zzhd:=@Int.eq_ofNat_of_zero_le
def zzhe:=@List.pairwise_singleton
def zzhf:=@Nat.div_add_mod
def zzhg:=@Bool.or_eq_true
def zzhh:=@List.find?_some
def zzhi:=@List.range_succ_eq_map
def zzhj:=@List.filter_eq_nil_iff
def zzhk:=@Nat.min_def
def zzhl:=@List.append_eq_nil_iff
def zzhm:=@ByteArray.append_assoc
def zzhn:=@Nat.le_of_ble_eq_true
def zzho:=@List.mapM_cons
def zzhp:=@Array.mem_iff_getElem
def zzhq:=@List.take_zero
def zzhr:=@Array.getElem?_mapIdx
def zzhs:=@List.map_take
def zzht:=@Nat.zero_mul
def zzhu:=@Nat.succ_mul
def zzhv:=@Nat.le_total
def zzhw:=@Nat.pow_succ
end Go
namespace Go.Abs
open Go Go.RowKit
inductive Rt where
 |ro
 |full
 |nil
 |nn
 |own (id sz:Nat)
inductive AV where
 |junk
 |bool (b:Bool)
 |int (k:IntKind) (n:Int)
 |str (s:ByteArray)
 |agg (cs:List AV)
 |aZ (vs:List AV)
 |sl (rt:Rt) (rows:List (List AV))
 |ep (row:List AV) (o:Nat)
 |ptr (id o:Nat)
 |fn (f:FuncId) (first cap:List AV)
 |nilfn
 |yld (l:Nat)
 |mp (id:Nat)
 |nilv (p:Bool)
 |aL (kn:Nat) (kvs:List (List Int×AV))
 |it (id:Nat)
 |mitr (mid n:Nat) (seen:List Nat)
 |bs (id off len sz:Nat)
 |gd (g:Bool) (a:AV)
structure G where
 β:Nat->Option Nat
 own:Nat->Option Nat
 cur:Nat->Nat
 ro:Nat->Nat->Prop
 sp:Nat->Prop
 mm:Nat->Option Nat
 lp:Nat->Option Nat
def G.cT(γ:G):G:={β:=fun _=>none,own:=fun _=>none,cur:=fun _=>0,ro:=γ.ro,sp:=fun _=>False,mm:=fun _=>none,lp:=fun _=>none}
def G0(ro:Nat->Nat->Prop):G:={β:=fun _=>none,own:=fun _=>none,cur:=fun _=>0,ro:=ro,sp:=fun _=>False,mm:=fun _=>none,lp:=fun _=>none}
theorem WV(ro:Nat->Nat->Prop):(G0 ro).cT=G0 ro:=rfl
def Qv(rows:List (List AV))(i j:Nat):Option AV:=(rows[i]?).bind (·[j]?)
def mD(w:World)(γ:G)(a:Option Addr)(id len cap sz:Nat):Prop:=
 ∃b off arr e,a=some ⟨b,off,none⟩/\γ.own id=some b/\w.heap[b]?=some (.cells arr e (0,0))/\off+cap*sz<=arr.size/\
  ∀o,off+len*sz<=o->¬γ.ro b o
def tY(w:World)(γ:G)(a:Option Addr)(len cap sz:Nat):Rt->Prop
 |.ro=>True
 |.full=>cap=len
 |.nil=>a=none
 |.nn=>a≠none
 |.own id gH=>gH=sz/\len<=γ.cur id/\(len=γ.cur id->cap=len\/mD w γ a id len cap sz)
inductive aC (w:World):G->AV->Value->Prop
 |junk {γ:G} (v:Value):aC w γ .junk v
 |gd {γ:G} {g:Bool} {a:AV} {v:Value} (h:g=true->aC w γ a v) (h':g=false->v=undef):aC w γ (.gd g a) v
 |bool {γ:G} (b:Bool):aC w γ (.bool b) (.bool b)
 |int {γ:G} (k:IntKind) (n:Int):aC w γ (.int k n) (.int k n)
 |str {γ:G} (s:ByteArray):aC w γ (.str s) (.string s)
 |nilfn {γ:G}:aC w γ .nilfn .nilFunc
 |nilv {γ:G} (p:Bool):aC w γ (.nilv p) (bif p then .pointer none else .map none)
 |yld {γ:G} {i l:Nat} (h:γ.lp i=some l):aC w γ (.yld i) (.func (.yield l) #[] #[])
 |mp {γ:G} {id b:Nat} (h:γ.mm id=some b):aC w γ (.mp id) (.map (some b))
 |it {γ:G} {id b:Nat} (h:γ.mm id=some b):aC w γ (.it id) (.pointer (some ⟨b,0,none⟩))
 |agg {γ:G} {cs:List AV} {arr:Array Value} (hl:cs.length=arr.size) (h:∀(i:Nat)(c:AV)(v:Value),cs[i]?=some c->arr[i]?=some v->aC w γ c v):aC w γ (.agg cs) (.agg arr)
 |aZ {γ:G} {cs:List AV} {arr:Array Value} (hl:cs.length=arr.size) (h:∀(i:Nat)(c:AV)(v:Value),cs[i]?=some c->arr[i]?=some v->aC w γ c v):aC w γ (.aZ cs) (.tuple arr)
 |fn {γ:G} {f:FuncId} {first cap:List AV} {fa ca:Array Value} (hl:first.length=fa.size) (h:∀(i:Nat)(c:AV)(v:Value),first[i]?=some c->fa[i]?=some v->aC w γ c v)
   (eM:cap.length=ca.size) (h':∀(i:Nat)(c:AV)(v:Value),cap[i]?=some c->ca[i]?=some v->aC w γ c v):aC w γ (.fn f first cap) (.func (.func f) fa ca)
 |ptr {γ:G} {id o b:Nat} (h:γ.β id=some b):aC w γ (.ptr id o) (.pointer (some ⟨b,o,none⟩))
 |ep {γ:G} {row:List AV} {o b off:Nat} (cv:Nat->Value) (hb:b<w.heap.size)
   (hc:∀(j:Nat)(c:AV),row[j]?=some c->w.cell? ⟨b,off+j,none⟩=some (cv j)/\γ.ro b (off+j)/\(cv j).oneCell'=true)
   (h:∀(j:Nat)(c:AV),row[j]?=some c->aC w γ.cT c (cv j)):aC w γ (.ep row o) (.pointer (some ⟨b,off+o,none⟩))
 |bs {γ:G} {id off len sz cap b:Nat} {arr:Array Value} {e:TypeId} (h:γ.β id=some b) (hl:len<=cap) (hh:w.heap[b]?=some (.cells arr e (0,0))) (hs:off+cap*sz<=arr.size):
   aC w γ (.bs id off len sz) (.slice (some ⟨b,off,none⟩) len cap)
 |sl {γ:G} {rt:Rt} {rows:List (List AV)} {a:Option Addr} {cap:Nat} (b off sz:Nat) (cv:Nat->Nat->Value)
   (hcap:rows.length<=cap) (hnil:a=none->cap=0) (ha:rows≠[]->a=some ⟨b,off,none⟩/\b<w.heap.size)
   (hsz:∀row∈rows,row.length=sz)
   (hc:∀(i j:Nat)(c:AV),Qv rows i j=some c->w.cell? ⟨b,off+i*sz+j,none⟩=some (cv i j)/\γ.ro b (off+i*sz+j)/\(cv i j).oneCell'=true)
   (h:∀(i j:Nat)(c:AV),Qv rows i j=some c->aC w γ.cT c (cv i j))
   (aT:tY w γ a rows.length cap sz rt):aC w γ (.sl rt rows) (.slice a rows.length cap)
def qR(o o':Option Obj):Prop:=o'=o\/∃r s p,o=some (.loop r)/\o'=some (.loop {r with state:=s,pending:=p})
def qR.trans{o o' o'':Option Obj}(h:qR o o')(k:qR o' o''):qR o o'':=by
 obtain rfl|⟨r,s,p,rfl,rfl⟩:=h
 ·exact k
 obtain rfl|⟨r',s',p',e,rfl⟩:=k
 ·exact .inr ⟨r,s,p,rfl,rfl⟩
 simp at e;subst e;exact .inr ⟨r,s',p',rfl,rfl⟩
def Sz(w w':World):Prop:=∀(b:Nat)(arr:Array Value)(e:TypeId)(f:Nat×Nat),w.heap[b]?=some (.cells arr e f)->∃bR:Array Value,w'.heap[b]?=some (.cells bR e f)/\bR.size=arr.size
def Sz.refl(w:World):Sz w w:=fun _ arr _ _ h=>⟨arr,h,rfl⟩
def Sz.trans{w w' uG:World}(h:Sz w w')(k:Sz w' uG):Sz w uG:=fun b arr e f hb=>by
 obtain⟨bR,h1,h2⟩:=h b arr e f hb;obtain⟨Ft,h3,h4⟩:=k b bR e f h1;exact⟨Ft,h3,h4.trans h2⟩
def Sz.of_same{w w':World}(h:∀b,b<w.heap.size->w'.heap[b]?=w.heap[b]?):Sz w w':=fun b arr e f hb=>by
 have ai:b<w.heap.size:=by
  rcases zzaa b w.heap.size with h'|h'
  ·exact h'
  simp[zzcv h']at hb
 exact⟨arr,(h b ai).trans hb,rfl⟩
structure Ox (w:World) (γ:G) (w':World) (γ':G):Prop where
 size:w.heap.size<=w'.heap.size
 ro:∀b o,b<w.heap.size->γ.ro b o->γ'.ro b o/\w'.cell? ⟨b,o,none⟩=w.cell? ⟨b,o,none⟩
 β:∀id b,γ.β id=some b->γ'.β id=some b
 cur:∀id,γ.cur id<=γ'.cur id
 mm:∀b F,γ.mm b=some F->γ'.mm b=some F
 lp:∀i l,γ.lp i=some l->γ'.lp i=some l
 own:∀id b,γ'.cur id=γ.cur id->γ.own id=some b->γ'.own id=some b/\
  (∀arr e,w.heap[b]?=some (.cells arr e (0,0))->∃bR,w'.heap[b]?=some (.cells bR e (0,0))/\arr.size<=bR.size)/\∀o,γ'.ro b o->γ.ro b o
 ss:Sz w w'
structure eP (w:World) (γ:G) (w':World) (γ':G):Prop where
 size:w.heap.size<=w'.heap.size
 ro:∀b o,b<w.heap.size->γ.ro b o->γ'.ro b o/\w'.cell? ⟨b,o,none⟩=w.cell? ⟨b,o,none⟩
 β:∀id b,γ.β id=some b->γ'.β id=some b
 cur:∀id,γ.cur id<=γ'.cur id
 mm:∀b F,γ.mm b=some F->γ'.mm b=some F
 lp:∀i l,γ.lp i=some l->γ'.lp i=some l
 own:∀id b,γ'.cur id=γ.cur id->γ.own id=some b->γ'.own id=some b/\
  (∀arr e,w.heap[b]?=some (.cells arr e (0,0))->∃bR,w'.heap[b]?=some (.cells bR e (0,0))/\arr.size<=bR.size)/\∀o,γ'.ro b o->γ.ro b o
 sp:∀b,γ.sp b->γ'.sp b/\qR w.heap[b]? w'.heap[b]?
 ss:Sz w w'
structure Ev (w:World) (γ:G) (w':World) (γ':G):Prop where
 size:w.heap.size<=w'.heap.size
 ro:∀b o,b<w.heap.size->γ.ro b o->γ'.ro b o/\w'.cell? ⟨b,o,none⟩=w.cell? ⟨b,o,none⟩
 β:∀id b,γ.β id=some b->γ'.β id=some b
 cur:∀id,γ.cur id<=γ'.cur id
 mm:∀b F,γ.mm b=some F->γ'.mm b=some F
 lp:γ'.lp=γ.lp
 own:∀id b,γ'.cur id=γ.cur id->γ.own id=some b->γ'.own id=some b/\
  (∀arr e,w.heap[b]?=some (.cells arr e (0,0))->∃bR,w'.heap[b]?=some (.cells bR e (0,0))/\arr.size<=bR.size)/\∀o,γ'.ro b o->γ.ro b o
 sp:∀b,γ.sp b->γ'.sp b/\w'.heap[b]?=w.heap[b]?
 ss:Sz w w'
def eP.AR{w:World}{γ:G}{w':World}{γ':G}(h:eP w γ w' γ'):Ox w γ w' γ':=⟨h.size,h.ro,h.β,h.cur,h.mm,h.lp,h.own,h.ss⟩
def Ev.cK{w:World}{γ:G}{w':World}{γ':G}(h:Ev w γ w' γ'):eP w γ w' γ':=⟨h.size,h.ro,h.β,h.cur,h.mm,fun i l hl=>by rw[h.lp];exact hl,h.own,fun b hb=>⟨(h.sp b hb).1,.inl (h.sp b hb).2⟩,h.ss⟩
def Ev.refl(w:World)(γ:G):Ev w γ w γ:=
 ⟨zzab _,fun _ _ _ h=>⟨h,rfl⟩,fun _ _ h=>h,fun _=>zzab _,fun _ _ h=>h,rfl,fun _ _ _ h=>⟨h,fun arr _ h=>⟨arr,h,zzab _⟩,fun _ h=>h⟩,fun _ h=>⟨h,rfl⟩,Sz.refl w⟩
def Ev.trans{w:World}{γ:G}{w':World}{γ':G}{uG:World}{EF:G}(h:Ev w γ w' γ')(k:Ev w' γ' uG EF):Ev w γ uG EF where
 size:=zzbg h.size k.size
 ro b o hb hr:=by
  obtain⟨h1,h2⟩:=h.ro b o hb hr;obtain⟨h3,h4⟩:=k.ro b o (zzaz hb h.size) h1;exact⟨h3,h4.trans h2⟩
 β id b hb:=k.β id b (h.β id b hb)
 cur id:=zzbg (h.cur id) (k.cur id)
 mm b F hb:=k.mm b F (h.mm b F hb)
 lp:=k.lp.trans h.lp
 own id b hc ho:=by
  have h1:=h.cur id;have h2:=k.cur id;have e1:γ'.cur id=γ.cur id:=zE
  have e2:EF.cur id=γ'.cur id:=zE
  obtain⟨a1,a2,a3⟩:=h.own id b e1 ho;obtain⟨b1,b2,b3⟩:=k.own id b e2 a1;refine⟨b1,fun arr e hh=>?_,fun o ho=>a3 o (b3 o ho)⟩;obtain⟨bR,h3,h4⟩:=a2 arr e hh;obtain⟨Ft,h5,h6⟩:=b2 bR e h3;exact⟨Ft,h5,zzbg h4 h6⟩
 sp b hb:=by
  obtain⟨h1,h2⟩:=h.sp b hb;obtain⟨h3,h4⟩:=k.sp b h1;exact⟨h3,h4.trans h2⟩
 ss:=h.ss.trans k.ss
def eP.trans{w:World}{γ:G}{w':World}{γ':G}{uG:World}{EF:G}(h:eP w γ w' γ')(k:eP w' γ' uG EF):eP w γ uG EF where
 size:=zzbg h.size k.size
 ro b o hb hr:=by
  obtain⟨h1,h2⟩:=h.ro b o hb hr;obtain⟨h3,h4⟩:=k.ro b o (zzaz hb h.size) h1;exact⟨h3,h4.trans h2⟩
 β id b hb:=k.β id b (h.β id b hb)
 cur id:=zzbg (h.cur id) (k.cur id)
 mm b F hb:=k.mm b F (h.mm b F hb)
 lp i l hl:=k.lp i l (h.lp i l hl)
 own id b hc ho:=by
  have h1:=h.cur id;have h2:=k.cur id;have e1:γ'.cur id=γ.cur id:=zE
  have e2:EF.cur id=γ'.cur id:=zE
  obtain⟨a1,a2,a3⟩:=h.own id b e1 ho;obtain⟨b1,b2,b3⟩:=k.own id b e2 a1;refine⟨b1,fun arr e hh=>?_,fun o ho=>a3 o (b3 o ho)⟩;obtain⟨bR,h3,h4⟩:=a2 arr e hh;obtain⟨Ft,h5,h6⟩:=b2 bR e h3;exact⟨Ft,h5,zzbg h4 h6⟩
 sp b hb:=by
  obtain⟨h1,h2⟩:=h.sp b hb;obtain⟨h3,h4⟩:=k.sp b h1;exact⟨h3,h2.trans h4⟩
 ss:=h.ss.trans k.ss
def Ox.cT{w:World}{γ:G}{w':World}{γ':G}(h:Ox w γ w' γ'):Ox w γ.cT w' γ'.cT:=
 ⟨h.size,h.ro,fun _ _ h=>(by cases h),fun _=>zzab _,fun _ _ h=>(by cases h),fun _ _ h=>(by cases h),fun _ _ _ h=>(by cases h),h.ss⟩
def eP.cT{w:World}{γ:G}{w':World}{γ':G}(h:eP w γ w' γ'):eP w γ.cT w' γ'.cT:=
 ⟨h.size,h.ro,fun _ _ h=>(by cases h),fun _=>zzab _,fun _ _ h=>(by cases h),fun _ _ h=>(by cases h),fun _ _ _ h=>(by cases h),fun _ h=>h.elim,h.ss⟩
def eP.aw2{w:World}{γ:G}{w':World}{γ':G}(h:eP w γ w' γ'):Ev w γ.cT w' γ'.cT:=
 ⟨h.size,h.ro,fun _ _ h=>(by cases h),fun _=>zzab _,fun _ _ h=>(by cases h),rfl,fun _ _ _ h=>(by cases h),fun _ h=>h.elim,h.ss⟩
def Ev.cT{w:World}{γ:G}{w':World}{γ':G}(h:Ev w γ w' γ'):Ev w γ.cT w' γ'.cT:=h.cK.aw2
def mD.aW{w:World}{γ:G}{w':World}{γ':G}(h:Ox w γ w' γ'){a:Option Addr}{id len cap sz:Nat}(hc:γ'.cur id=γ.cur id)(hs:mD w γ a id len cap sz):
  mD w' γ' a id len cap sz:=by
 obtain⟨b,off,arr,e,ha,ho,hh,hsz,c9⟩:=hs;obtain⟨h1,h2,h3⟩:=h.own id b hc ho;obtain⟨bR,h4,h5⟩:=h2 arr e hh;exact⟨b,off,bR,e,ha,h1,h4,zzbg hsz h5,fun o ho hr=>c9 o ho (h3 o hr)⟩
def mD.mono{w:World}{γ:G}{w':World}{γ':G}(h:Ev w γ w' γ'){a:Option Addr}{id len cap sz:Nat}(hc:γ'.cur id=γ.cur id)(hs:mD w γ a id len cap sz):
  mD w' γ' a id len cap sz:=mD.aW h.cK.AR hc hs
def tY.mono{w:World}{γ:G}{w':World}{γ':G}(h:Ox w γ w' γ'){a:Option Addr}{len cap sz:Nat}{rt:Rt}(hr:tY w γ a len cap sz rt):tY w' γ' a len cap sz rt:=by
 cases rt with
 |ro=>trivial
 |full=>exact hr
 |nil=>exact hr
 |nn=>exact hr
 |own id gH=>
  obtain⟨h1,h2,h3⟩:=hr;have sD:=h.cur id;refine⟨h1,zzbg h2 sD,fun he=>?_⟩;have e1:γ'.cur id=γ.cur id:=zE
  exact(h3 zE).imp_right (mD.aW h e1)
def aC.fA{w:World}{γ:G}{a:AV}{v:Value}(h:aC w γ a v):∀{w':World}{γ':G},Ox w γ w' γ'->aC w' γ' a v:=by
 induction h with
 |junk v=>exact fun _=>.junk v
 |gd _ h' ih=>exact fun e=>.gd (fun hg=>ih hg e) h'
 |bool b=>exact fun _=>.bool b
 |int k n=>exact fun _=>.int k n
 |str s=>exact fun _=>.str s
 |nilfn=>exact fun _=>.nilfn
 |nilv p=>exact fun _=>.nilv p
 |yld h=>exact fun e=>.yld (e.lp _ _ h)
 |mp h=>exact fun e=>.mp (e.mm _ _ h)
 |it h=>exact fun e=>.it (e.mm _ _ h)
 |agg hl _ ih=>exact fun e=>.agg hl fun i c v h1 h2=>ih i c v h1 h2 e
 |aZ hl _ ih=>exact fun e=>.aZ hl fun i c v h1 h2=>ih i c v h1 h2 e
 |fn hl _ eM _ ih ih'=>exact fun e=>.fn hl (fun i c v h1 h2=>ih i c v h1 h2 e) eM fun i c v h1 h2=>ih' i c v h1 h2 e
 |ptr h=>exact fun e=>.ptr (e.β _ _ h)
 |bs h hl hh hs=>
  intro w' γ' e;obtain⟨bR,h1,h2⟩:=e.ss _ _ _ _ hh;exact .bs (e.β _ _ h) hl h1 zE
 |ep cv hb hc _ ih=>
  exact fun e=>.ep cv (zzaz hb e.size) (fun j c hj=>⟨(e.ro _ _ hb (hc j c hj).2.1).2.trans (hc j c hj).1,(e.ro _ _ hb (hc j c hj).2.1).1,(hc j c hj).2.2⟩) fun j c hj=>ih j c hj e.cT
 |@sl γ rt rows a cap b off sz cv hcap hnil ha hsz hc _ aT ih=>
  intro w' γ' e;have hb:∀i j c,Qv rows i j=some c->b<w.heap.size:=fun i j c eE=>(ha (by rintro rfl;simp[Qv]at eE)).2
  exact .sl b off sz cv hcap hnil (fun hn=>⟨(ha hn).1,zzaz (ha hn).2 e.size⟩) hsz
   (fun i j c eE=>⟨(e.ro _ _ (hb i j c eE) (hc i j c eE).2.1).2.trans (hc i j c eE).1,(e.ro _ _ (hb i j c eE) (hc i j c eE).2.1).1,(hc i j c eE).2.2⟩)
   (fun i j c eE=>ih i j c eE e.cT) (aT.mono e)
def aC.aW{w:World}{γ:G}{a:AV}{v:Value}(h:aC w γ a v){w':World}{γ':G}(e:eP w γ w' γ'):aC w' γ' a v:=h.fA e.AR
def aC.mono{w:World}{γ:G}{a:AV}{v:Value}(h:aC w γ a v){w':World}{γ':G}(e:Ev w γ w' γ'):aC w' γ' a v:=h.aW e.cK
def ak(w:World)(γ:G)(as:List AV)(vs:List Value):Prop:=as.length=vs.length/\∀(i:Nat)(a:AV)(v:Value),as[i]?=some a->vs[i]?=some v->aC w γ a v
def ak.mono{w:World}{γ:G}{as:List AV}{vs:List Value}(h:ak w γ as vs){w':World}{γ':G}(e:Ev w γ w' γ'):ak w' γ' as vs:=
 ⟨h.1,fun i a v h1 h2=>(h.2 i a v h1 h2).mono e⟩
def ak.fA{w:World}{γ:G}{as:List AV}{vs:List Value}(h:ak w γ as vs){w':World}{γ':G}(e:Ox w γ w' γ'):ak w' γ' as vs:=
 ⟨h.1,fun i a v h1 h2=>(h.2 i a v h1 h2).fA e⟩
def ak.aW{w:World}{γ:G}{as:List AV}{vs:List Value}(h:ak w γ as vs){w':World}{γ':G}(e:eP w γ w' γ'):ak w' γ' as vs:=
 ⟨h.1,fun i a v h1 h2=>(h.2 i a v h1 h2).aW e⟩
def ak.nil{w:World}{γ:G}:ak w γ [] []:=⟨rfl,fun i a v h=>(by simp at h)⟩
def ak.cons{w:World}{γ:G}{a:AV}{v:Value}{as:List AV}{vs:List Value}(h:aC w γ a v)(hs:ak w γ as vs):ak w γ (a::as) (v::vs):=
 ⟨by simp[hs.1],fun i x y h1 h2=>by
  cases i with
  |zero=>simp at h1 h2;subst h1;subst h2;exact h
  |succ i=>simp at h1 h2;exact hs.2 i x y h1 h2⟩
def ak.get{w:World}{γ:G}{as:List AV}{vs:List Value}(h:ak w γ as vs)(i:Nat):aC w γ (as.getD i .junk) (vs.getD i undef):=by
 rcases zzaa i as.length with hi|hi
 ·have di:i<vs.length:=h.1 ▸ hi;refine h.2 i _ _ (?_:as[i]?=some _) (?_:vs[i]?=some _)
  ·simp[List.getD,hi]
  simp[List.getD,di]
 simp[List.getD,zzaw hi];exact .junk _
def ak.set{w:World}{γ:G}{as:List AV}{vs:List Value}(h:ak w γ as vs)(i:Nat){a:AV}{v:Value}(ha:aC w γ a v):ak w γ (as.set i a) (vs.set i v):=by
 refine⟨by simp[h.1],fun j x y h1 h2=>?_⟩;by_cases eE:i=j
 ·subst eE;rw[zzcy]at h1 h2;simp only[if_true]at h1 h2;split at h1<;>split at h2<;>simp_all
 rw[zzbf eE]at h1 h2;exact h.2 j x y h1 h2
def ak.append{w:World}{γ:G}{as bs:List AV}{vs us:List Value}(h:ak w γ as vs)(k:ak w γ bs us):ak w γ (as++bs) (vs++us):=by
 refine⟨by simp[h.1,k.1],fun i x y h1 h2=>?_⟩;rcases zzaa i as.length with hi|hi
 ·rw[zzag hi]at h1;rw[zzag (h.1 ▸ hi)]at h2;exact h.2 i x y h1 h2
 rw[zzal hi]at h1;rw[zzal (h.1 ▸ hi),<- h.1]at h2;exact k.2 _ x y h1 h2
def cF(w:World)(γ:G)(as:List AV)(vs:List Value):Prop:=as.length<=vs.length/\∀(i:Nat)(a:AV)(v:Value),as[i]?=some a->vs[i]?=some v->aC w γ a v
def ak.toP{w:World}{γ:G}{as:List AV}{vs:List Value}(h:ak w γ as vs):cF w γ as vs:=⟨Nat.le_of_eq h.1,h.2⟩
def cF.nil{w:World}{γ:G}{vs:List Value}:cF w γ [] vs:=⟨zzbt _,fun i a v h=>(by simp at h)⟩
def cF.fA{w:World}{γ:G}{as:List AV}{vs:List Value}(h:cF w γ as vs){w':World}{γ':G}(e:Ox w γ w' γ'):cF w' γ' as vs:=
 ⟨h.1,fun i a v h1 h2=>(h.2 i a v h1 h2).fA e⟩
def cF.aW{w:World}{γ:G}{as:List AV}{vs:List Value}(h:cF w γ as vs){w':World}{γ':G}(e:eP w γ w' γ'):cF w' γ' as vs:=h.fA e.AR
def cF.mono{w:World}{γ:G}{as:List AV}{vs:List Value}(h:cF w γ as vs){w':World}{γ':G}(e:Ev w γ w' γ'):cF w' γ' as vs:=h.aW e.cK
def cF.set{w:World}{γ:G}{as:List AV}{vs:List Value}(h:cF w γ as vs)(i:Nat){a:AV}{v:Value}(ha:aC w γ a v):cF w γ (as.set i a) (vs.set i v):=by
 refine⟨by simpa using h.1,fun j x y h1 h2=>?_⟩;by_cases eE:i=j
 ·subst eE;rw[zzcy]at h1 h2;simp only[if_true]at h1 h2;split at h1<;>split at h2<;>simp_all
 rw[zzbf eE]at h1 h2;exact h.2 j x y h1 h2
open Go Go.RowKit
inductive LS where
 |gone
 |ready
 |busy
 |done (ex:Exit)
structure AM where
 boxes:List (List AV)
 lens:List Nat
 st:Nat->LS
 ln:Nat
def OI(γ:G)(b:Nat):Prop:=(∃id,γ.β id=some b)\/(∃id,γ.own id=some b)\/γ.sp b\/∃id,γ.mm id=some b
structure Chg (γ:G) (w:World) (γ':G) (w':World):Prop where
 os:w'.os=w.os
 tape:w'.tape=w.tape
 output:w'.output=w.output
 size:w.heap.size<=w'.heap.size
 same:∀b,b<w.heap.size->¬OI γ b->w'.heap[b]?=w.heap[b]?
 ro:∀b o,b<w.heap.size->γ.ro b o->γ'.ro b o/\w'.cell? ⟨b,o,none⟩=w.cell? ⟨b,o,none⟩
 oi:∀b,OI γ' b->OI γ b\/w.heap.size<=b
 ron:∀b o,γ'.ro b o->γ.ro b o\/OI γ b\/w.heap.size<=b
structure fF where
 p:G->World->Prop
 st:∀γ w γ' w',p γ w->Chg γ w γ' w'->p γ' w'
def Yr:Nat->List Int->Value
 |0,[n]=>.int .i64 n
 |0,_=>undef
 |_+1,ns=>.agg (ns.map (Value.int .i64)).toArray
def Fu:Nat->List Int->Prop
 |0,ns=>ns.length=1
 |kn+1,ns=>ns.length=kn+1
def cN(w:World)(γ:G):AV->Obj->Prop
 |.aL kn kvs,.map es clock=>clock=es.size/\kvs.length=es.size/\
  ∀(i:Nat)(k:List Int)(a:AV)(e:MapEntry),kvs[i]?=some (k,a)->es[i]?=some e->Fu kn k/\e.key=Yr kn k/\e.born=i/\aC w γ a e.val
 |.mitr mid n seen,.mapIter (some mb) Oy sn st=>γ.mm mid=some mb/\Oy=n/\st=n/\sn.toList=seen
 |_,_=>False
def vZ(w:World)(γ:G)(b:Nat)(x:Option (List AV)):Prop:=∃a o,x=some [a]/\w.heap[b]?=some o/\cN w γ a o
def cN.mono{w w':World}{γ γ':G}{a:AV}{o:Obj}(h:cN w γ a o)(ev:Ox w γ w' γ'):cN w' γ' a o:=by
 unfold cN at h |-
 split at h
 ·exact⟨h.1,h.2.1,fun i k a e q1 q2=>⟨(h.2.2 i k a e q1 q2).1,(h.2.2 i k a e q1 q2).2.1,(h.2.2 i k a e q1 q2).2.2.1,(h.2.2 i k a e q1 q2).2.2.2.fA ev⟩⟩
 ·exact⟨ev.mm _ _ h.1,h.2⟩
 exact h.elim
def vZ.mono{w w':World}{γ γ':G}{b:Nat}{x:Option (List AV)}(h:vZ w γ b x)(ev:Ox w γ w' γ')(e:w'.heap[b]?=w.heap[b]?):vZ w' γ' b x:=by
 obtain⟨a,o,h1,h2,h3⟩:=h;exact⟨a,o,h1,e.trans h2,h3.mono ev⟩
def vZ.WW{w:World}{γ:G}{b:Nat}{x:Option (List AV)}(h:vZ w γ b x){arr:Array Value}{e:TypeId}{f:Nat×Nat}(hh:w.heap[b]?=some (.cells arr e f)):False:=by
 obtain⟨a,o,_,h2,h3⟩:=h;rw[hh]at h2;cases h2;cases a<;>exact h3
structure au (N:Nat) (w0:fF) (aq:Nat->Nat->Prop) (γ:G) (w:World) (B:Nat->Option (List AV)) (L:Nat->Option Nat):Prop where
 bs:w0.p γ w
 hN:N<=w.heap.size
 aq:∀b o,γ.ro b o->aq b o\/N<=b
 robd:∀b o,γ.ro b o->b<w.heap.size
 box:∀id cells b,B id=some cells->γ.β id=some b->∃arr e,w.heap[b]?=some (.cells arr e (0,0))/\cF w γ cells arr.toList/\∀v∈arr.toList,v.oneCell'=true
 β:∀id b,γ.β id=some b->N<=b/\b<w.heap.size/\(∀o,¬γ.ro b o)/\(∀id',γ.own id'≠some b)/\∃cells,B id=some cells
 inj:∀id id' b,γ.β id=some b->γ.β id'=some b->B id=some []\/B id'=some []\/id=id'
 own:∀id b,γ.own id=some b->N<=b/\b<w.heap.size/\∃n,L id=some n
 oinj:∀id id' b,γ.own id=some b->γ.own id'=some b->id=id'
 sp:∀b,γ.sp b->N<=b/\b<w.heap.size/\(∀o,¬γ.ro b o)/\(∀id,γ.β id≠some b)/\(∀id,γ.own id≠some b)
 mm:∀id b,γ.mm id=some b->N<=b/\b<w.heap.size/\(∀o,¬γ.ro b o)/\(∀id,γ.β id≠some b)/\(∀id,γ.own id≠some b)/\¬γ.sp b/\γ.β id=none/\vZ w γ b (B id)
 minj:∀id id' b,γ.mm id=some b->γ.mm id'=some b->id=id'
 len:∀id n,L id=some n->γ.cur id=n
 cur0:∀id,L id=none->γ.cur id=0
def AM.B(m:AM):Nat->Option (List AV):=fun id=>m.boxes[id]?
def AM.L(m:AM):Nat->Option Nat:=fun id=>m.lens[id]?
def G.grow(γ:G)(n n':Nat):G:={γ with ro:=fun b o=>γ.ro b o\/(n<=b/\b<n')}
def cell_of_heap{w w':World}{b o:Nat}(h:w'.heap[b]?=w.heap[b]?):w'.cell? ⟨b,o,none⟩=w.cell? ⟨b,o,none⟩:=by
 simp[World.cell?,h]
def aO{w:World}{b o:Nat}{arr:Array Value}{e:TypeId}{f:Nat×Nat}(h:w.heap[b]?=some (.cells arr e f)):w.cell? ⟨b,o,none⟩=arr[o]?:=by
 simp[World.cell?,h]
def Zu{w:World}{b o:Nat}{arr:Array Value}{e:TypeId}(h:w.heap[b]?=some (.cells arr e (0,0))):w.frozen? ⟨b,o,none⟩=false:=by
 simp[World.frozen?,h]
def aS{w:World}{b:Nat}{x:Obj}(h:w.heap[b]?=some x):b<w.heap.size:=by
 rcases zzaa b w.heap.size with h'|h'
 ·exact h'
 simp[zzcv h']at h
def Ev.WX{w w':World}{γ:G}(h:Below w.heap.size w w')(fh:∀id b,γ.own id=some b->b<w.heap.size)(cU:∀b,γ.sp b->b<w.heap.size):Ev w γ w' (γ.grow w.heap.size w'.heap.size) where
 size:=h.size
 ro b o hb hr:=⟨.inl hr,cell_of_heap (h.block b hb)⟩
 β _ _ h:=h
 cur _:=zzab _
 mm _ _ h:=h
 lp:=rfl
 own id b _ ho:=by
  have hb:=fh id b ho;refine⟨ho,fun arr e he=>⟨arr,by rw[h.block b hb];exact he,zzab _⟩,fun o hr=>?_⟩;obtain hr|⟨hr,_⟩:=hr
  ·exact hr
  omega
 sp b hb:=⟨hb,h.block b (cU b hb)⟩
 ss:=Sz.of_same h.block
variable {N:Nat} {w0:fF} {aq:Nat->Nat->Prop} {γ:G} {w:World} {B:Nat->Option (List AV)} {L:Nat->Option Nat}
def au.dA(hm:au N w0 aq γ w B L){w':World}(h:Below w.heap.size w w'):Ev w γ w' (γ.grow w.heap.size w'.heap.size):=
 Ev.WX h (fun id b hb=>(hm.own id b hb).2.1) fun b hb=>(hm.sp b hb).2.1
def au.grow(hm:au N w0 aq γ w B L){w':World}(h:Below w.heap.size w w'):au N w0 aq (γ.grow w.heap.size w'.heap.size) w' B L where
 bs:=w0.st _ _ _ _ hm.bs ⟨h.os,h.tape,h.output,h.size,fun b hb _=>h.block b hb,(hm.dA h).ro,fun b hb=>.inl hb,fun b o hr=>hr.imp_right fun h=>.inr h.1⟩
 hN:=zzbg hm.hN h.size
 aq b o hr:=by
  obtain hr|⟨hr,_⟩:=hr
  ·exact hm.aq b o hr
  exact .inr (zzbg hm.hN hr)
 robd b o hr:=by
  obtain hr|⟨_,hr⟩:=hr
  ·exact zzaz (hm.robd b o hr) h.size
  exact hr
 box id cells b hb h1:=by
  obtain⟨arr,e,h2,h3,h4⟩:=hm.box id cells b hb h1;exact⟨arr,e,by rw[h.block b (aS h2)];exact h2,h3.mono (hm.dA h),h4⟩
 β id b hb:=by
  obtain⟨h1,h2,h3,h4,h5⟩:=hm.β id b hb;refine⟨h1,zzaz h2 h.size,fun o hr=>?_,h4,h5⟩;obtain hr|⟨hr,_⟩:=hr
  ·exact h3 o hr
  omega
 inj:=hm.inj
 own id b hb:=by
  obtain⟨h1,h2,h3⟩:=hm.own id b hb;exact⟨h1,zzaz h2 h.size,h3⟩
 oinj:=hm.oinj
 sp b hb:=by
  obtain⟨h1,h2,h3,h4⟩:=hm.sp b hb;refine⟨h1,zzaz h2 h.size,fun o hr=>?_,h4⟩;obtain hr|⟨hr,_⟩:=hr
  ·exact h3 o hr
  omega
 mm id b hb:=by
  obtain⟨h1,h2,h3,h4,h5,h6,h8,h7⟩:=hm.mm id b hb;refine⟨h1,zzaz h2 h.size,fun o hr=>?_,h4,h5,h6,h8,h7.mono (hm.dA h).cK.AR (h.block b h2)⟩;obtain hr|⟨hr,_⟩:=hr
  ·exact h3 o hr
  omega
 minj:=hm.minj
 len:=hm.len
 cur0:=hm.cur0
def G.box(γ:G)(id b:Nat):G:={γ with β:=fun i=>if i=id then some b else γ.β i}
def au.dB(hm:au N w0 aq γ w B L)(id:Nat)(aK:B id=none)(o:Obj):Ev w γ (w.alloc o) (γ.box id w.heap.size) where
 size:=zd
 ro b o' hb hr:=⟨hr,cell_of_heap (Below.heap_alloc w o b hb)⟩
 β i b hb:=by
  have:i≠id:=by rintro rfl;obtain⟨_,_,_,_,c,hc⟩:=hm.β i b hb;rw[aK]at hc;cases hc
  simp[G.box,this,hb]
 cur _:=zzab _
 mm _ _ h:=h
 lp:=rfl
 own i b _ ho:=⟨ho,fun arr e he=>⟨arr,by rw[Below.heap_alloc w o b (hm.own i b ho).2.1];exact he,zzab _⟩,fun _ h=>h⟩
 sp b hb:=⟨hb,Below.heap_alloc w o b (hm.sp b hb).2.1⟩
 ss:=Sz.of_same (Below.heap_alloc w o)
def au.fG(hm:au N w0 aq γ w B L)(id:Nat)(aK:B id=none){cells:List AV}{arr:Array Value}{e:TypeId}(hr:cF w γ cells arr.toList)(Q5:∀v∈arr.toList,v.oneCell'=true):
  au N w0 aq (γ.box id w.heap.size) (w.alloc (.cells arr e)) (fun i=>if i=id then some cells else B i) L where
 bs:=w0.st _ _ _ _ hm.bs ⟨rfl,rfl,rfl,zd,fun b hb _=>Below.heap_alloc w _ b hb,(hm.dB id aK _).ro,fun b hb=>by
  obtain⟨i,hi⟩|hb|hb:=hb
  ·by_cases h:i=id
   ·simp[G.box,h]at hi;exact .inr zE
   simp[G.box,h]at hi;exact .inl (.inl ⟨i,hi⟩)
  ·exact .inl (.inr (.inl hb))
  exact .inl (.inr (.inr hb)),fun _ _ h=>.inl h⟩
 hN:=by have:=hm.hN;simp;omega
 aq:=hm.aq
 robd b o h:=by have:=hm.robd b o h;simp;omega
 box i cs b hb h1:=by
  by_cases hi:i=id
  ·subst hi;simp at hb;subst hb;simp[G.box]at h1;subst h1;exact⟨arr,e,by show(w.heap.push _)[w.heap.size]?=_;simp,hr.mono (hm.dB i aK _),Q5⟩
  simp[hi]at hb;simp[G.box,hi]at h1;obtain⟨bR,e',h2,h3,h4⟩:=hm.box i cs b hb h1;exact⟨bR,e',by rw[Below.heap_alloc w _ b (aS h2)];exact h2,h3.mono (hm.dB id aK _),h4⟩
 β i b hb:=by
  by_cases hi:i=id
  ·subst hi;simp[G.box]at hb;subst hb;refine⟨hm.hN,zd,fun o h=>?_,fun i' h=>?_,cells,zd⟩
   ·have:=hm.robd _ o h;omega
   have:=(hm.own i' _ h).2.1;omega
  simp[G.box,hi]at hb;obtain⟨h1,h2,h3,h4,c,hc⟩:=hm.β i b hb;exact⟨h1,by simp;omega,h3,h4,c,by simp[hi,hc]⟩
 inj i i' b h h':=by
  by_cases hi:i=id<;>by_cases di:i'=id
  ·exact .inr (.inr (by rw[hi,di]))
  ·simp[G.box,hi]at h;simp[G.box,di]at h';have:=(hm.β i' b h').2.1;omega
  ·simp[G.box,di]at h';simp[G.box,hi]at h;have:=(hm.β i b h).2.1;omega
  simp[G.box,hi]at h;simp[G.box,di]at h';simp only[if_neg hi,if_neg di];exact hm.inj i i' b h h'
 own i b hb:=by
  obtain⟨h1,h2,h3⟩:=hm.own i b hb;exact⟨h1,by simp;omega,h3⟩
 oinj:=hm.oinj
 sp b hb:=by
  obtain⟨h1,h2,h3,h4,h5⟩:=hm.sp b hb;refine⟨h1,by simp;omega,h3,fun i hi=>?_,h5⟩;by_cases aK:i=id
  ·simp[G.box,aK]at hi;omega
  simp[G.box,aK]at hi;exact h4 i hi
 mm i' b hb:=by
  obtain⟨h1,h2,h3,h4,h5,h6,h8,h7⟩:=hm.mm i' b hb
  have aM:i'≠id:=by
   rintro rfl;obtain⟨_,_,hx,_⟩:=h7;rw[aK]at hx;cases hx
  refine⟨h1,by simp;omega,h3,fun i hi=>?_,h5,h6,by simp[G.box,aM,h8],?_⟩
  ·by_cases aK:i=id
   ·simp[G.box,aK]at hi;omega
   simp[G.box,aK]at hi;exact h4 i hi
  simp only[aM,if_false];exact h7.mono (hm.dB id aK _).cK.AR (Below.heap_alloc w _ b h2)
 minj:=hm.minj
 len:=hm.len
 cur0:=hm.cur0
def tZ(arr:Array Value):Nat->List Value->Array Value
 |_,[]=>arr
 |o,v::r=>tZ (arr.setIfInBounds o v) (o+1) r
def Vd:∀(vs:List Value)(arr:Array Value)(o:Nat),(tZ arr o vs).size=arr.size
 |[],_,_=>rfl
 |v::r,arr,o=>by rw[tZ,Vd r];simp
def heap_setCell_same{w:World}{b o:Nat}{arr:Array Value}{e:TypeId}{f:Nat×Nat}(h:w.heap[b]?=some (.cells arr e f))(v:Value):
  (w.setCell ⟨b,o,none⟩ v).heap[b]?=some (.cells (arr.setIfInBounds o v) e f):=by
 simp[World.setCell,zzet,h]
def Xb(b:Nat):∀(vs:List Value)(o:Nat)(w:World)(arr:Array Value)(e:TypeId)(f:Nat×Nat),w.heap[b]?=some (.cells arr e f)->
  (w.setCells b o vs).heap[b]?=some (.cells (tZ arr o vs) e f)
 |[],_,_,_,_,_,h=>h
 |v::r,o,w,arr,e,f,h=>by
  rw[World.setCells,tZ];exact Xb b r (o+1) _ _ e f (heap_setCell_same h v)
def Xz(b:Nat){N:Nat}(hb:N<=b):∀(vs:List Value)(o:Nat)(w:World),Below N w (w.setCells b o vs)
 |[],_,_=>Below.refl _ _
 |v::r,o,w=>by
  rw[World.setCells];exact((Below.refl N w).setCell (p:=⟨b,o,none⟩) hb v).trans (Xz b hb r (o+1) _)
def Qx(b:Nat):∀(vs:List Value)(o:Nat)(w:World)(b':Nat),b'≠b->(w.setCells b o vs).heap[b']?=w.heap[b']?
 |[],_,_,_,_=>rfl
 |v::r,o,w,b',h=>by
  rw[World.setCells,Qx b r (o+1) _ b' h];exact Below.heap_setCell w ⟨b,o,none⟩ v b' h
def aG(b:Nat):∀(vs:List Value)(o:Nat)(w:World),(w.setCells b o vs).heap.size=w.heap.size
 |[],_,_=>rfl
 |v::r,o,w=>by
  rw[World.setCells,aG b r];simp[World.setCell]
def Sz.setCells(b o:Nat)(vs:List Value)(w:World):Sz w (w.setCells b o vs):=fun b' arr e f h=>by
 by_cases hb:b'=b
 ·subst hb;exact⟨_,Xb b' vs o w arr e f h,Vd vs arr o⟩
 exact⟨arr,(Qx b vs o w b' hb).trans h,rfl⟩
def setA(cs:List AV):Nat->List AV->List AV
 |_,[]=>cs
 |o,a::r=>setA (cs.set o a) (o+1) r
def Qaa:∀(vs:List Value)(o:Nat)(arr:Array Value),(∀v∈arr.toList,v.oneCell'=true)->(∀v∈vs,v.oneCell'=true)->∀v∈(tZ arr o vs).toList,v.oneCell'=true
 |[],_,_,h,_=>h
 |u::vs,o,arr,h,h'=>by
  rw[tZ];refine Qaa vs (o+1) _ (fun v hv=>?_) (fun v hv=>h' v (by simp[hv]));rw[zzdj]at hv;rcases zzgr hv with hv|rfl
  ·exact h v hv
  exact h' _ zd
def ak.setA{w:World}{γ:G}:∀{as:List AV}{vs:List Value}{o:Nat}{cs:List AV}{arr:Array Value},ak w γ as vs->ak w γ cs arr.toList->ak w γ (setA cs o as) (tZ arr o vs).toList
 |[],[],_,_,_,_,h=>h
 |[],_::_,_,_,_,h,_=>by have:=h.1;simp at this
 |_::_,[],_,_,_,h,_=>by have:=h.1;simp at this
 |a::as,v::vs,o,cs,arr,h,hc=>by
  have h0:aC w γ a v:=h.2 0 a v rfl rfl;have hs:ak w γ as vs:=⟨by have:=h.1;simpa using this,fun i x y h1 h2=>h.2 (i+1) x y (by simpa using h1) (by simpa using h2)⟩;rw[Abs.setA,tZ];refine ak.setA hs ?_;rw[zzdj];exact hc.set o h0
def cF.setA{w:World}{γ:G}:∀{as:List AV}{vs:List Value}{o:Nat}{cs:List AV}{arr:Array Value},ak w γ as vs->cF w γ cs arr.toList->cF w γ (setA cs o as) (tZ arr o vs).toList
 |[],[],_,_,_,_,h=>h
 |[],_::_,_,_,_,h,_=>by have:=h.1;simp at this
 |_::_,[],_,_,_,h,_=>by have:=h.1;simp at this
 |a::as,v::vs,o,cs,arr,h,hc=>by
  have h0:aC w γ a v:=h.2 0 a v rfl rfl;have hs:ak w γ as vs:=⟨by have:=h.1;simpa using this,fun i x y h1 h2=>h.2 (i+1) x y (by simpa using h1) (by simpa using h2)⟩;rw[Abs.setA,tZ];refine cF.setA hs ?_;rw[zzdj];exact hc.set o h0
def oO:∀(as:List AV)(o:Nat)(cs:List AV),(setA cs o as).length=cs.length
 |[],_,_=>rfl
 |a::as,o,cs=>by rw[setA,oO as];simp
def au.cG(hm:au N w0 aq γ w B L){id b:Nat}(hb:γ.β id=some b)(o:Nat)(vs:List Value):Ev w γ (w.setCells b o vs) γ where
 size:=by rw[aG];exact zzab _
 ro b' o' _ hr:=⟨hr,cell_of_heap (Qx b vs o w b' (by rintro rfl;exact(hm.β id b' hb).2.2.1 o' hr))⟩
 β _ _ h:=h
 cur _:=zzab _
 mm _ _ h:=h
 lp:=rfl
 own i b' _ ho:=by
  have aM:b'≠b:=by rintro rfl;exact(hm.β id b' hb).2.2.2.1 i ho
  exact⟨ho,fun arr e he=>⟨arr,by rw[Qx b vs o w b' aM];exact he,zzab _⟩,fun _ h=>h⟩
 sp b' cO:=⟨cO,Qx b vs o w b' (by rintro rfl;exact(hm.sp b' cO).2.2.2.1 id hb)⟩
 ss:=Sz.setCells b o vs w
def au.store(hm:au N w0 aq γ w B L){id:Nat}{cells:List AV}(hB:B id=some cells){b:Nat}{arr:Array Value}{e:TypeId}(hb:γ.β id=some b)
  (hh:w.heap[b]?=some (.cells arr e (0,0)))(hr:cF w γ cells arr.toList)(Q5:∀v∈arr.toList,v.oneCell'=true){o:Nat}{as:List AV}{vs:List Value}(ha:ak w γ as vs)(h1v:∀v∈vs,v.oneCell'=true)(qS:cells≠[]):
  au N w0 aq γ (w.setCells b o vs) (fun i=>if i=id then some (setA cells o as)else B i) L where
 bs:=w0.st _ _ _ _ hm.bs ⟨(Xz b (zzab b) vs o w).os,(Xz b (zzab b) vs o w).tape,(Xz b (zzab b) vs o w).output,by rw[aG];exact zzab _,
  fun b' _ qT=>Qx b vs o w b' (by rintro rfl;exact qT (.inl ⟨id,hb⟩)),(hm.cG hb o vs).ro,fun b hb=>.inl hb,fun _ _ h=>.inl h⟩
 hN:=by rw[aG];exact hm.hN
 aq:=hm.aq
 robd b' o' h:=by rw[aG];exact hm.robd b' o' h
 box i cs b' dL h1:=by
  by_cases hi:i=id
  ·subst hi;simp at dL;subst dL;obtain rfl:b'=b:=Option.some.inj (h1.symm.trans hb);exact⟨_,e,Xb b' vs o w arr e _ hh,(cF.setA ha hr).mono (hm.cG hb o vs),Qaa vs o arr Q5 h1v⟩
  simp[hi]at dL;obtain⟨bR,e',h2,h3,h4⟩:=hm.box i cs b' dL h1;by_cases aM:b'=b
  ·subst aM;rcases hm.inj _ _ _ h1 hb with h|h|h
   ·rw[h]at dL;cases dL;exact⟨_,e,Xb b' vs o w arr e _ hh,cF.nil,Qaa vs o arr Q5 h1v⟩
   ·rw[h]at hB;cases hB;exact absurd rfl qS
   exact absurd h hi
  exact⟨bR,e',by rw[Qx b vs o w b' aM];exact h2,h3.mono (hm.cG hb o vs),h4⟩
 β i b' dL:=by
  obtain⟨h1,h2,h3,h4,c,hc⟩:=hm.β i b' dL;refine⟨h1,by rw[aG];exact h2,h3,h4,?_⟩;by_cases hi:i=id
  ·exact⟨setA cells o as,by simp[hi]⟩
  exact⟨c,by simp[hi,hc]⟩
 inj i i' b' h h':=by
  rcases hm.inj i i' b' h h' with k|k|k
  ·refine .inl ?_;by_cases hi:i=id
   ·subst hi;rw[k]at hB;cases hB;exact absurd rfl qS
   simp only[if_neg hi];exact k
  ·refine .inr (.inl ?_);by_cases hi:i'=id
   ·subst hi;rw[k]at hB;cases hB;exact absurd rfl qS
   simp only[if_neg hi];exact k
  exact .inr (.inr k)
 own i b' dL:=by
  obtain⟨h1,h2,h3⟩:=hm.own i b' dL;exact⟨h1,by rw[aG];exact h2,h3⟩
 oinj:=hm.oinj
 sp b' cO:=by
  obtain⟨h1,h2,h3⟩:=hm.sp b' cO;exact⟨h1,by rw[aG];exact h2,h3⟩
 mm i' b' cO:=by
  obtain⟨h1,h2,h3,h4,h5,h6,h8,h7⟩:=hm.mm i' b' cO;have aM:i'≠id:=by rintro rfl;rw[hb]at h8;cases h8
  refine⟨h1,by rw[aG];exact h2,h3,h4,h5,h6,h8,?_⟩;simp only[aM,if_false];exact h7.mono (hm.cG hb o vs).cK.AR (Qx b vs o w b' (by rintro rfl;exact h4 id hb))
 minj:=hm.minj
 len:=hm.len
 cur0:=hm.cur0
def G.extend(γ:G)(id b p q n:Nat):G:={γ with cur:=fun i=>if i=id then n else γ.cur i,ro:=fun b' o=>γ.ro b' o\/(b'=b/\p<=o/\o<q)}
def au.kT(hm:au N w0 aq γ w B L){id b p q n:Nat}{vs:List Value}(ho:γ.own id=some b)(hn:γ.cur id<=n)(hq:γ.cur id=n->q<=p)(hpq:q=p+vs.length)(oP:∀o,p<=o->¬γ.ro b o):Ev w γ (w.setCells b p vs) (γ.extend id b p q n) where
 size:=by rw[aG];exact zzab _
 ro b' o' _ hr:=by
  refine⟨.inl hr,World.cell?_setCells_out b vs p w _ fun e1 _=>?_⟩;simp only at e1 |-
  subst e1;rcases zzaa o' p with h|h
  ·exact .inl h
  exact absurd hr (oP o' h)
 β _ _ h:=h
 cur i:=by
  simp only[G.extend];split
  ·rename_i h;subst h;exact hn
  exact zzab _
 mm _ _ h:=h
 lp:=rfl
 own i b' hc hoi:=by
  by_cases hi:i=id
  ·subst hi;obtain rfl:b'=b:=Option.some.inj (hoi.symm.trans ho);simp only[G.extend,if_true]at hc;have:=hq hc.symm;have hvs:vs=[]:=zzav zE;subst hvs;refine⟨hoi,fun arr e he=>⟨arr,he,zzab _⟩,fun o hr=>?_⟩;obtain hr|⟨_,h1,h2⟩:=hr
   ·exact hr
   omega
  have aM:b'≠b:=by rintro rfl;exact hi (hm.oinj _ _ _ hoi ho)
  refine⟨hoi,fun arr e he=>⟨arr,by rw[Qx b vs p w b' aM];exact he,zzab _⟩,fun o hr=>?_⟩;obtain hr|⟨h1,_,_⟩:=hr
  ·exact hr
  exact absurd h1 aM
 sp b' cO:=⟨cO,Qx b vs p w b' (by rintro rfl;exact(hm.sp b' cO).2.2.2.2 id ho)⟩
 ss:=Sz.setCells b p vs w
def au.extend(hm:au N w0 aq γ w B L){id b p q n:Nat}{vs:List Value}(ho:γ.own id=some b)(hn:γ.cur id<=n)(hq:γ.cur id=n->q<=p)(hpq:q=p+vs.length)(oP:∀o,p<=o->¬γ.ro b o):
  au N w0 aq (γ.extend id b p q n) (w.setCells b p vs) B (fun i=>if i=id then some n else L i) where
 bs:=w0.st _ _ _ _ hm.bs ⟨(Xz b (zzab b) vs p w).os,(Xz b (zzab b) vs p w).tape,(Xz b (zzab b) vs p w).output,by rw[aG];exact zzab _,
  fun b' _ qT=>Qx b vs p w b' (by rintro rfl;exact qT (.inr (.inl ⟨id,ho⟩))),(hm.kT ho hn hq hpq oP).ro,fun b hb=>.inl hb,fun b' o' hr=>hr.imp_right fun h=>.inl (by rw[h.1];exact .inr (.inl ⟨id,ho⟩))⟩
 hN:=by rw[aG];exact hm.hN
 aq b' o' hr:=by
  obtain hr|⟨rfl,_,_⟩:=hr
  ·exact hm.aq b' o' hr
  exact .inr (hm.own id b' ho).1
 robd b' o' hr:=by
  rw[aG];obtain hr|⟨rfl,_,_⟩:=hr
  ·exact hm.robd b' o' hr
  exact(hm.own id b' ho).2.1
 box i cs b' dL h1:=by
  obtain⟨bR,e',h2,h3,h4⟩:=hm.box i cs b' dL h1;have aM:b'≠b:=by rintro rfl;exact(hm.β i b' h1).2.2.2.1 id ho
  exact⟨bR,e',by rw[Qx b vs p w b' aM];exact h2,h3.mono (hm.kT ho hn hq hpq oP),h4⟩
 β i b' dL:=by
  obtain⟨h1,h2,h3,h4,hc⟩:=hm.β i b' dL;refine⟨h1,by rw[aG];exact h2,fun o hr=>?_,h4,hc⟩;obtain hr|⟨rfl,_,_⟩:=hr
  ·exact h3 o hr
  exact h4 id ho
 inj:=hm.inj
 own i b' dL:=by
  obtain⟨h1,h2,m,gi⟩:=hm.own i b' dL;refine⟨h1,by rw[aG];exact h2,?_⟩;by_cases hi:i=id
  ·exact⟨n,by simp[hi]⟩
  exact⟨m,by simp[hi,gi]⟩
 oinj:=hm.oinj
 sp b' cO:=by
  obtain⟨h1,h2,h3,h4,h5⟩:=hm.sp b' cO;refine⟨h1,by rw[aG];exact h2,fun o hr=>?_,h4,h5⟩;obtain hr|⟨rfl,_,_⟩:=hr
  ·exact h3 o hr
  exact h5 id ho
 mm i' b' cO:=by
  obtain⟨h1,h2,h3,h4,h5,h6,h8,h7⟩:=hm.mm i' b' cO;have aM:b'≠b:=by rintro rfl;exact h5 id ho
  refine⟨h1,by rw[aG];exact h2,fun o hr=>?_,h4,h5,h6,h8,h7.mono (hm.kT ho hn hq hpq oP).cK.AR (Qx b vs p w b' aM)⟩;obtain hr|⟨rfl,_,_⟩:=hr
  ·exact h3 o hr
  exact aM rfl
 minj:=hm.minj
 len i m hi:=by
  by_cases h:i=id
  ·simp[h]at hi;simp[G.extend,h,hi]
  simp[h]at hi;simp[G.extend,h,hm.len i m hi]
 cur0 i hi:=by
  by_cases h:i=id
  ·simp[h]at hi
  simp[h]at hi;simp[G.extend,h,hm.cur0 i hi]
def G.renew(γ:G)(id b q n:Nat):G:={γ with own:=fun i=>if i=id then some b else γ.own i,cur:=fun i=>if i=id then n else γ.cur i,ro:=fun b' o=>γ.ro b' o\/(b'=b/\o<q)}
def au.gj(hm:au N w0 aq γ w B L){id q n:Nat}(hn:γ.cur id<=n)(aM:γ.cur id=n->γ.own id=none)(o:Obj):Ev w γ (w.alloc o) (γ.renew id w.heap.size q n) where
 size:=zd
 ro b' o' hb hr:=⟨.inl hr,cell_of_heap (Below.heap_alloc w o b' hb)⟩
 β _ _ h:=h
 cur i:=by
  simp only[G.renew];split
  ·rename_i h;subst h;exact hn
  exact zzab _
 mm _ _ h:=h
 lp:=rfl
 own i b' hc hoi:=by
  by_cases hi:i=id
  ·subst hi;simp only[G.renew,if_true]at hc;rw[aM hc.symm]at hoi;cases hoi
  have ai:=(hm.own i b' hoi).2.1;refine⟨by simp[G.renew,hi,hoi],fun arr e he=>⟨arr,by rw[Below.heap_alloc w o b' ai];exact he,zzab _⟩,fun o' hr=>?_⟩;obtain hr|⟨h1,_⟩:=hr
  ·exact hr
  omega
 sp b hb:=⟨hb,Below.heap_alloc w o b (hm.sp b hb).2.1⟩
 ss:=Sz.of_same (Below.heap_alloc w o)
def au.renew(hm:au N w0 aq γ w B L){id q n:Nat}(hn:γ.cur id<=n)(aM:γ.cur id=n->γ.own id=none)(o:Obj):
  au N w0 aq (γ.renew id w.heap.size q n) (w.alloc o) B (fun i=>if i=id then some n else L i) where
 bs:=w0.st _ _ _ _ hm.bs ⟨rfl,rfl,rfl,zd,fun b hb _=>Below.heap_alloc w _ b hb,(hm.gj hn aM o).ro,fun b hb=>by
  obtain hb|⟨i,hi⟩|hb:=hb
  ·exact .inl (.inl hb)
  ·by_cases h:i=id
   ·simp[G.renew,h]at hi;exact .inr zE
   simp[G.renew,h]at hi;exact .inl (.inr (.inl ⟨i,hi⟩))
  exact .inl (.inr (.inr hb)),fun b' o' hr=>hr.imp_right fun h=>.inr (by rw[h.1];exact zzab _)⟩
 hN:=by have:=hm.hN;simp;omega
 aq b' o' hr:=by
  obtain hr|⟨rfl,_⟩:=hr
  ·exact hm.aq b' o' hr
  exact .inr hm.hN
 robd b' o' hr:=by
  obtain hr|⟨rfl,_⟩:=hr
  ·have:=hm.robd b' o' hr;simp;omega
  simp
 box i cs b' dL h1:=by
  obtain⟨bR,e',h2,h3,h4⟩:=hm.box i cs b' dL h1;exact⟨bR,e',by rw[Below.heap_alloc w _ b' (aS h2)];exact h2,h3.mono (hm.gj hn aM o),h4⟩
 β i b' dL:=by
  obtain⟨h1,h2,h3,h4,hc⟩:=hm.β i b' dL;refine⟨h1,by simp;omega,fun o' hr=>?_,fun i' hr=>?_,hc⟩
  ·obtain hr|⟨rfl,_⟩:=hr
   ·exact h3 o' hr
   omega
  by_cases hi:i'=id
  ·simp[G.renew,hi]at hr;omega
  simp[G.renew,hi]at hr;exact h4 i' hr
 inj:=hm.inj
 own i b' dL:=by
  by_cases hi:i=id
  ·simp[G.renew,hi]at dL;subst dL;exact⟨hm.hN,zd,n,by simp[hi]⟩
  simp[G.renew,hi]at dL;obtain⟨h1,h2,m,gi⟩:=hm.own i b' dL;exact⟨h1,by simp;omega,m,by simp[hi,gi]⟩
 oinj i i' b' h h':=by
  by_cases hi:i=id<;>by_cases di:i'=id
  ·rw[hi,di]
  ·simp[G.renew,hi]at h;simp[G.renew,di]at h';have:=(hm.own i' b' h').2.1;omega
  ·simp[G.renew,di]at h';simp[G.renew,hi]at h;have:=(hm.own i b' h).2.1;omega
  simp[G.renew,hi]at h;simp[G.renew,di]at h';exact hm.oinj i i' b' h h'
 sp b hb:=by
  obtain⟨h1,h2,h3,h4,h5⟩:=hm.sp b hb;refine⟨h1,by simp;omega,fun o' hr=>?_,h4,fun i hi=>?_⟩
  ·obtain hr|⟨rfl,_⟩:=hr
   ·exact h3 o' hr
   omega
  by_cases h:i=id
  ·simp[G.renew,h]at hi;omega
  simp[G.renew,h]at hi;exact h5 i hi
 minj:=hm.minj
 mm i' b hb:=by
  obtain⟨h1,h2,h3,h4,h5,h6,h8,h7⟩:=hm.mm i' b hb;refine⟨h1,by simp;omega,fun o' hr=>?_,h4,fun i hi=>?_,h6,h8,h7.mono (hm.gj hn aM o).cK.AR (Below.heap_alloc w _ b h2)⟩
  ·obtain hr|⟨rfl,_⟩:=hr
   ·exact h3 o' hr
   omega
  by_cases h:i=id
  ·simp[G.renew,h]at hi;omega
  simp[G.renew,h]at hi;exact h5 i hi
 len i m hi:=by
  by_cases h:i=id
  ·simp[h]at hi;simp[G.renew,h,hi]
  simp[h]at hi;simp[G.renew,h,hm.len i m hi]
 cur0 i hi:=by
  by_cases h:i=id
  ·simp[h]at hi
  simp[h]at hi;simp[G.renew,h,hm.cur0 i hi]
def au.drew(hm:au N w0 aq γ w B L):au N w0 aq γ w.drew B L where
 bs:=w0.st _ _ _ _ hm.bs ⟨rfl,rfl,rfl,zzab _,fun _ _ _=>rfl,fun _ _ _ h=>⟨h,rfl⟩,fun _ hb=>.inl hb,fun _ _ h=>.inl h⟩
 hN:=hm.hN
 aq:=hm.aq
 robd:=hm.robd
 box i cs b hb h1:=by
  obtain⟨arr,e,h2,h3,h4⟩:=hm.box i cs b hb h1;exact⟨arr,e,h2,h3.mono ⟨zzab _,fun _ _ _ h=>⟨h,rfl⟩,fun _ _ h=>h,fun _=>zzab _,fun _ _ h=>h,rfl,fun _ _ _ h=>⟨h,fun arr _ h=>⟨arr,h,zzab _⟩,fun _ h=>h⟩,fun _ h=>⟨h,rfl⟩,Sz.refl w⟩,h4⟩
 β:=hm.β
 inj:=hm.inj
 own:=hm.own
 oinj:=hm.oinj
 sp:=hm.sp
 mm i b hb:=by
  obtain⟨h1,h2,h3,h4,h5,h6,h8,h7⟩:=hm.mm i b hb;exact⟨h1,h2,h3,h4,h5,h6,h8,h7.mono (w':=w.drew) (γ':=γ) ⟨zzab _,fun _ _ _ h=>⟨h,rfl⟩,fun _ _ h=>h,fun _=>zzab _,fun _ _ h=>h,fun _ _ h=>h,fun _ _ _ h=>⟨h,fun arr _ h=>⟨arr,h,zzab _⟩,fun _ h=>h⟩,Sz.refl w⟩ rfl⟩
 minj:=hm.minj
 len:=hm.len
 cur0:=hm.cur0
def Ev.drew(w:World)(γ:G):Ev w γ w.drew γ:=
 ⟨zzab _,fun _ _ _ h=>⟨h,rfl⟩,fun _ _ h=>h,fun _=>zzab _,fun _ _ h=>h,rfl,fun _ _ _ h=>⟨h,fun arr _ h=>⟨arr,h,zzab _⟩,fun _ h=>h⟩,fun _ h=>⟨h,rfl⟩,Sz.refl w⟩
def au.kill(hm:au N w0 aq γ w B L){id b:Nat}(hb:γ.β id=some b):au N w0 aq γ w (fun i=>if i=id then some []else B i) L where
 bs:=hm.bs
 hN:=hm.hN
 aq:=hm.aq
 robd:=hm.robd
 box i cells b' dL h1:=by
  by_cases hi:i=id
  ·subst hi;simp at dL;subst dL;obtain⟨_,_,_,_,c,hc⟩:=hm.β i b' h1;obtain⟨arr,e,h2,_,h4⟩:=hm.box i c b' hc h1;exact⟨arr,e,h2,cF.nil,h4⟩
  simp[hi]at dL;exact hm.box i cells b' dL h1
 β i b' dL:=by
  obtain⟨h1,h2,h3,h4,c,hc⟩:=hm.β i b' dL;refine⟨h1,h2,h3,h4,?_⟩;by_cases hi:i=id
  ·exact⟨[],by simp[hi]⟩
  exact⟨c,by simp[hi,hc]⟩
 inj i i' b' h h':=by
  rcases hm.inj i i' b' h h' with k|k|k
  ·refine .inl ?_;by_cases hi:i=id
   ·simp[hi]
   simp only[if_neg hi];exact k
  ·refine .inr (.inl ?_);by_cases hi:i'=id
   ·simp[hi]
   simp only[if_neg hi];exact k
  exact .inr (.inr k)
 own:=hm.own
 oinj:=hm.oinj
 sp:=hm.sp
 mm i' b' cO:=by
  obtain⟨h1,h2,h3,h4,h5,h6,h8,h7⟩:=hm.mm i' b' cO;have aM:i'≠id:=by rintro rfl;rw[hb]at h8;cases h8
  exact⟨h1,h2,h3,h4,h5,h6,h8,by simp only[aM,if_false];exact h7⟩
 minj:=hm.minj
 len:=hm.len
 cur0:=hm.cur0
def au.share(hm:au N w0 aq γ w B L){id b id':Nat}{cells new:List AV}(hb:γ.β id=some b)(hB:B id=some cells)(qS:cells≠[])(cL:B id'=none){arr:Array Value}{e:TypeId}
  (hh:w.heap[b]?=some (.cells arr e (0,0))){p:Nat}{vs:List Value}(hr:cF w γ new (tZ arr p vs).toList)(Q5:∀v∈arr.toList,v.oneCell'=true)(h1v:∀v∈vs,v.oneCell'=true):
  Ev w γ (w.setCells b p vs) (γ.box id' b)/\au N w0 aq (γ.box id' b) (w.setCells b p vs) (fun i=>if i=id' then some new else if i=id then some []else B i) L:=by
 have ary:id'≠id:=by rintro rfl;rw[cL]at hB;cases hB
 have WY:∀i b',γ.β i=some b'->i≠id':=fun i b' h=>by
  rintro rfl;obtain⟨_,_,_,_,c,hc⟩:=hm.β i b' h;rw[cL]at hc;cases hc
 have ct:=hm.cG hb p vs
 have bT:Ev w γ (w.setCells b p vs) (γ.box id' b):=
  ⟨ct.size,ct.ro,fun i b' h=>by simp[G.box,WY i b' h,h],ct.cur,ct.mm,ct.lp,ct.own,ct.sp,ct.ss⟩
 refine⟨bT,?_⟩
 exact{
  bs:=w0.st _ _ _ _ hm.bs ⟨(Xz b (zzab b) vs p w).os,(Xz b (zzab b) vs p w).tape,(Xz b (zzab b) vs p w).output,by rw[aG];exact zzab _,
   fun b' _ qT=>Qx b vs p w b' (by rintro rfl;exact qT (.inl ⟨id,hb⟩)),bT.ro,fun b' cO=>by
    obtain⟨i,hi⟩|cO|cO:=cO
    ·by_cases h:i=id'
     ·simp[G.box,h]at hi;subst hi;exact .inl (.inl ⟨id,hb⟩)
     simp[G.box,h]at hi;exact .inl (.inl ⟨i,hi⟩)
    ·exact .inl (.inr (.inl cO))
    exact .inl (.inr (.inr cO)),fun _ _ h=>.inl h⟩
  hN:=by rw[aG];exact hm.hN
  aq:=hm.aq
  robd:=fun b' o' h=>by rw[aG];exact hm.robd b' o' h
  box:=fun i cs b' dL h1=>by
   by_cases hi:i=id'
   ·subst hi;simp at dL;subst dL;simp[G.box]at h1;subst h1;exact⟨_,e,Xb b vs p w arr e _ hh,hr.mono bT,Qaa vs p arr Q5 h1v⟩
   simp[G.box,hi]at h1;simp only[if_neg hi]at dL;by_cases Q6:i=id
   ·subst Q6;simp at dL;subst dL;obtain rfl:b'=b:=Option.some.inj (h1.symm.trans hb);exact⟨_,e,Xb b' vs p w arr e _ hh,cF.nil,Qaa vs p arr Q5 h1v⟩
   simp only[if_neg Q6]at dL;obtain⟨bR,e',h2,h3,h4⟩:=hm.box i cs b' dL h1;by_cases aM:b'=b
   ·subst aM;rcases hm.inj _ _ _ h1 hb with h|h|h
    ·rw[h]at dL;cases dL;exact⟨_,e,Xb b' vs p w arr e _ hh,cF.nil,Qaa vs p arr Q5 h1v⟩
    ·rw[h]at hB;cases hB;exact absurd rfl qS
    exact absurd h Q6
   exact⟨bR,e',by rw[Qx b vs p w b' aM];exact h2,h3.mono bT,h4⟩
  β:=fun i b' dL=>by
   by_cases hi:i=id'
   ·subst hi;simp[G.box]at dL;subst dL;obtain⟨h1,h2,h3,h4,_⟩:=hm.β id b hb;exact⟨h1,by rw[aG];exact h2,h3,h4,new,zd⟩
   simp[G.box,hi]at dL;obtain⟨h1,h2,h3,h4,c,hc⟩:=hm.β i b' dL;refine⟨h1,by rw[aG];exact h2,h3,h4,?_⟩;by_cases Q6:i=id
   ·exact⟨[],by simp[hi,Q6,Ne.symm ary]⟩
   exact⟨c,by simp[hi,Q6,hc]⟩
  inj:=fun i i' b' h h'=>by
   have key:∀j,j≠id'->γ.β j=some b->(if j=id' then some new else if j=id then some []else B j)=some []:=fun j hj hβ=>by
    rw[if_neg hj];by_cases AT:j=id
    ·rw[if_pos AT]
    rw[if_neg AT];rcases hm.inj _ _ _ hβ hb with h|h|h
    ·exact h
    ·rw[h]at hB;cases hB;exact absurd rfl qS
    exact absurd h AT
   by_cases hi:i=id'<;>by_cases di:i'=id'
   ·exact .inr (.inr (by rw[hi,di]))
   ·simp[G.box,hi]at h;simp[G.box,di]at h';subst h;exact .inr (.inl (key i' di h'))
   ·simp[G.box,hi]at h;simp[G.box,di]at h';subst h';exact .inl (key i hi h)
   simp[G.box,hi]at h;simp[G.box,di]at h';simp only[if_neg hi,if_neg di];rcases hm.inj i i' b' h h' with k|k|k
   ·refine .inl ?_;by_cases Q6:i=id
    ·rw[if_pos Q6]
    rw[if_neg Q6];exact k
   ·refine .inr (.inl ?_);by_cases Q6:i'=id
    ·rw[if_pos Q6]
    rw[if_neg Q6];exact k
   exact .inr (.inr k)
  own:=fun i b' dL=>by
   obtain⟨h1,h2,h3⟩:=hm.own i b' dL;exact⟨h1,by rw[aG];exact h2,h3⟩
  oinj:=hm.oinj
  sp:=fun b' cO=>by
   obtain⟨h1,h2,h3,h4,h5⟩:=hm.sp b' cO;refine⟨h1,by rw[aG];exact h2,h3,fun i hi=>?_,h5⟩;by_cases aK:i=id'
   ·simp[G.box,aK]at hi;subst hi;exact h4 id hb
   simp[G.box,aK]at hi;exact h4 i hi
  mm:=fun i' b' cO=>by
   obtain⟨h1,h2,h3,h4,h5,h6,h8,h7⟩:=hm.mm i' b' cO;have aM:i'≠id:=by rintro rfl;rw[hb]at h8;cases h8
   have eF:i'≠id':=by
    rintro rfl;obtain⟨_,_,hx,_⟩:=h7;rw[cL]at hx;cases hx
   refine⟨h1,by rw[aG];exact h2,h3,fun i hi=>?_,h5,h6,by simp[G.box,eF,h8],?_⟩
   ·by_cases aK:i=id'
    ·simp[G.box,aK]at hi;subst hi;exact h4 id hb
    simp[G.box,aK]at hi;exact h4 i hi
   simp only[aM,eF,if_false];exact h7.mono bT.cK.AR (Qx b vs p w b' (by rintro rfl;exact h4 id hb))
  minj:=hm.minj
  len:=hm.len
  cur0:=hm.cur0}
open Go Go.RowKit
inductive bN where
 |tmp (t:Nat)
 |const (a:AV)
 |func (f:FuncId)
 |glob (g:Nat)
def v7:Value->AV
 |.bool b=>.bool b
 |.int k n=>.int k n
 |.string s=>.str s
 |.slice none 0 0=>.sl .nil []
 |.nilFunc=>.nilfn
 |.pointer none=>.nilv true
 |.map none=>.nilv false
 |_=>.junk
def AU:Value->AV
 |.agg cs=>.agg (cs.toList.map v7)
 |v=>v7 v
def CO{w:World}{γ:G}:aC w γ (.sl .nil []) (.slice none 0 0):=
 .sl (rows:=[]) 0 0 0 (fun _ _=>undef) (zzab _) (fun _=>rfl) (fun h=>absurd rfl h) (fun _ h=>by cases h) (fun i j c h=>by simp[Qv]at h) (fun i j c h=>by simp[Qv]at h) rfl
def nA(w:World)(γ:G)(v:Value):aC w γ (v7 v) v:=by
 unfold v7;split
 ·exact .bool _
 ·exact .int _ _
 ·exact .str _
 ·exact CO
 ·exact .nilfn
 ·exact .nilv true
 ·exact .nilv false
 exact .junk _
def Ke(w:World)(γ:G)(v:Value):aC w γ (AU v) v:=by
 unfold AU;split
 ·refine .agg zd fun i c u h1 h2=>?_;simp at h1;obtain⟨u',h3,h4⟩:=h1;rw[h2]at h3;cases h3;subst h4;exact nA w γ u
 exact nA w γ _
def aB:Operand->bN
 |.tmp t=>.tmp t
 |.const v=>.const (AU v)
 |.func f=>.func f
 |.global g=>.glob g
def ev(gl:Nat->AV)(T:List AV):bN->AV
 |.tmp t=>T.getD t .junk
 |.const a=>a
 |.func f=>.fn f [] []
 |.glob g=>gl g
inductive aF where
 |mv (x:bN)
 |pick (c a b:bN)
 |alloc (zs:List AV)
 |box (x:bN)
 |build (zs:List AV) (parts:List (Nat×Nat×bN))
 |bsl (sz len:Nat) (parts:List (Nat×bN))
 |load (agg:Bool) (n:Nat) (x:bN)
 |store (n:Nat) (x v:bN)
 |faddr (off:Nat) (x:bN)
 |fld (agg:Bool) (off n:Nat) (x:bN)
 |iaddr (sz:Nat) (x i:bN)
 |iaddrA (len sz:Nat) (x i:bN)
 |amq (x i:bN)
 |idxA (agg:Bool) (n sz:Nat) (x i:bN)
 |bin (op:BinOp) (x y:bN)
 |binB (op:BinOp) (x y:bN)
 |un (op:UnOp) (x:bN)
 |conv(k:IntKind) (x:bN)
 |len (x:bN)
 |lenS (x:bN)
 |mn (x y:bN)
 |mx (x y:bN)
 |mm3 (big:Bool) (x y z:bN)
 |mkfn (f:FuncId) (first cap:List bN)
 |ext (x:bN) (i:Nat)
 |call (f:bN) (args:List bN)
 |app (sz bytes:Nat) (s x:bN)
 |slS (x:bN) (lo hi:Option bN)
 |nilc (x:bN)
 |nilS (neg:Bool) (x:bN)
 |nilP (neg:Bool) (x:bN)
 |b2s (x:bN)
 |look (kn:Nat) (ok:Bool) (z:AV) (x k:bN)
 |mupd (kn:Nat) (x k v:bN)
 |mkmap (kn:Nat)
 |ment (kn:Nat) (z:AV) (x k:bN)
 |esto (x s v:bN)
 |rng (x:bN)
 |nxt (x:bN)
 |entr (x:bN)
 |mks0 (sz bytes:Nat) (c:bN)
 |slL (sz:Nat) (x:bN) (lo hi:Option bN)
 |slA (n sz:Nat) (x:bN) (lo hi:Option bN)
 |eqA (neg:Bool) (ks:List Nat) (x y:bN)
 |mks (sz bytes:Nat) (zs:List AV) (l c:bN)
 |cpy (sz:Nat) (x y:bN)
 |clr (zs:List AV) (x:bN)
 |bad
def zc(P:Program)(t:TypeId):Option (List AV):=do
 let i <- P.info? t
 let z <- i.zero
 pure (z.cells.toList.map v7)
def Jh(P:Program)(t:TypeId):Bool:=
 match P.underlying t with
 |some (.struct _)|some (.array _ _)=>true
 |_=>false
def Wt(P:Program)(t:TypeId)(parts:Array (Nat×Operand)):aF:=
 match P.underlying t,zc P t with
 |some (.struct fields),some zs=>
  match parts.toList.mapM (fun p:Nat×Operand=>(fields[p.1]?).bind fun f=>(P.info? f.type).map fun i=>(f.offset,i.size,aB p.2))with
  |some ps=>if fields.toList.all (fun f=>(P.info? f.type).isSome)then .build zs ps else .bad
  |none=>.bad
 |_,_=>.bad
def Fv(P:Program)(t:TypeId):Option Nat:=
 match P.underlying t with
 |some .bool=>some 0
 |some (.int _)=>some 1
 |some .string=>some 2
 |_=>none
def TU(P:Program):List Field->Nat->Option (List Nat)
 |[],_=>some []
 |f::r,i=>(match(f.offset==i)&&(f.name != "_"),Fv P f.type,TU P r (i+1)with
  |true,some k,some ks=>some (k::ks)
  |_,_,_=>none)
def zG(P:Program)(t:TypeId)(fs:List Field)(op:BinOp)(x y:Operand):aF:=
 match TU P fs 0,(P.stoodInHeld t||P.eqGuardType P.depth t),op with
 |some ks,false,.eql=>.eqA false ks (aB x) (aB y)
 |some ks,false,.neq=>.eqA true ks (aB x) (aB y)
 |_,_,_=>.bad
def Zv(P:Program)(c:Call):aF:=
 match c.callee with
 |.value f=>.call (aB f) (c.args.toList.map aB)
 |.builtin .len=>
  match c.args.toList,c.argTypes.toList with
  |[x],[t]=>(match P.underlying t with|some .string=>.lenS (aB x)|some (.slice _)=>.len (aB x)|_=>.bad)
  |_,_=>.bad
 |.builtin .min=>(match c.args.toList with|[x,y]=>.mn (aB x) (aB y)|[x,y,z]=>.mm3 false (aB x) (aB y) (aB z)|_=>.bad)
 |.builtin .max=>(match c.args.toList with|[x,y]=>.mx (aB x) (aB y)|[x,y,z]=>.mm3 true (aB x) (aB y) (aB z)|_=>.bad)
 |.builtin .append=>
  match c.args.toList,c.argTypes.toList with
  |[s,x],[t,t']=>
   (match P.underlying t,P.underlying t' with
   |some (.slice e),some (.slice e')=>
    (match P.info? e with
    |some i=>if t==t'&&((i.zero.map fun z=>(z.cells.size,z.cells.toList.all (·.oneCell')))==some (i.size,true))&&(i.size !=0)&&(i.bytes !=0)then .app i.size i.bytes (aB s) (aB x)else .bad
    |none=>.bad)
   |_,_=>.bad)
  |_,_=>.bad
 |.builtin .copy=>
  match c.args.toList,c.argTypes.toList with
  |[x,y],t::_=>(match P.underlying t with
   |some (.slice e)=>(match P.info? e with|some i=>.cpy i.size (aB x) (aB y)|none=>.bad)
   |_=>.bad)
  |_,_=>.bad
 |.builtin .clear=>
  match c.args.toList,c.argTypes.toList with
  |[x],[t]=>(match P.underlying t with
   |some (.slice e)=>(match zc P e with|some zs=>.clr zs (aB x)|none=>.bad)
   |_=>.bad)
  |_,_=>.bad
 |_=>.bad
def mE(op:BinOp)(x y:Operand):aF:=
 match op,y with
 |.eql,.const (.slice none 0 0)=>.nilS false (aB x)
 |.neq,.const (.slice none 0 0)=>.nilS true (aB x)
 |_,_=>.bad
def Qcs(op:BinOp)(x y:Operand):aF:=
 match op,y with
 |.eql,.const (.pointer none)=>.nilP false (aB x)
 |.neq,.const (.pointer none)=>.nilP true (aB x)
 |_,_=>.bad
def Fw(P:Program)(t:TypeId):Option (Nat×AV):=
 match P.underlying t with
 |some (.map k v)=>(match P.underlying k,P.info? v with
  |some (.int .i64),some i=>i.zero.map fun z=>(0,AU z)
  |some (.struct fs),some i=>(match TU P fs.toList 0 with
   |some ks=>if ks.all (·==1)&&(fs.size !=0)&&!(P.stoodInHeld k)then i.zero.map fun z=>(fs.size,AU z)else none
   |none=>none)
  |_,_=>none)
 |_=>none
def tr(P:Program)(o:Oper):aF:=
 match o.op with
 |.move x|.assign x=>.mv (aB x)
 |.pick c a b=>.pick (aB c) (aB a) (aB b)
 |.alloc t=>(match zc P t with|some zs=>.alloc zs|none=>.bad)
 |.box _ x=>.box (aB x)
 |.build t parts=>Wt P t parts
 |.buildSlice t len parts=>
  (match P.underlying t with
  |some (.slice e)=>
   (match P.info? e with
   |some i=>if((i.zero.map fun z=>z.cells.size)==some i.size)&&(i.size !=0)&&decide (len*i.size<=16777216)then .bsl i.size len (parts.toList.map fun p=>(p.1,aB p.2))else .bad
   |none=>.bad)
  |_=>.bad)
 |.load t a=>(match P.info? t,P.underlying t with|some i,some _=>if Jh P t then .load true i.size (aB a)else .load false 1 (aB a)|_,_=>.bad)
 |.store t a v=>(match P.info? t with|some i=>.store i.size (aB a) (aB v)|none=>.bad)
 |.fieldAddr s x f=>
  (match P.underlying s with
  |some (.struct fields)=>
   (match fields[f]? with
   |some fl=>(match P.info? fl.type with|some i=>if i.size==0 then .bad else .faddr fl.offset (aB x)|none=>.bad)
   |none=>.bad)
  |_=>.bad)
 |.field t x f=>
  (match P.underlying t with
  |some (.struct fields)=>
   (match fields[f]? with
   |some fl=>(match P.info? fl.type,P.underlying fl.type with|some i,some _=>if Jh P fl.type then .fld true fl.offset i.size (aB x)else .fld false fl.offset 1 (aB x)|_,_=>.bad)
   |none=>.bad)
  |_=>.bad)
 |.indexAddr t x i=>
  (match P.underlying t with
  |some (.slice e)=>(match P.info? e with|some j=>.iaddr j.size (aB x) (aB i)|none=>.bad)
  |some (.array n e)=>(match P.info? e with|some j=>.iaddrA n j.size (aB x) (aB i)|none=>.bad)
  |_=>.bad)
 |.index t x i=>(match P.underlying t with
  |some .string=>.amq (aB x) (aB i)
  |some (.array n e)=>(match P.info? e,P.underlying e with|some j,some _=>if Jh P e then .idxA true n j.size (aB x) (aB i)else(if j.size==1 then .idxA false n 1 (aB x) (aB i)else .bad)|_,_=>.bad)
  |_=>.bad)
 |.binOp op t x y _=>
  (match P.underlying t with
  |some .bool=>.binB op (aB x) (aB y)
  |some (.int _)=>.bin op (aB x) (aB y)
  |some .string=>.bin op (aB x) (aB y)
  |some (.slice _)=>mE op x y
  |some (.pointer _)=>Qcs op x y
  |some (.struct fs)=>zG P t fs.toList op x y
  |_=>.bad)
 |.unOp op _ x=>.un op (aB x)
 |.convert s d x=>
  (match P.underlying s,P.underlying d with
  |some (.int _),some (.int k)=>.conv k (aB x)
  |some (.slice e),some .string=>(match P.underlying e with|some (.int .u8)=>.b2s (aB x)|_=>.bad)
  |_,_=>.bad)
 |.makeFunc (.func f) first cap=>.mkfn f (first.toList.map aB) (cap.toList.map aB)
 |.extract x i=>.ext (aB x) i
 |.nilCheck x=>.nilc (aB x)
 |.slice t x lo hi none=>(match P.underlying t with
  |some .string=>.slS (aB x) (lo.map aB) (hi.map aB)
  |some (.slice e)=>(match P.info? e with|some i=>.slL i.size (aB x) (lo.map aB) (hi.map aB)|none=>.bad)
  |some (.array n e)=>(match P.info? e with|some i=>.slA n i.size (aB x) (lo.map aB) (hi.map aB)|none=>.bad)
  |_=>.bad)
 |.lookup t x k ok=>(match Fw P t with|some (kn,z)=>.look kn ok z (aB x) (aB k)|none=>.bad)
 |.mapUpdate t x k v=>(match Fw P t with|some (kn,_)=>.mupd kn (aB x) (aB k) (aB v)|none=>.bad)
 |.makeMap t none=>(match Fw P t with|some (kn,_)=>.mkmap kn|none=>.bad)
 |.mapEntry t x k=>(match Fw P t with|some (kn,z)=>.ment kn z (aB x) (aB k)|none=>.bad)
 |.entryStore _ x s v=>.esto (aB x) (aB s) (aB v)
 |.range t x=>(match Fw P t with|some _=>.rng (aB x)|none=>.bad)
 |.next x false=>.nxt (aB x)
 |.entry x=>.entr (aB x)
 |.makeSlice t l c=>
  (match P.underlying t with
  |some (.slice e)=>(match P.info? e,l with
   |some i,.const (.int .i64 0)=>(if((i.zero.map fun z=>(z.cells.size,z.cells.toList.all (·.oneCell')))==some (i.size,true))&&(i.size !=0)then .mks0 i.size i.bytes (aB c)else .bad)
   |some i,l=>(match zc P e with|some zs=>.mks i.size i.bytes zs (aB l) (aB c)|none=>.bad)
   |_,_=>.bad)
  |_=>.bad)
 |.call c=>Zv P c
 |_=>.bad
def Qw:AV->Bool
 |.bool _|.int _ _|.str _|.sl _ _|.ep _ _|.ptr _ _|.fn _ _ _|.nilfn|.yld _|.mp _|.it _|.nilv _|.bs _ _ _ _=>true
 |_=>false
def bare:AV->Bool
 |.junk|.gd _ _|.aZ _|.aL _ _|.mitr _ _ _=>false
 |_=>true
def cellsOf:AV->List AV
 |.agg cs=>cs
 |a=>[a]
def bh(sz:Nat):Nat->List AV->List (List AV)
 |0,_=>[]
 |n+1,l=>l.take sz::bh sz n (l.drop sz)
def Qai(sz:Nat):∀(n:Nat)(l:List AV),bh sz n l=(List.range n).map fun i=>(l.drop (i*sz)).take sz
 |0,_=>rfl
 |n+1,l=>by
  rw[bh,Qai sz n,zzhi,zzay,zzcz];simp only[zzht,zzde,List.cons.injEq,true_and];refine zzda fun i _=>?_;simp only[Function.comp,zzdx,zzhu];rw[zzfl]
def bJ(m:AM):Nat->AV->AV
 |0,_=>.junk
 |d+1,a=>match a with
  |.agg cs=>.agg (cs.map (bJ m d))
  |.aZ cs=>.aZ (cs.map (bJ m d))
  |.fn f first cap=>.fn f (first.map (bJ m d)) (cap.map (bJ m d))
  |.sl (.own _ _) rows=>.sl .ro rows
  |.ptr id o=>.ep ((m.boxes.getD id []).map (bJ m d)) o
  |.gd _ _=>.junk
  |.yld _=>.junk
  |.mp _=>.junk
  |.it _=>.junk
  |.aL _ _=>.junk
  |.mitr _ _ _=>.junk
  |.bs id off len sz=>bif Nat.ble (off+len*sz) (m.boxes.getD id []).length then .sl .ro (bh sz len (((m.boxes.getD id []).map (bJ m d)).drop off))else .junk
  |a=>a
def Yl:Nat->AV->Bool
 |0,_=>true
 |d+1,a=>match a with
  |.agg cs=>cs.any (Yl d)
  |.aZ cs=>cs.any (Yl d)
  |.fn _ first cap=>first.any (Yl d)||cap.any (Yl d)
  |.ptr _ _=>true
  |.bs _ _ _ _=>true
  |_=>false
def jf:AV->Bool
 |.bool _|.int _ _|.str _=>true
 |_=>false
def flat:AV->Bool
 |.aZ cs=>cs.all jf
 |a=>jf a
def bD(P:Program)(f:FuncId):Prop:=∃fn,P.funcs[f]?=some fn/\fn.body.isNone=false/\(fn.name== "runtime.NumGoroutine")=false
def Pure(P:Program)(gl:Nat->AV)(f:FuncId)(as:List AV)(r:AV):Prop:=
 bD P f/\∀(ro:Nat->Nat->Prop)(w:World)(vs:List Value),(∀g,aC w (G0 ro) (gl g) (.pointer (some ⟨g,0,none⟩)))->ak w (G0 ro) as vs->
  Calls P f vs.toArray w fun e w'=>∃v,e=.returned v/\Below w.heap.size w w'/\aC w' (G0 fun b o=>ro b o\/w.heap.size<=b) r v
def arz(P:Program)(gl:Nat->AV)(f:FuncId)(as:List AV)(m:AM)(r:AV):Prop:=
 bD P f/\∀(N:Nat)(w0:fF)(aq:Nat->Nat->Prop)(γ:G)(w:World)(B:Nat->Option (List AV))(L:Nat->Option Nat)(vs:List Value),au N w0 aq γ w B L->
  (∀id cells,m.boxes[id]?=some cells->B id=some cells)->(∀g,aC w γ.cT (gl g) (.pointer (some ⟨g,0,none⟩)))->ak w γ as vs->
  Calls P f vs.toArray w fun e w'=>∃v γ',e=.returned v/\Ev w γ w' γ'/\au N w0 aq γ' w' B L/\aC w' γ' r v
def callV(P:Program)(gl:Nat->AV)(f:FuncId)(as:List AV)(m:AM):AV->Prop×AV
 |.gd _ r=>(arz P gl f as m r,r)
 |r=>(Pure P gl f (as.map (bJ m 6)) r/\(as.any (Yl 6)=true->flat r=true),r)
def binI(op:BinOp)(k:IntKind)(a b:Int):Prop×AV:=
 match op with
 |.add=>(True,.int k (k.wrap (a+b)))
 |.sub=>(True,.int k (k.wrap (a-b)))
 |.mul=>(True,.int k (k.wrap (a*b)))
 |.quo=>(b≠0,.int k (k.wrap (a.tdiv b)))
 |.rem=>(b≠0,.int k (a.tmod b))
 |.eql=>(True,.bool (a==b))
 |.neq=>(True,.bool (a !=b))
 |.lss=>(True,.bool (decide (a<b)))
 |.leq=>(True,.bool (decide (a<=b)))
 |.gtr=>(True,.bool (decide (b<a)))
 |.geq=>(True,.bool (decide (b<=a)))
 |.and=>(True,.int k (k.wrap (BitVec.ofInt k.bits a&&& BitVec.ofInt k.bits b).toNat))
 |.or=>(True,.int k (k.wrap (BitVec.ofInt k.bits a|||BitVec.ofInt k.bits b).toNat))
 |.xor=>(True,.int k (k.wrap (BitVec.ofInt k.bits a ^^^ BitVec.ofInt k.bits b).toNat))
 |.andNot=>(True,.int k (k.wrap (BitVec.ofInt k.bits a&&& ~~~ BitVec.ofInt k.bits b).toNat))
 |_=>(False,.junk)
def binS(op:BinOp)(a b:ByteArray):Prop×AV:=
 match op with
 |.add=>(a.size+b.size<=9223372036854775807,.str (a++b))
 |.eql=>(True,.bool (a.toList==b.toList))
 |.neq=>(True,.bool (!(a.toList==b.toList)))
 |_=>(False,.junk)
def binV(op:BinOp)(x y:AV):Prop×AV:=
 match op with
 |.shl=>(match x,y with|.int k a,.int _ b=>(0<=b,.int k (k.wrap (a*2 ^ (min b.toNat k.bits))))|_,_=>(False,.junk))
 |.shr=>(match x,y with|.int k a,.int _ b=>(0<=b,.int k (a.fdiv (2 ^ (min b.toNat k.bits))))|_,_=>(False,.junk))
 |op=>match x,y with
  |.int k a,.int k' b=>(k=k'/\(binI op k a b).1,(binI op k a b).2)
  |.str a,.str b=>binS op a b
  |_,_=>(False,.junk)
def binBool(op:BinOp)(x y:AV):Prop×AV:=
 match op,x,y with
 |.eql,.bool a,.bool b=>(True,.bool (a==b))
 |.neq,.bool a,.bool b=>(True,.bool (!(a==b)))
 |_,_,_=>(False,.junk)
def isB:AV->Bool
 |.bool _=>true
 |_=>false
def bOf:AV->Bool
 |.bool b=>b
 |_=>false
def asB:AV->Option (Bool×Bool)
 |.bool b=>some (true,b)
 |.gd g a=>some (bif g then isB a else false,bOf a)
 |_=>none
def fillA(cs:List AV):List (Nat×Nat×AV)->Prop×List AV
 |[]=>(True,cs)
 |(off,size,a)::r=>let q:=fillA (setA cs off (cellsOf a)) r;(bare a=true/\(cellsOf a).length=size/\off+size<=cs.length/\q.1,q.2)
def Yd(agg:Bool)(n:Nat)(cs:List AV):Prop×AV:=((cs.take n).length=n/\(agg=false->n=1),if agg then .agg (cs.take n)else cs.getD 0 .junk)
def intsA:List AV->Option (List Int)
 |[]=>some []
 |.int .i64 n::r=>(match intsA r with|some ns=>some (n::ns)|none=>none)
 |_=>none
def keyA:Nat->AV->Option (List Int)
 |0,.int .i64 n=>some [n]
 |kn+1,.agg cs=>(match intsA cs with|some ns=>if ns.length=kn+1 then some ns else none|none=>none)
 |_,_=>none
def keyAV:Nat->List Int->AV
 |0,[n]=>.int .i64 n
 |0,_=>.junk
 |_+1,ns=>.agg (ns.map (AV.int .i64))
def Xl(n:List Int):List (List Int×AV)->Nat->Option (Nat×AV)
 |[],_=>none
 |(k,a)::r,i=>if n=k then some (i,a)else Xl n r (i+1)
def byteOf:List AV->Option UInt8
 |[.int .u8 n]=>some (UInt8.ofNat n.toNat)
 |_=>none
def Wp:List (List AV)->Option (List UInt8)
 |[]=>some []
 |r::rs=>(match byteOf r,Wp rs with|some b,some l=>some (b::l)|_,_=>none)
def kindF:Nat->AV->AV->Bool
 |0,.bool _,.bool _=>true
 |1,.int k _,.int k' _=>decide (k=k')
 |2,.str _,.str _=>true
 |_,_,_=>false
def eqF:AV->AV->Bool
 |.bool a,.bool b=>a==b
 |.int _ a,.int _ b=>a==b
 |.str a,.str b=>a.toList==b.toList
 |_,_=>false
def Qcx:List Nat->List AV->List AV->Bool
 |[],[],[]=>true
 |k::ks,a::as,b::bs=>kindF k a b&&Qcx ks as bs
 |_,_,_=>false
def eqFs:List AV->List AV->Bool
 |a::as,b::bs=>eqF a b&&eqFs as bs
 |_,_=>true
def loOf:Option AV->Option Int
 |none=>some 0
 |some (.int _ l)=>some l
 |_=>none
def hiOf(n:Nat):Option AV->Option Int
 |none=>some n
 |some (.int _ h)=>some h
 |_=>none
def bK:Nat->List AV->List AV
 |0,_=>[]
 |n+1,zs=>zs++bK n zs
def cellsS(m:AM)(sz:Nat):AV->Prop×List AV
 |.sl _ rows=>((∀row∈rows,row.length=sz),rows.flatten)
 |.bs id off len gH=>(gH=sz/\off+len*sz<=(m.boxes.getD id []).length/\id<m.boxes.length,((m.boxes.getD id []).drop off).take (len*sz))
 |_=>(False,[])
def lenS:AV->Nat
 |.sl _ rows=>rows.length
 |.bs _ _ len _=>len
 |_=>0
def mutO(orc:Nat->FuncId->List AV->AV)(dst:Option Nat):Bool:=match orc (dst.getD 0) 999999 []with
 |.aL _ []=>true
 |_=>false
def WZ:Rt->Bool
 |.full|.nil=>true
 |_=>false
def W0(big:Bool)(a b:Int):Int:=if big=true then(if a<b then b else a)else(if b<a then b else a)
def rop(P:Program)(gl:Nat->AV)(orc:Nat->FuncId->List AV->AV)(e:bN->AV)(m:AM)(dst:Option Nat):aF->Prop×AV
 |.mv x=>(True,e x)
 |.pick c a b=>(match asB (e c),asB (e a),asB (e b)with
  |some (g0,c),some (g1,x),some (g2,y)=>(g0=true/\(c=true->g1=true)/\(c=false->g2=true),.bool (bif c then x else y))
  |_,_,_=>(False,.junk))
 |.build zs parts=>let q:=fillA zs (parts.map fun p=>(p.1,p.2.1,e p.2.2));(q.1,.agg q.2)
 |.bsl sz len parts=>let q:=fillA (List.replicate (len*sz) .junk) (parts.map fun p=>(p.1*sz,sz,e p.2));
  (q.1/\q.2.all Qw=true/\q.2.any (Yl 6)=false,.sl .full (bh sz len (q.2.map (bJ m 6))))
 |.load agg n x=>(match e x with
  |.ptr id o=>Yd agg n ((m.boxes.getD id []).drop o)
  |.ep row o=>Yd agg n (row.drop o)
  |_=>(False,.junk))
 |.faddr off x=>(match e x with
  |.ptr id o=>(True,.ptr id (o+off))
  |.ep row o=>(True,.ep row (o+off))
  |_=>(False,.junk))
 |.fld agg off n x=>(match e x with
  |.agg cs=>Yd agg n (cs.drop off)
  |_=>(False,.junk))
 |.iaddr sz x i=>(match e x,e i with
  |.sl _ rows,.int _ i=>((0<=i/\i<rows.length)/\(rows.getD i.toNat []).length=sz,.ep (rows.getD i.toNat []) 0)
  |.bs id off len gH,.int _ i=>((0<=i/\i<len)/\gH=sz,.ptr id (off+i.toNat*sz))
  |_,_=>(False,.junk))
 |.iaddrA len sz x i=>(match e x,e i with
  |.ptr id o,.int _ i=>(0<=i/\i<len,.ptr id (o+i.toNat*sz))
  |.ep row o,.int _ i=>(0<=i/\i<len,.ep row (o+i.toNat*sz))
  |_,_=>(False,.junk))
 |.amq x i=>(match e x,e i with
  |.str s,.int _ i=>(0<=i/\i<s.size,.int .u8 (s.data.toList.getD i.toNat 0).toNat)
  |_,_=>(False,.junk))
 |.idxA agg n sz x i=>(match e x,e i with
  |.agg cs,.int _ i=>((0<=i/\i<n)/\(Yd agg sz (cs.drop (i.toNat*sz))).1,(Yd agg sz (cs.drop (i.toNat*sz))).2)
  |_,_=>(False,.junk))
 |.bin op x y=>binV op (e x) (e y)
 |.binB op x y=>binBool op (e x) (e y)
 |.un op x=>(match op,e x with
  |.not,.bool b=>(True,.bool (!b))
  |.neg,.int k n=>(True,.int k (k.wrap (0-n)))
  |.xor,.int k n=>(True,.int k (k.wrap (BitVec.ofInt k.bits (if k.signed then -1 else k.max) ^^^ BitVec.ofInt k.bits n).toNat))
  |_,_=>(False,.junk))
 |.conv k x=>(match e x with
  |.int _ n=>(True,.int k (k.wrap n))
  |_=>(False,.junk))
 |.len x=>(match e x with
  |.sl _ rows=>(True,.int .i64 rows.length)
  |.bs _ _ len _=>(True,.int .i64 len)
  |_=>(False,.junk))
 |.lenS x=>(match e x with
  |.str s=>(True,.int .i64 s.size)
  |_=>(False,.junk))
 |.mn x y=>(match e x,e y with
  |.int k a,.int _ b=>(True,.int k (if b<a then b else a))
  |_,_=>(False,.junk))
 |.mx x y=>(match e x,e y with
  |.int k a,.int _ b=>(True,.int k (if a<b then b else a))
  |_,_=>(False,.junk))
 |.mm3 big x y z=>(match e x,e y,e z with
  |.int k a,.int _ b,.int _ c=>(True,.int k (W0 big (W0 big a b) c))
  |_,_,_=>(False,.junk))
 |.mkfn f first cap=>(True,.fn f (first.map e) (cap.map e))
 |.ext x i=>(match e x with
  |.aZ vs=>(i<vs.length,vs.getD i .junk)
  |_=>(False,.junk))
 |.call f args=>(match e f with
  |.fn f first cap=>callV P gl f (first++args.map e++cap) m (orc (dst.getD 0) f ((first++args.map e++cap).map (bJ m 6)))
  |_=>(False,.junk))
 |.app sz bytes s x=>(match e s,e x with
  |.sl rt rows,.sl _ aD=>(WZ rt=true/\(∀row∈rows++aD,row.length=sz)/\(3*(rows.length+aD.length)+4000)*bytes<=562949953421312,.sl .ro (rows++aD))
  |_,_=>(False,.junk))
 |.slS x lo hi=>(match e x,lo.map e,hi.map e with
  |.str s,some (.int _ l),some (.int _ h)=>(0<=l/\l<=h/\h<=s.size,.str (s.extract l.toNat h.toNat))
  |.str s,none,some (.int _ h)=>(0<=h/\h<=s.size,.str (s.extract 0 h.toNat))
  |.str s,some (.int _ l),none=>(0<=l/\l<=s.size,.str (s.extract l.toNat s.size))
  |_,_,_=>(False,.junk))
 |.nilc x=>(match e x with
  |.ptr id o=>(True,.ptr id o)
  |.ep row o=>(True,.ep row o)
  |.fn f first cap=>(True,.fn f first cap)
  |_=>(False,.junk))
 |.nilS neg x=>(match e x with
  |.sl .nil _=>(True,.bool (!neg))
  |.sl .nn _=>(True,.bool neg)
  |.sl _ (_::_)=>(True,.bool neg)
  |.bs _ _ _ _=>(True,.bool neg)
  |_=>(False,.junk))
 |.nilP neg x=>(match e x with
  |.ptr _ _=>(True,.bool neg)
  |.ep _ _=>(True,.bool neg)
  |.nilv true=>(True,.bool (!neg))
  |_=>(False,.junk))
 |.b2s x=>(match e x with
  |.sl _ rows=>(match Wp rows with
   |some l=>(True,.str ⟨l.toArray⟩)
   |none=>(False,.junk))
  |.bs id off len sz=>(match Wp (bh 1 len ((m.boxes.getD id []).drop off))with
   |some l=>(sz=1/\off+len<=(m.boxes.getD id []).length,.str ⟨l.toArray⟩)
   |none=>(False,.junk))
  |_=>(False,.junk))
 |.eqA neg ks x y=>(match e x,e y with
  |.agg xs,.agg ys=>(Qcx ks xs ys=true,.bool (if neg then !(eqFs xs ys)else eqFs xs ys))
  |_,_=>(False,.junk))
 |.slL sz x lo hi=>(match e x with
  |.sl _ rows=>(match loOf (lo.map e),hiOf rows.length (hi.map e)with
   |some l,some h=>((0<=l/\l<=h/\h<=rows.length)/\∀row∈rows,row.length=sz,.sl .ro ((rows.drop l.toNat).take (h.toNat-l.toNat)))
   |_,_=>(False,.junk))
  |.bs id off len gH=>(match loOf (lo.map e),hiOf len (hi.map e)with
   |some l,some h=>((0<=l/\l<=h/\h<=len)/\gH=sz,if l<h\/l=0 then .bs id (off+l.toNat*sz) (h.toNat-l.toNat) sz else .sl .nn [])
   |_,_=>(False,.junk))
  |_=>(False,.junk))
 |.slA n sz x lo hi=>(match e x with
  |.ptr id o=>(match loOf (lo.map e),hiOf n (hi.map e)with
   |some l,some h=>((0<=l/\l<=h/\h<=n)/\o+n*sz<=(m.boxes.getD id []).length/\id<m.boxes.length,if l<h\/l=0 then .bs id (o+l.toNat*sz) (h.toNat-l.toNat) sz else .sl .nn [])
   |_,_=>(False,.junk))
  |_=>(False,.junk))
 |.look kn ok z x k=>(match e x,keyA kn (e k)with
  |.mp id,some n=>(match m.boxes.getD id []with
   |[.aL AW kvs]=>(AW=kn,(match Xl n kvs 0 with
    |some (_,a)=>(if ok then .aZ [a,.bool true]else a)
    |none=>(if ok then .aZ [z,.bool false]else z)))
   |_=>(False,.junk))
  |_,_=>(False,.junk))
 |.entr x=>(match e x with
  |.it id=>(match m.boxes.getD id []with
   |[.mitr mid n seen]=>(match m.boxes.getD mid [],seen.getLast? with
    |[.aL kn kvs],some i=>(kvs.length=n/\i<n,.aZ [keyAV kn (kvs.getD i ([],.junk)).1,(kvs.getD i ([],.junk)).2])
    |_,_=>(False,.junk))
   |_=>(False,.junk))
  |_=>(False,.junk))
 |_=>(False,.junk)
def sop(P:Program)(gl:Nat->AV)(orc:Nat->FuncId->List AV->AV)(e:bN->AV)(m:AM)(dst:Option Nat)(so:aF):Prop×AV×AM:=
 match so with
 |.alloc zs=>(zs.all Qw=true,.ptr m.boxes.length 0,{m with boxes:=m.boxes++[zs]})
 |.box x=>(bare (e x)=true/\(cellsOf (e x)).all Qw=true,.ptr m.boxes.length 0,{m with boxes:=m.boxes++[cellsOf (e x)]})
 |.store n x v=>(match e x with
  |.ptr id o=>(bare (e v)=true/\(cellsOf (e v)).all Qw=true/\(cellsOf (e v)).length=n/\o+n<=(m.boxes.getD id []).length/\id<m.boxes.length,
    .junk,{m with boxes:=m.boxes.set id (setA (m.boxes.getD id []) o (cellsOf (e v)))})
  |_=>(False,.junk,m))
 |.app sz bytes s x=>(match e s,e x with
  |.sl (.own id gH) rows,.sl _ aD=>(gH=sz/\m.lens[id]?=some rows.length/\(∀row∈rows++aD,row.length=sz)/\(3*(rows.length+aD.length)+4000)*bytes<=562949953421312,
    .sl (.own id sz) (rows++aD),{m with lens:=m.lens.set id (rows.length+aD.length)})
  |.bs id off len gH,y=>(((gH=sz/\off=0/\id<m.boxes.length/\m.boxes.getD id []≠[]/\len*sz<=(m.boxes.getD id []).length)/\(3*(len+lenS y)+4000)*bytes<=562949953421312)/\(cellsS m sz y).1,
    .bs m.boxes.length 0 (len+lenS y) sz,{m with boxes:=m.boxes.set id []++[(m.boxes.getD id []).take (len*sz)++(cellsS m sz y).2]})
  |.sl (.own id gH) rows,.bs gV gI cC sz2=>((gH=sz/\sz2=sz)/\m.lens[id]?=some rows.length/\(∀row∈rows,row.length=sz)/\(3*(rows.length+cC)+4000)*bytes<=562949953421312/\gI+cC*sz<=(m.boxes.getD gV []).length/\gV<m.boxes.length/\(m.boxes.getD gV []).all Qw=true/\(m.boxes.getD gV []).any (Yl 6)=false,
    .sl (.own id sz) (rows++bh sz cC (((m.boxes.getD gV []).map (bJ m 6)).drop gI)),{m with lens:=m.lens.set id (rows.length+cC)})
  |.sl rt rows,y=>if mutO orc dst=true then(if lenS y=0 then((cellsS m sz y).1,.sl rt rows,m)else((WZ rt=true/\lenS y≠0/\(∀row∈rows,row.length=sz)/\(3*(rows.length+lenS y)+4000)*bytes<=562949953421312)/\(cellsS m sz y).1,
    .bs m.boxes.length 0 (rows.length+lenS y) sz,{m with boxes:=m.boxes++[rows.flatten++(cellsS m sz y).2]}))
   else(match y with
   |.sl _ aD=>(WZ rt=true/\(∀row∈rows++aD,row.length=sz)/\(3*(rows.length+aD.length)+4000)*bytes<=562949953421312,
    .sl (.own m.lens.length sz) (rows++aD),{m with lens:=m.lens++[rows.length+aD.length]})
   |.bs gV gI cC sz2=>((WZ rt=true/\sz2=sz)/\(∀row∈rows,row.length=sz)/\(3*(rows.length+cC)+4000)*bytes<=562949953421312/\gI+cC*sz<=(m.boxes.getD gV []).length/\gV<m.boxes.length/\(m.boxes.getD gV []).all Qw=true/\(m.boxes.getD gV []).any (Yl 6)=false,
    .sl (.own m.lens.length sz) (rows++bh sz cC (((m.boxes.getD gV []).map (bJ m 6)).drop gI)),{m with lens:=m.lens++[rows.length+cC]})
   |_=>(False,.junk,m))
  |_,_=>(False,.junk,m))
 |.bsl sz len parts=>if mutO orc dst=true then let q:=fillA (List.replicate (len*sz) .junk) (parts.map fun p=>(p.1*sz,sz,e p.2));
   (q.1/\q.2.all Qw=true,.bs m.boxes.length 0 len sz,{m with boxes:=m.boxes++[q.2]})
  else((rop P gl orc e m dst (.bsl sz len parts)).1,(rop P gl orc e m dst (.bsl sz len parts)).2,m)
 |.mks sz bytes zs l c=>(match e l,e c with
  |.int _ l,.int _ c=>((0<=l/\l<=c/\bytes*c<=281474976710656/\c<=9223372036854775807)/\zs.length=sz/\zs.all Qw=true,.bs m.boxes.length 0 l.toNat sz,{m with boxes:=m.boxes++[bK c.toNat zs]})
  |_,_=>(False,.junk,m))
 |.cpy sz x y=>(match e x with
  |.bs id off len gH=>(match e y with
   |.str s=>((gH=1/\sz=1)/\id<m.boxes.length/\off+len<=(m.boxes.getD id []).length/\m.boxes.getD id []≠[],.int .i64 (min s.size len:Nat),{m with boxes:=m.boxes.set id (setA (m.boxes.getD id []) off ((s.data.toList.take len).map fun b=>.int .u8 b.toNat))})
   |y=>(gH=sz/\(cellsS m sz y).1/\id<m.boxes.length/\off+len*sz<=(m.boxes.getD id []).length/\m.boxes.getD id []≠[],.int .i64 (min (lenS y) len:Nat),{m with boxes:=m.boxes.set id (setA (m.boxes.getD id []) off ((cellsS m sz y).2.take (len*sz)))}))
  |_=>(False,.junk,m))
 |.clr zs x=>(match e x with
  |.bs id off len gH=>((gH=zs.length/\zs.all Qw=true)/\id<m.boxes.length/\off+len*zs.length<=(m.boxes.getD id []).length/\m.boxes.getD id []≠[],.aZ [],{m with boxes:=m.boxes.set id (setA (m.boxes.getD id []) off (bK len zs))})
  |.sl _ []=>(True,.aZ [],m)
  |_=>(False,.junk,m))
 |.mkmap kn=>(True,.mp m.boxes.length,{m with boxes:=m.boxes++[[.aL kn []]]})
 |.mupd kn x k v=>(match e x,keyA kn (e k)with
  |.mp id,some n=>(match m.boxes.getD id []with
   |[.aL AW kvs]=>(AW=kn/\bare (e v)=true,.junk,{m with boxes:=m.boxes.set id [.aL kn (match Xl n kvs 0 with
    |some (i,_)=>kvs.set i (n,e v)
    |none=>kvs++[(n,e v)])]})
   |_=>(False,.junk,m))
  |_,_=>(False,.junk,m))
 |.ment kn z x k=>(match e x,keyA kn (e k)with
  |.mp id,some n=>(match m.boxes.getD id []with
   |[.aL AW kvs]=>(AW=kn,(match Xl n kvs 0 with
    |some (i,c)=>.aZ [c,.int .i64 i]
    |none=>.aZ [z,.int .i64 kvs.length]),{m with boxes:=m.boxes.set id [.aL kn (match Xl n kvs 0 with
    |some _=>kvs
    |none=>kvs++[(n,z)])]})
   |_=>(False,.junk,m))
  |_,_=>(False,.junk,m))
 |.esto x s v=>(match e x,e s with
  |.mp id,.int _ i=>(match m.boxes.getD id []with
   |[.aL kn kvs]=>((0<=i/\i<kvs.length)/\bare (e v)=true,.junk,{m with boxes:=m.boxes.set id [.aL kn (kvs.set i.toNat ((kvs.getD i.toNat ([],.junk)).1,e v))]})
   |_=>(False,.junk,m))
  |_,_=>(False,.junk,m))
 |.rng x=>(match e x with
  |.mp id=>(match m.boxes.getD id []with
   |[.aL _ kvs]=>(True,.it m.boxes.length,{m with boxes:=m.boxes++[[.mitr id kvs.length []]]})
   |_=>(False,.junk,m))
  |_=>(False,.junk,m))
 |.mks0 sz bytes c=>(match e c with
  |.int _ c=>if mutO orc dst=true then(if c.toNat=0 then(0<=c/\bytes*c<=281474976710656/\c<=9223372036854775807,.sl .full [],{m with boxes:=m.boxes++[[]]})
    else(0<=c/\bytes*c<=281474976710656/\c<=9223372036854775807,.bs m.boxes.length 0 0 sz,{m with boxes:=m.boxes++[List.replicate (c.toNat*sz) .junk]}))
   else(0<=c/\bytes*c<=281474976710656/\c<=9223372036854775807,.sl (.own m.lens.length sz) [],{m with lens:=m.lens++[0]})
  |_=>(False,.junk,m))
 |so=>((rop P gl orc e m dst so).1,(rop P gl orc e m dst so).2,m)
end Go.Abs
