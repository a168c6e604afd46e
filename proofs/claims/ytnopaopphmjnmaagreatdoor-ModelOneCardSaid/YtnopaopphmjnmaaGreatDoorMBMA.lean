import Derived.WalkLawsBesides
import Derived.WalkSpells
import Derived.OrdersIn
import Derived.RangeFuncRecord
set_option linter.all false
namespace Go
def zza:=@List.getElem?_eq_some_iff
def zzaa:=@Nat.lt_or_ge
def zzab:=@Nat.le_refl
def zzac:=@List.mem_of_getElem?
def zzad:=@List.getElem?_eq_getElem
def zzae:=@List.cons_append
def zzaf:=@List.drop_eq_getElem_cons
def zzag:=@List.length_append
def zzah:=@List.getElem?_append_left
def zzai:=@List.nil_append
def zzaj:=@Array.getElem?_eq_getElem
def zzak:=@Bool.and_eq_true
def zzal:=@List.mem_append
def zzam:=@List.take_of_length_le
def zzan:=@List.drop_eq_nil_of_le
def zzao:=@Nat.add_assoc
def zzap:=@List.getElem?_append_right
def zzaq:=@List.length_take
def zzar:=@List.take_add_one
def zzas:=@List.getD_eq_getElem?_getD
def zzat:=@List.append_nil
def zzau:=@List.mem_cons
def zzav:=@List.eq_nil_of_length_eq_zero
def zzaw:=@List.map_cons
def zzax:=@List.getElem?_eq_none
def zzay:=@List.mem_map
def zzaz:=@List.getElem?_set_self
def zzb:=@Nat.mul_le_mul_right
def zzba:=@List.length_cons
def zzbb:=@Nat.lt_of_lt_of_le
def zzbc:=@List.append_assoc
def zzbd:=@List.getElem?_set_ne
def zzbe:=@List.length_map
def zzbf:=@List.mem_range
def zzbg:=@List.all_eq_true
def zzbh:=@Array.length_toList
def zzbi:=@List.getElem?_take
def zzbj:=@List.getElem?_drop
def zzbk:=@List.mem_singleton
def zzbl:=@Bool.eq_iff_iff
def zzbm:=@List.take_length
def zzbn:=@List.length_filter_le
def zzbo:=@Nat.add_mul
def zzbp:=@List.getElem?_map
def zzbq:=@Nat.le_trans
def zzbr:=@List.drop_length
def zzbs:=@Bool.false_eq_true
def zzbt:=@Nat.zero_add
def zzbu:=@Array.getElem?_eq_some_iff
def zzbv:=@Int.le_refl
def zzbw:=@List.pairwise_cons
def zzbx:=@List.mem_of_mem_take
def zzby:=@List.mem_iff_getElem?
def zzbz:=@List.any_eq_true
def zzc:=@List.map_append
def zzca:=@List.length_eq_zero_iff
def zzcb:=@Array.getElem?_toList
def zzcc:=@Nat.zero_le
def zzcd:=@Option.map_eq_some_iff
def zzce:=@List.map_nil
def zzcf:=@List.length_nil
def zzcg:=@List.length_set
def zzch:=@List.flatten_cons
def zzci:=@List.ext_getElem?
def zzcj:=@Nat.eq_zero_or_pos
def zzck:=@Int.tdiv_eq_ediv_of_nonneg
def zzcl:=@List.getElem?_replicate
def zzcm:=@Nat.add_zero
def zzcn:=@List.length_drop
def zzco:=@Option.isSome_iff_exists
def zzcp:=@List.filter_append
def zzcq:=@List.set_append_right
def zzcr:=@Option.map_some
def zzcs:=@List.map_map
def zzct:=@List.length_pos_iff
def zzcu:=@Array.mem_of_getElem?
def zzcv:=@List.getElem?_set
def zzcw:=@List.foldl_cons
def zzcx:=@List.mem_filter
def zzcy:=@Array.getElem?_eq_none
def zzcz:=@Option.bind_some
def zzd:=@List.pairwise_iff_getElem
def zzda:=@List.flatMap_cons
def zzdb:=@List.take_append_drop
def zzdc:=@List.getElem_mem
def zzdd:=@Array.getElem?_setIfInBounds_ne
def zzde:=@List.drop_zero
def zzdf:=@List.map_congr_left
def zzdg:=@List.zip_cons_cons
def zzdh:=@List.getElem?_cons_succ
def zzdi:=@Array.toList_setIfInBounds
def zzdj:=@Nat.one_mul
def zzdk:=@List.mem_of_mem_drop
def zzdl:=@List.drop_append_of_le_length
def zzdm:=@Nat.add_sub_cancel_left
def zzdn:=@List.filter_cons_of_pos
def zzdo:=@List.drop_drop
def zzdp:=@List.nodup_range
def zzdq:=@List.not_mem_nil
def zzdr:=@List.flatMap_nil
def zzds:=@Nat.not_lt
def zzdt:=@List.set_cons_succ
def zzdu:=@List.length_replicate
def zzdv:=@List.length_singleton
def zzdw:=@Bool.true_and
def zzdx:=@Nat.mod_lt
def zzdy:=@List.mem_of_find?_eq_some
def zzdz:=@Int.mul_nonneg
def zze:=@Nat.mul_comm
def zzea:=@List.ext_getElem
def zzeb:=@Nat.testBit_eq_decide_div_mod_eq
def zzec:=@List.getElem?_range
def zzed:=@List.flatten_append
def zzee:=@List.take_succ_cons
def zzef:=@Array.eq_empty_of_size_eq_zero
def zzeg:=@List.zip_nil_right
def zzeh:=@List.filter_eq_nil_iff
def zzei:=@List.size_toArray
def zzej:=@Array.size_append
def zzek:=@List.any_eq_false
def zzel:=@Array.getElem?_modify
def zzem:=@List.length_mergeSort
def zzen:=@List.singleton_append
def zzeo:=@List.dropLast_concat_getLast
def zzep:=@Nat.sub_self
def zzeq:=@Bool.or_eq_false_iff
def zzer:=@List.filter_cons
def zzes:=@List.mem_cons_of_mem
def zzet:=@Array.getElem?_append_left
def zzeu:=@List.exists_cons_of_ne_nil
def zzev:=@List.replicate_succ
def zzew:=@List.getLast?_eq_some_iff
def zzex:=@List.range_succ
def zzey:=@List.getLast?_eq_getElem?
def zzez:=@List.all_append
def zzf:=@List.find?_cons
def zzfa:=@Nat.add_comm
def zzfb:=@Nat.sub_zero
def zzfc:=@List.mem_filterMap
def zzfd:=@List.map_set
def zzfe:=@Option.toList_some
def zzff:=@Int.lt_or_le
def zzfg:=@List.drop_left
def zzfh:=@List.getElem?_cons_zero
def zzfi:=@List.filter_cons_of_neg
def zzfj:=@Nat.lt_trichotomy
def zzfk:=@List.mem_reverse
def zzfl:=@List.countP_le_length
def zzfm:=@List.getElem?_zipWith
def zzfn:=@Array.toList_extract
def zzfo:=@List.drop_eq_nil_iff
def zzfp:=@Bool.or_eq_true
def zzfq:=@List.range_eq_range'
def zzfr:=@List.set_append_left
def zzfs:=@List.getElem?_of_mem
def zzft:=@List.dropLast_concat
def zzfu:=@Int.mul_le_mul_of_nonneg_left
def zzfv:=@List.getElem_of_mem
def zzfw:=@List.take_set_of_le
def zzfx:=@List.drop_set_of_lt
def zzfy:=@List.filter_eq_self
def zzfz:=@List.mergeSort_perm
def zzg:=@Nat.le_zero
def zzga:=@Array.getElem?_map
def zzgb:=@Nat.add_sub_cancel
def zzgc:=@Array.ext_getElem?
def zzgd:=@List.map_drop
def zzge:=@Bool.and_true
def zzgf:=@List.perm_ext_iff_of_nodup
def zzgg:=@List.foldl_append
def zzgh:=@Bool.not_eq_false
def zzgi:=@List.mem_or_eq_of_mem_set
def zzgj:=@List.getElem?_zip_eq_some
def zzgk:=@List.getElem?_eq_none_iff
def zzgl:=@List.getLast?_eq_none_iff
def zzgm:=@Nat.div_eq_of_lt
def zzgn:=@Nat.mod_eq_of_lt
def zzgo:=@List.range'_succ
def zzgp:=@Nat.le_add_right
def zzgq:=@List.mem_flatMap
def zzgr:=@List.length_filterMap_le
def zzgs:=@Option.getD_some
def zzgt:=@Int.add_zero
def zzgu:=@List.pairwise_mergeSort
def zzgv:=@Int.eq_ofNat_of_zero_le
def zzgw:=@Nat.div_add_mod
def zzgx:=@Nat.min_eq_left
def zzgy:=@List.find?_some
def zzgz:=@List.range_succ_eq_map
def zzh:=@Nat.min_def
def zzha:=@List.append_eq_nil_iff
def zzhb:=@ByteArray.size_extract
def zzhc:=@Nat.le_of_ble_eq_true
def zzhd:=@List.mapM_cons
def zzhe:=@Array.mem_iff_getElem
def zzhf:=@List.take_zero
def zzhg:=@List.eq_nil_or_concat
def zzhh:=@List.concat_eq_append
def zzhi:=@Array.getElem?_mapIdx
def zzhj:=@Bool.false_or
def zzhk:=@Nat.zero_mul
def zzhl:=@Nat.succ_mul
def zzhm:=@Nat.le_total
def zzhn:=@Int.le_trans
def zzho:=@Nat.pow_succ
def zzhp:=@Bool.true_or
end Go
namespace Go.Abs
open Go Go.RowKit
inductive Rt where
 |ro
 |full
 |nil
 |nn
 |own (id sz:Nat)
inductive AV where
 |junk
 |bool (b:Bool)
 |int (k:IntKind) (n:Int)
 |str (s:ByteArray)
 |agg (cs:List AV)
 |aV (vs:List AV)
 |sl (rt:Rt) (rows:List (List AV))
 |ep (row:List AV) (o:Nat)
 |ptr (id o:Nat)
 |fn (f:FuncId) (first cap:List AV)
 |nilfn
 |yld (l:Nat)
 |mp (id:Nat)
 |nilv (p:Bool)
 |aK (kn:Nat) (kvs:List (List Int×AV))
 |it (id:Nat)
 |mitr (mid n:Nat) (seen:List Nat)
 |bs (id off len sz:Nat)
 |gd (g:Bool) (a:AV)
structure G where
 β:Nat->Option Nat
 own:Nat->Option Nat
 cur:Nat->Nat
 ro:Nat->Nat->Prop
 sp:Nat->Prop
 mm:Nat->Option Nat
 lp:Nat->Option Nat
def G.cT(γ:G):G:={β:=fun _=>none,own:=fun _=>none,cur:=fun _=>0,ro:=γ.ro,sp:=fun _=>False,mm:=fun _=>none,lp:=fun _=>none}
def G0(ro:Nat->Nat->Prop):G:={β:=fun _=>none,own:=fun _=>none,cur:=fun _=>0,ro:=ro,sp:=fun _=>False,mm:=fun _=>none,lp:=fun _=>none}
theorem U1(ro:Nat->Nat->Prop):(G0 ro).cT=G0 ro:=rfl
def Qt(rows:List (List AV))(i j:Nat):Option AV:=(rows[i]?).bind (·[j]?)
def lU(w:World)(γ:G)(a:Option Addr)(id len cap sz:Nat):Prop:=
 ∃b off arr e,a=some ⟨b,off,none⟩/\γ.own id=some b/\w.heap[b]?=some (.cells arr e (0,0))/\off+cap*sz<=arr.size/\
  ∀o,off+len*sz<=o->¬γ.ro b o
def sX(w:World)(γ:G)(a:Option Addr)(len cap sz:Nat):Rt->Prop
 |.ro=>True
 |.full=>cap=len
 |.nil=>a=none
 |.nn=>a≠none
 |.own id fV=>fV=sz/\len<=γ.cur id/\(len=γ.cur id->cap=len\/lU w γ a id len cap sz)
inductive aB (w:World):G->AV->Value->Prop
 |junk {γ:G} (v:Value):aB w γ .junk v
 |gd {γ:G} {g:Bool} {a:AV} {v:Value} (h:g=true->aB w γ a v) (h':g=false->v=undef):aB w γ (.gd g a) v
 |bool {γ:G} (b:Bool):aB w γ (.bool b) (.bool b)
 |int {γ:G} (k:IntKind) (n:Int):aB w γ (.int k n) (.int k n)
 |str {γ:G} (s:ByteArray):aB w γ (.str s) (.string s)
 |nilfn {γ:G}:aB w γ .nilfn .nilFunc
 |nilv {γ:G} (p:Bool):aB w γ (.nilv p) (bif p then .pointer none else .map none)
 |yld {γ:G} {i l:Nat} (h:γ.lp i=some l):aB w γ (.yld i) (.func (.yield l) #[] #[])
 |mp {γ:G} {id b:Nat} (h:γ.mm id=some b):aB w γ (.mp id) (.map (some b))
 |it {γ:G} {id b:Nat} (h:γ.mm id=some b):aB w γ (.it id) (.pointer (some ⟨b,0,none⟩))
 |agg {γ:G} {cs:List AV} {arr:Array Value} (hl:cs.length=arr.size) (h:∀(i:Nat)(c:AV)(v:Value),cs[i]?=some c->arr[i]?=some v->aB w γ c v):aB w γ (.agg cs) (.agg arr)
 |aV {γ:G} {cs:List AV} {arr:Array Value} (hl:cs.length=arr.size) (h:∀(i:Nat)(c:AV)(v:Value),cs[i]?=some c->arr[i]?=some v->aB w γ c v):aB w γ (.aV cs) (.tuple arr)
 |fn {γ:G} {f:FuncId} {first cap:List AV} {fa ca:Array Value} (hl:first.length=fa.size) (h:∀(i:Nat)(c:AV)(v:Value),first[i]?=some c->fa[i]?=some v->aB w γ c v)
   (ew:cap.length=ca.size) (h':∀(i:Nat)(c:AV)(v:Value),cap[i]?=some c->ca[i]?=some v->aB w γ c v):aB w γ (.fn f first cap) (.func (.func f) fa ca)
 |ptr {γ:G} {id o b:Nat} (h:γ.β id=some b):aB w γ (.ptr id o) (.pointer (some ⟨b,o,none⟩))
 |ep {γ:G} {row:List AV} {o b off:Nat} (cv:Nat->Value) (hb:b<w.heap.size)
   (hc:∀(j:Nat)(c:AV),row[j]?=some c->w.cell? ⟨b,off+j,none⟩=some (cv j)/\γ.ro b (off+j)/\(cv j).oneCell'=true)
   (h:∀(j:Nat)(c:AV),row[j]?=some c->aB w γ.cT c (cv j)):aB w γ (.ep row o) (.pointer (some ⟨b,off+o,none⟩))
 |bs {γ:G} {id off len sz cap b:Nat} {arr:Array Value} {e:TypeId} (h:γ.β id=some b) (hl:len<=cap) (hh:w.heap[b]?=some (.cells arr e (0,0))) (hs:off+cap*sz<=arr.size):
   aB w γ (.bs id off len sz) (.slice (some ⟨b,off,none⟩) len cap)
 |sl {γ:G} {rt:Rt} {rows:List (List AV)} {a:Option Addr} {cap:Nat} (b off sz:Nat) (cv:Nat->Nat->Value)
   (hcap:rows.length<=cap) (hnil:a=none->cap=0) (ha:rows≠[]->a=some ⟨b,off,none⟩/\b<w.heap.size)
   (hsz:∀row∈rows,row.length=sz)
   (hc:∀(i j:Nat)(c:AV),Qt rows i j=some c->w.cell? ⟨b,off+i*sz+j,none⟩=some (cv i j)/\γ.ro b (off+i*sz+j)/\(cv i j).oneCell'=true)
   (h:∀(i j:Nat)(c:AV),Qt rows i j=some c->aB w γ.cT c (cv i j))
   (aT:sX w γ a rows.length cap sz rt):aB w γ (.sl rt rows) (.slice a rows.length cap)
def qo(o o':Option Obj):Prop:=o'=o\/∃r s p,o=some (.loop r)/\o'=some (.loop {r with state:=s,pending:=p})
def qo.trans{o o' o'':Option Obj}(h:qo o o')(k:qo o' o''):qo o o'':=by
 obtain rfl|⟨r,s,p,rfl,rfl⟩:=h
 ·exact k
 obtain rfl|⟨r',s',p',e,rfl⟩:=k
 ·exact .inr ⟨r,s,p,rfl,rfl⟩
 simp at e;subst e;exact .inr ⟨r,s',p',rfl,rfl⟩
def Sz(w w':World):Prop:=∀(b:Nat)(arr:Array Value)(e:TypeId)(f:Nat×Nat),w.heap[b]?=some (.cells arr e f)->∃bR:Array Value,w'.heap[b]?=some (.cells bR e f)/\bR.size=arr.size
def Sz.refl(w:World):Sz w w:=fun _ arr _ _ h=>⟨arr,h,rfl⟩
def Sz.trans{w w' yR:World}(h:Sz w w')(k:Sz w' yR):Sz w yR:=fun b arr e f hb=>by
 obtain⟨bR,h1,h2⟩:=h b arr e f hb;obtain⟨Ex,h3,h4⟩:=k b bR e f h1;exact⟨Ex,h3,h4.trans h2⟩
def Sz.of_same{w w':World}(h:∀b,b<w.heap.size->w'.heap[b]?=w.heap[b]?):Sz w w':=fun b arr e f hb=>by
 have ai:b<w.heap.size:=by
  rcases zzaa b w.heap.size with h'|h'
  ·exact h'
  simp[zzcy h']at hb
 exact⟨arr,(h b ai).trans hb,rfl⟩
structure Nt (w:World) (γ:G) (w':World) (γ':G):Prop where
 size:w.heap.size<=w'.heap.size
 ro:∀b o,b<w.heap.size->γ.ro b o->γ'.ro b o/\w'.cell? ⟨b,o,none⟩=w.cell? ⟨b,o,none⟩
 β:∀id b,γ.β id=some b->γ'.β id=some b
 cur:∀id,γ.cur id<=γ'.cur id
 mm:∀b F,γ.mm b=some F->γ'.mm b=some F
 lp:∀i l,γ.lp i=some l->γ'.lp i=some l
 own:∀id b,γ'.cur id=γ.cur id->γ.own id=some b->γ'.own id=some b/\
  (∀arr e,w.heap[b]?=some (.cells arr e (0,0))->∃bR,w'.heap[b]?=some (.cells bR e (0,0))/\arr.size<=bR.size)/\∀o,γ'.ro b o->γ.ro b o
 ss:Sz w w'
structure eD (w:World) (γ:G) (w':World) (γ':G):Prop where
 size:w.heap.size<=w'.heap.size
 ro:∀b o,b<w.heap.size->γ.ro b o->γ'.ro b o/\w'.cell? ⟨b,o,none⟩=w.cell? ⟨b,o,none⟩
 β:∀id b,γ.β id=some b->γ'.β id=some b
 cur:∀id,γ.cur id<=γ'.cur id
 mm:∀b F,γ.mm b=some F->γ'.mm b=some F
 lp:∀i l,γ.lp i=some l->γ'.lp i=some l
 own:∀id b,γ'.cur id=γ.cur id->γ.own id=some b->γ'.own id=some b/\
  (∀arr e,w.heap[b]?=some (.cells arr e (0,0))->∃bR,w'.heap[b]?=some (.cells bR e (0,0))/\arr.size<=bR.size)/\∀o,γ'.ro b o->γ.ro b o
 sp:∀b,γ.sp b->γ'.sp b/\qo w.heap[b]? w'.heap[b]?
 ss:Sz w w'
structure Ev (w:World) (γ:G) (w':World) (γ':G):Prop where
 size:w.heap.size<=w'.heap.size
 ro:∀b o,b<w.heap.size->γ.ro b o->γ'.ro b o/\w'.cell? ⟨b,o,none⟩=w.cell? ⟨b,o,none⟩
 β:∀id b,γ.β id=some b->γ'.β id=some b
 cur:∀id,γ.cur id<=γ'.cur id
 mm:∀b F,γ.mm b=some F->γ'.mm b=some F
 lp:γ'.lp=γ.lp
 own:∀id b,γ'.cur id=γ.cur id->γ.own id=some b->γ'.own id=some b/\
  (∀arr e,w.heap[b]?=some (.cells arr e (0,0))->∃bR,w'.heap[b]?=some (.cells bR e (0,0))/\arr.size<=bR.size)/\∀o,γ'.ro b o->γ.ro b o
 sp:∀b,γ.sp b->γ'.sp b/\w'.heap[b]?=w.heap[b]?
 ss:Sz w w'
def eD.DL{w:World}{γ:G}{w':World}{γ':G}(h:eD w γ w' γ'):Nt w γ w' γ':=⟨h.size,h.ro,h.β,h.cur,h.mm,h.lp,h.own,h.ss⟩
def Ev.dB{w:World}{γ:G}{w':World}{γ':G}(h:Ev w γ w' γ'):eD w γ w' γ':=⟨h.size,h.ro,h.β,h.cur,h.mm,fun i l hl=>by rw[h.lp];exact hl,h.own,fun b hb=>⟨(h.sp b hb).1,.inl (h.sp b hb).2⟩,h.ss⟩
def Ev.refl(w:World)(γ:G):Ev w γ w γ:=
 ⟨zzab _,fun _ _ _ h=>⟨h,rfl⟩,fun _ _ h=>h,fun _=>zzab _,fun _ _ h=>h,rfl,fun _ _ _ h=>⟨h,fun arr _ h=>⟨arr,h,zzab _⟩,fun _ h=>h⟩,fun _ h=>⟨h,rfl⟩,Sz.refl w⟩
def Ev.trans{w:World}{γ:G}{w':World}{γ':G}{yR:World}{JE:G}(h:Ev w γ w' γ')(k:Ev w' γ' yR JE):Ev w γ yR JE where
 size:=zzbq h.size k.size
 ro b o hb hr:=by
  obtain⟨h1,h2⟩:=h.ro b o hb hr;obtain⟨h3,h4⟩:=k.ro b o (zzbb hb h.size) h1;exact⟨h3,h4.trans h2⟩
 β id b hb:=k.β id b (h.β id b hb)
 cur id:=zzbq (h.cur id) (k.cur id)
 mm b F hb:=k.mm b F (h.mm b F hb)
 lp:=k.lp.trans h.lp
 own id b hc ho:=by
  have h1:=h.cur id;have h2:=k.cur id;have e1:γ'.cur id=γ.cur id:=by omega
  have e2:JE.cur id=γ'.cur id:=by omega
  obtain⟨a1,a2,a3⟩:=h.own id b e1 ho;obtain⟨b1,b2,b3⟩:=k.own id b e2 a1;refine⟨b1,fun arr e hh=>?_,fun o ho=>a3 o (b3 o ho)⟩;obtain⟨bR,h3,h4⟩:=a2 arr e hh;obtain⟨Ex,h5,h6⟩:=b2 bR e h3;exact⟨Ex,h5,zzbq h4 h6⟩
 sp b hb:=by
  obtain⟨h1,h2⟩:=h.sp b hb;obtain⟨h3,h4⟩:=k.sp b h1;exact⟨h3,h4.trans h2⟩
 ss:=h.ss.trans k.ss
def eD.trans{w:World}{γ:G}{w':World}{γ':G}{yR:World}{JE:G}(h:eD w γ w' γ')(k:eD w' γ' yR JE):eD w γ yR JE where
 size:=zzbq h.size k.size
 ro b o hb hr:=by
  obtain⟨h1,h2⟩:=h.ro b o hb hr;obtain⟨h3,h4⟩:=k.ro b o (zzbb hb h.size) h1;exact⟨h3,h4.trans h2⟩
 β id b hb:=k.β id b (h.β id b hb)
 cur id:=zzbq (h.cur id) (k.cur id)
 mm b F hb:=k.mm b F (h.mm b F hb)
 lp i l hl:=k.lp i l (h.lp i l hl)
 own id b hc ho:=by
  have h1:=h.cur id;have h2:=k.cur id;have e1:γ'.cur id=γ.cur id:=by omega
  have e2:JE.cur id=γ'.cur id:=by omega
  obtain⟨a1,a2,a3⟩:=h.own id b e1 ho;obtain⟨b1,b2,b3⟩:=k.own id b e2 a1;refine⟨b1,fun arr e hh=>?_,fun o ho=>a3 o (b3 o ho)⟩;obtain⟨bR,h3,h4⟩:=a2 arr e hh;obtain⟨Ex,h5,h6⟩:=b2 bR e h3;exact⟨Ex,h5,zzbq h4 h6⟩
 sp b hb:=by
  obtain⟨h1,h2⟩:=h.sp b hb;obtain⟨h3,h4⟩:=k.sp b h1;exact⟨h3,h2.trans h4⟩
 ss:=h.ss.trans k.ss
def Nt.cT{w:World}{γ:G}{w':World}{γ':G}(h:Nt w γ w' γ'):Nt w γ.cT w' γ'.cT:=
 ⟨h.size,h.ro,fun _ _ h=>(by cases h),fun _=>zzab _,fun _ _ h=>(by cases h),fun _ _ h=>(by cases h),fun _ _ _ h=>(by cases h),h.ss⟩
def eD.cT{w:World}{γ:G}{w':World}{γ':G}(h:eD w γ w' γ'):eD w γ.cT w' γ'.cT:=
 ⟨h.size,h.ro,fun _ _ h=>(by cases h),fun _=>zzab _,fun _ _ h=>(by cases h),fun _ _ h=>(by cases h),fun _ _ _ h=>(by cases h),fun _ h=>h.elim,h.ss⟩
def eD.au9{w:World}{γ:G}{w':World}{γ':G}(h:eD w γ w' γ'):Ev w γ.cT w' γ'.cT:=
 ⟨h.size,h.ro,fun _ _ h=>(by cases h),fun _=>zzab _,fun _ _ h=>(by cases h),rfl,fun _ _ _ h=>(by cases h),fun _ h=>h.elim,h.ss⟩
def Ev.cT{w:World}{γ:G}{w':World}{γ':G}(h:Ev w γ w' γ'):Ev w γ.cT w' γ'.cT:=h.dB.au9
def lU.bh{w:World}{γ:G}{w':World}{γ':G}(h:Nt w γ w' γ'){a:Option Addr}{id len cap sz:Nat}(hc:γ'.cur id=γ.cur id)(hs:lU w γ a id len cap sz):
  lU w' γ' a id len cap sz:=by
 obtain⟨b,off,arr,e,ha,ho,hh,hsz,dG⟩:=hs;obtain⟨h1,h2,h3⟩:=h.own id b hc ho;obtain⟨bR,h4,h5⟩:=h2 arr e hh;exact⟨b,off,bR,e,ha,h1,h4,zzbq hsz h5,fun o ho hr=>dG o ho (h3 o hr)⟩
def lU.mono{w:World}{γ:G}{w':World}{γ':G}(h:Ev w γ w' γ'){a:Option Addr}{id len cap sz:Nat}(hc:γ'.cur id=γ.cur id)(hs:lU w γ a id len cap sz):
  lU w' γ' a id len cap sz:=lU.bh h.dB.DL hc hs
def sX.mono{w:World}{γ:G}{w':World}{γ':G}(h:Nt w γ w' γ'){a:Option Addr}{len cap sz:Nat}{rt:Rt}(hr:sX w γ a len cap sz rt):sX w' γ' a len cap sz rt:=by
 cases rt with
 |ro=>trivial
 |full=>exact hr
 |nil=>exact hr
 |nn=>exact hr
 |own id fV=>
  obtain⟨h1,h2,h3⟩:=hr;have tM:=h.cur id;refine⟨h1,zzbq h2 tM,fun he=>?_⟩;have e1:γ'.cur id=γ.cur id:=by omega
  exact(h3 (by omega)).imp_right (lU.bh h e1)
def aB.eS{w:World}{γ:G}{a:AV}{v:Value}(h:aB w γ a v):∀{w':World}{γ':G},Nt w γ w' γ'->aB w' γ' a v:=by
 induction h with
 |junk v=>exact fun _=>.junk v
 |gd _ h' ih=>exact fun e=>.gd (fun hg=>ih hg e) h'
 |bool b=>exact fun _=>.bool b
 |int k n=>exact fun _=>.int k n
 |str s=>exact fun _=>.str s
 |nilfn=>exact fun _=>.nilfn
 |nilv p=>exact fun _=>.nilv p
 |yld h=>exact fun e=>.yld (e.lp _ _ h)
 |mp h=>exact fun e=>.mp (e.mm _ _ h)
 |it h=>exact fun e=>.it (e.mm _ _ h)
 |agg hl _ ih=>exact fun e=>.agg hl fun i c v h1 h2=>ih i c v h1 h2 e
 |aV hl _ ih=>exact fun e=>.aV hl fun i c v h1 h2=>ih i c v h1 h2 e
 |fn hl _ ew _ ih ih'=>exact fun e=>.fn hl (fun i c v h1 h2=>ih i c v h1 h2 e) ew fun i c v h1 h2=>ih' i c v h1 h2 e
 |ptr h=>exact fun e=>.ptr (e.β _ _ h)
 |bs h hl hh hs=>
  intro w' γ' e;obtain⟨bR,h1,h2⟩:=e.ss _ _ _ _ hh;exact .bs (e.β _ _ h) hl h1 (by omega)
 |ep cv hb hc _ ih=>
  exact fun e=>.ep cv (zzbb hb e.size) (fun j c hj=>⟨(e.ro _ _ hb (hc j c hj).2.1).2.trans (hc j c hj).1,(e.ro _ _ hb (hc j c hj).2.1).1,(hc j c hj).2.2⟩) fun j c hj=>ih j c hj e.cT
 |@sl γ rt rows a cap b off sz cv hcap hnil ha hsz hc _ aT ih=>
  intro w' γ' e;have hb:∀i j c,Qt rows i j=some c->b<w.heap.size:=fun i j c eM=>(ha (by rintro rfl;simp[Qt]at eM)).2
  exact .sl b off sz cv hcap hnil (fun hn=>⟨(ha hn).1,zzbb (ha hn).2 e.size⟩) hsz
   (fun i j c eM=>⟨(e.ro _ _ (hb i j c eM) (hc i j c eM).2.1).2.trans (hc i j c eM).1,(e.ro _ _ (hb i j c eM) (hc i j c eM).2.1).1,(hc i j c eM).2.2⟩)
   (fun i j c eM=>ih i j c eM e.cT) (aT.mono e)
def aB.bh{w:World}{γ:G}{a:AV}{v:Value}(h:aB w γ a v){w':World}{γ':G}(e:eD w γ w' γ'):aB w' γ' a v:=h.eS e.DL
def aB.mono{w:World}{γ:G}{a:AV}{v:Value}(h:aB w γ a v){w':World}{γ':G}(e:Ev w γ w' γ'):aB w' γ' a v:=h.bh e.dB
def ak(w:World)(γ:G)(as:List AV)(vs:List Value):Prop:=as.length=vs.length/\∀(i:Nat)(a:AV)(v:Value),as[i]?=some a->vs[i]?=some v->aB w γ a v
def ak.mono{w:World}{γ:G}{as:List AV}{vs:List Value}(h:ak w γ as vs){w':World}{γ':G}(e:Ev w γ w' γ'):ak w' γ' as vs:=
 ⟨h.1,fun i a v h1 h2=>(h.2 i a v h1 h2).mono e⟩
def ak.eS{w:World}{γ:G}{as:List AV}{vs:List Value}(h:ak w γ as vs){w':World}{γ':G}(e:Nt w γ w' γ'):ak w' γ' as vs:=
 ⟨h.1,fun i a v h1 h2=>(h.2 i a v h1 h2).eS e⟩
def ak.bh{w:World}{γ:G}{as:List AV}{vs:List Value}(h:ak w γ as vs){w':World}{γ':G}(e:eD w γ w' γ'):ak w' γ' as vs:=
 ⟨h.1,fun i a v h1 h2=>(h.2 i a v h1 h2).bh e⟩
def ak.nil{w:World}{γ:G}:ak w γ [] []:=⟨rfl,fun i a v h=>(by simp at h)⟩
def ak.cons{w:World}{γ:G}{a:AV}{v:Value}{as:List AV}{vs:List Value}(h:aB w γ a v)(hs:ak w γ as vs):ak w γ (a::as) (v::vs):=
 ⟨by simp[hs.1],fun i x y h1 h2=>by
  cases i with
  |zero=>simp at h1 h2;subst h1;subst h2;exact h
  |succ i=>simp at h1 h2;exact hs.2 i x y h1 h2⟩
def ak.get{w:World}{γ:G}{as:List AV}{vs:List Value}(h:ak w γ as vs)(i:Nat):aB w γ (as.getD i .junk) (vs.getD i undef):=by
 rcases zzaa i as.length with hi|hi
 ·have dV:i<vs.length:=h.1 ▸ hi;refine h.2 i _ _ (?_:as[i]?=some _) (?_:vs[i]?=some _)
  ·simp[List.getD,hi]
  simp[List.getD,dV]
 simp[List.getD,zzax hi];exact .junk _
def ak.set{w:World}{γ:G}{as:List AV}{vs:List Value}(h:ak w γ as vs)(i:Nat){a:AV}{v:Value}(ha:aB w γ a v):ak w γ (as.set i a) (vs.set i v):=by
 refine⟨by simp[h.1],fun j x y h1 h2=>?_⟩;by_cases eM:i=j
 ·subst eM;rw[zzcv]at h1 h2;simp only[if_true]at h1 h2;split at h1<;>split at h2<;>simp_all
 rw[zzbd eM]at h1 h2;exact h.2 j x y h1 h2
def ak.append{w:World}{γ:G}{as bs:List AV}{vs us:List Value}(h:ak w γ as vs)(k:ak w γ bs us):ak w γ (as++bs) (vs++us):=by
 refine⟨by simp[h.1,k.1],fun i x y h1 h2=>?_⟩;rcases zzaa i as.length with hi|hi
 ·rw[zzah hi]at h1;rw[zzah (h.1 ▸ hi)]at h2;exact h.2 i x y h1 h2
 rw[zzap hi]at h1;rw[zzap (h.1 ▸ hi),<- h.1]at h2;exact k.2 _ x y h1 h2
def cD(w:World)(γ:G)(as:List AV)(vs:List Value):Prop:=as.length<=vs.length/\∀(i:Nat)(a:AV)(v:Value),as[i]?=some a->vs[i]?=some v->aB w γ a v
def ak.toP{w:World}{γ:G}{as:List AV}{vs:List Value}(h:ak w γ as vs):cD w γ as vs:=⟨Nat.le_of_eq h.1,h.2⟩
def cD.nil{w:World}{γ:G}{vs:List Value}:cD w γ [] vs:=⟨zzcc _,fun i a v h=>(by simp at h)⟩
def cD.eS{w:World}{γ:G}{as:List AV}{vs:List Value}(h:cD w γ as vs){w':World}{γ':G}(e:Nt w γ w' γ'):cD w' γ' as vs:=
 ⟨h.1,fun i a v h1 h2=>(h.2 i a v h1 h2).eS e⟩
def cD.bh{w:World}{γ:G}{as:List AV}{vs:List Value}(h:cD w γ as vs){w':World}{γ':G}(e:eD w γ w' γ'):cD w' γ' as vs:=h.eS e.DL
def cD.mono{w:World}{γ:G}{as:List AV}{vs:List Value}(h:cD w γ as vs){w':World}{γ':G}(e:Ev w γ w' γ'):cD w' γ' as vs:=h.bh e.dB
def cD.set{w:World}{γ:G}{as:List AV}{vs:List Value}(h:cD w γ as vs)(i:Nat){a:AV}{v:Value}(ha:aB w γ a v):cD w γ (as.set i a) (vs.set i v):=by
 refine⟨by simpa using h.1,fun j x y h1 h2=>?_⟩;by_cases eM:i=j
 ·subst eM;rw[zzcv]at h1 h2;simp only[if_true]at h1 h2;split at h1<;>split at h2<;>simp_all
 rw[zzbd eM]at h1 h2;exact h.2 j x y h1 h2
open Go Go.RowKit
inductive LS where
 |gone
 |ready
 |busy
 |done (ex:Exit)
structure AM where
 boxes:List (List AV)
 lens:List Nat
 st:Nat->LS
 ln:Nat
def OI(γ:G)(b:Nat):Prop:=(∃id,γ.β id=some b)\/(∃id,γ.own id=some b)\/γ.sp b\/∃id,γ.mm id=some b
structure Chg (γ:G) (w:World) (γ':G) (w':World):Prop where
 os:w'.os=w.os
 tape:w'.tape=w.tape
 output:w'.output=w.output
 size:w.heap.size<=w'.heap.size
 same:∀b,b<w.heap.size->¬OI γ b->w'.heap[b]?=w.heap[b]?
 ro:∀b o,b<w.heap.size->γ.ro b o->γ'.ro b o/\w'.cell? ⟨b,o,none⟩=w.cell? ⟨b,o,none⟩
 oi:∀b,OI γ' b->OI γ b\/w.heap.size<=b
 ron:∀b o,γ'.ro b o->γ.ro b o\/OI γ b\/w.heap.size<=b
structure gY where
 p:G->World->Prop
 st:∀γ w γ' w',p γ w->Chg γ w γ' w'->p γ' w'
def Yk:Nat->List Int->Value
 |0,[n]=>.int .i64 n
 |0,_=>undef
 |_+1,ns=>.agg (ns.map (Value.int .i64)).toArray
def Wu:Nat->List Int->Prop
 |0,ns=>ns.length=1
 |kn+1,ns=>ns.length=kn+1
def cI(w:World)(γ:G):AV->Obj->Prop
 |.aK kn kvs,.map es clock=>clock=es.size/\kvs.length=es.size/\
  ∀(i:Nat)(k:List Int)(a:AV)(e:MapEntry),kvs[i]?=some (k,a)->es[i]?=some e->Wu kn k/\e.key=Yk kn k/\e.born=i/\aB w γ a e.val
 |.mitr mid n seen,.mapIter (some mb) Nu sn st=>γ.mm mid=some mb/\Nu=n/\st=n/\sn.toList=seen
 |_,_=>False
def vf(w:World)(γ:G)(b:Nat)(x:Option (List AV)):Prop:=∃a o,x=some [a]/\w.heap[b]?=some o/\cI w γ a o
def cI.mono{w w':World}{γ γ':G}{a:AV}{o:Obj}(h:cI w γ a o)(ev:Nt w γ w' γ'):cI w' γ' a o:=by
 unfold cI at h |-
 split at h
 ·exact⟨h.1,h.2.1,fun i k a e q1 q2=>⟨(h.2.2 i k a e q1 q2).1,(h.2.2 i k a e q1 q2).2.1,(h.2.2 i k a e q1 q2).2.2.1,(h.2.2 i k a e q1 q2).2.2.2.eS ev⟩⟩
 ·exact⟨ev.mm _ _ h.1,h.2⟩
 exact h.elim
def vf.mono{w w':World}{γ γ':G}{b:Nat}{x:Option (List AV)}(h:vf w γ b x)(ev:Nt w γ w' γ')(e:w'.heap[b]?=w.heap[b]?):vf w' γ' b x:=by
 obtain⟨a,o,h1,h2,h3⟩:=h;exact⟨a,o,h1,e.trans h2,h3.mono ev⟩
def vf.U2{w:World}{γ:G}{b:Nat}{x:Option (List AV)}(h:vf w γ b x){arr:Array Value}{e:TypeId}{f:Nat×Nat}(hh:w.heap[b]?=some (.cells arr e f)):False:=by
 obtain⟨a,o,_,h2,h3⟩:=h;rw[hh]at h2;cases h2;cases a<;>exact h3
structure au (N:Nat) (w0:gY) (aq:Nat->Nat->Prop) (γ:G) (w:World) (B:Nat->Option (List AV)) (L:Nat->Option Nat):Prop where
 bs:w0.p γ w
 hN:N<=w.heap.size
 aq:∀b o,γ.ro b o->aq b o\/N<=b
 robd:∀b o,γ.ro b o->b<w.heap.size
 box:∀id cells b,B id=some cells->γ.β id=some b->∃arr e,w.heap[b]?=some (.cells arr e (0,0))/\cD w γ cells arr.toList/\∀v∈arr.toList,v.oneCell'=true
 β:∀id b,γ.β id=some b->N<=b/\b<w.heap.size/\(∀o,¬γ.ro b o)/\(∀id',γ.own id'≠some b)/\∃cells,B id=some cells
 inj:∀id id' b,γ.β id=some b->γ.β id'=some b->B id=some []\/B id'=some []\/id=id'
 own:∀id b,γ.own id=some b->N<=b/\b<w.heap.size/\∃n,L id=some n
 oinj:∀id id' b,γ.own id=some b->γ.own id'=some b->id=id'
 sp:∀b,γ.sp b->N<=b/\b<w.heap.size/\(∀o,¬γ.ro b o)/\(∀id,γ.β id≠some b)/\(∀id,γ.own id≠some b)
 mm:∀id b,γ.mm id=some b->N<=b/\b<w.heap.size/\(∀o,¬γ.ro b o)/\(∀id,γ.β id≠some b)/\(∀id,γ.own id≠some b)/\¬γ.sp b/\γ.β id=none/\vf w γ b (B id)
 minj:∀id id' b,γ.mm id=some b->γ.mm id'=some b->id=id'
 len:∀id n,L id=some n->γ.cur id=n
 cur0:∀id,L id=none->γ.cur id=0
def AM.B(m:AM):Nat->Option (List AV):=fun id=>m.boxes[id]?
def AM.L(m:AM):Nat->Option Nat:=fun id=>m.lens[id]?
def G.grow(γ:G)(n n':Nat):G:={γ with ro:=fun b o=>γ.ro b o\/(n<=b/\b<n')}
def cell_of_heap{w w':World}{b o:Nat}(h:w'.heap[b]?=w.heap[b]?):w'.cell? ⟨b,o,none⟩=w.cell? ⟨b,o,none⟩:=by
 simp[World.cell?,h]
def aL{w:World}{b o:Nat}{arr:Array Value}{e:TypeId}{f:Nat×Nat}(h:w.heap[b]?=some (.cells arr e f)):w.cell? ⟨b,o,none⟩=arr[o]?:=by
 simp[World.cell?,h]
def Zn{w:World}{b o:Nat}{arr:Array Value}{e:TypeId}(h:w.heap[b]?=some (.cells arr e (0,0))):w.frozen? ⟨b,o,none⟩=false:=by
 simp[World.frozen?,h]
def aS{w:World}{b:Nat}{x:Obj}(h:w.heap[b]?=some x):b<w.heap.size:=by
 rcases zzaa b w.heap.size with h'|h'
 ·exact h'
 simp[zzcy h']at h
def Ev.U3{w w':World}{γ:G}(h:Below w.heap.size w w')(eN:∀id b,γ.own id=some b->b<w.heap.size)(dy:∀b,γ.sp b->b<w.heap.size):Ev w γ w' (γ.grow w.heap.size w'.heap.size) where
 size:=h.size
 ro b o hb hr:=⟨.inl hr,cell_of_heap (h.block b hb)⟩
 β _ _ h:=h
 cur _:=zzab _
 mm _ _ h:=h
 lp:=rfl
 own id b _ ho:=by
  have hb:=eN id b ho;refine⟨ho,fun arr e he=>⟨arr,by rw[h.block b hb];exact he,zzab _⟩,fun o hr=>?_⟩;obtain hr|⟨hr,_⟩:=hr
  ·exact hr
  omega
 sp b hb:=⟨hb,h.block b (dy b hb)⟩
 ss:=Sz.of_same h.block
variable {N:Nat} {w0:gY} {aq:Nat->Nat->Prop} {γ:G} {w:World} {B:Nat->Option (List AV)} {L:Nat->Option Nat}
def au.dg(hm:au N w0 aq γ w B L){w':World}(h:Below w.heap.size w w'):Ev w γ w' (γ.grow w.heap.size w'.heap.size):=
 Ev.U3 h (fun id b hb=>(hm.own id b hb).2.1) fun b hb=>(hm.sp b hb).2.1
def au.grow(hm:au N w0 aq γ w B L){w':World}(h:Below w.heap.size w w'):au N w0 aq (γ.grow w.heap.size w'.heap.size) w' B L where
 bs:=w0.st _ _ _ _ hm.bs ⟨h.os,h.tape,h.output,h.size,fun b hb _=>h.block b hb,(hm.dg h).ro,fun b hb=>.inl hb,fun b o hr=>hr.imp_right fun h=>.inr h.1⟩
 hN:=zzbq hm.hN h.size
 aq b o hr:=by
  obtain hr|⟨hr,_⟩:=hr
  ·exact hm.aq b o hr
  exact .inr (zzbq hm.hN hr)
 robd b o hr:=by
  obtain hr|⟨_,hr⟩:=hr
  ·exact zzbb (hm.robd b o hr) h.size
  exact hr
 box id cells b hb h1:=by
  obtain⟨arr,e,h2,h3,h4⟩:=hm.box id cells b hb h1;exact⟨arr,e,by rw[h.block b (aS h2)];exact h2,h3.mono (hm.dg h),h4⟩
 β id b hb:=by
  obtain⟨h1,h2,h3,h4,h5⟩:=hm.β id b hb;refine⟨h1,zzbb h2 h.size,fun o hr=>?_,h4,h5⟩;obtain hr|⟨hr,_⟩:=hr
  ·exact h3 o hr
  omega
 inj:=hm.inj
 own id b hb:=by
  obtain⟨h1,h2,h3⟩:=hm.own id b hb;exact⟨h1,zzbb h2 h.size,h3⟩
 oinj:=hm.oinj
 sp b hb:=by
  obtain⟨h1,h2,h3,h4⟩:=hm.sp b hb;refine⟨h1,zzbb h2 h.size,fun o hr=>?_,h4⟩;obtain hr|⟨hr,_⟩:=hr
  ·exact h3 o hr
  omega
 mm id b hb:=by
  obtain⟨h1,h2,h3,h4,h5,h6,h8,h7⟩:=hm.mm id b hb;refine⟨h1,zzbb h2 h.size,fun o hr=>?_,h4,h5,h6,h8,h7.mono (hm.dg h).dB.DL (h.block b h2)⟩;obtain hr|⟨hr,_⟩:=hr
  ·exact h3 o hr
  omega
 minj:=hm.minj
 len:=hm.len
 cur0:=hm.cur0
def G.box(γ:G)(id b:Nat):G:={γ with β:=fun i=>if i=id then some b else γ.β i}
def au.dh(hm:au N w0 aq γ w B L)(id:Nat)(aO:B id=none)(o:Obj):Ev w γ (w.alloc o) (γ.box id w.heap.size) where
 size:=by simp
 ro b o' hb hr:=⟨hr,cell_of_heap (Below.heap_alloc w o b hb)⟩
 β i b hb:=by
  have:i≠id:=by rintro rfl;obtain⟨_,_,_,_,c,hc⟩:=hm.β i b hb;rw[aO]at hc;cases hc
  simp[G.box,this,hb]
 cur _:=zzab _
 mm _ _ h:=h
 lp:=rfl
 own i b _ ho:=⟨ho,fun arr e he=>⟨arr,by rw[Below.heap_alloc w o b (hm.own i b ho).2.1];exact he,zzab _⟩,fun _ h=>h⟩
 sp b hb:=⟨hb,Below.heap_alloc w o b (hm.sp b hb).2.1⟩
 ss:=Sz.of_same (Below.heap_alloc w o)
def au.eX(hm:au N w0 aq γ w B L)(id:Nat)(aO:B id=none){cells:List AV}{arr:Array Value}{e:TypeId}(hr:cD w γ cells arr.toList)(U4:∀v∈arr.toList,v.oneCell'=true):
  au N w0 aq (γ.box id w.heap.size) (w.alloc (.cells arr e)) (fun i=>if i=id then some cells else B i) L where
 bs:=w0.st _ _ _ _ hm.bs ⟨rfl,rfl,rfl,by simp,fun b hb _=>Below.heap_alloc w _ b hb,(hm.dh id aO _).ro,fun b hb=>by
  obtain⟨i,hi⟩|hb|hb:=hb
  ·by_cases h:i=id
   ·simp[G.box,h]at hi;exact .inr (by omega)
   simp[G.box,h]at hi;exact .inl (.inl ⟨i,hi⟩)
  ·exact .inl (.inr (.inl hb))
  exact .inl (.inr (.inr hb)),fun _ _ h=>.inl h⟩
 hN:=by have:=hm.hN;simp;omega
 aq:=hm.aq
 robd b o h:=by have:=hm.robd b o h;simp;omega
 box i cs b hb h1:=by
  by_cases hi:i=id
  ·subst hi;simp at hb;subst hb;simp[G.box]at h1;subst h1;exact⟨arr,e,by show(w.heap.push _)[w.heap.size]?=_;simp,hr.mono (hm.dh i aO _),U4⟩
  simp[hi]at hb;simp[G.box,hi]at h1;obtain⟨bR,e',h2,h3,h4⟩:=hm.box i cs b hb h1;exact⟨bR,e',by rw[Below.heap_alloc w _ b (aS h2)];exact h2,h3.mono (hm.dh id aO _),h4⟩
 β i b hb:=by
  by_cases hi:i=id
  ·subst hi;simp[G.box]at hb;subst hb;refine⟨hm.hN,by simp,fun o h=>?_,fun i' h=>?_,cells,by simp⟩
   ·have:=hm.robd _ o h;omega
   have:=(hm.own i' _ h).2.1;omega
  simp[G.box,hi]at hb;obtain⟨h1,h2,h3,h4,c,hc⟩:=hm.β i b hb;exact⟨h1,by simp;omega,h3,h4,c,by simp[hi,hc]⟩
 inj i i' b h h':=by
  by_cases hi:i=id<;>by_cases dV:i'=id
  ·exact .inr (.inr (by rw[hi,dV]))
  ·simp[G.box,hi]at h;simp[G.box,dV]at h';have:=(hm.β i' b h').2.1;omega
  ·simp[G.box,dV]at h';simp[G.box,hi]at h;have:=(hm.β i b h).2.1;omega
  simp[G.box,hi]at h;simp[G.box,dV]at h';simp only[if_neg hi,if_neg dV];exact hm.inj i i' b h h'
 own i b hb:=by
  obtain⟨h1,h2,h3⟩:=hm.own i b hb;exact⟨h1,by simp;omega,h3⟩
 oinj:=hm.oinj
 sp b hb:=by
  obtain⟨h1,h2,h3,h4,h5⟩:=hm.sp b hb;refine⟨h1,by simp;omega,h3,fun i hi=>?_,h5⟩;by_cases aO:i=id
  ·simp[G.box,aO]at hi;omega
  simp[G.box,aO]at hi;exact h4 i hi
 mm i' b hb:=by
  obtain⟨h1,h2,h3,h4,h5,h6,h8,h7⟩:=hm.mm i' b hb
  have aJ:i'≠id:=by
   rintro rfl;obtain⟨_,_,hx,_⟩:=h7;rw[aO]at hx;cases hx
  refine⟨h1,by simp;omega,h3,fun i hi=>?_,h5,h6,by simp[G.box,aJ,h8],?_⟩
  ·by_cases aO:i=id
   ·simp[G.box,aO]at hi;omega
   simp[G.box,aO]at hi;exact h4 i hi
  simp only[aJ,if_false];exact h7.mono (hm.dh id aO _).dB.DL (Below.heap_alloc w _ b h2)
 minj:=hm.minj
 len:=hm.len
 cur0:=hm.cur0
def sY(arr:Array Value):Nat->List Value->Array Value
 |_,[]=>arr
 |o,v::r=>sY (arr.setIfInBounds o v) (o+1) r
def Va:∀(vs:List Value)(arr:Array Value)(o:Nat),(sY arr o vs).size=arr.size
 |[],_,_=>rfl
 |v::r,arr,o=>by rw[sY,Va r];simp
def heap_setCell_same{w:World}{b o:Nat}{arr:Array Value}{e:TypeId}{f:Nat×Nat}(h:w.heap[b]?=some (.cells arr e f))(v:Value):
  (w.setCell ⟨b,o,none⟩ v).heap[b]?=some (.cells (arr.setIfInBounds o v) e f):=by
 simp[World.setCell,zzel,h]
def Qz(b:Nat):∀(vs:List Value)(o:Nat)(w:World)(arr:Array Value)(e:TypeId)(f:Nat×Nat),w.heap[b]?=some (.cells arr e f)->
  (w.setCells b o vs).heap[b]?=some (.cells (sY arr o vs) e f)
 |[],_,_,_,_,_,h=>h
 |v::r,o,w,arr,e,f,h=>by
  rw[World.setCells,sY];exact Qz b r (o+1) _ _ e f (heap_setCell_same h v)
def Xt(b:Nat){N:Nat}(hb:N<=b):∀(vs:List Value)(o:Nat)(w:World),Below N w (w.setCells b o vs)
 |[],_,_=>Below.refl _ _
 |v::r,o,w=>by
  rw[World.setCells];exact((Below.refl N w).setCell (p:=⟨b,o,none⟩) hb v).trans (Xt b hb r (o+1) _)
def Qw(b:Nat):∀(vs:List Value)(o:Nat)(w:World)(b':Nat),b'≠b->(w.setCells b o vs).heap[b']?=w.heap[b']?
 |[],_,_,_,_=>rfl
 |v::r,o,w,b',h=>by
  rw[World.setCells,Qw b r (o+1) _ b' h];exact Below.heap_setCell w ⟨b,o,none⟩ v b' h
def aD(b:Nat):∀(vs:List Value)(o:Nat)(w:World),(w.setCells b o vs).heap.size=w.heap.size
 |[],_,_=>rfl
 |v::r,o,w=>by
  rw[World.setCells,aD b r];simp[World.setCell]
def Sz.setCells(b o:Nat)(vs:List Value)(w:World):Sz w (w.setCells b o vs):=fun b' arr e f h=>by
 by_cases hb:b'=b
 ·subst hb;exact⟨_,Qz b' vs o w arr e f h,Va vs arr o⟩
 exact⟨arr,(Qw b vs o w b' hb).trans h,rfl⟩
def setA(cs:List AV):Nat->List AV->List AV
 |_,[]=>cs
 |o,a::r=>setA (cs.set o a) (o+1) r
def Wq:∀(vs:List Value)(o:Nat)(arr:Array Value),(∀v∈arr.toList,v.oneCell'=true)->(∀v∈vs,v.oneCell'=true)->∀v∈(sY arr o vs).toList,v.oneCell'=true
 |[],_,_,h,_=>h
 |u::vs,o,arr,h,h'=>by
  rw[sY];refine Wq vs (o+1) _ (fun v hv=>?_) (fun v hv=>h' v (by simp[hv]));rw[zzdi]at hv;rcases zzgi hv with hv|rfl
  ·exact h v hv
  exact h' _ (by simp)
def ak.setA{w:World}{γ:G}:∀{as:List AV}{vs:List Value}{o:Nat}{cs:List AV}{arr:Array Value},ak w γ as vs->ak w γ cs arr.toList->ak w γ (setA cs o as) (sY arr o vs).toList
 |[],[],_,_,_,_,h=>h
 |[],_::_,_,_,_,h,_=>by have:=h.1;simp at this
 |_::_,[],_,_,_,h,_=>by have:=h.1;simp at this
 |a::as,v::vs,o,cs,arr,h,hc=>by
  have h0:aB w γ a v:=h.2 0 a v rfl rfl;have hs:ak w γ as vs:=⟨by have:=h.1;simpa using this,fun i x y h1 h2=>h.2 (i+1) x y (by simpa using h1) (by simpa using h2)⟩;rw[Abs.setA,sY];refine ak.setA hs ?_;rw[zzdi];exact hc.set o h0
def cD.setA{w:World}{γ:G}:∀{as:List AV}{vs:List Value}{o:Nat}{cs:List AV}{arr:Array Value},ak w γ as vs->cD w γ cs arr.toList->cD w γ (setA cs o as) (sY arr o vs).toList
 |[],[],_,_,_,_,h=>h
 |[],_::_,_,_,_,h,_=>by have:=h.1;simp at this
 |_::_,[],_,_,_,h,_=>by have:=h.1;simp at this
 |a::as,v::vs,o,cs,arr,h,hc=>by
  have h0:aB w γ a v:=h.2 0 a v rfl rfl;have hs:ak w γ as vs:=⟨by have:=h.1;simpa using this,fun i x y h1 h2=>h.2 (i+1) x y (by simpa using h1) (by simpa using h2)⟩;rw[Abs.setA,sY];refine cD.setA hs ?_;rw[zzdi];exact hc.set o h0
def og:∀(as:List AV)(o:Nat)(cs:List AV),(setA cs o as).length=cs.length
 |[],_,_=>rfl
 |a::as,o,cs=>by rw[setA,og as];simp
def au.ct(hm:au N w0 aq γ w B L){id b:Nat}(hb:γ.β id=some b)(o:Nat)(vs:List Value):Ev w γ (w.setCells b o vs) γ where
 size:=by rw[aD];exact zzab _
 ro b' o' _ hr:=⟨hr,cell_of_heap (Qw b vs o w b' (by rintro rfl;exact(hm.β id b' hb).2.2.1 o' hr))⟩
 β _ _ h:=h
 cur _:=zzab _
 mm _ _ h:=h
 lp:=rfl
 own i b' _ ho:=by
  have aJ:b'≠b:=by rintro rfl;exact(hm.β id b' hb).2.2.2.1 i ho
  exact⟨ho,fun arr e he=>⟨arr,by rw[Qw b vs o w b' aJ];exact he,zzab _⟩,fun _ h=>h⟩
 sp b' cK:=⟨cK,Qw b vs o w b' (by rintro rfl;exact(hm.sp b' cK).2.2.2.1 id hb)⟩
 ss:=Sz.setCells b o vs w
def au.store(hm:au N w0 aq γ w B L){id:Nat}{cells:List AV}(hB:B id=some cells){b:Nat}{arr:Array Value}{e:TypeId}(hb:γ.β id=some b)
  (hh:w.heap[b]?=some (.cells arr e (0,0)))(hr:cD w γ cells arr.toList)(U4:∀v∈arr.toList,v.oneCell'=true){o:Nat}{as:List AV}{vs:List Value}(ha:ak w γ as vs)(h1v:∀v∈vs,v.oneCell'=true)(qp:cells≠[]):
  au N w0 aq γ (w.setCells b o vs) (fun i=>if i=id then some (setA cells o as)else B i) L where
 bs:=w0.st _ _ _ _ hm.bs ⟨(Xt b (zzab b) vs o w).os,(Xt b (zzab b) vs o w).tape,(Xt b (zzab b) vs o w).output,by rw[aD];exact zzab _,
  fun b' _ BT=>Qw b vs o w b' (by rintro rfl;exact BT (.inl ⟨id,hb⟩)),(hm.ct hb o vs).ro,fun b hb=>.inl hb,fun _ _ h=>.inl h⟩
 hN:=by rw[aD];exact hm.hN
 aq:=hm.aq
 robd b' o' h:=by rw[aD];exact hm.robd b' o' h
 box i cs b' dz h1:=by
  by_cases hi:i=id
  ·subst hi;simp at dz;subst dz;obtain rfl:b'=b:=Option.some.inj (h1.symm.trans hb);exact⟨_,e,Qz b' vs o w arr e _ hh,(cD.setA ha hr).mono (hm.ct hb o vs),Wq vs o arr U4 h1v⟩
  simp[hi]at dz;obtain⟨bR,e',h2,h3,h4⟩:=hm.box i cs b' dz h1;by_cases aJ:b'=b
  ·subst aJ;rcases hm.inj _ _ _ h1 hb with h|h|h
   ·rw[h]at dz;cases dz;exact⟨_,e,Qz b' vs o w arr e _ hh,cD.nil,Wq vs o arr U4 h1v⟩
   ·rw[h]at hB;cases hB;exact absurd rfl qp
   exact absurd h hi
  exact⟨bR,e',by rw[Qw b vs o w b' aJ];exact h2,h3.mono (hm.ct hb o vs),h4⟩
 β i b' dz:=by
  obtain⟨h1,h2,h3,h4,c,hc⟩:=hm.β i b' dz;refine⟨h1,by rw[aD];exact h2,h3,h4,?_⟩;by_cases hi:i=id
  ·exact⟨setA cells o as,by simp[hi]⟩
  exact⟨c,by simp[hi,hc]⟩
 inj i i' b' h h':=by
  rcases hm.inj i i' b' h h' with k|k|k
  ·refine .inl ?_;by_cases hi:i=id
   ·subst hi;rw[k]at hB;cases hB;exact absurd rfl qp
   simp only[if_neg hi];exact k
  ·refine .inr (.inl ?_);by_cases hi:i'=id
   ·subst hi;rw[k]at hB;cases hB;exact absurd rfl qp
   simp only[if_neg hi];exact k
  exact .inr (.inr k)
 own i b' dz:=by
  obtain⟨h1,h2,h3⟩:=hm.own i b' dz;exact⟨h1,by rw[aD];exact h2,h3⟩
 oinj:=hm.oinj
 sp b' cK:=by
  obtain⟨h1,h2,h3⟩:=hm.sp b' cK;exact⟨h1,by rw[aD];exact h2,h3⟩
 mm i' b' cK:=by
  obtain⟨h1,h2,h3,h4,h5,h6,h8,h7⟩:=hm.mm i' b' cK;have aJ:i'≠id:=by rintro rfl;rw[hb]at h8;cases h8
  refine⟨h1,by rw[aD];exact h2,h3,h4,h5,h6,h8,?_⟩;simp only[aJ,if_false];exact h7.mono (hm.ct hb o vs).dB.DL (Qw b vs o w b' (by rintro rfl;exact h4 id hb))
 minj:=hm.minj
 len:=hm.len
 cur0:=hm.cur0
def G.extend(γ:G)(id b p q n:Nat):G:={γ with cur:=fun i=>if i=id then n else γ.cur i,ro:=fun b' o=>γ.ro b' o\/(b'=b/\p<=o/\o<q)}
def au.j7(hm:au N w0 aq γ w B L){id b p q n:Nat}{vs:List Value}(ho:γ.own id=some b)(hn:γ.cur id<=n)(hq:γ.cur id=n->q<=p)(hpq:q=p+vs.length)(oh:∀o,p<=o->¬γ.ro b o):Ev w γ (w.setCells b p vs) (γ.extend id b p q n) where
 size:=by rw[aD];exact zzab _
 ro b' o' _ hr:=by
  refine⟨.inl hr,World.cell?_setCells_out b vs p w _ fun e1 _=>?_⟩;simp only at e1 |-
  subst e1;rcases zzaa o' p with h|h
  ·exact .inl h
  exact absurd hr (oh o' h)
 β _ _ h:=h
 cur i:=by
  simp only[G.extend];split
  ·rename_i h;subst h;exact hn
  exact zzab _
 mm _ _ h:=h
 lp:=rfl
 own i b' hc Ih:=by
  by_cases hi:i=id
  ·subst hi;obtain rfl:b'=b:=Option.some.inj (Ih.symm.trans ho);simp only[G.extend,if_true]at hc;have:=hq hc.symm;have hvs:vs=[]:=zzav (by omega);subst hvs;refine⟨Ih,fun arr e he=>⟨arr,he,zzab _⟩,fun o hr=>?_⟩;obtain hr|⟨_,h1,h2⟩:=hr
   ·exact hr
   omega
  have aJ:b'≠b:=by rintro rfl;exact hi (hm.oinj _ _ _ Ih ho)
  refine⟨Ih,fun arr e he=>⟨arr,by rw[Qw b vs p w b' aJ];exact he,zzab _⟩,fun o hr=>?_⟩;obtain hr|⟨h1,_,_⟩:=hr
  ·exact hr
  exact absurd h1 aJ
 sp b' cK:=⟨cK,Qw b vs p w b' (by rintro rfl;exact(hm.sp b' cK).2.2.2.2 id ho)⟩
 ss:=Sz.setCells b p vs w
def au.extend(hm:au N w0 aq γ w B L){id b p q n:Nat}{vs:List Value}(ho:γ.own id=some b)(hn:γ.cur id<=n)(hq:γ.cur id=n->q<=p)(hpq:q=p+vs.length)(oh:∀o,p<=o->¬γ.ro b o):
  au N w0 aq (γ.extend id b p q n) (w.setCells b p vs) B (fun i=>if i=id then some n else L i) where
 bs:=w0.st _ _ _ _ hm.bs ⟨(Xt b (zzab b) vs p w).os,(Xt b (zzab b) vs p w).tape,(Xt b (zzab b) vs p w).output,by rw[aD];exact zzab _,
  fun b' _ BT=>Qw b vs p w b' (by rintro rfl;exact BT (.inr (.inl ⟨id,ho⟩))),(hm.j7 ho hn hq hpq oh).ro,fun b hb=>.inl hb,fun b' o' hr=>hr.imp_right fun h=>.inl (by rw[h.1];exact .inr (.inl ⟨id,ho⟩))⟩
 hN:=by rw[aD];exact hm.hN
 aq b' o' hr:=by
  obtain hr|⟨rfl,_,_⟩:=hr
  ·exact hm.aq b' o' hr
  exact .inr (hm.own id b' ho).1
 robd b' o' hr:=by
  rw[aD];obtain hr|⟨rfl,_,_⟩:=hr
  ·exact hm.robd b' o' hr
  exact(hm.own id b' ho).2.1
 box i cs b' dz h1:=by
  obtain⟨bR,e',h2,h3,h4⟩:=hm.box i cs b' dz h1;have aJ:b'≠b:=by rintro rfl;exact(hm.β i b' h1).2.2.2.1 id ho
  exact⟨bR,e',by rw[Qw b vs p w b' aJ];exact h2,h3.mono (hm.j7 ho hn hq hpq oh),h4⟩
 β i b' dz:=by
  obtain⟨h1,h2,h3,h4,hc⟩:=hm.β i b' dz;refine⟨h1,by rw[aD];exact h2,fun o hr=>?_,h4,hc⟩;obtain hr|⟨rfl,_,_⟩:=hr
  ·exact h3 o hr
  exact h4 id ho
 inj:=hm.inj
 own i b' dz:=by
  obtain⟨h1,h2,m,fG⟩:=hm.own i b' dz;refine⟨h1,by rw[aD];exact h2,?_⟩;by_cases hi:i=id
  ·exact⟨n,by simp[hi]⟩
  exact⟨m,by simp[hi,fG]⟩
 oinj:=hm.oinj
 sp b' cK:=by
  obtain⟨h1,h2,h3,h4,h5⟩:=hm.sp b' cK;refine⟨h1,by rw[aD];exact h2,fun o hr=>?_,h4,h5⟩;obtain hr|⟨rfl,_,_⟩:=hr
  ·exact h3 o hr
  exact h5 id ho
 mm i' b' cK:=by
  obtain⟨h1,h2,h3,h4,h5,h6,h8,h7⟩:=hm.mm i' b' cK;have aJ:b'≠b:=by rintro rfl;exact h5 id ho
  refine⟨h1,by rw[aD];exact h2,fun o hr=>?_,h4,h5,h6,h8,h7.mono (hm.j7 ho hn hq hpq oh).dB.DL (Qw b vs p w b' aJ)⟩;obtain hr|⟨rfl,_,_⟩:=hr
  ·exact h3 o hr
  exact aJ rfl
 minj:=hm.minj
 len i m hi:=by
  by_cases h:i=id
  ·simp[h]at hi;simp[G.extend,h,hi]
  simp[h]at hi;simp[G.extend,h,hm.len i m hi]
 cur0 i hi:=by
  by_cases h:i=id
  ·simp[h]at hi
  simp[h]at hi;simp[G.extend,h,hm.cur0 i hi]
def G.renew(γ:G)(id b q n:Nat):G:={γ with own:=fun i=>if i=id then some b else γ.own i,cur:=fun i=>if i=id then n else γ.cur i,ro:=fun b' o=>γ.ro b' o\/(b'=b/\o<q)}
def au.fH(hm:au N w0 aq γ w B L){id q n:Nat}(hn:γ.cur id<=n)(aJ:γ.cur id=n->γ.own id=none)(o:Obj):Ev w γ (w.alloc o) (γ.renew id w.heap.size q n) where
 size:=by simp
 ro b' o' hb hr:=⟨.inl hr,cell_of_heap (Below.heap_alloc w o b' hb)⟩
 β _ _ h:=h
 cur i:=by
  simp only[G.renew];split
  ·rename_i h;subst h;exact hn
  exact zzab _
 mm _ _ h:=h
 lp:=rfl
 own i b' hc Ih:=by
  by_cases hi:i=id
  ·subst hi;simp only[G.renew,if_true]at hc;rw[aJ hc.symm]at Ih;cases Ih
  have ai:=(hm.own i b' Ih).2.1;refine⟨by simp[G.renew,hi,Ih],fun arr e he=>⟨arr,by rw[Below.heap_alloc w o b' ai];exact he,zzab _⟩,fun o' hr=>?_⟩;obtain hr|⟨h1,_⟩:=hr
  ·exact hr
  omega
 sp b hb:=⟨hb,Below.heap_alloc w o b (hm.sp b hb).2.1⟩
 ss:=Sz.of_same (Below.heap_alloc w o)
def au.renew(hm:au N w0 aq γ w B L){id q n:Nat}(hn:γ.cur id<=n)(aJ:γ.cur id=n->γ.own id=none)(o:Obj):
  au N w0 aq (γ.renew id w.heap.size q n) (w.alloc o) B (fun i=>if i=id then some n else L i) where
 bs:=w0.st _ _ _ _ hm.bs ⟨rfl,rfl,rfl,by simp,fun b hb _=>Below.heap_alloc w _ b hb,(hm.fH hn aJ o).ro,fun b hb=>by
  obtain hb|⟨i,hi⟩|hb:=hb
  ·exact .inl (.inl hb)
  ·by_cases h:i=id
   ·simp[G.renew,h]at hi;exact .inr (by omega)
   simp[G.renew,h]at hi;exact .inl (.inr (.inl ⟨i,hi⟩))
  exact .inl (.inr (.inr hb)),fun b' o' hr=>hr.imp_right fun h=>.inr (by rw[h.1];exact zzab _)⟩
 hN:=by have:=hm.hN;simp;omega
 aq b' o' hr:=by
  obtain hr|⟨rfl,_⟩:=hr
  ·exact hm.aq b' o' hr
  exact .inr hm.hN
 robd b' o' hr:=by
  obtain hr|⟨rfl,_⟩:=hr
  ·have:=hm.robd b' o' hr;simp;omega
  simp
 box i cs b' dz h1:=by
  obtain⟨bR,e',h2,h3,h4⟩:=hm.box i cs b' dz h1;exact⟨bR,e',by rw[Below.heap_alloc w _ b' (aS h2)];exact h2,h3.mono (hm.fH hn aJ o),h4⟩
 β i b' dz:=by
  obtain⟨h1,h2,h3,h4,hc⟩:=hm.β i b' dz;refine⟨h1,by simp;omega,fun o' hr=>?_,fun i' hr=>?_,hc⟩
  ·obtain hr|⟨rfl,_⟩:=hr
   ·exact h3 o' hr
   omega
  by_cases hi:i'=id
  ·simp[G.renew,hi]at hr;omega
  simp[G.renew,hi]at hr;exact h4 i' hr
 inj:=hm.inj
 own i b' dz:=by
  by_cases hi:i=id
  ·simp[G.renew,hi]at dz;subst dz;exact⟨hm.hN,by simp,n,by simp[hi]⟩
  simp[G.renew,hi]at dz;obtain⟨h1,h2,m,fG⟩:=hm.own i b' dz;exact⟨h1,by simp;omega,m,by simp[hi,fG]⟩
 oinj i i' b' h h':=by
  by_cases hi:i=id<;>by_cases dV:i'=id
  ·rw[hi,dV]
  ·simp[G.renew,hi]at h;simp[G.renew,dV]at h';have:=(hm.own i' b' h').2.1;omega
  ·simp[G.renew,dV]at h';simp[G.renew,hi]at h;have:=(hm.own i b' h).2.1;omega
  simp[G.renew,hi]at h;simp[G.renew,dV]at h';exact hm.oinj i i' b' h h'
 sp b hb:=by
  obtain⟨h1,h2,h3,h4,h5⟩:=hm.sp b hb;refine⟨h1,by simp;omega,fun o' hr=>?_,h4,fun i hi=>?_⟩
  ·obtain hr|⟨rfl,_⟩:=hr
   ·exact h3 o' hr
   omega
  by_cases h:i=id
  ·simp[G.renew,h]at hi;omega
  simp[G.renew,h]at hi;exact h5 i hi
 minj:=hm.minj
 mm i' b hb:=by
  obtain⟨h1,h2,h3,h4,h5,h6,h8,h7⟩:=hm.mm i' b hb;refine⟨h1,by simp;omega,fun o' hr=>?_,h4,fun i hi=>?_,h6,h8,h7.mono (hm.fH hn aJ o).dB.DL (Below.heap_alloc w _ b h2)⟩
  ·obtain hr|⟨rfl,_⟩:=hr
   ·exact h3 o' hr
   omega
  by_cases h:i=id
  ·simp[G.renew,h]at hi;omega
  simp[G.renew,h]at hi;exact h5 i hi
 len i m hi:=by
  by_cases h:i=id
  ·simp[h]at hi;simp[G.renew,h,hi]
  simp[h]at hi;simp[G.renew,h,hm.len i m hi]
 cur0 i hi:=by
  by_cases h:i=id
  ·simp[h]at hi
  simp[h]at hi;simp[G.renew,h,hm.cur0 i hi]
def au.drew(hm:au N w0 aq γ w B L):au N w0 aq γ w.drew B L where
 bs:=w0.st _ _ _ _ hm.bs ⟨rfl,rfl,rfl,zzab _,fun _ _ _=>rfl,fun _ _ _ h=>⟨h,rfl⟩,fun _ hb=>.inl hb,fun _ _ h=>.inl h⟩
 hN:=hm.hN
 aq:=hm.aq
 robd:=hm.robd
 box i cs b hb h1:=by
  obtain⟨arr,e,h2,h3,h4⟩:=hm.box i cs b hb h1;exact⟨arr,e,h2,h3.mono ⟨zzab _,fun _ _ _ h=>⟨h,rfl⟩,fun _ _ h=>h,fun _=>zzab _,fun _ _ h=>h,rfl,fun _ _ _ h=>⟨h,fun arr _ h=>⟨arr,h,zzab _⟩,fun _ h=>h⟩,fun _ h=>⟨h,rfl⟩,Sz.refl w⟩,h4⟩
 β:=hm.β
 inj:=hm.inj
 own:=hm.own
 oinj:=hm.oinj
 sp:=hm.sp
 mm i b hb:=by
  obtain⟨h1,h2,h3,h4,h5,h6,h8,h7⟩:=hm.mm i b hb;exact⟨h1,h2,h3,h4,h5,h6,h8,h7.mono (w':=w.drew) (γ':=γ) ⟨zzab _,fun _ _ _ h=>⟨h,rfl⟩,fun _ _ h=>h,fun _=>zzab _,fun _ _ h=>h,fun _ _ h=>h,fun _ _ _ h=>⟨h,fun arr _ h=>⟨arr,h,zzab _⟩,fun _ h=>h⟩,Sz.refl w⟩ rfl⟩
 minj:=hm.minj
 len:=hm.len
 cur0:=hm.cur0
def Ev.drew(w:World)(γ:G):Ev w γ w.drew γ:=
 ⟨zzab _,fun _ _ _ h=>⟨h,rfl⟩,fun _ _ h=>h,fun _=>zzab _,fun _ _ h=>h,rfl,fun _ _ _ h=>⟨h,fun arr _ h=>⟨arr,h,zzab _⟩,fun _ h=>h⟩,fun _ h=>⟨h,rfl⟩,Sz.refl w⟩
def au.kill(hm:au N w0 aq γ w B L){id b:Nat}(hb:γ.β id=some b):au N w0 aq γ w (fun i=>if i=id then some []else B i) L where
 bs:=hm.bs
 hN:=hm.hN
 aq:=hm.aq
 robd:=hm.robd
 box i cells b' dz h1:=by
  by_cases hi:i=id
  ·subst hi;simp at dz;subst dz;obtain⟨_,_,_,_,c,hc⟩:=hm.β i b' h1;obtain⟨arr,e,h2,_,h4⟩:=hm.box i c b' hc h1;exact⟨arr,e,h2,cD.nil,h4⟩
  simp[hi]at dz;exact hm.box i cells b' dz h1
 β i b' dz:=by
  obtain⟨h1,h2,h3,h4,c,hc⟩:=hm.β i b' dz;refine⟨h1,h2,h3,h4,?_⟩;by_cases hi:i=id
  ·exact⟨[],by simp[hi]⟩
  exact⟨c,by simp[hi,hc]⟩
 inj i i' b' h h':=by
  rcases hm.inj i i' b' h h' with k|k|k
  ·refine .inl ?_;by_cases hi:i=id
   ·simp[hi]
   simp only[if_neg hi];exact k
  ·refine .inr (.inl ?_);by_cases hi:i'=id
   ·simp[hi]
   simp only[if_neg hi];exact k
  exact .inr (.inr k)
 own:=hm.own
 oinj:=hm.oinj
 sp:=hm.sp
 mm i' b' cK:=by
  obtain⟨h1,h2,h3,h4,h5,h6,h8,h7⟩:=hm.mm i' b' cK;have aJ:i'≠id:=by rintro rfl;rw[hb]at h8;cases h8
  exact⟨h1,h2,h3,h4,h5,h6,h8,by simp only[aJ,if_false];exact h7⟩
 minj:=hm.minj
 len:=hm.len
 cur0:=hm.cur0
def au.share(hm:au N w0 aq γ w B L){id b id':Nat}{cells new:List AV}(hb:γ.β id=some b)(hB:B id=some cells)(qp:cells≠[])(cE:B id'=none){arr:Array Value}{e:TypeId}
  (hh:w.heap[b]?=some (.cells arr e (0,0))){p:Nat}{vs:List Value}(hr:cD w γ new (sY arr p vs).toList)(U4:∀v∈arr.toList,v.oneCell'=true)(h1v:∀v∈vs,v.oneCell'=true):
  Ev w γ (w.setCells b p vs) (γ.box id' b)/\au N w0 aq (γ.box id' b) (w.setCells b p vs) (fun i=>if i=id' then some new else if i=id then some []else B i) L:=by
 have ap6:id'≠id:=by rintro rfl;rw[cE]at hB;cases hB
 have U5:∀i b',γ.β i=some b'->i≠id':=fun i b' h=>by
  rintro rfl;obtain⟨_,_,_,_,c,hc⟩:=hm.β i b' h;rw[cE]at hc;cases hc
 have bU:=hm.ct hb p vs
 have cr:Ev w γ (w.setCells b p vs) (γ.box id' b):=
  ⟨bU.size,bU.ro,fun i b' h=>by simp[G.box,U5 i b' h,h],bU.cur,bU.mm,bU.lp,bU.own,bU.sp,bU.ss⟩
 refine⟨cr,?_⟩
 exact{
  bs:=w0.st _ _ _ _ hm.bs ⟨(Xt b (zzab b) vs p w).os,(Xt b (zzab b) vs p w).tape,(Xt b (zzab b) vs p w).output,by rw[aD];exact zzab _,
   fun b' _ BT=>Qw b vs p w b' (by rintro rfl;exact BT (.inl ⟨id,hb⟩)),cr.ro,fun b' cK=>by
    obtain⟨i,hi⟩|cK|cK:=cK
    ·by_cases h:i=id'
     ·simp[G.box,h]at hi;subst hi;exact .inl (.inl ⟨id,hb⟩)
     simp[G.box,h]at hi;exact .inl (.inl ⟨i,hi⟩)
    ·exact .inl (.inr (.inl cK))
    exact .inl (.inr (.inr cK)),fun _ _ h=>.inl h⟩
  hN:=by rw[aD];exact hm.hN
  aq:=hm.aq
  robd:=fun b' o' h=>by rw[aD];exact hm.robd b' o' h
  box:=fun i cs b' dz h1=>by
   by_cases hi:i=id'
   ·subst hi;simp at dz;subst dz;simp[G.box]at h1;subst h1;exact⟨_,e,Qz b vs p w arr e _ hh,hr.mono cr,Wq vs p arr U4 h1v⟩
   simp[G.box,hi]at h1;simp only[if_neg hi]at dz;by_cases Pu:i=id
   ·subst Pu;simp at dz;subst dz;obtain rfl:b'=b:=Option.some.inj (h1.symm.trans hb);exact⟨_,e,Qz b' vs p w arr e _ hh,cD.nil,Wq vs p arr U4 h1v⟩
   simp only[if_neg Pu]at dz;obtain⟨bR,e',h2,h3,h4⟩:=hm.box i cs b' dz h1;by_cases aJ:b'=b
   ·subst aJ;rcases hm.inj _ _ _ h1 hb with h|h|h
    ·rw[h]at dz;cases dz;exact⟨_,e,Qz b' vs p w arr e _ hh,cD.nil,Wq vs p arr U4 h1v⟩
    ·rw[h]at hB;cases hB;exact absurd rfl qp
    exact absurd h Pu
   exact⟨bR,e',by rw[Qw b vs p w b' aJ];exact h2,h3.mono cr,h4⟩
  β:=fun i b' dz=>by
   by_cases hi:i=id'
   ·subst hi;simp[G.box]at dz;subst dz;obtain⟨h1,h2,h3,h4,_⟩:=hm.β id b hb;exact⟨h1,by rw[aD];exact h2,h3,h4,new,by simp⟩
   simp[G.box,hi]at dz;obtain⟨h1,h2,h3,h4,c,hc⟩:=hm.β i b' dz;refine⟨h1,by rw[aD];exact h2,h3,h4,?_⟩;by_cases Pu:i=id
   ·exact⟨[],by simp[hi,Pu,Ne.symm ap6]⟩
   exact⟨c,by simp[hi,Pu,hc]⟩
  inj:=fun i i' b' h h'=>by
   have key:∀j,j≠id'->γ.β j=some b->(if j=id' then some new else if j=id then some []else B j)=some []:=fun j hj hβ=>by
    rw[if_neg hj];by_cases z6:j=id
    ·rw[if_pos z6]
    rw[if_neg z6];rcases hm.inj _ _ _ hβ hb with h|h|h
    ·exact h
    ·rw[h]at hB;cases hB;exact absurd rfl qp
    exact absurd h z6
   by_cases hi:i=id'<;>by_cases dV:i'=id'
   ·exact .inr (.inr (by rw[hi,dV]))
   ·simp[G.box,hi]at h;simp[G.box,dV]at h';subst h;exact .inr (.inl (key i' dV h'))
   ·simp[G.box,hi]at h;simp[G.box,dV]at h';subst h';exact .inl (key i hi h)
   simp[G.box,hi]at h;simp[G.box,dV]at h';simp only[if_neg hi,if_neg dV];rcases hm.inj i i' b' h h' with k|k|k
   ·refine .inl ?_;by_cases Pu:i=id
    ·rw[if_pos Pu]
    rw[if_neg Pu];exact k
   ·refine .inr (.inl ?_);by_cases Pu:i'=id
    ·rw[if_pos Pu]
    rw[if_neg Pu];exact k
   exact .inr (.inr k)
  own:=fun i b' dz=>by
   obtain⟨h1,h2,h3⟩:=hm.own i b' dz;exact⟨h1,by rw[aD];exact h2,h3⟩
  oinj:=hm.oinj
  sp:=fun b' cK=>by
   obtain⟨h1,h2,h3,h4,h5⟩:=hm.sp b' cK;refine⟨h1,by rw[aD];exact h2,h3,fun i hi=>?_,h5⟩;by_cases aO:i=id'
   ·simp[G.box,aO]at hi;subst hi;exact h4 id hb
   simp[G.box,aO]at hi;exact h4 i hi
  mm:=fun i' b' cK=>by
   obtain⟨h1,h2,h3,h4,h5,h6,h8,h7⟩:=hm.mm i' b' cK;have aJ:i'≠id:=by rintro rfl;rw[hb]at h8;cases h8
   have ei:i'≠id':=by
    rintro rfl;obtain⟨_,_,hx,_⟩:=h7;rw[cE]at hx;cases hx
   refine⟨h1,by rw[aD];exact h2,h3,fun i hi=>?_,h5,h6,by simp[G.box,ei,h8],?_⟩
   ·by_cases aO:i=id'
    ·simp[G.box,aO]at hi;subst hi;exact h4 id hb
    simp[G.box,aO]at hi;exact h4 i hi
   simp only[aJ,ei,if_false];exact h7.mono cr.dB.DL (Qw b vs p w b' (by rintro rfl;exact h4 id hb))
  minj:=hm.minj
  len:=hm.len
  cur0:=hm.cur0}
open Go Go.RowKit
inductive bN where
 |tmp (t:Nat)
 |const (a:AV)
 |func (f:FuncId)
 |glob (g:Nat)
def vg:Value->AV
 |.bool b=>.bool b
 |.int k n=>.int k n
 |.string s=>.str s
 |.slice none 0 0=>.sl .nil []
 |.nilFunc=>.nilfn
 |.pointer none=>.nilv true
 |.map none=>.nilv false
 |_=>.junk
def z7:Value->AV
 |.agg cs=>.agg (cs.toList.map vg)
 |v=>vg v
def BU{w:World}{γ:G}:aB w γ (.sl .nil []) (.slice none 0 0):=
 .sl (rows:=[]) 0 0 0 (fun _ _=>undef) (zzab _) (fun _=>rfl) (fun h=>absurd rfl h) (fun _ h=>by cases h) (fun i j c h=>by simp[Qt]at h) (fun i j c h=>by simp[Qt]at h) rfl
def mO(w:World)(γ:G)(v:Value):aB w γ (vg v) v:=by
 unfold vg;split
 ·exact .bool _
 ·exact .int _ _
 ·exact .str _
 ·exact BU
 ·exact .nilfn
 ·exact .nilv true
 ·exact .nilv false
 exact .junk _
def Js(w:World)(γ:G)(v:Value):aB w γ (z7 v) v:=by
 unfold z7;split
 ·refine .agg (by simp) fun i c u h1 h2=>?_;simp at h1;obtain⟨u',h3,h4⟩:=h1;rw[h2]at h3;cases h3;subst h4;exact mO w γ u
 exact mO w γ _
def aA:Operand->bN
 |.tmp t=>.tmp t
 |.const v=>.const (z7 v)
 |.func f=>.func f
 |.global g=>.glob g
def ev(gl:Nat->AV)(T:List AV):bN->AV
 |.tmp t=>T.getD t .junk
 |.const a=>a
 |.func f=>.fn f [] []
 |.glob g=>gl g
inductive aF where
 |mv (x:bN)
 |pick (c a b:bN)
 |alloc (zs:List AV)
 |box (x:bN)
 |build (zs:List AV) (parts:List (Nat×Nat×bN))
 |bsl (sz len:Nat) (parts:List (Nat×bN))
 |load (agg:Bool) (n:Nat) (x:bN)
 |store (n:Nat) (x v:bN)
 |faddr (off:Nat) (x:bN)
 |fld (agg:Bool) (off n:Nat) (x:bN)
 |iaddr (sz:Nat) (x i:bN)
 |iaddrA (len sz:Nat) (x i:bN)
 |ak5 (x i:bN)
 |idxA (agg:Bool) (n sz:Nat) (x i:bN)
 |bin (op:BinOp) (x y:bN)
 |binB (op:BinOp) (x y:bN)
 |un (op:UnOp) (x:bN)
 |conv(k:IntKind) (x:bN)
 |len (x:bN)
 |lenS (x:bN)
 |mn (x y:bN)
 |mx (x y:bN)
 |mm3 (big:Bool) (x y z:bN)
 |mkfn (f:FuncId) (first cap:List bN)
 |ext (x:bN) (i:Nat)
 |call (f:bN) (args:List bN)
 |app (sz bytes:Nat) (s x:bN)
 |slS (x:bN) (lo hi:Option bN)
 |nilc (x:bN)
 |nilS (neg:Bool) (x:bN)
 |nilP (neg:Bool) (x:bN)
 |b2s (x:bN)
 |look (kn:Nat) (ok:Bool) (z:AV) (x k:bN)
 |mupd (kn:Nat) (x k v:bN)
 |mkmap (kn:Nat)
 |ment (kn:Nat) (z:AV) (x k:bN)
 |esto (x s v:bN)
 |rng (x:bN)
 |nxt (x:bN)
 |entr (x:bN)
 |mks0 (sz bytes:Nat) (c:bN)
 |slL (sz:Nat) (x:bN) (lo hi:Option bN)
 |slA (n sz:Nat) (x:bN) (lo hi:Option bN)
 |eqA (neg:Bool) (ks:List Nat) (x y:bN)
 |mks (sz bytes:Nat) (zs:List AV) (l c:bN)
 |cpy (sz:Nat) (x y:bN)
 |clr (zs:List AV) (x:bN)
 |bad
def zc(P:Program)(t:TypeId):Option (List AV):=do
 let i <- P.info? t
 let z <- i.zero
 pure (z.cells.toList.map vg)
def Ui(P:Program)(t:TypeId):Bool:=
 match P.underlying t with
 |some (.struct _)|some (.array _ _)=>true
 |_=>false
def We(P:Program)(t:TypeId)(parts:Array (Nat×Operand)):aF:=
 match P.underlying t,zc P t with
 |some (.struct fields),some zs=>
  match parts.toList.mapM (fun p:Nat×Operand=>(fields[p.1]?).bind fun f=>(P.info? f.type).map fun i=>(f.offset,i.size,aA p.2))with
  |some ps=>if fields.toList.all (fun f=>(P.info? f.type).isSome)then .build zs ps else .bad
  |none=>.bad
 |_,_=>.bad
def Ey(P:Program)(t:TypeId):Option Nat:=
 match P.underlying t with
 |some .bool=>some 0
 |some (.int _)=>some 1
 |some .string=>some 2
 |_=>none
def SK(P:Program):List Field->Nat->Option (List Nat)
 |[],_=>some []
 |f::r,i=>(match(f.offset==i)&&(f.name != "_"),Ey P f.type,SK P r (i+1)with
  |true,some k,some ks=>some (k::ks)
  |_,_,_=>none)
def yS(P:Program)(t:TypeId)(fs:List Field)(op:BinOp)(x y:Operand):aF:=
 match SK P fs 0,(P.stoodInHeld t||P.eqGuardType P.depth t),op with
 |some ks,false,.eql=>.eqA false ks (aA x) (aA y)
 |some ks,false,.neq=>.eqA true ks (aA x) (aA y)
 |_,_,_=>.bad
def Zr(P:Program)(c:Call):aF:=
 match c.callee with
 |.value f=>.call (aA f) (c.args.toList.map aA)
 |.builtin .len=>
  match c.args.toList,c.argTypes.toList with
  |[x],[t]=>(match P.underlying t with|some .string=>.lenS (aA x)|some (.slice _)=>.len (aA x)|_=>.bad)
  |_,_=>.bad
 |.builtin .min=>(match c.args.toList with|[x,y]=>.mn (aA x) (aA y)|[x,y,z]=>.mm3 false (aA x) (aA y) (aA z)|_=>.bad)
 |.builtin .max=>(match c.args.toList with|[x,y]=>.mx (aA x) (aA y)|[x,y,z]=>.mm3 true (aA x) (aA y) (aA z)|_=>.bad)
 |.builtin .append=>
  match c.args.toList,c.argTypes.toList with
  |[s,x],[t,t']=>
   (match P.underlying t,P.underlying t' with
   |some (.slice e),some (.slice e')=>
    (match P.info? e with
    |some i=>if t==t'&&((i.zero.map fun z=>(z.cells.size,z.cells.toList.all (·.oneCell')))==some (i.size,true))&&(i.size !=0)&&(i.bytes !=0)then .app i.size i.bytes (aA s) (aA x)else .bad
    |none=>.bad)
   |_,_=>.bad)
  |_,_=>.bad
 |.builtin .copy=>
  match c.args.toList,c.argTypes.toList with
  |[x,y],t::_=>(match P.underlying t with
   |some (.slice e)=>(match P.info? e with|some i=>.cpy i.size (aA x) (aA y)|none=>.bad)
   |_=>.bad)
  |_,_=>.bad
 |.builtin .clear=>
  match c.args.toList,c.argTypes.toList with
  |[x],[t]=>(match P.underlying t with
   |some (.slice e)=>(match zc P e with|some zs=>.clr zs (aA x)|none=>.bad)
   |_=>.bad)
  |_,_=>.bad
 |_=>.bad
def lV(op:BinOp)(x y:Operand):aF:=
 match op,y with
 |.eql,.const (.slice none 0 0)=>.nilS false (aA x)
 |.neq,.const (.slice none 0 0)=>.nilS true (aA x)
 |_,_=>.bad
def Qca(op:BinOp)(x y:Operand):aF:=
 match op,y with
 |.eql,.const (.pointer none)=>.nilP false (aA x)
 |.neq,.const (.pointer none)=>.nilP true (aA x)
 |_,_=>.bad
def Ez(P:Program)(t:TypeId):Option (Nat×AV):=
 match P.underlying t with
 |some (.map k v)=>(match P.underlying k,P.info? v with
  |some (.int .i64),some i=>i.zero.map fun z=>(0,z7 z)
  |some (.struct fs),some i=>(match SK P fs.toList 0 with
   |some ks=>if ks.all (·==1)&&(fs.size !=0)&&!(P.stoodInHeld k)then i.zero.map fun z=>(fs.size,z7 z)else none
   |none=>none)
  |_,_=>none)
 |_=>none
def tr(P:Program)(o:Oper):aF:=
 match o.op with
 |.move x|.assign x=>.mv (aA x)
 |.pick c a b=>.pick (aA c) (aA a) (aA b)
 |.alloc t=>(match zc P t with|some zs=>.alloc zs|none=>.bad)
 |.box _ x=>.box (aA x)
 |.build t parts=>We P t parts
 |.buildSlice t len parts=>
  (match P.underlying t with
  |some (.slice e)=>
   (match P.info? e with
   |some i=>if((i.zero.map fun z=>z.cells.size)==some i.size)&&(i.size !=0)&&decide (len*i.size<=16777216)then .bsl i.size len (parts.toList.map fun p=>(p.1,aA p.2))else .bad
   |none=>.bad)
  |_=>.bad)
 |.load t a=>(match P.info? t,P.underlying t with|some i,some _=>if Ui P t then .load true i.size (aA a)else .load false 1 (aA a)|_,_=>.bad)
 |.store t a v=>(match P.info? t with|some i=>.store i.size (aA a) (aA v)|none=>.bad)
 |.fieldAddr s x f=>
  (match P.underlying s with
  |some (.struct fields)=>
   (match fields[f]? with
   |some fl=>(match P.info? fl.type with|some i=>if i.size==0 then .bad else .faddr fl.offset (aA x)|none=>.bad)
   |none=>.bad)
  |_=>.bad)
 |.field t x f=>
  (match P.underlying t with
  |some (.struct fields)=>
   (match fields[f]? with
   |some fl=>(match P.info? fl.type,P.underlying fl.type with|some i,some _=>if Ui P fl.type then .fld true fl.offset i.size (aA x)else .fld false fl.offset 1 (aA x)|_,_=>.bad)
   |none=>.bad)
  |_=>.bad)
 |.indexAddr t x i=>
  (match P.underlying t with
  |some (.slice e)=>(match P.info? e with|some j=>.iaddr j.size (aA x) (aA i)|none=>.bad)
  |some (.array n e)=>(match P.info? e with|some j=>.iaddrA n j.size (aA x) (aA i)|none=>.bad)
  |_=>.bad)
 |.index t x i=>(match P.underlying t with
  |some .string=>.ak5 (aA x) (aA i)
  |some (.array n e)=>(match P.info? e,P.underlying e with|some j,some _=>if Ui P e then .idxA true n j.size (aA x) (aA i)else(if j.size==1 then .idxA false n 1 (aA x) (aA i)else .bad)|_,_=>.bad)
  |_=>.bad)
 |.binOp op t x y _=>
  (match P.underlying t with
  |some .bool=>.binB op (aA x) (aA y)
  |some (.int _)=>.bin op (aA x) (aA y)
  |some .string=>.bin op (aA x) (aA y)
  |some (.slice _)=>lV op x y
  |some (.pointer _)=>Qca op x y
  |some (.struct fs)=>yS P t fs.toList op x y
  |_=>.bad)
 |.unOp op _ x=>.un op (aA x)
 |.convert s d x=>
  (match P.underlying s,P.underlying d with
  |some (.int _),some (.int k)=>.conv k (aA x)
  |some (.slice e),some .string=>(match P.underlying e with|some (.int .u8)=>.b2s (aA x)|_=>.bad)
  |_,_=>.bad)
 |.makeFunc (.func f) first cap=>.mkfn f (first.toList.map aA) (cap.toList.map aA)
 |.extract x i=>.ext (aA x) i
 |.nilCheck x=>.nilc (aA x)
 |.slice t x lo hi none=>(match P.underlying t with
  |some .string=>.slS (aA x) (lo.map aA) (hi.map aA)
  |some (.slice e)=>(match P.info? e with|some i=>.slL i.size (aA x) (lo.map aA) (hi.map aA)|none=>.bad)
  |some (.array n e)=>(match P.info? e with|some i=>.slA n i.size (aA x) (lo.map aA) (hi.map aA)|none=>.bad)
  |_=>.bad)
 |.lookup t x k ok=>(match Ez P t with|some (kn,z)=>.look kn ok z (aA x) (aA k)|none=>.bad)
 |.mapUpdate t x k v=>(match Ez P t with|some (kn,_)=>.mupd kn (aA x) (aA k) (aA v)|none=>.bad)
 |.makeMap t none=>(match Ez P t with|some (kn,_)=>.mkmap kn|none=>.bad)
 |.mapEntry t x k=>(match Ez P t with|some (kn,z)=>.ment kn z (aA x) (aA k)|none=>.bad)
 |.entryStore _ x s v=>.esto (aA x) (aA s) (aA v)
 |.range t x=>(match Ez P t with|some _=>.rng (aA x)|none=>.bad)
 |.next x false=>.nxt (aA x)
 |.entry x=>.entr (aA x)
 |.makeSlice t l c=>
  (match P.underlying t with
  |some (.slice e)=>(match P.info? e,l with
   |some i,.const (.int .i64 0)=>(if((i.zero.map fun z=>(z.cells.size,z.cells.toList.all (·.oneCell')))==some (i.size,true))&&(i.size !=0)then .mks0 i.size i.bytes (aA c)else .bad)
   |some i,l=>(match zc P e with|some zs=>.mks i.size i.bytes zs (aA l) (aA c)|none=>.bad)
   |_,_=>.bad)
  |_=>.bad)
 |.call c=>Zr P c
 |_=>.bad
def Qv:AV->Bool
 |.bool _|.int _ _|.str _|.sl _ _|.ep _ _|.ptr _ _|.fn _ _ _|.nilfn|.yld _|.mp _|.it _|.nilv _|.bs _ _ _ _=>true
 |_=>false
def bare:AV->Bool
 |.junk|.gd _ _|.aV _|.aK _ _|.mitr _ _ _=>false
 |_=>true
def cellsOf:AV->List AV
 |.agg cs=>cs
 |a=>[a]
def aU(sz:Nat):Nat->List AV->List (List AV)
 |0,_=>[]
 |n+1,l=>l.take sz::aU sz n (l.drop sz)
def Wz(sz:Nat):∀(n:Nat)(l:List AV),aU sz n l=(List.range n).map fun i=>(l.drop (i*sz)).take sz
 |0,_=>rfl
 |n+1,l=>by
  rw[aU,Wz sz n,zzgz,zzaw,zzcs];simp only[zzhk,zzde,List.cons.injEq,true_and];refine zzdf fun i _=>?_;simp only[Function.comp,zzdo,zzhl];rw[zzfa]
def bF(m:AM):Nat->AV->AV
 |0,_=>.junk
 |d+1,a=>match a with
  |.agg cs=>.agg (cs.map (bF m d))
  |.aV cs=>.aV (cs.map (bF m d))
  |.fn f first cap=>.fn f (first.map (bF m d)) (cap.map (bF m d))
  |.sl (.own _ _) rows=>.sl .ro rows
  |.ptr id o=>.ep ((m.boxes.getD id []).map (bF m d)) o
  |.gd _ _=>.junk
  |.yld _=>.junk
  |.mp _=>.junk
  |.it _=>.junk
  |.aK _ _=>.junk
  |.mitr _ _ _=>.junk
  |.bs id off len sz=>bif Nat.ble (off+len*sz) (m.boxes.getD id []).length then .sl .ro (aU sz len (((m.boxes.getD id []).map (bF m d)).drop off))else .junk
  |a=>a
def Yc:Nat->AV->Bool
 |0,_=>true
 |d+1,a=>match a with
  |.agg cs=>cs.any (Yc d)
  |.aV cs=>cs.any (Yc d)
  |.fn _ first cap=>first.any (Yc d)||cap.any (Yc d)
  |.ptr _ _=>true
  |.bs _ _ _ _=>true
  |_=>false
def iN:AV->Bool
 |.bool _|.int _ _|.str _=>true
 |_=>false
def flat:AV->Bool
 |.aV cs=>cs.all iN
 |a=>iN a
def bC(P:Program)(f:FuncId):Prop:=∃fn,P.funcs[f]?=some fn/\fn.body.isNone=false/\(fn.name== "runtime.NumGoroutine")=false
def Pure(P:Program)(gl:Nat->AV)(f:FuncId)(as:List AV)(r:AV):Prop:=
 bC P f/\∀(ro:Nat->Nat->Prop)(w:World)(vs:List Value),(∀g,aB w (G0 ro) (gl g) (.pointer (some ⟨g,0,none⟩)))->ak w (G0 ro) as vs->
  Calls P f vs.toArray w fun e w'=>∃v,e=.returned v/\Below w.heap.size w w'/\aB w' (G0 fun b o=>ro b o\/w.heap.size<=b) r v
def ap7(P:Program)(gl:Nat->AV)(f:FuncId)(as:List AV)(m:AM)(r:AV):Prop:=
 bC P f/\∀(N:Nat)(w0:gY)(aq:Nat->Nat->Prop)(γ:G)(w:World)(B:Nat->Option (List AV))(L:Nat->Option Nat)(vs:List Value),au N w0 aq γ w B L->
  (∀id cells,m.boxes[id]?=some cells->B id=some cells)->(∀g,aB w γ.cT (gl g) (.pointer (some ⟨g,0,none⟩)))->ak w γ as vs->
  Calls P f vs.toArray w fun e w'=>∃v γ',e=.returned v/\Ev w γ w' γ'/\au N w0 aq γ' w' B L/\aB w' γ' r v
def callV(P:Program)(gl:Nat->AV)(f:FuncId)(as:List AV)(m:AM):AV->Prop×AV
 |.gd _ r=>(ap7 P gl f as m r,r)
 |r=>(Pure P gl f (as.map (bF m 6)) r/\(as.any (Yc 6)=true->flat r=true),r)
def binI(op:BinOp)(k:IntKind)(a b:Int):Prop×AV:=
 match op with
 |.add=>(True,.int k (k.wrap (a+b)))
 |.sub=>(True,.int k (k.wrap (a-b)))
 |.mul=>(True,.int k (k.wrap (a*b)))
 |.quo=>(b≠0,.int k (k.wrap (a.tdiv b)))
 |.rem=>(b≠0,.int k (a.tmod b))
 |.eql=>(True,.bool (a==b))
 |.neq=>(True,.bool (a !=b))
 |.lss=>(True,.bool (decide (a<b)))
 |.leq=>(True,.bool (decide (a<=b)))
 |.gtr=>(True,.bool (decide (b<a)))
 |.geq=>(True,.bool (decide (b<=a)))
 |.and=>(True,.int k (k.wrap (BitVec.ofInt k.bits a&&& BitVec.ofInt k.bits b).toNat))
 |.or=>(True,.int k (k.wrap (BitVec.ofInt k.bits a|||BitVec.ofInt k.bits b).toNat))
 |.xor=>(True,.int k (k.wrap (BitVec.ofInt k.bits a ^^^ BitVec.ofInt k.bits b).toNat))
 |.andNot=>(True,.int k (k.wrap (BitVec.ofInt k.bits a&&& ~~~ BitVec.ofInt k.bits b).toNat))
 |_=>(False,.junk)
def binS(op:BinOp)(a b:ByteArray):Prop×AV:=
 match op with
 |.add=>(a.size+b.size<=9223372036854775807,.str (a++b))
 |.eql=>(True,.bool (a.toList==b.toList))
 |.neq=>(True,.bool (!(a.toList==b.toList)))
 |_=>(False,.junk)
def binV(op:BinOp)(x y:AV):Prop×AV:=
 match op with
 |.shl=>(match x,y with|.int k a,.int _ b=>(0<=b,.int k (k.wrap (a*2 ^ (min b.toNat k.bits))))|_,_=>(False,.junk))
 |.shr=>(match x,y with|.int k a,.int _ b=>(0<=b,.int k (a.fdiv (2 ^ (min b.toNat k.bits))))|_,_=>(False,.junk))
 |op=>match x,y with
  |.int k a,.int k' b=>(k=k'/\(binI op k a b).1,(binI op k a b).2)
  |.str a,.str b=>binS op a b
  |_,_=>(False,.junk)
def binBool(op:BinOp)(x y:AV):Prop×AV:=
 match op,x,y with
 |.eql,.bool a,.bool b=>(True,.bool (a==b))
 |.neq,.bool a,.bool b=>(True,.bool (!(a==b)))
 |_,_,_=>(False,.junk)
def isB:AV->Bool
 |.bool _=>true
 |_=>false
def bOf:AV->Bool
 |.bool b=>b
 |_=>false
def asB:AV->Option (Bool×Bool)
 |.bool b=>some (true,b)
 |.gd g a=>some (bif g then isB a else false,bOf a)
 |_=>none
def fillA(cs:List AV):List (Nat×Nat×AV)->Prop×List AV
 |[]=>(True,cs)
 |(off,size,a)::r=>let q:=fillA (setA cs off (cellsOf a)) r;(bare a=true/\(cellsOf a).length=size/\off+size<=cs.length/\q.1,q.2)
def Vx(agg:Bool)(n:Nat)(cs:List AV):Prop×AV:=((cs.take n).length=n/\(agg=false->n=1),if agg then .agg (cs.take n)else cs.getD 0 .junk)
def intsA:List AV->Option (List Int)
 |[]=>some []
 |.int .i64 n::r=>(match intsA r with|some ns=>some (n::ns)|none=>none)
 |_=>none
def keyA:Nat->AV->Option (List Int)
 |0,.int .i64 n=>some [n]
 |kn+1,.agg cs=>(match intsA cs with|some ns=>if ns.length=kn+1 then some ns else none|none=>none)
 |_,_=>none
def keyAV:Nat->List Int->AV
 |0,[n]=>.int .i64 n
 |0,_=>.junk
 |_+1,ns=>.agg (ns.map (AV.int .i64))
def Xi(n:List Int):List (List Int×AV)->Nat->Option (Nat×AV)
 |[],_=>none
 |(k,a)::r,i=>if n=k then some (i,a)else Xi n r (i+1)
def byteOf:List AV->Option UInt8
 |[.int .u8 n]=>some (UInt8.ofNat n.toNat)
 |_=>none
def Kz:List (List AV)->Option (List UInt8)
 |[]=>some []
 |r::rs=>(match byteOf r,Kz rs with|some b,some l=>some (b::l)|_,_=>none)
def kindF:Nat->AV->AV->Bool
 |0,.bool _,.bool _=>true
 |1,.int k _,.int k' _=>decide (k=k')
 |2,.str _,.str _=>true
 |_,_,_=>false
def eqF:AV->AV->Bool
 |.bool a,.bool b=>a==b
 |.int _ a,.int _ b=>a==b
 |.str a,.str b=>a.toList==b.toList
 |_,_=>false
def Qce:List Nat->List AV->List AV->Bool
 |[],[],[]=>true
 |k::ks,a::as,b::bs=>kindF k a b&&Qce ks as bs
 |_,_,_=>false
def eqFs:List AV->List AV->Bool
 |a::as,b::bs=>eqF a b&&eqFs as bs
 |_,_=>true
def loOf:Option AV->Option Int
 |none=>some 0
 |some (.int _ l)=>some l
 |_=>none
def hiOf(n:Nat):Option AV->Option Int
 |none=>some n
 |some (.int _ h)=>some h
 |_=>none
def bG:Nat->List AV->List AV
 |0,_=>[]
 |n+1,zs=>zs++bG n zs
def cellsS(m:AM)(sz:Nat):AV->Prop×List AV
 |.sl _ rows=>((∀row∈rows,row.length=sz),rows.flatten)
 |.bs id off len fV=>(fV=sz/\off+len*sz<=(m.boxes.getD id []).length/\id<m.boxes.length,((m.boxes.getD id []).drop off).take (len*sz))
 |_=>(False,[])
def lenS:AV->Nat
 |.sl _ rows=>rows.length
 |.bs _ _ len _=>len
 |_=>0
def mutO(orc:Nat->FuncId->List AV->AV)(dst:Option Nat):Bool:=match orc (dst.getD 0) 999999 []with
 |.aK _ []=>true
 |_=>false
def U6:Rt->Bool
 |.full|.nil=>true
 |_=>false
def U7(big:Bool)(a b:Int):Int:=if big=true then(if a<b then b else a)else(if b<a then b else a)
def rop(P:Program)(gl:Nat->AV)(orc:Nat->FuncId->List AV->AV)(e:bN->AV)(m:AM)(dst:Option Nat):aF->Prop×AV
 |.mv x=>(True,e x)
 |.pick c a b=>(match asB (e c),asB (e a),asB (e b)with
  |some (g0,c),some (g1,x),some (g2,y)=>(g0=true/\(c=true->g1=true)/\(c=false->g2=true),.bool (bif c then x else y))
  |_,_,_=>(False,.junk))
 |.build zs parts=>let q:=fillA zs (parts.map fun p=>(p.1,p.2.1,e p.2.2));(q.1,.agg q.2)
 |.bsl sz len parts=>let q:=fillA (List.replicate (len*sz) .junk) (parts.map fun p=>(p.1*sz,sz,e p.2));
  (q.1/\q.2.all Qv=true/\q.2.any (Yc 6)=false,.sl .full (aU sz len (q.2.map (bF m 6))))
 |.load agg n x=>(match e x with
  |.ptr id o=>Vx agg n ((m.boxes.getD id []).drop o)
  |.ep row o=>Vx agg n (row.drop o)
  |_=>(False,.junk))
 |.faddr off x=>(match e x with
  |.ptr id o=>(True,.ptr id (o+off))
  |.ep row o=>(True,.ep row (o+off))
  |_=>(False,.junk))
 |.fld agg off n x=>(match e x with
  |.agg cs=>Vx agg n (cs.drop off)
  |_=>(False,.junk))
 |.iaddr sz x i=>(match e x,e i with
  |.sl _ rows,.int _ i=>((0<=i/\i<rows.length)/\(rows.getD i.toNat []).length=sz,.ep (rows.getD i.toNat []) 0)
  |.bs id off len fV,.int _ i=>((0<=i/\i<len)/\fV=sz,.ptr id (off+i.toNat*sz))
  |_,_=>(False,.junk))
 |.iaddrA len sz x i=>(match e x,e i with
  |.ptr id o,.int _ i=>(0<=i/\i<len,.ptr id (o+i.toNat*sz))
  |.ep row o,.int _ i=>(0<=i/\i<len,.ep row (o+i.toNat*sz))
  |_,_=>(False,.junk))
 |.ak5 x i=>(match e x,e i with
  |.str s,.int _ i=>(0<=i/\i<s.size,.int .u8 (s.data.toList.getD i.toNat 0).toNat)
  |_,_=>(False,.junk))
 |.idxA agg n sz x i=>(match e x,e i with
  |.agg cs,.int _ i=>((0<=i/\i<n)/\(Vx agg sz (cs.drop (i.toNat*sz))).1,(Vx agg sz (cs.drop (i.toNat*sz))).2)
  |_,_=>(False,.junk))
 |.bin op x y=>binV op (e x) (e y)
 |.binB op x y=>binBool op (e x) (e y)
 |.un op x=>(match op,e x with
  |.not,.bool b=>(True,.bool (!b))
  |.neg,.int k n=>(True,.int k (k.wrap (0-n)))
  |.xor,.int k n=>(True,.int k (k.wrap (BitVec.ofInt k.bits (if k.signed then -1 else k.max) ^^^ BitVec.ofInt k.bits n).toNat))
  |_,_=>(False,.junk))
 |.conv k x=>(match e x with
  |.int _ n=>(True,.int k (k.wrap n))
  |_=>(False,.junk))
 |.len x=>(match e x with
  |.sl _ rows=>(True,.int .i64 rows.length)
  |.bs _ _ len _=>(True,.int .i64 len)
  |_=>(False,.junk))
 |.lenS x=>(match e x with
  |.str s=>(True,.int .i64 s.size)
  |_=>(False,.junk))
 |.mn x y=>(match e x,e y with
  |.int k a,.int _ b=>(True,.int k (if b<a then b else a))
  |_,_=>(False,.junk))
 |.mx x y=>(match e x,e y with
  |.int k a,.int _ b=>(True,.int k (if a<b then b else a))
  |_,_=>(False,.junk))
 |.mm3 big x y z=>(match e x,e y,e z with
  |.int k a,.int _ b,.int _ c=>(True,.int k (U7 big (U7 big a b) c))
  |_,_,_=>(False,.junk))
 |.mkfn f first cap=>(True,.fn f (first.map e) (cap.map e))
 |.ext x i=>(match e x with
  |.aV vs=>(i<vs.length,vs.getD i .junk)
  |_=>(False,.junk))
 |.call f args=>(match e f with
  |.fn f first cap=>callV P gl f (first++args.map e++cap) m (orc (dst.getD 0) f ((first++args.map e++cap).map (bF m 6)))
  |_=>(False,.junk))
 |.app sz bytes s x=>(match e s,e x with
  |.sl rt rows,.sl _ aC=>(U6 rt=true/\(∀row∈rows++aC,row.length=sz)/\(3*(rows.length+aC.length)+4000)*bytes<=562949953421312,.sl .ro (rows++aC))
  |_,_=>(False,.junk))
 |.slS x lo hi=>(match e x,lo.map e,hi.map e with
  |.str s,some (.int _ l),some (.int _ h)=>(0<=l/\l<=h/\h<=s.size,.str (s.extract l.toNat h.toNat))
  |.str s,none,some (.int _ h)=>(0<=h/\h<=s.size,.str (s.extract 0 h.toNat))
  |.str s,some (.int _ l),none=>(0<=l/\l<=s.size,.str (s.extract l.toNat s.size))
  |_,_,_=>(False,.junk))
 |.nilc x=>(match e x with
  |.ptr id o=>(True,.ptr id o)
  |.ep row o=>(True,.ep row o)
  |.fn f first cap=>(True,.fn f first cap)
  |_=>(False,.junk))
 |.nilS neg x=>(match e x with
  |.sl .nil _=>(True,.bool (!neg))
  |.sl .nn _=>(True,.bool neg)
  |.sl _ (_::_)=>(True,.bool neg)
  |.bs _ _ _ _=>(True,.bool neg)
  |_=>(False,.junk))
 |.nilP neg x=>(match e x with
  |.ptr _ _=>(True,.bool neg)
  |.ep _ _=>(True,.bool neg)
  |.nilv true=>(True,.bool (!neg))
  |_=>(False,.junk))
 |.b2s x=>(match e x with
  |.sl _ rows=>(match Kz rows with
   |some l=>(True,.str ⟨l.toArray⟩)
   |none=>(False,.junk))
  |.bs id off len sz=>(match Kz (aU 1 len ((m.boxes.getD id []).drop off))with
   |some l=>(sz=1/\off+len<=(m.boxes.getD id []).length,.str ⟨l.toArray⟩)
   |none=>(False,.junk))
  |_=>(False,.junk))
 |.eqA neg ks x y=>(match e x,e y with
  |.agg xs,.agg ys=>(Qce ks xs ys=true,.bool (if neg then !(eqFs xs ys)else eqFs xs ys))
  |_,_=>(False,.junk))
 |.slL sz x lo hi=>(match e x with
  |.sl _ rows=>(match loOf (lo.map e),hiOf rows.length (hi.map e)with
   |some l,some h=>((0<=l/\l<=h/\h<=rows.length)/\∀row∈rows,row.length=sz,.sl .ro ((rows.drop l.toNat).take (h.toNat-l.toNat)))
   |_,_=>(False,.junk))
  |.bs id off len fV=>(match loOf (lo.map e),hiOf len (hi.map e)with
   |some l,some h=>((0<=l/\l<=h/\h<=len)/\fV=sz,if l<h\/l=0 then .bs id (off+l.toNat*sz) (h.toNat-l.toNat) sz else .sl .nn [])
   |_,_=>(False,.junk))
  |_=>(False,.junk))
 |.slA n sz x lo hi=>(match e x with
  |.ptr id o=>(match loOf (lo.map e),hiOf n (hi.map e)with
   |some l,some h=>((0<=l/\l<=h/\h<=n)/\o+n*sz<=(m.boxes.getD id []).length/\id<m.boxes.length,if l<h\/l=0 then .bs id (o+l.toNat*sz) (h.toNat-l.toNat) sz else .sl .nn [])
   |_,_=>(False,.junk))
  |_=>(False,.junk))
 |.look kn ok z x k=>(match e x,keyA kn (e k)with
  |.mp id,some n=>(match m.boxes.getD id []with
   |[.aK z8 kvs]=>(z8=kn,(match Xi n kvs 0 with
    |some (_,a)=>(if ok then .aV [a,.bool true]else a)
    |none=>(if ok then .aV [z,.bool false]else z)))
   |_=>(False,.junk))
  |_,_=>(False,.junk))
 |.entr x=>(match e x with
  |.it id=>(match m.boxes.getD id []with
   |[.mitr mid n seen]=>(match m.boxes.getD mid [],seen.getLast? with
    |[.aK kn kvs],some i=>(kvs.length=n/\i<n,.aV [keyAV kn (kvs.getD i ([],.junk)).1,(kvs.getD i ([],.junk)).2])
    |_,_=>(False,.junk))
   |_=>(False,.junk))
  |_=>(False,.junk))
 |_=>(False,.junk)
def sop(P:Program)(gl:Nat->AV)(orc:Nat->FuncId->List AV->AV)(e:bN->AV)(m:AM)(dst:Option Nat)(so:aF):Prop×AV×AM:=
 match so with
 |.alloc zs=>(zs.all Qv=true,.ptr m.boxes.length 0,{m with boxes:=m.boxes++[zs]})
 |.box x=>(bare (e x)=true/\(cellsOf (e x)).all Qv=true,.ptr m.boxes.length 0,{m with boxes:=m.boxes++[cellsOf (e x)]})
 |.store n x v=>(match e x with
  |.ptr id o=>(bare (e v)=true/\(cellsOf (e v)).all Qv=true/\(cellsOf (e v)).length=n/\o+n<=(m.boxes.getD id []).length/\id<m.boxes.length,
    .junk,{m with boxes:=m.boxes.set id (setA (m.boxes.getD id []) o (cellsOf (e v)))})
  |_=>(False,.junk,m))
 |.app sz bytes s x=>(match e s,e x with
  |.sl (.own id fV) rows,.sl _ aC=>(fV=sz/\m.lens[id]?=some rows.length/\(∀row∈rows++aC,row.length=sz)/\(3*(rows.length+aC.length)+4000)*bytes<=562949953421312,
    .sl (.own id sz) (rows++aC),{m with lens:=m.lens.set id (rows.length+aC.length)})
  |.bs id off len fV,y=>(((fV=sz/\off=0/\id<m.boxes.length/\m.boxes.getD id []≠[]/\len*sz<=(m.boxes.getD id []).length)/\(3*(len+lenS y)+4000)*bytes<=562949953421312)/\(cellsS m sz y).1,
    .bs m.boxes.length 0 (len+lenS y) sz,{m with boxes:=m.boxes.set id []++[(m.boxes.getD id []).take (len*sz)++(cellsS m sz y).2]})
  |.sl (.own id fV) rows,.bs gG fW cp sz2=>((fV=sz/\sz2=sz)/\m.lens[id]?=some rows.length/\(∀row∈rows,row.length=sz)/\(3*(rows.length+cp)+4000)*bytes<=562949953421312/\fW+cp*sz<=(m.boxes.getD gG []).length/\gG<m.boxes.length/\(m.boxes.getD gG []).all Qv=true/\(m.boxes.getD gG []).any (Yc 6)=false,
    .sl (.own id sz) (rows++aU sz cp (((m.boxes.getD gG []).map (bF m 6)).drop fW)),{m with lens:=m.lens.set id (rows.length+cp)})
  |.sl rt rows,y=>if mutO orc dst=true then(if lenS y=0 then((cellsS m sz y).1,.sl rt rows,m)else((U6 rt=true/\lenS y≠0/\(∀row∈rows,row.length=sz)/\(3*(rows.length+lenS y)+4000)*bytes<=562949953421312)/\(cellsS m sz y).1,
    .bs m.boxes.length 0 (rows.length+lenS y) sz,{m with boxes:=m.boxes++[rows.flatten++(cellsS m sz y).2]}))
   else(match y with
   |.sl _ aC=>(U6 rt=true/\(∀row∈rows++aC,row.length=sz)/\(3*(rows.length+aC.length)+4000)*bytes<=562949953421312,
    .sl (.own m.lens.length sz) (rows++aC),{m with lens:=m.lens++[rows.length+aC.length]})
   |.bs gG fW cp sz2=>((U6 rt=true/\sz2=sz)/\(∀row∈rows,row.length=sz)/\(3*(rows.length+cp)+4000)*bytes<=562949953421312/\fW+cp*sz<=(m.boxes.getD gG []).length/\gG<m.boxes.length/\(m.boxes.getD gG []).all Qv=true/\(m.boxes.getD gG []).any (Yc 6)=false,
    .sl (.own m.lens.length sz) (rows++aU sz cp (((m.boxes.getD gG []).map (bF m 6)).drop fW)),{m with lens:=m.lens++[rows.length+cp]})
   |_=>(False,.junk,m))
  |_,_=>(False,.junk,m))
 |.bsl sz len parts=>if mutO orc dst=true then let q:=fillA (List.replicate (len*sz) .junk) (parts.map fun p=>(p.1*sz,sz,e p.2));
   (q.1/\q.2.all Qv=true,.bs m.boxes.length 0 len sz,{m with boxes:=m.boxes++[q.2]})
  else((rop P gl orc e m dst (.bsl sz len parts)).1,(rop P gl orc e m dst (.bsl sz len parts)).2,m)
 |.mks sz bytes zs l c=>(match e l,e c with
  |.int _ l,.int _ c=>((0<=l/\l<=c/\bytes*c<=281474976710656/\c<=9223372036854775807)/\zs.length=sz/\zs.all Qv=true,.bs m.boxes.length 0 l.toNat sz,{m with boxes:=m.boxes++[bG c.toNat zs]})
  |_,_=>(False,.junk,m))
 |.cpy sz x y=>(match e x with
  |.bs id off len fV=>(match e y with
   |.str s=>((fV=1/\sz=1)/\id<m.boxes.length/\off+len<=(m.boxes.getD id []).length/\m.boxes.getD id []≠[],.int .i64 (min s.size len:Nat),{m with boxes:=m.boxes.set id (setA (m.boxes.getD id []) off ((s.data.toList.take len).map fun b=>.int .u8 b.toNat))})
   |y=>(fV=sz/\(cellsS m sz y).1/\id<m.boxes.length/\off+len*sz<=(m.boxes.getD id []).length/\m.boxes.getD id []≠[],.int .i64 (min (lenS y) len:Nat),{m with boxes:=m.boxes.set id (setA (m.boxes.getD id []) off ((cellsS m sz y).2.take (len*sz)))}))
  |_=>(False,.junk,m))
 |.clr zs x=>(match e x with
  |.bs id off len fV=>((fV=zs.length/\zs.all Qv=true)/\id<m.boxes.length/\off+len*zs.length<=(m.boxes.getD id []).length/\m.boxes.getD id []≠[],.aV [],{m with boxes:=m.boxes.set id (setA (m.boxes.getD id []) off (bG len zs))})
  |.sl _ []=>(True,.aV [],m)
  |_=>(False,.junk,m))
 |.mkmap kn=>(True,.mp m.boxes.length,{m with boxes:=m.boxes++[[.aK kn []]]})
 |.mupd kn x k v=>(match e x,keyA kn (e k)with
  |.mp id,some n=>(match m.boxes.getD id []with
   |[.aK z8 kvs]=>(z8=kn/\bare (e v)=true,.junk,{m with boxes:=m.boxes.set id [.aK kn (match Xi n kvs 0 with
    |some (i,_)=>kvs.set i (n,e v)
    |none=>kvs++[(n,e v)])]})
   |_=>(False,.junk,m))
  |_,_=>(False,.junk,m))
 |.ment kn z x k=>(match e x,keyA kn (e k)with
  |.mp id,some n=>(match m.boxes.getD id []with
   |[.aK z8 kvs]=>(z8=kn,(match Xi n kvs 0 with
    |some (i,c)=>.aV [c,.int .i64 i]
    |none=>.aV [z,.int .i64 kvs.length]),{m with boxes:=m.boxes.set id [.aK kn (match Xi n kvs 0 with
    |some _=>kvs
    |none=>kvs++[(n,z)])]})
   |_=>(False,.junk,m))
  |_,_=>(False,.junk,m))
 |.esto x s v=>(match e x,e s with
  |.mp id,.int _ i=>(match m.boxes.getD id []with
   |[.aK kn kvs]=>((0<=i/\i<kvs.length)/\bare (e v)=true,.junk,{m with boxes:=m.boxes.set id [.aK kn (kvs.set i.toNat ((kvs.getD i.toNat ([],.junk)).1,e v))]})
   |_=>(False,.junk,m))
  |_,_=>(False,.junk,m))
 |.rng x=>(match e x with
  |.mp id=>(match m.boxes.getD id []with
   |[.aK _ kvs]=>(True,.it m.boxes.length,{m with boxes:=m.boxes++[[.mitr id kvs.length []]]})
   |_=>(False,.junk,m))
  |_=>(False,.junk,m))
 |.mks0 sz bytes c=>(match e c with
  |.int _ c=>if mutO orc dst=true then(if c.toNat=0 then(0<=c/\bytes*c<=281474976710656/\c<=9223372036854775807,.sl .full [],{m with boxes:=m.boxes++[[]]})
    else(0<=c/\bytes*c<=281474976710656/\c<=9223372036854775807,.bs m.boxes.length 0 0 sz,{m with boxes:=m.boxes++[List.replicate (c.toNat*sz) .junk]}))
   else(0<=c/\bytes*c<=281474976710656/\c<=9223372036854775807,.sl (.own m.lens.length sz) [],{m with lens:=m.lens++[0]})
  |_=>(False,.junk,m))
 |so=>((rop P gl orc e m dst so).1,(rop P gl orc e m dst so).2,m)
end Go.Abs
