import Derived.WalkLawsBesides
import Derived.WalkSpells
import Derived.OrdersIn
import Derived.RangeFuncRecord
set_option linter.all false
namespace Go
def zE{p:Prop}(h:p:=by omega):p:=h
def zd{p:Prop}(h:p:=by simp):p:=h
def zza:=@List.getElem?_eq_some_iff
def zzaa:=@Nat.lt_or_ge
def zzab:=@Nat.le_refl
def zzac:=@Bool.and_eq_true
def zzad:=@List.mem_of_getElem?
def zzae:=@List.cons_append
def zzaf:=@List.getElem?_eq_getElem
def zzag:=@List.drop_eq_getElem_cons
def zzah:=@Array.getElem?_eq_getElem
def zzai:=@List.nil_append
def zzaj:=@List.getElem?_append_left
def zzak:=@List.length_append
def zzal:=@List.drop_eq_nil_of_le
def zzam:=@List.mem_cons
def zzan:=@Nat.add_assoc
def zzao:=@List.mem_append
def zzap:=@List.getElem?_append_right
def zzaq:=@List.length_take
def zzar:=@List.append_nil
def zzas:=@List.map_cons
def zzat:=@List.getElem?_eq_none
def zzau:=@List.take_of_length_le
def zzav:=@List.mem_map
def zzaw:=@List.mem_range
def zzax:=@List.getD_eq_getElem?_getD
def zzay:=@List.all_eq_true
def zzaz:=@List.length_cons
def zzb:=@List.take_add_one
def zzba:=@Nat.lt_of_lt_of_le
def zzbb:=@Nat.le_of_ble_eq_true
def zzbc:=@Nat.le_trans
def zzbd:=@Nat.mul_le_mul_right
def zzbe:=@List.eq_nil_of_length_eq_zero
def zzbf:=@List.append_assoc
def zzbg:=@List.getElem?_set_self
def zzbh:=@Bool.false_eq_true
def zzbi:=@Array.length_toList
def zzbj:=@List.getElem?_take
def zzbk:=@Nat.not_lt
def zzbl:=@List.getElem?_drop
def zzbm:=@List.getElem?_map
def zzbn:=@List.getElem?_set_ne
def zzbo:=@Array.getElem?_eq_none
def zzbp:=@Nat.zero_le
def zzbq:=@List.any_eq_true
def zzbr:=@Nat.add_mul
def zzbs:=@Nat.zero_add
def zzbt:=@List.drop_length
def zzbu:=@List.take_length
def zzbv:=@List.length_map
def zzbw:=@Array.getElem?_eq_some_iff
def zzbx:=@List.length_eq_zero_iff
def zzby:=@Int.le_refl
def zzbz:=@Option.isSome_iff_exists
def zzc:=@Option.map_eq_some_iff
def zzca:=@List.mem_filter
def zzcb:=@Array.getElem?_toList
def zzcc:=@List.length_filter_le
def zzcd:=@List.pairwise_cons
def zzce:=@List.mem_of_mem_take
def zzcf:=@List.getElem?_cons_succ
def zzcg:=@List.mem_singleton
def zzch:=@List.length_set
def zzci:=@List.map_append
def zzcj:=@List.flatten_cons
def zzck:=@Nat.eq_zero_or_pos
def zzcl:=@Int.tdiv_eq_ediv_of_nonneg
def zzcm:=@List.getElem?_replicate
def zzcn:=@Nat.add_zero
def zzco:=@List.length_nil
def zzcp:=@Array.getElem?_setIfInBounds_ne
def zzcq:=@List.mem_iff_getElem?
def zzcr:=@List.map_congr_left
def zzcs:=@List.map_nil
def zzct:=@Option.map_some
def zzcu:=@List.map_map
def zzcv:=@Option.bind_some
def zzcw:=@List.length_drop
def zzcx:=@List.filter_cons
def zzcy:=@List.filter_cons_of_pos
def zzcz:=@List.foldl_cons
def zzd:=@List.mem_cons_of_mem
def zzda:=@Bool.eq_iff_iff
def zzdb:=@List.ext_getElem?
def zzdc:=@List.drop_zero
def zzdd:=@Array.mem_of_getElem?
def zzde:=@List.filter_append
def zzdf:=@List.filter_cons_of_neg
def zzdg:=@Bool.not_eq_true'
def zzdh:=@List.length_pos_iff
def zzdi:=@List.set_append_right
def zzdj:=@List.getElem_mem
def zzdk:=@List.zip_cons_cons
def zzdl:=@List.nodup_range
def zzdm:=@List.any_eq_false
def zzdn:=@Array.toList_setIfInBounds
def zzdo:=@Bool.true_and
def zzdp:=@List.not_mem_nil
def zzdq:=@Array.getElem?_modify
def zzdr:=@Nat.eq_of_beq_eq_true
def zzds:=@List.pairwise_iff_getElem
def zzdt:=@List.mem_of_find?_eq_some
def zzdu:=@Nat.one_mul
def zzdv:=@List.mem_of_mem_drop
def zzdw:=@Nat.lt_trichotomy
def zzdx:=@List.flatMap_cons
def zzdy:=@List.drop_append_of_le_length
def zzdz:=@Nat.add_sub_cancel_left
def zze:=@List.drop_drop
def zzea:=@List.set_cons_succ
def zzeb:=@List.length_replicate
def zzec:=@List.take_append_drop
def zzed:=@Nat.mod_lt
def zzee:=@Int.mul_nonneg
def zzef:=@Nat.mul_comm
def zzeg:=@Nat.testBit_eq_decide_div_mod_eq
def zzeh:=@List.flatMap_nil
def zzei:=@Array.getElem?_push_size
def zzej:=@List.getElem?_range
def zzek:=@List.flatten_append
def zzel:=@List.take_succ_cons
def zzem:=@Array.eq_empty_of_size_eq_zero
def zzen:=@List.nodup_cons
def zzeo:=@List.zip_nil_right
def zzep:=@List.size_toArray
def zzeq:=@Array.size_append
def zzer:=@Array.getElem?_setIfInBounds
def zzes:=@Nat.sub_zero
def zzet:=@List.countP_le_length
def zzeu:=@List.length_mergeSort
def zzev:=@List.singleton_append
def zzew:=@List.dropLast_concat_getLast
def zzex:=@Int.lt_or_le
def zzey:=@List.ext_getElem
def zzez:=@Nat.lt_succ_self
def zzf:=@Array.getElem?_append_left
def zzfa:=@Nat.le_zero
def zzfb:=@List.getLast?_eq_some_iff
def zzfc:=@List.range_succ
def zzfd:=@List.find?_cons
def zzfe:=@List.all_append
def zzff:=@Nat.add_comm
def zzfg:=@List.mem_filterMap
def zzfh:=@List.map_set
def zzfi:=@List.pairwise_mergeSort
def zzfj:=@List.filter_eq_nil_iff
def zzfk:=@List.mem_reverse
def zzfl:=@Array.toList_extract
def zzfm:=@List.drop_eq_nil_iff
def zzfn:=@List.range_eq_range'
def zzfo:=@List.getElem?_of_mem
def zzfp:=@List.find?_some
def zzfq:=@List.dropLast_concat
def zzfr:=@Nat.sub_self
def zzfs:=@Int.mul_le_mul_of_nonneg_left
def zzft:=@List.getElem_of_mem
def zzfu:=@List.take_set_of_le
def zzfv:=@List.drop_set_of_lt
def zzfw:=@List.filter_eq_self
def zzfx:=@List.mergeSort_perm
def zzfy:=@List.replicate_succ
def zzfz:=@List.drop_left
def zzg:=@Array.getElem?_map
def zzga:=@Nat.add_sub_cancel
def zzgb:=@Array.ext_getElem?
def zzgc:=@List.map_drop
def zzgd:=@Bool.and_true
def zzge:=@List.perm_ext_iff_of_nodup
def zzgf:=@List.getElem?_set
def zzgg:=@List.foldl_append
def zzgh:=@Bool.not_eq_false
def zzgi:=@List.mem_or_eq_of_mem_set
def zzgj:=@List.getElem?_zip_eq_some
def zzgk:=@List.getElem?_eq_none_iff
def zzgl:=@Nat.div_eq_of_lt
def zzgm:=@Nat.mod_eq_of_lt
def zzgn:=@List.range'_succ
def zzgo:=@List.length_filterMap_le
def zzgp:=@Nat.le_of_lt
def zzgq:=@List.getElem?_cons_zero
def zzgr:=@Nat.div_add_mod
def zzgs:=@Nat.min_eq_left
def zzgt:=@Bool.or_eq_true
def zzgu:=@List.range_succ_eq_map
def zzgv:=@Nat.min_def
def zzgw:=@List.append_eq_nil_iff
def zzgx:=@List.mapM_cons
def zzgy:=@Array.mem_iff_getElem
def zzgz:=@List.mem_append_right
def zzh:=@List.length_singleton
def zzha:=@List.take_zero
def zzhb:=@Bool.and_false
def zzhc:=@List.eq_nil_or_concat
def zzhd:=@List.concat_eq_append
def zzhe:=@Array.getElem?_mapIdx
def zzhf:=@Nat.zero_mul
def zzhg:=@Nat.succ_mul
def zzhh:=@Nat.le_total
def zzhi:=@Int.le_trans
def zzhj:=@Nat.pow_succ
end Go
namespace Go.Abs
open Go Go.RowKit
def Nm{p q:Prop}(h:p)(w:p->q:=by intro h;simpa using h):q:=w h
abbrev Pi:=List Int
abbrev Pa:=List Nat
abbrev P1:=Array Value
abbrev PQ:=List Value
abbrev PP:=Exit->Act->World->Prop
abbrev QR:=List (Int×Bool)
inductive Rt where
 |ro
 |full
 |nil
 |nn
 |own (id sz:Nat)
inductive AV where
 |junk
 |bool (b:Bool)
 |int (k:IntKind) (n:Int)
 |str (s:ByteArray)
 |agg (cs:List AV)
 |aS (vs:List AV)
 |sl (rt:Rt) (rows:List (List AV))
 |ep (row:List AV) (o:Nat)
 |ptr (id o:Nat)
 |fn (f:FuncId) (first cap:List AV)
 |nilfn
 |yld (l:Nat)
 |mp (id:Nat)
 |nilv (p:Bool)
 |aJ (kn:Nat) (kvs:List (Pi×AV))
 |it (id:Nat)
 |mitr (mid n:Nat) (seen:Pa)
 |bs (id off len sz:Nat)
 |gd (g:Bool) (a:AV)
abbrev P2:=List AV
abbrev PH:=Option (P2)
abbrev QQ:=List (Nat×AV)
abbrev T5:=List (P2)
abbrev UV:=Nat->FuncId->P2->AV
structure G where
 β:Nat->Option Nat
 own:Nat->Option Nat
 cur:Nat->Nat
 ro:Nat->Nat->Prop
 sp:Nat->Prop
 mm:Nat->Option Nat
 lp:Nat->Option Nat
def G.cU(γ:G):G:={β:=fun _=>none,own:=fun _=>none,cur:=fun _=>0,ro:=γ.ro,sp:=fun _=>False,mm:=fun _=>none,lp:=fun _=>none}
def G0(ro:Nat->Nat->Prop):G:={β:=fun _=>none,own:=fun _=>none,cur:=fun _=>0,ro:=ro,sp:=fun _=>False,mm:=fun _=>none,lp:=fun _=>none}
theorem UT(ro:Nat->Nat->Prop):(G0 ro).cU=G0 ro:=rfl
def Qv(rows:T5)(i j:Nat):Option AV:=(rows[i]?).bind (·[j]?)
def lV(w:World)(γ:G)(a:Option Addr)(id len cap sz:Nat):Prop:=
 ∃b off arr e,a=some ⟨b,off,none⟩/\γ.own id=some b/\w.heap[b]?=some (.cells arr e (0,0))/\off+cap*sz<=arr.size/\
  ∀o,off+len*sz<=o->¬γ.ro b o
def qD(w:World)(γ:G)(a:Option Addr)(len cap sz:Nat):Rt->Prop
 |.ro=>True
 |.full=>cap=len
 |.nil=>a=none
 |.nn=>a≠none
 |.own id dB=>dB=sz/\len<=γ.cur id/\(len=γ.cur id->cap=len\/lV w γ a id len cap sz)
inductive aA (w:World):G->AV->Value->Prop
 |junk {γ:G} (v:Value):aA w γ .junk v
 |gd {γ:G} {g:Bool} {a:AV} {v:Value} (h:g=true->aA w γ a v) (h':g=false->v=undef):aA w γ (.gd g a) v
 |bool {γ:G} (b:Bool):aA w γ (.bool b) (.bool b)
 |int {γ:G} (k:IntKind) (n:Int):aA w γ (.int k n) (.int k n)
 |str {γ:G} (s:ByteArray):aA w γ (.str s) (.string s)
 |nilfn {γ:G}:aA w γ .nilfn .nilFunc
 |nilv {γ:G} (p:Bool):aA w γ (.nilv p) (bif p then .pointer none else .map none)
 |yld {γ:G} {i l:Nat} (h:γ.lp i=some l):aA w γ (.yld i) (.func (.yield l) #[] #[])
 |mp {γ:G} {id b:Nat} (h:γ.mm id=some b):aA w γ (.mp id) (.map (some b))
 |it {γ:G} {id b:Nat} (h:γ.mm id=some b):aA w γ (.it id) (.pointer (some ⟨b,0,none⟩))
 |agg {γ:G} {cs:P2} {arr:P1} (hl:cs.length=arr.size) (h:∀(i:Nat)(c:AV)(v:Value),cs[i]?=some c->arr[i]?=some v->aA w γ c v):aA w γ (.agg cs) (.agg arr)
 |aS {γ:G} {cs:P2} {arr:P1} (hl:cs.length=arr.size) (h:∀(i:Nat)(c:AV)(v:Value),cs[i]?=some c->arr[i]?=some v->aA w γ c v):aA w γ (.aS cs) (.tuple arr)
 |fn {γ:G} {f:FuncId} {first cap:P2} {fa ca:P1} (hl:first.length=fa.size) (h:∀(i:Nat)(c:AV)(v:Value),first[i]?=some c->fa[i]?=some v->aA w γ c v)
   (eX:cap.length=ca.size) (h':∀(i:Nat)(c:AV)(v:Value),cap[i]?=some c->ca[i]?=some v->aA w γ c v):aA w γ (.fn f first cap) (.func (.func f) fa ca)
 |ptr {γ:G} {id o b:Nat} (h:γ.β id=some b):aA w γ (.ptr id o) (.pointer (some ⟨b,o,none⟩))
 |ep {γ:G} {row:P2} {o b off:Nat} (cv:Nat->Value) (hb:b<w.heap.size)
   (hc:∀(j:Nat)(c:AV),row[j]?=some c->w.cell? ⟨b,off+j,none⟩=some (cv j)/\γ.ro b (off+j)/\(cv j).oneCell'=true)
   (h:∀(j:Nat)(c:AV),row[j]?=some c->aA w γ.cU c (cv j)):aA w γ (.ep row o) (.pointer (some ⟨b,off+o,none⟩))
 |bs {γ:G} {id off len sz cap b:Nat} {arr:P1} {e:TypeId} (h:γ.β id=some b) (hl:len<=cap) (hh:w.heap[b]?=some (.cells arr e (0,0))) (hs:off+cap*sz<=arr.size):
   aA w γ (.bs id off len sz) (.slice (some ⟨b,off,none⟩) len cap)
 |sl {γ:G} {rt:Rt} {rows:T5} {a:Option Addr} {cap:Nat} (b off sz:Nat) (cv:Nat->Nat->Value)
   (hcap:rows.length<=cap) (hnil:a=none->cap=0) (ha:rows≠[]->a=some ⟨b,off,none⟩/\b<w.heap.size)
   (hsz:∀row∈rows,row.length=sz)
   (hc:∀(i j:Nat)(c:AV),Qv rows i j=some c->w.cell? ⟨b,off+i*sz+j,none⟩=some (cv i j)/\γ.ro b (off+i*sz+j)/\(cv i j).oneCell'=true)
   (h:∀(i j:Nat)(c:AV),Qv rows i j=some c->aA w γ.cU c (cv i j))
   (aX:qD w γ a rows.length cap sz rt):aA w γ (.sl rt rows) (.slice a rows.length cap)
def qE(o o':Option Obj):Prop:=o'=o\/∃r s p,o=some (.loop r)/\o'=some (.loop {r with state:=s,pending:=p})
def qE.trans{o o' o'':Option Obj}(h:qE o o')(k:qE o' o''):qE o o'':=by
 obtain rfl|⟨r,s,p,rfl,rfl⟩:=h
 ·exact k
 obtain rfl|⟨r',s',p',e,rfl⟩:=k
 ·exact .inr ⟨r,s,p,rfl,rfl⟩
 simp at e;subst e;exact .inr ⟨r,s',p',rfl,rfl⟩
def Sz(w w':World):Prop:=∀(b:Nat)(arr:P1)(e:TypeId)(f:Nat×Nat),w.heap[b]?=some (.cells arr e f)->∃bN:P1,w'.heap[b]?=some (.cells bN e f)/\bN.size=arr.size
def Sz.refl(w:World):Sz w w:=fun _ arr _ _ h=>⟨arr,h,rfl⟩
def Sz.trans{w w' qF:World}(h:Sz w w')(k:Sz w' qF):Sz w qF:=fun b arr e f hb=>by
 obtain⟨bN,h1,h2⟩:=h b arr e f hb;obtain⟨EK,h3,h4⟩:=k b bN e f h1;exact⟨EK,h3,h4.trans h2⟩
def Sz.of_same{w w':World}(h:∀b,b<w.heap.size->w'.heap[b]?=w.heap[b]?):Sz w w':=fun b arr e f hb=>by
 have ah:b<w.heap.size:=by
  rcases zzaa b w.heap.size with h'|h'
  ·exact h'
  simp[zzbo h']at hb
 exact⟨arr,(h b ah).trans hb,rfl⟩
structure No (w:World) (γ:G) (w':World) (γ':G):Prop where
 size:w.heap.size<=w'.heap.size
 ro:∀b o,b<w.heap.size->γ.ro b o->γ'.ro b o/\w'.cell? ⟨b,o,none⟩=w.cell? ⟨b,o,none⟩
 β:∀id b,γ.β id=some b->γ'.β id=some b
 cur:∀id,γ.cur id<=γ'.cur id
 mm:∀b F,γ.mm b=some F->γ'.mm b=some F
 lp:∀i l,γ.lp i=some l->γ'.lp i=some l
 own:∀id b,γ'.cur id=γ.cur id->γ.own id=some b->γ'.own id=some b/\
  (∀arr e,w.heap[b]?=some (.cells arr e (0,0))->∃bN,w'.heap[b]?=some (.cells bN e (0,0))/\arr.size<=bN.size)/\∀o,γ'.ro b o->γ.ro b o
 ss:Sz w w'
structure eD (w:World) (γ:G) (w':World) (γ':G):Prop where
 size:w.heap.size<=w'.heap.size
 ro:∀b o,b<w.heap.size->γ.ro b o->γ'.ro b o/\w'.cell? ⟨b,o,none⟩=w.cell? ⟨b,o,none⟩
 β:∀id b,γ.β id=some b->γ'.β id=some b
 cur:∀id,γ.cur id<=γ'.cur id
 mm:∀b F,γ.mm b=some F->γ'.mm b=some F
 lp:∀i l,γ.lp i=some l->γ'.lp i=some l
 own:∀id b,γ'.cur id=γ.cur id->γ.own id=some b->γ'.own id=some b/\
  (∀arr e,w.heap[b]?=some (.cells arr e (0,0))->∃bN,w'.heap[b]?=some (.cells bN e (0,0))/\arr.size<=bN.size)/\∀o,γ'.ro b o->γ.ro b o
 sp:∀b,γ.sp b->γ'.sp b/\qE w.heap[b]? w'.heap[b]?
 ss:Sz w w'
structure Ev (w:World) (γ:G) (w':World) (γ':G):Prop where
 size:w.heap.size<=w'.heap.size
 ro:∀b o,b<w.heap.size->γ.ro b o->γ'.ro b o/\w'.cell? ⟨b,o,none⟩=w.cell? ⟨b,o,none⟩
 β:∀id b,γ.β id=some b->γ'.β id=some b
 cur:∀id,γ.cur id<=γ'.cur id
 mm:∀b F,γ.mm b=some F->γ'.mm b=some F
 lp:γ'.lp=γ.lp
 own:∀id b,γ'.cur id=γ.cur id->γ.own id=some b->γ'.own id=some b/\
  (∀arr e,w.heap[b]?=some (.cells arr e (0,0))->∃bN,w'.heap[b]?=some (.cells bN e (0,0))/\arr.size<=bN.size)/\∀o,γ'.ro b o->γ.ro b o
 sp:∀b,γ.sp b->γ'.sp b/\w'.heap[b]?=w.heap[b]?
 ss:Sz w w'
def eD.AB{w:World}{γ:G}{w':World}{γ':G}(h:eD w γ w' γ'):No w γ w' γ':=⟨h.size,h.ro,h.β,h.cur,h.mm,h.lp,h.own,h.ss⟩
def Ev.cH{w:World}{γ:G}{w':World}{γ':G}(h:Ev w γ w' γ'):eD w γ w' γ':=⟨h.size,h.ro,h.β,h.cur,h.mm,fun i l hl=>by rw[h.lp];exact hl,h.own,fun b hb=>⟨(h.sp b hb).1,.inl (h.sp b hb).2⟩,h.ss⟩
def Ev.refl(w:World)(γ:G):Ev w γ w γ:=
 ⟨zzab _,fun _ _ _ h=>⟨h,rfl⟩,fun _ _ h=>h,fun _=>zzab _,fun _ _ h=>h,rfl,fun _ _ _ h=>⟨h,fun arr _ h=>⟨arr,h,zzab _⟩,fun _ h=>h⟩,fun _ h=>⟨h,rfl⟩,Sz.refl w⟩
def Ev.trans{w:World}{γ:G}{w':World}{γ':G}{qF:World}{Ee:G}(h:Ev w γ w' γ')(k:Ev w' γ' qF Ee):Ev w γ qF Ee where
 size:=zzbc h.size k.size
 ro b o hb hr:=by
  obtain⟨h1,h2⟩:=h.ro b o hb hr;obtain⟨h3,h4⟩:=k.ro b o (zzba hb h.size) h1;exact⟨h3,h4.trans h2⟩
 β id b hb:=k.β id b (h.β id b hb)
 cur id:=zzbc (h.cur id) (k.cur id)
 mm b F hb:=k.mm b F (h.mm b F hb)
 lp:=k.lp.trans h.lp
 own id b hc ho:=by
  have h1:=h.cur id;have h2:=k.cur id;have e1:γ'.cur id=γ.cur id:=zE
  have e2:Ee.cur id=γ'.cur id:=zE
  obtain⟨a1,a2,a3⟩:=h.own id b e1 ho;obtain⟨b1,b2,b3⟩:=k.own id b e2 a1;refine⟨b1,fun arr e hh=>?_,fun o ho=>a3 o (b3 o ho)⟩;obtain⟨bN,h3,h4⟩:=a2 arr e hh;obtain⟨EK,h5,h6⟩:=b2 bN e h3;exact⟨EK,h5,zzbc h4 h6⟩
 sp b hb:=by
  obtain⟨h1,h2⟩:=h.sp b hb;obtain⟨h3,h4⟩:=k.sp b h1;exact⟨h3,h4.trans h2⟩
 ss:=h.ss.trans k.ss
def eD.trans{w:World}{γ:G}{w':World}{γ':G}{qF:World}{Ee:G}(h:eD w γ w' γ')(k:eD w' γ' qF Ee):eD w γ qF Ee where
 size:=zzbc h.size k.size
 ro b o hb hr:=by
  obtain⟨h1,h2⟩:=h.ro b o hb hr;obtain⟨h3,h4⟩:=k.ro b o (zzba hb h.size) h1;exact⟨h3,h4.trans h2⟩
 β id b hb:=k.β id b (h.β id b hb)
 cur id:=zzbc (h.cur id) (k.cur id)
 mm b F hb:=k.mm b F (h.mm b F hb)
 lp i l hl:=k.lp i l (h.lp i l hl)
 own id b hc ho:=by
  have h1:=h.cur id;have h2:=k.cur id;have e1:γ'.cur id=γ.cur id:=zE
  have e2:Ee.cur id=γ'.cur id:=zE
  obtain⟨a1,a2,a3⟩:=h.own id b e1 ho;obtain⟨b1,b2,b3⟩:=k.own id b e2 a1;refine⟨b1,fun arr e hh=>?_,fun o ho=>a3 o (b3 o ho)⟩;obtain⟨bN,h3,h4⟩:=a2 arr e hh;obtain⟨EK,h5,h6⟩:=b2 bN e h3;exact⟨EK,h5,zzbc h4 h6⟩
 sp b hb:=by
  obtain⟨h1,h2⟩:=h.sp b hb;obtain⟨h3,h4⟩:=k.sp b h1;exact⟨h3,h2.trans h4⟩
 ss:=h.ss.trans k.ss
def No.cU{w:World}{γ:G}{w':World}{γ':G}(h:No w γ w' γ'):No w γ.cU w' γ'.cU:=
 ⟨h.size,h.ro,fun _ _ h=>(by cases h),fun _=>zzab _,fun _ _ h=>(by cases h),fun _ _ h=>(by cases h),fun _ _ _ h=>(by cases h),h.ss⟩
def eD.cU{w:World}{γ:G}{w':World}{γ':G}(h:eD w γ w' γ'):eD w γ.cU w' γ'.cU:=
 ⟨h.size,h.ro,fun _ _ h=>(by cases h),fun _=>zzab _,fun _ _ h=>(by cases h),fun _ _ h=>(by cases h),fun _ _ _ h=>(by cases h),fun _ h=>h.elim,h.ss⟩
def eD.awp{w:World}{γ:G}{w':World}{γ':G}(h:eD w γ w' γ'):Ev w γ.cU w' γ'.cU:=
 ⟨h.size,h.ro,fun _ _ h=>(by cases h),fun _=>zzab _,fun _ _ h=>(by cases h),rfl,fun _ _ _ h=>(by cases h),fun _ h=>h.elim,h.ss⟩
def Ev.cU{w:World}{γ:G}{w':World}{γ':G}(h:Ev w γ w' γ'):Ev w γ.cU w' γ'.cU:=h.cH.awp
def lV.aU{w:World}{γ:G}{w':World}{γ':G}(h:No w γ w' γ'){a:Option Addr}{id len cap sz:Nat}(hc:γ'.cur id=γ.cur id)(hs:lV w γ a id len cap sz):
  lV w' γ' a id len cap sz:=by
 obtain⟨b,off,arr,e,ha,ho,hh,hsz,gi⟩:=hs;obtain⟨h1,h2,h3⟩:=h.own id b hc ho;obtain⟨bN,h4,h5⟩:=h2 arr e hh;exact⟨b,off,bN,e,ha,h1,h4,zzbc hsz h5,fun o ho hr=>gi o ho (h3 o hr)⟩
def lV.mono{w:World}{γ:G}{w':World}{γ':G}(h:Ev w γ w' γ'){a:Option Addr}{id len cap sz:Nat}(hc:γ'.cur id=γ.cur id)(hs:lV w γ a id len cap sz):
  lV w' γ' a id len cap sz:=lV.aU h.cH.AB hc hs
def qD.mono{w:World}{γ:G}{w':World}{γ':G}(h:No w γ w' γ'){a:Option Addr}{len cap sz:Nat}{rt:Rt}(hr:qD w γ a len cap sz rt):qD w' γ' a len cap sz rt:=by
 cases rt with
 |ro=>trivial
 |full=>exact hr
 |nil=>exact hr
 |nn=>exact hr
 |own id dB=>
  obtain⟨h1,h2,h3⟩:=hr;have oo:=h.cur id;refine⟨h1,zzbc h2 oo,fun he=>?_⟩;have e1:γ'.cur id=γ.cur id:=zE
  exact(h3 zE).imp_right (lV.aU h e1)
def aA.eP{w:World}{γ:G}{a:AV}{v:Value}(h:aA w γ a v):∀{w':World}{γ':G},No w γ w' γ'->aA w' γ' a v:=by
 induction h with
 |junk v=>exact fun _=>.junk v
 |gd _ h' ih=>exact fun e=>.gd (fun hg=>ih hg e) h'
 |bool b=>exact fun _=>.bool b
 |int k n=>exact fun _=>.int k n
 |str s=>exact fun _=>.str s
 |nilfn=>exact fun _=>.nilfn
 |nilv p=>exact fun _=>.nilv p
 |yld h=>exact fun e=>.yld (e.lp _ _ h)
 |mp h=>exact fun e=>.mp (e.mm _ _ h)
 |it h=>exact fun e=>.it (e.mm _ _ h)
 |agg hl _ ih=>exact fun e=>.agg hl fun i c v h1 h2=>ih i c v h1 h2 e
 |aS hl _ ih=>exact fun e=>.aS hl fun i c v h1 h2=>ih i c v h1 h2 e
 |fn hl _ eX _ ih ih'=>exact fun e=>.fn hl (fun i c v h1 h2=>ih i c v h1 h2 e) eX fun i c v h1 h2=>ih' i c v h1 h2 e
 |ptr h=>exact fun e=>.ptr (e.β _ _ h)
 |bs h hl hh hs=>
  intro w' γ' e;obtain⟨bN,h1,h2⟩:=e.ss _ _ _ _ hh;exact .bs (e.β _ _ h) hl h1 zE
 |ep cv hb hc _ ih=>
  exact fun e=>.ep cv (zzba hb e.size) (fun j c hj=>⟨(e.ro _ _ hb (hc j c hj).2.1).2.trans (hc j c hj).1,(e.ro _ _ hb (hc j c hj).2.1).1,(hc j c hj).2.2⟩) fun j c hj=>ih j c hj e.cU
 |@sl γ rt rows a cap b off sz cv hcap hnil ha hsz hc _ aX ih=>
  intro w' γ' e;have hb:∀i j c,Qv rows i j=some c->b<w.heap.size:=fun i j c eG=>(ha (by rintro rfl;simp[Qv]at eG)).2
  exact .sl b off sz cv hcap hnil (fun hn=>⟨(ha hn).1,zzba (ha hn).2 e.size⟩) hsz
   (fun i j c eG=>⟨(e.ro _ _ (hb i j c eG) (hc i j c eG).2.1).2.trans (hc i j c eG).1,(e.ro _ _ (hb i j c eG) (hc i j c eG).2.1).1,(hc i j c eG).2.2⟩)
   (fun i j c eG=>ih i j c eG e.cU) (aX.mono e)
def aA.aU{w:World}{γ:G}{a:AV}{v:Value}(h:aA w γ a v){w':World}{γ':G}(e:eD w γ w' γ'):aA w' γ' a v:=h.eP e.AB
def aA.mono{w:World}{γ:G}{a:AV}{v:Value}(h:aA w γ a v){w':World}{γ':G}(e:Ev w γ w' γ'):aA w' γ' a v:=h.aU e.cH
def ak(w:World)(γ:G)(as':P2)(vs:PQ):Prop:=as'.length=vs.length/\∀(i:Nat)(a:AV)(v:Value),as'[i]?=some a->vs[i]?=some v->aA w γ a v
def ak.mono{w:World}{γ:G}{as':P2}{vs:PQ}(h:ak w γ as' vs){w':World}{γ':G}(e:Ev w γ w' γ'):ak w' γ' as' vs:=
 ⟨h.1,fun i a v h1 h2=>(h.2 i a v h1 h2).mono e⟩
def ak.eP{w:World}{γ:G}{as':P2}{vs:PQ}(h:ak w γ as' vs){w':World}{γ':G}(e:No w γ w' γ'):ak w' γ' as' vs:=
 ⟨h.1,fun i a v h1 h2=>(h.2 i a v h1 h2).eP e⟩
def ak.aU{w:World}{γ:G}{as':P2}{vs:PQ}(h:ak w γ as' vs){w':World}{γ':G}(e:eD w γ w' γ'):ak w' γ' as' vs:=
 ⟨h.1,fun i a v h1 h2=>(h.2 i a v h1 h2).aU e⟩
def ak.nil{w:World}{γ:G}:ak w γ [] []:=⟨rfl,fun i a v h=>(by simp at h)⟩
def ak.cons{w:World}{γ:G}{a:AV}{v:Value}{as':P2}{vs:PQ}(h:aA w γ a v)(hs:ak w γ as' vs):ak w γ (a::as') (v::vs):=
 ⟨by simp[hs.1],fun i x y h1 h2=>by
  cases i with
  |zero=>simp at h1 h2;subst h1;subst h2;exact h
  |succ i=>simp at h1 h2;exact hs.2 i x y h1 h2⟩
def ak.get{w:World}{γ:G}{as':P2}{vs:PQ}(h:ak w γ as' vs)(i:Nat):aA w γ (as'.getD i .junk) (vs.getD i undef):=by
 rcases zzaa i as'.length with hi|hi
 ·have dn:i<vs.length:=h.1 ▸ hi;refine h.2 i _ _ (?_:as'[i]?=some _) (?_:vs[i]?=some _)
  ·simp[List.getD,hi]
  simp[List.getD,dn]
 simp[List.getD,zzat hi];exact .junk _
def ak.set{w:World}{γ:G}{as':P2}{vs:PQ}(h:ak w γ as' vs)(i:Nat){a:AV}{v:Value}(ha:aA w γ a v):ak w γ (as'.set i a) (vs.set i v):=by
 refine⟨by simp[h.1],fun j x y h1 h2=>?_⟩;by_cases eG:i=j
 ·subst eG;rw[zzgf]at h1 h2;simp only[if_true]at h1 h2;split at h1<;>split at h2<;>simp_all
 rw[zzbn eG]at h1 h2;exact h.2 j x y h1 h2
def ak.append{w:World}{γ:G}{as' bs:P2}{vs us:PQ}(h:ak w γ as' vs)(k:ak w γ bs us):ak w γ (as'++bs) (vs++us):=by
 refine⟨by simp[h.1,k.1],fun i x y h1 h2=>?_⟩;rcases zzaa i as'.length with hi|hi
 ·rw[zzaj hi]at h1;rw[zzaj (h.1 ▸ hi)]at h2;exact h.2 i x y h1 h2
 rw[zzap hi]at h1;rw[zzap (h.1 ▸ hi),<- h.1]at h2;exact k.2 _ x y h1 h2
def cq(w:World)(γ:G)(as':P2)(vs:PQ):Prop:=as'.length<=vs.length/\∀(i:Nat)(a:AV)(v:Value),as'[i]?=some a->vs[i]?=some v->aA w γ a v
def ak.toP{w:World}{γ:G}{as':P2}{vs:PQ}(h:ak w γ as' vs):cq w γ as' vs:=⟨Nat.le_of_eq h.1,h.2⟩
def cq.nil{w:World}{γ:G}{vs:PQ}:cq w γ [] vs:=⟨zzbp _,fun i a v h=>(by simp at h)⟩
def cq.eP{w:World}{γ:G}{as':P2}{vs:PQ}(h:cq w γ as' vs){w':World}{γ':G}(e:No w γ w' γ'):cq w' γ' as' vs:=
 ⟨h.1,fun i a v h1 h2=>(h.2 i a v h1 h2).eP e⟩
def cq.aU{w:World}{γ:G}{as':P2}{vs:PQ}(h:cq w γ as' vs){w':World}{γ':G}(e:eD w γ w' γ'):cq w' γ' as' vs:=h.eP e.AB
def cq.mono{w:World}{γ:G}{as':P2}{vs:PQ}(h:cq w γ as' vs){w':World}{γ':G}(e:Ev w γ w' γ'):cq w' γ' as' vs:=h.aU e.cH
def cq.set{w:World}{γ:G}{as':P2}{vs:PQ}(h:cq w γ as' vs)(i:Nat){a:AV}{v:Value}(ha:aA w γ a v):cq w γ (as'.set i a) (vs.set i v):=by
 refine⟨Nm h.1,fun j x y h1 h2=>?_⟩;by_cases eG:i=j
 ·subst eG;rw[zzgf]at h1 h2;simp only[if_true]at h1 h2;split at h1<;>split at h2<;>simp_all
 rw[zzbn eG]at h1 h2;exact h.2 j x y h1 h2
open Go Go.RowKit
inductive LS where
 |gone
 |ready
 |busy
 |done (ex:Exit)
structure AM where
 boxes:T5
 lens:Pa
 st:Nat->LS
 ln:Nat
abbrev QP:=List (AV×AM)
abbrev So:=AV->AM->Prop
def OI(γ:G)(b:Nat):Prop:=(∃id,γ.β id=some b)\/(∃id,γ.own id=some b)\/γ.sp b\/∃id,γ.mm id=some b
structure Chg (γ:G) (w:World) (γ':G) (w':World):Prop where
 os:w'.os=w.os
 tape:w'.tape=w.tape
 output:w'.output=w.output
 size:w.heap.size<=w'.heap.size
 same:∀b,b<w.heap.size->¬OI γ b->w'.heap[b]?=w.heap[b]?
 ro:∀b o,b<w.heap.size->γ.ro b o->γ'.ro b o/\w'.cell? ⟨b,o,none⟩=w.cell? ⟨b,o,none⟩
 oi:∀b,OI γ' b->OI γ b\/w.heap.size<=b
 ron:∀b o,γ'.ro b o->γ.ro b o\/OI γ b\/w.heap.size<=b
structure eR where
 p:G->World->Prop
 st:∀γ w γ' w',p γ w->Chg γ w γ' w'->p γ' w'
def Ym:Nat->Pi->Value
 |0,[n]=>.int .i64 n
 |0,_=>undef
 |_+1,ns=>.agg (ns.map (Value.int .i64)).toArray
def EL:Nat->Pi->Prop
 |0,ns=>ns.length=1
 |kn+1,ns=>ns.length=kn+1
def cL(w:World)(γ:G):AV->Obj->Prop
 |.aJ kn kvs,.map es clock=>clock=es.size/\kvs.length=es.size/\
  ∀(i:Nat)(k:Pi)(a:AV)(e:MapEntry),kvs[i]?=some (k,a)->es[i]?=some e->EL kn k/\e.key=Ym kn k/\e.born=i/\aA w γ a e.val
 |.mitr mid n seen,.mapIter (some mb) Np sn st=>γ.mm mid=some mb/\Np=n/\st=n/\sn.toList=seen
 |_,_=>False
def vO(w:World)(γ:G)(b:Nat)(x:PH):Prop:=∃a o,x=some [a]/\w.heap[b]?=some o/\cL w γ a o
def cL.mono{w w':World}{γ γ':G}{a:AV}{o:Obj}(h:cL w γ a o)(ev:No w γ w' γ'):cL w' γ' a o:=by
 unfold cL at h |-
 split at h
 ·exact⟨h.1,h.2.1,fun i k a e q1 q2=>⟨(h.2.2 i k a e q1 q2).1,(h.2.2 i k a e q1 q2).2.1,(h.2.2 i k a e q1 q2).2.2.1,(h.2.2 i k a e q1 q2).2.2.2.eP ev⟩⟩
 ·exact⟨ev.mm _ _ h.1,h.2⟩
 exact h.elim
def vO.mono{w w':World}{γ γ':G}{b:Nat}{x:PH}(h:vO w γ b x)(ev:No w γ w' γ')(e:w'.heap[b]?=w.heap[b]?):vO w' γ' b x:=by
 obtain⟨a,o,h1,h2,h3⟩:=h;exact⟨a,o,h1,e.trans h2,h3.mono ev⟩
def vO.UU{w:World}{γ:G}{b:Nat}{x:PH}(h:vO w γ b x){arr:P1}{e:TypeId}{f:Nat×Nat}(hh:w.heap[b]?=some (.cells arr e f)):False:=by
 obtain⟨a,o,_,h2,h3⟩:=h;rw[hh]at h2;cases h2;cases a<;>exact h3
structure au (N:Nat) (w0:eR) (an:Nat->Nat->Prop) (γ:G) (w:World) (B:Nat->PH) (L:Nat->Option Nat):Prop where
 bs:w0.p γ w
 hN:N<=w.heap.size
 an:∀b o,γ.ro b o->an b o\/N<=b
 robd:∀b o,γ.ro b o->b<w.heap.size
 box:∀id cells b,B id=some cells->γ.β id=some b->∃arr e,w.heap[b]?=some (.cells arr e (0,0))/\cq w γ cells arr.toList/\∀v∈arr.toList,v.oneCell'=true
 β:∀id b,γ.β id=some b->N<=b/\b<w.heap.size/\(∀o,¬γ.ro b o)/\(∀id',γ.own id'≠some b)/\∃cells,B id=some cells
 inj:∀id id' b,γ.β id=some b->γ.β id'=some b->B id=some []\/B id'=some []\/id=id'
 own:∀id b,γ.own id=some b->N<=b/\b<w.heap.size/\∃n,L id=some n
 oinj:∀id id' b,γ.own id=some b->γ.own id'=some b->id=id'
 sp:∀b,γ.sp b->N<=b/\b<w.heap.size/\(∀o,¬γ.ro b o)/\(∀id,γ.β id≠some b)/\(∀id,γ.own id≠some b)
 mm:∀id b,γ.mm id=some b->N<=b/\b<w.heap.size/\(∀o,¬γ.ro b o)/\(∀id,γ.β id≠some b)/\(∀id,γ.own id≠some b)/\¬γ.sp b/\γ.β id=none/\vO w γ b (B id)
 minj:∀id id' b,γ.mm id=some b->γ.mm id'=some b->id=id'
 len:∀id n,L id=some n->γ.cur id=n
 cur0:∀id,L id=none->γ.cur id=0
def AM.B(m:AM):Nat->PH:=fun id=>m.boxes[id]?
def AM.L(m:AM):Nat->Option Nat:=fun id=>m.lens[id]?
def G.grow(γ:G)(n n':Nat):G:={γ with ro:=fun b o=>γ.ro b o\/(n<=b/\b<n')}
def cell_of_heap{w w':World}{b o:Nat}(h:w'.heap[b]?=w.heap[b]?):w'.cell? ⟨b,o,none⟩=w.cell? ⟨b,o,none⟩:=by
 simp[World.cell?,h]
def aM{w:World}{b o:Nat}{arr:P1}{e:TypeId}{f:Nat×Nat}(h:w.heap[b]?=some (.cells arr e f)):w.cell? ⟨b,o,none⟩=arr[o]?:=by
 simp[World.cell?,h]
def Zp{w:World}{b o:Nat}{arr:P1}{e:TypeId}(h:w.heap[b]?=some (.cells arr e (0,0))):w.frozen? ⟨b,o,none⟩=false:=by
 simp[World.frozen?,h]
def aR{w:World}{b:Nat}{x:Obj}(h:w.heap[b]?=some x):b<w.heap.size:=by
 rcases zzaa b w.heap.size with h'|h'
 ·exact h'
 simp[zzbo h']at h
def Ev.UW{w w':World}{γ:G}(h:Below w.heap.size w w')(cr:∀id b,γ.own id=some b->b<w.heap.size)(cW:∀b,γ.sp b->b<w.heap.size):Ev w γ w' (γ.grow w.heap.size w'.heap.size) where
 size:=h.size
 ro b o hb hr:=⟨.inl hr,cell_of_heap (h.block b hb)⟩
 β _ _ h:=h
 cur _:=zzab _
 mm _ _ h:=h
 lp:=rfl
 own id b _ ho:=by
  have hb:=cr id b ho;refine⟨ho,fun arr e he=>⟨arr,by rw[h.block b hb];exact he,zzab _⟩,fun o hr=>?_⟩;obtain hr|⟨hr,_⟩:=hr
  ·exact hr
  omega
 sp b hb:=⟨hb,h.block b (cW b hb)⟩
 ss:=Sz.of_same h.block
variable {N:Nat} {w0:eR} {an:Nat->Nat->Prop} {γ:G} {w:World} {B:Nat->PH} {L:Nat->Option Nat}
def au.dx(hm:au N w0 an γ w B L){w':World}(h:Below w.heap.size w w'):Ev w γ w' (γ.grow w.heap.size w'.heap.size):=
 Ev.UW h (fun id b hb=>(hm.own id b hb).2.1) fun b hb=>(hm.sp b hb).2.1
def au.grow(hm:au N w0 an γ w B L){w':World}(h:Below w.heap.size w w'):au N w0 an (γ.grow w.heap.size w'.heap.size) w' B L where
 bs:=w0.st _ _ _ _ hm.bs ⟨h.os,h.tape,h.output,h.size,fun b hb _=>h.block b hb,(hm.dx h).ro,fun b hb=>.inl hb,fun b o hr=>hr.imp_right fun h=>.inr h.1⟩
 hN:=zzbc hm.hN h.size
 an b o hr:=by
  obtain hr|⟨hr,_⟩:=hr
  ·exact hm.an b o hr
  exact .inr (zzbc hm.hN hr)
 robd b o hr:=by
  obtain hr|⟨_,hr⟩:=hr
  ·exact zzba (hm.robd b o hr) h.size
  exact hr
 box id cells b hb h1:=by
  obtain⟨arr,e,h2,h3,h4⟩:=hm.box id cells b hb h1;exact⟨arr,e,by rw[h.block b (aR h2)];exact h2,h3.mono (hm.dx h),h4⟩
 β id b hb:=by
  obtain⟨h1,h2,h3,h4,h5⟩:=hm.β id b hb;refine⟨h1,zzba h2 h.size,fun o hr=>?_,h4,h5⟩;obtain hr|⟨hr,_⟩:=hr
  ·exact h3 o hr
  omega
 inj:=hm.inj
 own id b hb:=by
  obtain⟨h1,h2,h3⟩:=hm.own id b hb;exact⟨h1,zzba h2 h.size,h3⟩
 oinj:=hm.oinj
 sp b hb:=by
  obtain⟨h1,h2,h3,h4⟩:=hm.sp b hb;refine⟨h1,zzba h2 h.size,fun o hr=>?_,h4⟩;obtain hr|⟨hr,_⟩:=hr
  ·exact h3 o hr
  omega
 mm id b hb:=by
  obtain⟨h1,h2,h3,h4,h5,h6,h8,h7⟩:=hm.mm id b hb;refine⟨h1,zzba h2 h.size,fun o hr=>?_,h4,h5,h6,h8,h7.mono (hm.dx h).cH.AB (h.block b h2)⟩;obtain hr|⟨hr,_⟩:=hr
  ·exact h3 o hr
  omega
 minj:=hm.minj
 len:=hm.len
 cur0:=hm.cur0
def G.box(γ:G)(id b:Nat):G:={γ with β:=fun i=>if i=id then some b else γ.β i}
def au.dy(hm:au N w0 an γ w B L)(id:Nat)(aL:B id=none)(o:Obj):Ev w γ (w.alloc o) (γ.box id w.heap.size) where
 size:=zd
 ro b o' hb hr:=⟨hr,cell_of_heap (Below.heap_alloc w o b hb)⟩
 β i b hb:=by
  have:i≠id:=by rintro rfl;obtain⟨_,_,_,_,c,hc⟩:=hm.β i b hb;rw[aL]at hc;cases hc
  simp[G.box,this,hb]
 cur _:=zzab _
 mm _ _ h:=h
 lp:=rfl
 own i b _ ho:=⟨ho,fun arr e he=>⟨arr,by rw[Below.heap_alloc w o b (hm.own i b ho).2.1];exact he,zzab _⟩,fun _ h=>h⟩
 sp b hb:=⟨hb,Below.heap_alloc w o b (hm.sp b hb).2.1⟩
 ss:=Sz.of_same (Below.heap_alloc w o)
def au.eY(hm:au N w0 an γ w B L)(id:Nat)(aL:B id=none){cells:P2}{arr:P1}{e:TypeId}(hr:cq w γ cells arr.toList)(Iu:∀v∈arr.toList,v.oneCell'=true):
  au N w0 an (γ.box id w.heap.size) (w.alloc (.cells arr e)) (fun i=>if i=id then some cells else B i) L where
 bs:=w0.st _ _ _ _ hm.bs ⟨rfl,rfl,rfl,zd,fun b hb _=>Below.heap_alloc w _ b hb,(hm.dy id aL _).ro,fun b hb=>by
  obtain⟨i,hi⟩|hb|hb:=hb
  ·by_cases h:i=id
   ·simp[G.box,h]at hi;exact .inr zE
   simp[G.box,h]at hi;exact .inl (.inl ⟨i,hi⟩)
  ·exact .inl (.inr (.inl hb))
  exact .inl (.inr (.inr hb)),fun _ _ h=>.inl h⟩
 hN:=by have:=hm.hN;simp;omega
 an:=hm.an
 robd b o h:=by have:=hm.robd b o h;simp;omega
 box i cs b hb h1:=by
  by_cases hi:i=id
  ·subst hi;simp at hb;subst hb;simp[G.box]at h1;subst h1;exact⟨arr,e,by show(w.heap.push _)[w.heap.size]?=_;simp,hr.mono (hm.dy i aL _),Iu⟩
  simp[hi]at hb;simp[G.box,hi]at h1;obtain⟨bN,e',h2,h3,h4⟩:=hm.box i cs b hb h1;exact⟨bN,e',by rw[Below.heap_alloc w _ b (aR h2)];exact h2,h3.mono (hm.dy id aL _),h4⟩
 β i b hb:=by
  by_cases hi:i=id
  ·subst hi;simp[G.box]at hb;subst hb;refine⟨hm.hN,zd,fun o h=>?_,fun i' h=>?_,cells,zd⟩
   ·have:=hm.robd _ o h;omega
   have:=(hm.own i' _ h).2.1;omega
  simp[G.box,hi]at hb;obtain⟨h1,h2,h3,h4,c,hc⟩:=hm.β i b hb;exact⟨h1,by simp;omega,h3,h4,c,by simp[hi,hc]⟩
 inj i i' b h h':=by
  by_cases hi:i=id<;>by_cases dn:i'=id
  ·exact .inr (.inr (by rw[hi,dn]))
  ·simp[G.box,hi]at h;simp[G.box,dn]at h';have:=(hm.β i' b h').2.1;omega
  ·simp[G.box,dn]at h';simp[G.box,hi]at h;have:=(hm.β i b h).2.1;omega
  simp[G.box,hi]at h;simp[G.box,dn]at h';simp only[if_neg hi,if_neg dn];exact hm.inj i i' b h h'
 own i b hb:=by
  obtain⟨h1,h2,h3⟩:=hm.own i b hb;exact⟨h1,by simp;omega,h3⟩
 oinj:=hm.oinj
 sp b hb:=by
  obtain⟨h1,h2,h3,h4,h5⟩:=hm.sp b hb;refine⟨h1,by simp;omega,h3,fun i hi=>?_,h5⟩;by_cases aL:i=id
  ·simp[G.box,aL]at hi;omega
  simp[G.box,aL]at hi;exact h4 i hi
 mm i' b hb:=by
  obtain⟨h1,h2,h3,h4,h5,h6,h8,h7⟩:=hm.mm i' b hb
  have aO:i'≠id:=by
   rintro rfl;obtain⟨_,_,hx,_⟩:=h7;rw[aL]at hx;cases hx
  refine⟨h1,by simp;omega,h3,fun i hi=>?_,h5,h6,by simp[G.box,aO,h8],?_⟩
  ·by_cases aL:i=id
   ·simp[G.box,aL]at hi;omega
   simp[G.box,aL]at hi;exact h4 i hi
  simp only[aO,if_false];exact h7.mono (hm.dy id aL _).cH.AB (Below.heap_alloc w _ b h2)
 minj:=hm.minj
 len:=hm.len
 cur0:=hm.cur0
def tK(arr:P1):Nat->PQ->P1
 |_,[]=>arr
 |o,v::r=>tK (arr.setIfInBounds o v) (o+1) r
def Zz:∀(vs:PQ)(arr:P1)(o:Nat),(tK arr o vs).size=arr.size
 |[],_,_=>rfl
 |v::r,arr,o=>by rw[tK,Zz r];simp
def heap_setCell_same{w:World}{b o:Nat}{arr:P1}{e:TypeId}{f:Nat×Nat}(h:w.heap[b]?=some (.cells arr e f))(v:Value):
  (w.setCell ⟨b,o,none⟩ v).heap[b]?=some (.cells (arr.setIfInBounds o v) e f):=by
 simp[World.setCell,zzdq,h]
def Xd(b:Nat):∀(vs:PQ)(o:Nat)(w:World)(arr:P1)(e:TypeId)(f:Nat×Nat),w.heap[b]?=some (.cells arr e f)->
  (w.setCells b o vs).heap[b]?=some (.cells (tK arr o vs) e f)
 |[],_,_,_,_,_,h=>h
 |v::r,o,w,arr,e,f,h=>by
  rw[World.setCells,tK];exact Xd b r (o+1) _ _ e f (heap_setCell_same h v)
def Xu(b:Nat){N:Nat}(hb:N<=b):∀(vs:PQ)(o:Nat)(w:World),Below N w (w.setCells b o vs)
 |[],_,_=>Below.refl _ _
 |v::r,o,w=>by
  rw[World.setCells];exact((Below.refl N w).setCell (p:=⟨b,o,none⟩) hb v).trans (Xu b hb r (o+1) _)
def Qz(b:Nat):∀(vs:PQ)(o:Nat)(w:World)(b':Nat),b'≠b->(w.setCells b o vs).heap[b']?=w.heap[b']?
 |[],_,_,_,_=>rfl
 |v::r,o,w,b',h=>by
  rw[World.setCells,Qz b r (o+1) _ b' h];exact Below.heap_setCell w ⟨b,o,none⟩ v b' h
def aG(b:Nat):∀(vs:PQ)(o:Nat)(w:World),(w.setCells b o vs).heap.size=w.heap.size
 |[],_,_=>rfl
 |v::r,o,w=>by
  rw[World.setCells,aG b r];simp[World.setCell]
def Sz.setCells(b o:Nat)(vs:PQ)(w:World):Sz w (w.setCells b o vs):=fun b' arr e f h=>by
 by_cases hb:b'=b
 ·subst hb;exact⟨_,Xd b' vs o w arr e f h,Zz vs arr o⟩
 exact⟨arr,(Qz b vs o w b' hb).trans h,rfl⟩
def setA(cs:P2):Nat->P2->P2
 |_,[]=>cs
 |o,a::r=>setA (cs.set o a) (o+1) r
def Wy:∀(vs:PQ)(o:Nat)(arr:P1),(∀v∈arr.toList,v.oneCell'=true)->(∀v∈vs,v.oneCell'=true)->∀v∈(tK arr o vs).toList,v.oneCell'=true
 |[],_,_,h,_=>h
 |u::vs,o,arr,h,h'=>by
  rw[tK];refine Wy vs (o+1) _ (fun v hv=>?_) (fun v hv=>h' v (by simp[hv]));rw[zzdn]at hv;rcases zzgi hv with hv|rfl
  ·exact h v hv
  exact h' _ zd
def ak.setA{w:World}{γ:G}:∀{as':P2}{vs:PQ}{o:Nat}{cs:P2}{arr:P1},ak w γ as' vs->ak w γ cs arr.toList->ak w γ (setA cs o as') (tK arr o vs).toList
 |[],[],_,_,_,_,h=>h
 |[],_::_,_,_,_,h,_=>by have:=h.1;simp at this
 |_::_,[],_,_,_,h,_=>by have:=h.1;simp at this
 |a::as',v::vs,o,cs,arr,h,hc=>by
  have h0:aA w γ a v:=h.2 0 a v rfl rfl;have hs:ak w γ as' vs:=⟨by have:=h.1;simpa using this,fun i x y h1 h2=>h.2 (i+1) x y (Nm h1) (Nm h2)⟩;rw[Abs.setA,tK];refine ak.setA hs ?_;rw[zzdn];exact hc.set o h0
def cq.setA{w:World}{γ:G}:∀{as':P2}{vs:PQ}{o:Nat}{cs:P2}{arr:P1},ak w γ as' vs->cq w γ cs arr.toList->cq w γ (setA cs o as') (tK arr o vs).toList
 |[],[],_,_,_,_,h=>h
 |[],_::_,_,_,_,h,_=>by have:=h.1;simp at this
 |_::_,[],_,_,_,h,_=>by have:=h.1;simp at this
 |a::as',v::vs,o,cs,arr,h,hc=>by
  have h0:aA w γ a v:=h.2 0 a v rfl rfl;have hs:ak w γ as' vs:=⟨by have:=h.1;simpa using this,fun i x y h1 h2=>h.2 (i+1) x y (Nm h1) (Nm h2)⟩;rw[Abs.setA,tK];refine cq.setA hs ?_;rw[zzdn];exact hc.set o h0
def oE:∀(as':P2)(o:Nat)(cs:P2),(setA cs o as').length=cs.length
 |[],_,_=>rfl
 |a::as',o,cs=>by rw[setA,oE as'];simp
def au.cw(hm:au N w0 an γ w B L){id b:Nat}(hb:γ.β id=some b)(o:Nat)(vs:PQ):Ev w γ (w.setCells b o vs) γ where
 size:=by rw[aG];exact zzab _
 ro b' o' _ hr:=⟨hr,cell_of_heap (Qz b vs o w b' (by rintro rfl;exact(hm.β id b' hb).2.2.1 o' hr))⟩
 β _ _ h:=h
 cur _:=zzab _
 mm _ _ h:=h
 lp:=rfl
 own i b' _ ho:=by
  have aO:b'≠b:=by rintro rfl;exact(hm.β id b' hb).2.2.2.1 i ho
  exact⟨ho,fun arr e he=>⟨arr,by rw[Qz b vs o w b' aO];exact he,zzab _⟩,fun _ h=>h⟩
 sp b' cM:=⟨cM,Qz b vs o w b' (by rintro rfl;exact(hm.sp b' cM).2.2.2.1 id hb)⟩
 ss:=Sz.setCells b o vs w
def au.store(hm:au N w0 an γ w B L){id:Nat}{cells:P2}(hB:B id=some cells){b:Nat}{arr:P1}{e:TypeId}(hb:γ.β id=some b)
  (hh:w.heap[b]?=some (.cells arr e (0,0)))(hr:cq w γ cells arr.toList)(Iu:∀v∈arr.toList,v.oneCell'=true){o:Nat}{as':P2}{vs:PQ}(ha:ak w γ as' vs)(h1v:∀v∈vs,v.oneCell'=true)(lF:cells≠[]):
  au N w0 an γ (w.setCells b o vs) (fun i=>if i=id then some (setA cells o as')else B i) L where
 bs:=w0.st _ _ _ _ hm.bs ⟨(Xu b (zzab b) vs o w).os,(Xu b (zzab b) vs o w).tape,(Xu b (zzab b) vs o w).output,by rw[aG];exact zzab _,
  fun b' _ iI=>Qz b vs o w b' (by rintro rfl;exact iI (.inl ⟨id,hb⟩)),(hm.cw hb o vs).ro,fun b hb=>.inl hb,fun _ _ h=>.inl h⟩
 hN:=by rw[aG];exact hm.hN
 an:=hm.an
 robd b' o' h:=by rw[aG];exact hm.robd b' o' h
 box i cs b' cz h1:=by
  by_cases hi:i=id
  ·subst hi;simp at cz;subst cz;obtain rfl:b'=b:=Option.some.inj (h1.symm.trans hb);exact⟨_,e,Xd b' vs o w arr e _ hh,(cq.setA ha hr).mono (hm.cw hb o vs),Wy vs o arr Iu h1v⟩
  simp[hi]at cz;obtain⟨bN,e',h2,h3,h4⟩:=hm.box i cs b' cz h1;by_cases aO:b'=b
  ·subst aO;rcases hm.inj _ _ _ h1 hb with h|h|h
   ·rw[h]at cz;cases cz;exact⟨_,e,Xd b' vs o w arr e _ hh,cq.nil,Wy vs o arr Iu h1v⟩
   ·rw[h]at hB;cases hB;exact absurd rfl lF
   exact absurd h hi
  exact⟨bN,e',by rw[Qz b vs o w b' aO];exact h2,h3.mono (hm.cw hb o vs),h4⟩
 β i b' cz:=by
  obtain⟨h1,h2,h3,h4,c,hc⟩:=hm.β i b' cz;refine⟨h1,by rw[aG];exact h2,h3,h4,?_⟩;by_cases hi:i=id
  ·exact⟨setA cells o as',by simp[hi]⟩
  exact⟨c,by simp[hi,hc]⟩
 inj i i' b' h h':=by
  rcases hm.inj i i' b' h h' with k|k|k
  ·refine .inl ?_;by_cases hi:i=id
   ·subst hi;rw[k]at hB;cases hB;exact absurd rfl lF
   simp only[if_neg hi];exact k
  ·refine .inr (.inl ?_);by_cases hi:i'=id
   ·subst hi;rw[k]at hB;cases hB;exact absurd rfl lF
   simp only[if_neg hi];exact k
  exact .inr (.inr k)
 own i b' cz:=by
  obtain⟨h1,h2,h3⟩:=hm.own i b' cz;exact⟨h1,by rw[aG];exact h2,h3⟩
 oinj:=hm.oinj
 sp b' cM:=by
  obtain⟨h1,h2,h3⟩:=hm.sp b' cM;exact⟨h1,by rw[aG];exact h2,h3⟩
 mm i' b' cM:=by
  obtain⟨h1,h2,h3,h4,h5,h6,h8,h7⟩:=hm.mm i' b' cM;have aO:i'≠id:=by rintro rfl;rw[hb]at h8;cases h8
  refine⟨h1,by rw[aG];exact h2,h3,h4,h5,h6,h8,?_⟩;simp only[aO,if_false];exact h7.mono (hm.cw hb o vs).cH.AB (Qz b vs o w b' (by rintro rfl;exact h4 id hb))
 minj:=hm.minj
 len:=hm.len
 cur0:=hm.cur0
def G.extend(γ:G)(id b p q n:Nat):G:={γ with cur:=fun i=>if i=id then n else γ.cur i,ro:=fun b' o=>γ.ro b' o\/(b'=b/\p<=o/\o<q)}
def au.kz(hm:au N w0 an γ w B L){id b p q n:Nat}{vs:PQ}(ho:γ.own id=some b)(hn:γ.cur id<=n)(hq:γ.cur id=n->q<=p)(hpq:q=p+vs.length)(iW:∀o,p<=o->¬γ.ro b o):Ev w γ (w.setCells b p vs) (γ.extend id b p q n) where
 size:=by rw[aG];exact zzab _
 ro b' o' _ hr:=by
  refine⟨.inl hr,World.cell?_setCells_out b vs p w _ fun e1 _=>?_⟩;simp only at e1 |-
  subst e1;rcases zzaa o' p with h|h
  ·exact .inl h
  exact absurd hr (iW o' h)
 β _ _ h:=h
 cur i:=by
  simp only[G.extend];split
  ·rename_i h;subst h;exact hn
  exact zzab _
 mm _ _ h:=h
 lp:=rfl
 own i b' hc hoi:=by
  by_cases hi:i=id
  ·subst hi;obtain rfl:b'=b:=Option.some.inj (hoi.symm.trans ho);simp only[G.extend,if_true]at hc;have:=hq hc.symm;have hvs:vs=[]:=zzbe zE;subst hvs;refine⟨hoi,fun arr e he=>⟨arr,he,zzab _⟩,fun o hr=>?_⟩;obtain hr|⟨_,h1,h2⟩:=hr
   ·exact hr
   omega
  have aO:b'≠b:=by rintro rfl;exact hi (hm.oinj _ _ _ hoi ho)
  refine⟨hoi,fun arr e he=>⟨arr,by rw[Qz b vs p w b' aO];exact he,zzab _⟩,fun o hr=>?_⟩;obtain hr|⟨h1,_,_⟩:=hr
  ·exact hr
  exact absurd h1 aO
 sp b' cM:=⟨cM,Qz b vs p w b' (by rintro rfl;exact(hm.sp b' cM).2.2.2.2 id ho)⟩
 ss:=Sz.setCells b p vs w
def au.extend(hm:au N w0 an γ w B L){id b p q n:Nat}{vs:PQ}(ho:γ.own id=some b)(hn:γ.cur id<=n)(hq:γ.cur id=n->q<=p)(hpq:q=p+vs.length)(iW:∀o,p<=o->¬γ.ro b o):
  au N w0 an (γ.extend id b p q n) (w.setCells b p vs) B (fun i=>if i=id then some n else L i) where
 bs:=w0.st _ _ _ _ hm.bs ⟨(Xu b (zzab b) vs p w).os,(Xu b (zzab b) vs p w).tape,(Xu b (zzab b) vs p w).output,by rw[aG];exact zzab _,
  fun b' _ iI=>Qz b vs p w b' (by rintro rfl;exact iI (.inr (.inl ⟨id,ho⟩))),(hm.kz ho hn hq hpq iW).ro,fun b hb=>.inl hb,fun b' o' hr=>hr.imp_right fun h=>.inl (by rw[h.1];exact .inr (.inl ⟨id,ho⟩))⟩
 hN:=by rw[aG];exact hm.hN
 an b' o' hr:=by
  obtain hr|⟨rfl,_,_⟩:=hr
  ·exact hm.an b' o' hr
  exact .inr (hm.own id b' ho).1
 robd b' o' hr:=by
  rw[aG];obtain hr|⟨rfl,_,_⟩:=hr
  ·exact hm.robd b' o' hr
  exact(hm.own id b' ho).2.1
 box i cs b' cz h1:=by
  obtain⟨bN,e',h2,h3,h4⟩:=hm.box i cs b' cz h1;have aO:b'≠b:=by rintro rfl;exact(hm.β i b' h1).2.2.2.1 id ho
  exact⟨bN,e',by rw[Qz b vs p w b' aO];exact h2,h3.mono (hm.kz ho hn hq hpq iW),h4⟩
 β i b' cz:=by
  obtain⟨h1,h2,h3,h4,hc⟩:=hm.β i b' cz;refine⟨h1,by rw[aG];exact h2,fun o hr=>?_,h4,hc⟩;obtain hr|⟨rfl,_,_⟩:=hr
  ·exact h3 o hr
  exact h4 id ho
 inj:=hm.inj
 own i b' cz:=by
  obtain⟨h1,h2,m,fI⟩:=hm.own i b' cz;refine⟨h1,by rw[aG];exact h2,?_⟩;by_cases hi:i=id
  ·exact⟨n,by simp[hi]⟩
  exact⟨m,by simp[hi,fI]⟩
 oinj:=hm.oinj
 sp b' cM:=by
  obtain⟨h1,h2,h3,h4,h5⟩:=hm.sp b' cM;refine⟨h1,by rw[aG];exact h2,fun o hr=>?_,h4,h5⟩;obtain hr|⟨rfl,_,_⟩:=hr
  ·exact h3 o hr
  exact h5 id ho
 mm i' b' cM:=by
  obtain⟨h1,h2,h3,h4,h5,h6,h8,h7⟩:=hm.mm i' b' cM;have aO:b'≠b:=by rintro rfl;exact h5 id ho
  refine⟨h1,by rw[aG];exact h2,fun o hr=>?_,h4,h5,h6,h8,h7.mono (hm.kz ho hn hq hpq iW).cH.AB (Qz b vs p w b' aO)⟩;obtain hr|⟨rfl,_,_⟩:=hr
  ·exact h3 o hr
  exact aO rfl
 minj:=hm.minj
 len i m hi:=by
  by_cases h:i=id
  ·simp[h]at hi;simp[G.extend,h,hi]
  simp[h]at hi;simp[G.extend,h,hm.len i m hi]
 cur0 i hi:=by
  by_cases h:i=id
  ·simp[h]at hi
  simp[h]at hi;simp[G.extend,h,hm.cur0 i hi]
def G.renew(γ:G)(id b q n:Nat):G:={γ with own:=fun i=>if i=id then some b else γ.own i,cur:=fun i=>if i=id then n else γ.cur i,ro:=fun b' o=>γ.ro b' o\/(b'=b/\o<q)}
def au.fJ(hm:au N w0 an γ w B L){id q n:Nat}(hn:γ.cur id<=n)(aO:γ.cur id=n->γ.own id=none)(o:Obj):Ev w γ (w.alloc o) (γ.renew id w.heap.size q n) where
 size:=zd
 ro b' o' hb hr:=⟨.inl hr,cell_of_heap (Below.heap_alloc w o b' hb)⟩
 β _ _ h:=h
 cur i:=by
  simp only[G.renew];split
  ·rename_i h;subst h;exact hn
  exact zzab _
 mm _ _ h:=h
 lp:=rfl
 own i b' hc hoi:=by
  by_cases hi:i=id
  ·subst hi;simp only[G.renew,if_true]at hc;rw[aO hc.symm]at hoi;cases hoi
  have ah:=(hm.own i b' hoi).2.1;refine⟨by simp[G.renew,hi,hoi],fun arr e he=>⟨arr,by rw[Below.heap_alloc w o b' ah];exact he,zzab _⟩,fun o' hr=>?_⟩;obtain hr|⟨h1,_⟩:=hr
  ·exact hr
  omega
 sp b hb:=⟨hb,Below.heap_alloc w o b (hm.sp b hb).2.1⟩
 ss:=Sz.of_same (Below.heap_alloc w o)
def au.renew(hm:au N w0 an γ w B L){id q n:Nat}(hn:γ.cur id<=n)(aO:γ.cur id=n->γ.own id=none)(o:Obj):
  au N w0 an (γ.renew id w.heap.size q n) (w.alloc o) B (fun i=>if i=id then some n else L i) where
 bs:=w0.st _ _ _ _ hm.bs ⟨rfl,rfl,rfl,zd,fun b hb _=>Below.heap_alloc w _ b hb,(hm.fJ hn aO o).ro,fun b hb=>by
  obtain hb|⟨i,hi⟩|hb:=hb
  ·exact .inl (.inl hb)
  ·by_cases h:i=id
   ·simp[G.renew,h]at hi;exact .inr zE
   simp[G.renew,h]at hi;exact .inl (.inr (.inl ⟨i,hi⟩))
  exact .inl (.inr (.inr hb)),fun b' o' hr=>hr.imp_right fun h=>.inr (by rw[h.1];exact zzab _)⟩
 hN:=by have:=hm.hN;simp;omega
 an b' o' hr:=by
  obtain hr|⟨rfl,_⟩:=hr
  ·exact hm.an b' o' hr
  exact .inr hm.hN
 robd b' o' hr:=by
  obtain hr|⟨rfl,_⟩:=hr
  ·have:=hm.robd b' o' hr;simp;omega
  simp
 box i cs b' cz h1:=by
  obtain⟨bN,e',h2,h3,h4⟩:=hm.box i cs b' cz h1;exact⟨bN,e',by rw[Below.heap_alloc w _ b' (aR h2)];exact h2,h3.mono (hm.fJ hn aO o),h4⟩
 β i b' cz:=by
  obtain⟨h1,h2,h3,h4,hc⟩:=hm.β i b' cz;refine⟨h1,by simp;omega,fun o' hr=>?_,fun i' hr=>?_,hc⟩
  ·obtain hr|⟨rfl,_⟩:=hr
   ·exact h3 o' hr
   omega
  by_cases hi:i'=id
  ·simp[G.renew,hi]at hr;omega
  simp[G.renew,hi]at hr;exact h4 i' hr
 inj:=hm.inj
 own i b' cz:=by
  by_cases hi:i=id
  ·simp[G.renew,hi]at cz;subst cz;exact⟨hm.hN,zd,n,by simp[hi]⟩
  simp[G.renew,hi]at cz;obtain⟨h1,h2,m,fI⟩:=hm.own i b' cz;exact⟨h1,by simp;omega,m,by simp[hi,fI]⟩
 oinj i i' b' h h':=by
  by_cases hi:i=id<;>by_cases dn:i'=id
  ·rw[hi,dn]
  ·simp[G.renew,hi]at h;simp[G.renew,dn]at h';have:=(hm.own i' b' h').2.1;omega
  ·simp[G.renew,dn]at h';simp[G.renew,hi]at h;have:=(hm.own i b' h).2.1;omega
  simp[G.renew,hi]at h;simp[G.renew,dn]at h';exact hm.oinj i i' b' h h'
 sp b hb:=by
  obtain⟨h1,h2,h3,h4,h5⟩:=hm.sp b hb;refine⟨h1,by simp;omega,fun o' hr=>?_,h4,fun i hi=>?_⟩
  ·obtain hr|⟨rfl,_⟩:=hr
   ·exact h3 o' hr
   omega
  by_cases h:i=id
  ·simp[G.renew,h]at hi;omega
  simp[G.renew,h]at hi;exact h5 i hi
 minj:=hm.minj
 mm i' b hb:=by
  obtain⟨h1,h2,h3,h4,h5,h6,h8,h7⟩:=hm.mm i' b hb;refine⟨h1,by simp;omega,fun o' hr=>?_,h4,fun i hi=>?_,h6,h8,h7.mono (hm.fJ hn aO o).cH.AB (Below.heap_alloc w _ b h2)⟩
  ·obtain hr|⟨rfl,_⟩:=hr
   ·exact h3 o' hr
   omega
  by_cases h:i=id
  ·simp[G.renew,h]at hi;omega
  simp[G.renew,h]at hi;exact h5 i hi
 len i m hi:=by
  by_cases h:i=id
  ·simp[h]at hi;simp[G.renew,h,hi]
  simp[h]at hi;simp[G.renew,h,hm.len i m hi]
 cur0 i hi:=by
  by_cases h:i=id
  ·simp[h]at hi
  simp[h]at hi;simp[G.renew,h,hm.cur0 i hi]
def au.drew(hm:au N w0 an γ w B L):au N w0 an γ w.drew B L where
 bs:=w0.st _ _ _ _ hm.bs ⟨rfl,rfl,rfl,zzab _,fun _ _ _=>rfl,fun _ _ _ h=>⟨h,rfl⟩,fun _ hb=>.inl hb,fun _ _ h=>.inl h⟩
 hN:=hm.hN
 an:=hm.an
 robd:=hm.robd
 box i cs b hb h1:=by
  obtain⟨arr,e,h2,h3,h4⟩:=hm.box i cs b hb h1;exact⟨arr,e,h2,h3.mono ⟨zzab _,fun _ _ _ h=>⟨h,rfl⟩,fun _ _ h=>h,fun _=>zzab _,fun _ _ h=>h,rfl,fun _ _ _ h=>⟨h,fun arr _ h=>⟨arr,h,zzab _⟩,fun _ h=>h⟩,fun _ h=>⟨h,rfl⟩,Sz.refl w⟩,h4⟩
 β:=hm.β
 inj:=hm.inj
 own:=hm.own
 oinj:=hm.oinj
 sp:=hm.sp
 mm i b hb:=by
  obtain⟨h1,h2,h3,h4,h5,h6,h8,h7⟩:=hm.mm i b hb;exact⟨h1,h2,h3,h4,h5,h6,h8,h7.mono (w':=w.drew) (γ':=γ) ⟨zzab _,fun _ _ _ h=>⟨h,rfl⟩,fun _ _ h=>h,fun _=>zzab _,fun _ _ h=>h,fun _ _ h=>h,fun _ _ _ h=>⟨h,fun arr _ h=>⟨arr,h,zzab _⟩,fun _ h=>h⟩,Sz.refl w⟩ rfl⟩
 minj:=hm.minj
 len:=hm.len
 cur0:=hm.cur0
def Ev.drew(w:World)(γ:G):Ev w γ w.drew γ:=
 ⟨zzab _,fun _ _ _ h=>⟨h,rfl⟩,fun _ _ h=>h,fun _=>zzab _,fun _ _ h=>h,rfl,fun _ _ _ h=>⟨h,fun arr _ h=>⟨arr,h,zzab _⟩,fun _ h=>h⟩,fun _ h=>⟨h,rfl⟩,Sz.refl w⟩
def au.kill(hm:au N w0 an γ w B L){id b:Nat}(hb:γ.β id=some b):au N w0 an γ w (fun i=>if i=id then some []else B i) L where
 bs:=hm.bs
 hN:=hm.hN
 an:=hm.an
 robd:=hm.robd
 box i cells b' cz h1:=by
  by_cases hi:i=id
  ·subst hi;simp at cz;subst cz;obtain⟨_,_,_,_,c,hc⟩:=hm.β i b' h1;obtain⟨arr,e,h2,_,h4⟩:=hm.box i c b' hc h1;exact⟨arr,e,h2,cq.nil,h4⟩
  simp[hi]at cz;exact hm.box i cells b' cz h1
 β i b' cz:=by
  obtain⟨h1,h2,h3,h4,c,hc⟩:=hm.β i b' cz;refine⟨h1,h2,h3,h4,?_⟩;by_cases hi:i=id
  ·exact⟨[],by simp[hi]⟩
  exact⟨c,by simp[hi,hc]⟩
 inj i i' b' h h':=by
  rcases hm.inj i i' b' h h' with k|k|k
  ·refine .inl ?_;by_cases hi:i=id
   ·simp[hi]
   simp only[if_neg hi];exact k
  ·refine .inr (.inl ?_);by_cases hi:i'=id
   ·simp[hi]
   simp only[if_neg hi];exact k
  exact .inr (.inr k)
 own:=hm.own
 oinj:=hm.oinj
 sp:=hm.sp
 mm i' b' cM:=by
  obtain⟨h1,h2,h3,h4,h5,h6,h8,h7⟩:=hm.mm i' b' cM;have aO:i'≠id:=by rintro rfl;rw[hb]at h8;cases h8
  exact⟨h1,h2,h3,h4,h5,h6,h8,by simp only[aO,if_false];exact h7⟩
 minj:=hm.minj
 len:=hm.len
 cur0:=hm.cur0
def au.share(hm:au N w0 an γ w B L){id b id':Nat}{cells new:P2}(hb:γ.β id=some b)(hB:B id=some cells)(lF:cells≠[])(cI:B id'=none){arr:P1}{e:TypeId}
  (hh:w.heap[b]?=some (.cells arr e (0,0))){p:Nat}{vs:PQ}(hr:cq w γ new (tK arr p vs).toList)(Iu:∀v∈arr.toList,v.oneCell'=true)(h1v:∀v∈vs,v.oneCell'=true):
  Ev w γ (w.setCells b p vs) (γ.box id' b)/\au N w0 an (γ.box id' b) (w.setCells b p vs) (fun i=>if i=id' then some new else if i=id then some []else B i) L:=by
 have aqP:id'≠id:=by rintro rfl;rw[cI]at hB;cases hB
 have UX:∀i b',γ.β i=some b'->i≠id':=fun i b' h=>by
  rintro rfl;obtain⟨_,_,_,_,c,hc⟩:=hm.β i b' h;rw[cI]at hc;cases hc
 have bY:=hm.cw hb p vs
 have bP:Ev w γ (w.setCells b p vs) (γ.box id' b):=
  ⟨bY.size,bY.ro,fun i b' h=>by simp[G.box,UX i b' h,h],bY.cur,bY.mm,bY.lp,bY.own,bY.sp,bY.ss⟩
 refine⟨bP,?_⟩
 exact{
  bs:=w0.st _ _ _ _ hm.bs ⟨(Xu b (zzab b) vs p w).os,(Xu b (zzab b) vs p w).tape,(Xu b (zzab b) vs p w).output,by rw[aG];exact zzab _,
   fun b' _ iI=>Qz b vs p w b' (by rintro rfl;exact iI (.inl ⟨id,hb⟩)),bP.ro,fun b' cM=>by
    obtain⟨i,hi⟩|cM|cM:=cM
    ·by_cases h:i=id'
     ·simp[G.box,h]at hi;subst hi;exact .inl (.inl ⟨id,hb⟩)
     simp[G.box,h]at hi;exact .inl (.inl ⟨i,hi⟩)
    ·exact .inl (.inr (.inl cM))
    exact .inl (.inr (.inr cM)),fun _ _ h=>.inl h⟩
  hN:=by rw[aG];exact hm.hN
  an:=hm.an
  robd:=fun b' o' h=>by rw[aG];exact hm.robd b' o' h
  box:=fun i cs b' cz h1=>by
   by_cases hi:i=id'
   ·subst hi;simp at cz;subst cz;simp[G.box]at h1;subst h1;exact⟨_,e,Xd b vs p w arr e _ hh,hr.mono bP,Wy vs p arr Iu h1v⟩
   simp[G.box,hi]at h1;simp only[if_neg hi]at cz;by_cases Pn:i=id
   ·subst Pn;simp at cz;subst cz;obtain rfl:b'=b:=Option.some.inj (h1.symm.trans hb);exact⟨_,e,Xd b' vs p w arr e _ hh,cq.nil,Wy vs p arr Iu h1v⟩
   simp only[if_neg Pn]at cz;obtain⟨bN,e',h2,h3,h4⟩:=hm.box i cs b' cz h1;by_cases aO:b'=b
   ·subst aO;rcases hm.inj _ _ _ h1 hb with h|h|h
    ·rw[h]at cz;cases cz;exact⟨_,e,Xd b' vs p w arr e _ hh,cq.nil,Wy vs p arr Iu h1v⟩
    ·rw[h]at hB;cases hB;exact absurd rfl lF
    exact absurd h Pn
   exact⟨bN,e',by rw[Qz b vs p w b' aO];exact h2,h3.mono bP,h4⟩
  β:=fun i b' cz=>by
   by_cases hi:i=id'
   ·subst hi;simp[G.box]at cz;subst cz;obtain⟨h1,h2,h3,h4,_⟩:=hm.β id b hb;exact⟨h1,by rw[aG];exact h2,h3,h4,new,zd⟩
   simp[G.box,hi]at cz;obtain⟨h1,h2,h3,h4,c,hc⟩:=hm.β i b' cz;refine⟨h1,by rw[aG];exact h2,h3,h4,?_⟩;by_cases Pn:i=id
   ·exact⟨[],by simp[hi,Pn,Ne.symm aqP]⟩
   exact⟨c,by simp[hi,Pn,hc]⟩
  inj:=fun i i' b' h h'=>by
   have key:∀j,j≠id'->γ.β j=some b->(if j=id' then some new else if j=id then some []else B j)=some []:=fun j hj hβ=>by
    rw[if_neg hj];by_cases AD:j=id
    ·rw[if_pos AD]
    rw[if_neg AD];rcases hm.inj _ _ _ hβ hb with h|h|h
    ·exact h
    ·rw[h]at hB;cases hB;exact absurd rfl lF
    exact absurd h AD
   by_cases hi:i=id'<;>by_cases dn:i'=id'
   ·exact .inr (.inr (by rw[hi,dn]))
   ·simp[G.box,hi]at h;simp[G.box,dn]at h';subst h;exact .inr (.inl (key i' dn h'))
   ·simp[G.box,hi]at h;simp[G.box,dn]at h';subst h';exact .inl (key i hi h)
   simp[G.box,hi]at h;simp[G.box,dn]at h';simp only[if_neg hi,if_neg dn];rcases hm.inj i i' b' h h' with k|k|k
   ·refine .inl ?_;by_cases Pn:i=id
    ·rw[if_pos Pn]
    rw[if_neg Pn];exact k
   ·refine .inr (.inl ?_);by_cases Pn:i'=id
    ·rw[if_pos Pn]
    rw[if_neg Pn];exact k
   exact .inr (.inr k)
  own:=fun i b' cz=>by
   obtain⟨h1,h2,h3⟩:=hm.own i b' cz;exact⟨h1,by rw[aG];exact h2,h3⟩
  oinj:=hm.oinj
  sp:=fun b' cM=>by
   obtain⟨h1,h2,h3,h4,h5⟩:=hm.sp b' cM;refine⟨h1,by rw[aG];exact h2,h3,fun i hi=>?_,h5⟩;by_cases aL:i=id'
   ·simp[G.box,aL]at hi;subst hi;exact h4 id hb
   simp[G.box,aL]at hi;exact h4 i hi
  mm:=fun i' b' cM=>by
   obtain⟨h1,h2,h3,h4,h5,h6,h8,h7⟩:=hm.mm i' b' cM;have aO:i'≠id:=by rintro rfl;rw[hb]at h8;cases h8
   have fK:i'≠id':=by
    rintro rfl;obtain⟨_,_,hx,_⟩:=h7;rw[cI]at hx;cases hx
   refine⟨h1,by rw[aG];exact h2,h3,fun i hi=>?_,h5,h6,by simp[G.box,fK,h8],?_⟩
   ·by_cases aL:i=id'
    ·simp[G.box,aL]at hi;subst hi;exact h4 id hb
    simp[G.box,aL]at hi;exact h4 i hi
   simp only[aO,fK,if_false];exact h7.mono bP.cH.AB (Qz b vs p w b' (by rintro rfl;exact h4 id hb))
  minj:=hm.minj
  len:=hm.len
  cur0:=hm.cur0}
open Go Go.RowKit
inductive bE where
 |tmp (t:Nat)
 |const (a:AV)
 |func (f:FuncId)
 |glob (g:Nat)
def vP:Value->AV
 |.bool b=>.bool b
 |.int k n=>.int k n
 |.string s=>.str s
 |.slice none 0 0=>.sl .nil []
 |.nilFunc=>.nilfn
 |.pointer none=>.nilv true
 |.map none=>.nilv false
 |_=>.junk
def AE:Value->AV
 |.agg cs=>.agg (cs.toList.map vP)
 |v=>vP v
def Cr{w:World}{γ:G}:aA w γ (.sl .nil []) (.slice none 0 0):=
 .sl (rows:=[]) 0 0 0 (fun _ _=>undef) (zzab _) (fun _=>rfl) (fun h=>absurd rfl h) (fun _ h=>by cases h) (fun i j c h=>by simp[Qv]at h) (fun i j c h=>by simp[Qv]at h) rfl
def mR(w:World)(γ:G)(v:Value):aA w γ (vP v) v:=by
 unfold vP;split
 ·exact .bool _
 ·exact .int _ _
 ·exact .str _
 ·exact Cr
 ·exact .nilfn
 ·exact .nilv true
 ·exact .nilv false
 exact .junk _
def Kc(w:World)(γ:G)(v:Value):aA w γ (AE v) v:=by
 unfold AE;split
 ·refine .agg zd fun i c u h1 h2=>?_;simp at h1;obtain⟨u',h3,h4⟩:=h1;rw[h2]at h3;cases h3;subst h4;exact mR w γ u
 exact mR w γ _
def aC:Operand->bE
 |.tmp t=>.tmp t
 |.const v=>.const (AE v)
 |.func f=>.func f
 |.global g=>.glob g
def ev(gl:Nat->AV)(T:P2):bE->AV
 |.tmp t=>T.getD t .junk
 |.const a=>a
 |.func f=>.fn f [] []
 |.glob g=>gl g
inductive aF where
 |mv (x:bE)
 |pick (c a b:bE)
 |alloc (zs:P2)
 |box (x:bE)
 |build (zs:P2) (parts:List (Nat×Nat×bE))
 |bsl (sz len:Nat) (parts:List (Nat×bE))
 |load (agg:Bool) (n:Nat) (x:bE)
 |store (n:Nat) (x v:bE)
 |faddr (off:Nat) (x:bE)
 |fld (agg:Bool) (off n:Nat) (x:bE)
 |iaddr (sz:Nat) (x i:bE)
 |iaddrA (len sz:Nat) (x i:bE)
 |UY (x i:bE)
 |idxA (agg:Bool) (n sz:Nat) (x i:bE)
 |bin (op:BinOp) (x y:bE)
 |binB (op:BinOp) (x y:bE)
 |un (op:UnOp) (x:bE)
 |conv(k:IntKind) (x:bE)
 |len (x:bE)
 |lenS (x:bE)
 |mn (x y:bE)
 |mx (x y:bE)
 |mm3 (big:Bool) (x y z:bE)
 |mkfn (f:FuncId) (first cap:List bE)
 |ext (x:bE) (i:Nat)
 |call (f:bE) (args:List bE)
 |app (sz bytes:Nat) (s x:bE)
 |slS (x:bE) (lo hi:Option bE)
 |nilc (x:bE)
 |nilS (neg:Bool) (x:bE)
 |nilP (neg:Bool) (x:bE)
 |b2s (x:bE)
 |look (kn:Nat) (ok:Bool) (z:AV) (x k:bE)
 |mupd (kn:Nat) (x k v:bE)
 |mkmap (kn:Nat)
 |ment (kn:Nat) (z:AV) (x k:bE)
 |esto (x s v:bE)
 |rng (x:bE)
 |nxt (x:bE)
 |entr (x:bE)
 |mks0 (sz bytes:Nat) (c:bE)
 |slL (sz:Nat) (x:bE) (lo hi:Option bE)
 |slA (n sz:Nat) (x:bE) (lo hi:Option bE)
 |eqA (neg:Bool) (ks:Pa) (x y:bE)
 |mks (sz bytes:Nat) (zs:P2) (l c:bE)
 |cpy (sz:Nat) (x y:bE)
 |clr (zs:P2) (x:bE)
 |bad
def zc(P:Program)(t:TypeId):PH:=do
 let i <- P.info? t
 let z <- i.zero
 pure (z.cells.toList.map vP)
def Ki(P:Program)(t:TypeId):Bool:=
 match P.underlying t with
 |some (.struct _)|some (.array _ _)=>true
 |_=>false
def Wq(P:Program)(t:TypeId)(parts:Array (Nat×Operand)):aF:=
 match P.underlying t,zc P t with
 |some (.struct fields),some zs=>
  match parts.toList.mapM (fun p:Nat×Operand=>(fields[p.1]?).bind fun f=>(P.info? f.type).map fun i=>(f.offset,i.size,aC p.2))with
  |some ps=>if fields.toList.all (fun f=>(P.info? f.type).isSome)then .build zs ps else .bad
  |none=>.bad
 |_,_=>.bad
def EM(P:Program)(t:TypeId):Option Nat:=
 match P.underlying t with
 |some .bool=>some 0
 |some (.int _)=>some 1
 |some .string=>some 2
 |_=>none
def St(P:Program):List Field->Nat->Option (Pa)
 |[],_=>some []
 |f::r,i=>(match(f.offset==i)&&(f.name != "_"),EM P f.type,St P r (i+1)with
  |true,some k,some ks=>some (k::ks)
  |_,_,_=>none)
def zA(P:Program)(t:TypeId)(fs:List Field)(op:BinOp)(x y:Operand):aF:=
 match St P fs 0,(P.stoodInHeld t||P.eqGuardType P.depth t),op with
 |some ks,false,.eql=>.eqA false ks (aC x) (aC y)
 |some ks,false,.neq=>.eqA true ks (aC x) (aC y)
 |_,_,_=>.bad
def Zt(P:Program)(c:Call):aF:=
 match c.callee with
 |.value f=>.call (aC f) (c.args.toList.map aC)
 |.builtin .len=>
  match c.args.toList,c.argTypes.toList with
  |[x],[t]=>(match P.underlying t with|some .string=>.lenS (aC x)|some (.slice _)=>.len (aC x)|_=>.bad)
  |_,_=>.bad
 |.builtin .min=>(match c.args.toList with|[x,y]=>.mn (aC x) (aC y)|[x,y,z]=>.mm3 false (aC x) (aC y) (aC z)|_=>.bad)
 |.builtin .max=>(match c.args.toList with|[x,y]=>.mx (aC x) (aC y)|[x,y,z]=>.mm3 true (aC x) (aC y) (aC z)|_=>.bad)
 |.builtin .append=>
  match c.args.toList,c.argTypes.toList with
  |[s,x],[t,t']=>
   (match P.underlying t,P.underlying t' with
   |some (.slice e),some (.slice e')=>
    (match P.info? e with
    |some i=>if t==t'&&((i.zero.map fun z=>(z.cells.size,z.cells.toList.all (·.oneCell')))==some (i.size,true))&&(i.size !=0)&&(i.bytes !=0)then .app i.size i.bytes (aC s) (aC x)else .bad
    |none=>.bad)
   |_,_=>.bad)
  |_,_=>.bad
 |.builtin .copy=>
  match c.args.toList,c.argTypes.toList with
  |[x,y],t::_=>(match P.underlying t with
   |some (.slice e)=>(match P.info? e with|some i=>.cpy i.size (aC x) (aC y)|none=>.bad)
   |_=>.bad)
  |_,_=>.bad
 |.builtin .clear=>
  match c.args.toList,c.argTypes.toList with
  |[x],[t]=>(match P.underlying t with
   |some (.slice e)=>(match zc P e with|some zs=>.clr zs (aC x)|none=>.bad)
   |_=>.bad)
  |_,_=>.bad
 |_=>.bad
def lW(op:BinOp)(x y:Operand):aF:=
 match op,y with
 |.eql,.const (.slice none 0 0)=>.nilS false (aC x)
 |.neq,.const (.slice none 0 0)=>.nilS true (aC x)
 |_,_=>.bad
def Qco(op:BinOp)(x y:Operand):aF:=
 match op,y with
 |.eql,.const (.pointer none)=>.nilP false (aC x)
 |.neq,.const (.pointer none)=>.nilP true (aC x)
 |_,_=>.bad
def EN(P:Program)(t:TypeId):Option (Nat×AV):=
 match P.underlying t with
 |some (.map k v)=>(match P.underlying k,P.info? v with
  |some (.int .i64),some i=>i.zero.map fun z=>(0,AE z)
  |some (.struct fs),some i=>(match St P fs.toList 0 with
   |some ks=>if ks.all (·==1)&&(fs.size !=0)&&!(P.stoodInHeld k)then i.zero.map fun z=>(fs.size,AE z)else none
   |none=>none)
  |_,_=>none)
 |_=>none
def tr(P:Program)(o:Oper):aF:=
 match o.op with
 |.move x|.assign x=>.mv (aC x)
 |.pick c a b=>.pick (aC c) (aC a) (aC b)
 |.alloc t=>(match zc P t with|some zs=>.alloc zs|none=>.bad)
 |.box _ x=>.box (aC x)
 |.build t parts=>Wq P t parts
 |.buildSlice t len parts=>
  (match P.underlying t with
  |some (.slice e)=>
   (match P.info? e with
   |some i=>if((i.zero.map fun z=>z.cells.size)==some i.size)&&(i.size !=0)&&decide (len*i.size<=16777216)then .bsl i.size len (parts.toList.map fun p=>(p.1,aC p.2))else .bad
   |none=>.bad)
  |_=>.bad)
 |.load t a=>(match P.info? t,P.underlying t with|some i,some _=>if Ki P t then .load true i.size (aC a)else .load false 1 (aC a)|_,_=>.bad)
 |.store t a v=>(match P.info? t with|some i=>.store i.size (aC a) (aC v)|none=>.bad)
 |.fieldAddr s x f=>
  (match P.underlying s with
  |some (.struct fields)=>
   (match fields[f]? with
   |some fl=>(match P.info? fl.type with|some i=>if i.size==0 then .bad else .faddr fl.offset (aC x)|none=>.bad)
   |none=>.bad)
  |_=>.bad)
 |.field t x f=>
  (match P.underlying t with
  |some (.struct fields)=>
   (match fields[f]? with
   |some fl=>(match P.info? fl.type,P.underlying fl.type with|some i,some _=>if Ki P fl.type then .fld true fl.offset i.size (aC x)else .fld false fl.offset 1 (aC x)|_,_=>.bad)
   |none=>.bad)
  |_=>.bad)
 |.indexAddr t x i=>
  (match P.underlying t with
  |some (.slice e)=>(match P.info? e with|some j=>.iaddr j.size (aC x) (aC i)|none=>.bad)
  |some (.array n e)=>(match P.info? e with|some j=>.iaddrA n j.size (aC x) (aC i)|none=>.bad)
  |_=>.bad)
 |.index t x i=>(match P.underlying t with
  |some .string=>.UY (aC x) (aC i)
  |some (.array n e)=>(match P.info? e,P.underlying e with|some j,some _=>if Ki P e then .idxA true n j.size (aC x) (aC i)else(if j.size==1 then .idxA false n 1 (aC x) (aC i)else .bad)|_,_=>.bad)
  |_=>.bad)
 |.binOp op t x y _=>
  (match P.underlying t with
  |some .bool=>.binB op (aC x) (aC y)
  |some (.int _)=>.bin op (aC x) (aC y)
  |some .string=>.bin op (aC x) (aC y)
  |some (.slice _)=>lW op x y
  |some (.pointer _)=>Qco op x y
  |some (.struct fs)=>zA P t fs.toList op x y
  |_=>.bad)
 |.unOp op _ x=>.un op (aC x)
 |.convert s d x=>
  (match P.underlying s,P.underlying d with
  |some (.int _),some (.int k)=>.conv k (aC x)
  |some (.slice e),some .string=>(match P.underlying e with|some (.int .u8)=>.b2s (aC x)|_=>.bad)
  |_,_=>.bad)
 |.makeFunc (.func f) first cap=>.mkfn f (first.toList.map aC) (cap.toList.map aC)
 |.extract x i=>.ext (aC x) i
 |.nilCheck x=>.nilc (aC x)
 |.slice t x lo hi none=>(match P.underlying t with
  |some .string=>.slS (aC x) (lo.map aC) (hi.map aC)
  |some (.slice e)=>(match P.info? e with|some i=>.slL i.size (aC x) (lo.map aC) (hi.map aC)|none=>.bad)
  |some (.array n e)=>(match P.info? e with|some i=>.slA n i.size (aC x) (lo.map aC) (hi.map aC)|none=>.bad)
  |_=>.bad)
 |.lookup t x k ok=>(match EN P t with|some (kn,z)=>.look kn ok z (aC x) (aC k)|none=>.bad)
 |.mapUpdate t x k v=>(match EN P t with|some (kn,_)=>.mupd kn (aC x) (aC k) (aC v)|none=>.bad)
 |.makeMap t none=>(match EN P t with|some (kn,_)=>.mkmap kn|none=>.bad)
 |.mapEntry t x k=>(match EN P t with|some (kn,z)=>.ment kn z (aC x) (aC k)|none=>.bad)
 |.entryStore _ x s v=>.esto (aC x) (aC s) (aC v)
 |.range t x=>(match EN P t with|some _=>.rng (aC x)|none=>.bad)
 |.next x false=>.nxt (aC x)
 |.entry x=>.entr (aC x)
 |.makeSlice t l c=>
  (match P.underlying t with
  |some (.slice e)=>(match P.info? e,l with
   |some i,.const (.int .i64 0)=>(if((i.zero.map fun z=>(z.cells.size,z.cells.toList.all (·.oneCell')))==some (i.size,true))&&(i.size !=0)then .mks0 i.size i.bytes (aC c)else .bad)
   |some i,l=>(match zc P e with|some zs=>.mks i.size i.bytes zs (aC l) (aC c)|none=>.bad)
   |_,_=>.bad)
  |_=>.bad)
 |.call c=>Zt P c
 |_=>.bad
def Qx:AV->Bool
 |.bool _|.int _ _|.str _|.sl _ _|.ep _ _|.ptr _ _|.fn _ _ _|.nilfn|.yld _|.mp _|.it _|.nilv _|.bs _ _ _ _=>true
 |_=>false
def bare:AV->Bool
 |.junk|.gd _ _|.aS _|.aJ _ _|.mitr _ _ _=>false
 |_=>true
def cellsOf:AV->P2
 |.agg cs=>cs
 |a=>[a]
def aY(sz:Nat):Nat->P2->T5
 |0,_=>[]
 |n+1,l=>l.take sz::aY sz n (l.drop sz)
def Qad(sz:Nat):∀(n:Nat)(l:P2),aY sz n l=(List.range n).map fun i=>(l.drop (i*sz)).take sz
 |0,_=>rfl
 |n+1,l=>by
  rw[aY,Qad sz n,zzgu,zzas,zzcu];simp only[zzhf,zzdc,List.cons.injEq,true_and];refine zzcr fun i _=>?_;simp only[Function.comp,zze,zzhg];rw[zzff]
def bA(m:AM):Nat->AV->AV
 |0,_=>.junk
 |d+1,a=>match a with
  |.agg cs=>.agg (cs.map (bA m d))
  |.aS cs=>.aS (cs.map (bA m d))
  |.fn f first cap=>.fn f (first.map (bA m d)) (cap.map (bA m d))
  |.sl (.own _ _) rows=>.sl .ro rows
  |.ptr id o=>.ep ((m.boxes.getD id []).map (bA m d)) o
  |.gd _ _=>.junk
  |.yld _=>.junk
  |.mp _=>.junk
  |.it _=>.junk
  |.aJ _ _=>.junk
  |.mitr _ _ _=>.junk
  |.bs id off len sz=>bif Nat.ble (off+len*sz) (m.boxes.getD id []).length then .sl .ro (aY sz len (((m.boxes.getD id []).map (bA m d)).drop off))else .junk
  |a=>a
def Vf:Nat->AV->Bool
 |0,_=>true
 |d+1,a=>match a with
  |.agg cs=>cs.any (Vf d)
  |.aS cs=>cs.any (Vf d)
  |.fn _ first cap=>first.any (Vf d)||cap.any (Vf d)
  |.ptr _ _=>true
  |.bs _ _ _ _=>true
  |_=>false
def iX:AV->Bool
 |.bool _|.int _ _|.str _=>true
 |_=>false
def flat:AV->Bool
 |.aS cs=>cs.all iX
 |a=>iX a
def bz(P:Program)(f:FuncId):Prop:=∃fn,P.funcs[f]?=some fn/\fn.body.isNone=false/\(fn.name== "runtime.NumGoroutine")=false
def Pure(P:Program)(gl:Nat->AV)(f:FuncId)(as':P2)(r:AV):Prop:=
 bz P f/\∀(ro:Nat->Nat->Prop)(w:World)(vs:PQ),(∀g,aA w (G0 ro) (gl g) (.pointer (some ⟨g,0,none⟩)))->ak w (G0 ro) as' vs->
  Calls P f vs.toArray w fun e w'=>∃v,e=.returned v/\Below w.heap.size w w'/\aA w' (G0 fun b o=>ro b o\/w.heap.size<=b) r v
def aqQ(P:Program)(gl:Nat->AV)(f:FuncId)(as':P2)(m:AM)(r:AV):Prop:=
 bz P f/\∀(N:Nat)(w0:eR)(an:Nat->Nat->Prop)(γ:G)(w:World)(B:Nat->PH)(L:Nat->Option Nat)(vs:PQ),au N w0 an γ w B L->
  (∀id cells,m.boxes[id]?=some cells->B id=some cells)->(∀g,aA w γ.cU (gl g) (.pointer (some ⟨g,0,none⟩)))->ak w γ as' vs->
  Calls P f vs.toArray w fun e w'=>∃v γ',e=.returned v/\Ev w γ w' γ'/\au N w0 an γ' w' B L/\aA w' γ' r v
def callV(P:Program)(gl:Nat->AV)(f:FuncId)(as':P2)(m:AM):AV->Prop×AV
 |.gd _ r=>(aqQ P gl f as' m r,r)
 |r=>(Pure P gl f (as'.map (bA m 6)) r/\(as'.any (Vf 6)=true->flat r=true),r)
def binI(op:BinOp)(k:IntKind)(a b:Int):Prop×AV:=
 match op with
 |.add=>(True,.int k (k.wrap (a+b)))
 |.sub=>(True,.int k (k.wrap (a-b)))
 |.mul=>(True,.int k (k.wrap (a*b)))
 |.quo=>(b≠0,.int k (k.wrap (a.tdiv b)))
 |.rem=>(b≠0,.int k (a.tmod b))
 |.eql=>(True,.bool (a==b))
 |.neq=>(True,.bool (a !=b))
 |.lss=>(True,.bool (decide (a<b)))
 |.leq=>(True,.bool (decide (a<=b)))
 |.gtr=>(True,.bool (decide (b<a)))
 |.geq=>(True,.bool (decide (b<=a)))
 |.and=>(True,.int k (k.wrap (BitVec.ofInt k.bits a&&& BitVec.ofInt k.bits b).toNat))
 |.or=>(True,.int k (k.wrap (BitVec.ofInt k.bits a|||BitVec.ofInt k.bits b).toNat))
 |.xor=>(True,.int k (k.wrap (BitVec.ofInt k.bits a ^^^ BitVec.ofInt k.bits b).toNat))
 |.andNot=>(True,.int k (k.wrap (BitVec.ofInt k.bits a&&& ~~~ BitVec.ofInt k.bits b).toNat))
 |_=>(False,.junk)
def binS(op:BinOp)(a b:ByteArray):Prop×AV:=
 match op with
 |.add=>(a.size+b.size<=9223372036854775807,.str (a++b))
 |.eql=>(True,.bool (a.toList==b.toList))
 |.neq=>(True,.bool (!(a.toList==b.toList)))
 |_=>(False,.junk)
def binV(op:BinOp)(x y:AV):Prop×AV:=
 match op with
 |.shl=>(match x,y with|.int k a,.int _ b=>(0<=b,.int k (k.wrap (a*2 ^ (min b.toNat k.bits))))|_,_=>(False,.junk))
 |.shr=>(match x,y with|.int k a,.int _ b=>(0<=b,.int k (a.fdiv (2 ^ (min b.toNat k.bits))))|_,_=>(False,.junk))
 |op=>match x,y with
  |.int k a,.int k' b=>(k=k'/\(binI op k a b).1,(binI op k a b).2)
  |.str a,.str b=>binS op a b
  |_,_=>(False,.junk)
def binBool(op:BinOp)(x y:AV):Prop×AV:=
 match op,x,y with
 |.eql,.bool a,.bool b=>(True,.bool (a==b))
 |.neq,.bool a,.bool b=>(True,.bool (!(a==b)))
 |_,_,_=>(False,.junk)
def isB:AV->Bool
 |.bool _=>true
 |_=>false
def bOf:AV->Bool
 |.bool b=>b
 |_=>false
def JC:AV->Option (Bool×Bool)
 |.bool b=>some (true,b)
 |.gd g a=>some (bif g then isB a else false,bOf a)
 |_=>none
def Qdj(cs:P2):List (Nat×Nat×AV)->Prop×P2
 |[]=>(True,cs)
 |(off,size,a)::r=>let q:=Qdj (setA cs off (cellsOf a)) r;(bare a=true/\(cellsOf a).length=size/\off+size<=cs.length/\q.1,q.2)
def Vi(agg:Bool)(n:Nat)(cs:P2):Prop×AV:=((cs.take n).length=n/\(agg=false->n=1),if agg then .agg (cs.take n)else cs.getD 0 .junk)
def intsA:P2->Option (Pi)
 |[]=>some []
 |.int .i64 n::r=>(match intsA r with|some ns=>some (n::ns)|none=>none)
 |_=>none
def keyA:Nat->AV->Option (Pi)
 |0,.int .i64 n=>some [n]
 |kn+1,.agg cs=>(match intsA cs with|some ns=>if ns.length=kn+1 then some ns else none|none=>none)
 |_,_=>none
def keyAV:Nat->Pi->AV
 |0,[n]=>.int .i64 n
 |0,_=>.junk
 |_+1,ns=>.agg (ns.map (AV.int .i64))
def Xh(n:Pi):List (Pi×AV)->Nat->Option (Nat×AV)
 |[],_=>none
 |(k,a)::r,i=>if n=k then some (i,a)else Xh n r (i+1)
def byteOf:P2->Option UInt8
 |[.int .u8 n]=>some (UInt8.ofNat n.toNat)
 |_=>none
def Jr:T5->Option (List UInt8)
 |[]=>some []
 |r::rs=>(match byteOf r,Jr rs with|some b,some l=>some (b::l)|_,_=>none)
def kindF:Nat->AV->AV->Bool
 |0,.bool _,.bool _=>true
 |1,.int k _,.int k' _=>decide (k=k')
 |2,.str _,.str _=>true
 |_,_,_=>false
def eqF:AV->AV->Bool
 |.bool a,.bool b=>a==b
 |.int _ a,.int _ b=>a==b
 |.str a,.str b=>a.toList==b.toList
 |_,_=>false
def Qbn:Pa->P2->P2->Bool
 |[],[],[]=>true
 |k::ks,a::as',b::bs=>kindF k a b&&Qbn ks as' bs
 |_,_,_=>false
def eqFs:P2->P2->Bool
 |a::as',b::bs=>eqF a b&&eqFs as' bs
 |_,_=>true
def loOf:Option AV->Option Int
 |none=>some 0
 |some (.int _ l)=>some l
 |_=>none
def hiOf(n:Nat):Option AV->Option Int
 |none=>some n
 |some (.int _ h)=>some h
 |_=>none
def bF:Nat->P2->P2
 |0,_=>[]
 |n+1,zs=>zs++bF n zs
def cellsS(m:AM)(sz:Nat):AV->Prop×P2
 |.sl _ rows=>((∀row∈rows,row.length=sz),rows.flatten)
 |.bs id off len dB=>(dB=sz/\off+len*sz<=(m.boxes.getD id []).length/\id<m.boxes.length,((m.boxes.getD id []).drop off).take (len*sz))
 |_=>(False,[])
def lenS:AV->Nat
 |.sl _ rows=>rows.length
 |.bs _ _ len _=>len
 |_=>0
def mutO(orc:UV)(dst:Option Nat):Bool:=match orc (dst.getD 0) 999999 []with
 |.aJ _ []=>true
 |_=>false
def Jg:Rt->Bool
 |.full|.nil=>true
 |_=>false
def Po(big:Bool)(a b:Int):Int:=if big=true then(if a<b then b else a)else(if b<a then b else a)
def rop(P:Program)(gl:Nat->AV)(orc:UV)(e:bE->AV)(m:AM)(dst:Option Nat):aF->Prop×AV
 |.mv x=>(True,e x)
 |.pick c a b=>(match JC (e c),JC (e a),JC (e b)with
  |some (g0,c),some (g1,x),some (g2,y)=>(g0=true/\(c=true->g1=true)/\(c=false->g2=true),.bool (bif c then x else y))
  |_,_,_=>(False,.junk))
 |.build zs parts=>let q:=Qdj zs (parts.map fun p=>(p.1,p.2.1,e p.2.2));(q.1,.agg q.2)
 |.bsl sz len parts=>let q:=Qdj (List.replicate (len*sz) .junk) (parts.map fun p=>(p.1*sz,sz,e p.2));
  (q.1/\q.2.all Qx=true/\q.2.any (Vf 6)=false,.sl .full (aY sz len (q.2.map (bA m 6))))
 |.load agg n x=>(match e x with
  |.ptr id o=>Vi agg n ((m.boxes.getD id []).drop o)
  |.ep row o=>Vi agg n (row.drop o)
  |_=>(False,.junk))
 |.faddr off x=>(match e x with
  |.ptr id o=>(True,.ptr id (o+off))
  |.ep row o=>(True,.ep row (o+off))
  |_=>(False,.junk))
 |.fld agg off n x=>(match e x with
  |.agg cs=>Vi agg n (cs.drop off)
  |_=>(False,.junk))
 |.iaddr sz x i=>(match e x,e i with
  |.sl _ rows,.int _ i=>((0<=i/\i<rows.length)/\(rows.getD i.toNat []).length=sz,.ep (rows.getD i.toNat []) 0)
  |.bs id off len dB,.int _ i=>((0<=i/\i<len)/\dB=sz,.ptr id (off+i.toNat*sz))
  |_,_=>(False,.junk))
 |.iaddrA len sz x i=>(match e x,e i with
  |.ptr id o,.int _ i=>(0<=i/\i<len,.ptr id (o+i.toNat*sz))
  |.ep row o,.int _ i=>(0<=i/\i<len,.ep row (o+i.toNat*sz))
  |_,_=>(False,.junk))
 |.UY x i=>(match e x,e i with
  |.str s,.int _ i=>(0<=i/\i<s.size,.int .u8 (s.data.toList.getD i.toNat 0).toNat)
  |_,_=>(False,.junk))
 |.idxA agg n sz x i=>(match e x,e i with
  |.agg cs,.int _ i=>((0<=i/\i<n)/\(Vi agg sz (cs.drop (i.toNat*sz))).1,(Vi agg sz (cs.drop (i.toNat*sz))).2)
  |_,_=>(False,.junk))
 |.bin op x y=>binV op (e x) (e y)
 |.binB op x y=>binBool op (e x) (e y)
 |.un op x=>(match op,e x with
  |.not,.bool b=>(True,.bool (!b))
  |.neg,.int k n=>(True,.int k (k.wrap (0-n)))
  |.xor,.int k n=>(True,.int k (k.wrap (BitVec.ofInt k.bits (if k.signed then -1 else k.max) ^^^ BitVec.ofInt k.bits n).toNat))
  |_,_=>(False,.junk))
 |.conv k x=>(match e x with
  |.int _ n=>(True,.int k (k.wrap n))
  |_=>(False,.junk))
 |.len x=>(match e x with
  |.sl _ rows=>(True,.int .i64 rows.length)
  |.bs _ _ len _=>(True,.int .i64 len)
  |_=>(False,.junk))
 |.lenS x=>(match e x with
  |.str s=>(True,.int .i64 s.size)
  |_=>(False,.junk))
 |.mn x y=>(match e x,e y with
  |.int k a,.int _ b=>(True,.int k (if b<a then b else a))
  |_,_=>(False,.junk))
 |.mx x y=>(match e x,e y with
  |.int k a,.int _ b=>(True,.int k (if a<b then b else a))
  |_,_=>(False,.junk))
 |.mm3 big x y z=>(match e x,e y,e z with
  |.int k a,.int _ b,.int _ c=>(True,.int k (Po big (Po big a b) c))
  |_,_,_=>(False,.junk))
 |.mkfn f first cap=>(True,.fn f (first.map e) (cap.map e))
 |.ext x i=>(match e x with
  |.aS vs=>(i<vs.length,vs.getD i .junk)
  |_=>(False,.junk))
 |.call f args=>(match e f with
  |.fn f first cap=>callV P gl f (first++args.map e++cap) m (orc (dst.getD 0) f ((first++args.map e++cap).map (bA m 6)))
  |_=>(False,.junk))
 |.app sz bytes s x=>(match e s,e x with
  |.sl rt rows,.sl _ aq=>(Jg rt=true/\(∀row∈rows++aq,row.length=sz)/\(3*(rows.length+aq.length)+4000)*bytes<=562949953421312,.sl .ro (rows++aq))
  |_,_=>(False,.junk))
 |.slS x lo hi=>(match e x,lo.map e,hi.map e with
  |.str s,some (.int _ l),some (.int _ h)=>(0<=l/\l<=h/\h<=s.size,.str (s.extract l.toNat h.toNat))
  |.str s,none,some (.int _ h)=>(0<=h/\h<=s.size,.str (s.extract 0 h.toNat))
  |.str s,some (.int _ l),none=>(0<=l/\l<=s.size,.str (s.extract l.toNat s.size))
  |_,_,_=>(False,.junk))
 |.nilc x=>(match e x with
  |.ptr id o=>(True,.ptr id o)
  |.ep row o=>(True,.ep row o)
  |.fn f first cap=>(True,.fn f first cap)
  |_=>(False,.junk))
 |.nilS neg x=>(match e x with
  |.sl .nil _=>(True,.bool (!neg))
  |.sl .nn _=>(True,.bool neg)
  |.sl _ (_::_)=>(True,.bool neg)
  |.bs _ _ _ _=>(True,.bool neg)
  |_=>(False,.junk))
 |.nilP neg x=>(match e x with
  |.ptr _ _=>(True,.bool neg)
  |.ep _ _=>(True,.bool neg)
  |.nilv true=>(True,.bool (!neg))
  |_=>(False,.junk))
 |.b2s x=>(match e x with
  |.sl _ rows=>(match Jr rows with
   |some l=>(True,.str ⟨l.toArray⟩)
   |none=>(False,.junk))
  |.bs id off len sz=>(match Jr (aY 1 len ((m.boxes.getD id []).drop off))with
   |some l=>(sz=1/\off+len<=(m.boxes.getD id []).length,.str ⟨l.toArray⟩)
   |none=>(False,.junk))
  |_=>(False,.junk))
 |.eqA neg ks x y=>(match e x,e y with
  |.agg xs,.agg ys=>(Qbn ks xs ys=true,.bool (if neg then !(eqFs xs ys)else eqFs xs ys))
  |_,_=>(False,.junk))
 |.slL sz x lo hi=>(match e x with
  |.sl _ rows=>(match loOf (lo.map e),hiOf rows.length (hi.map e)with
   |some l,some h=>((0<=l/\l<=h/\h<=rows.length)/\∀row∈rows,row.length=sz,.sl .ro ((rows.drop l.toNat).take (h.toNat-l.toNat)))
   |_,_=>(False,.junk))
  |.bs id off len dB=>(match loOf (lo.map e),hiOf len (hi.map e)with
   |some l,some h=>((0<=l/\l<=h/\h<=len)/\dB=sz,if l<h\/l=0 then .bs id (off+l.toNat*sz) (h.toNat-l.toNat) sz else .sl .nn [])
   |_,_=>(False,.junk))
  |_=>(False,.junk))
 |.slA n sz x lo hi=>(match e x with
  |.ptr id o=>(match loOf (lo.map e),hiOf n (hi.map e)with
   |some l,some h=>((0<=l/\l<=h/\h<=n)/\o+n*sz<=(m.boxes.getD id []).length/\id<m.boxes.length,if l<h\/l=0 then .bs id (o+l.toNat*sz) (h.toNat-l.toNat) sz else .sl .nn [])
   |_,_=>(False,.junk))
  |_=>(False,.junk))
 |.look kn ok z x k=>(match e x,keyA kn (e k)with
  |.mp id,some n=>(match m.boxes.getD id []with
   |[.aJ sj kvs]=>(sj=kn,(match Xh n kvs 0 with
    |some (_,a)=>(if ok then .aS [a,.bool true]else a)
    |none=>(if ok then .aS [z,.bool false]else z)))
   |_=>(False,.junk))
  |_,_=>(False,.junk))
 |.entr x=>(match e x with
  |.it id=>(match m.boxes.getD id []with
   |[.mitr mid n seen]=>(match m.boxes.getD mid [],seen.getLast? with
    |[.aJ kn kvs],some i=>(kvs.length=n/\i<n,.aS [keyAV kn (kvs.getD i ([],.junk)).1,(kvs.getD i ([],.junk)).2])
    |_,_=>(False,.junk))
   |_=>(False,.junk))
  |_=>(False,.junk))
 |_=>(False,.junk)
def sop(P:Program)(gl:Nat->AV)(orc:UV)(e:bE->AV)(m:AM)(dst:Option Nat)(so:aF):Prop×AV×AM:=
 match so with
 |.alloc zs=>(zs.all Qx=true,.ptr m.boxes.length 0,{m with boxes:=m.boxes++[zs]})
 |.box x=>(bare (e x)=true/\(cellsOf (e x)).all Qx=true,.ptr m.boxes.length 0,{m with boxes:=m.boxes++[cellsOf (e x)]})
 |.store n x v=>(match e x with
  |.ptr id o=>(bare (e v)=true/\(cellsOf (e v)).all Qx=true/\(cellsOf (e v)).length=n/\o+n<=(m.boxes.getD id []).length/\id<m.boxes.length,
    .junk,{m with boxes:=m.boxes.set id (setA (m.boxes.getD id []) o (cellsOf (e v)))})
  |_=>(False,.junk,m))
 |.app sz bytes s x=>(match e s,e x with
  |.sl (.own id dB) rows,.sl _ aq=>(dB=sz/\m.lens[id]?=some rows.length/\(∀row∈rows++aq,row.length=sz)/\(3*(rows.length+aq.length)+4000)*bytes<=562949953421312,
    .sl (.own id sz) (rows++aq),{m with lens:=m.lens.set id (rows.length+aq.length)})
  |.bs id off len dB,y=>(((dB=sz/\off=0/\id<m.boxes.length/\m.boxes.getD id []≠[]/\len*sz<=(m.boxes.getD id []).length)/\(3*(len+lenS y)+4000)*bytes<=562949953421312)/\(cellsS m sz y).1,
    .bs m.boxes.length 0 (len+lenS y) sz,{m with boxes:=m.boxes.set id []++[(m.boxes.getD id []).take (len*sz)++(cellsS m sz y).2]})
  |.sl (.own id dB) rows,.bs gN gj ct sz2=>((dB=sz/\sz2=sz)/\m.lens[id]?=some rows.length/\(∀row∈rows,row.length=sz)/\(3*(rows.length+ct)+4000)*bytes<=562949953421312/\gj+ct*sz<=(m.boxes.getD gN []).length/\gN<m.boxes.length/\(m.boxes.getD gN []).all Qx=true/\(m.boxes.getD gN []).any (Vf 6)=false,
    .sl (.own id sz) (rows++aY sz ct (((m.boxes.getD gN []).map (bA m 6)).drop gj)),{m with lens:=m.lens.set id (rows.length+ct)})
  |.sl rt rows,y=>if mutO orc dst=true then(if lenS y=0 then((cellsS m sz y).1,.sl rt rows,m)else((Jg rt=true/\lenS y≠0/\(∀row∈rows,row.length=sz)/\(3*(rows.length+lenS y)+4000)*bytes<=562949953421312)/\(cellsS m sz y).1,
    .bs m.boxes.length 0 (rows.length+lenS y) sz,{m with boxes:=m.boxes++[rows.flatten++(cellsS m sz y).2]}))
   else(match y with
   |.sl _ aq=>(Jg rt=true/\(∀row∈rows++aq,row.length=sz)/\(3*(rows.length+aq.length)+4000)*bytes<=562949953421312,
    .sl (.own m.lens.length sz) (rows++aq),{m with lens:=m.lens++[rows.length+aq.length]})
   |.bs gN gj ct sz2=>((Jg rt=true/\sz2=sz)/\(∀row∈rows,row.length=sz)/\(3*(rows.length+ct)+4000)*bytes<=562949953421312/\gj+ct*sz<=(m.boxes.getD gN []).length/\gN<m.boxes.length/\(m.boxes.getD gN []).all Qx=true/\(m.boxes.getD gN []).any (Vf 6)=false,
    .sl (.own m.lens.length sz) (rows++aY sz ct (((m.boxes.getD gN []).map (bA m 6)).drop gj)),{m with lens:=m.lens++[rows.length+ct]})
   |_=>(False,.junk,m))
  |_,_=>(False,.junk,m))
 |.bsl sz len parts=>if mutO orc dst=true then let q:=Qdj (List.replicate (len*sz) .junk) (parts.map fun p=>(p.1*sz,sz,e p.2));
   (q.1/\q.2.all Qx=true,.bs m.boxes.length 0 len sz,{m with boxes:=m.boxes++[q.2]})
  else((rop P gl orc e m dst (.bsl sz len parts)).1,(rop P gl orc e m dst (.bsl sz len parts)).2,m)
 |.mks sz bytes zs l c=>(match e l,e c with
  |.int _ l,.int _ c=>((0<=l/\l<=c/\bytes*c<=281474976710656/\c<=9223372036854775807)/\zs.length=sz/\zs.all Qx=true,.bs m.boxes.length 0 l.toNat sz,{m with boxes:=m.boxes++[bF c.toNat zs]})
  |_,_=>(False,.junk,m))
 |.cpy sz x y=>(match e x with
  |.bs id off len dB=>(match e y with
   |.str s=>((dB=1/\sz=1)/\id<m.boxes.length/\off+len<=(m.boxes.getD id []).length/\m.boxes.getD id []≠[],.int .i64 (min s.size len:Nat),{m with boxes:=m.boxes.set id (setA (m.boxes.getD id []) off ((s.data.toList.take len).map fun b=>.int .u8 b.toNat))})
   |y=>(dB=sz/\(cellsS m sz y).1/\id<m.boxes.length/\off+len*sz<=(m.boxes.getD id []).length/\m.boxes.getD id []≠[],.int .i64 (min (lenS y) len:Nat),{m with boxes:=m.boxes.set id (setA (m.boxes.getD id []) off ((cellsS m sz y).2.take (len*sz)))}))
  |_=>(False,.junk,m))
 |.clr zs x=>(match e x with
  |.bs id off len dB=>((dB=zs.length/\zs.all Qx=true)/\id<m.boxes.length/\off+len*zs.length<=(m.boxes.getD id []).length/\m.boxes.getD id []≠[],.aS [],{m with boxes:=m.boxes.set id (setA (m.boxes.getD id []) off (bF len zs))})
  |.sl _ []=>(True,.aS [],m)
  |_=>(False,.junk,m))
 |.mkmap kn=>(True,.mp m.boxes.length,{m with boxes:=m.boxes++[[.aJ kn []]]})
 |.mupd kn x k v=>(match e x,keyA kn (e k)with
  |.mp id,some n=>(match m.boxes.getD id []with
   |[.aJ sj kvs]=>(sj=kn/\bare (e v)=true,.junk,{m with boxes:=m.boxes.set id [.aJ kn (match Xh n kvs 0 with
    |some (i,_)=>kvs.set i (n,e v)
    |none=>kvs++[(n,e v)])]})
   |_=>(False,.junk,m))
  |_,_=>(False,.junk,m))
 |.ment kn z x k=>(match e x,keyA kn (e k)with
  |.mp id,some n=>(match m.boxes.getD id []with
   |[.aJ sj kvs]=>(sj=kn,(match Xh n kvs 0 with
    |some (i,c)=>.aS [c,.int .i64 i]
    |none=>.aS [z,.int .i64 kvs.length]),{m with boxes:=m.boxes.set id [.aJ kn (match Xh n kvs 0 with
    |some _=>kvs
    |none=>kvs++[(n,z)])]})
   |_=>(False,.junk,m))
  |_,_=>(False,.junk,m))
 |.esto x s v=>(match e x,e s with
  |.mp id,.int _ i=>(match m.boxes.getD id []with
   |[.aJ kn kvs]=>((0<=i/\i<kvs.length)/\bare (e v)=true,.junk,{m with boxes:=m.boxes.set id [.aJ kn (kvs.set i.toNat ((kvs.getD i.toNat ([],.junk)).1,e v))]})
   |_=>(False,.junk,m))
  |_,_=>(False,.junk,m))
 |.rng x=>(match e x with
  |.mp id=>(match m.boxes.getD id []with
   |[.aJ _ kvs]=>(True,.it m.boxes.length,{m with boxes:=m.boxes++[[.mitr id kvs.length []]]})
   |_=>(False,.junk,m))
  |_=>(False,.junk,m))
 |.mks0 sz bytes c=>(match e c with
  |.int _ c=>if mutO orc dst=true then(if c.toNat=0 then(0<=c/\bytes*c<=281474976710656/\c<=9223372036854775807,.sl .full [],{m with boxes:=m.boxes++[[]]})
    else(0<=c/\bytes*c<=281474976710656/\c<=9223372036854775807,.bs m.boxes.length 0 0 sz,{m with boxes:=m.boxes++[List.replicate (c.toNat*sz) .junk]}))
   else(0<=c/\bytes*c<=281474976710656/\c<=9223372036854775807,.sl (.own m.lens.length sz) [],{m with lens:=m.lens++[0]})
  |_=>(False,.junk,m))
 |so=>((rop P gl orc e m dst so).1,(rop P gl orc e m dst so).2,m)
open Go Go.RowKit
section inv
variable {w:World} {γ:G} {v:Value}
def aA.bw{b:Bool}(h:aA w γ (.bool b) v):v=.bool b:=by cases h;rfl
def aA.aI{k:IntKind}{n:Int}(h:aA w γ (.int k n) v):v=.int k n:=by cases h;rfl
def aA.cp{s:ByteArray}(h:aA w γ (.str s) v):v=.string s:=by cases h;rfl
def aA.Pp(h:aA w γ .nilfn v):v=.nilFunc:=by cases h;rfl
def aA.dL{id o:Nat}(h:aA w γ (.ptr id o) v):∃b,γ.β id=some b/\v=.pointer (some ⟨b,o,none⟩):=by cases h with|ptr h=>exact⟨_,h,rfl⟩
def aA.cN{id off len sz:Nat}(h:aA w γ (.bs id off len sz) v):∃(b cap:Nat)(arr:P1)(e:TypeId),γ.β id=some b/\v=.slice (some ⟨b,off,none⟩) len cap/\len<=cap/\
  w.heap[b]?=some (.cells arr e (0,0))/\off+cap*sz<=arr.size:=by
 cases h with|bs h hl hh hs=>exact⟨_,_,_,_,h,rfl,hl,hh,hs⟩
def aA.Cs{g:Bool}{a:AV}(h:aA w γ (.gd g a) v)(hg:g=true):aA w γ a v:=by cases h with|gd h _=>exact h hg
def aA.Nq{a:AV}(h:aA w γ (.gd false a) v):v=undef:=by cases h with|gd _ h=>exact h rfl
def aA.gm{cs:P2}(h:aA w γ (.agg cs) v):∃arr:P1,v=.agg arr/\ak w γ cs arr.toList:=by
 cases h with
 |@agg _ _ arr hl h=>exact⟨arr,rfl,Nm hl,fun i a v h1 h2=>h i a v h1 (Nm h2)⟩
def aA.Ct{cs:P2}(h:aA w γ (.aS cs) v):∃arr:P1,v=.tuple arr/\ak w γ cs arr.toList:=by
 cases h with
 |@aS _ _ arr hl h=>exact⟨arr,rfl,Nm hl,fun i a v h1 h2=>h i a v h1 (Nm h2)⟩
def aA.qG{f:FuncId}{first cap:P2}(h:aA w γ (.fn f first cap) v):∃fa ca:P1,v=.func (.func f) fa ca/\ak w γ first fa.toList/\ak w γ cap ca.toList:=by
 cases h with
 |@fn _ _ _ _ fa ca hl h eX h'=>exact⟨fa,ca,rfl,⟨Nm hl,fun i a v h1 h2=>h i a v h1 (Nm h2)⟩,⟨Nm eX,fun i a v h1 h2=>h' i a v h1 (Nm h2)⟩⟩
def aA.iY{row:P2}{o:Nat}(h:aA w γ (.ep row o) v):∃(b off:Nat)(cv:Nat->Value),v=.pointer (some ⟨b,off+o,none⟩)/\b<w.heap.size/\
  (∀(j:Nat)(c:AV),row[j]?=some c->w.cell? ⟨b,off+j,none⟩=some (cv j)/\γ.ro b (off+j)/\(cv j).oneCell'=true)/\(∀(j:Nat)(c:AV),row[j]?=some c->aA w γ.cU c (cv j)):=by
 cases h with
 |@ep _ _ _ b off cv hb hc h=>exact⟨b,off,cv,rfl,hb,hc,h⟩
def aA.UZ{rt:Rt}{rows:T5}(h:aA w γ (.sl rt rows) v):∃(a:Option Addr)(cap b off sz:Nat)(cv:Nat->Nat->Value),v=.slice a rows.length cap/\
  rows.length<=cap/\(a=none->cap=0)/\(rows≠[]->a=some ⟨b,off,none⟩/\b<w.heap.size)/\(∀row∈rows,row.length=sz)/\
  (∀(i j:Nat)(c:AV),Qv rows i j=some c->w.cell? ⟨b,off+i*sz+j,none⟩=some (cv i j)/\γ.ro b (off+i*sz+j)/\(cv i j).oneCell'=true)/\
  (∀(i j:Nat)(c:AV),Qv rows i j=some c->aA w γ.cU c (cv i j))/\qD w γ a rows.length cap sz rt:=by
 cases h with
 |@sl _ _ _ a cap b off sz cv h1 h2 h3 h4 h5 h6 h7=>exact⟨a,cap,b,off,sz,cv,rfl,h1,h2,h3,h4,h5,h6,h7⟩
end inv
def aA.gp{w:World}{γ:G}{a:AV}{v:Value}(h:aA w γ.cU a v):aA w γ a v:=
 h.eP ⟨zzab _,fun _ _ _ h=>⟨h,rfl⟩,fun _ _ h=>(by cases h),fun _=>zzbp _,fun _ _ h=>(by cases h),fun _ _ h=>(by cases h),fun _ _ _ h=>(by cases h),Sz.refl w⟩
def ak.agg{w:World}{γ:G}{cs:P2}{vs:PQ}(h:ak w γ cs vs):aA w γ (.agg cs) (.agg vs.toArray):=
 .agg (Nm h.1) fun i c v h1 h2=>h.2 i c v h1 (Nm h2)
def ak.Pq{w:World}{γ:G}{cs:P2}{arr:P1}(h:ak w γ cs arr.toList):aA w γ (.agg cs) (.agg arr):=by
 have:=h.agg;simpa using this
def ak.take{w:World}{γ:G}{cs:P2}{vs:PQ}(h:ak w γ cs vs)(n:Nat):ak w γ (cs.take n) (vs.take n):=
 ⟨by simp[h.1],fun i a v h1 h2=>by
  rw[zzbj]at h1 h2;split at h1<;>simp_all;exact h.2 i a v h1 h2⟩
def ak.drop{w:World}{γ:G}{cs:P2}{vs:PQ}(h:ak w γ cs vs)(n:Nat):ak w γ (cs.drop n) (vs.drop n):=
 ⟨by simp[h.1],fun i a v h1 h2=>by
  rw[zzbl]at h1 h2;exact h.2 _ a v h1 h2⟩
def FW(r:Option Nat):Fence:={Fence.wide with round:=r}
section
variable {P:Program} {o:Oper} {a:Act} {w:World} {next:Act->World->Prop} {Q:PP} {r:Option Nat}
def U0{x:Next}{w':World}(h:(execOp a.eval o).run P w=.ok x w')(hx:∀d,x≠.defer d):∀c,o.op≠.defer c:=by
 intro c hc;unfold execOp at h;simp only[hc,Sem.run_bind]at h;cases hr:(resolve a.eval c o.type).run P w with
 |ok d qF=>rw[hr]at h;simp at h;exact hx d h.1.symm
 |halt e qF=>rw[hr]at h;simp at h
def wp_run{x:Next}{w':World}(h:(execOp a.eval o).run P w=.ok x w')(hx:∀d,x≠.defer d)(hn:o.uponIn (FW r) 0 P a next Q (.ok x w')):o.wpIn (FW r) 0 P a w next Q:=by
 refine⟨fun f _=>trivial,?_⟩;rw[Oper.semAt_eq _ _ _ (U0 h hx),h];exact hn
def Zj{v:Value}{w':World}(h:(execOp a.eval o).run P w=.ok (.value v) w')(hn:next (a.put o.dst v) w'):o.wpIn (FW r) 0 P a w next Q:=
 wp_run h (fun _ h=>by cases h) hn
def oF{w':World}(h:(execOp a.eval o).run P w=.ok .skip w')(hn:next (a.put o.dst undef) w'):o.wpIn (FW r) 0 P a w next Q:=
 wp_run h (fun _ h=>by cases h) hn
def EO{f:FuncId}{args:P1}{w':World}(h:(execOp a.eval o).run P w=.ok (.enter f args) w')(hn:Calls P f args w' fun
   |.returned v,qF=>next (a.put o.dst v) qF
   |.panicked chain,qF=>Q (.panic chain) a qF
   |.outgrown,_=>LetsOut Q):o.wpIn (FW r) 0 P a w next Q:=
 wp_run h (fun _ h=>by cases h) ⟨fun h=>by simp[FW,Fence.wide]at h,callsIn_wide.2 hn⟩
end
def bu(b o n:Nat):(⟨b,o,none⟩:Addr).add n=⟨b,o+n,none⟩:=by
 unfold Addr.add;split<;>simp_all
def Qdo{P:Program}{w:World}{γ:G}{agg:Bool}{n b o:Nat}{t:TypeId}{i:TypeInfo}{d:TypeDesc}(hi:P.info? t=some i)(hd:P.underlying t=some d)(bJ:Ki P t=agg)
  (hn:agg=true->n=i.size){cs:P2}{cv:Nat->Value}(bL:∀(j:Nat)(c:AV),cs[j]?=some c->w.cell? ⟨b,o+j,none⟩=some (cv j))(zB:∀(j:Nat)(c:AV),cs[j]?=some c->aA w γ c (cv j))
  (hc:(Vi agg n cs).1):∃v,(Instr.loadAt t (.pointer (some ⟨b,o,none⟩))).run P w=.ok v w/\aA w γ (Vi agg n cs).2 v:=by
 obtain⟨h1,h2⟩:=hc;have aH:n<=cs.length:=by rw[zzaq]at h1;omega
 cases agg with
 |false=>
  have qH:=h2 rfl;subst qH;have hz:cs[0]?=some (cs.getD 0 .junk):=by simp[List.getD];cases cs<;>simp_all
  have hc0:=bL 0 _ hz;refine⟨cv 0,?_,?_⟩
  ·unfold Ki at bJ;rw[hd]at bJ;simp only[zzcn]at hc0;cases d<;>simp at bJ<;>simp[Instr.loadAt,Instr.sureAddr,loadVar,isAgg,run_underlying hd,hc0]
  simpa[Vi]using zB 0 _ hz
 |true=>
  have qH:=hn rfl;subst qH
  have hl:(loadCells ⟨b,o,none⟩ i.size).run P w=.ok ((List.range i.size).map cv).toArray w:=by
   refine run_loadCells w _ _ _ fun j hj=>?_;rw[bu];exact bL j _ (zzaf zE)
  refine⟨.agg ((List.range i.size).map cv).toArray,?_,?_⟩
  ·unfold Ki at bJ;rw[hd]at bJ;cases d<;>simp at bJ<;>simp[Instr.loadAt,Instr.sureAddr,loadVar,isAgg,run_underlying hd,sizeOf,typeInfo,hi,hl]
  simp only[Vi,if_true];refine ak.agg ⟨by simp;omega,fun j c v dX oq=>?_⟩;rw[zzbj]at dX;split at dX
  ·simp at oq;obtain⟨k,hk,rfl⟩:=oq;rename_i ah;rw[zzej ah]at hk;cases hk;exact zB j c dX
  cases dX
open Go Go.RowKit
variable {N:Nat} {w0:eR} {an:Nat->Nat->Prop} {γ:G} {w:World} {B:Nat->PH} {L:Nat->Option Nat}
def ur{a:AV}{v:Value}(h:aA w γ a v)(hc:Qx a=true):v.oneCell'=true:=by
 cases a<;>simp[Qx]at hc<;>cases h<;>first|rfl|(rename_i p;cases p<;>rfl)
def ak.map{ro':Nat->Nat->Prop}{as':P2}{vs:PQ}{f:AV->AV}(h:ak w γ as' vs)(hf:∀a∈as',∀v,aA w γ a v->aA w (G0 ro') (f a) v):ak w (G0 ro') (as'.map f) vs:=
 ⟨Nm h.1,fun i a v h1 h2=>by
  simp at h1;obtain⟨a',h3,rfl⟩:=h1;exact hf a' (zzad h3) v (h.2 i a' v h3 h2)⟩
def ak.vQ{as':P2}{p:AV->Bool}{a:AV}(ha:a∈as')(hp:p a=true):as'.any p=true:=zzbq.2 ⟨a,ha,hp⟩
def Qee(sz:Nat):∀(n:Nat)(l:P2),(aY sz n l).length=n
 |0,_=>rfl
 |n+1,l=>by simp[aY,Qee sz n]
def AF{sz:Nat}:∀{n:Nat}{l:P2}{row:P2},n*sz<=l.length->row∈aY sz n l->row.length=sz
 |0,_,_,_,h=>by cases h
 |n+1,l,row,hl,h=>by
  rw[zzbr,zzdu]at hl;rcases zzam.1 h with rfl|h
  ·simp;omega
  exact AF (by simp;omega) h
def Ws{sz:Nat}{c:AV}:∀{n:Nat}{l:P2}{i j:Nat},Qv (aY sz n l) i j=some c->i<n/\j<sz/\l[i*sz+j]?=some c
 |0,_,i,j,h=>by simp[Qv,aY]at h
 |n+1,l,0,j,h=>by
  simp only[Qv,aY,zzgq,zzcv]at h;rw[zzbj]at h;split at h
  ·rename_i hj;exact⟨zE,hj,Nm h⟩
  cases h
 |n+1,l,i+1,j,h=>by
  have h':Qv (aY sz n (l.drop sz)) i j=some c:=by simpa[Qv,aY]using h
  obtain⟨h1,h2,h3⟩:=Ws h';rw[zzbl]at h3;refine⟨zE,h2,?_⟩;rw[zzbr,zzdu,zzff (i*sz) sz,zzan];exact h3
def kH(hm:au N w0 an γ w B L){m:AM}(hB:∀id cells,m.boxes[id]?=some cells->B id=some cells){ro':Nat->Nat->Prop}(gi:∀b o,γ.ro b o->ro' b o):
  ∀(d:Nat)(a:AV)(v:Value),aA w γ a v->(Vf d a=true->∀id b,γ.β id=some b->∀o,ro' b o)->aA w (G0 ro') (bA m d a) v:=by
 have aqR:∀(a:AV)(v:Value),aA w γ.cU a v->aA w (G0 ro') a v:=fun a v h=>
  h.mono ⟨zzab _,fun b o _ h=>⟨gi b o h,rfl⟩,fun _ _ h=>(by cases h),fun _=>zzab _,fun _ _ h=>(by cases h),rfl,fun _ _ _ h=>(by cases h),fun _ h=>h.elim,Sz.refl w⟩
 intro d;induction d with
 |zero=>exact fun _ _ _ _=>.junk _
 |succ d ih=>
  intro a v h hp;cases a with
  |junk=>exact .junk _
  |bool b=>rw[h.bw];exact .bool b
  |int k n=>rw[h.aI];exact .int k n
  |str s=>rw[h.cp];exact .str s
  |nilfn=>rw[h.Pp];exact .nilfn
  |gd g a=>exact .junk _
  |yld l=>exact .junk _
  |mp id=>exact .junk _
  |nilv p=>cases h;exact .nilv p
  |it id=>exact .junk _
  |aJ kn kvs=>exact .junk _
  |mitr mid n s=>exact .junk _
  |agg cs=>
   obtain⟨arr,rfl,hr⟩:=h.gm;refine ak.Pq (hr.map fun a ha v hv=>ih a v hv fun kJ=>hp ?_);simp only[Vf];exact ak.vQ ha kJ
  |aS cs=>
   obtain⟨arr,rfl,hr⟩:=h.Ct;have:=hr.map (ro':=ro') (f:=bA m d) fun a ha v hv=>ih a v hv fun kJ=>hp (by simp only[Vf];exact ak.vQ ha kJ);exact .aS (Nm this.1) fun i c v h1 h2=>this.2 i c v h1 (Nm h2)
  |fn f first cap=>
   obtain⟨fa,ca,rfl,h1,h2⟩:=h.qG;have t1:=h1.map (ro':=ro') (f:=bA m d) fun a ha v hv=>ih a v hv fun kJ=>hp (by simp only[Vf];rw[ak.vQ ha kJ];rfl);have t2:=h2.map (ro':=ro') (f:=bA m d) fun a ha v hv=>ih a v hv fun kJ=>hp (by simp only[Vf];rw[ak.vQ ha kJ];simp);exact .fn (Nm t1.1) (fun i c v h1 h2=>t1.2 i c v h1 (Nm h2)) (Nm t2.1) fun i c v h1 h2=>t2.2 i c v h1 (Nm h2)
  |ep row o=>
   obtain⟨b,off,cv,rfl,hb,hc,hr⟩:=h.iY;exact .ep cv hb (fun j c hj=>⟨(hc j c hj).1,gi _ _ (hc j c hj).2.1,(hc j c hj).2.2⟩) fun j c hj=>aqR _ _ (hr j c hj)
  |sl rt rows=>
   obtain⟨a,cap,b,off,sz,cv,rfl,h1,h2,h3,h4,h5,h6,h7⟩:=h.UZ
   have key:∀zi,qD w (G0 ro') a rows.length cap sz zi->aA w (G0 ro') (.sl zi rows) (.slice a rows.length cap):=fun zi aX=>
    .sl b off sz cv h1 h2 h3 h4 (fun i j c hj=>⟨(h5 i j c hj).1,gi _ _ (h5 i j c hj).2.1,(h5 i j c hj).2.2⟩) (fun i j c hj=>aqR _ _ (h6 i j c hj)) aX
   cases rt with
   |ro=>exact key .ro trivial
   |full=>exact key .full h7
   |nil=>exact key .nil h7
   |nn=>exact key .nn h7
   |own id dB=>exact key .ro trivial
  |bs id off len sz=>
   obtain⟨b,cap,arr,te,hb,rfl,hl,hh,hs⟩:=h.cN;have eZ:=hp rfl;obtain⟨_,ah,_⟩:=hm.β id b hb;simp only[bA];cases hble:Nat.ble (off+len*sz) (m.boxes.getD id []).length with
   |false=>exact .junk _
   |true=>
    have cE:=zzbb hble
    have cn:∀(k:Nat)(c:AV),(((m.boxes.getD id []).map (bA m d)).drop off)[k]?=some c->∃c' u,c=bA m d c'/\arr[off+k]?=some u/\arr.getD (off+k) undef=u/\aA w γ c' u/\u.oneCell'=true:=fun k c hk=>by
     rw[zzbl,zzbm]at hk;cases gO:m.boxes[id]? with
     |none=>simp[List.getD,gO]at hk
     |some cells=>
      have:m.boxes.getD id []=cells:=by simp[List.getD,gO]
      rw[this]at hk;obtain⟨bN,e',g2,g3,g4⟩:=hm.box id cells b (hB id cells gO) hb;rw[hh]at g2;cases g2;cases hc:cells[off+k]? with
      |none=>simp[hc]at hk
      |some c'=>
       simp[hc]at hk;have h1:=(zza.1 hc).1;have h2:=g3.1;have bZ:off+k<arr.size:=by simp at h2;omega
       have hu:arr[off+k]?=some arr[off+k]:=zzah bZ;exact⟨c',arr[off+k],hk.symm,hu,by simp[bZ],g3.2 _ c' _ hc (by simp[bZ]),g4 _ zd⟩
    have aH:=Qee sz len (((m.boxes.getD id []).map (bA m d)).drop off)
    have hr:aA w (G0 ro') (.sl .ro (aY sz len (((m.boxes.getD id []).map (bA m d)).drop off))) (.slice (some ⟨b,off,none⟩) (aY sz len (((m.boxes.getD id []).map (bA m d)).drop off)).length cap):=by
     refine .sl b off sz (fun i j=>arr.getD (off+(i*sz+j)) undef) (by rw[aH];exact hl) (fun h=>by cases h) (fun _=>⟨rfl,ah⟩) (fun row ai=>?_) (fun i j c hc=>?_) (fun i j c hc=>?_) trivial
     ·exact AF (by rw[zzcw,zzbv];omega) ai
     ·obtain⟨_,_,h3⟩:=Ws hc;obtain⟨c',u,rfl,h4,h5,h6,h7⟩:=cn _ _ h3;rw[aM hh,zzan,h5];exact⟨h4,eZ id b hb _,h7⟩
     obtain⟨_,_,h3⟩:=Ws hc;obtain⟨c',u,rfl,h4,h5,h6,h7⟩:=cn _ _ h3;rw[UT,h5];exact ih c' u h6 fun _=>eZ
    rw[aH]at hr;exact hr
  |ptr id o=>
   obtain⟨b,hb,rfl⟩:=h.dL;have eZ:=hp rfl;obtain⟨_,ah,_⟩:=hm.β id b hb;simp only[bA];have hz:(.pointer (some ⟨b,o,none⟩):Value)=.pointer (some ⟨b,0+o,none⟩):=by rw[zzbs]
   rw[hz];cases gO:m.boxes[id]? with
   |none=>
    have:m.boxes.getD id []=[]:=by simp[List.getD,gO]
    rw[this];exact .ep (fun _=>undef) ah (fun j c hj=>by simp at hj) fun j c hj=>by simp at hj
   |some cells=>
    have:m.boxes.getD id []=cells:=by simp[List.getD,gO]
    rw[this];obtain⟨arr,e,g2,g3,g4⟩:=hm.box id cells b (hB id cells gO) hb
    have cn:∀(j:Nat)(c:AV),(cells.map (bA m d))[j]?=some c->∃c' u,cells[j]?=some c'/\c=bA m d c'/\arr[j]?=some u/\arr.getD j undef=u/\aA w γ c' u:=fun j c hj=>by
     simp at hj;obtain⟨c',h1,rfl⟩:=hj
     have bZ:j<arr.size:=by
      have:=g3.1;rcases zzaa j cells.length with h|h
      ·simp at this;omega
      rw[zzat h]at h1;cases h1
     have hu:arr[j]?=some arr[j]:=zzah bZ;exact⟨c',arr[j],h1,rfl,hu,by simp[bZ],g3.2 j c' _ h1 (by simp[bZ])⟩
    refine .ep (fun j=>arr.getD j undef) ah (fun j c hj=>?_) fun j c hj=>?_
    ·obtain⟨c',u,h1,h2,h3,h4,h5⟩:=cn j c hj;rw[zzbs,aM g2,h4];exact⟨h3,eZ id b hb j,g4 u (by simpa using zzdd h3)⟩
    obtain⟨c',u,h1,rfl,h3,h4,h5⟩:=cn j c hj;rw[UT,h4];exact ih c' u h5 fun _=>eZ
def U1{w':World}{γ':G}{r:AV}{v:Value}(hf:flat r=true)(h:aA w γ r v):aA w' γ' r v:=by
 have one:∀(a:AV)(v:Value),iX a=true->aA w γ a v->aA w' γ' a v:=fun a v hf h=>by
  cases a<;>simp[iX]at hf
  ·rw[h.bw];exact .bool _
  ·rw[h.aI];exact .int _ _
  rw[h.cp];exact .str _
 cases r with
 |aS cs=>
  obtain⟨arr,rfl,hr⟩:=h.Ct;simp only[flat]at hf;exact .aS (Nm hr.1) fun i c v h1 h2=>one c v (zzay.1 hf c (zzad h1)) (hr.2 i c v h1 (Nm h2))
 |_=>exact one _ _ hf h
def JD{P:Program}{gl:Nat->AV}(hm:au N w0 an γ w B L){m:AM}(hB:∀id cells,m.boxes[id]?=some cells->B id=some cells)(lG:∀g,aA w γ.cU (gl g) (.pointer (some ⟨g,0,none⟩)))
  {f:FuncId}{as':P2}{vs:PQ}{r:AV}(hr:ak w γ as' vs)(hp:Pure P gl f (as'.map (bA m 6)) r)(fu:as'.any (Vf 6)=true->flat r=true)
  {R:Ending->World->Prop}(hk:∀v w' γ',Ev w γ w' γ'->au N w0 an γ' w' B L->aA w' γ' r v->R (.returned v) w'):Calls P f vs.toArray w R:=by
 let ro':Nat->Nat->Prop:=fun b o=>γ.ro b o\/(as'.any (Vf 6)=true/\∃id,γ.β id=some b)
 have oG:ak w (G0 ro') (as'.map (bA m 6)) vs:=hr.map fun a ha v hv=>kH hm hB (fun b o h=>.inl h) 6 a v hv fun kJ id b hb o=>.inr ⟨ak.vQ ha kJ,id,hb⟩
 have awq:∀g,aA w (G0 ro') (gl g) (.pointer (some ⟨g,0,none⟩)):=fun g=>
  (lG g).mono ⟨zzab _,fun b o _ h=>⟨.inl h,rfl⟩,fun _ _ h=>(by cases h),fun _=>zzab _,fun _ _ h=>(by cases h),rfl,fun _ _ _ h=>(by cases h),fun _ h=>h.elim,Sz.refl w⟩
 refine(hp.2 ro' w vs awq oG).mono ?_;rintro e w' ⟨v,rfl,hb,hv⟩;refine hk v w' _ (hm.dx hb) (hm.grow hb) ?_;cases hany:as'.any (Vf 6)with
 |true=>exact U1 (fu hany) hv
 |false=>
  refine hv.eP ⟨zzab _,fun b o ah h=>⟨?_,rfl⟩,fun _ _ h=>(by cases h),fun _=>zzbp _,fun _ _ h=>(by cases h),fun _ _ h=>(by cases h),fun _ _ _ h=>(by cases h),Sz.refl w'⟩;obtain(h|⟨h,_⟩)|h:=h
  ·exact .inl h
  ·rw[hany]at h;cases h
  exact .inr ⟨h,ah⟩
open Go Go.RowKit
def Vb(n sz:Nat)(cv:Nat->Nat->Value):PQ:=(List.range (n*sz)).map fun k=>cv (k/sz) (k%sz)
def Ze(n sz:Nat)(cv:Nat->Nat->Value):(Vb n sz cv).length=n*sz:=by simp[Vb]
def qI{n sz:Nat}{cv:Nat->Nat->Value}{k:Nat}{u:Value}(h:(Vb n sz cv)[k]?=some u):k<n*sz/\u=cv (k/sz) (k%sz):=by
 simp only[Vb,zzbm]at h;rcases zzaa k (n*sz)with hk|hk
 ·rw[zzej hk]at h;simp at h;exact⟨hk,h.symm⟩
 rw[zzat (Nm hk)]at h;simp at h
def vR(n sz:Nat)(cv:Nat->Nat->Value){i j:Nat}(hi:i<n)(hj:j<sz):(Vb n sz cv)[i*sz+j]?=some (cv i j):=by
 have hk:i*sz+j<n*sz:=by
  have:(i+1)*sz<=n*sz:=zzbd _ hi;rw[zzbr,zzdu]at this;omega
 have h1:(i*sz+j)/sz=i:=by
  rw[zzef,Nat.mul_add_div zE,zzgl hj];rfl
 have h2:(i*sz+j)%sz=j:=by
  rw[zzef,Nat.mul_add_mod,zzgm hj]
 simp[Vb,zzej hk,h1,h2]
def vS{rows:T5}{sz k:Nat}(hsz:∀row∈rows,row.length=sz)(hk:k<rows.length*sz):∃c,Qv rows (k/sz) (k%sz)=some c:=by
 have h0:0<sz:=by
  rcases zzck sz with h|h;· subst h;simp at hk
  · exact h
 have h1:k/sz<rows.length:=by rw[Nat.div_lt_iff_lt_mul h0];exact hk
 have h2:k%sz<(rows[k/sz]).length:=by rw[hsz _ (zzdj h1)];exact zzed _ h0
 exact⟨rows[k/sz][k%sz],by simp[Qv,h1,h2]⟩
structure qo (w:World) (γ:G) (rows:T5) (a:Option Addr) (cap b off sz:Nat) (cv:Nat->Nat->Value):Prop where
 hcap:rows.length<=cap
 hnil:a=none->cap=0
 at_:rows≠[]->a=some ⟨b,off,none⟩/\b<w.heap.size
 hsz:∀row∈rows,row.length=sz
 cell:∀(i j:Nat)(c:AV),Qv rows i j=some c->w.cell? ⟨b,off+i*sz+j,none⟩=some (cv i j)/\γ.ro b (off+i*sz+j)/\(cv i j).oneCell'=true
 rep:∀(i j:Nat)(c:AV),Qv rows i j=some c->aA w γ.cU c (cv i j)
def qo.mk'{w:World}{γ:G}{rows:T5}{a:Option Addr}{cap b off sz:Nat}{cv:Nat->Nat->Value}(h:qo w γ rows a cap b off sz cv){rt:Rt}(aX:qD w γ a rows.length cap sz rt):
  aA w γ (.sl rt rows) (.slice a rows.length cap):=.sl b off sz cv h.hcap h.hnil h.at_ h.hsz h.cell h.rep aX
def aA.b9{w:World}{γ:G}{v:Value}{rt:Rt}{rows:T5}(h:aA w γ (.sl rt rows) v):∃(a:Option Addr)(cap b off sz:Nat)(cv:Nat->Nat->Value),
  v=.slice a rows.length cap/\qo w γ rows a cap b off sz cv/\qD w γ a rows.length cap sz rt:=by
 obtain⟨a,cap,b,off,sz,cv,h0,h1,h2,h3,h4,h5,h6,h7⟩:=h.UZ;exact⟨a,cap,b,off,sz,cv,h0,⟨h1,h2,h3,h4,h5,h6⟩,h7⟩
def qo.cells{w:World}{γ:G}{rows:T5}{a:Option Addr}{cap b off sz:Nat}{cv:Nat->Nat->Value}(h:qo w γ rows a cap b off sz cv):
  ∀k u,(Vb rows.length sz cv)[k]?=some u->w.cell? ((⟨b,off,none⟩:Addr).add k)=some u:=fun k u hu=>by
 obtain⟨hk,rfl⟩:=qI hu;obtain⟨c,hc⟩:=vS h.hsz hk;have:=(h.cell _ _ c hc).1
 have h0:0<sz:=by
  rcases zzck sz with h|h;· subst h;simp at hk
  · exact h
 rw[bu];rw[<- this]
 have e:off+k=off+k/sz*sz+k%sz:=by
  have:=zzgr k sz;rw[zzef]at this;omega
 rw[e]
def qo.one{w:World}{γ:G}{rows:T5}{a:Option Addr}{cap b off sz:Nat}{cv:Nat->Nat->Value}(h:qo w γ rows a cap b off sz cv):
  ∀u∈Vb rows.length sz cv,u.oneCell'=true:=fun u hu=>by
 obtain⟨k,hk⟩:=zzcq.1 hu;obtain⟨Cu,rfl⟩:=qI hk;obtain⟨c,hc⟩:=vS h.hsz Cu;exact(h.cell _ _ c hc).2.2
def qo.first{P:Program}{w:World}{γ:G}{rows:T5}{a:Option Addr}{cap b off sz:Nat}{cv:Nat->Nat->Value}(h:qo w γ rows a cap b off sz cv){w':World}(hw:∀x,w'.cell? x=w.cell? x):
  (Builtin.firstCells sz rows.length (.slice a rows.length cap)).run P w'=.ok (Vb rows.length sz cv).toArray w':=by
 cases hr:rows with
 |nil=>
  subst hr;cases a with
  |none=>simp[Builtin.firstCells,Vb]
  |some a=>simp[Builtin.firstCells,loadCells,loadCellsFrom,Vb]
 |cons r rs=>
  rw[<- hr];obtain⟨rfl,_⟩:=h.at_ (by rw[hr];simp);exact run_firstCells_some w' sz rows.length _ rows.length cap _ (Ze _ _ _) fun j u hj=>by rw[hw];exact h.cells j u hj
def Qct(n:Nat)(cv gq:Nat->Nat->Value):Nat->Nat->Value:=fun i j=>if i<n then cv i j else gq (i-n) j
def Ui{rows aq:T5}{i j:Nat}{c:AV}(h:Qv (rows++aq) i j=some c):
  (i<rows.length/\Qv rows i j=some c)\/(rows.length<=i/\Qv aq (i-rows.length) j=some c):=by
 unfold Qv at*
 rcases zzaa i rows.length with hi|hi
 ·rw[zzaj hi]at h;exact .inl ⟨hi,h⟩
 rw[zzap hi]at h;exact .inr ⟨hi,h⟩
def mT{rows:T5}{i j:Nat}{c:AV}(h:Qv rows i j=some c):∃hi:i<rows.length,j<rows[i].length:=by
 unfold Qv at h;cases hr:rows[i]? with
 |none=>simp[hr]at h
 |some row=>
  obtain⟨hi,rfl⟩:=zza.1 hr;simp[hr]at h;exact⟨hi,(zza.1 h).1⟩
def AG(n:Nat):∀(k c:Nat),c<n->Builtin.growBy n k c<=n+n/4+192
 |0,c,h=>by simp only[Builtin.growBy];omega
 |k+1,c,h=>by
  simp only[Builtin.growBy];rw[if_neg zE];by_cases h2:c+(c+768)/4<n
  ·exact AG n k _ h2
  cases k with
  |zero=>simp only[Builtin.growBy];omega
  |succ k=>simp only[Builtin.growBy];rw[if_pos zE];omega
def JE{n c:Nat}(h:c<n):2*Builtin.nextslicecap n c<=3*n+4000:=by
 unfold Builtin.nextslicecap;split
 ·omega
 split
 ·omega
 have:=AG n 4 c h;omega
section run
variable {P:Program} {w:World} {γ:G} {t ty e:TypeId} {i:TypeInfo} {z:Value} {rows aq:T5} {a a2:Option Addr} {cap b off cc b2 gj sz:Nat} {cv gq:Nat->Nat->Value}
def Qeb(ht:P.underlying t=some (.slice e))(hi:P.info? e=some i)(a2:Option Addr)(cc len:Nat)(hcap:len<=cap):
  (Builtin.append_ #[t,t] ty #[.slice a len cap,.slice a2 0 cc]).run P w=.ok (.slice a len cap) w:=by
 cases a<;>cases a2<;>simp[Builtin.append_,run_underlying ht,sizeOf,typeInfo,hi,Builtin.lenOf,hcap,Builtin.firstCells,loadCells,loadCellsFrom,storeCells]
def oH(ht:P.underlying t=some (.slice e))(hi:P.info? e=some i)(hz:i.zero=some z)(h:qo w γ rows a cap b off i.size cv){γ2:G}(h2:qo w γ2 aq a2 cc b2 gj i.size gq)
  (hg:cap<rows.length+aq.length)(cK:(3*(rows.length+aq.length)+4000)*i.bytes<=562949953421312)(vT:rows.length+aq.length<=9223372036854775807):
  ∃bh,rows.length+aq.length<=bh/\(Builtin.append_ #[t,t] ty #[.slice a rows.length cap,.slice a2 aq.length cc]).run P w=
   .ok (.slice (some ⟨w.heap.size,0,none⟩) (rows.length+aq.length) bh)
    (w.drew.alloc (.cells ((Vb rows.length i.size cv).toArray++(Vb aq.length i.size gq).toArray++Builtin.zeroCells z.cells (bh-(rows.length+aq.length))) e)):=by
 have hn:¬(rows.length+aq.length<=cap):=zE
 have akW:¬(9223372036854775807<((rows.length:Int)+(aq.length:Int))):=zE
 have cE:=JE hg
 have akX:¬(281474976710656<Builtin.nextslicecap (rows.length+aq.length) cap*i.bytes):=by
  have:2*Builtin.nextslicecap (rows.length+aq.length) cap*i.bytes<=(3*(rows.length+aq.length)+4000)*i.bytes:=zzbd _ zE;rw[Nat.mul_assoc]at this;omega
 have f1:=h.first (P:=P) (w':=w.drew) fun _=>rfl
 have f2:=h2.first (P:=P) (w':=w.drew) fun _=>rfl
 refine⟨grownCap w (rows.length+aq.length) cap e,grownCap_ge w _ _ _,?_⟩;simp[Builtin.append_,run_underlying ht,sizeOf,typeInfo,zeroValue,hi,hz,Builtin.lenOf,hn,akW,akX,Question.forced,f1,f2,newRow,grownCap];congr 2;apply Array.ext';simp[zzbf]
def Cv(ht:P.underlying t=some (.slice e))(hi:P.info? e=some i)(h2:qo w γ aq a2 cc b2 gj i.size gq){len:Nat}
  (cA:len+aq.length<=cap){arr:P1}{e':TypeId}(hh:w.heap[b]?=some (.cells arr e' (0,0)))(hsz:off+cap*i.size<=arr.size):
  (
   Builtin.append_ #[t,t] ty #[.slice (some ⟨b,off,none⟩) len cap,.slice a2 aq.length cc]).run P w=
   .ok (.slice (some ⟨b,off,none⟩) (len+aq.length) cap) (w.setCells b (off+len*i.size) (Vb aq.length i.size gq)):=by
 have f2:=h2.first (P:=P) (w':=w) fun _=>rfl
 have cE:(len+aq.length)*i.size<=cap*i.size:=zzbd _ cA;rw[zzbr]at cE
 have bY:=run_storeCells_cells (P:=P) b (off+len*i.size) (Vb aq.length i.size gq) 0 w (fun j hj=>by
   rw[Ze]at hj;rw[aM hh,zzcn,zzah zE];rfl)
  (fun j hj=>Zp hh) h2.one
 simp only[zzcn]at bY;simp[Builtin.append_,run_underlying ht,sizeOf,typeInfo,hi,Builtin.lenOf,cA,f2,bu,bY]
end run
open Go Go.RowKit
variable {N:Nat} {w0:eR} {an:Nat->Nat->Prop} {γ:G} {w:World} {B:Nat->PH} {L:Nat->Option Nat}
def qo.fix{rows:T5}{a:Option Addr}{cap b off sz dB:Nat}{cv:Nat->Nat->Value}(h:qo w γ rows a cap b off dB cv)(hr:∀row∈rows,row.length=sz):qo w γ rows a cap b off sz cv:=by
 cases ee:rows with
 |nil=>
  subst ee;exact⟨h.hcap,h.hnil,h.at_,hr,fun i j c hc=>by simp[Qv]at hc,fun i j c hc=>by simp[Qv]at hc⟩
 |cons r rs=>
  have e:dB=sz:=(h.hsz r (by simp[ee])).symm.trans (hr r (by simp[ee]));rw[<- ee];subst e;exact h
def qo.mono{rows:T5}{a:Option Addr}{cap b off sz:Nat}{cv:Nat->Nat->Value}(h:qo w γ rows a cap b off sz cv){w':World}{γ':G}(e:Ev w γ w' γ'):qo w' γ' rows a cap b off sz cv:=by
 obtain⟨a',ay0,b',mU,dB,cv',e0,h1,h2⟩:=((h.mk' (rt:=.ro) trivial).mono e).b9;refine⟨h.hcap,h.hnil,fun hn=>⟨(h.at_ hn).1,zzba (h.at_ hn).2 e.size⟩,h.hsz,fun i j c hc=>?_,fun i j c hc=>(h.rep i j c hc).mono e.cU⟩;have hb:=(h.at_ (by rintro rfl;simp[Qv]at hc)).2;obtain⟨g1,g2,g3⟩:=h.cell i j c hc;exact⟨(e.ro _ _ hb g2).2.trans g1,(e.ro _ _ hb g2).1,g3⟩
def qo.EP{rows aq:T5}{a a2:Option Addr}{cap b off cc b2 gj sz:Nat}{cv gq:Nat->Nat->Value}(h:qo w γ rows a cap b off sz cv){γ2:G}(h2:qo w γ2 aq a2 cc b2 gj sz gq)(oI:∀i j c,Qv aq i j=some c->aA w γ.cU c (gq i j))
  {w':World}{γ':G}(e:Ev w γ w' γ'){nb:Nat}{rest:P1}{te:TypeId}
  (hh:w'.heap[nb]?=some (.cells ((Vb rows.length sz cv).toArray++(Vb aq.length sz gq).toArray++rest) te (0,0)))
  (gi:∀o,o<(rows.length+aq.length)*sz->γ'.ro nb o){bh:Nat}(hcap:rows.length+aq.length<=bh):
  qo w' γ' (rows++aq) (some ⟨nb,0,none⟩) bh nb 0 sz (Qct rows.length cv gq):=by
 refine⟨Nm hcap,fun hn=>(by cases hn),fun _=>⟨rfl,aR hh⟩,fun row hr=>?_,fun i j c hc=>?_,fun i j c hc=>?_⟩
 ·rcases zzao.1 hr with hr|hr
  ·exact h.hsz row hr
  exact h2.hsz row hr
 ·obtain⟨hi,hj⟩:=mT hc
  have Nr:j<sz:=by
   rcases zzao.1 (zzdj hi)with hr|hr
   ·rw[h.hsz _ hr]at hj;exact hj
   rw[h2.hsz _ hr]at hj;exact hj
  have ah:i*sz+j<(rows.length+aq.length)*sz:=by
   have:(i+1)*sz<=(rows.length+aq.length)*sz:=zzbd _ (by simp at hi;omega);rw[zzbr,zzdu]at this;omega
  rw[zzbs];refine⟨?_,gi _ ah,?_⟩
  ·rw[aM hh];rcases Ui hc with⟨h1,h3⟩|⟨h1,h3⟩
   ·have:=vR rows.length sz cv h1 Nr;have hl:i*sz+j<(Vb rows.length sz cv).length:=(zza.1 this).1;rw[Array.append_assoc,zzf (Nm hl)];simp[Qct,h1,this]
   have h4:i-rows.length<aq.length:=(mT h3).1;have:=vR aq.length sz gq h4 Nr
   have e1:i*sz+j=rows.length*sz+((i-rows.length)*sz+j):=by
    rw[Nat.sub_mul];have:rows.length*sz<=i*sz:=zzbd _ h1;omega
   have hl:(i-rows.length)*sz+j<(Vb aq.length sz gq).length:=(zza.1 this).1;rw[Array.append_assoc,Array.getElem?_append_right (by simp[Ze];omega)];rw[zzf (by simp[Ze]at hl |-;omega)];have e2:i*sz+j-rows.length*sz=(i-rows.length)*sz+j:=zE
   simp only[zzep,Ze,e2,List.getElem?_toArray,this,Qct,if_neg (zzbk.2 h1)]
  unfold Qct;rcases Ui hc with⟨h1,h3⟩|⟨h1,h3⟩
  ·rw[if_pos h1];exact(h.cell i j c h3).2.2
  rw[if_neg (zzbk.2 h1)];exact(h2.cell _ j c h3).2.2
 unfold Qct;rcases Ui hc with⟨h1,h3⟩|⟨h1,h3⟩
 ·rw[if_pos h1];exact(h.rep i j c h3).mono e.cU
 rw[if_neg (zzbk.2 h1)];exact(oI _ j c h3).mono e.cU
def Yh(w:World)(o:Obj):(w.drew.alloc o).heap[w.heap.size]?=some o:=by
 show(w.heap.push o)[w.heap.size]?=some o;simp
def tL(w:World)(o:Obj):w.heap.size<(w.drew.alloc o).heap.size:=by
 show _<(w.heap.push o).size;simp
def qJ(w:World)(o:Obj):Below w.heap.size w (w.drew.alloc o):=
 ((Below.refl w.heap.size w).drew).alloc (zzab _) o
section
variable {P:Program} {t ty e:TypeId} {i:TypeInfo} {z:Value} {rows aq:T5} {rt Su:Rt} {v1 v2:Value}
def akY(hm:au N w0 an γ w B L)(ht:P.underlying t=some (.slice e))(hi:P.info? e=some i)(hz:i.zero=some z)(h1:aA w γ (.sl .full rows) v1)(h2:aA w γ (.sl Su aq) v2)
  (hr:∀row∈rows++aq,row.length=i.size)(cK:(3*(rows.length+aq.length)+4000)*i.bytes<=562949953421312)(vT:rows.length+aq.length<=9223372036854775807):
  ∃v w' γ',(Builtin.append_ #[t,t] ty #[v1,v2]).run P w=.ok v w'/\Ev w γ w' γ'/\au N w0 an γ' w' B L/\aA w' γ' (.sl .ro (rows++aq)) v:=by
 obtain⟨a,cap,b,off,sz,cv,rfl,s1,r1⟩:=h1.b9;obtain⟨a2,cc,b2,gj,sz2,gq,rfl,s2,r2⟩:=h2.b9;replace s1:=s1.fix (sz:=i.size) fun row h=>hr row (by simp[h]);replace s2:=s2.fix (sz:=i.size) fun row h=>hr row (by simp[h]);by_cases hn:aq=[]
 ·subst hn;refine⟨_,w,γ,Qeb ht hi _ _ _ s1.hcap,Ev.refl _ _,hm,?_⟩;rw[zzar];exact s1.mk' trivial
 have ij:0<aq.length:=zzdh.2 hn;have hcap:cap=rows.length:=r1;obtain⟨bh,cE,aZ⟩:=oH (P:=P) (ty:=ty) ht hi hz s1 s2 zE cK vT;have hb:=qJ w (.cells ((Vb rows.length i.size cv).toArray++(Vb aq.length i.size gq).toArray++Builtin.zeroCells z.cells (bh-(rows.length+aq.length))) e);refine⟨_,_,_,aZ,hm.dx hb,hm.grow hb,?_⟩;have hj:=s1.EP s2 s2.rep (hm.dx hb) (nb:=w.heap.size) (te:=e) (Yh w _) (fun o _=>.inr ⟨zzab _,tL w _⟩) cE;have:=hj.mk' (rt:=.ro) trivial;rwa [zzak]at this
def G.mark(γ:G)(id n:Nat):G:={γ with cur:=fun i=>if i=id then n else γ.cur i}
def au.oJ(hm:au N w0 an γ w B L){id n:Nat}(hn:γ.cur id<=n)(h0:γ.cur id=n\/γ.own id=none):Ev w γ w (γ.mark id n) where
 size:=zzab _
 ro _ _ _ h:=⟨h,rfl⟩
 β _ _ h:=h
 cur j:=by simp only[G.mark];split<;>simp_all
 mm _ _ h:=h
 lp:=rfl
 own j b _ ho:=⟨ho,fun arr _ h=>⟨arr,h,zzab _⟩,fun _ h=>h⟩
 sp _ h:=⟨h,rfl⟩
 ss:=Sz.refl w
def au.mark(hm:au N w0 an γ w B L){id n:Nat}(hn:γ.cur id<=n)(h0:γ.cur id=n\/γ.own id=none):au N w0 an (γ.mark id n) w B (fun i=>if i=id then some n else L i) where
 bs:=w0.st _ _ _ _ hm.bs ⟨rfl,rfl,rfl,zzab _,fun _ _ _=>rfl,fun _ _ _ h=>⟨h,rfl⟩,fun _ hb=>.inl hb,fun _ _ h=>.inl h⟩
 hN:=hm.hN
 an:=hm.an
 robd:=hm.robd
 box j cs b hb h1:=by
  obtain⟨arr,e,h2,h3,h4⟩:=hm.box j cs b hb h1;exact⟨arr,e,h2,h3.mono (hm.oJ hn h0),h4⟩
 β:=hm.β
 inj:=hm.inj
 own j b hb:=by
  obtain⟨h1,h2,k,hk⟩:=hm.own j b hb;refine⟨h1,h2,?_⟩;by_cases hj:j=id
  ·exact⟨n,by simp[hj]⟩
  exact⟨k,by simp[hj,hk]⟩
 oinj:=hm.oinj
 sp:=hm.sp
 mm i b hb:=by
  obtain⟨h1,h2,h3,h4,h5,h6,h8,h7⟩:=hm.mm i b hb;exact⟨h1,h2,h3,h4,h5,h6,h8,h7.mono (hm.oJ hn h0).cH.AB rfl⟩
 minj:=hm.minj
 len j k hj:=by
  by_cases h:j=id
  ·simp[h]at hj;simp[G.mark,h,hj]
  simp[h]at hj;simp[G.mark,h,hm.len j k hj]
 cur0 j hj:=by
  by_cases h:j=id
  ·simp[h]at hj
  simp[h]at hj;simp[G.mark,h,hm.cur0 j hj]
def vU(hm:au N w0 an γ w B L)(ht:P.underlying t=some (.slice e))(hi:P.info? e=some i)(hz:i.zero=some z)(Cw:z.cells.size=i.size){id:Nat}
  (h1:(aA w γ (.sl .full rows) v1/\L id=none)\/(aA w γ (.sl (.own id i.size) rows) v1/\L id=some rows.length)){γ2:G}{a2:Option Addr}{cc b2 gj:Nat}{gq:Nat->Nat->Value}(s2:qo w γ2 aq a2 cc b2 gj i.size gq)(oI:∀i j c,Qv aq i j=some c->aA w γ.cU c (gq i j))
  (hr:∀row∈rows++aq,row.length=i.size)(cK:(3*(rows.length+aq.length)+4000)*i.bytes<=562949953421312)(vT:rows.length+aq.length<=9223372036854775807):
  ∃v w' γ',(Builtin.append_ #[t,t] ty #[v1,.slice a2 aq.length cc]).run P w=.ok v w'/\Ev w γ w' γ'/\au N w0 an γ' w' B (fun j=>if j=id then some (rows.length+aq.length)else L j)/\aA w' γ' (.sl (.own id i.size) (rows++aq)) v:=by
 have key:∃a cap b off cv,v1=.slice a rows.length cap/\qo w γ rows a cap b off i.size cv/\γ.cur id<=rows.length/\(γ.cur id=rows.length\/γ.own id=none)/\(cap=rows.length\/(lV w γ a id rows.length cap i.size/\γ.cur id=rows.length)):=by
  obtain⟨h1,hL⟩|⟨h1,hL⟩:=h1
  ·obtain⟨a,cap,b,off,sz,cv,rfl,s1,r1⟩:=h1.b9
   have cr:γ.own id=none:=by
    cases ho:γ.own id with
    |none=>rfl
    |some b=>obtain⟨_,_,n,hn⟩:=hm.own id b ho;rw[hL]at hn;cases hn
   exact⟨a,cap,b,off,cv,rfl,s1.fix fun row h=>hr row (by simp[h]),by rw[hm.cur0 id hL];exact zzbp _,.inr cr,.inl r1⟩
  obtain⟨a,cap,b,off,sz,cv,rfl,s1,r1,r2,r3⟩:=h1.b9;subst r1;have hc:=hm.len id _ hL;exact⟨a,cap,b,off,cv,rfl,s1,zE,.inl hc,(r3 hc.symm).imp_right fun h=>⟨h,hc⟩⟩
 obtain⟨a,cap,b,off,cv,rfl,s1,adK,cZ,cW⟩:=key;by_cases hn:aq=[]
 ·subst hn;refine⟨_,w,γ.mark id rows.length,Qeb ht hi _ _ _ s1.hcap,hm.oJ adK cZ,by simpa using hm.mark adK cZ,?_⟩;rw[zzar];refine(s1.mono (hm.oJ adK cZ)).mk' ⟨rfl,by simp[G.mark],fun _=>?_⟩;obtain h|⟨h,hc⟩:=cW
  ·exact .inl h
  refine .inr (h.mono (hm.oJ adK cZ) ?_);simp[G.mark,hc]
 have ij:0<aq.length:=zzdh.2 hn;by_cases cA:rows.length+aq.length<=cap
 ·
  obtain h|⟨⟨b',mU,arr,te,ha,ho,hh,hsz,iW⟩,hc⟩:=cW
  ·omega
  subst ha;have aZ:=Cv (P:=P) (ty:=ty) (off:=mU) ht hi s2 cA hh hsz;have hq:mU+(rows.length+aq.length)*i.size=mU+rows.length*i.size+(Vb aq.length i.size gq).length:=by rw[Ze,zzbr];omega
  have bP:=hm.kz (vs:=Vb aq.length i.size gq) (n:=rows.length+aq.length) ho zE (fun h=>zE) hq iW;refine⟨_,_,_,aZ,bP,hm.extend ho zE (fun h=>zE) hq iW,?_⟩;have hb:b'<w.heap.size:=aR hh;have cE:(rows.length+aq.length)*i.size<=cap*i.size:=zzbd _ cA
  have Iv:rows≠[]->b=b'/\off=mU:=fun h=>by
   obtain⟨h1,_⟩:=s1.at_ h;injection h1 with h1;injection h1 with h1 h2;exact⟨h1.symm,h2.symm⟩
  have bQ:∀j(hj:j<(Vb aq.length i.size gq).length),(w.setCells b' (mU+rows.length*i.size) (Vb aq.length i.size gq)).cell? ⟨b',mU+rows.length*i.size+j,none⟩=some (Vb aq.length i.size gq)[j]:=
   World.cell?_setCells_in b' _ _ w fun j hj=>by
    rw[Ze]at hj;rw[aM hh,zzah (by rw[zzbr]at cE;omega)];rfl
  have hj:qo (w.setCells b' (mU+rows.length*i.size) (Vb aq.length i.size gq)) (γ.extend id b' (mU+rows.length*i.size) (mU+(rows.length+aq.length)*i.size) (rows.length+aq.length))
    (rows++aq) (some ⟨b',mU,none⟩) cap b' mU i.size (Qct rows.length cv gq):=by
   refine⟨Nm cA,fun hn=>(by cases hn),fun _=>⟨rfl,by rw[aG];exact hb⟩,hr,fun j k c hc=>?_,fun j k c hc=>?_⟩
   ·rcases Ui hc with⟨Pr,h3⟩|⟨h1,h3⟩
    ·obtain⟨rfl,rfl⟩:=Iv (by rintro rfl;simp at Pr);obtain⟨g1,g2,g3⟩:=(s1.mono bP).cell j k c h3;have ej:Qct rows.length cv gq j k=cv j k:=by unfold Qct;rw[if_pos Pr]
     rw[ej];exact⟨g1,g2,g3⟩
    obtain⟨hi4,hj4⟩:=mT h3;have hk:k<i.size:=by rw[s2.hsz _ (zzdj hi4)]at hj4;exact hj4
    have hf:=vR aq.length i.size gq hi4 hk;obtain⟨ah,cB⟩:=zza.1 hf
    have e1:mU+j*i.size+k=mU+rows.length*i.size+((j-rows.length)*i.size+k):=by
     rw[Nat.sub_mul];have:rows.length*i.size<=j*i.size:=zzbd _ h1;omega
    simp only[Qct,if_neg (zzbk.2 h1)];refine⟨?_,?_,(s2.cell _ _ c h3).2.2⟩
    ·rw[e1,bQ _ ah,cB]
    rw[Ze]at ah;exact .inr ⟨rfl,by rw[e1];omega,by rw[e1,zzbr];omega⟩
   unfold Qct;rcases Ui hc with⟨h1,h3⟩|⟨h1,h3⟩
   ·rw[if_pos h1];exact(s1.rep j k c h3).mono bP.cU
   rw[if_neg (zzbk.2 h1)];exact(oI _ k c h3).mono bP.cU
  have:=hj.mk' (rt:=.own id i.size) ⟨rfl,by simp[G.extend],fun _=>.inr ⟨b',mU,_,te,rfl,ho,Xd b' _ _ w arr te _ hh,by rw[Zz];exact hsz,fun o cO gi=>?_⟩⟩
  ·rwa [zzak]at this
  rw[zzak]at cO;obtain gi|⟨_,_,h4⟩:=gi
  ·refine iW o ?_ gi;have:rows.length*i.size<=(rows.length+aq.length)*i.size:=zzbd _ zE;omega
  omega
 ·
  obtain⟨bh,cE,aZ⟩:=oH (P:=P) (ty:=ty) ht hi hz s1 s2 zE cK vT;have hmd:=hm.drew;have aO:γ.cur id=rows.length+aq.length->γ.own id=none:=fun h=>zE
  have hcn:γ.cur id<=rows.length+aq.length:=zE
  have bP:Ev w γ _ _:=(Ev.drew w γ).trans (hmd.fJ (q:=(rows.length+aq.length)*i.size) hcn aO (.cells ((Vb rows.length i.size cv).toArray++(Vb aq.length i.size gq).toArray++Builtin.zeroCells z.cells (bh-(rows.length+aq.length))) e));refine⟨_,_,_,aZ,bP,hmd.renew hcn aO _,?_⟩
  have hh:(w.drew.alloc (.cells ((Vb rows.length i.size cv).toArray++(Vb aq.length i.size gq).toArray++Builtin.zeroCells z.cells (bh-(rows.length+aq.length))) e)).heap[w.heap.size]?=some (.cells ((Vb rows.length i.size cv).toArray++(Vb aq.length i.size gq).toArray++Builtin.zeroCells z.cells (bh-(rows.length+aq.length))) e (0,0)):=by
   exact Yh w _
  have hj:=s1.EP s2 oI bP (nb:=w.heap.size) hh (fun o ho=>.inr ⟨rfl,ho⟩) cE;have:=hj.mk' (rt:=.own id i.size) ⟨rfl,by simp[G.renew],fun _=>?_⟩
  ·rwa [zzak]at this
  by_cases hz0:bh=rows.length+aq.length
  ·exact .inl (by simp[hz0])
  refine .inr ⟨w.heap.size,0,_,e,rfl,by simp[G.renew],hh,?_,fun o ho gi=>?_⟩
  ·simp only[zzeq,zzep,Ze,size_zeroCells]
   have Pt:bh*i.size=rows.length*i.size+aq.length*i.size+(bh-(rows.length+aq.length))*i.size:=by
    rw[<- zzbr,<- zzbr];congr 1;omega
   rw[Cw,Pt];omega
  simp only[zzak,zzbs]at ho;obtain gi|⟨_,gi⟩:=gi
  ·have:=hm.robd _ _ gi;omega
  omega
def Ns(hm:au N w0 an γ w B L)(ht:P.underlying t=some (.slice e))(hi:P.info? e=some i)(hz:i.zero=some z)(Cw:z.cells.size=i.size){id:Nat}
  (h1:(aA w γ (.sl .full rows) v1/\L id=none)\/(aA w γ (.sl (.own id i.size) rows) v1/\L id=some rows.length))(h2:aA w γ (.sl Su aq) v2)
  (hr:∀row∈rows++aq,row.length=i.size)(cK:(3*(rows.length+aq.length)+4000)*i.bytes<=562949953421312)(vT:rows.length+aq.length<=9223372036854775807):
  ∃v w' γ',(Builtin.append_ #[t,t] ty #[v1,v2]).run P w=.ok v w'/\Ev w γ w' γ'/\au N w0 an γ' w' B (fun j=>if j=id then some (rows.length+aq.length)else L j)/\aA w' γ' (.sl (.own id i.size) (rows++aq)) v:=by
 obtain⟨a2,cc,b2,gj,sz2,gq,rfl,s2,r2⟩:=h2.b9;exact vU hm ht hi hz Cw h1 (s2.fix (sz:=i.size) fun row h=>hr row (by simp[h])) s2.rep hr cK vT
end
open Go Go.RowKit
def Step(N:Nat)(w0:eR)(an:Nat->Nat->Prop)(P:Program)(o:Oper)(a:Act)(γ:G)(w:World)(B:Nat->PH)(L:Nat->Option Nat)(r:AV):Prop:=
 ∀(rd:Option Nat)(next:Act->World->Prop)(Q:PP),(∀v w' γ',Ev w γ w' γ'->au N w0 an γ' w' B L->aA w' γ' r v->next (a.put o.dst v) w')->o.wpIn (FW rd) 0 P a w next Q
section
variable {N:Nat} {w0:eR} {an:Nat->Nat->Prop} {γ:G} {w:World} {B:Nat->PH} {L:Nat->Option Nat} {P:Program} {o:Oper} {a:Act} {r:AV}
def Qs(hm:au N w0 an γ w B L){v:Value}(h:(execOp a.eval o).run P w=.ok (.value v) w)(hr:aA w γ r v):Step N w0 an P o a γ w B L r:=
 fun _ _ _ hk=>Zj h (hk v w γ (Ev.refl _ _) hm hr)
def AH{v:Value}{w':World}{γ':G}(hm:au N w0 an γ' w' B L)(e:Ev w γ w' γ')(h:(execOp a.eval o).run P w=.ok (.value v) w')(hr:aA w' γ' r v):Step N w0 an P o a γ w B L r:=
 fun _ _ _ hk=>Zj h (hk v w' γ' e hm hr)
variable {dst:Option Tmp} {ty:TypeId} {pos:String} {after:Array Edge} {guard:Option (Nat×Bool)} {gl:Nat->AV} {orc:UV} {e:bE->AV} {m:AM}
def Cx{x:AV}{v:Value}{g b:Bool}(h:JC x=some (g,b))(hr:aA w γ x v)(hg:g=true):v=.bool b:=by
 cases x<;>simp[JC]at h
 ·obtain⟨rfl,rfl⟩:=h;exact hr.bw
 rename_i g' y;obtain⟨h1,rfl⟩:=h;rw[hg]at h1;cases g' with
 |false=>cases h1
 |true=>
  cases y<;>simp[isB]at h1;exact(hr.Cs rfl).bw
def Pu(hm:au N w0 an γ w B L){c x y:Operand}(h1:aA w γ (e (aC c)) (a.eval c))(h2:aA w γ (e (aC x)) (a.eval x))(h3:aA w γ (e (aC y)) (a.eval y))
  (hc:(rop P gl orc e m dst (.pick (aC c) (aC x) (aC y))).1):
  Step N w0 an P ⟨dst,.pick c x y,ty,pos,after,guard⟩ a γ w B L (rop P gl orc e m dst (.pick (aC c) (aC x) (aC y))).2:=by
 simp only[rop]at hc |-
 split at hc
 ·rename_i g0 c' g1 x' g2 y' e1 e2 e3;try simp only[e1,e2,e3]
  obtain⟨hc0,fA,Cy⟩:=hc;have h1:=Cx e1 h1 hc0;cases c' with
  |true=>
   have:=Cx e2 h2 (fA rfl);exact Qs hm (v:=.bool x') (by simp[execOp,h1,asBool,this]) (.bool _)
  |false=>
   have:=Cx e3 h3 (Cy rfl);exact Qs hm (v:=.bool y') (by simp[execOp,h1,asBool,this]) (.bool _)
 exact hc.elim
def Pv(hm:au N w0 an γ w B L)(hB:∀id cells,m.boxes[id]?=some cells->B id=some cells){t:TypeId}{x:Operand}(h1:aA w γ (e (aC x)) (a.eval x))
  (hc:(rop P gl orc e m dst (tr P ⟨dst,.load t x,ty,pos,after,guard⟩)).1):
  Step N w0 an P ⟨dst,.load t x,ty,pos,after,guard⟩ a γ w B L (rop P gl orc e m dst (tr P ⟨dst,.load t x,ty,pos,after,guard⟩)).2:=by
 simp only[tr]at hc |-
 split at hc
 case h_2=>exact hc.elim
 rename_i i d hi hd;try simp only[hi,hd]
 have main:∀(agg:Bool)(n:Nat),Ki P t=agg->(agg=true->n=i.size)->(rop P gl orc e m dst (.load agg n (aC x))).1->
   Step N w0 an P ⟨dst,.load t x,ty,pos,after,guard⟩ a γ w B L (rop P gl orc e m dst (.load agg n (aC x))).2:=by
  intro agg n bJ hn hc;simp only[rop]at hc |-
  split at hc
  ·rename_i id o' he;try simp only[he]
   rw[he]at h1;obtain⟨b,hb,hv⟩:=h1.dL;cases gO:m.boxes[id]? with
   |none=>
    have e0:m.boxes.getD id []=[]:=by simp[List.getD,gO]
    rw[e0]at hc |-
    obtain⟨v,h2,h3⟩:=Qdo (P:=P) (w:=w) (γ:=γ) (b:=b) (o:=o') (cv:=fun _=>undef) hi hd bJ hn (fun j c hj=>by simp at hj) (fun j c hj=>by simp at hj) hc;exact Qs hm (by simp[execOp,hv,h2]) h3
   |some cells=>
    have e0:m.boxes.getD id []=cells:=by simp[List.getD,gO]
    rw[e0]at hc |-
    obtain⟨arr,te,g2,g3,g4⟩:=hm.box id cells b (hB id cells gO) hb
    have cn:∀(j:Nat)(c:AV),(cells.drop o')[j]?=some c->arr[o'+j]?=some (arr.getD (o'+j) undef)/\aA w γ c (arr.getD (o'+j) undef):=fun j c hj=>by
     rw[zzbl]at hj
     have ah:o'+j<arr.size:=by
      have:=(zza.1 hj).1;have h0:=g3.1;simp at h0;omega
     have hu:arr[o'+j]?=some (arr.getD (o'+j) undef):=by simp[ah]
     exact⟨hu,g3.2 _ _ _ hj (Nm hu)⟩
    obtain⟨v,h2,h3⟩:=Qdo (P:=P) (w:=w) (γ:=γ) (b:=b) (o:=o') (cv:=fun j=>arr.getD (o'+j) undef) hi hd bJ hn (fun j c hj=>by rw[aM g2];exact(cn j c hj).1) (fun j c hj=>(cn j c hj).2) hc;exact Qs hm (by simp[execOp,hv,h2]) h3
  ·rename_i row o' he;try simp only[he]
   rw[he]at h1;obtain⟨b,off,cv,hv,hb,bL,zB⟩:=h1.iY;have cn:∀(j:Nat)(c:AV),(row.drop o')[j]?=some c->row[o'+j]?=some c:=fun j c hj=>by rw[zzbl]at hj;exact hj
   obtain⟨v,h2,h3⟩:=Qdo (P:=P) (w:=w) (γ:=γ) (b:=b) (o:=off+o') (cv:=fun j=>cv (o'+j)) hi hd bJ hn
    (fun j c hj=>by rw[zzan];exact(bL _ _ (cn j c hj)).1) (fun j c hj=>(zB _ _ (cn j c hj)).gp) hc
   exact Qs hm (by simp[execOp,hv,h2]) h3
  exact hc.elim
 cases bJ:Ki P t with
 |true=>simp only[bJ,if_true]at hc |-;exact main true _ bJ (fun _=>rfl) hc
 |false=>simp only[bJ]at hc |-;exact main false 1 bJ (fun h=>by cases h) hc
def JF(hm:au N w0 an γ w B L){t:TypeId}{x:Operand}{f:Nat}(h1:aA w γ (e (aC x)) (a.eval x))
  (hc:(rop P gl orc e m dst (tr P ⟨dst,.fieldAddr t x f,ty,pos,after,guard⟩)).1):
  Step N w0 an P ⟨dst,.fieldAddr t x f,ty,pos,after,guard⟩ a γ w B L (rop P gl orc e m dst (tr P ⟨dst,.fieldAddr t x f,ty,pos,after,guard⟩)).2:=by
 simp only[tr]at hc |-
 split at hc
 case h_2=>exact hc.elim
 rename_i fields hu;try simp only[hu]
 split at hc
 case h_2=>exact hc.elim
 rename_i fl fu;try simp only[fu]
 split at hc
 case h_2=>exact hc.elim
 rename_i i hi;try simp only[hi]
 split at hc
 case isTrue=>exact hc.elim
 rename_i hsz;try rw[if_neg hsz]
 simp only[rop]at hc |-
 have aqS:i.size≠0:=by simpa using hsz
 split at hc
 ·rename_i id o' he;try simp only[he]
  rw[he]at h1;obtain⟨b,hb,hv⟩:=h1.dL;exact Qs hm (v:=.pointer (some ⟨b,o'+fl.offset,none⟩)) (by simp[execOp,hv,Instr.fieldAt,run_underlying hu,fu,Instr.sureAddr,fieldPlace,sizeOf,typeInfo,hi,aqS,bu]) (.ptr hb)
 ·rename_i row o' he;try simp only[he]
  rw[he]at h1;obtain⟨b,off,cv,hv,hb,bL,zB⟩:=h1.iY;refine Qs hm (v:=.pointer (some ⟨b,off+(o'+fl.offset),none⟩)) (by simp[execOp,hv,Instr.fieldAt,run_underlying hu,fu,Instr.sureAddr,fieldPlace,sizeOf,typeInfo,hi,aqS,bu,zzan]) (.ep cv hb bL zB)
 exact hc.elim
def JG(hm:au N w0 an γ w B L){t:TypeId}{x y:Operand}(h1:aA w γ (e (aC x)) (a.eval x))(h2:aA w γ (e (aC y)) (a.eval y))
  (hc:(rop P gl orc e m dst (tr P ⟨dst,.indexAddr t x y,ty,pos,after,guard⟩)).1):
  Step N w0 an P ⟨dst,.indexAddr t x y,ty,pos,after,guard⟩ a γ w B L (rop P gl orc e m dst (tr P ⟨dst,.indexAddr t x y,ty,pos,after,guard⟩)).2:=by
 simp only[tr]at hc |-
 split at hc
 ·rename_i te hu;try simp only[hu]
  split at hc
  case h_2=>exact hc.elim
  rename_i i hi;try simp only[hi]
  simp only[rop]at hc |-
  split at hc
  case h_3=>exact hc.elim
  case h_2=>
   rename_i id off len dB k n e1 e2;try simp only[e1,e2]
   rw[e1]at h1;rw[e2]at h2;obtain⟨b,cap,arr,zj,hb,hv,hl,hh,hs⟩:=h1.cN;obtain⟨⟨fB,qH⟩,rfl⟩:=hc;refine Qs hm (v:=.pointer (some ⟨b,off+n.toNat*i.size,none⟩)) ?_ (.ptr hb);simp[execOp,hv,h2.aI,Instr.indexAt,run_underlying hu,asIntOf,fB,qH,sizeOf,typeInfo,hi,bu]
  rename_i rt rows k n e1 e2;try simp only[e1,e2]
  rw[e1]at h1;rw[e2]at h2;obtain⟨a',cap,b,off,sz,cv,hv,s,_⟩:=h1.b9;obtain⟨⟨fB,qH⟩,aH⟩:=hc;have ah:n.toNat<rows.length:=zE
  have dD:rows.getD n.toNat []∈rows:=by simp[List.getD,ah]
  have hsz:sz=i.size:=(s.hsz _ dD).symm.trans aH;subst hsz;obtain⟨ha,hb⟩:=s.at_ (by rintro rfl;simp at ah)
  have ot:∀(j:Nat)(c:AV),(rows.getD n.toNat [])[j]?=some c->Qv rows n.toNat j=some c:=fun j c hj=>by
   simp[Qv,List.getD,ah]at hj |-;exact hj
  refine Qs hm (v:=.pointer (some ⟨b,(off+n.toNat*i.size)+0,none⟩)) ?_ (.ep (off:=off+n.toNat*i.size) (cv n.toNat) hb (fun j c hj=>s.cell _ j c (ot j c hj)) fun j c hj=>s.rep _ j c (ot j c hj));have vV:n<(rows.length:Int):=qH;simp[execOp,hv,h2.aI,ha,Instr.indexAt,run_underlying hu,asIntOf,fB,vV,sizeOf,typeInfo,hi,bu]
 ·rename_i len te hu;try simp only[hu]
  split at hc
  case h_2=>exact hc.elim
  rename_i i hi;try simp only[hi]
  simp only[rop]at hc |-
  split at hc
  ·rename_i id o' k n e1 e2;try simp only[e1,e2]
   rw[e1]at h1;rw[e2]at h2;obtain⟨b,hb,hv⟩:=h1.dL;obtain⟨fB,qH⟩:=hc;refine Qs hm (v:=.pointer (some ⟨b,o'+n.toNat*i.size,none⟩)) ?_ (.ptr hb);simp[execOp,hv,h2.aI,Instr.indexAt,Instr.sureAddr,run_underlying hu,asIntOf,fB,qH,sizeOf,typeInfo,hi,bu]
  ·rename_i row o' k n e1 e2;try simp only[e1,e2]
   rw[e1]at h1;rw[e2]at h2;obtain⟨b,off,cv,hv,hb,bL,zB⟩:=h1.iY;obtain⟨fB,qH⟩:=hc;refine Qs hm (v:=.pointer (some ⟨b,off+(o'+n.toNat*i.size),none⟩)) ?_ (.ep cv hb bL zB);simp[execOp,hv,h2.aI,Instr.indexAt,Instr.sureAddr,run_underlying hu,asIntOf,fB,qH,sizeOf,typeInfo,hi,bu,zzan]
  exact hc.elim
 exact hc.elim
end
end Go.Abs
