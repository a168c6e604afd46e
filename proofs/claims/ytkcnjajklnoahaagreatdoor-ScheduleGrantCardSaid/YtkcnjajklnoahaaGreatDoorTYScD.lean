import Derived.Test.YtkcnjajklnoahaaGreatDoorTYSaI
set_option linter.unusedVariables false
set_option linter.unusedSimpArgs false
set_option maxRecDepth 100000
set_option maxHeartbeats 64000000
namespace Go.Proofs.YtkcnjajklnoahaaGreatDoor
open Go Go.Abs
theorem fromL_max (en:List (Int×Int)) (l:List Sp) (f g:Int):Zb en l (max f g)=max (Zb en l f) g:=by
 have key:∀ t,Zb en l (max f g)<=t<->max (Zb en l f) g<=t:=fun t=>by
  have h1:=fromL_le_iff (en:=en) (l:=l) (f:=f) (t:=t)
  have h2:=fromL_le_iff (en:=en) (l:=l) (f:=max f g) (t:=t)
  rw [h2]
  constructor
  ·rintro ⟨a,b⟩
   have:=h1.2 ⟨by omega,b⟩
   omega
  ·intro h
   obtain ⟨a,b⟩:=h1.1 (by omega)
   exact ⟨by omega,b⟩
 have h1:=(key (max (Zb en l f) g)).2 (Int.le_refl _)
 have h2:=(key (Zb en l (max f g))).1 (Int.le_refl _)
 omega
theorem earG_max (p:Pl) (ids:List Int) (us en:List (Int×Int)) (free last:Int):Zt p ids us en free last=Zt p ids us en (max free 0) last:=by
 cases ids with
 | nil=>rfl
 | cons id r =>
  rw [Zt,Zt]
  have h:∀ e:En,Xr p e (Zb en (Vp p e.it) (max e.ea free))=Xr p e (Zb en (Vp p e.it) (max e.ea (max free 0))):=fun e=>by
   have:max e.ea (max free 0)=max (max e.ea free) 0:=by omega
   have h2:∀ f:Int,Xr p e (Zb en (Vp p e.it) f)=Xr p e (Zb en (Vp p e.it) (max f 0)):=fun f=>by
    rw [fromL_max en _ f 0]
    first | exact startS_max p e _ | exact (startS_max p e _).symm
   rw [this]
   exact h2 _
  simp only [h]
theorem earG_part {p' p:Pl} (hm:More p' p) {ids' ids:List Int} (hsub:ids'.Sublist ids) {us' us en' en:List (Int×Int)} {free' free last:Int} {l:List Sp} (hu:LeU us' us) (he:LeE en' en) (hf:free'<=max free 0) (h:Zt p ids us en free last=some l) :
  ∃ l',Zt p' ids' us' en' free' last=some l'/\SubLe l' l:=by
 rw [earG_max] at h
 exact earG_mono hm hsub hu he hf (Int.le_refl _) h
theorem SubLe.len {l' l:List Sp} (h:SubLe l' l):l'.length<=l.length:=by
 induction h with
 | nil=>exact Nat.zero_le _
 | skip s _ ih=>simp only [List.length_cons];omega
 | cons id s' s _ _ ih=>simp only [List.length_cons];omega
theorem SubLe.le {l' l:List Sp} (h:SubLe l' l):(l.map (·.1)).Nodup->∀ (id s' s:Int),(id,s')∈l'->(id,s)∈l->s'<=s:=by
 induction h with
 | nil=>intro _ id s' s h;cases h
 | @skip l' l x hsub ih =>
  intro hn id s' s h1 h2
  simp only [List.map_cons,List.nodup_cons] at hn
  rcases List.mem_cons.1 h2 with e | h2
  ·
   exfalso
   have hmem:∀ {a b:List Sp},SubLe a b->∀ y∈a,y.1∈b.map (·.1):=by
    intro a b hab
    induction hab with
    | nil=>intro y hy;cases hy
    | skip t _ ih2=>intro y hy;exact List.mem_cons_of_mem _ (ih2 y hy)
    | cons i t' t _ _ ih2 =>
     intro y hy
     rcases List.mem_cons.1 hy with rfl | hy
     ·simp
     ·exact List.mem_cons_of_mem _ (ih2 y hy)
   have:=hmem hsub _ h1
   rw [<- e] at hn
   exact hn.1 this
  ·exact ih hn.2 id s' s h1 h2
 | @cons l' l i t' t hle hsub ih =>
  intro hn id s' s h1 h2
  simp only [List.map_cons,List.nodup_cons] at hn
  have hmem:∀ {a b:List Sp},SubLe a b->∀ y∈a,y.1∈b.map (·.1):=by
   intro a b hab
   induction hab with
   | nil=>intro y hy;cases hy
   | skip t _ ih2=>intro y hy;exact List.mem_cons_of_mem _ (ih2 y hy)
   | cons i t' t _ _ ih2 =>
    intro y hy
    rcases List.mem_cons.1 hy with rfl | hy
    ·simp
    ·exact List.mem_cons_of_mem _ (ih2 y hy)
  rcases List.mem_cons.1 h1 with e1 | h1
  ·cases e1
   rcases List.mem_cons.1 h2 with e2 | h2
   ·cases e2;exact hle
   ·exact absurd (List.mem_map.2 ⟨_,h2,rfl⟩) hn.1
  ·rcases List.mem_cons.1 h2 with e2 | h2
   ·cases e2
    exact absurd (hmem hsub _ h1) hn.1
   ·exact ih hn.2 id s' s h1 h2
theorem earG_nodup {p:Pl}:∀ {ids:List Int} {us en:List (Int×Int)} {free last:Int} {l:List Sp},Zt p ids us en free last=some l->ids.Nodup/\∀ id∈ids,∃ k,Vy id p.ens 0=some k/\last < (k:Int)
 | [],_,_,_,_,_,_=>⟨List.nodup_nil,fun _ h=>by cases h⟩
 | id::r,us,en,free,last,l,h=>by
  rw [Zt] at h
  cases hf:Vy id p.ens 0 with
  | none=>rw [hf] at h;cases h
  | some k =>
   rw [hf] at h
   simp only at h
   split at h
   ·cases h
   ·rename_i hkl
    cases hx:p.ens[k]? with
    | none=>rw [hx] at h;cases h
    | some e =>
     rw [hx] at h
     simp only at h
     split at h
     ·cases h
     ·cases hs:Xr p e (Zb en (Vp p e.it) (max e.ea free)) with
      | none=>rw [hs] at h;cases h
      | some s =>
       rw [hs] at h
       simp only at h
       cases hg:Zt p r (Zw us e.it) (Za p en e.it (s+e.fr)) (s+e.fr) k with
       | none=>rw [hg] at h;cases h
       | some l' =>
        obtain ⟨g1,g2⟩:=earG_nodup hg
        refine ⟨List.nodup_cons.2 ⟨fun hm=>?_,g1⟩,fun x hx'=>?_⟩
        ·obtain ⟨k',h1,h2⟩:=g2 id hm
         rw [hf] at h1
         cases h1
         omega
        ·rcases List.mem_cons.1 hx' with rfl | hx'
         ·exact ⟨k,hf,by omega⟩
         ·obtain ⟨k',h1,h2⟩:=g2 x hx'
          exact ⟨k',h1,by omega⟩
open Go Go.Abs
def Xx (n:Int):Prop := -9223372036854775808<=n/\n<=9223372036854775807
def shE (x:En):En:={ x with fr:=if 2000 < x.fr then x.fr.tmod 2000 else x.fr,la:=if max x.ea 0<=100000000/\max x.ea 0+5000 < x.la then max x.ea 0+5000 else x.la,al:=x.al.take 8 }
def shP (p:Pl):Pl:={ p with its:=p.its.take 12,bks:=p.bks.take 5,cls:=p.cls.take 15,sh:=p.sh.take 5,ens:=(p.ens.take 8).map shE }
def selI:List En->Int->List Int
 | [],_=>[]
 | e::r,w=>if w.tmod 2=0 then e.id::selI r (w.tdiv 2) else selI r (w.tdiv 2)
def fewI (p:Pl) (ids:List Int) (wh:Int):List Int:=if wh < 0 then ids.take 10 else selI p.ens wh
structure Ca where
 p:Pl
 ids:List Int
 wh:Int
 at_:Int
 past:List Ad
def Qw (c:Ca):List AV:=Qa c.p++[.sl .ro (c.ids.map Qp),I c.wh,I c.at_,.sl .ro (c.past.map Qu)]
def bndC (c:Ca):Ca:={ c with p:=shP c.p,ids:=fewI (shP c.p) c.ids c.wh,past:=c.past.take 6 }
theorem selI_len:∀ (l:List En) (w:Int),(selI l w).length<=l.length
 | [],_=>Nat.le_refl _
 | e::r,w=>by
  rw [selI]
  have:=selI_len r (w.tdiv 2)
  split<;>simp<;>omega
theorem fewI_len (p:Pl) (ids:List Int) (wh:Int) (h:p.ens.length<=8):(fewI p ids wh).length<=10:=by
 unfold fewI
 split
 ·simp;omega
 ·have:=selI_len p.ens wh;omega
structure PlK (p:Pl):Prop where
 cls:p.cls.length<=1000
 sh:p.sh.length<=1000
 its:p.its.length<=1000
 ens:p.ens.length<=1000
 bks:p.bks.length<=1000
 als:∀ e∈p.ens,e.al.length<=1000
 ln : -9223372036854775808<=p.ln/\p.ln<=9223372036854775807
 ea:∀ e∈p.ens,-9223372036854775808<=e.ea/\e.ea<=9223372036854775807
 la:∀ e∈p.ens,-9223372036854775808<=e.la/\e.la<=9223372036854775807
 fr:∀ e∈p.ens,-9223372036854775808<=e.fr/\e.fr<=2000
theorem PlK.spn {p:Pl} (h:PlK p):(Vn p).length<=1000:=by
 have:=spnG_len p.its [] []
 have:=h.its
 simp only [Vn]
 simp at *;omega
theorem pastU_ok:∀ (l:List Ad) (us:List (Int×Int)) (n:Int),0<=n->UsOK n us->UsOK (n+l.length) (Jj l us)
 | [],us,n,_,h=>by simpa [Jj] using h
 | a::r,us,n,hn,h=>by
  rw [Jj]
  have h1:UsOK (n+1) (if Zn a=true then Zw us a.it else us):=by
   split
   ·exact h.note hn a.it
   ·exact fun k v hk=>by have:=h k v hk;omega
  have h2:=pastU_ok r _ (n+1) (by omega) h1
  have:n+((a::r).length:Int)=n+1+(r.length:Int):=by simp;omega
  rw [this];exact h2
theorem pastE_ok (p:Pl):∀ (l:List Ad) (en:List (Int×Int)),EnOK en->EnOK (Ua p l en)
 | [],en,h=>by simpa [Ua] using h
 | a::r,en,h=>by
  rw [Ua]
  refine pastE_ok p r _ ?_
  cases hc:Zn a with
  | false=>simpa [hc] using h
  | true =>
   simp only [if_true]
   refine h.note a.it _ ?_
   simp [Zn] at hc;omega
open Go Go.Abs
def start0 (p:Pl) (e:En) (f:Int):Option Int :=
 if e.fr < 1\/1000000 < e.fr\/p.ln < e.fr then none else
 if max f 0 < 1000000/\0<=Vj p e/\Vj p e < 1000000 then (match earS (Zc p e.it 0) (max f 0) e.fr with
  | none=>none
  | some s=>if Vj p e < s then none else some s) else Xr p e f
theorem start0_eq (p:Pl) (e:En) (f:Int):start0 p e f=Xr p e f:=by
 unfold start0
 split
 ·rename_i h
  rw [Xr,if_pos h]
 ·rename_i h
  split
  ·rename_i h2
   rw [Xr,if_neg h]
   have hz:(max f 0).tdiv 1000000=0:=Int.tdiv_eq_zero_of_lt (by omega) (by omega)
   rw [hz]
   conv=>rhs;unfold stP
   rw [if_pos (by omega)]
   cases earS (Zc p e.it 0) (max f 0) e.fr with
   | none =>
    simp only
    unfold stP
    rw [if_neg (by omega)]
   | some s=>rfl
  ·rfl
def ear0 (p:Pl):List Int->List (Int×Int)->List (Int×Int)->Int->Int->Option (List Sp)
 | [],_,_,_,_=>some []
 | id::r,us,en,free,last=>match Vy id p.ens 0 with
  | none=>none
  | some k=>if (k:Int)<=last then none else match p.ens[k]? with
   | none=>none
   | some e=>if Zo p e.it ≠ -1/\Zo p e.it<=(af e.it us).getD 0 then none else
    match start0 p e (Zb en (Vp p e.it) (max e.ea free)) with
    | none=>none
    | some s=>match ear0 p r (Zw us e.it) (Za p en e.it (s+e.fr)) (s+e.fr) k with
     | none=>none
     | some l=>some ((id,s)::l)
theorem Qcu (p:Pl):∀ (ids:List Int) (us en:List (Int×Int)) (free last:Int),ear0 p ids us en free last=Zt p ids us en free last
 | [],_,_,_,_=>rfl
 | id::r,us,en,free,last=>by
  rw [ear0,Zt]
  simp only [start0_eq,Qcu p r]
  rfl
def exP (rg:Int):Pl:=⟨0,25,1,0,[],1000,rg,300,1,[⟨1,5,10,0,0⟩,⟨2,2,50,3,0⟩,⟨3,2,50,7,0⟩],[⟨5,2,50,0,100,0,[]⟩,⟨6,3,50,0,240,0,[]⟩],[],[⟨1,2,1001,1100,255,0,0,0⟩,⟨1,3,1000,1100,255,0,0,0⟩,⟨5,0,0,0,0,4,3,7⟩]⟩
theorem ex_a:Zt (exP 1) [5,6] [] [] 0 (-1)=some [(5,25),(6,175)]:=by rw [<- Qcu];cbv
theorem ex_no:Zt (exP 1) [6,5] [] [] 0 (-1)=none:=by rw [<- Qcu];cbv
theorem ex_b:Zt (exP 1) [5,6] [] [] 70 (-1)=some [(5,70),(6,220)]:=by rw [<- Qcu];cbv
theorem ex_c:Zt (exP 1) [5,6] [] [] 95 (-1)=none:=by rw [<- Qcu];cbv
theorem ex_c5:Zt (exP 1) [5] [] [] 95 (-1)=some [(5,95)]:=by rw [<- Qcu];cbv
theorem ex_c6:Zt (exP 1) [6] [] [] 95 (-1)=some [(6,95)]:=by rw [<- Qcu];cbv
theorem ex_v:pvB (exP 1)=true:=by cbv
theorem ex_w:pvB (exP 0)=false:=by cbv
open Go Go.Abs
def nlB (a b:List Sp):Bool:=a.all fun x=>b.all fun y=>!(decide (x.1=y.1)&&decide (y.2 < x.2))
theorem SubLe.mem {a b:List Sp} (hab:SubLe a b):∀ y∈a,y.1∈b.map (·.1):=by
 induction hab with
 | nil=>intro y hy;cases hy
 | skip t _ ih2=>intro y hy;exact List.mem_cons_of_mem _ (ih2 y hy)
 | cons i t' t _ _ ih2 =>
  intro y hy
  rcases List.mem_cons.1 hy with rfl | hy
  ·simp
  ·exact List.mem_cons_of_mem _ (ih2 y hy)
theorem SubLe.nl {a b:List Sp} (h:SubLe a b) (hn:(b.map (·.1)).Nodup):nlB a b=true:=by
 rw [nlB,List.all_eq_true]
 rintro ⟨i,s'⟩ h1
 rw [List.all_eq_true]
 rintro ⟨k,s⟩ h2
 by_cases e:i=k
 ·subst e
  have:=h.le hn i s' s h1 h2
  simp;omega
 ·simp [e]
theorem earG_ids {p:Pl}:∀ {ids:List Int} {us en:List (Int×Int)} {free last:Int} {l:List Sp},Zt p ids us en free last=some l->l.map (·.1)=ids
 | [],_,_,_,_,l,h=>by rw [Zt] at h;cases h;rfl
 | id::r,us,en,free,last,l,h=>by
  rw [Zt] at h
  cases hf:Vy id p.ens 0 with
  | none=>rw [hf] at h;cases h
  | some k =>
   rw [hf] at h
   simp only at h
   split at h
   ·cases h
   ·cases hx:p.ens[k]? with
    | none=>rw [hx] at h;cases h
    | some e =>
     rw [hx] at h
     simp only at h
     split at h
     ·cases h
     ·cases hs:Xr p e (Zb en (Vp p e.it) (max e.ea free)) with
      | none=>rw [hs] at h;cases h
      | some s =>
       rw [hs] at h
       simp only at h
       cases hg:Zt p r (Zw us e.it) (Za p en e.it (s+e.fr)) (s+e.fr) k with
       | none=>rw [hg] at h;cases h
       | some l' =>
        rw [hg] at h
        cases h
        rw [List.map_cons,earG_ids hg]
open Go Go.Abs
theorem Qbp (w:Bool):∀ (ids:List Int) (K:List Bool),(Xa w ids K).Sublist ids
 | [],K=>by cases K<;>simp [Xa]
 | id::r,[]=>by simp [Xa]
 | id::r,k::ks=>by
  rw [Xa]
  split
  ·exact (Qbp w r ks).cons_cons id
  ·exact (Qbp w r ks).cons id
theorem selB_all:∀ {ids:List Int} {K:List Bool},K.length=ids.length->(∀ j,j < ids.length->K.getD j false=true)->Xa true ids K=ids/\Xa false ids K=[]
 | [],K,_,_=>by cases K<;>exact ⟨rfl,rfl⟩
 | id::r,[],h,_=>by simp at h
 | id::r,k::ks,h,hk=>by
  have h0:=hk 0 (by simp)
  simp at h0
  subst h0
  obtain ⟨h1,h2⟩:=selB_all (ids:=r) (K:=ks) (by simpa using h) fun j hj=>by
   have:=hk (j+1) (by simpa using hj)
   simpa using this
  simp [Xa,h1,h2]
theorem choose_all {ok:List Int->Bool} (hm:Mono ok) (h0:ok []=true) (rd:Int->Nat) (ids:List Int) (hrd:∀ id∈ids,rd id<=2) (h:ok ids=true):Xa true ids (Uq ok rd ids)=ids/\Xa false ids (Uq ok rd ids)=[]:=by
 obtain ⟨h1,h2,h3⟩:=choose_spec hm h0 rd ids hrd
 refine selB_all h1 fun j hj=>?_
 rcases h3 j _ (List.getElem?_eq_getElem hj) with h4 | h4
 ·exact h4
 ·rw [hm _ _ (Qbp true ids _) h] at h4
  cases h4
open Go Go.Abs
def Ww (l:List Int):AV:=if l=[] then .sl .nil [] else .sl .ro (l.map Qp)
def bdP (p:Pl) (at_:Int) (past:List Ad):Bd:=⟨p,at_,Jj past [],Ua p past [],[],[],[]⟩
theorem bdP_ok (p:Pl) (at_:Int) (past:List Ad):Qcd (bdP p at_ past):=⟨fun _ _ h=>(by cases h),fun _ _ h=>(by cases h),fun _ _ h=>(by cases h)⟩
def Ui (p:Pl) (at_:Int) (past:List Ad) (ids:List Int):AV:=match Qq p at_ past ids with
 | none=>.tup [.sl .nil [],.bool false]
 | some l=>.tup [Vm l,.bool true]
def conR (p:Pl) (at_:Int) (past:List Ad) (ids:List Int):AV:=Ww (Yf (bdP p at_ past) ids)
def rdS (p:Pl) (id:Int):Nat:=match Yv id p.ens with
 | none=>2
 | some e=>if e.bo≠0 then 0 else match Qy e.it p.its with
  | none=>2
  | some x=>if x.ki=1\/x.ki=4 then 1 else 2
def Yp (p:Pl) (at_:Int) (past:List Ad) (ids:List Int):List Bool:=Uq (okE (bdP p at_ past)) (rdS p) ids
def choR (p:Pl) (at_:Int) (past:List Ad) (ids:List Int):AV :=
 .tup [Vm ((Qq p at_ past (Xa true ids (Yp p at_ past ids))).getD []),Ww (Xa false ids (Yp p at_ past ids))]
theorem Vq (p:Pl) (at_:Int) (past:List Ad) (ids:List Int):okE (bdP p at_ past) ids=(Qq p at_ past ids).isSome:=rfl
theorem rdS_le (p:Pl) (id:Int):rdS p id<=2:=by
 unfold rdS
 cases Yv id p.ens with
 | none=>exact Nat.le_refl _
 | some e =>
  simp only
  split
  ·omega
  ·cases Qy e.it p.its with
   | none=>exact Nat.le_refl _
   | some x=>simp only;split<;>omega
theorem keptS_spec (p:Pl) (at_:Int) (past:List Ad) (ids:List Int):(Yp p at_ past ids).length=ids.length/\(Qq p at_ past (Xa true ids (Yp p at_ past ids))).isSome=true /\
  ∀ (j:Nat) (id:Int),ids[j]? = some id->(Yp p at_ past ids).getD j false=true\/(Qq p at_ past (Xa true ids ((Yp p at_ past ids).set j true))).isSome=false :=
 choose_spec (okE_mono _) (okE_nil _) (rdS p) ids fun id _=>rdS_le p id
theorem keptS_all (p:Pl) (at_:Int) (past:List Ad) (ids:List Int) (h:(Qq p at_ past ids).isSome=true):Xa true ids (Yp p at_ past ids)=ids/\Xa false ids (Yp p at_ past ids)=[] :=
 choose_all (okE_mono _) (okE_nil _) (rdS p) ids (fun id _=>rdS_le p id) h
open Go Go.Abs
theorem take_eq_step {α:Type} {a b:List α} {i:Nat} {x y:α} (ha:a[i]? = some x) (hb:b[i]? = some y) (h:a.take i=b.take i):a.take (i+1)=b.take (i+1)<->x=y:=by
 rw [List.take_add_one,List.take_add_one,ha,hb,h]
 simp
theorem ne_of_take {α:Type} {a b:List α} {i:Nat} (h:a.take i≠b.take i):a≠b:=fun e=>h (by rw [e])
theorem sameS_pure (a b:List Sp) (ha:a.length<=1000000000):Pure Tryz.prog gl0 18 [.sl .ro (a.map Qe),.sl .ro (b.map Qe)] (.bool (decide (a=b))):=by
 refine Ql code18 (fun _ _ _=>.junk) (by simp) ?_
 by_cases hl:a.length=b.length
 ·simp [sc18,hl]
  refine Qg w18_0 (fun f m=>∃ i:Nat,f 5=I i/\i<=b.length/\a.take i=b.take i/\m=⟨[],[],fun _=>.gone,0⟩) (fun f _=>b.length - (numOf (f 5)).toNat) ?_ ?_
  ·exact ⟨0,by simp,by omega,by simp,rfl⟩
  ·rintro f m ⟨i,h5,hi,ht,rfl⟩
   rcases Nat.lt_or_ge i b.length with hlt | hge
   ·obtain ⟨x,hx⟩:∃ x,a[i]? = some x:=⟨_,List.getElem?_eq_getElem (by omega)⟩
    obtain ⟨y,hy⟩:=getS hlt
    have hrx:=Xu hx
    have hry:=Xu hy
    have hilt:(i:Int) < (b.length:Int):=by omega
    have hw:=wrS i (by omega)
    have hs:=take_eq_step hx hy ht
    by_cases e1:x.1=y.1
    ·by_cases e2:x.2=y.2
     ·simp [h5,hl,hlt,hilt,hrx,hry,Qe,w18_0,e1,e2,hw]
      refine ⟨ag ?_,⟨i+1,by simp,by omega,hs.2 (Prod.ext e1 e2)⟩,by omega⟩
      repeat (first | exact Qb _ _ | refine Qc _ rfl ?_)
     ·have hne:a≠b:=ne_of_take fun h=>e2 (by rw [hs.1 h])
      simp [h5,hl,hlt,hilt,hrx,hry,Qe,w18_0,e1,e2,rs18,hne]
    ·have hne:a≠b:=ne_of_take fun h=>e1 (by rw [hs.1 h])
     simp [h5,hl,hlt,hilt,hrx,hry,Qe,w18_0,e1,rs18,hne]
   ·have hin:¬ (i:Int) < (b.length:Int):=by omega
    have he:a=b:=by
     rw [List.take_of_length_le (by omega),List.take_of_length_le (by omega)] at ht
     exact ht
    simp [h5,hl,hin,Nat.not_lt.2 hge,w18_0,rs18,he]
 ·have hne:a≠b:=fun e=>hl (by rw [e])
  have hl':¬ (a.length:Int)=(b.length:Int):=by omega
  simp [sc18,rs18,hl,hl',hne]
theorem sameI_pure (a b:List Int) (ha:a.length<=1000000000):Pure Tryz.prog gl0 21 [.sl .ro (a.map Qp),.sl .ro (b.map Qp)] (.bool (decide (a=b))):=by
 refine Ql code21 (fun _ _ _=>.junk) (by simp) ?_
 by_cases hl:a.length=b.length
 ·simp [sc21,hl]
  refine Qg w21_0 (fun f m=>∃ i:Nat,f 5=I i/\i<=b.length/\a.take i=b.take i/\m=⟨[],[],fun _=>.gone,0⟩) (fun f _=>b.length - (numOf (f 5)).toNat) ?_ ?_
  ·exact ⟨0,by simp,by omega,by simp,rfl⟩
  ·rintro f m ⟨i,h5,hi,ht,rfl⟩
   rcases Nat.lt_or_ge i b.length with hlt | hge
   ·obtain ⟨x,hx⟩:∃ x,a[i]? = some x:=⟨_,List.getElem?_eq_getElem (by omega)⟩
    obtain ⟨y,hy⟩:=getS hlt
    have hrx:Qk (a.map Qp) i=Qp x:=Qv (by simp [hx])
    have hry:Qk (b.map Qp) i=Qp y:=Qv (by simp [hy])
    have hilt:(i:Int) < (b.length:Int):=by omega
    have hw:=wrS i (by omega)
    have hs:=take_eq_step hx hy ht
    by_cases e1:x=y
    ·simp [h5,hl,hlt,hilt,hrx,hry,Qp,w21_0,e1,hw]
     refine ⟨ag ?_,⟨i+1,by simp,by omega,hs.2 e1⟩,by omega⟩
     repeat (first | exact Qb _ _ | refine Qc _ rfl ?_)
    ·have hne:a≠b:=ne_of_take fun h=>e1 (by rw [hs.1 h])
     simp [h5,hl,hlt,hilt,hrx,hry,Qp,w21_0,e1,rs21,hne]
   ·have hin:¬ (i:Int) < (b.length:Int):=by omega
    have he:a=b:=by
     rw [List.take_of_length_le (by omega),List.take_of_length_le (by omega)] at ht
     exact ht
    simp [h5,hl,hin,Nat.not_lt.2 hge,w21_0,rs21,he]
 ·have hne:a≠b:=fun e=>hl (by rw [e])
  have hl':¬ (a.length:Int)=(b.length:Int):=by omega
  simp [sc21,rs21,hl,hl',hne]
theorem countsA_pure (a:Ad):Pure Tryz.prog gl0 40 [.agg (Qu a)] (.bool (Zn a)):=by
 refine Ql code40 (fun _ _ _=>.junk) (by simp) ?_
 by_cases c1:a.re=0
 ·by_cases c2:0<=a.fr
  ·by_cases c3:a.fr<=100000000
   ·by_cases c4:1<=a.fs
    ·simp [sc40,rs40,Qu,Zn,c1,c2,c3,c4]
    ·simp [sc40,rs40,Qu,Zn,c1,c2,c3,c4]
   ·simp [sc40,rs40,Qu,Zn,c1,c2,c3]
  ·simp [sc40,rs40,Qu,Zn,c1,c2]
 ·simp [sc40,rs40,Qu,Zn,c1]
theorem some_pure (l:List Ad):Pure Tryz.prog gl0 36 [.sl .ro (l.map Qu)] (.sl .ro ((l.take 6).map Qu)):=by
 refine Ql code36 (fun _ _ _=>.junk) (by simp) ?_
 have hm:(if (6:Int) < (l.length:Int) then 6 else (l.length:Int))=((min 6 l.length:Nat):Int):=by split<;>omega
 simp [sc36,rs36,Qu,hm]
 refine ⟨by omega,fun row hr=>?_,by omega⟩
 obtain ⟨a,_,rfl⟩:=List.mem_map.1 (List.mem_of_mem_take hr)
 rfl
open Go Go.Abs
theorem pastU_us (past:List Ad):UsOK (past.length:Int) (Jj past []):=by
 have h:=pastU_ok past [] 0 (by omega) (fun k v h=>by cases h)
 rwa [Int.zero_add] at h
theorem pastE_en (p:Pl) (past:List Ad):EnOK (Ua p past []):=pastE_ok p past [] (fun k v h=>by cases h)
theorem Kn {p:Pl} (h:PlK p) {at_:Int} (ha:Xx at_) {past:List Ad} (hp:past.length<=1000) {ids:List Int} (hi:ids.length<=1000) :
  Pure Tryz.prog gl0 16 [.agg (Qa p),.sl .ro (ids.map Qp),I at_,.sl .ro (past.map Qu)] (Ui p at_ past ids):=by
 have hsn:=h.spn
 obtain ⟨l1,l2,l3,l4,l5,l6,l7,l8,l9,l10⟩:=h
 have hU:=pastU_us past
 have hE:=pastE_en p past
 refine Ql code16 Ur (by simp) ?_
 simp [sc16,Qa,Ur]
 have k41:=fun K'=>Qcm [Qa p] [] p at_ past .ro (by omega) (by omega) (by omega) Y0 K'
 simp only [Qa] at k41
 refine k41 _ fun ex=>?_
 clear k41
 simp [Ur]
 refine Qat [Qa p] ex [] (bdP p at_ past) ids .ro past.length (by omega) (by omega) (show p.cls.length<=1000000 by omega) (show p.sh.length<=1000000000 by omega) (show p.its.length<=1000000000 by omega) (show p.ens.length<=1000000000 by omega) (show (Vn p).length<=1000000000 by omega) l7.2 (fun e he=>(l8 e he).2) ha.2 hU hE (bdP_ok p at_ past) Y0 _ (fun h0 rv li pm ex2 exl hB=>?_) (fun l h1 rv li pm ex2 exl rt2 hB hO2=>?_)
 ·have h0:Qq p at_ past ids=none:=h0
  rw [Ui,h0]
  simp [rs16]
 ·have h1:Qq p at_ past ids=some l:=h1
  rw [Ui,h1]
  rcases hO2 with ⟨rfl,rfl⟩ | ⟨k2,rfl,_,_,hne⟩
  ·simp [rs16,Vm]
  ·simp [rs16,Vm,hne]
theorem slI8_con {b:Bd} {ids:List Int}:AV.sl (if okE b ids=true then .nil else .ro) ((Yf b ids).map Qp)=Ww (Yf b ids):=by
 cases h:okE b ids with
 | true=>rw [(Qag b ids).1 h];rfl
 | false =>
  have hn:=((Qag b ids).2 h).2.1
  rw [Ww,if_neg hn,if_neg (by simp)]
theorem conflict22 {p:Pl} (h:PlK p) {at_:Int} (ha:Xx at_) {past:List Ad} (hp:past.length<=1000) {ids:List Int} (hi:ids.length<=1000) :
  Pure Tryz.prog gl0 22 [.agg (Qa p),.sl .ro (ids.map Qp),I at_,.sl .ro (past.map Qu)] (conR p at_ past ids):=by
 have hsn:=h.spn
 obtain ⟨l1,l2,l3,l4,l5,l6,l7,l8,l9,l10⟩:=h
 have hU:=pastU_us past
 have hE:=pastE_en p past
 refine Ql code22 Ur (by simp) ?_
 simp [sc22,Qa,Ur]
 have k41:=fun K'=>Qcm [Qa p] [] p at_ past .ro (by omega) (by omega) (by omega) Y0 K'
 simp only [Qa] at k41
 refine k41 _ fun ex=>?_
 clear k41
 simp [Ur]
 refine conflict43 [Qa p] ex [] (bdP p at_ past) ids .ro (fun m=>clone85 ids (by omega)) past.length (by omega) (by omega) (show p.cls.length<=1000000 by omega) (show p.sh.length<=1000000000 by omega) (show p.its.length<=1000000000 by omega) (show p.ens.length<=1000000000 by omega) (show (Vn p).length<=1000000000 by omega) l7.2 (fun e he=>(l8 e he).2) ha.2 hU hE (bdP_ok p at_ past) Y0 _ (fun rv li pm ex2 exl hB=>?_)
 rw [slI8_con]
 show _
 have hr:conR p at_ past ids=Ww (Yf (bdP p at_ past) ids):=rfl
 rw [hr]
 unfold Ww
 split
 ·simp [rs22]
 ·simp [rs22]
end Go.Proofs.YtkcnjajklnoahaaGreatDoor
