import Derived.Test.YtjmgelbfndnpjaaGreatDoorPPMQ
import Derived.Test.YtjmgelbfndnpjaaGreatDoorPPSeB
set_option linter.unusedVariables false
set_option linter.unusedSimpArgs false
set_option maxRecDepth 100000
set_option maxHeartbeats 64000000
namespace Go.Proofs.YtjmgelbfndnpjaaGreatDoor
open Go Go.Abs
section
variable {α:Type}
def af (k:Int):List (Int×α)->Option α
 | []=>none
 | x::r=>if x.1=k then some x.2 else af k r
def aset (k:Int) (v:α):List (Int×α)->List (Int×α)
 | []=>[(k,v)]
 | x::r=>if x.1=k then (k,v)::r else x::aset k v r
def kvA (row:α->AV) (l:List (Int×α)):List (List Int×AV):=l.map fun x=>([x.1],row x.2)
@[simp] theorem kvA_nil (row:α->AV):kvA row []=[]:=rfl
@[simp] theorem kvA_len (row:α->AV) (l:List (Int×α)):(kvA row l).length=l.length:=by simp [kvA]
theorem Zk (row:α->AV) (k:Int):∀ (l:List (Int×α)) (i:Nat),
  (af k l=none/\Qx [k] (kvA row l) i=none/\(∀ v,aset k v l=l++[(k,v)])/\∀ v,kvA row l++[([k],row v)]=kvA row (aset k v l)) \/
  ∃ u n,af k l=some u/\Qx [k] (kvA row l) i=some (i+n,row u)/\n < l.length/\(kvA row l).getD n ([],.junk)=([k],row u)/\(∀ v,(aset k v l).length=l.length)/\∀ v,(kvA row l).set n ([k],row v)=kvA row (aset k v l)
 | [],i=>.inl ⟨rfl,rfl,fun _=>rfl,fun _=>rfl⟩
 | x::r,i=>by
  by_cases h:x.1=k
  ·refine .inr ⟨x.2,0,by rw [af,if_pos h],by simp [kvA,Qx,h],by simp,by simp [kvA,h],fun v=>by rw [aset,if_pos h];rfl,fun v=>by rw [aset,if_pos h];simp [kvA]⟩
  ·have hk:¬ ([k]:List Int)=[x.1]:=by intro e;cases e;exact h rfl
   rcases Zk row k r (i+1) with ⟨h1,h2,h3,h4⟩ | ⟨u,n,h1,h2,h3,h4,h5,h6⟩
   ·refine .inl ⟨by rw [af,if_neg h];exact h1,?_,fun v=>by rw [aset,if_neg h,h3];rfl,fun v=>?_⟩
    ·simp only [kvA,List.map_cons,Qx];rw [if_neg hk];exact h2
    ·rw [aset,if_neg h]
     simp only [kvA,List.map_cons,List.cons_append]
     exact congrArg _ (h4 v)
   ·refine .inr ⟨u,n+1,by rw [af,if_neg h];exact h1,?_,by simp;omega,by simpa [kvA] using h4,fun v=>by rw [aset,if_neg h];simp [h5 v],fun v=>?_⟩
    ·simp only [kvA,List.map_cons,Qx];rw [if_neg hk,Nat.add_comm n 1,<- Nat.add_assoc];exact h2
    ·rw [aset,if_neg h]
     simp only [kvA,List.map_cons,List.set_cons_succ]
     exact congrArg _ (h6 v)
theorem Wh (k q:Int) (v:α):∀ l:List (Int×α),af q (aset k v l)=if q=k then some v else af q l
 | []=>by
  by_cases h:q=k
  ·subst h;simp [aset,af]
  ·have:¬ k=q:=fun e=>h e.symm
   simp [aset,af,h,this]
 | x::r=>by
  have ih:=Wh k q v r
  by_cases h:x.1=k
  ·rw [aset,if_pos h]
   by_cases hq:q=k
   ·subst hq;simp [af]
   ·have:¬ k=q:=fun e=>hq e.symm
    have hx:¬ x.1=q:=by omega
    simp [af,hq,this,hx]
  ·rw [aset,if_neg h,af,ih,af]
   by_cases hx:x.1=q
   ·have:¬ q=k:=by omega
    simp [hx,this]
   ·rw [if_neg hx]
    by_cases hq:q=k<;>simp [hq,hx]
theorem aset_len (k:Int) (v:α):∀ l:List (Int×α),(aset k v l).length<=l.length+1
 | []=>by simp [aset]
 | x::r=>by
  rw [aset]
  split
  ·simp
  ·have:=aset_len k v r
   simp only [List.length_cons];omega
def Uniq (l:List (Int×α)):Prop:=(l.map (·.1)).Nodup
theorem aset_keys (k:Int) (v:α):∀ l:List (Int×α),(aset k v l).map (·.1)=if (l.map (·.1)).contains k then l.map (·.1) else l.map (·.1)++[k]
 | []=>by simp [aset]
 | x::r=>by
  have ih:=aset_keys k v r
  rw [aset]
  by_cases h:x.1=k
  ·simp [h]
  ·rw [if_neg h]
   have h':¬ k=x.1:=fun e=>h e.symm
   simp only [List.map_cons,ih,List.contains_cons]
   have hb:(k==x.1)=false:=by simpa using h'
   rw [hb,Bool.false_or]
   split<;>simp
theorem Uniq.aset {l:List (Int×α)} (h:Uniq l) (k:Int) (v:α):Uniq (aset k v l):=by
 unfold Uniq at h |-
 rw [aset_keys]
 split
 ·exact h
 ·rename_i hn
  simp only [List.contains_iff_mem] at hn
  exact List.nodup_append.2 ⟨h,by simp,fun a ha b hb=>by simp at hb;subst hb;rintro rfl;exact hn ha⟩
theorem Uniq.af {l:List (Int×α)} (h:Uniq l) {k:Int} {v:α} (hm:(k,v)∈l):af k l=some v:=by
 induction l with
 | nil=>cases hm
 | cons x r ih =>
  unfold Uniq at h
  simp only [List.map_cons,List.nodup_cons] at h
  rw [Proofs.YtjmgelbfndnpjaaGreatDoor.af]
  split
  ·rename_i e
   rcases List.mem_cons.1 hm with rfl | hm
   ·rfl
   ·exact absurd (List.mem_map.2 ⟨_,hm,e.symm⟩) h.1
  ·rename_i e
   rcases List.mem_cons.1 hm with rfl | hm
   ·exact absurd rfl e
   ·exact ih h.2 hm
end
def plcG:List En->Nat->List (Int×Int)->List (Int×Int)
 | [],_,a=>a
 | e::r,i,a=>plcG r (i+1) (match af e.id a with | some _=>a | none=>aset e.id (i:Int) a)
def itsG:List It->List (Int×It)->List (Int×It)
 | [],a=>a
 | x::r,a=>itsG r (match af x.id a with | some _=>a | none=>aset x.id x a)
def spnG:List It->List (Int×It)->List (Int×Int)->List (Int×Int)
 | [],_,s=>s
 | x::r,a,s=>(match af x.id a with
  | some _=>spnG r a s
  | none=>spnG r (aset x.id x a) (if 1<=x.sp/\x.sp<=200 then aset x.sp x.id s else s))
def plcS (p:Pl):List (Int×Int):=plcG p.ens 0 []
def itsS (p:Pl):List (Int×It):=itsG p.its []
def Vz (p:Pl):List (Int×Int):=spnG p.its [] []
def fidx (id:Int):List En->Nat->Option Nat
 | [],_=>none
 | e::r,i=>if e.id=id then some i else fidx id r (i+1)
theorem plcG_af (id:Int):∀ (l:List En) (i:Nat) (a:List (Int×Int)),af id (plcG l i a)=match af id a with | some v=>some v | none=>(fidx id l i).map fun n=>(n:Int)
 | [],i,a=>by simp only [plcG,fidx];cases af id a<;>rfl
 | e::r,i,a=>by
  rw [plcG,plcG_af id r,fidx]
  cases h:af e.id a with
  | some v =>
   simp only
   cases h':af id a with
   | some u=>rfl
   | none =>
    have:¬ e.id=id:=by rintro rfl;rw [h] at h';cases h'
    simp [this]
  | none =>
   simp only
   rw [Wh]
   by_cases e1:id=e.id
   ·subst e1;simp [h]
   ·have e2:¬ e.id=id:=fun h=>e1 h.symm
    simp [e1,e2]
theorem plcS_af (p:Pl) (id:Int):af id (plcS p)=(fidx id p.ens 0).map fun n=>(n:Int):=by rw [plcS,plcG_af];rfl
theorem itsG_af (id:Int):∀ (l:List It) (a:List (Int×It)),af id (itsG l a)=match af id a with | some v=>some v | none=>Xe id l
 | [],a=>by simp only [itsG,Xe];cases af id a<;>rfl
 | e::r,a=>by
  rw [itsG,itsG_af id r,Xe]
  cases h:af e.id a with
  | some v =>
   simp only
   cases h':af id a with
   | some u=>rfl
   | none =>
    have:¬ e.id=id:=by rintro rfl;rw [h] at h';cases h'
    simp [this]
  | none =>
   simp only
   rw [Wh]
   by_cases e1:id=e.id
   ·subst e1;simp [h]
   ·have e2:¬ e.id=id:=fun h=>e1 h.symm
    simp [e1,e2]
theorem itsS_af (p:Pl) (id:Int):af id (itsS p)=Xe id p.its:=by rw [itsS,itsG_af];rfl
structure Ad where
 it:Int
 re:Int
 fr:Int
 fs:Int
def adRow (a:Ad):List AV:=[I a.it,I a.re,I a.fr,I a.fs]
def cntA (a:Ad):Bool:=decide (a.re=0/\0<=a.fr/\a.fr<=100000000/\1<=a.fs/\a.fs<=100000000)
def Yy (u:List (Int×Int)) (it:Int):List (Int×Int):=aset it ((af it u).getD 0+1) u
def Zy (p:Pl) (en:List (Int×Int)) (it e:Int):List (Int×Int):=match Xe it p.its with
 | some x=>aset x.sp (max ((af x.sp en).getD 0) e) en
 | none=>en
def pastU:List Ad->List (Int×Int)->List (Int×Int)
 | [],u=>u
 | a::r,u=>pastU r (if cntA a then Yy u a.it else u)
def pastE (p:Pl):List Ad->List (Int×Int)->List (Int×Int)
 | [],u=>u
 | a::r,u=>pastE p r (if cntA a then Zy p u a.it (a.fr+a.fs) else u)
def Ky (ki it rg:Int):List Cl->Int->Int
 | [],n=>n
 | c::r,n=>Ky ki it rg r (if c.ki=ki/\concB c it rg=true/\Xt c=true then c.n else n)
def Wv (p:Pl) (it:Int):Int:=match Xe it p.its with
 | some x=>if x.ki=5 then -1 else Ky 3 it 0 p.cls (-1)
 | none=>Ky 3 it 0 p.cls (-1)
def gapC (a b:Int):List Cl->Int->Int
 | [],g=>g
 | c::r,g=>gapC a b r (if c.ki=5/\(c.a=a/\c.b=b\/c.a=b/\c.b=a)/\Xt c=true then max g c.n else g)
def Ua (p:Pl) (a b:Int):Int:=match Xe a p.its,Xe b p.its with
 | some x,some y=>if x.sp=0\/Zh p.nu p.de=false\/y.sp=0\/x.sp=y.sp then 0 else Kv p.nu p.de (gapC x.sp y.sp p.cls 0)
 | _,_=>0
end Go.Proofs.YtjmgelbfndnpjaaGreatDoor
namespace Go.Proofs.YtjmgelbfndnpjaaGreatDoor
open Go Go.Abs
def earL (at_ n:Int):List Sp->Option Int
 | []=>none
 | s::r=>if max s.1 at_ < s.2/\n<=s.2 - max s.1 at_ then some (max s.1 at_) else earL at_ n r
def earS (l:List Sp) (at_ n:Int):Option Int:=if n<=0 then some at_ else earL at_ n (Xb l)
def Ze (p:Pl) (it n:Int):List Sp:=Xb (Zr p it 0 (n*1000000,(n+1)*1000000)++Zr p it 0 ((n+1)*1000000,(n+2)*1000000))
def stP (p:Pl) (e:En) (last from_ n:Int):Option Int :=
 if n*1000000<=last then
  match earS (Ze p e.it n) from_ e.fr with
  | none=>stP p e last from_ (n+1)
  | some s=>if last < s then none else some s
 else none
termination_by (last - n*1000000+1000000).toNat
decreasing_by omega
def lastS (p:Pl) (e:En):Int:=min (min e.la (p.ln - e.fr)) 100000000
def Ue (p:Pl) (e:En) (from_:Int):Option Int :=
 if e.fr < 1\/1000000 < e.fr\/p.ln < e.fr then none else stP p e (lastS p e) (max from_ 0) ((max from_ 0).tdiv 1000000)
def Wx (p:Pl) (it:Int):List Sp:=match Xe it p.its with
 | none=>[]
 | some y=>match af y.sp (Vz p) with
  | none=>[]
  | some _=>(Vz p).filterMap fun x=>if 0 < Ua p x.2 it then some (x.1,Ua p x.2 it) else none
def Jt (en:List (Int×Int)):List Sp->Int->Int
 | [],f=>f
 | r::l,f=>Jt en l (match af r.1 en with | some e=>max f (e+r.2) | none=>f)
def Qaj (p:Pl):List Int->List (Int×Int)->List (Int×Int)->Int->Int->Option (List Sp)
 | [],_,_,_,_=>some []
 | id::r,us,en,free,last=>match fidx id p.ens 0 with
  | none=>none
  | some k=>if (k:Int)<=last then none else match p.ens[k]? with
   | none=>none
   | some e=>if Wv p e.it ≠ -1/\Wv p e.it<=(af e.it us).getD 0 then none else
    match Ue p e (Jt en (Wx p e.it) (max e.ea free)) with
    | none=>none
    | some s=>match Qaj p r (Yy us e.it) (Zy p en e.it (s+e.fr)) (s+e.fr) k with
     | none=>none
     | some l=>some ((id,s)::l)
theorem earL_ok {at_ n:Int}:∀ {l:List Sp} {s:Int},earL at_ n l=some s->∃ a∈l,max a.1 at_=s/\s < a.2/\n<=a.2 - s
 | a::r,s,h=>by
  rw [earL] at h
  split at h
  ·rename_i hc
   cases h
   exact ⟨a,by simp,rfl,hc.1,hc.2⟩
  ·obtain ⟨b,hb,h1⟩:=earL_ok h
   exact ⟨b,by simp [hb],h1⟩
theorem framesS_has (p:Pl) (it n x:Int):Xj (Ze p it n) x<->n*1000000<=x/\x < (n+2)*1000000/\permX p it 0 x:=by
 rw [Ze,(Va _).2,Vo,permS_has _ _ _ _ (by simp only;omega),permS_has _ _ _ _ (by simp only;omega)]
 simp only
 constructor
 ·rintro (⟨h1,h2,h3⟩ | ⟨h1,h2,h3⟩)<;>exact ⟨by omega,by omega,h3⟩
 ·rintro ⟨h1,h2,h3⟩
  by_cases h:x < (n+1)*1000000
  ·exact .inl ⟨h1,h,h3⟩
  ·exact .inr ⟨by omega,h2,h3⟩
theorem earS_ok {p:Pl} {it n at_ m s:Int} (hm:1<=m) (h:earS (Ze p it n) at_ m=some s):at_<=s/\∀ x,s<=x->x < s+m->permX p it 0 x:=by
 rw [earS,if_neg (by omega)] at h
 obtain ⟨a,ha,h1,h2,h3⟩:=earL_ok h
 refine ⟨by omega,fun x hx hx2=>?_⟩
 have:Xj (Xb (Ze p it n)) x:=⟨a,ha,by omega,by omega⟩
 rw [(Va _).2,framesS_has] at this
 exact this.2.2
theorem stP_ok {p:Pl} {e:En} {last from_ n s:Int} (he:1<=e.fr) (h:stP p e last from_ n=some s):from_<=s/\s<=last/\∀ x,s<=x->x < s+e.fr->permX p e.it 0 x:=by
 unfold stP at h
 split at h
 ·rename_i hc
  cases hs:earS (Ze p e.it n) from_ e.fr with
  | none=>rw [hs] at h;exact stP_ok he h
  | some t =>
   rw [hs] at h
   simp only at h
   split at h
   ·cases h
   ·rename_i hl
    cases h
    obtain ⟨h1,h2⟩:=earS_ok he hs
    exact ⟨h1,by omega,h2⟩
 ·cases h
termination_by (last - n*1000000+1000000).toNat
decreasing_by omega
theorem startS_ok {p:Pl} {e:En} {from_ s:Int} (h:Ue p e from_=some s):(1<=e.fr/\e.fr<=1000000)/\from_<=s/\0<=s/\s<=e.la/\s+e.fr<=p.ln/\s<=100000000/\∀ x,s<=x->x < s+e.fr->permX p e.it 0 x:=by
 rw [Ue] at h
 split at h
 ·cases h
 ·rename_i hc
  obtain ⟨h1,h2,h3⟩:=stP_ok (by omega) h
  simp only [lastS] at h2
  exact ⟨by omega,by omega,by omega,by omega,by omega,by omega,h3⟩
theorem startS_allow {p:Pl} {e:En} {from_ s:Int} (h:Ue p e from_=some s):Xo p e.it 0 s e.fr=true:=by
 obtain ⟨h1,h2,h3,h4,h5,h6,h7⟩:=startS_ok h
 have hl:=(h7 (s+e.fr - 1) (by omega) (by omega))
 obtain ⟨_,_,_,hx,_⟩:=hl
 exact (allowB_iff _ _ _ _ _).2 ⟨⟨h1.1,h1.2,h3,by omega⟩,h7⟩
theorem fromL_le (en:List (Int×Int)):∀ (l:List Sp) (f:Int),f<=Jt en l f
 | [],f=>Int.le_refl _
 | r::l,f=>by
  rw [Jt]
  refine Int.le_trans ?_ (fromL_le en l _)
  split<;>omega
theorem fromL_perm (en:List (Int×Int)) {l l':List Sp} (h:l.Perm l'):∀ f,Jt en l f=Jt en l' f:=by
 induction h with
 | nil=>exact fun _=>rfl
 | cons x _ ih=>intro f;simp only [Jt,ih]
 | swap x y l =>
  intro f
  simp only [Jt]
  congr 1
  cases af x.1 en<;>cases af y.1 en<;>simp only<;>omega
 | trans _ _ ih1 ih2=>exact fun f=>(ih1 f).trans (ih2 f)
theorem fidx_spec {id:Int}:∀ {l:List En} {i k:Nat},fidx id l i=some k->i<=k/\∃ e,l[k - i]? = some e/\e.id=id/\Ko id l=some e
 | [],i,k,h=>by cases h
 | e::r,i,k,h=>by
  rw [fidx] at h
  split at h
  ·rename_i hc
   cases h
   exact ⟨Nat.le_refl _,e,by simp,hc,by simp [Ko,hc]⟩
  ·rename_i hc
   obtain ⟨h1,x,h2,h3,h4⟩:=fidx_spec h
   refine ⟨by omega,x,?_,h3,by simp [Ko,hc,h4]⟩
   obtain ⟨d,hd⟩:∃ d,k - i=d+1:=⟨k - i - 1,by omega⟩
   rw [hd,List.getElem?_cons_succ,<- h2]
   congr 1;omega
def schOK (p:Pl):List Sp->Int->Prop
 | [],_=>True
 | s::r,free=>(∃ e,Ko s.1 p.ens=some e/\(1<=e.fr/\e.fr<=1000000)/\free<=s.2/\0<=s.2/\s.2<=100000000/\e.ea<=s.2/\s.2<=e.la/\s.2+e.fr<=p.ln/\Xo p e.it 0 s.2 e.fr=true/\schOK p r (s.2+e.fr))
theorem earG_ok {p:Pl}:∀ {ids:List Int} {us en:List (Int×Int)} {free last:Int} {l:List Sp},Qaj p ids us en free last=some l->l.map (·.1)=ids/\schOK p l free
 | [],_,_,_,_,l,h=>by cases h;exact ⟨rfl,trivial⟩
 | id::r,us,en,free,last,l,h=>by
  rw [Qaj] at h
  cases hf:fidx id p.ens 0 with
  | none=>rw [hf] at h;cases h
  | some k =>
   rw [hf] at h
   simp only at h
   split at h
   ·cases h
   ·obtain ⟨_,e,h2,h3,h4⟩:=fidx_spec hf
    rw [Nat.sub_zero] at h2
    rw [h2] at h
    simp only at h
    split at h
    ·cases h
    ·cases hs:Ue p e (Jt en (Wx p e.it) (max e.ea free)) with
     | none=>rw [hs] at h;cases h
     | some s =>
      rw [hs] at h
      simp only at h
      cases hg:Qaj p r (Yy us e.it) (Zy p en e.it (s+e.fr)) (s+e.fr) k with
      | none=>rw [hg] at h;cases h
      | some l' =>
       rw [hg] at h
       cases h
       obtain ⟨g1,g2⟩:=earG_ok hg
       obtain ⟨a1,a2,a3,a4,a5,a6,a7⟩:=startS_ok hs
       have hfl:=fromL_le en (Wx p e.it) (max e.ea free)
       exact ⟨by simp [g1],e,h4,a1,by omega,a3,a6,by omega,a4,a5,startS_allow hs,g2⟩
end Go.Proofs.YtjmgelbfndnpjaaGreatDoor
namespace Go.Proofs.YtjmgelbfndnpjaaGreatDoor
open Go Go.Abs
def hitC (ki it rg:Int) (c:Cl):Bool:=decide (c.ki=ki)&&(concB c it rg&&Xt c)
theorem lastC_app (ki it rg:Int) (c:Cl):∀ (l:List Cl) (n:Int),Ky ki it rg (l++[c]) n=if hitC ki it rg c=true then c.n else Ky ki it rg l n
 | [],n=>by simp [Ky,hitC]
 | d::l,n=>by rw [List.cons_append,Ky,lastC_app ki it rg c l,Ky]
def orcLa (cs:List Cl) (ki it rg:Int):Nat->FuncId->List AV->AV:=fun _ f l =>
 if f=150 then .fn 172 [] [.ep [.sl .ro (cs.map Qq)] 0] else if f=146 then (match l with
  | [.agg [.int _ a,.int _ b,.int _ c,.int _ d,.int _ e,.int _ f,.int _ g,.int _ h],_,_]=>.bool (concB ⟨a,b,c,d,e,f,g,h⟩ it rg)
  | _=>.junk) else (match l with
  | [.agg [.int _ a,.int _ b,.int _ c,.int _ d,.int _ e,.int _ f,.int _ g,.int _ h]]=>.bool (Xt ⟨a,b,c,d,e,f,g,h⟩)
  | _=>.junk)
theorem last214 (cs:List Cl) (ki it rg no:Int) (hl:cs.length<=1000000000):Pure Tryz.prog gl0 159 [.sl .ro (cs.map Qq),I ki,I it,I rg,I no] (I (Ky ki it rg cs no)):=by
 have h171:=backward_pure cs
 have hit:=backward_iter cs hl
 obtain ⟨T,hT⟩:∃ T,Ky ki it rg cs no=T:=⟨_,rfl⟩
 rw [hT]
 refine Qn code159 (orcLa cs ki it rg) (by simp) ?_
 simp [sc159,orcLa]
 refine ⟨h171,?_⟩
 refine Ud (xs:=Qar cs cs.length) (by simp) hit back_row (fun i m=>i<=cs.length/\Ky ki it rg (cs.take (cs.length - i)) no=T/\∃ bx,m.boxes=[I ki]::[I it]::[I rg]::[I 0]::bx) (fun ex m=>ex=.ret/\∃ bx,m.boxes=[I ki]::[I it]::[I rg]::[I T]::bx) ?_ ?_ ?_ ?_ ?_ ?_
 ·exact ⟨by omega,by simpa using hT,[],by simp⟩
 ·rintro i m m' ⟨h1,h2,bx,h3⟩ ⟨⟨b2,e1⟩,_,_⟩
  exact ⟨h1,h2,bx++b2,by rw [e1,h3];rfl⟩
 ·rintro ex m m' ⟨h1,bx,h3⟩ ⟨⟨b2,e1⟩,_,_⟩
  exact ⟨h1,bx++b2,by rw [e1,h3];rfl⟩
 ·rintro l i m x hg hr ⟨h1,h2,bx,hb⟩ hx K' k1 k2 _
  obtain ⟨k,c,hc,hk,rfl⟩:=back_get cs cs.length i x (Nat.le_refl _) hx
  rw [Vw] at hb
  have htk:cs.take (cs.length - i)=cs.take (cs.length - (i+1))++[c]:=by
   rw [show cs.length - i=k+1 by omega,show cs.length - (i+1)=k by omega,List.take_add_one,hc];rfl
  rw [htk,lastC_app] at h2
  have c1:=concerns_pure c it rg
  have c2:=Kk c
  by_cases e1:c.ki=ki
  ·subst e1
   cases e2:concB c it rg with
   | false =>
    rw [e2] at c1
    rw [if_neg (by simp [hitC,e2])] at h2
    simp [hr,Xh,hb,Qq,orcLa,e2]
    refine ⟨by simpa [Qq] using c1,k1 _ ⟨by omega,h2,bx++[Qq c],?_⟩⟩
    simp [Qq]
   | true =>
    rw [e2] at c1
    cases e3:Xt c with
    | false =>
     rw [e3] at c2
     rw [if_neg (by simp [hitC,e3])] at h2
     simp [hr,Xh,hb,Qq,orcLa,e2,e3]
     refine ⟨by simpa [Qq] using c1,by simpa [Qq] using c2,k1 _ ⟨by omega,h2,bx++[Qq c],?_⟩⟩
     simp [Qq]
    | true =>
     rw [e3] at c2
     rw [if_pos (by simp [hitC,e2,e3])] at h2
     simp [hr,Xh,hb,Qq,orcLa,e2,e3]
     refine ⟨by simpa [Qq] using c1,by simpa [Qq] using c2,k2 _ ⟨rfl,bx++[Qq c],?_⟩⟩
     simp [Qq,h2]
  ·rw [if_neg (by simp [hitC,e1])] at h2
   simp [hr,Xh,hb,Qq,orcLa,e1]
   refine k1 _ ⟨by omega,h2,bx++[Qq c],?_⟩
   simp [Qq]
 ·rintro m ⟨h1,h2,bx,hb⟩
  rw [back_len,Nat.sub_self,List.take_zero] at h2
  have h2:no=T:=h2
  simp [hb,rs159,h2]
 ·rintro ex m ⟨rfl,bx,hb⟩
  simp [hb,rs159]
theorem runs134 (p:Pl) (it:Int) (hc:p.cls.length<=1000000000) (hit:p.its.length<=1000000000):Pure Tryz.prog gl0 104 [.agg (Qc p),I it,I 0] (I (Wv p it)):=by
 have k69:=Us p it hit
 have k214:=last214 p.cls 3 it 0 (-1) hc
 have k185:Pure Tryz.prog gl0 130 [.sl .ro (p.cls.map Qq),I it,I 0] (I (Ky 3 it 0 p.cls (-1))):=by
  refine Qn code130 (fun _ _ _=>I (Ky 3 it 0 p.cls (-1))) (by simp) ?_
  simp [sc130,rs130]
  exact k214
 refine Qn code104 (fun _ f _=>if f=79 then Zo (Xe it p.its) else I (Ky 3 it 0 p.cls (-1))) (by simp) ?_
 cases hf:Xe it p.its with
 | none =>
  rw [hf] at k69
  simp [sc104,rs104,Qc,hf,Zo,Wv]
  exact ⟨by simpa [Qc,Zo] using k69,k185⟩
 | some x =>
  rw [hf] at k69
  by_cases h5:x.ki=5
  ·simp [sc104,rs104,Qc,hf,Zo,Qg,Wv,h5]
   simpa [Qc,Zo,Qg,h5] using k69
  ·simp [sc104,rs104,Qc,hf,Zo,Qg,Wv,h5]
   exact ⟨by simpa [Qc,Zo,Qg] using k69,k185⟩
end Go.Proofs.YtjmgelbfndnpjaaGreatDoor
namespace Go.Proofs.YtjmgelbfndnpjaaGreatDoor
open Go Go.Abs
def namedC (a b:Int) (c:Cl):Bool:=(decide (c.a=a)&&decide (c.b=b))||(decide (c.a=b)&&decide (c.b=a))
def hitG (a b:Int) (c:Cl):Bool:=decide (c.ki=5)&&(namedC a b c&&Xt c)
theorem gapC_cons (a b:Int) (c:Cl) (r:List Cl) (g:Int):gapC a b (c::r) g=gapC a b r (if hitG a b c=true then max g c.n else g):=by
 rw [gapC]
 congr 1
 by_cases h:c.ki=5/\(c.a=a/\c.b=b\/c.a=b/\c.b=a)/\Xt c=true
 ·rw [if_pos h,if_pos (by simp [hitG,namedC,h.1,h.2.2];exact h.2.1)]
 ·rw [if_neg h,if_neg (by intro h';apply h;simp [hitG,namedC] at h';exact ⟨h'.1,h'.2.1,h'.2.2⟩)]
theorem validC_n {c:Cl} (h:Xt c=true) (h5:c.ki=5):0<=c.n/\c.n<=86400:=by
 unfold Xt at h
 simp only [Bool.and_eq_true] at h
 have h2:=h.2
 unfold Jh at h2
 simp [h5,wi] at h2
 omega
theorem gapC_bd (a b:Int):∀ (l:List Cl) (g:Int),0<=g/\g<=86400->0<=gapC a b l g/\gapC a b l g<=86400
 | [],g,h=>h
 | c::r,g,h=>by
  rw [gapC_cons]
  apply gapC_bd a b r
  split
  ·rename_i hh
   simp [hitG] at hh
   have:=validC_n hh.2.2 hh.1
   omega
  ·exact h
def InvG (a b T:Int) (cs:List Cl) (f:Nat->AV) (m:AM):Prop:=∃ (i:Nat) (g:Int) (bx:List (List AV)),f 13=I i/\f 7=I g/\i<=cs.length/\gapC a b (cs.drop i) g=T/\m=⟨bx,[],fun _=>.gone,0⟩
theorem gap186 (cs:List Cl) (a b:Int) (hl:cs.length<=1000000000):Pure Tryz.prog gl0 131 [.sl .ro (cs.map Qq),I a,I b] (I (gapC a b cs 0)):=by
 obtain ⟨T,hT⟩:∃ T,gapC a b cs 0=T:=⟨_,rfl⟩
 rw [hT]
 refine Qn code131 orcCl (by simp) ?_
 simp [sc131]
 refine Ql w131_0 (InvG a b T cs) (fun f _=>cs.length - (numOf (f 13)).toNat) ?_ ?_
 ·exact ⟨0,0,_,by simp,by simp,by omega,by simpa using hT,rfl⟩
 ·rintro f m ⟨i,g,bx,h13,h7,hi,hx,rfl⟩
  rcases Nat.lt_or_ge i cs.length with hlt | hge
  ·obtain ⟨c,hc⟩:=getS hlt
   have hrow:Qf (cs.map Qq) i=Qq c:=Qv (by simp [hc])
   have hilt:(i:Int) < (cs.length:Int):=by omega
   have hw:=wrS i (by omega)
   have k:=Kk c
   rw [Qz hc,gapC_cons] at hx
   have nomore:∀ E,Agree w131_0 E E:=fun E=>Qa _ _
   obtain ⟨v0,h0⟩:∃ v,(c.ki==5)=v:=⟨_,rfl⟩
   obtain ⟨v1,h1⟩:∃ v,(c.a==a)=v:=⟨_,rfl⟩
   obtain ⟨v2,h2⟩:∃ v,(c.b==b)=v:=⟨_,rfl⟩
   obtain ⟨v3,h3⟩:∃ v,(c.a==b)=v:=⟨_,rfl⟩
   obtain ⟨v4,h4⟩:∃ v,(c.b==a)=v:=⟨_,rfl⟩
   have hh:hitG a b c=(v0&&(((v1&&v2)||(v3&&v4))&&Xt c)):=by
    rw [<- h0,<- h1,<- h2,<- h3,<- h4];rfl
   obtain ⟨v5,h5⟩:∃ v,Xt c=v:=⟨_,rfl⟩
   have hk5:v5=true->v0=true->0<=c.n/\c.n<=86400:=fun e e'=>validC_n (h5.trans e) (by rw [e'] at h0;simpa using h0)
   rw [hh,h5] at hx
   rw [h5] at k
   have k':Abs.Pure Tryz.prog gl0 48 [.agg [I c.ki,I c.it,I c.fr,I c.to,I c.re,I c.n,I c.a,I c.b]] (.bool v5):=k
   clear hh k
   cases v0
   ·cases v1<;>cases v2<;>cases v3<;>cases v4<;>simp only [Bool.false_and,Bool.false_eq_true,if_false] at hx
    all_goals
     simp [h13,h7,hlt,hilt,hrow,Qq,orcCl,h0,h1,h2,h3,h4,w131_0,hw]
     refine ⟨ag ?_,⟨i+1,g,_,by simp,by simp [h7],by omega,hx,rfl⟩,by omega⟩
     repeat (first | exact Qa _ _ | refine Qb _ rfl ?_)
   ·cases v1<;>cases v2<;>cases v3<;>cases v4<;>cases v5<;>simp only [Bool.and_true,Bool.and_false,Bool.true_and,Bool.false_and,Bool.or_true,Bool.or_false,Bool.true_or,Bool.false_or,Bool.false_eq_true,if_false,if_true,Bool.or_self,Bool.and_self] at hx
    all_goals
     simp [h13,h7,hlt,hilt,hrow,Qq,orcCl,h0,h1,h2,h3,h4,h5,w131_0,hw]
     first
     | (refine ⟨ag ?_,⟨i+1,g,_,by simp,by simp [h7],by omega,hx,rfl⟩,by omega⟩
        repeat (first | exact Qa _ _ | refine Qb _ rfl ?_))
     | (refine ⟨k',ag ?_,⟨i+1,g,_,by simp,by simp [h7],by omega,hx,rfl⟩,by omega⟩
        repeat (first | exact Qa _ _ | refine Qb _ rfl ?_))
     | (refine ⟨k',ag ?_,⟨i+1,max g c.n,_,by simp,by simp;omega,by omega,hx,rfl⟩,by omega⟩
        repeat (first | exact Qa _ _ | refine Qb _ rfl ?_))
  ·have hin:¬ (i:Int) < (cs.length:Int):=by omega
   rw [List.drop_eq_nil_of_le hge] at hx
   have hx:g=T:=hx
   subst hx
   simp [h13,h7,hin,Nat.not_lt.2 hge,w131_0,rs131]
def orcGp (p:Pl) (a b:Int):Nat->FuncId->List AV->AV:=fun d f l =>
 if f=79 then (match l with | [_,.int _ n]=>Zo (Xe n p.its) | _=>.junk) else if f=39 then .bool (Zh p.nu p.de) else if f=131 then (match l with | [_,.int _ x,.int _ y]=>I (gapC x y p.cls 0) | _=>.junk) else
 if f=85 then (match l with | [_,.int _ x]=>I (Kv p.nu p.de x) | _=>.junk) else .junk
theorem gap135 (p:Pl) (a b:Int) (hc:p.cls.length<=1000000000) (hit:p.its.length<=1000000000):Pure Tryz.prog gl0 105 [.agg (Qc p),I a,I b] (I (Ua p a b)):=by
 have ka:=Us p a hit
 have kb:=Us p b hit
 have kr:=Jd p.nu p.de
 refine Qn code105 (orcGp p a b) (by simp) ?_
 cases hfa:Xe a p.its with
 | none =>
  rw [hfa] at ka
  have hg:Ua p a b=0:=by simp [Ua,hfa]
  rw [hg]
  simp [sc105,rs105,Qc,orcGp,hfa,Zo]
  simpa [Qc,Zo] using ka
 | some x =>
  rw [hfa] at ka
  by_cases c1:x.sp=0
  ·have hg:Ua p a b=0:=by cases hfb:Xe b p.its<;>simp [Ua,hfa,hfb,c1]
   rw [hg]
   simp [sc105,rs105,Qc,orcGp,hfa,Zo,Qg,c1]
   simpa [Qc,Zo,Qg,c1] using ka
  ·cases c2:Zh p.nu p.de with
   | false =>
    rw [c2] at kr
    have hg:Ua p a b=0:=by cases hfb:Xe b p.its<;>simp [Ua,hfa,hfb,c2]
    rw [hg]
    simp [sc105,rs105,Qc,orcGp,hfa,Zo,Qg,c1,c2]
    exact ⟨by simpa [Qc,Zo,Qg] using ka,kr⟩
   | true =>
    rw [c2] at kr
    cases hfb:Xe b p.its with
    | none =>
     rw [hfb] at kb
     have hg:Ua p a b=0:=by simp [Ua,hfa,hfb]
     rw [hg]
     simp [sc105,rs105,Qc,orcGp,hfa,hfb,Zo,Qg,c1,c2]
     exact ⟨by simpa [Qc,Zo,Qg] using ka,kr,by simpa [Qc,Zo,Qg] using kb⟩
    | some y =>
     rw [hfb] at kb
     by_cases c3:y.sp=0
     ·have hg:Ua p a b=0:=by simp [Ua,hfa,hfb,c3]
      rw [hg]
      simp [sc105,rs105,Qc,orcGp,hfa,hfb,Zo,Qg,c1,c2,c3]
      exact ⟨by simpa [Qc,Zo,Qg] using ka,kr,by simpa [Qc,Zo,Qg,c3] using kb⟩
     ·by_cases c4:x.sp=y.sp
      ·have hg:Ua p a b=0:=by simp [Ua,hfa,hfb,c4]
       rw [hg]
       simp [sc105,rs105,Qc,orcGp,hfa,hfb,Zo,Qg,c1,c2,c3,<- c4]
       rw [<- c4] at c3
       exact ⟨by simpa [Qc,Zo,Qg] using ka,kr,by simpa [Qc,Zo,Qg,c4] using kb⟩
      ·have hg:Ua p a b=Kv p.nu p.de (gapC x.sp y.sp p.cls 0):=by simp [Ua,hfa,hfb,c1,c2,c3,c4]
       rw [hg]
       have kg:=gap186 p.cls x.sp y.sp hc
       have kf:=frms_pure p.nu p.de (gapC x.sp y.sp p.cls 0)
       simp [sc105,rs105,Qc,orcGp,hfa,hfb,Zo,Qg,c1,c2,c3,c4]
       exact ⟨by simpa [Qc,Zo,Qg] using ka,kr,by simpa [Qc,Zo,Qg] using kb,kg,kf⟩
end Go.Proofs.YtjmgelbfndnpjaaGreatDoor
namespace Go.Proofs.YtjmgelbfndnpjaaGreatDoor
open Go Go.Abs
structure Bd where
 p:Pl
 at_:Int
 us:List (Int×Int)
 en:List (Int×Int)
 rv:List (Int×(Rt×List Sp))
 li:List (Int×Int)
 pm:List ((Int×Int)×List Sp)
abbrev iA (n:Int):AV:=I n
def itA (x:It):AV:=.agg (Qg x)
def rvA (x:Rt×List Sp):AV:=.sl x.1 (x.2.map Qd)
def pmA (l:List ((Int×Int)×List Sp)):List (List Int×AV):=l.map fun x=>([x.1.1,x.1.2],.sl .ro (x.2.map Qd))
def Qk (k:Nat) (b:Bd):List AV:=Qc b.p++[I b.at_,.mp (k+1),.mp (k+2),.mp (k+3),.mp (k+4),.mp (k+5),.mp (k+6),.mp (k+7),.mp (k+8)]
def bdL (k:Nat) (b:Bd) (post:List (List AV)):List (List AV) :=
 Qc b.p::[.mobj 0 (kvA iA (plcS b.p))]::[.mobj 0 (kvA itA (itsS b.p))]::[.mobj 0 (kvA iA (Vz b.p))]::[.mobj 0 (kvA iA b.us)]::[.mobj 0 (kvA iA b.en)] ::
  [.mobj 0 (kvA rvA b.rv)]::[.mobj 0 (kvA iA b.li)]::[.mobj 2 (pmA b.pm)]::Qk k b::post
def mBd (pre:List (List AV)) (b:Bd) (post:List (List AV)) (ls:List Nat):AM:=⟨pre++bdL pre.length b post,ls,fun _=>.gone,0⟩
def LiOK (b:Bd):Prop:=∀ k v,af k b.li=some v->v=Wv b.p k
theorem limit82 (pre post:List (List AV)) (ls:List Nat) (b:Bd) (it:Int) (hc:b.p.cls.length<=1000000000) (hit:b.p.its.length<=1000000000) (hli:LiOK b) (Y:YT) (K:AV->AM->Prop)
  (hK:∀ li,LiOK { b with li:=li }->K (I (Wv b.p it)) (mBd pre { b with li:=li } post ls)) :
  EffY Tryz.prog gl0 Y 51 [.ptr (pre.length+9) 0,I it] (mBd pre b post ls) K:=by
 have k134:=runs134 b.p it hc hit
 refine Zb code51 (fun _ _ _=>I (Wv b.p it)) (by simp) ?_
 rcases Zk iA it b.li 0 with ⟨h1,h2,h3,h4⟩ | ⟨u,n,h1,h2,_,_,_,h4⟩
 ·simp [sc51,rs51,mBd,bdL,Qk,Qc,h2]
  refine ⟨by simpa [Qc] using k134,?_⟩
  have:=hK (aset it (Wv b.p it) b.li) (fun k v h=>by
   rw [Wh] at h
   split at h
   ·rename_i e;cases h;rw [e]
   ·exact hli k v h)
  have h4':kvA iA b.li++[([it],I (Wv b.p it))]=kvA iA (aset it (Wv b.p it) b.li):=h4 _
  rw [h4']
  exact this
 ·simp [sc51,rs51,mBd,bdL,Qk,Qc,h2]
  have hu:=hli it u h1
  subst hu
  exact hK b.li hli
def RvOK (b:Bd):Prop:=∀ k x,af k b.rv=some x->∀ it y,Xe it b.p.its=some y->y.sp=k->x.2.Perm (Wx b.p it)
def pickR (p:Pl) (it:Int) (L:List (Int×Int)):List Sp:=L.filterMap fun x=>if 0 < Ua p x.2 it then some (x.1,Ua p x.2 it) else none
def atL {α:Type} (d:α) (L:List α) (seen:List Nat):List α:=seen.map fun i=>L.getD i d
theorem at_perm {α:Type} (d:α) (L:List α) (seen:List Nat) (hn:seen.Nodup) (hall:∀ i,i < L.length->i∈seen) (hb:∀ i∈seen,i < L.length):(atL d L seen).Perm L:=by
 have hp:seen.Perm (List.range L.length):=by
  rw [List.perm_ext_iff_of_nodup hn List.nodup_range]
  intro i
  simp only [List.mem_range]
  exact ⟨hb i,hall i⟩
 have h1:=hp.map fun i=>L.getD i d
 have h2:(List.range L.length).map (fun i=>L.getD i d)=L:=by
  apply List.ext_getElem (by simp)
  intro i h1 h2
  simp [h2]
 rw [h2] at h1
 exact h1
theorem gapS_sp {p:Pl} {a i j:Int} {x y:It} (hi:Xe i p.its=some x) (hj:Xe j p.its=some y) (h:x.sp=y.sp):Ua p a i=Ua p a j:=by
 simp only [Ua,hi,hj]
 cases Xe a p.its with
 | none=>rfl
 | some z=>simp only [h]
theorem rivL_sp {p:Pl} {i j:Int} {x y:It} (hi:Xe i p.its=some x) (hj:Xe j p.its=some y) (h:x.sp=y.sp):Wx p i=Wx p j:=by
 simp only [Wx,hi,hj,h]
 cases af y.sp (Vz p) with
 | none=>rfl
 | some _=>simp only [gapS_sp hi hj h]
theorem spn_zero:∀ (l:List It) (a:List (Int×It)) (s:List (Int×Int)),af 0 s=none->af 0 (spnG l a s)=none
 | [],a,s,h=>h
 | x::r,a,s,h=>by
  rw [spnG]
  cases af x.id a with
  | some _=>exact spn_zero r a s h
  | none =>
   refine spn_zero r _ _ ?_
   split
   ·rw [Wh,if_neg (by omega)];exact h
   ·exact h
end Go.Proofs.YtjmgelbfndnpjaaGreatDoor
