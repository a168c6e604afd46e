import Derived.Test.YtjmgelbfndnpjaaGreatDoorPPPaF
set_option linter.unusedVariables false
set_option linter.unusedSimpArgs false
set_option maxRecDepth 100000
namespace Go.Proofs.YtjmgelbfndnpjaaGreatDoor.Lw
open Go Go.Abs
def gainL (q:List Int):Int:=if meas q=0 then 1000 else Ku ((20000000:Int).tdiv (meas q))
theorem gainL_bd (q:List Int):250<=gainL q/\gainL q<=4000:=by
 unfold gainL;split
 ·omega
 ·exact limI_bd _
theorem meas_bd (q:List Int) (h:bd q) (hq:q.length<=1000000000):0<=meas q/\meas q<=1000000:=by
 unfold meas
 split
 ·omega
 ·rename_i hne
  have hl0:0 < (loud q).length:=List.length_pos_iff.2 (loud_ne q h hne)
  have hs1:=sum_bd (loud q) (fun x hx=>h x (List.mem_filter.1 hx).1)
  refine ⟨Int.tdiv_nonneg hs1.1 (by omega),?_⟩
  rw [Zd,Int.tdiv_eq_ediv_of_nonneg hs1.1]
  exact Int.ediv_le_of_le_mul (by omega) (by omega)
theorem gainL_pure (l:List Pic) (hl:l.length<=1000000000) (hp:PowOK l):Pure Tryz.prog gl0 87 [Uo l] (I (gainL (pw l))):=by
 have hm:=measure_pure l hl hp
 have hb:=meas_bd (pw l) (pw_bd l hp) (Nat.le_trans (pw_len l) hl)
 have hg:gainL (pw l)=if meas (pw l)=0 then 1000 else Ku ((20000000:Int).tdiv (meas (pw l))):=rfl
 generalize meas (pw l)=M at hm hb hg
 rw [hg]
 have hlim:=limit_pure ((20000000:Int).tdiv M)
 simp only [Uo] at hm |-
 refine Qn code87 (fun _ f _=>if f=125 then I M else I (Ku ((20000000:Int).tdiv M))) (by simp) ?_
 by_cases h:M=0
 ·simp [sc87,rs87,h]
  rw [h] at hm
  exact hm
 ·have hw:IntKind.i64.wrap ((20000000:Int).tdiv M)=(20000000:Int).tdiv M:=by
   have h1:0<=(20000000:Int).tdiv M:=Int.tdiv_nonneg (by omega) hb.1
   have h2:(20000000:Int).tdiv M<=20000000:=by
    rw [Int.tdiv_eq_ediv_of_nonneg (by omega)]
    exact Int.ediv_le_self _ (by omega)
   rw [Qe]<;>omega
  simp [sc87,rs87,h,hw]
  exact ⟨hm,hlim⟩
def LibOK (L:List Zz):Prop:=BigOK L/\∀ a∈L,PowOK a.pics
theorem fnd_mem {item:Int} {a:Zz}:∀ {L:List Zz},fnd item L=some a->a∈L
 | [],h=>by cases h
 | b::r,h=>by
  simp only [fnd] at h
  split at h
  ·cases h;exact List.mem_cons_self ..
  ·exact List.mem_cons_of_mem _ (fnd_mem h)
def tgtI (L:List Zz) (item:Int):Int:=match fnd item L with
 | none=>1000
 | some a=>gainL (pw a.pics)
theorem tgtI_bd (L:List Zz) (item:Int):250<=tgtI L item/\tgtI L item<=4000:=by
 unfold tgtI;split
 ·omega
 ·exact gainL_bd _
def KOK (L:List Zz) (kvs:List (List Int×AV)):Prop:=∀ p∈kvs,∃ n,p.1=[n]/\p.2=I (tgtI L n)
theorem kfind_mem {n:List Int} {j:Nat} {a:AV}:∀ {kvs:List (List Int×AV)} {i:Nat},Qx n kvs i=some (j,a)->(n,a)∈kvs
 | [],_,h=>by cases h
 | (k,b)::r,i,h=>by
  simp only [Qx] at h
  split at h
  ·rename_i e;cases h;rw [e];exact List.mem_cons_self ..
  ·exact List.mem_cons_of_mem _ (kfind_mem h)
theorem targets_eff (Y:YT) (s:List (List AV)) (m:AM) (K:AV->AM->Prop) (h:K (.fn 86 [] [.ptr (m.boxes.length+2) 0,.ptr m.boxes.length 0]) { m with boxes:=m.boxes++[[.sl .ro s],[.mobj 0 []],[.mp (m.boxes.length+1)]] }):EffY Tryz.prog gl0 Y 34 [.sl .ro s] m K:=by
 refine Zb code34 (fun _ _ _=>.junk) (by simp) ?_
 simp [sc34,rs34]
 exact h
theorem target_eff (Y:YT) (L:List Zz) (hL:LibOK L) (item:Int) (m:AM) (pr b4 b5 b6:List AV) (kvs:List (List Int×AV)) (rest:List (List AV)) (hk:KOK L kvs) (hm:m.boxes=pr::[.sl .ro (L.map Xa)]::[.mobj 0 kvs]::[.mp 2]::b4::b5::b6::rest) :
  ∃ kvs' rest',KOK L kvs'/\EffY Tryz.prog gl0 Y 86 [I item,.ptr 3 0,.ptr 1 0] m (fun x m2=>x=I (tgtI L item)/\m2={ m with boxes:=pr::[.sl .ro (L.map Xa)]::[.mobj 0 kvs']::[.mp 2]::b4::b5::b6::rest' }):=by
 cases hkf:Qx [item] kvs 0 with
 | some ja =>
  obtain ⟨j,a⟩:=ja
  have ha:a=I (tgtI L item):=by
   obtain ⟨n,h1,h2⟩:=hk _ (kfind_mem hkf)
   simp only [List.cons.injEq,and_true] at h1
   subst h1;exact h2
  subst ha
  refine ⟨kvs,rest,hk,Zb code86 (fun _ _ _=>.junk) (by simp) ?_⟩
  simp [sc86,rs86,hm,hkf]
  cases m
  simp at hm |-
  exact hm
 | none =>
  have hf:=Us L item hL.1
  cases hfn:fnd item L with
  | none =>
   rw [hfn] at hf
   have ht:tgtI L item=1000:=by simp [tgtI,hfn]
   refine ⟨kvs++[([item],I 1000)],rest++[[I 0,.sl .nil []]],?_,Zb code86 (fun _ _ _=>zeroA) (by simp) ?_⟩
   ·intro p hp
    rcases List.mem_append.1 hp with h | h
    ·exact hk p h
    ·simp at h;subst h;exact ⟨item,rfl,by simp [ht]⟩
   ·simp [sc86,rs86,hm,hkf,zeroA,ht]
    exact hf
  | some a =>
   rw [hfn] at hf
   have ham:=fnd_mem hfn
   have ht:tgtI L item=gainL (pw a.pics):=by simp [tgtI,hfn]
   have hpo:=powers_pure a (hL.1.2 a ham)
   have hga:=gainL_pure a.pics (hL.1.2 a ham) (hL.2 a ham)
   refine ⟨kvs++[([item],I (gainL (pw a.pics)))],rest++[Xa a],?_,Zb code86 (fun _ f _=>if f=27 then Qay (some a) else if f=88 then Uo a.pics else I (gainL (pw a.pics))) (by simp) ?_⟩
   ·intro p hp
    rcases List.mem_append.1 hp with h | h
    ·exact hk p h
    ·simp at h;subst h;exact ⟨item,rfl,by simp [ht]⟩
   ·simp [sc86,rs86,hm,hkf,Qay,ht,Xa,Uo]
    exact ⟨hf,hpo,hga⟩
theorem move_eff (Y:YT) (L:List Zz) (hL:LibOK L) (item n g:Int) (hn:n<=1000000) (hg:250<=g/\g<=4000) (m:AM) (pr b6:List AV) (kvs:List (List Int×AV)) (rest:List (List AV)) (hk:KOK L kvs)
  (hm:m.boxes=pr::[.sl .ro (L.map Xa)]::[.mobj 0 kvs]::[.mp 2]::[.fn 86 [] [.ptr 3 0,.ptr 1 0]]::[I g]::b6::rest) (K:AV->AM->Prop)
  (h:∀ x kvs' rest',KOK L kvs'->K x { m with boxes:=pr::[.sl .ro (L.map Xa)]::[.mobj 0 kvs']::[.mp 2]::[.fn 86 [] [.ptr 3 0,.ptr 1 0]]::[I (ramp (tgtI L item) n.toNat g)]::b6::rest' }) :
  EffY Tryz.prog gl0 Y 35 [I item,I n,.ptr 5 0,.ptr 4 0] m K:=by
 obtain ⟨kvs',rest',hk',he⟩:=target_eff Y L hL item m pr _ _ b6 kvs rest hk hm
 have hr:=ramp_pure g (tgtI L item) n (by omega)
 rw [limI_id g hg.1 hg.2,limI_id _ (tgtI_bd L item).1 (tgtI_bd L item).2] at hr
 refine Zb code35 (fun _ _ _=>I (ramp (tgtI L item) n.toNat g)) (by simp) ?_
 refine Jb [(I (tgtI L item),{ m with boxes:=pr::[.sl .ro (L.map Xa)]::[.mobj 0 kvs']::[.mp 2]::[.fn 86 [] [.ptr 3 0,.ptr 1 0]]::[I g]::b6::rest' })] ?_
 simp [rs35,hm]
 exact ⟨he,hr,h _ _ _ hk'⟩
def frs (f:Int) (e:Ev2):Int:=if f - e.st < e.fr then f - e.st+1 else e.fr
def begs (f:Int) (l:List Ev2):List (Int×Int):=(l.filter fun e=>decide (e.st<=f/\1<=e.fr)).map fun e=>(e.it,frs f e)
theorem begs_yes (f:Int) (a:Ev2) (r:List Ev2) (h1:a.st<=f) (h2:1<=a.fr):begs f (a::r)=(a.it,frs f a)::begs f r:=by simp [begs,h1,h2]
theorem begs_no (f:Int) (a:Ev2) (r:List Ev2) (h:¬ (a.st<=f/\1<=a.fr)):begs f (a::r)=begs f r:=by
 unfold begs
 rw [List.filter_cons_of_neg (by simpa using h)]
theorem begun_pure (s:List (List AV)) (f:Int):Pure Tryz.prog gl0 37 [.sl .ro s,I f] (.fn 91 [] [.ep [.sl .ro s] 0,.ep [I f] 0]):=by
 refine Qn code37 (fun _ _ _=>.junk) (by simp) ?_
 simp [sc37,rs37]
theorem begun_iter (l:List Ev2) (f:Int) (hl:l.length<=1000000000) (hs:∀ e∈l,Zw e) (hf:SmallF f):Iter Tryz.prog gl0 91 [] [.ep [.sl .ro (l.map Qj)] 0,.ep [I f] 0] ((begs f l).map fun p=>[I p.1,I p.2]):=by
 intro Y lp m K hF
 refine Zb code91 (fun _ _ _=>.junk) (by simp) ?_
 simp [sc91,rs91]
 refine Ql w91_0 (fun s m=>∃ i:Nat,s 10=I i/\i<=l.length/\Fold (Y lp) K ((begs f (l.drop i)).map fun p=>[I p.1,I p.2]) m) (fun s m=>l.length - (numOf (s 10)).toNat) ?_ ?_
 ·exact ⟨0,by simp,by omega,hF⟩
 ·rintro s m ⟨i,hi,hle,hr⟩
  rcases Nat.lt_or_ge i l.length with hlt | hge
  ·obtain ⟨a,ha⟩:∃ a,l[i]? = some a:=⟨l[i],List.getElem?_eq_getElem hlt⟩
   have hrow:Qf (l.map Qj) i=Qj a:=Qv (by simp [ha])
   have hw:=wrS i (by omega)
   rw [Qz ha] at hr
   obtain ⟨⟨a1,a2⟩,⟨a3,a4⟩,_⟩:=hs a (List.mem_of_getElem? ha)
   obtain ⟨a5,a6⟩:=hf
   by_cases h1:a.st<=f
   ·have h1':¬ f < a.st:=by omega
    by_cases h2:1<=a.fr
    ·have h2':¬ a.fr < 1:=by omega
     have w1:=wu a.st (by omega) (by omega)
     have w2:=wu f (by omega) (by omega)
     have w3:=wu (f - a.st) (by omega) (by omega)
     have w4:=wu a.fr (by omega) (by omega)
     have w5:IntKind.i64.wrap (f - a.st)=f - a.st:=by rw [Qe]<;>omega
     have w6:IntKind.i64.wrap (f - a.st+1)=f - a.st+1:=by rw [Qe]<;>omega
     by_cases h3:f - a.st < a.fr
     ·rw [begs_yes f a _ h1 h2] at hr
      simp only [List.map_cons,frs,if_pos h3] at hr
      simp [w91_0,hi,hrow,hlt,hw,Qj,h1',h2',w1,w2,w3,w4,w5,w6,h3]
      refine hr _ (Ext.box m _) _ (fun m2 h2=>?_) (fun m2 h2=>?_)
      ·simp
       refine ⟨ag ?_,⟨i+1,by simp,by omega,h2⟩,by omega⟩
       repeat (first | exact Qa _ _ | refine Qb _ rfl ?_)
      ·simp
       exact h2 m2 (Ext.refl m2)
     ·rw [begs_yes f a _ h1 h2] at hr
      simp only [List.map_cons,frs,if_neg h3] at hr
      simp [w91_0,hi,hrow,hlt,hw,Qj,h1',h2',w1,w2,w3,w4,w5,w6,h3]
      refine hr _ (Ext.box m _) _ (fun m2 h2=>?_) (fun m2 h2=>?_)
      ·simp
       refine ⟨ag ?_,⟨i+1,by simp,by omega,h2⟩,by omega⟩
       repeat (first | exact Qa _ _ | refine Qb _ rfl ?_)
      ·simp
       exact h2 m2 (Ext.refl m2)
    ·have h2':a.fr < 1:=by omega
     rw [begs_no f a _ (fun h=>h2 h.2)] at hr
     simp [w91_0,hi,hrow,hlt,hw,Qj,h1',h2']
     refine ⟨ag ?_,⟨i+1,by simp,by omega,hr.ext (Ext.box m _)⟩,by omega⟩
     repeat (first | exact Qa _ _ | refine Qb _ rfl ?_)
   ·have h1':f < a.st:=by omega
    rw [begs_no f a _ (fun h=>h1 h.1)] at hr
    simp [w91_0,hi,hrow,hlt,hw,Qj,h1']
    refine ⟨ag ?_,⟨i+1,by simp,by omega,hr.ext (Ext.box m _)⟩,by omega⟩
    repeat (first | exact Qa _ _ | refine Qb _ rfl ?_)
  ·rw [List.drop_eq_nil_of_le hge] at hr
   simp [w91_0,hi,Nat.not_lt.2 hge]
   exact hr m (Ext.refl m)
def Js (L:List Zz):List (Int×Int)->Int->Int
 | [],g=>g
 | (it,n)::r,g=>Js L r (ramp (tgtI L it) n.toNat g)
theorem gainF_app (L:List Zz):∀ (a b:List (Int×Int)) (g:Int),Js L (a++b) g=Js L b (Js L a g)
 | [],_,_=>rfl
 | (_,_)::r,b,g=>by simp only [List.cons_append,Js];exact gainF_app L r b _
theorem gainF_bd (L:List Zz):∀ (a:List (Int×Int)) (g:Int),250<=g/\g<=4000->250<=Js L a g/\Js L a g<=4000
 | [],_,h=>h
 | (it,n)::r,g,h=>gainF_bd L r _ (ramp_bd _ (tgtI_bd L it) _ _ h)
theorem begs_fr (f:Int) (l:List Ev2) (hs:∀ e∈l,Zw e):∀ p∈begs f l,p.2<=1000000:=by
 intro p hp
 simp [begs] at hp
 obtain ⟨e,⟨he,h1,h2⟩,rfl⟩:=hp
 have:=hs e he
 simp only [Zw] at this
 simp only [frs]
 split<;>omega
def Yn (p:Pl) (ev:List Ev2):List AV:=Qc p++[.sl .ro (ev.map Qj),.sl .nil [],I 0,.sl .nil [],I 0]
theorem gain_pure (L:List Zz) (hL:LibOK L) (l:List Ev2) (f:Int) (hl:l.length<=1000000000) (hs:∀ e∈l,Zw e) (hf:SmallF f) (p:Pl) :
  Pure Tryz.prog gl0 13 [.agg (Yn p l),.sl .ro (L.map Xa),I f] (I (Js L (begs f l) 1000)):=by
 have hbp:=begun_pure (l.map Qj) f
 have hit:=begun_iter l f hl hs hf
 have hfr:=begs_fr f l hs
 generalize begs f l=q at hit hfr
 refine Qn code13 (fun _ g _=>if g=37 then .fn 91 [] [.ep [.sl .ro (l.map Qj)] 0,.ep [I f] 0] else .gd false .junk) (by simp) ?_
 simp [sc13,rs13,Yn,Qc]
 refine targets_eff _ _ _ _ ?_
 simp
 refine ⟨hbp,?_⟩
 refine Ud (xs:=q.map fun p=>[I p.1,I p.2]) (by simp) hit (by intro x hx;simp at hx;obtain ⟨a,b,_,rfl⟩:=hx;rfl) (fun i m=>∃ kvs rest,KOK L kvs/\m.boxes=Yn p l::[.sl .ro (L.map Xa)]::[.mobj 0 kvs]::[.mp 2]::[.fn 86 [] [.ptr 3 0,.ptr 1 0]]::[I (Js L (q.take i) 1000)]::[.fn 35 [] [.ptr 5 0,.ptr 4 0]]::rest)
  (fun _ _=>False) (by refine ⟨[],[],?_,rfl⟩;intro p hp;simp at hp) ?_ (fun _ _ _ h=>h.elim) ?_ ?_ (fun _ _ h=>h.elim)
 ·rintro i m m' ⟨kvs,rest,hk,h⟩ ⟨⟨b2,h2⟩,_⟩
  exact ⟨kvs,rest++b2,hk,by rw [h2,h];simp⟩
 ·rintro lp i m x hg hr ⟨kvs,rest,hk,hb⟩ hx K' k1 _ _
  simp at hb
  obtain ⟨y,hy,rfl⟩:∃ y,q[i]? = some y/\[I y.1,I y.2]=x:=by
   rw [List.getElem?_map] at hx
   cases hq:q[i]? with
   | none=>rw [hq] at hx;cases hx
   | some y=>rw [hq] at hx;exact ⟨y,rfl,Option.some.inj hx⟩
  have htk:q.take (i+1)=q.take i++[y]:=by rw [List.take_add_one,hy];rfl
  have hyb:=hfr y (List.mem_of_getElem? hy)
  simp [hb,hr,Xh,Yn,Qc]
  refine move_eff _ L hL y.1 y.2 (Js L (q.take i) 1000) hyb (gainF_bd L _ _ (by omega)) (m.at_ lp .busy) _ _ kvs rest hk (by rw [Vw];exact hb) _ ?_
  intro x kvs' rest' hk'
  apply k1
  exact ⟨kvs',rest',hk',by simp [htk,gainF_app,Js]⟩
 ·rintro m ⟨kvs,rest,hk,hb⟩
  simp at hb
  simp [hb]
end Go.Proofs.YtjmgelbfndnpjaaGreatDoor.Lw
