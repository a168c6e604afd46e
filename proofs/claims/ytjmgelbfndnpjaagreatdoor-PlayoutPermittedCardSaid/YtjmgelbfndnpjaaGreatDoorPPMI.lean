import Derived.Test.YtjmgelbfndnpjaaGreatDoorPPSpG
set_option linter.unusedVariables false
set_option linter.unusedSimpArgs false
set_option maxRecDepth 100000
set_option maxHeartbeats 64000000
namespace Go.Proofs.YtjmgelbfndnpjaaGreatDoor
open Go Go.Abs
theorem Kn (l:List Int):(intCells l).length=l.length:=by simp [intCells]
theorem ic_get {l:List Int} {i:Nat} {x:Int} (h:l[i]? = some x):(intCells l).drop i=I x::intCells (l.drop (i+1)):=by
 unfold intCells
 rw [<- List.map_drop]
 have hlt:=(List.getElem?_eq_some_iff.1 h).1
 rw [List.drop_eq_getElem_cons hlt,(List.getElem?_eq_some_iff.1 h).2];rfl
theorem ic_set (l:List Int) (i:Nat) (x:Int):(intCells l).set i (I x)=intCells (l.set i x):=by simp [intCells,List.map_set]
theorem ic_app (a b:List Int):intCells (a++b)=intCells a++intCells b:=by simp [intCells]
theorem ic_ok (l:List Int):okRow (intCells l)=true:=by
 simp [okRow,intCells]
theorem ic_chunk:∀ (l:List Int) (r:List AV),chunk 1 l.length (intCells l++r)=l.map fun x=>[I x]
 | [],_=>rfl
 | s::l,r=>by simpa [intCells] using ic_chunk l r
theorem ic_fills (n:Nat):fills n [I 0]=intCells (List.replicate n 0):=by
 induction n with
 | zero=>rfl
 | succ n ih=>rw [fills,ih];rfl
theorem rowN_int {l:List Int} {i:Nat} {x:Int} (h:l[i]? = some x):Qf (l.map fun x=>[I x]) i=[I x]:=Qv (by simp [h])
def dd:List Int->List Int
 | []=>[]
 | [x]=>[x]
 | x::y::r=>if x=y then dd (y::r) else x::dd (y::r)
theorem dd_cc (x y:Int) (r:List Int):dd (x::y::r)=if x=y then dd (y::r) else x::dd (y::r):=rfl
theorem dd_snoc:∀ (p:List Int) (a b:Int),dd (p++[a]++[b])=dd (p++[a])++(if b=a then [] else [b])
 | [],a,b=>by
  by_cases h:b=a
  ·subst h;simp [dd]
  ·have:¬ a=b:=fun e=>h e.symm
   simp [dd,h,this]
 | [x],a,b=>by
  have ih:=dd_snoc [] a b
  simp only [List.nil_append,List.cons_append] at ih |-
  rw [dd_cc x a [b],dd_cc x a [],ih]
  by_cases hx:x=a
  ·rw [if_pos hx,if_pos hx]
  ·rw [if_neg hx,if_neg hx];rfl
 | x::y::p,a,b=>by
  have ih:=dd_snoc (y::p) a b
  simp only [List.cons_append] at ih |-
  rw [dd_cc x y (p++[a]++[b]),dd_cc x y (p++[a]),ih]
  by_cases hx:x=y
  ·rw [if_pos hx,if_pos hx]
  ·rw [if_neg hx,if_neg hx];rfl
theorem dd_take {l:List Int} {j:Nat} {a b:Int} (ha:l[j]? = some a) (hb:l[j+1]? = some b):dd (l.take (j+2))=dd (l.take (j+1))++(if b=a then [] else [b]):=by
 have e1:l.take (j+1)=l.take j++[a]:=by rw [List.take_add_one,ha];rfl
 have e2:l.take (j+2)=l.take j++[a]++[b]:=by rw [show j+2=(j+1)+1 from rfl,List.take_add_one,hb,e1];rfl
 rw [e2,e1,dd_snoc]
theorem dd_len:∀ l:List Int,(dd l).length<=l.length
 | []=>by simp [dd]
 | [x]=>by simp [dd]
 | x::y::r=>by
  have:=dd_len (y::r)
  rw [dd];split<;>simp at *<;>omega
theorem dd_mem:∀ (l:List Int) (x:Int),x∈dd l<->x∈l
 | [],x=>by simp [dd]
 | [y],x=>by simp [dd]
 | a::b::r,x=>by
  have ih:=dd_mem (b::r) x
  rw [dd]
  split
  ·rename_i h;subst h;rw [ih];simp
  ·rw [List.mem_cons,ih,List.mem_cons (a:=x) (b:=a)]
theorem dd_asc:∀ {l:List Int},l.Pairwise (·<=·)->(dd l).Pairwise (· < ·)
 | [],_=>by simp [dd]
 | [x],_=>by simp [dd]
 | x::y::r,h=>by
  obtain ⟨h1,h2⟩:=List.pairwise_cons.1 h
  have ih:=dd_asc h2
  rw [dd]
  split
  ·exact ih
  ·rename_i hne
   refine List.pairwise_cons.2 ⟨fun z hz=>?_,ih⟩
   have hz':=(dd_mem _ _).1 hz
   have hxy:=h1 y (by simp)
   rcases List.mem_cons.1 hz' with rfl | hz'
   ·omega
   ·have:=(List.pairwise_cons.1 h2).1 z hz'
    omega
theorem compact_eff (Y:YT) (l:List Int) (hl:l.length<=1000000000) (B:List (List AV)) (L:List Nat) (st:Nat->LS) (n id:Nat) (hid:id < B.length) (hne:l≠[]) (hB:Qf B id=intCells l) (K:AV->AM->Prop)
  (hK:∀ (B':List (List AV)) (z:List Int),Keep (·=id) B B'->Qf B' id=intCells (dd l++z)->(dd l).length+z.length=l.length->K (.bs id 0 (dd l).length 1) ⟨B',L,st,n⟩) :
  EffY Tryz.prog gl0 Y 148 [.bs id 0 l.length 1] ⟨B,L,st,n⟩ K:=by
 have hlen:=Kn l
 have hpos:0 < l.length:=List.length_pos_iff.2 hne
 refine Zb code148 (fun _ _ _=>.junk) (by simp) ?_
 by_cases h2:l.length < 2
 ·have h2':(l.length:Int) < 2:=by omega
  have hd:dd l=l:=by
   match l,hne,h2 with
   | [x],_,_=>rfl
  have:=hK B [] (Keep.refl _ _) (by rw [hd,List.append_nil];exact hB) (by rw [hd];simp)
  rw [hd] at this
  simp [sc148,rs148,h2',h2]
  exact this
 ·have h2':¬ (l.length:Int) < 2:=by omega
  simp [sc148,h2',h2]
  refine Ql w148_0 (fun f m=>∃ k:Nat,f 3=I k/\1<=k/\k<=l.length/\m=⟨B,L,st,n⟩/\dd (l.take k)=l.take k) (fun f _=>l.length - (numOf (f 3)).toNat) ?_ ?_
  ·refine ⟨1,by simp,by omega,by omega,rfl,?_⟩
   match l,hne with
   | x::r,_=>rfl
  ·rintro f m ⟨k,h3,hk1,hk,rfl,hdd⟩
   rcases Nat.lt_or_ge k l.length with hlt | hge
   ·obtain ⟨k',rfl⟩:∃ k',k=k'+1:=⟨k - 1,by omega⟩
    obtain ⟨a,ha⟩:∃ a,l[k']? = some a:=⟨_,List.getElem?_eq_getElem (by omega)⟩
    obtain ⟨b,hb⟩:∃ b,l[k'+1]? = some b:=⟨_,List.getElem?_eq_getElem hlt⟩
    have ga:=ic_get ha
    have gb:=ic_get hb
    have hklt:((k':Int)+1) < (l.length:Int):=by omega
    have hklt0:(k':Int) < (l.length:Int):=by omega
    have hk0:k' < l.length:=by omega
    have hw1:IntKind.i64.wrap ((k':Int)+1 - 1)=(k':Int):=by rw [Qe]<;>omega
    have hw1':IntKind.i64.wrap (k':Int)=(k':Int):=by rw [Qe]<;>omega
    have hw2:IntKind.i64.wrap ((k':Int)+1+1)=((k'+1+1:Nat):Int):=by rw [Qe]<;>omega
    have hnn:(0:Int)<=(k':Int)+1:=by omega
    have htn:((k':Int)+1).toNat=k'+1:=by omega
    have hdt:=dd_take ha hb
    by_cases hab:b=a
    ·rw [if_pos hab,List.append_nil] at hdt
     simp [h3,hlt,hklt,hklt0,hk0,hB,ga,gb,hw1,hw1',hw2,hnn,htn,hab,w148_0]
     have hle:(k':Int)+1<=(l.length:Int):=by omega
     refine ⟨hle,?_⟩
     refine Ql w148_1 (fun f m=>∃ (k t:Nat) (B':List (List AV)) (L':List Int),f 3=I k/\f 5=I ((t+1:Nat):Int)/\k'+1+(t+1)<=l.length/\1<=k/\k<=k'+1+t/\m=⟨B',L,st,n⟩/\Keep (·=id) B B'/\Qf B' id=intCells L'/\L'.length=l.length /\
      L'.take k=dd (l.take (k'+1+(t+1)))/\L'.drop (k'+1+t)=l.drop (k'+1+t)) (fun f _=>l.length - (k'+1) - (numOf (f 5)).toNat) ?_ ?_
     ·refine ⟨k'+1,0,B,l,by simp [h3],by simp,by omega,by omega,by omega,rfl,Keep.refl _ _,hB,rfl,?_,rfl⟩
      rw [show k'+1+(0+1)=k'+2 by omega,hdt,hdd]
     ·rintro g m ⟨k,t,B',L',g3,g5,ht,hk1',hkt,rfl,hkp,hB',hL',htk,hdp⟩
      have hid':id < B'.length:=Nat.lt_of_lt_of_le hid hkp.1
      have hlen':=Kn L'
      rcases Nat.lt_or_ge (k'+1+(t+1)) l.length with hjl | hjg
      ·obtain ⟨x,hx⟩:∃ x,l[k'+1+t]? = some x:=⟨_,List.getElem?_eq_getElem (by omega)⟩
       obtain ⟨y,hy⟩:∃ y,l[k'+1+t+1]? = some y:=⟨_,List.getElem?_eq_getElem (by omega)⟩
       have hx':L'[k'+1+t]? = some x:=by
        have:=congrArg (fun q=>q[0]?) hdp
        simpa [hx] using this
       have hy':L'[k'+1+t+1]? = some y:=by
        have:=congrArg (fun q=>q[1]?) hdp
        simpa [hy] using this
       have gx:=ic_get hx'
       have gy:(intCells L').drop (k'+1+(t+1))=I y::intCells (L'.drop (k'+1+t+1+1)):=ic_get hy'
       have hdd2:=dd_take hx hy
       rw [show k'+1+t+2=k'+1+(t+1+1) by omega,show k'+1+t+1=k'+1+(t+1) by omega,<- htk] at hdd2
       have hdn:L'.drop (k'+1+(t+1))=l.drop (k'+1+(t+1)):=by
        have:=congrArg (List.drop 1) hdp
        simpa [List.drop_drop,Nat.add_assoc,Nat.add_comm,Nat.add_left_comm] using this
       have hlen2:(t+1:Nat) < l.length - (k'+1):=by omega
       have hlen3:((t:Int)+1) < ((l.length - (k'+1):Nat):Int):=by omega
       have hlen4:(t:Int) < ((l.length - (k'+1):Nat):Int):=by omega
       have hlen5:t < l.length - (k'+1):=by omega
       have hwt:IntKind.i64.wrap (t:Int)=(t:Int):=by rw [Qe]<;>omega
       have hwt2:IntKind.i64.wrap ((t:Int)+1+1)=((t+1+1:Nat):Int):=by rw [Qe]<;>omega
       have hwk:=wrS k (by omega)
       have htn2:((t:Int)+1).toNat=t+1:=by omega
       have hnn2:(0:Int)<=(t:Int)+1:=by omega
       have hklt':(k:Int) < (l.length:Int):=by omega
       have hklt'':k < l.length:=by omega
       have hset:=ic_set L' k y
       by_cases hyx:y=x
       ·rw [if_pos hyx,List.append_nil] at hdd2
        simp [g3,g5,hB',gx,gy,hlen2,hlen3,hlen4,hlen5,hwt,hwt2,htn2,hnn2,hyx,w148_1]
        refine ⟨ag ?_,⟨k,rfl,t+1,by simp,by omega,hk1',by omega,hkp,L',rfl,hL',hdd2.symm,hdn⟩,by omega⟩
        repeat (first | exact Qa _ _ | refine Qb _ rfl ?_)
       ·rw [if_neg hyx] at hdd2
        simp [g3,g5,hB',gx,gy,hlen2,hlen3,hlen4,hlen5,hwt,hwt2,hwk,htn2,hnn2,hyx,hklt',hklt'',hset,hid',w148_1]
        refine ⟨by rw [hlen'];omega,ag ?_,⟨k+1,by simp,t+1,by simp,by omega,by omega,by omega,hkp.set (.inl rfl) _,L'.set k y,Vn _ hid',by simpa using hL',?_,?_⟩,by omega⟩
        ·repeat (first | exact Qa _ _ | refine Qb _ rfl ?_)
        ·rw [List.take_add_one,List.getElem?_set_self (by omega),List.take_set_of_le (by omega)];exact hdd2.symm
        ·rw [show k'+1+(t+1)=k'+1+(t+1) from rfl,List.drop_set_of_lt (by omega)];exact hdn
      ·have hin:¬ (t:Int)+1 < ((l.length - (k'+1):Nat):Int):=by omega
       have hklt':(k:Int) < (l.length:Int):=by omega
       have hklt'':k < l.length:=by omega
       have hkle:(k:Int)<=(l.length:Int):=by omega
       have hfull:dd l=L'.take k:=by rw [htk,List.take_of_length_le (by omega)]
       have hddl:(dd l).length=k:=by rw [hfull,List.length_take];omega
       have hne':intCells L'≠[]:=by
        intro h;have:=congrArg List.length h;rw [hlen',hL'] at this;simp at this;exact hne this
       have hcl:setA (intCells L') k (fills (l.length - k) [I 0])=intCells (dd l++List.replicate (l.length - k) 0):=by
        have e1:L'=L'.take k++L'.drop k:=by simp
        conv=>lhs;rw [e1]
        rw [ic_app,ic_app,ic_fills,hfull]
        have e2:(intCells (L'.take k)).length=k:=by rw [Kn,List.length_take];omega
        have:=setA_app (intCells (List.replicate (l.length - k) 0)) (intCells (L'.take k)) (intCells (L'.drop k)) (by rw [Kn,Kn,List.length_replicate,List.length_drop,hL'])
        rw [e2] at this
        exact this
       simp [g3,g5,hB',w148_1,rs148,hin,hklt',hklt'',hkle,hid',hne',hlen',hL',hcl]
       refine ⟨by omega,?_⟩
       have:=hK (B'.set id (intCells (dd l++List.replicate (l.length - k) 0))) (List.replicate (l.length - k) 0) (hkp.set (.inl rfl) _) (Vn _ hid') (by rw [hddl];simp;omega)
       rw [hddl] at this
       exact this
    ·rw [if_neg hab] at hdt
     simp [h3,hlt,hklt,hklt0,hk0,hB,ga,gb,hw1,hw1',hw2,hnn,htn,hab,w148_0]
     refine ⟨ag ?_,⟨k'+1+1,by omega,by omega,by omega,?_⟩,by omega⟩
     ·repeat (first | exact Qa _ _ | refine Qb _ rfl ?_)
     ·rw [show k'+1+1=k'+2 by omega,hdt,hdd,List.take_add_one (l:=l) (i:=k'+1),hb];rfl
   ·obtain rfl:k=l.length:=by omega
    rw [List.take_length] at hdd
    have hkn:¬ ((l.length:Nat):Int) < (l.length:Int):=by omega
    have:=hK B [] (Keep.refl _ _) (by rw [hdd,List.append_nil];exact hB) (by rw [hdd];simp)
    rw [hdd] at this
    simp [h3,w148_0,rs148]
    exact this
theorem nan233_pure (a:Int):Pure Tryz.prog gl0 192 [I a] (.bool false):=by
 refine Qn code192 (fun _ _ _=>.junk) (by simp) ?_
 simp [sc192,rs192]
theorem nan208_pure (a:Int):Pure Tryz.prog gl0 174 [I a] (.bool false):=by
 refine Qn code174 (fun _ _ _=>.junk) (by simp) ?_
 simp [sc174,rs174]
theorem less_pure (a b:Int):Pure Tryz.prog gl0 173 [I a,I b] (.bool (decide (a < b))):=by
 have h:=nan233_pure a
 refine Qn code173 (fun _ _ _=>.bool false) (by simp) ?_
 simp [sc173,rs173]
 exact h
def bsS (l:List Int) (x:Int):Nat:=(l.filter fun y=>decide (y < x)).length
theorem bsS_eq {l:List Int} {x:Int} {i:Nat} (hi:i<=l.length) (h1:∀ (k:Nat) (y:Int),k < i->l[k]? = some y->y < x) (h2:∀ (k:Nat) (y:Int),i<=k->l[k]? = some y->x<=y):bsS l x=i:=by
 unfold bsS
 have e:l=l.take i++l.drop i:=by simp
 rw [e,List.filter_append]
 have e1:(l.take i).filter (fun y=>decide (y < x))=l.take i:=by
  rw [List.filter_eq_self]
  intro y hy
  obtain ⟨k,hk⟩:=List.mem_iff_getElem?.1 hy
  rw [List.getElem?_take] at hk
  split at hk
  ·simpa using h1 k y (by assumption) hk
  ·cases hk
 have e2:(l.drop i).filter (fun y=>decide (y < x))=[]:=by
  rw [List.filter_eq_nil_iff]
  intro y hy
  obtain ⟨k,hk⟩:=List.mem_iff_getElem?.1 hy
  rw [List.getElem?_drop] at hk
  have:=h2 (i+k) y (by omega) hk
  simp;omega
 rw [e1,e2];simp;omega
theorem bsearch_pure (l:List Int) (x:Int) (hl:l.length<=1000000000) (hs:l.Pairwise (·<=·)):Pure Tryz.prog gl0 151 [.sl .ro (l.map fun y=>[I y]),I x] (.tup [I (bsS l x:Nat),.bool (decide (l[bsS l x]? = some x))]):=by
 refine Qn code151 (fun _ f a=>if f=173 then (match a with | [.int _ a,.int _ b]=>.bool (decide (a < b)) | _=>.junk) else .bool false) (by simp) ?_
 simp [sc151]
 refine Ql w151_0 (fun f m=>∃ i j:Nat,f 7=I i/\f 8=I j/\i<=j/\j<=l.length/\m=⟨[],[],fun _=>.gone,0⟩/\(∀ (k:Nat) (y:Int),k < i->l[k]? = some y->y < x)/\∀ (k:Nat) (y:Int),j<=k->l[k]? = some y->x<=y)
  (fun f _=>(numOf (f 8)).toNat - (numOf (f 7)).toNat) ?_ ?_
 ·refine ⟨0,l.length,by simp,by simp,by omega,by omega,rfl,fun k y h=>by omega,fun k y h1 h2=>?_⟩
  rw [List.getElem?_eq_none h1] at h2;cases h2
 ·rintro f m ⟨i,j,h7,h8,hij,hj,rfl,ha,hb⟩
  rcases Nat.lt_or_ge i j with hlt | hge
  ·have hmid:(i+j) / 2 < l.length:=by omega
   obtain ⟨y,hy⟩:∃ y,l[(i+j) / 2]? = some y:=⟨_,List.getElem?_eq_getElem hmid⟩
   obtain ⟨s,hse⟩:∃ s,s=(i+j) / 2:=⟨_,rfl⟩
   rw [<- hse] at hy
   have hrow:=rowN_int hy
   have hijlt:(i:Int) < (j:Int):=by omega
   have w1:IntKind.i64.wrap ((i:Int)+(j:Int))=((i+j:Nat):Int):=by rw [Qe]<;>omega
   have w2:IntKind.u64.wrap ((i+j:Nat):Int)=((i+j:Nat):Int):=by simp [IntKind.wrap,IntKind.bits,IntKind.signed];omega
   have w3:Int.fdiv ((i:Int)+(j:Int)) (2 ^ min 1 IntKind.u64.bits)=(s:Int):=by
    rw [show (2:Int) ^ min 1 IntKind.u64.bits=2 from rfl,Int.fdiv_eq_ediv_of_nonneg _ (by omega)];omega
   have w4:IntKind.i64.wrap (s:Int)=(s:Int):=by rw [Qe]<;>omega
   have w5:=wrS s (by omega)
   have hsl:s < l.length:=by omega
   have hsl':(s:Int) < (l.length:Int):=by omega
   have hp:=less_pure y x
   have mono:∀ (p q:Nat) (u v:Int),p<=q->l[p]? = some u->l[q]? = some v->u<=v:=by
    intro p q u v hpq hu hv
    rcases Nat.lt_or_ge p q with h | h
    ·obtain ⟨hp1,hu⟩:=List.getElem?_eq_some_iff.1 hu
     obtain ⟨hq1,hv⟩:=List.getElem?_eq_some_iff.1 hv
     have:=(List.pairwise_iff_getElem.1 hs) p q hp1 hq1 h
     omega
    ·obtain rfl:p=q:=by omega
     rw [hu] at hv;cases hv;omega
   by_cases hyx:y < x
   ·have hyx':decide (y < x)=true:=decide_eq_true hyx
    rw [hyx'] at hp
    simp only [Int.natCast_add] at w1 w2
    simp [h7,h8,hijlt,hlt,hrow,w151_0,w1,w2,w3,w4,w5,hsl,hsl',hyx]
    refine ⟨hp,ag ?_,⟨s+1,by simp,j,rfl,by omega,by omega,fun k z hk hz=>?_,hb⟩,by omega⟩
    ·repeat (first | exact Qa _ _ | refine Qb _ rfl ?_)
    ·have:=mono k s z y (by omega) hz hy;omega
   ·have hyx':decide (y < x)=false:=decide_eq_false hyx
    rw [hyx'] at hp
    simp only [Int.natCast_add] at w1 w2
    simp [h7,h8,hijlt,hlt,hrow,w151_0,w1,w2,w3,w4,w5,hsl,hsl',hyx]
    refine ⟨hp,ag ?_,⟨i,rfl,s,rfl,by omega,by omega,ha,fun k z hk hz=>?_⟩,by omega⟩
    ·repeat (first | exact Qa _ _ | refine Qb _ rfl ?_)
    ·have:=mono s k y z hk hy hz;omega
  ·obtain rfl:i=j:=by omega
   have hbs:=bsS_eq hj ha hb
   rw [hbs]
   have hii:¬ (i:Int) < (i:Int):=by omega
   rcases Nat.lt_or_ge i l.length with hlt | hge'
   ·obtain ⟨y,hy⟩:=getS hlt
    have hrow:=rowN_int hy
    have hilt:(i:Int) < (l.length:Int):=by omega
    have hn:=nan208_pure y
    have hli:l[i]=y:=(List.getElem?_eq_some_iff.1 hy).2
    by_cases hyx:y=x
    ·subst hyx
     simp [h7,h8,hlt,hilt,hrow,w151_0,rs151,hli]
    ·simp [h7,h8,hlt,hilt,hrow,w151_0,rs151,hli,hyx]
     exact hn
   ·have hilt:¬ (i:Int) < (l.length:Int):=by omega
    have:l[i]? = none:=List.getElem?_eq_none hge'
    simp [h7,h8,hilt,w151_0,rs151,this]
def Qar (cs:List Cl) (n:Nat):List (List AV):=((List.range n).reverse).map fun (k:Nat)=>[I (k:Int),.agg (Qq (cs.getD k ⟨0,0,0,0,0,0,0,0⟩))]
theorem backX_succ (cs:List Cl) (n:Nat):Qar cs (n+1)=[I (n:Int),.agg (Qq (cs.getD n ⟨0,0,0,0,0,0,0,0⟩))]::Qar cs n:=by
 simp [Qar,List.range_succ]
theorem backward_pure (cs:List Cl):Pure Tryz.prog gl0 150 [.sl .ro (cs.map Qq)] (.fn 172 [] [.ep [.sl .ro (cs.map Qq)] 0]):=by
 refine Qn code150 (fun _ _ _=>.junk) (by simp) ?_
 simp [sc150,rs150]
theorem backward_iter (cs:List Cl) (hl:cs.length<=1000000000):Iter Tryz.prog gl0 172 [] [.ep [.sl .ro (cs.map Qq)] 0] (Qar cs cs.length):=by
 intro Y l m K hF
 refine Zb code172 (fun _ _ _=>.junk) (by simp) ?_
 have hw0:IntKind.i64.wrap ((cs.length:Int) - 1)=(cs.length:Int) - 1:=by rw [Qe]<;>omega
 simp [sc172,hw0]
 refine Ql w172_0 (fun f mm=>∃ i:Nat,f 3=I ((i:Int) - 1)/\i<=cs.length/\Fold (Y l) K (Qar cs i) mm) (fun f _=>(numOf (f 3)+1).toNat) ?_ ?_
 ·exact ⟨cs.length,by simp,by omega,hF⟩
 ·rintro f mm ⟨i,h3,hi,hF⟩
  cases i with
  | zero =>
   have hK:K mm:=hF mm (Ext.refl _)
   simp [h3,w172_0,rs172]
   exact hK
  | succ i =>
   obtain ⟨c,hc⟩:∃ c,cs[i]? = some c:=⟨_,List.getElem?_eq_getElem (by omega)⟩
   have hrow:Qf (cs.map Qq) i=Qq c:=Qv (by simp [hc])
   have hgd:cs.getD i ⟨0,0,0,0,0,0,0,0⟩=c:=by simp [List.getD_eq_getElem?_getD,hc]
   rw [backX_succ,hgd] at hF
   have h3':f 3=I i:=by rw [h3];congr 1;omega
   have hilt:i < cs.length:=by omega
   have hilt':(i:Int) < (cs.length:Int):=by omega
   have hw:IntKind.i64.wrap ((i:Int) - 1)=(i:Int) - 1:=by rw [Qe]<;>omega
   have hnn:(0:Int)<=(i:Int):=by omega
   simp only [Qq] at hF hrow
   simp [h3',w172_0,hrow,hilt,hilt',hw,hnn]
   refine hF _ (Ext.refl _) _ (fun m2 hF2=>?_) (fun m2 hK=>?_)
   ·simp [hw]
    refine ⟨ag ?_,⟨i,rfl,by omega,hF2⟩⟩
    repeat (first | exact Qa _ _ | refine Qb _ rfl ?_)
   ·simp [rs172]
    exact hK _ (Ext.refl _)
open Go Go.Abs
def Xg (L:List Nat):List AV:=intCells (L.map fun (k:Nat)=>(k:Int))
theorem nc_len (L:List Nat):(Xg L).length=L.length:=by simp [Xg,Kn]
theorem nc_get {L:List Nat} {i v:Nat} (h:L[i]? = some v):(Xg L).drop i=I (v:Int)::Xg (L.drop (i+1)):=by
 unfold Xg
 rw [ic_get (x:=(v:Int)) (by simp [h]),List.map_drop]
theorem nc_set (L:List Nat) (i v:Nat):(Xg L).set i (I (v:Int))=Xg (L.set i v):=by
 unfold Xg
 rw [ic_set,List.map_set]
def WF (L:List Nat) (d:Nat->Bool) (n:Nat):Prop:=L.length=n+1/\∀ i v,L[i]? = some v->i<=v/\v<=n/\(v=i<->d i=false)/\∀ j,i<=j->j < v->d j=true
theorem WF.jump {L:List Nat} {d:Nat->Bool} {n i v u:Nat} (h:WF L d n) (h1:L[i]? = some v) (h2:L[v]? = some u) (hne:v≠i):WF (L.set i u) d n:=by
 obtain ⟨hl,hw⟩:=h
 refine ⟨by simpa using hl,fun k x hk=>?_⟩
 have hil:i < L.length:=(List.getElem?_eq_some_iff.1 h1).1
 obtain ⟨a1,a2,a3,a4⟩:=hw i v h1
 obtain ⟨b1,b2,b3,b4⟩:=hw v u h2
 by_cases hki:k=i
 ·subst hki
  rw [List.getElem?_set_self hil] at hk
  cases hk
  refine ⟨by omega,b2,?_,fun j hj1 hj2=>?_⟩
  ·have hd:d k≠false:=fun h=>hne (a3.2 h)
   constructor
   ·intro h;omega
   ·intro h;exact absurd h hd
  ·rcases Nat.lt_or_ge j v with h | h
   ·exact a4 j hj1 h
   ·exact b4 j h hj2
 ·rw [List.getElem?_set_ne (fun h=>hki h.symm)] at hk
  exact hw k x hk
theorem und_eff (Y:YT) (i n c lid:Nat) (L:List Nat) (d:Nat->Bool) (hw:WF L d n) (hi:i<=n) (hn:n<=1000000000) (B:List (List AV)) (Lm:List Nat) (st:Nat->LS) (ln:Nat) (hc:c < B.length) (hlid:lid < B.length) (hne:c≠lid)
  (hBc:Qf B c=[.bs lid 0 (n+1) 1]) (hBl:Qf B lid=Xg L) (K:AV->AM->Prop)
  (hK:∀ (B':List (List AV)) (L':List Nat) (r:Nat),Keep (·=lid) B B'->Qf B' lid=Xg L'->WF L' d n->i<=r->r<=n->d r=false->(∀ j,i<=j->j < r->d j=true)->K (I r) ⟨B',Lm,st,ln⟩) :
  EffY Tryz.prog gl0 Y 149 [I i,.ptr c 0] ⟨B,Lm,st,ln⟩ K:=by
 refine Zb code149 (fun _ _ _=>.junk) (by simp) ?_
 simp [sc149]
 refine Ql w149_0 (fun f m=>∃ (k:Nat) (B':List (List AV)) (L':List Nat),f 0=I k/\i<=k/\k<=n/\m=⟨B',Lm,st,ln⟩/\Keep (·=lid) B B'/\Qf B' lid=Xg L'/\WF L' d n/\∀ j,i<=j->j < k->d j=true) (fun f _=>n - (numOf (f 0)).toNat) ?_ ?_
 ·exact ⟨i,B,L,by simp,by omega,hi,rfl,Keep.refl _ _,hBl,hw,fun j h1 h2=>by omega⟩
 ·rintro f m ⟨k,B',L',h0,hik,hkn,rfl,hkp,hBl',hw',hd⟩
  have hlid':lid < B'.length:=Nat.lt_of_lt_of_le hlid hkp.1
  have hBc':Qf B' c=[.bs lid 0 (n+1) 1]:=by rw [hkp.2 c hc hne];exact hBc
  obtain ⟨hl',hw2⟩:=hw'
  obtain ⟨v,hv⟩:∃ v,L'[k]? = some v:=⟨_,List.getElem?_eq_getElem (by omega)⟩
  obtain ⟨v1,v2,v3,v4⟩:=hw2 k v hv
  obtain ⟨u,hu⟩:∃ u,L'[v]? = some u:=⟨_,List.getElem?_eq_getElem (by omega)⟩
  obtain ⟨u1,u2,u3,u4⟩:=hw2 v u hu
  have gv:=nc_get hv
  have gu:=nc_get hu
  have hkl:k < n+1:=by omega
  have hkl':(k:Int) < (n:Int)+1:=by omega
  have hvl:v < n+1:=by omega
  have hvl':(v:Int) < (n:Int)+1:=by omega
  have hlen:=nc_len L'
  by_cases hvk:v=k
  ·subst hvk
   simp [h0,hBc',hBl',gv,hkl,hkl',w149_0,rs149]
   exact hK B' L' v hkp hBl' ⟨hl',hw2⟩ hik hkn (v3.1 rfl) hd
  ·have hvk':¬ (v:Int)=(k:Int):=by omega
   have hset:=nc_set L' k u
   have hW:=WF.jump ⟨hl',hw2⟩ hv hu hvk
   have hu2:(L'.set k u)[k]? = some u:=List.getElem?_set_self (by omega)
   have gu2:=nc_get hu2
   have hlid2:lid < (B'.set lid (Xg (L'.set k u))).length:=by simpa using hlid'
   have hr1:Qf (B'.set lid (Xg (L'.set k u))) lid=Xg (L'.set k u):=Vn _ hlid'
   have hr2:Qf (B'.set lid (Xg (L'.set k u))) c=[.bs lid 0 (n+1) 1]:=by rw [Zu _ (fun h=>hne h.symm)];exact hBc'
   simp [h0,hBc',hBl',gv,gu,hkl,hkl',hvl,hvl',hvk,hvk',w149_0,hset,hr1,hr2,gu2,hlen,hl',hlid']
   refine ⟨by omega,ag ?_,⟨u,rfl,by omega,by omega,hkp.set (.inl rfl) _,_,rfl,hW,fun j h1 h2=>?_⟩,by omega⟩
   ·repeat (first | exact Qa _ _ | refine Qb _ rfl ?_)
   ·rcases Nat.lt_or_ge j k with h | h
    ·exact hd j h1 h
    ·rcases Nat.lt_or_ge j v with h3 | h3
     ·exact v4 j h h3
     ·exact u4 j h3 h2
open Go Go.Abs
def cntB (item region:Int) (c:Cl):Bool:=decide (c.ki=1\/c.ki=2)&&(concB c item region&&Xt c)
def Uv (cs:List Cl) (item region:Int):List Cl:=cs.filter (cntB item region)
def bnd:List Cl->List Int
 | []=>[]
 | c::r=>c.fr::c.to::bnd r
theorem bnd_app:∀ a b:List Cl,bnd (a++b)=bnd a++bnd b
 | [],_=>rfl
 | c::r,b=>by simp [bnd,bnd_app r b]
theorem bnd_len:∀ a:List Cl,(bnd a).length=2*a.length
 | []=>rfl
 | c::r=>by simp [bnd,bnd_len r];omega
theorem bnd_mem {c:Cl}:∀ {a:List Cl},c∈a->c.fr∈bnd a/\c.to∈bnd a
 | [],h=>by cases h
 | d::r,h=>by
  rcases List.mem_cons.1 h with rfl | h
  ·simp [bnd]
  ·have:=bnd_mem h;simp [bnd,this.1,this.2]
def bdC (C:List Cl):List Int:=dd ((bnd C).mergeSort fun x y=>decide (x<=y))
theorem bdC_asc (C:List Cl):(bdC C).Pairwise (· < ·):=by
 refine dd_asc ?_
 have:=List.pairwise_mergeSort (le:=fun x y:Int=>decide (x<=y)) (fun a b c h1 h2=>by simp at *;omega) (fun a b=>by simp;omega) (bnd C)
 exact this.imp (by simp)
theorem bdC_mem (C:List Cl) (x:Int):x∈bdC C<->x∈bnd C:=by
 unfold bdC
 rw [dd_mem,(List.mergeSort_perm _ _).mem_iff]
theorem bdC_len (C:List Cl):(bdC C).length<=2*C.length:=by
 have h1:=dd_len ((bnd C).mergeSort fun x y=>decide (x<=y))
 rw [List.length_mergeSort,bnd_len] at h1
 exact h1
abbrev GS:=List (Option Bool)
def stepG (s:GS) (a b:Nat) (v:Bool):GS:=s.mapIdx fun j o=>if a<=j/\j < b/\o=none then some v else o
def stC (Bd:List Int) (s:GS) (c:Cl):GS:=stepG s (bsS Bd c.fr) (bsS Bd c.to) (decide (c.ki=1))
def finC (C:List Cl):GS:=C.reverse.foldl (stC (bdC C)) (List.replicate (bdC C).length none)
def outI (Bd:List Int) (s:GS) (i:Nat):List Sp:=if s[i]? = some (some true) then [(Bd.getD i 0,Bd.getD (i+1) 0)] else []
def outC (Bd:List Int) (s:GS) (n:Nat):List Sp:=(List.range n).flatMap (outI Bd s)
def Wj (cs:List Cl) (item region:Int):List Sp:=Xb (outC (bdC (Uv cs item region)) (finC (Uv cs item region)) (bdC (Uv cs item region)).length)
theorem stepG_len (s:GS) (a b:Nat) (v:Bool):(stepG s a b v).length=s.length:=by simp [stepG]
theorem Ye (s:GS) (a b:Nat) (v:Bool) (j:Nat):(stepG s a b v)[j]? = (s[j]?).map fun o=>if a<=j/\j < b/\o=none then some v else o:=by simp [stepG]
theorem stepG_nil (s:GS) (a b:Nat) (v:Bool) (h:b<=a):stepG s a b v=s:=by
 apply List.ext_getElem?
 intro j
 rw [Ye]
 cases s[j]? with
 | none=>rfl
 | some o=>simp;intro h1 h2;omega
theorem stepG_succ (s:GS) (a k:Nat) (v:Bool) (hak:a<=k) (hk:s[k]? = some none):stepG s a (k+1) v=(stepG s a k v).set k (some v):=by
 have hlt:k < s.length:=(List.getElem?_eq_some_iff.1 hk).1
 apply List.ext_getElem?
 intro j
 rw [Ye]
 by_cases hjk:j=k
 ·subst hjk
  rw [List.getElem?_set_self (by rw [stepG_len];exact hlt),hk]
  simp [hak]
 ·rw [List.getElem?_set_ne (fun h=>hjk h.symm),Ye]
  cases s[j]? with
  | none=>rfl
  | some o =>
   simp only [Option.map_some]
   congr 1
   by_cases h:a<=j/\j < k/\o=none
   ·rw [if_pos h,if_pos ⟨h.1,by omega,h.2.2⟩]
   ·rw [if_neg h,if_neg (fun h'=>h ⟨h'.1,by omega,h'.2.2⟩)]
theorem stepG_more (s:GS) (a k r:Nat) (v:Bool) (hkr:k<=r) (h:∀ j,k<=j->j < r->s[j]? ≠ some none):stepG s a r v=stepG s a k v:=by
 apply List.ext_getElem?
 intro j
 rw [Ye,Ye]
 cases hj:s[j]? with
 | none=>rfl
 | some o =>
  simp only [Option.map_some]
  congr 1
  by_cases h1:a<=j/\j < k/\o=none
  ·rw [if_pos h1,if_pos ⟨h1.1,by omega,h1.2.2⟩]
  ·rw [if_neg h1]
   by_cases h2:a<=j/\j < r/\o=none
   ·exfalso
    have hkj:k<=j:=by
     rcases Nat.lt_or_ge j k with h3 | h3
     ·exact absurd ⟨h2.1,h3,h2.2.2⟩ h1
     ·exact h3
    exact h j hkj h2.2.1 (by rw [hj,h2.2.2])
   ·rw [if_neg h2]
def gB (s:GS):List Bool:=s.map fun o=>o==some true
def decB (s:GS) (j:Nat):Bool:=match s[j]? with
 | some (some _)=>true
 | _=>false
def Xp (l:List Bool):List AV:=l.map AV.bool
theorem bc_len (l:List Bool):(Xp l).length=l.length:=by simp [Xp]
theorem bc_get {l:List Bool} {i:Nat} {x:Bool} (h:l[i]? = some x):(Xp l).drop i=.bool x::Xp (l.drop (i+1)):=by
 unfold Xp
 rw [<- List.map_drop]
 have hlt:=(List.getElem?_eq_some_iff.1 h).1
 rw [List.drop_eq_getElem_cons hlt,(List.getElem?_eq_some_iff.1 h).2];rfl
theorem bc_set (l:List Bool) (i:Nat) (x:Bool):(Xp l).set i (.bool x)=Xp (l.set i x):=by simp [Xp,List.map_set]
theorem bc_fills (n:Nat):fills n [.bool false]=Xp (List.replicate n false):=by
 induction n with
 | zero=>rfl
 | succ n ih=>rw [fills,ih];rfl
theorem gB_set (s:GS) (k:Nat) (v:Bool):gB (s.set k (some v))=(gB s).set k v:=by
 unfold gB;rw [List.map_set];cases v<;>rfl
theorem gB_none (n:Nat):gB (List.replicate n none)=List.replicate n false:=by
 unfold gB;rw [List.map_replicate];rfl
theorem WF.init (n:Nat) (d:Nat->Bool) (hd:∀ j,d j=false):WF (List.range (n+1)) d n:=by
 refine ⟨by simp,fun i v h=>?_⟩
 obtain ⟨h1,h2⟩:=List.getElem?_eq_some_iff.1 h
 simp at h1 h2
 subst h2
 exact ⟨by omega,by omega,⟨fun _=>hd _,fun _=>rfl⟩,fun j h3 h4=>by omega⟩
theorem WF.dec {L:List Nat} {d d':Nat->Bool} {n k:Nat} (h:WF L d n) (hk:k < n) (hd:d' k=true) (hd2:∀ j,j≠k->d' j=d j):WF (L.set k (k+1)) d' n:=by
 obtain ⟨hl,hw⟩:=h
 refine ⟨by simpa using hl,fun i v hv=>?_⟩
 by_cases hik:i=k
 ·subst hik
  rw [List.getElem?_set_self (by omega)] at hv
  cases hv
  refine ⟨by omega,by omega,?_,fun j h1 h2=>?_⟩
  ·constructor
   ·intro h;omega
   ·intro h;rw [hd] at h;cases h
  ·obtain rfl:j=i:=by omega
   exact hd
 ·rw [List.getElem?_set_ne (fun h=>hik h.symm)] at hv
  obtain ⟨a1,a2,a3,a4⟩:=hw i v hv
  refine ⟨a1,a2,by rw [hd2 i hik];exact a3,fun j h1 h2=>?_⟩
  by_cases hjk:j=k
  ·subst hjk;exact hd
  ·rw [hd2 j hjk];exact a4 j h1 h2
theorem decB_set (s:GS) (k:Nat) (v:Bool) (hk:k < s.length):decB (s.set k (some v)) k=true/\∀ j,j≠k->decB (s.set k (some v)) j=decB s j:=by
 constructor
 ·unfold decB;rw [List.getElem?_set_self hk]
 ·intro j hj;unfold decB;rw [List.getElem?_set_ne (fun h=>hj h.symm)]
theorem bsS_le (l:List Int) (x:Int):bsS l x<=l.length:=List.length_filter_le _ _
theorem bsS_lt {l:List Int} {x:Int} (h:x∈l):bsS l x < l.length:=by
 unfold bsS
 have h1:=List.length_filter_le (fun y=>decide (y < x)) l
 rcases Nat.lt_or_ge (l.filter fun y=>decide (y < x)).length l.length with h2 | h2
 ·exact h2
 ·have h3:(l.filter fun y=>decide (y < x)).length=l.length:=by omega
  have h4:=(List.length_filter_eq_length_iff.1 h3) x h
  simp at h4
open Go Go.Abs
theorem compact_none (Y:YT) (m:AM) (K:AV->AM->Prop) (hK:K (.sl .nil []) m):EffY Tryz.prog gl0 Y 148 [.sl .nil []] m K:=by
 refine Zb code148 (fun _ _ _=>.junk) (by simp) ?_
 simp [sc148,rs148]
 exact hK
def Uq (Bd:List Int) (R:List Sp):Nat->FuncId->List AV->AV:=fun d f l =>
 if f=999999 then (if d=59 then .mobj 0 [] else .junk) else
 if f=146 then (match l with
  | [.agg [.int _ a,.int _ b,.int _ c,.int _ d,.int _ e,.int _ f,.int _ g,.int _ h],.int _ i,.int _ r]=>.bool (concB ⟨a,b,c,d,e,f,g,h⟩ i r)
  | _=>.junk) else
 if f=48 then (match l with
  | [.agg [.int _ a,.int _ b,.int _ c,.int _ d,.int _ e,.int _ f,.int _ g,.int _ h]]=>.bool (Xt ⟨a,b,c,d,e,f,g,h⟩)
  | _=>.junk) else
 if f=150 then (match l with
  | [.sl _ rows]=>.fn 172 [] [.ep [.sl .ro rows] 0]
  | _=>.junk) else
 if f=151 then (match l with
  | [_,.int _ x]=>.tup [I (bsS Bd x:Nat),.bool (decide (Bd[bsS Bd x]? = some x))]
  | _=>.junk) else
 if f=117 then .sl .ro (R.map Qd) else .gd false .junk
def BdIs (B:List (List AV)) (C:List Cl):Prop:=(C=[]/\Qf B 0=[.sl .nil []])\/(C≠[]/\∃ bid,Qf B 0=[.bs bid 0 (bnd C).length 1]/\bid≠0/\bid < B.length/\Qf B bid=intCells (bnd C))
theorem BdIs.app {B:List (List AV)} {C:List Cl} (h:BdIs B C) (h0:0 < B.length) (x:List (List AV)):BdIs (B++x) C:=by
 rcases h with ⟨h1,h2⟩ | ⟨h1,bid,h2,h3,h4,h5⟩
 ·exact .inl ⟨h1,by rw [Qh h0];exact h2⟩
 ·exact .inr ⟨h1,bid,by rw [Qh h0];exact h2,h3,by simp;omega,by rw [Qh h4];exact h5⟩
def tl119x:SC:=(.seq (.ops [⟨(some 22),(.mv (.const (.sl .nil []))),none,[]⟩]) (.seq (.seq (.ops [⟨(some 121),(.load false 1 (.tmp 11)),none,[]⟩,⟨(some 122),(.len (.tmp 121)),none,[]⟩,⟨(some 123),(.mv (.const (.int .i64 0))),none,[]⟩]) (.block 8 (.loop (.seq (.ops [⟨(some 124),(.bin .lss (.tmp 123) (.tmp 122)),none,[]⟩]) (.seq (.cond (.tmp 124) .skip (.exit 8)) (.seq (.block 9 (.seq (.ops [⟨(some 125),(.mv (.tmp 123)),none,[]⟩,⟨(some 126),(.iaddr 1 (.tmp 121) (.tmp 123)),none,[]⟩,⟨(some 127),(.load false 1 (.tmp 126)),none,[]⟩,⟨(some 23),(.mv (.tmp 125)),none,[]⟩,⟨(some 24),(.mv (.tmp 127)),none,[]⟩]) (.seq (.ops [⟨(some 128),(.mv (.tmp 24)),none,[]⟩]) (.cond (.tmp 128) (.draw [⟨(some 129),(.mv (.tmp 22)),none,[]⟩,⟨(some 130),(.load false 1 (.tmp 8)),none,[]⟩,⟨(some 131),(.mv (.tmp 23)),none,[]⟩,⟨(some 132),(.iaddr 1 (.tmp 130) (.tmp 131)),none,[]⟩,⟨(some 133),(.load false 1 (.tmp 132)),none,[]⟩,⟨(some 134),(.load false 1 (.tmp 8)),none,[]⟩,⟨(some 135),(.mv (.tmp 23)),none,[]⟩,⟨(some 136),(.bin .add (.tmp 135) (.const (.int .i64 1))),none,[]⟩,⟨(some 137),(.iaddr 1 (.tmp 134) (.tmp 136)),none,[]⟩,⟨(some 138),(.load false 1 (.tmp 137)),none,[]⟩,⟨(some 139),(.build [(.int .i64 0),(.int .i64 0)] [(0,(1,(.tmp 133))),(1,(1,(.tmp 138)))]),none,[]⟩,⟨(some 140),(.bsl 2 1 [(0,(.tmp 139))]),none,[]⟩] [⟨(some 141),(.app 2 16 (.tmp 129) (.tmp 140)),none,[]⟩,⟨(some 22),(.mv (.tmp 141)),none,[]⟩]) .skip)))) (.ops [⟨(some 142),(.bin .add (.tmp 123) (.const (.int .i64 1))),none,[]⟩,⟨(some 123),(.mv (.tmp 142)),none,[]⟩]))))))) (.seq (.ops [⟨(some 143),(.mv (.tmp 22)),none,[]⟩,⟨(some 144),(.call (.func 117) [(.tmp 143)]),none,[]⟩,⟨(some 6),(.mv (.tmp 144)),none,[]⟩]) .ret)))
def md119 (t:SC):SC:=(.seq (.seq (.ops [⟨(some 72),(.load false 1 (.tmp 12)),none,[]⟩,⟨(some 73),(.len (.tmp 72)),none,[]⟩,⟨(some 74),(.mv (.const (.int .i64 0))),none,[]⟩]) (.block 2 (.loop (.seq (.ops [⟨(some 75),(.bin .lss (.tmp 74) (.tmp 73)),none,[]⟩]) (.seq (.cond (.tmp 75) .skip (.exit 2)) (.seq (.block 3 (.seq (.ops [⟨(some 76),(.mv (.tmp 74)),none,[]⟩,⟨(some 13),(.mv (.tmp 76)),none,[]⟩]) (.ops [⟨(some 77),(.load false 1 (.tmp 12)),none,[]⟩,⟨(some 78),(.mv (.tmp 13)),none,[]⟩,⟨(some 79),(.mv (.tmp 13)),none,[]⟩,⟨(some 80),(.iaddr 1 (.tmp 77) (.tmp 78)),none,[]⟩,⟨none,(.store 1 (.tmp 80) (.tmp 79)),none,[]⟩]))) (.ops [⟨(some 81),(.bin .add (.tmp 74) (.const (.int .i64 1))),none,[]⟩,⟨(some 74),(.mv (.tmp 81)),none,[]⟩]))))))) (.seq (.ops [⟨(some 82),(.mkfn 149 [] [(.tmp 12)]),none,[]⟩,⟨(some 14),(.alloc [.nilfn]),none,[]⟩,⟨none,(.store 1 (.tmp 14) (.tmp 82)),none,[]⟩]) (.seq (.seq (.ops [⟨(some 83),(.mv (.tmp 7)),none,[]⟩,⟨(some 84),(.call (.func 150) [(.tmp 83)]),none,[]⟩]) (.block 4 (.rfunc (.tmp 84) [85,86] (.ops [⟨(some 16),(.alloc [(.int .i64 0),(.int .i64 0),(.int .i64 0),(.int .i64 0),(.int .i64 0),(.int .i64 0),(.int .i64 0),(.int .i64 0)]),none,[]⟩,⟨none,(.store 8 (.tmp 16) (.tmp 86)),none,[]⟩]) (.block 5 (.seq (.ops [⟨(some 88),(.load false 1 (.tmp 8)),none,[]⟩,⟨(some 89),(.faddr 2 (.tmp 16)),none,[]⟩,⟨(some 90),(.load false 1 (.tmp 89)),none,[]⟩,⟨(some 91),(.call (.func 151) [(.tmp 88),(.tmp 90)]),none,[]⟩,⟨(some 87),(.mv (.tmp 91)),none,[]⟩,⟨(some 92),(.ext (.tmp 87) 0),none,[]⟩,⟨(some 93),(.ext (.tmp 87) 1),none,[]⟩,⟨(some 17),(.mv (.tmp 92)),none,[]⟩,⟨(some 18),(.mv (.tmp 93)),none,[]⟩]) (.seq (.ops [⟨(some 95),(.load false 1 (.tmp 8)),none,[]⟩,⟨(some 96),(.faddr 3 (.tmp 16)),none,[]⟩,⟨(some 97),(.load false 1 (.tmp 96)),none,[]⟩,⟨(some 98),(.call (.func 151) [(.tmp 95),(.tmp 97)]),none,[]⟩,⟨(some 94),(.mv (.tmp 98)),none,[]⟩,⟨(some 99),(.ext (.tmp 94) 0),none,[]⟩,⟨(some 100),(.ext (.tmp 94) 1),none,[]⟩,⟨(some 19),(.mv (.tmp 99)),none,[]⟩,⟨(some 20),(.mv (.tmp 100)),none,[]⟩]) (.seq (.ops [⟨(some 101),(.load false 1 (.tmp 14)),none,[]⟩,⟨(some 102),(.mv (.tmp 17)),none,[]⟩,⟨(some 103),(.call (.tmp 101) [(.tmp 102)]),none,[]⟩,⟨(some 21),(.mv (.tmp 103)),none,[]⟩]) (.block 6 (.loop (.seq (.seq (.ops [⟨(some 104),(.mv (.tmp 21)),none,[]⟩,⟨(some 105),(.mv (.tmp 19)),none,[]⟩,⟨(some 106),(.bin .lss (.tmp 104) (.tmp 105)),none,[]⟩]) (.cond (.tmp 106) .skip (.exit 6))) (.seq (.block 7 (.seq (.ops [⟨(some 110),(.load false 1 (.tmp 11)),none,[]⟩,⟨(some 111),(.mv (.tmp 21)),none,[]⟩,⟨(some 112),(.faddr 0 (.tmp 16)),none,[]⟩,⟨(some 113),(.load false 1 (.tmp 112)),none,[]⟩,⟨(some 114),(.bin .eql (.tmp 113) (.const (.int .i64 1))),none,[]⟩,⟨(some 115),(.iaddr 1 (.tmp 110) (.tmp 111)),none,[]⟩,⟨none,(.store 1 (.tmp 115) (.tmp 114)),none,[]⟩]) (.ops [⟨(some 116),(.load false 1 (.tmp 12)),none,[]⟩,⟨(some 117),(.mv (.tmp 21)),none,[]⟩,⟨(some 118),(.mv (.tmp 21)),none,[]⟩,⟨(some 119),(.bin .add (.tmp 118) (.const (.int .i64 1))),none,[]⟩,⟨(some 120),(.iaddr 1 (.tmp 116) (.tmp 117)),none,[]⟩,⟨none,(.store 1 (.tmp 120) (.tmp 119)),none,[]⟩]))) (.ops [⟨(some 107),(.load false 1 (.tmp 14)),none,[]⟩,⟨(some 108),(.mv (.tmp 21)),none,[]⟩,⟨(some 109),(.call (.tmp 107) [(.tmp 108)]),none,[]⟩,⟨(some 21),(.mv (.tmp 109)),none,[]⟩])))))))))))) t)))
def hd120 (t:SC):SC:=(.seq (.ops [⟨(some 6),(.mv (.const (.sl .nil []))),none,[]⟩]) (.seq (.ops [⟨(some 7),(.mv (.const (.sl .nil []))),none,[]⟩]) (.seq (.ops [⟨(some 8),(.alloc [(.sl .nil [])]),none,[]⟩]) (.seq (.seq (.ops [⟨(some 25),(.mv (.tmp 0)),none,[]⟩,⟨(some 26),(.len (.tmp 25)),none,[]⟩,⟨(some 27),(.mv (.const (.int .i64 0))),none,[]⟩]) (.block 0 (.loop (.seq (.ops [⟨(some 28),(.bin .lss (.tmp 27) (.tmp 26)),none,[]⟩]) (.seq (.cond (.tmp 28) .skip (.exit 0)) (.seq (.block 1 (.seq (.ops [⟨(some 29),(.iaddr 8 (.tmp 25) (.tmp 27)),none,[]⟩,⟨(some 30),(.load true 8 (.tmp 29)),none,[]⟩,⟨(some 10),(.alloc [(.int .i64 0),(.int .i64 0),(.int .i64 0),(.int .i64 0),(.int .i64 0),(.int .i64 0),(.int .i64 0),(.int .i64 0)]),none,[]⟩,⟨none,(.store 8 (.tmp 10) (.tmp 30)),none,[]⟩]) (.seq (.ops [⟨(some 31),(.faddr 0 (.tmp 10)),none,[]⟩,⟨(some 32),(.load false 1 (.tmp 31)),none,[]⟩,⟨(some 33),(.bin .eql (.tmp 32) (.const (.int .i64 1))),none,[]⟩,⟨(some 34),(.mv (.tmp 33)),none,[]⟩,⟨(some 35),(.faddr 0 (.tmp 10)),(some ((some 34),false)),[(.tmp 10)]⟩,⟨(some 36),(.load false 1 (.tmp 35)),(some ((some 34),false)),[(.tmp 35)]⟩,⟨(some 37),(.bin .eql (.tmp 36) (.const (.int .i64 2))),(some ((some 34),false)),[(.tmp 36),(.const (.int .i64 2))]⟩,⟨(some 38),(.pick (.tmp 34) (.const (.bool true)) (.tmp 37)),none,[]⟩,⟨(some 39),(.mv (.tmp 38)),none,[]⟩,⟨(some 40),(.load true 8 (.tmp 10)),(some ((some 39),true)),[(.tmp 10)]⟩,⟨(some 41),(.mv (.tmp 1)),(some ((some 39),true)),[(.tmp 1)]⟩,⟨(some 42),(.mv (.tmp 2)),(some ((some 39),true)),[(.tmp 2)]⟩,⟨(some 43),(.call (.func 146) [(.tmp 40),(.tmp 41),(.tmp 42)]),(some ((some 39),true)),[(.func 146),(.tmp 40),(.tmp 41),(.tmp 42)]⟩,⟨(some 44),(.pick (.tmp 39) (.tmp 43) (.const (.bool false))),none,[]⟩,⟨(some 45),(.mv (.tmp 44)),none,[]⟩,⟨(some 46),(.load true 8 (.tmp 10)),(some ((some 45),true)),[(.tmp 10)]⟩,⟨(some 47),(.call (.func 48) [(.tmp 46)]),(some ((some 45),true)),[(.func 48),(.tmp 46)]⟩,⟨(some 48),(.pick (.tmp 45) (.tmp 47) (.const (.bool false))),none,[]⟩]) (.cond (.tmp 48) (.seq (.ops [⟨(some 49),(.mv (.tmp 7)),none,[]⟩,⟨(some 50),(.load true 8 (.tmp 10)),none,[]⟩,⟨(some 51),(.bsl 8 1 [(0,(.tmp 50))]),none,[]⟩,⟨(some 52),(.app 8 64 (.tmp 49) (.tmp 51)),none,[]⟩,⟨(some 7),(.mv (.tmp 52)),none,[]⟩]) (.ops [⟨(some 53),(.load false 1 (.tmp 8)),none,[]⟩,⟨(some 54),(.faddr 2 (.tmp 10)),none,[]⟩,⟨(some 55),(.load false 1 (.tmp 54)),none,[]⟩,⟨(some 56),(.faddr 3 (.tmp 10)),none,[]⟩,⟨(some 57),(.load false 1 (.tmp 56)),none,[]⟩,⟨(some 58),(.bsl 1 2 [(0,(.tmp 55)),(1,(.tmp 57))]),none,[]⟩,⟨(some 59),(.app 1 8 (.tmp 53) (.tmp 58)),none,[]⟩,⟨none,(.store 1 (.tmp 8) (.tmp 59)),none,[]⟩])) .skip)))) (.ops [⟨(some 60),(.bin .add (.tmp 27) (.const (.int .i64 1))),none,[]⟩,⟨(some 27),(.mv (.tmp 60)),none,[]⟩]))))))) (.seq (.ops [⟨(some 61),(.load false 1 (.tmp 8)),none,[]⟩,⟨(some 62),(.call (.func 147) [(.tmp 61)]),none,[]⟩]) (.seq (.ops [⟨(some 63),(.load false 1 (.tmp 8)),none,[]⟩,⟨(some 64),(.call (.func 148) [(.tmp 63)]),none,[]⟩,⟨none,(.store 1 (.tmp 8) (.tmp 64)),none,[]⟩]) (.seq (.ops [⟨(some 65),(.load false 1 (.tmp 8)),none,[]⟩,⟨(some 66),(.len (.tmp 65)),none,[]⟩,⟨(some 67),(.mks 1 1 [(.bool false)] (.tmp 66) (.tmp 66)),none,[]⟩,⟨(some 11),(.alloc [(.sl .nil [])]),none,[]⟩,⟨none,(.store 1 (.tmp 11) (.tmp 67)),none,[]⟩]) (.seq (.ops [⟨(some 68),(.load false 1 (.tmp 8)),none,[]⟩,⟨(some 69),(.len (.tmp 68)),none,[]⟩,⟨(some 70),(.bin .add (.tmp 69) (.const (.int .i64 1))),none,[]⟩,⟨(some 71),(.mks 1 8 [(.int .i64 0)] (.tmp 70) (.tmp 70)),none,[]⟩,⟨(some 12),(.alloc [(.sl .nil [])]),none,[]⟩,⟨none,(.store 1 (.tmp 12) (.tmp 71)),none,[]⟩]) t))))))))
theorem sc120_eq:sc120=hd120 (md119 tl119x):=rfl
theorem outI_len (Bd:List Int) (s:GS) (i:Nat):(outI Bd s i).length<=1:=by unfold outI;split<;>simp
theorem outC_succ (Bd:List Int) (s:GS) (n:Nat):outC Bd s (n+1)=outC Bd s n++outI Bd s n:=by simp [outC,List.range_succ]
theorem outC_len (Bd:List Int) (s:GS):∀ n,(outC Bd s n).length<=n
 | 0=>by simp [outC]
 | n+1=>by
  have h1:=outC_len Bd s n
  have h2:=outI_len Bd s n
  rw [outC_succ,List.length_append];omega
theorem spans_last (Bd z:List Int) (s:GS) (R:List Sp) (n:Nat) (hn:s.length=n) (hn9:n<=10000000) (hR:R=Xb (outC Bd s n)) (E:List (Nat×AV)) (B:List (List AV)) (Lm:List Nat) (st:Nat->LS) (ln:Nat) (g g1:Nat) (Bd0:List Int)
  (h8:Abs.look E 8=.ptr 0 0) (h11:Abs.look E 11=.ptr g1 0) (hg1:Qf B g1=[.bs g 0 n 1]) (hg:Qf B g=Xp (gB s))
  (hb:∀ i,s[i]? = some (some true)->∃ bid,Qf B 0=[.bs bid 0 n 1]/\Qf B bid=intCells (Bd++z)/\i+1 < Bd.length/\Bd.length=n) :
  vc Tryz.prog gl0 (Uq Bd0 R) Y0 tl119x ⟨Vd 145 E,⟨B,Lm,st,ln⟩⟩ (post Tryz.prog gl0 (Uq Bd0 R) rs120 (.sl .ro (R.map Qd))):=by
 have hgl:(gB s).length=n:=by simp [gB,hn]
 simp [tl119x,h11,hg1]
 refine Ql w120_3 (fun f m=>∃ (i:Nat) (o:List Sp) (rt:Rt) (Lm':List Nat),i<=n/\f 123=I i/\f 22=.sl rt (o.map Qd)/\m=⟨B,Lm',st,ln⟩/\o=outC Bd s i/\((o=[]/\rt=.nil/\Lm'=Lm)\/(o≠[]/\rt=.own Lm.length 2/\Lm'=Lm++[o.length])))
  (fun f _=>n - (numOf (f 123)).toNat) ?_ ?_
 ·exact ⟨0,[],.nil,Lm,by omega,by simp,by simp,rfl,by simp [outC],.inl ⟨rfl,rfl,rfl⟩⟩
 ·rintro f m ⟨i,o,rt,Lm',hi,h123,h22,rfl,ho,hrt⟩
  have hol:o.length<=i:=by rw [ho];exact outC_len Bd s i
  rcases Nat.lt_or_ge i n with hlt | hge
  ·obtain ⟨v,hv⟩:∃ v,s[i]? = some v:=⟨_,List.getElem?_eq_getElem (by omega)⟩
   have hgv:(gB s)[i]? = some (v==some true):=by simp [gB,hv]
   have gg:=bc_get hgv
   have hilt:(i:Int) < (n:Int):=by omega
   have hw:=wrS i (by omega)
   have hsucc:=outC_succ Bd s i
   rw [<- ho] at hsucc
   by_cases hvt:v=some true
   ·subst hvt
    obtain ⟨bid,b1,b2,b3,b4⟩:=hb i hv
    obtain ⟨x,hx⟩:∃ x,Bd[i]? = some x:=⟨_,List.getElem?_eq_getElem (by omega)⟩
    obtain ⟨y,hy⟩:∃ y,Bd[i+1]? = some y:=⟨_,List.getElem?_eq_getElem b3⟩
    have gx:=ic_get (l:=Bd++z) (i:=i) (x:=x) (by rw [List.getElem?_append_left (by omega)];exact hx)
    have gy:=ic_get (l:=Bd++z) (i:=i+1) (x:=y) (by rw [List.getElem?_append_left (by omega)];exact hy)
    have hou:outI Bd s i=[(x,y)]:=by simp [outI,hv,hx,hy]
    rw [hou] at hsucc
    simp at gg
    have hi1:i+1 < n:=by omega
    have hi1':(i:Int)+1 < (n:Int):=by omega
    have hnn:(0:Int)<=(i:Int)+1:=by omega
    have htn:((i:Int)+1).toNat=i+1:=by omega
    have hr2:∀ row∈o.map Qd,row.length=2:=by
     intro row h;rw [List.mem_map] at h;obtain ⟨a,_,rfl⟩:=h;rfl
    rcases hrt with ⟨rfl,rfl,rfl⟩ | ⟨hne,rfl,rfl⟩
    ·simp [h123,h22,hlt,hilt,hg,gg,w120_3,hw,h8,b1,b2,gx,gy,hi1,hi1',hnn,htn,Uq]
     refine ⟨ag ?_,⟨i+1,by omega,by simp,[(x,y)],_,⟨rfl,rfl⟩,by rw [hsucc];rfl,by simp⟩,by omega⟩
     repeat (first | exact Qa _ _ | refine Qb _ rfl ?_)
    ·simp [h123,h22,hlt,hilt,hg,gg,w120_3,hw,h8,b1,b2,gx,gy,hi1,hi1',hnn,htn,Uq]
     refine ⟨⟨?_,by omega⟩,ag ?_,⟨i+1,by omega,by simp,o++[(x,y)],_,⟨rfl,by simp [Qd]⟩,hsucc.symm,by simp⟩,by omega⟩
     ·rintro row (⟨a,b,_,rfl⟩ | rfl)<;>rfl
     repeat (first | exact Qa _ _ | refine Qb _ rfl ?_)
   ·have hou:outI Bd s i=[]:=by
     unfold outI;rw [hv,if_neg];intro h;cases h;exact hvt rfl
    rw [hou,List.append_nil] at hsucc
    have hvb:(v==some true)=false:=by simpa using hvt
    rw [hvb] at gg
    simp [h123,h22,hlt,hilt,hg,gg,w120_3,hw]
    refine ⟨ag ?_,⟨i+1,by omega,by simp,o,rt,⟨rfl,rfl⟩,hsucc.symm,hrt⟩,by omega⟩
    repeat (first | exact Qa _ _ | refine Qb _ rfl ?_)
  ·obtain rfl:i=n:=by omega
   rw [<- ho] at hR
   have h116:=Yd o (by omega)
   rw [<- hR] at h116
   rcases hrt with ⟨rfl,rfl,rfl⟩ | ⟨hne,rfl,rfl⟩
   ·simp [h123,h22,w120_3,rs120,Uq]
    exact Yh h116 ⟨Wk.sl _ _,trivial⟩
   ·simp [h123,h22,w120_3,rs120,Uq]
    exact h116
end Go.Proofs.YtjmgelbfndnpjaaGreatDoor
