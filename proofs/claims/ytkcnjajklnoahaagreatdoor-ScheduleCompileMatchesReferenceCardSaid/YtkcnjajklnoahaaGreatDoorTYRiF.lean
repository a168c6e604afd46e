import Derived.Test.YtkcnjajklnoahaaGreatDoorTYRiE
set_option linter.unusedVariables false
set_option linter.unusedSimpArgs false
set_option maxRecDepth 100000
set_option maxHeartbeats 64000000
namespace Go.Proofs.YtkcnjajklnoahaaGreatDoor
open Go Go.Abs
def Qac (item region:Int) (c:Cl):Bool:=cntK c 1 item region||cntK c 2 item region
def edS (C:List Cl):List Int:=C.foldl (fun e c=>Jb (Jb e c.fr) c.to) []
theorem edS_snoc (C:List Cl) (c:Cl):edS (C++[c])=Jb (Jb (edS C) c.fr) c.to:=by simp [edS]
theorem edS_len:∀ C:List Cl,(edS C).length<=2*C.length:=by
 have key:∀ (C:List Cl) (e:List Int),(C.foldl (fun e c=>Jb (Jb e c.fr) c.to) e).length<=e.length+2*C.length:=by
  intro C
  induction C with
  | nil=>intro e;simp
  | cons c C ih =>
   intro e
   have h1:=putS_len e c.fr
   have h2:=putS_len (Jb e c.fr) c.to
   have:=ih (Jb (Jb e c.fr) c.to)
   simp only [List.foldl_cons,List.length_cons];omega
 intro C
 have:=key C []
 rw [List.length_nil,Nat.zero_add] at this
 exact this
theorem putS_mem (x y:Int):∀ l:List Int,y∈Jb l x<->y=x\/y∈l
 | []=>by simp [Jb]
 | a::r=>by
  rw [Jb]
  split
  ·simp only [List.mem_cons,putS_mem x y r]
   constructor
   ·rintro (h | h | h)
    ·exact .inr (.inl h)
    ·exact .inl h
    ·exact .inr (.inr h)
   ·rintro (h | h | h)
    ·exact .inr (.inl h)
    ·exact .inl h
    ·exact .inr (.inr h)
  ·split
   ·rename_i h;subst h
    simp
   ·simp
theorem putS_asc (x:Int):∀ {l:List Int},l.Pairwise (· < ·)->(Jb l x).Pairwise (· < ·)
 | [],_=>by simp [Jb]
 | a::r,h=>by
  obtain ⟨h1,h2⟩:=List.pairwise_cons.1 h
  rw [Jb]
  split
  ·rename_i hax
   refine List.pairwise_cons.2 ⟨fun b hb=>?_,putS_asc x h2⟩
   rcases (putS_mem x b r).1 hb with rfl | hb
   ·exact hax
   ·exact h1 b hb
  ·split
   ·exact h
   ·refine List.pairwise_cons.2 ⟨fun b hb=>?_,h⟩
    rcases List.mem_cons.1 hb with rfl | hb
    ·omega
    ·have:=h1 b hb;omega
theorem edS_all (C:List Cl):(edS C).Pairwise (· < ·)/\∀ y,y∈edS C<->y∈bnd C:=by
 have key:∀ (C:List Cl) (e:List Int),e.Pairwise (· < ·)->(C.foldl (fun e c=>Jb (Jb e c.fr) c.to) e).Pairwise (· < ·)/\∀ y,y∈C.foldl (fun e c=>Jb (Jb e c.fr) c.to) e<->y∈e\/y∈bnd C:=by
  intro C
  induction C with
  | nil=>intro e h;exact ⟨h,fun y=>by simp [bnd]⟩
  | cons c C ih =>
   intro e h
   obtain ⟨i1,i2⟩:=ih _ (putS_asc c.to (putS_asc c.fr h))
   refine ⟨i1,fun y=>?_⟩
   rw [List.foldl_cons,i2,putS_mem,putS_mem,bnd]
   simp only [List.mem_cons]
   constructor
   ·rintro ((h | h | h) | h)
    ·exact .inr (.inr (.inl h))
    ·exact .inr (.inl h)
    ·exact .inl h
    ·exact .inr (.inr (.inr h))
   ·rintro (h | h | h | h)
    ·exact .inl (.inr (.inr h))
    ·exact .inl (.inr (.inl h))
    ·exact .inl (.inl h)
    ·exact .inr h
 obtain ⟨h1,h2⟩:=key C [] .nil
 exact ⟨h1,fun y=>by rw [edS,h2];simp⟩
def Ky (C:List Cl) (Ed:List Int):Nat->List Sp
 | 0=>[]
 | j+1=>if grX C (Ed.getD j 0)=true then Ja (Ky C Ed j) (Ed.getD j 0) (Ed.getD (j+1) 0) else Ky C Ed j
theorem refL_len (C:List Cl) (Ed:List Int):∀ j,(Ky C Ed j).length<=j
 | 0=>by simp [Ky]
 | j+1=>by
  have ih:=refL_len C Ed j
  have:=addA_len (Ky C Ed j) (Ed.getD j 0) (Ed.getD (j+1) 0)
  rw [Ky]
  split<;>omega
def ref6 (cs:List Cl) (item region:Int):List Sp:=Ky (cs.filter (Qac item region)) (edS (cs.filter (Qac item region))) ((edS (cs.filter (Qac item region))).length - 1)
def unIn:List AV->Int
 | [.int _ a]=>a
 | _=>0
@[simp] theorem unIn_in (l:List Int):(l.map Qam).map unIn=l:=by
 induction l with
 | nil=>rfl
 | cons a l ih=>simp only [List.map_cons,ih];rfl
@[simp] theorem unIn_in' (l:List Int):l.map (unIn ∘ Qam)=l:=by rw [<- List.map_map];exact unIn_in l
def orc6 (C:List Cl):Nat->FuncId->List AV->AV:=fun d f l =>
 if f=999999 then (if d=108 then .mobj 0 [] else .junk) else
 if f=100 then (match l with
  | [.agg [.int _ a,.int _ b,.int _ c,.int _ d,.int _ e,.int _ f,.int _ g,.int _ h],.int _ k,.int _ i,.int _ r]=>.bool (cntK ⟨a,b,c,d,e,f,g,h⟩ k i r)
  | _=>.junk) else
 if f=158 then (match l with | [.sl _ rows,.int _ x]=>.sl .ro ((Jb (rows.map unIn) x).map Qam) | _=>.junk) else
 if f=159 then (match l with | [_,.int _ x]=>.bool (grX C x) | _=>.junk) else .junk
def Inv60 (cs:List Cl) (item region:Int) (f:Nat->AV) (mm:AM):Prop:=∃ (i:Nat) (C:List Cl) (rt rt8:Rt) (Lm:List Nat),f 9=I i/\i<=cs.length/\f 7=.sl rt (C.map Qi)/\f 8=.sl rt8 ((edS C).map Qam)/\C=(cs.take i).filter (Qac item region)/\(C=[]/\rt=.nil\/C≠[]/\∃ k,rt=.own k 8/\Lm[k]? = some C.length)/\(rt8=.nil\/rt8=.ro)/\mm=⟨[],Lm,fun _=>.gone,0⟩
def Inv61 (C:List Cl) (Ed:List Int) (Lm:List Nat) (f:Nat->AV) (mm:AM):Prop:=∃ (j:Nat) (bx:List (List AV)),f 11=I j/\j<=Ed.length - 1/\(Ky C Ed j=[]/\f 10=.sl .nil []\/Ky C Ed j≠[]/\∃ k,f 10=.bs k 0 (Ky C Ed j).length 2/\k < bx.length/\Qk bx k=fl2 (Ky C Ed j))/\mm=⟨bx,Lm,fun _=>.gone,0⟩
theorem ref6_pure0 (cs:List Cl) (item region:Int) (hl:cs.length<=1000):∃ rt,Pure Tryz.prog gl0 132 [.sl .ro (cs.map Qi),I item,I region] (.sl rt ((ref6 cs item region).map Qe)):=by
 refine ⟨if ref6 cs item region=[] then .nil else .ro,Ql code132 (orc6 (cs.filter (Qac item region))) (by simp) ?_⟩
 simp [sc132]
 refine Qg w132_0 (Inv60 cs item region) (fun f _=>cs.length - (numOf (f 9)).toNat) ?_ ?_
 ·exact ⟨0,[],.nil,.nil,[],by simp,Nat.zero_le _,by simp,by simp [edS],by simp,.inl ⟨rfl,rfl⟩,.inl rfl,rfl⟩
 ·rintro f mm ⟨i,C,rt,rt8,Lm,h9,hi,h7,h8,hC,hrt,hrt8,rfl⟩
  rcases Nat.lt_or_ge i cs.length with hlt | hge
  ·obtain ⟨c,hc⟩:=getS hlt
   have hrow:Qk (cs.map Qi) i=Qi c:=Qv (by simp [hc])
   have hilt:(i:Int) < (cs.length:Int):=by omega
   have hw:=wrS i (by omega)
   have k1:=counts_pure c 1 item region
   have k2:=counts_pure c 2 item region
   have hCs:(cs.take (i+1)).filter (Qac item region)=C++if Qac item region c=true then [c] else []:=by
    rw [List.take_add_one,hc,List.filter_append,hC]
    simp only [Option.toList,List.filter_cons,List.filter_nil]
   have hCl:C.length<=i:=by rw [hC];exact Nat.le_trans (List.length_filter_le _ _) (by rw [List.length_take];omega)
   have hEl:=edS_len C
   have hpl:=putS_len (edS C) c.fr
   have p1:=put_pure (edS C) c.fr (by omega)
   have p2:=put_pure (Jb (edS C) c.fr) c.to (by omega)
   by_cases hcn:Qac item region c=true
   ·rw [if_pos hcn] at hCs
    have p1n:=Qz (l:=[.sl .nil ((edS C).map Qam),I c.fr]) p1 ⟨Wk.sl _ _,Wk.refl _,trivial⟩
    have hE:=edS_snoc C c
    have hC8:∀ row:List AV,((∃ a,a∈C/\Qi a=row)\/row=[I c.ki,I c.it,I c.fr,I c.to,I c.re,I c.n,I c.a,I c.b])->row.length=8:=by
     rintro row (⟨a,_,rfl⟩ | rfl)<;>rfl
    have hce:(⟨c.ki,c.it,c.fr,c.to,c.re,c.n,c.a,c.b⟩:Cl)=c:=rfl
    clear hC
    cases e1:cntK c 1 item region with
    | true =>
     rw [e1] at k1
     simp only [Qi] at k1
     rcases hrt with ⟨g1,rfl⟩ | ⟨g1,k,rfl,hk⟩
     ·subst g1
      simp only [List.nil_append] at hCs
      rcases hrt8 with rfl | rfl
      ·simp [h9,h7,h8,w132_0,hlt,hilt,hrow,Qi,orc6,hce,e1,hw]
       refine ⟨k1,p1n,p2,ag ?_,⟨i+1,[c],.own Lm.length 8,.ro,Lm++[1],by simp,by omega,by simp [Qi],by simp [edS],hCs.symm,.inr ⟨by simp,_,rfl,by simp⟩,.inr rfl,rfl⟩,by omega⟩
       repeat (first | exact Qb _ _ | refine Qc _ rfl ?_)
      ·simp [h9,h7,h8,w132_0,hlt,hilt,hrow,Qi,orc6,hce,e1,hw]
       refine ⟨k1,p1,p2,ag ?_,⟨i+1,[c],.own Lm.length 8,.ro,Lm++[1],by simp,by omega,by simp [Qi],by simp [edS],hCs.symm,.inr ⟨by simp,_,rfl,by simp⟩,.inr rfl,rfl⟩,by omega⟩
       repeat (first | exact Qb _ _ | refine Qc _ rfl ?_)
     ·rcases hrt8 with rfl | rfl
      ·simp [h9,h7,h8,w132_0,hlt,hilt,hrow,Qi,orc6,hce,e1,hw,hk]
       refine ⟨k1,⟨hC8,by omega⟩,p1n,p2,ag ?_,⟨i+1,C++[c],.own k 8,.ro,Lm.set k (C.length+1),by simp,by omega,by simp [Qi],by rw [hE];simp,hCs.symm,.inr ⟨by simp,k,rfl,by simp [(List.getElem?_eq_some_iff.1 hk).1]⟩,.inr rfl,rfl⟩,by omega⟩
       repeat (first | exact Qb _ _ | refine Qc _ rfl ?_)
      ·simp [h9,h7,h8,w132_0,hlt,hilt,hrow,Qi,orc6,hce,e1,hw,hk]
       refine ⟨k1,⟨hC8,by omega⟩,p1,p2,ag ?_,⟨i+1,C++[c],.own k 8,.ro,Lm.set k (C.length+1),by simp,by omega,by simp [Qi],by rw [hE];simp,hCs.symm,.inr ⟨by simp,k,rfl,by simp [(List.getElem?_eq_some_iff.1 hk).1]⟩,.inr rfl,rfl⟩,by omega⟩
       repeat (first | exact Qb _ _ | refine Qc _ rfl ?_)
    | false =>
     have e2:cntK c 2 item region=true:=by simpa [Qac,e1] using hcn
     rw [e1] at k1
     rw [e2] at k2
     simp only [Qi] at k1 k2
     rcases hrt with ⟨g1,rfl⟩ | ⟨g1,k,rfl,hk⟩
     ·subst g1
      simp only [List.nil_append] at hCs
      rcases hrt8 with rfl | rfl
      ·simp [h9,h7,h8,w132_0,hlt,hilt,hrow,Qi,orc6,hce,e1,e2,hw]
       refine ⟨k1,k2,p1n,p2,ag ?_,⟨i+1,[c],.own Lm.length 8,.ro,Lm++[1],by simp,by omega,by simp [Qi],by simp [edS],hCs.symm,.inr ⟨by simp,_,rfl,by simp⟩,.inr rfl,rfl⟩,by omega⟩
       repeat (first | exact Qb _ _ | refine Qc _ rfl ?_)
      ·simp [h9,h7,h8,w132_0,hlt,hilt,hrow,Qi,orc6,hce,e1,e2,hw]
       refine ⟨k1,k2,p1,p2,ag ?_,⟨i+1,[c],.own Lm.length 8,.ro,Lm++[1],by simp,by omega,by simp [Qi],by simp [edS],hCs.symm,.inr ⟨by simp,_,rfl,by simp⟩,.inr rfl,rfl⟩,by omega⟩
       repeat (first | exact Qb _ _ | refine Qc _ rfl ?_)
     ·rcases hrt8 with rfl | rfl
      ·simp [h9,h7,h8,w132_0,hlt,hilt,hrow,Qi,orc6,hce,e1,e2,hw,hk]
       refine ⟨k1,k2,⟨hC8,by omega⟩,p1n,p2,ag ?_,⟨i+1,C++[c],.own k 8,.ro,Lm.set k (C.length+1),by simp,by omega,by simp [Qi],by rw [hE];simp,hCs.symm,.inr ⟨by simp,k,rfl,by simp [(List.getElem?_eq_some_iff.1 hk).1]⟩,.inr rfl,rfl⟩,by omega⟩
       repeat (first | exact Qb _ _ | refine Qc _ rfl ?_)
      ·simp [h9,h7,h8,w132_0,hlt,hilt,hrow,Qi,orc6,hce,e1,e2,hw,hk]
       refine ⟨k1,k2,⟨hC8,by omega⟩,p1,p2,ag ?_,⟨i+1,C++[c],.own k 8,.ro,Lm.set k (C.length+1),by simp,by omega,by simp [Qi],by rw [hE];simp,hCs.symm,.inr ⟨by simp,k,rfl,by simp [(List.getElem?_eq_some_iff.1 hk).1]⟩,.inr rfl,rfl⟩,by omega⟩
       repeat (first | exact Qb _ _ | refine Qc _ rfl ?_)
   ·rw [if_neg hcn,List.append_nil] at hCs
    have e1:cntK c 1 item region=false:=by simp [Qac] at hcn;exact hcn.1
    have e2:cntK c 2 item region=false:=by simp [Qac] at hcn;exact hcn.2
    rw [e1] at k1;rw [e2] at k2
    simp only [Qi] at k1 k2
    have hce:(⟨c.ki,c.it,c.fr,c.to,c.re,c.n,c.a,c.b⟩:Cl)=c:=rfl
    simp [h9,h7,h8,w132_0,hlt,hilt,hrow,Qi,orc6,hce,e1,e2,hw]
    refine ⟨k1,k2,ag ?_,⟨i+1,C,rt,rt8,Lm,by simp,by omega,by simp [h7],by simp [h8],hCs.symm,hrt,hrt8,rfl⟩,by omega⟩
    repeat (first | exact Qb _ _ | refine Qc _ rfl ?_)
  ·obtain rfl:i=cs.length:=by omega
   rw [List.take_length] at hC
   subst hC
   have hR:ref6 cs item region=Ky (cs.filter (Qac item region)) (edS (cs.filter (Qac item region))) ((edS (cs.filter (Qac item region))).length - 1):=rfl
   rw [hR]
   have hCl:(cs.filter (Qac item region)).length<=1000:=Nat.le_trans (List.length_filter_le _ _) hl
   generalize cs.filter (Qac item region)=C at *
   have hEl:=edS_len C
   obtain ⟨hasc,_⟩:=edS_all C
   have hnl:¬ cs.length < cs.length:=by omega
   have main:∀ (rt8':Rt) (rtc:Rt),True->True:=fun _ _ _=>trivial
   obtain ⟨Ed,hEd⟩:∃ Ed,edS C=Ed:=⟨_,rfl⟩
   rw [hEd] at h8 hEl hasc
   rw [hEd]
   have w1:IntKind.i64.wrap 1=1:=by rw [Qh]<;>omega
   simp [h9,h7,h8,w132_0]
   refine Qg w132_1 (Inv61 C Ed Lm) (fun f _=>Ed.length - (numOf (f 11)).toNat) ?_ ?_
   ·exact ⟨0,[],by simp,Nat.zero_le _,.inl ⟨rfl,by simp⟩,rfl⟩
   ·rintro g mm ⟨j,bx,g11,hj,hL,rfl⟩
    have hw1:=wrS j (by omega)
    have hLl:=refL_len C Ed j
    by_cases hlt:j+1 < Ed.length
    ·obtain ⟨u,hu⟩:∃ u,Ed[j]? = some u:=⟨_,List.getElem?_eq_getElem (by omega)⟩
     obtain ⟨w,hwv⟩:∃ w,Ed[j+1]? = some w:=⟨_,List.getElem?_eq_getElem hlt⟩
     have huw:u < w:=by
      have:=List.pairwise_iff_getElem.1 hasc j (j+1) (by omega) hlt (by omega)
      rwa [(List.getElem?_eq_some_iff.1 hu).2,(List.getElem?_eq_some_iff.1 hwv).2] at this
     have hru:=rowN_in hu
     have hrw:=rowN_in hwv
     have hlt':(j:Int)+1 < (Ed.length:Int):=by omega
     have hjl:j < Ed.length:=by omega
     have hs:Ky C Ed (j+1)=if grX C u=true then Ja (Ky C Ed j) u w else Ky C Ed j:=by rw [Ky,Jv hu,Jv hwv]
     have kg:=granted_pure C u (by omega)
     obtain ⟨k,rfl⟩:∃ k,rt=.own k 8:=by
      rcases hrt with ⟨g1,_⟩ | ⟨_,k,h,_⟩
      ·rw [g1] at hEl;simp at hEl;rw [hEl] at hlt;simp at hlt
      ·exact ⟨k,h⟩
     cases hgr:grX C u with
     | false =>
      rw [hgr] at kg hs
      simp only [Bool.false_eq_true,if_false] at hs
      simp [g11,w132_1,h7,h8,hlt,hlt',hjl,hru,hw1,orc6,hgr]
      refine ⟨kg,ag ?_,⟨j+1,bx,by simp,by omega,by rw [hs];simpa using hL,rfl⟩,by omega⟩
      repeat (first | exact Qb _ _ | refine Qc _ rfl ?_)
     | true =>
      rw [hgr] at kg hs
      simp only [if_true] at hs
      rcases hL with ⟨hL0,g10⟩ | ⟨hL1,kb,g10,hkb,hrow⟩
      ·rw [hL0] at hs
       have ha:Ja [] u w=[(u,w)]:=by simp [Ja,huw]
       rw [ha] at hs
       simp [g11,g10,w132_1,h7,h8,hlt,hlt',hjl,hru,hrw,hw1,orc6,hgr]
       refine ⟨kg,by omega,ag ?_,⟨j+1,bx++[[I u,I w]],by simp,by omega,.inr ⟨by rw [hs];simp,bx.length,by rw [hs];simp,by simp,by rw [hs];simp⟩,rfl⟩,by omega⟩
       repeat (first | exact Qb _ _ | refine Qc _ rfl ?_)
      ·obtain ⟨A,s,hA⟩:∃ A s,Ky C Ed j=A++[s]:=⟨(Ky C Ed j).dropLast,(Ky C Ed j).getLast hL1,(List.dropLast_concat_getLast hL1).symm⟩
       rw [hA] at hs g10 hrow hLl
       have ha:Ja (A++[s]) u w=if s.2=u then A++[(s.1,w)] else A++[s]++[(u,w)]:=by simp [Ja,huw]
       rw [ha] at hs
       have hgt:(A++[s])[A.length]? = some s:=by simp
       have g0:=Qcs hgt
       have g1:=fl2_get1 hgt
       have hln:(A++[s]).length=A.length+1:=by simp
       rw [hln] at g10 hLl
       have hwA:IntKind.i64.wrap (A.length:Int)=(A.length:Int):=by rw [Qh]<;>omega
       have gl:(fl2 (A++[s])).length=A.length*2+2:=by rw [Zv,hln];omega
       have hR2:fl2 (A++[s]++[(u,w)])=fl2 (A++[s])++[I u,I w]:=by rw [Jw];rfl
       have hR1:(fl2 (A++[s])).set (A.length*2+1) (I w)=fl2 (A++[(s.1,w)]):=by rw [Qbx _ _ s _ hgt];simp
       generalize hR:fl2 (A++[s])=R at *
       by_cases hsu:s.2=u
       ·rw [if_pos hsu] at hs
        simp [g11,g10,w132_1,h7,h8,hlt,hlt',hjl,hru,hrw,hw1,hwA,orc6,hgr,hrow,g0,g1,gl,hkb,hsu]
        refine ⟨kg,by omega,by omega,by omega,ag ?_,⟨j+1,bx.set kb (R.set (A.length*2+1) (I w)),by simp,by omega,.inr ⟨by rw [hs];simp,kb,by rw [hs];simp [g10],by simpa using hkb,by rw [Yg _ hkb,hs];exact hR1⟩,rfl⟩,by omega⟩
        repeat (first | exact Qb _ _ | refine Qc _ rfl ?_)
       ·rw [if_neg hsu] at hs
        simp [g11,g10,w132_1,h7,h8,hlt,hlt',hjl,hru,hrw,hw1,hwA,orc6,hgr,hrow,g0,g1,gl,hkb,hsu]
        have hRt:List.take ((A.length+1)*2) R=R:=List.take_of_length_le (by omega)
        have hRne:¬ R=[]:=by rintro rfl;simp at gl
        simp only [hRt]
        refine ⟨kg,by omega,by omega,⟨⟨hRne,by omega⟩,by omega⟩,ag ?_,⟨j+1,bx.set kb []++[R++[I u,I w]],by simp,by omega,.inr ⟨by rw [hs];simp,bx.length,by rw [hs];simp,by simp,?_⟩,rfl⟩,by omega⟩
        ·repeat (first | exact Qb _ _ | refine Qc _ rfl ?_)
        ·have:=Zf (bx.set kb []) [R++[I u,I w]] 0
         rw [List.length_set] at this
         rw [hs,hR2];simpa using this
    ·have hjE:j=Ed.length - 1:=by omega
     have hlt':¬ (j:Int)+1 < (Ed.length:Int):=by omega
     rw [<- hjE]
     rcases hL with ⟨hL0,g10⟩ | ⟨hL1,kb,g10,hkb,hrow⟩
     ·simp [g11,g10,w132_1,w132_0,h7,h8,hlt,hlt',hw1,rs132,hL0]
     ·have hcv:=Ki ⟨bx,Lm,fun _=>.gone,0⟩ 4 (fl2_ok (Ky C Ed j))
      have hch:=Kl (Ky C Ed j)
      have hfl:=Zv (Ky C Ed j)
      simp [g11,g10,w132_1,w132_0,h7,h8,hlt,hlt',hw1,rs132,hL1,hrow,hcv,hch,hfl,hkb]
end Go.Proofs.YtkcnjajklnoahaaGreatDoor
