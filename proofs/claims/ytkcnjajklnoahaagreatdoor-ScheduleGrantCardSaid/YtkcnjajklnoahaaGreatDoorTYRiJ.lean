import Derived.Test.YtkcnjajklnoahaaGreatDoorTYSaI
set_option linter.unusedVariables false
set_option linter.unusedSimpArgs false
set_option maxRecDepth 100000
set_option maxHeartbeats 64000000
namespace Go.Proofs.YtkcnjajklnoahaaGreatDoor
open Go Go.Abs
def orc7 (p:Pl):Nat->FuncId->List AV->AV:=fun d f l =>
 if f=999999 then (if d=84 then .mobj 0 [] else .junk) else
 if f=101 then .bool (Zl p) else
 if f=102 then (match l with | [_,.int _ n]=>I (Xz p.nu p.de n) | _=>.junk) else
 if f=71 then (match l with | [_,.int _ n]=>I (Yu p.nu p.de n) | _=>.junk) else
 if f=103 then (match l with | [_,.int _ a,.int _ b,.int _ c]=>.bool (We p a b c) | _=>.junk) else .junk
def Inv7 (p:Pl) (item region first last:Int) (g:Nat->AV) (mm:AM):Prop:=∃ (f:Int) (L:List Sp) (B:List (List AV)),g 12=I f/\first<=f/\f<=last/\UpTo p item region first f L/\(L=[]/\g 11=.sl .nil []\/L≠[]/\∃ k,g 11=.bs k 0 L.length 2/\2<=k/\k < B.length/\Qk B k=fl2 L)/\2<=B.length/\Qk B 0=Qa p/\mm=⟨B,[],fun _=>.gone,0⟩
theorem spans7_pure0 (p:Pl) (item region:Int) (s:Sp) (hc:p.cls.length<=1000) (hsh:p.sh.length<=1000000000) (hit:p.its.length<=1000000000) (hs:s.2 - s.1<=1000000) (hb : -9223372036854775808<=s.1/\s.2<=9223372036854775807) :
  ∃ rt,Pure Tryz.prog gl0 74 [.agg (Qa p),I item,I region,.agg [I s.1,I s.2]] (.sl rt ((Xn p item region s).map Qe)):=by
 obtain ⟨c0,c1,_⟩:=clip_ok s
 have cl:(Vx s).2 - (Vx s).1<=1000000:=by simp only [Vx];omega
 have hmx:(if s.1 < 0 then 0 else s.1)=(Vx s).1:=by simp only [Vx];omega
 have hmn:(if 100000001 < s.2 then 100000001 else s.2)=(Vx s).2:=by simp only [Vx];omega
 have hE:∀ L,UpTo p item region (Vx s).1 (Vx s).2 L->L=Xn p item region s:=fun L h=>h.eq hs
 have hN:(Vx s).2<=(Vx s).1->Xn p item region s=[]:=by
  intro h
  unfold Xn
  simp only
  cases Qy item p.its with
  | none=>rfl
  | some x=>exact if_pos (.inr (.inr (.inl h)))
 generalize Vx s=c at *
 by_cases hle:c.2<=c.1
 ·have hP:=hN hle
  rw [hP]
  refine ⟨.nil,Ql code74 (orc7 p) (by simp) ?_⟩
  simp [sc74,rs74,Qa,hmx,hmn,hle]
 ·refine ⟨if Xn p item region s=[] then .nil else .ro,Ql code74 (orc7 p) (by simp) ?_⟩
  have hw0:IntKind.i64.wrap (c.2 - c.1)=c.2 - c.1:=by rw [Qh]<;>omega
  have hle2:¬ 1000000 < c.2 - c.1:=by omega
  simp [sc74,Qa,hmx,hmn,hle,hw0,hle2]
  refine Qg w74_0 (Inv7 p item region c.1 c.2) (fun g _=>(c.2 - numOf (g 12)).toNat) ?_ ?_
  ·refine ⟨c.1,[],_,by simp,Int.le_refl _,by omega,⟨Wo,fun _ h=>(by cases h),fun x=>?_,by simp⟩,.inl ⟨rfl,by simp⟩,?_,?_,rfl⟩
   ·simp only [Vt,false_iff];rintro ⟨h1,h2,_⟩;omega
   ·simp
   ·simp [Qa]
  ·rintro g mm ⟨f,L,B,g12,f1,f2,hU,hL,hB2,hB0,rfl⟩
   have hU':=hU
   obtain ⟨_,_,_,hLl⟩:=hU'
   have hB0':=hB0
   simp only [Qa] at hB0'
   by_cases hlt:f < c.2
   ·have hst:=hU.step c1 c0 f1 hlt
    obtain ⟨e1,e2,_⟩:=endF_ok (p:=p) c1 (by omega) hlt
    have k76:=timed7_pure p hsh
    have k79:=perm7_pure p item region f hc hsh hit
    have k78:=rsecs_pure p.nu p.de f
    have k77:=rfrms_pure p.nu p.de (Xz p.nu p.de f+1)
    have hsb:=Qba p.nu p.de f
    have hws:IntKind.i64.wrap (Xz p.nu p.de f+1)=Xz p.nu p.de f+1:=by rw [Qh]<;>omega
    cases ht:Zl p with
    | false =>
     have hend:endF p c.2 f=c.2:=by rw [endF,ht];rfl
     rw [hend] at hst e1 e2
     rw [ht] at k76
     generalize hen:c.2=en at *
     cases hpm:We p item region f with
     | false =>
      rw [hpm] at hst k79
      simp only [Bool.false_eq_true,if_false] at hst
      rcases hL with ⟨hL0,g11⟩ | ⟨hL1,kb,g11,hk2,hkb,hrow⟩
      ·simp [g12,g11,w74_0,hlt,hB0',orc7,ht,hpm]
       refine ⟨k76,k79,ag ?_,en,L,B,by simp,by omega,e2,hst,.inl ⟨hL0,by simp [g11]⟩,hB2,hB0,rfl⟩
       repeat (first | exact Qb _ _ | refine Qc _ rfl ?_)
      ·simp [g12,g11,w74_0,hlt,hB0',orc7,ht,hpm]
       refine ⟨k76,k79,ag ?_,en,L,B,by simp,by omega,e2,hst,.inr ⟨hL1,kb,by simp [g11],hk2,hkb,hrow⟩,hB2,hB0,rfl⟩
       repeat (first | exact Qb _ _ | refine Qc _ rfl ?_)
     | true =>
      rw [hpm] at hst k79
      simp only [if_true] at hst
      rcases hL with ⟨hL0,g11⟩ | ⟨hL1,kb,g11,hk2,hkb,hrow⟩
      ·rw [hL0] at hst
       have ha:Ja [] f en=[(f,en)]:=by simp [Ja,e1]
       rw [ha] at hst
       simp [g12,g11,w74_0,hlt,hB0',orc7,ht,hpm]
       refine ⟨k76,k79,ag ?_,en,[(f,en)],B++[[I f,I en]],by simp,by omega,e2,hst,.inr ⟨by simp,B.length,by simp,hB2,by simp,by simp⟩,by simp;omega,by rw [Qm (by omega)];exact hB0,rfl⟩
       repeat (first | exact Qb _ _ | refine Qc _ rfl ?_)
      ·obtain ⟨A,t,rfl⟩:∃ A t,L=A++[t]:=⟨L.dropLast,L.getLast hL1,(List.dropLast_concat_getLast hL1).symm⟩
       have ha:Ja (A++[t]) f en=if t.2=f then A++[(t.1,en)] else A++[t]++[(f,en)]:=by simp [Ja,e1]
       rw [ha] at hst
       have hgt:(A++[t])[A.length]? = some t:=by simp
       have g0:=Qcs hgt
       have g1:=fl2_get1 hgt
       have hln:(A++[t]).length=A.length+1:=by simp
       rw [hln] at g11 hLl
       have hwA:IntKind.i64.wrap (A.length:Int)=(A.length:Int):=by rw [Qh]<;>omega
       have gl:(fl2 (A++[t])).length=A.length*2+2:=by rw [Zv,hln];omega
       have hR2:fl2 (A++[t]++[(f,en)])=fl2 (A++[t])++[I f,I en]:=by rw [Jw];rfl
       have hR1:(fl2 (A++[t])).set (A.length*2+1) (I en)=fl2 (A++[(t.1,en)]):=by rw [Qbx _ _ t _ hgt];simp
       generalize hR:fl2 (A++[t])=R at *
       by_cases hsu:t.2=f
       ·rw [if_pos hsu] at hst
        simp [g12,g11,w74_0,hlt,hB0',orc7,ht,hpm,hwA,hrow,g0,g1,gl,hkb,hsu]
        refine ⟨k76,k79,by omega,ag ?_,en,A++[(t.1,en)],B.set kb (R.set (A.length*2+1) (I en)),by simp,by omega,e2,hst,.inr ⟨by simp,kb,by simp [g11],hk2,by simpa using hkb,by rw [Yg _ hkb];exact hR1⟩,by simpa using hB2,by rw [Yk _ (by omega)];exact hB0,rfl⟩
        repeat (first | exact Qb _ _ | refine Qc _ rfl ?_)
       ·rw [if_neg hsu] at hst
        simp [g12,g11,w74_0,hlt,hB0',orc7,ht,hpm,hwA,hrow,g0,g1,gl,hkb,hsu]
        have hRt:List.take ((A.length+1)*2) R=R:=List.take_of_length_le (by omega)
        have hRne:¬ R=[]:=by rintro rfl;simp at gl
        simp only [hRt]
        refine ⟨k76,k79,by omega,⟨⟨hRne,by omega⟩,by omega⟩,ag ?_,en,A++[t]++[(f,en)],B.set kb []++[R++[I f,I en]],by simp,by omega,e2,hst,.inr ⟨by simp,B.length,by simp,hB2,by simp,?_⟩,by simp;omega,by rw [Qm (by simp;omega),Yk _ (by omega)];exact hB0,rfl⟩
        ·repeat (first | exact Qb _ _ | refine Qc _ rfl ?_)
        ·have:=Zf (B.set kb []) [R++[I f,I en]] 0
         rw [List.length_set] at this
         rw [hR2];simpa using this
    | true =>
     have hend:endF p c.2 f=min c.2 (Yu p.nu p.de (Xz p.nu p.de f+1)):=by rw [endF,ht];rfl
     have hmin:(if Yu p.nu p.de (Xz p.nu p.de f+1) < c.2 then Yu p.nu p.de (Xz p.nu p.de f+1) else c.2)=endF p c.2 f:=by rw [hend];omega
     rw [ht] at k76
     clear hend
     generalize hEn:endF p c.2 f=en at *
     cases hpm:We p item region f with
     | false =>
      rw [hpm] at hst k79
      simp only [Bool.false_eq_true,if_false] at hst
      rcases hL with ⟨hL0,g11⟩ | ⟨hL1,kb,g11,hk2,hkb,hrow⟩
      ·simp [g12,g11,w74_0,hlt,hB0',orc7,ht,hws,hmin,hpm]
       refine ⟨k76,k78,k77,k79,ag ?_,⟨en,L,B,by simp,by omega,e2,hst,.inl ⟨hL0,by simp [g11]⟩,hB2,hB0,rfl⟩,by omega⟩
       repeat (first | exact Qb _ _ | refine Qc _ rfl ?_)
      ·simp [g12,g11,w74_0,hlt,hB0',orc7,ht,hws,hmin,hpm]
       refine ⟨k76,k78,k77,k79,ag ?_,⟨en,L,B,by simp,by omega,e2,hst,.inr ⟨hL1,kb,by simp [g11],hk2,hkb,hrow⟩,hB2,hB0,rfl⟩,by omega⟩
       repeat (first | exact Qb _ _ | refine Qc _ rfl ?_)
     | true =>
      rw [hpm] at hst k79
      simp only [if_true] at hst
      rcases hL with ⟨hL0,g11⟩ | ⟨hL1,kb,g11,hk2,hkb,hrow⟩
      ·rw [hL0] at hst
       have ha:Ja [] f en=[(f,en)]:=by simp [Ja,e1]
       rw [ha] at hst
       simp [g12,g11,w74_0,hlt,hB0',orc7,ht,hws,hmin,hpm]
       refine ⟨k76,k78,k77,k79,ag ?_,⟨en,[(f,en)],B++[[I f,I en]],by simp,by omega,e2,hst,.inr ⟨by simp,B.length,by simp,hB2,by simp,by simp⟩,by simp;omega,by rw [Qm (by omega)];exact hB0,rfl⟩,by omega⟩
       repeat (first | exact Qb _ _ | refine Qc _ rfl ?_)
      ·obtain ⟨A,t,rfl⟩:∃ A t,L=A++[t]:=⟨L.dropLast,L.getLast hL1,(List.dropLast_concat_getLast hL1).symm⟩
       have ha:Ja (A++[t]) f en=if t.2=f then A++[(t.1,en)] else A++[t]++[(f,en)]:=by simp [Ja,e1]
       rw [ha] at hst
       have hgt:(A++[t])[A.length]? = some t:=by simp
       have g0:=Qcs hgt
       have g1:=fl2_get1 hgt
       have hln:(A++[t]).length=A.length+1:=by simp
       rw [hln] at g11 hLl
       have hwA:IntKind.i64.wrap (A.length:Int)=(A.length:Int):=by rw [Qh]<;>omega
       have gl:(fl2 (A++[t])).length=A.length*2+2:=by rw [Zv,hln];omega
       have hR2:fl2 (A++[t]++[(f,en)])=fl2 (A++[t])++[I f,I en]:=by rw [Jw];rfl
       have hR1:(fl2 (A++[t])).set (A.length*2+1) (I en)=fl2 (A++[(t.1,en)]):=by rw [Qbx _ _ t _ hgt];simp
       generalize hR:fl2 (A++[t])=R at *
       by_cases hsu:t.2=f
       ·rw [if_pos hsu] at hst
        simp [g12,g11,w74_0,hlt,hB0',orc7,ht,hws,hmin,hpm,hwA,hrow,g0,g1,gl,hkb,hsu]
        refine ⟨k76,k78,k77,k79,by omega,ag ?_,⟨en,A++[(t.1,en)],B.set kb (R.set (A.length*2+1) (I en)),by simp,by omega,e2,hst,.inr ⟨by simp,kb,by simp [g11],hk2,by simpa using hkb,by rw [Yg _ hkb];exact hR1⟩,by simpa using hB2,by rw [Yk _ (by omega)];exact hB0,rfl⟩,by omega⟩
        repeat (first | exact Qb _ _ | refine Qc _ rfl ?_)
       ·rw [if_neg hsu] at hst
        simp [g12,g11,w74_0,hlt,hB0',orc7,ht,hws,hmin,hpm,hwA,hrow,g0,g1,gl,hkb,hsu]
        have hRt:List.take ((A.length+1)*2) R=R:=List.take_of_length_le (by omega)
        have hRne:¬ R=[]:=by rintro rfl;simp at gl
        simp only [hRt]
        refine ⟨k76,k78,k77,k79,by omega,⟨⟨hRne,by omega⟩,by omega⟩,ag ?_,⟨en,A++[t]++[(f,en)],B.set kb []++[R++[I f,I en]],by simp,by omega,e2,hst,.inr ⟨by simp,B.length,by simp,hB2,by simp,?_⟩,by simp;omega,by rw [Qm (by simp;omega),Yk _ (by omega)];exact hB0,rfl⟩,by omega⟩
        ·repeat (first | exact Qb _ _ | refine Qc _ rfl ?_)
        ·have:=Zf (B.set kb []) [R++[I f,I en]] 0
         rw [List.length_set] at this
         rw [hR2];simpa using this
   ·obtain rfl:f=c.2:=by omega
    have hR:=hE L hU
    rw [<- hR]
    rcases hL with ⟨hL0,g11⟩ | ⟨hL1,kb,g11,hk2,hkb,hrow⟩
    ·simp [g12,g11,w74_0,rs74,hL0]
    ·have hcv:=Ki ⟨B,[],fun _=>.gone,0⟩ 4 (fl2_ok L)
     have hch:=Kl L
     have hfl:=Zv L
     simp [g12,g11,w74_0,rs74,hL1,hrow,hcv,hch,hfl,hkb]
theorem spans7_pure (p:Pl) (item region:Int) (s:Sp) (hc:p.cls.length<=1000) (hsh:p.sh.length<=1000000000) (hit:p.its.length<=1000000000) (hs:s.2 - s.1<=1000000) (hb : -9223372036854775808<=s.1/\s.2<=9223372036854775807) :
  Pure Tryz.prog gl0 74 [.agg (Qa p),I item,I region,.agg [I s.1,I s.2]] (.sl .ro ((Xn p item region s).map Qe)):=by
 obtain ⟨rt,h⟩:=spans7_pure0 p item region s hc hsh hit hs hb
 exact Vg h (Wk.sl _ _)
end Go.Proofs.YtkcnjajklnoahaaGreatDoor
