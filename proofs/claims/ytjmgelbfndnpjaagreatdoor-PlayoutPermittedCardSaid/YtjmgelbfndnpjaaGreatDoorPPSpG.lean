import Derived.Test.YtjmgelbfndnpjaaGreatDoorPPSpF
set_option linter.unusedVariables false
set_option linter.unusedSimpArgs false
set_option maxRecDepth 100000
set_option maxHeartbeats 64000000
namespace Go.Proofs.YtjmgelbfndnpjaaGreatDoor
open Go Go.Abs
instance:DecidableEq Cl:=fun x y=>decidable_of_iff (x.ki=y.ki/\x.it=y.it/\x.fr=y.fr/\x.to=y.to/\x.re=y.re/\x.n=y.n/\x.a=y.a/\x.b=y.b) (by cases x;cases y;simp)
def wi (n lo hi:Int):Bool:=decide (lo<=n/\n<=hi)
theorem Zp (n lo hi:Int):Pure Tryz.prog gl0 101 [I n,I lo,I hi] (.bool (wi n lo hi)):=by
 refine Qn code101 (fun _ _ _=>.junk) (by simp) ?_
 by_cases h1:lo<=n<;>by_cases h2:n<=hi<;>simp [sc101,rs101,wi,h1,h2]
def usedC (c:Cl):Cl :=
 if c.ki=1\/c.ki=2 then ⟨c.ki,c.it,c.fr,c.to,c.re,0,0,0⟩ else if c.ki=3\/c.ki=4 then ⟨c.ki,c.it,0,0,c.re,c.n,0,0⟩ else
 if c.ki=5 then ⟨c.ki,0,0,0,0,c.n,c.a,c.b⟩ else if c.ki=6 then ⟨c.ki,0,c.fr,c.to,0,0,c.a,0⟩ else ⟨0,0,0,0,0,0,0,0⟩
theorem used_pure (c:Cl):Pure Tryz.prog gl0 99 [.agg (Qq c)] (.agg (Qq (usedC c))):=by
 refine Qn code99 (fun _ _ _=>.junk) (by simp) ?_
 by_cases h1:c.ki=1
 ·simp [sc99,rs99,Qq,usedC,h1]
 ·by_cases h2:c.ki=2
  ·simp [sc99,rs99,Qq,usedC,h2]
  ·by_cases h3:c.ki=3
   ·simp [sc99,rs99,Qq,usedC,h3]
   ·by_cases h4:c.ki=4
    ·simp [sc99,rs99,Qq,usedC,h4]
    ·by_cases h5:c.ki=5
     ·simp [sc99,rs99,Qq,usedC,h5]
     ·by_cases h6:c.ki=6
      ·simp [sc99,rs99,Qq,usedC,h6]
      ·simp [sc99,rs99,Qq,usedC,h1,h2,h3,h4,h5,h6]
def Yk (c:Cl):Bool:=wi c.it 1 4611686018427387903&&wi c.re 1 255
def orcW:Nat->FuncId->List AV->AV:=fun _ _ l=>match l with
 | [.int _ n,.int _ lo,.int _ hi]=>.bool (wi n lo hi)
 | _=>.junk
theorem isItem_pure (c:Cl):Pure Tryz.prog gl0 100 [.agg (Qq c)] (.bool (Yk c)):=by
 have h1:=Zp c.it 1 4611686018427387903
 have h2:=Zp c.re 1 255
 refine Qn code100 orcW (by simp) ?_
 cases e1:wi c.it 1 4611686018427387903 with
 | false=>rw [e1] at h1;simp [sc100,rs100,Qq,orcW,Yk,e1];exact h1
 | true=>rw [e1] at h1;simp [sc100,rs100,Qq,orcW,Yk,e1];exact ⟨h1,h2⟩
def Ui (n:Int):Bool:=wi n 0 86340&&decide (n.tmod 60=0)
theorem isTime_pure (n:Int):Pure Tryz.prog gl0 102 [I n] (.bool (Ui n)):=by
 have h1:=Zp n 0 86340
 refine Qn code102 orcW (by simp) ?_
 cases e1:wi n 0 86340 with
 | false=>rw [e1] at h1;simp [sc102,rs102,orcW,Ui,e1];exact h1
 | true =>
  rw [e1] at h1
  by_cases e2:n.tmod 60=0<;>simp [sc102,rs102,orcW,Ui,e1,e2]<;>exact h1
def Jh (c:Cl):Bool :=
 if c.ki=1\/c.ki=2 then Yk c&&(decide (0<=c.fr)&&(decide (c.fr < c.to)&&decide (c.to<=10000000000))) else if c.ki=3 then Yk c&&wi c.n 0 1000 else
 if c.ki=4 then Yk c&&wi c.n 0 10000000000 else if c.ki=5 then wi c.a 1 200&&(wi c.b 1 200&&(decide (c.a≠c.b)&&wi c.n 0 86400)) else
 if c.ki=6 then wi c.a 1 3&&(Ui c.fr&&(Ui c.to&&decide (c.fr≠c.to))) else false
def Xt (c:Cl):Bool:=decide (usedC c=c)&&Jh c
theorem eqCl (c u:Cl):eqFs [I c.ki,I c.it,I c.fr,I c.to,I c.re,I c.n,I c.a,I c.b] [I u.ki,I u.it,I u.fr,I u.to,I u.re,I u.n,I u.a,I u.b]=decide (u=c):=by
 obtain ⟨a1,a2,a3,a4,a5,a6,a7,a8⟩:=c
 obtain ⟨b1,b2,b3,b4,b5,b6,b7,b8⟩:=u
 simp only [eqFs,eqF,Cl.mk.injEq,Bool.and_true]
 by_cases h:(b1=a1/\b2=a2/\b3=a3/\b4=a4/\b5=a5/\b6=a6/\b7=a7/\b8=a8)
 ·obtain ⟨rfl,rfl,rfl,rfl,rfl,rfl,rfl,rfl⟩:=h
  simp
 ·rw [decide_eq_false h]
  apply Bool.eq_false_iff.2
  intro hh
  simp only [Bool.and_eq_true,beq_iff_eq] at hh
  obtain ⟨e1,e2,e3,e4,e5,e6,e7,e8⟩:=hh
  exact h ⟨e1.symm,e2.symm,e3.symm,e4.symm,e5.symm,e6.symm,e7.symm,e8.symm⟩
def orcV (c:Cl):Nat->FuncId->List AV->AV:=fun _ f l =>
 if f=99 then .agg (Qq (usedC c)) else if f=100 then .bool (Yk c) else if f=101 then (match l with
 | [.int _ n,.int _ lo,.int _ hi]=>.bool (wi n lo hi)
 | _=>.junk) else match l with
 | [.int _ n]=>.bool (Ui n)
 | _=>.junk
theorem Kk (c:Cl):Pure Tryz.prog gl0 48 [.agg (Qq c)] (.bool (Xt c)):=by
 have h0:=used_pure c
 have hE:=eqCl c (usedC c)
 have hi:=isItem_pure c
 refine Qn code48 (orcV c) (by simp) ?_
 by_cases hu:usedC c=c
 ·rw [hu] at h0 hE
  simp only [decide_true] at hE
  have hv:Xt c=Jh c:=by simp [Xt,hu]
  rw [hv]
  simp [-eqFs,sc48,Qq,orcV,hu,hE]
  refine ⟨h0,?_⟩
  by_cases h1:c.ki=1\/c.ki=2
  ·have hk:Jh c=(Yk c&&(decide (0<=c.fr)&&(decide (c.fr < c.to)&&decide (c.to<=10000000000)))):=by unfold Jh;rw [if_pos h1]
   rw [hk]
   clear hk hv
   cases e1:Yk c with
   | false=>rw [e1] at hi;rcases h1 with h1 | h1<;>(simp [rs48,h1,e1];simpa [Qq,h1] using hi)
   | true =>
    rw [e1] at hi
    by_cases e2:0<=c.fr<;>by_cases e3:c.fr < c.to<;>by_cases e4:c.to<=10000000000<;>rcases h1 with h1 | h1<;>(simp [rs48,h1,e1,e2,e3,e4];simpa [Qq,h1] using hi)
  ·have h11:¬ c.ki=1:=fun h=>h1 (.inl h)
   have h12:¬ c.ki=2:=fun h=>h1 (.inr h)
   by_cases h3:c.ki=3
   ·have hk:Jh c=(Yk c&&wi c.n 0 1000):=by unfold Jh;rw [if_neg h1,if_pos h3]
    rw [hk]
    clear hk hv
    have hw:=Zp c.n 0 1000
    cases e1:Yk c with
    | false=>rw [e1] at hi;simp [rs48,h3,e1];simpa [Qq,h3] using hi
    | true=>rw [e1] at hi;simp [rs48,h3,e1];exact ⟨by simpa [Qq,h3] using hi,hw⟩
   ·by_cases h4:c.ki=4
    ·have hk:Jh c=(Yk c&&wi c.n 0 10000000000):=by unfold Jh;rw [if_neg h1,if_neg h3,if_pos h4]
     rw [hk]
     clear hk hv
     have hw:=Zp c.n 0 10000000000
     cases e1:Yk c with
     | false=>rw [e1] at hi;simp [rs48,h4,e1];simpa [Qq,h4] using hi
     | true=>rw [e1] at hi;simp [rs48,h4,e1];exact ⟨by simpa [Qq,h4] using hi,hw⟩
    ·by_cases h5:c.ki=5
     ·have hk:Jh c=(wi c.a 1 200&&(wi c.b 1 200&&(decide (c.a≠c.b)&&wi c.n 0 86400))):=by unfold Jh;rw [if_neg h1,if_neg h3,if_neg h4,if_pos h5]
      rw [hk]
      clear hk hv hi
      have w1:=Zp c.a 1 200
      have w2:=Zp c.b 1 200
      have w3:=Zp c.n 0 86400
      cases e1:wi c.a 1 200 with
      | false=>rw [e1] at w1;simp [rs48,h5,e1];exact w1
      | true =>
       rw [e1] at w1
       cases e2:wi c.b 1 200 with
       | false=>rw [e2] at w2;simp [rs48,h5,e1,e2];exact ⟨w1,w2⟩
       | true =>
        rw [e2] at w2
        by_cases e3:c.a=c.b
        ·simp [rs48,h5,e1,e2,e3]
         exact w2
        ·simp [rs48,h5,e1,e2,e3];exact ⟨w1,w2,w3⟩
     ·by_cases h6:c.ki=6
      ·have hk:Jh c=(wi c.a 1 3&&(Ui c.fr&&(Ui c.to&&decide (c.fr≠c.to)))):=by unfold Jh;rw [if_neg h1,if_neg h3,if_neg h4,if_neg h5,if_pos h6]
       rw [hk]
       clear hk hv hi
       have w1:=Zp c.a 1 3
       have w2:=isTime_pure c.fr
       have w3:=isTime_pure c.to
       cases e1:wi c.a 1 3 with
       | false=>rw [e1] at w1;simp [rs48,h6,e1];exact w1
       | true =>
        rw [e1] at w1
        cases e2:Ui c.fr with
        | false=>rw [e2] at w2;simp [rs48,h6,e1,e2];exact ⟨w1,w2⟩
        | true =>
         rw [e2] at w2
         cases e4:Ui c.to with
         | false=>rw [e4] at w3;simp [rs48,h6,e1,e2,e4];exact ⟨w1,w2,w3⟩
         | true =>
          rw [e4] at w3
          by_cases e3:c.fr=c.to
          ·simp [rs48,h6,e1,e2,e4,e3];exact ⟨w1,w3⟩
          ·simp [rs48,h6,e1,e2,e4,e3];exact ⟨w1,w2,w3⟩
      ·have hk:Jh c=false:=by unfold Jh;rw [if_neg h1,if_neg h3,if_neg h4,if_neg h5,if_neg h6]
       rw [hk]
       simp [rs48,h11,h12,h3,h4,h5,h6]
 ·simp only [hu,decide_false] at hE
  have hv:Xt c=false:=by simp [Xt,hu]
  rw [hv]
  simp [-eqFs,sc48,rs48,Qq,orcV,hE]
  exact h0
theorem and1 (a:Int):IntKind.i64.wrap ((BitVec.ofInt 64 a &&& 1#64).toNat:Int)=a % 2:=by
 have h:(BitVec.ofInt 64 a &&& 1#64).toNat=(BitVec.ofInt 64 a).toNat % 2:=by
  rw [BitVec.toNat_and];exact Nat.and_one_is_mod _
 rw [h,BitVec.toNat_ofInt,Qe]<;>omega
def bitC (c:Cl) (region:Int):Bool:=decide (c.re.fdiv (2 ^ (min region.toNat 64)) % 2=1)
def concB (c:Cl) (item region:Int):Bool:=wi region 0 7&&(decide (c.it=item)&&bitC c region)
theorem concerns_pure (c:Cl) (item region:Int):Pure Tryz.prog gl0 146 [.agg (Qq c),I item,I region] (.bool (concB c item region)):=by
 have h1:=Zp region 0 7
 refine Qn code146 orcW (by simp) ?_
 cases e1:wi region 0 7 with
 | false=>rw [e1] at h1;simp [sc146,rs146,Qq,orcW,concB,e1];exact h1
 | true =>
  have hr:0<=region:=by simp [wi] at e1;omega
  rw [e1] at h1
  by_cases e2:c.it=item
  ·by_cases e3:c.re.fdiv (2 ^ (min region.toNat 64)) % 2=1
   ·simp [sc146,rs146,Qq,orcW,concB,e1,e2,e3,hr,bitC,IntKind.bits]
    exact ⟨h1,(and1 _).trans e3⟩
   ·simp [sc146,rs146,Qq,orcW,concB,e1,e2,e3,hr,bitC,IntKind.bits]
    exact ⟨h1,fun h=>e3 ((and1 _).symm.trans h)⟩
  ·simp [sc146,rs146,Qq,orcW,concB,e1,e2]
   exact h1
def wshB (rating:Int) (c:Cl):Bool:=decide (c.ki=6)&&(decide (c.a<=rating)&&Xt c)
def Kh (cs:List Cl) (rating:Int):List Sp:=(cs.filter (wshB rating)).map fun c=>(c.fr,c.to)
theorem watersheds_pure (cs:List Cl) (rating:Int) (hl:cs.length<=100000000):Pure Tryz.prog gl0 121 [.sl .ro (cs.map Qq),I rating] (.sl .ro ((Kh cs rating).map Qd)):=by
 have key:∀ r,r=(if Kh cs rating=[] then AV.sl .nil [] else .sl .ro ((Kh cs rating).map Qd))->Pure Tryz.prog gl0 121 [.sl .ro (cs.map Qq),I rating] r:=by
  rintro r rfl
  refine Qn code121 (fun d f l=>if f=999999 then .junk else match l with
   | [.agg [.int _ a,.int _ b,.int _ c,.int _ d,.int _ e,.int _ f,.int _ g,.int _ h]]=>.bool (Xt ⟨a,b,c,d,e,f,g,h⟩)
   | _=>.junk) (by simp) ?_
  simp [sc121]
  refine Ql w121_0 (fun f m=>∃ (i:Nat) (bx:List (List AV)) (rt:Rt) (L':List Nat) (o:List Sp),i<=cs.length/\f 10=I i/\f 5=.sl rt (o.map Qd)/\m=⟨bx,L',fun _=>.gone,0⟩/\o.length<=i/\o++Kh (cs.drop i) rating=Kh cs rating /\
   ((o=[]/\rt=.nil/\L'=[])\/(o≠[]/\rt=.own 0 2/\L'=[o.length]))) (fun f _=>cs.length - (numOf (f 10)).toNat) ?_ ?_
  ·exact ⟨0,[],.nil,[],[],by omega,by simp,by simp,rfl,by simp,by simp,.inl ⟨rfl,rfl,rfl⟩⟩
  ·rintro f m ⟨i,bx,rt,L',o,hi,h10,h5,rfl,hol,ho,hrt⟩
   rcases Nat.lt_or_ge i cs.length with hlt | hge
   ·obtain ⟨c,hc⟩:=getS hlt
    have hrow:Qf (cs.map Qq) i=Qq c:=Qv (by simp [hc])
    have hilt:(i:Int) < (cs.length:Int):=by omega
    have hw:=wrS i (by omega)
    have hd:cs.drop i=c::cs.drop (i+1):=by rw [List.drop_eq_getElem_cons hlt,(List.getElem?_eq_some_iff.1 hc).2]
    have hvp:=Kk c
    rw [hd] at ho
    have hr2:∀ row∈o.map Qd,row.length=2:=by
     intro row h;rw [List.mem_map] at h;obtain ⟨a,_,rfl⟩:=h;rfl
    have skip:wshB rating c=false->o++Kh (cs.drop (i+1)) rating=Kh cs rating:=by
     intro hb;rw [<- ho];simp [Kh,hb]
    have take:wshB rating c=true->(o++[(c.fr,c.to)])++Kh (cs.drop (i+1)) rating=Kh cs rating:=by
     intro hb;rw [<- ho];simp [Kh,hb]
    by_cases c1:c.ki=6
    ·have hc6:(⟨6,c.it,c.fr,c.to,c.re,c.n,c.a,c.b⟩:Cl)=c:=by cases c;simp at c1;subst c1;rfl
     have hvp':Pure Tryz.prog gl0 48 [.agg [I 6,I c.it,I c.fr,I c.to,I c.re,I c.n,I c.a,I c.b]] (.bool (Xt c)):=by simpa [Qq,c1] using hvp
     by_cases c2:c.a<=rating
     ·cases c3:Xt c with
      | true =>
       have ht:=take (by simp [wshB,c1,c2,c3])
       rw [c3] at hvp'
       rcases hrt with ⟨rfl,rfl,rfl⟩ | ⟨hne,rfl,rfl⟩
       ·simp [h10,h5,hlt,hilt,hrow,Qq,c1,c2,hc6,c3,w121_0,hw]
        refine ⟨hvp',ag ?_,⟨i+1,by omega,by simp,_,.own 0 2,[1],[(c.fr,c.to)],⟨rfl,rfl⟩,⟨rfl,rfl⟩,by simp,ht,by simp⟩,by omega⟩
        repeat (first | exact Qa _ _ | refine Qb _ rfl ?_)
       ·simp [h10,h5,hlt,hilt,hrow,Qq,c1,c2,hc6,c3,w121_0,hw]
        refine ⟨hvp',⟨?_,by omega⟩,ag ?_,⟨i+1,by omega,by simp,_,.own 0 2,[o.length+1],o++[(c.fr,c.to)],⟨rfl,by simp [Qd]⟩,⟨rfl,rfl⟩,by simp;omega,ht,by simp⟩,by omega⟩
        ·rintro row (⟨a,b,_,rfl⟩ | rfl)<;>rfl
        repeat (first | exact Qa _ _ | refine Qb _ rfl ?_)
      | false =>
       have hs:=skip (by simp [wshB,c3])
       rw [c3] at hvp'
       simp [h10,h5,hlt,hilt,hrow,Qq,c1,c2,hc6,c3,w121_0,hw]
       refine ⟨hvp',ag ?_,⟨i+1,by omega,by simp,_,rt,L',o,⟨rfl,rfl⟩,⟨rfl,rfl⟩,by omega,hs,hrt⟩,by omega⟩
       repeat (first | exact Qa _ _ | refine Qb _ rfl ?_)
     ·have hs:=skip (by simp [wshB,c2])
      simp [h10,h5,hlt,hilt,hrow,Qq,c1,c2,w121_0,hw]
      refine ⟨ag ?_,⟨i+1,by omega,by simp,_,rt,L',o,⟨rfl,rfl⟩,⟨rfl,rfl⟩,by omega,hs,hrt⟩,by omega⟩
      repeat (first | exact Qa _ _ | refine Qb _ rfl ?_)
    ·have hs:=skip (by simp [wshB,c1])
     simp [h10,h5,hlt,hilt,hrow,Qq,c1,w121_0,hw]
     refine ⟨ag ?_,⟨i+1,by omega,by simp,_,rt,L',o,⟨rfl,rfl⟩,⟨rfl,rfl⟩,by omega,hs,hrt⟩,by omega⟩
     repeat (first | exact Qa _ _ | refine Qb _ rfl ?_)
   ·obtain rfl:i=cs.length:=by omega
    have he:Kh cs rating=o:=by rw [<- ho];simp [Kh]
    rw [he]
    rcases hrt with ⟨rfl,rfl,rfl⟩ | ⟨hne,rfl,rfl⟩
    ·simp [h10,h5,w121_0,rs121]
    ·simp [h10,h5,w121_0,rs121,hne]
 have hk:=key _ rfl
 by_cases hn:Kh cs rating=[]
 ·rw [if_pos hn] at hk
  rw [hn]
  exact Yc hk (Wk.sl _ _)
 ·rw [if_neg hn] at hk
  exact hk
end Go.Proofs.YtjmgelbfndnpjaaGreatDoor
