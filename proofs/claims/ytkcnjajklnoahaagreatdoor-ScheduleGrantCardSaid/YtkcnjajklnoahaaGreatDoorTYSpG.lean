import Derived.Test.YtkcnjajklnoahaaGreatDoorTYSpF
set_option linter.unusedVariables false
set_option linter.unusedSimpArgs false
set_option maxRecDepth 100000
set_option maxHeartbeats 64000000
namespace Go.Proofs.YtkcnjajklnoahaaGreatDoor
open Go Go.Abs
instance:DecidableEq Cl:=fun x y=>decidable_of_iff (x.ki=y.ki/\x.it=y.it/\x.fr=y.fr/\x.to=y.to/\x.re=y.re/\x.n=y.n/\x.a=y.a/\x.b=y.b) (by cases x;cases y;simp)
def wi (n lo hi:Int):Bool:=decide (lo<=n/\n<=hi)
theorem Vi (n lo hi:Int):Pure Tryz.prog gl0 143 [I n,I lo,I hi] (.bool (wi n lo hi)):=by
 refine Ql code143 (fun _ _ _=>.junk) (by simp) ?_
 by_cases h1:lo<=n<;>by_cases h2:n<=hi<;>simp [sc143,rs143,wi,h1,h2]
def Jo (c:Cl):Cl :=
 if c.ki=1\/c.ki=2 then ⟨c.ki,c.it,c.fr,c.to,c.re,0,0,0⟩ else if c.ki=3\/c.ki=4 then ⟨c.ki,c.it,0,0,c.re,c.n,0,0⟩ else
 if c.ki=5 then ⟨c.ki,0,0,0,0,c.n,c.a,c.b⟩ else if c.ki=6 then ⟨c.ki,0,c.fr,c.to,0,0,c.a,0⟩ else ⟨0,0,0,0,0,0,0,0⟩
theorem used_pure (c:Cl):Pure Tryz.prog gl0 141 [.agg (Qi c)] (.agg (Qi (Jo c))):=by
 refine Ql code141 (fun _ _ _=>.junk) (by simp) ?_
 by_cases h1:c.ki=1
 ·simp [sc141,rs141,Qi,Jo,h1]
 ·by_cases h2:c.ki=2
  ·simp [sc141,rs141,Qi,Jo,h2]
  ·by_cases h3:c.ki=3
   ·simp [sc141,rs141,Qi,Jo,h3]
   ·by_cases h4:c.ki=4
    ·simp [sc141,rs141,Qi,Jo,h4]
    ·by_cases h5:c.ki=5
     ·simp [sc141,rs141,Qi,Jo,h5]
     ·by_cases h6:c.ki=6
      ·simp [sc141,rs141,Qi,Jo,h6]
      ·simp [sc141,rs141,Qi,Jo,h1,h2,h3,h4,h5,h6]
def Zu (c:Cl):Bool:=wi c.it 1 4611686018427387903&&wi c.re 1 255
def Qcj:Nat->FuncId->List AV->AV:=fun _ _ l=>match l with
 | [.int _ n,.int _ lo,.int _ hi]=>.bool (wi n lo hi)
 | _=>.junk
theorem isItem_pure (c:Cl):Pure Tryz.prog gl0 142 [.agg (Qi c)] (.bool (Zu c)):=by
 have h1:=Vi c.it 1 4611686018427387903
 have h2:=Vi c.re 1 255
 refine Ql code142 Qcj (by simp) ?_
 cases e1:wi c.it 1 4611686018427387903 with
 | false=>rw [e1] at h1;simp [sc142,rs142,Qi,Qcj,Zu,e1];exact h1
 | true=>rw [e1] at h1;simp [sc142,rs142,Qi,Qcj,Zu,e1];exact ⟨h1,h2⟩
def Vs (n:Int):Bool:=wi n 0 86340&&decide (n.tmod 60=0)
theorem isTime_pure (n:Int):Pure Tryz.prog gl0 144 [I n] (.bool (Vs n)):=by
 have h1:=Vi n 0 86340
 refine Ql code144 Qcj (by simp) ?_
 cases e1:wi n 0 86340 with
 | false=>rw [e1] at h1;simp [sc144,rs144,Qcj,Vs,e1];exact h1
 | true =>
  rw [e1] at h1
  by_cases e2:n.tmod 60=0<;>simp [sc144,rs144,Qcj,Vs,e1,e2]<;>exact h1
def Yi (c:Cl):Bool :=
 if c.ki=1\/c.ki=2 then Zu c&&(decide (0<=c.fr)&&(decide (c.fr < c.to)&&decide (c.to<=10000000000))) else if c.ki=3 then Zu c&&wi c.n 0 1000 else
 if c.ki=4 then Zu c&&wi c.n 0 10000000000 else if c.ki=5 then wi c.a 1 200&&(wi c.b 1 200&&(decide (c.a≠c.b)&&wi c.n 0 86400)) else
 if c.ki=6 then wi c.a 1 3&&(Vs c.fr&&(Vs c.to&&decide (c.fr≠c.to))) else false
def Xc (c:Cl):Bool:=decide (Jo c=c)&&Yi c
theorem eqCl (c u:Cl):eqFs [I c.ki,I c.it,I c.fr,I c.to,I c.re,I c.n,I c.a,I c.b] [I u.ki,I u.it,I u.fr,I u.to,I u.re,I u.n,I u.a,I u.b]=decide (u=c):=by
 obtain ⟨a1,a2,a3,a4,a5,a6,a7,a8⟩:=c
 obtain ⟨b1,b2,b3,b4,b5,b6,b7,b8⟩:=u
 simp only [eqFs,eqF,Cl.mk.injEq,Bool.and_true]
 by_cases h:(b1=a1/\b2=a2/\b3=a3/\b4=a4/\b5=a5/\b6=a6/\b7=a7/\b8=a8)
 ·obtain ⟨rfl,rfl,rfl,rfl,rfl,rfl,rfl,rfl⟩:=h
  simp
 ·rw [decide_eq_false h]
  apply Bool.eq_false_iff.2
  intro hh
  simp only [Bool.and_eq_true,beq_iff_eq] at hh
  obtain ⟨e1,e2,e3,e4,e5,e6,e7,e8⟩:=hh
  exact h ⟨e1.symm,e2.symm,e3.symm,e4.symm,e5.symm,e6.symm,e7.symm,e8.symm⟩
def orcV (c:Cl):Nat->FuncId->List AV->AV:=fun _ f l =>
 if f=141 then .agg (Qi (Jo c)) else if f=142 then .bool (Zu c) else if f=143 then (match l with
 | [.int _ n,.int _ lo,.int _ hi]=>.bool (wi n lo hi)
 | _=>.junk) else match l with
 | [.int _ n]=>.bool (Vs n)
 | _=>.junk
theorem Qai (c:Cl):Pure Tryz.prog gl0 114 [.agg (Qi c)] (.bool (Xc c)):=by
 have h0:=used_pure c
 have hE:=eqCl c (Jo c)
 have hi:=isItem_pure c
 refine Ql code114 (orcV c) (by simp) ?_
 by_cases hu:Jo c=c
 ·rw [hu] at h0 hE
  simp only [decide_true] at hE
  have hv:Xc c=Yi c:=by simp [Xc,hu]
  rw [hv]
  simp [-eqFs,sc114,Qi,orcV,hu,hE]
  refine ⟨h0,?_⟩
  by_cases h1:c.ki=1\/c.ki=2
  ·have hk:Yi c=(Zu c&&(decide (0<=c.fr)&&(decide (c.fr < c.to)&&decide (c.to<=10000000000)))):=by unfold Yi;rw [if_pos h1]
   rw [hk]
   clear hk hv
   cases e1:Zu c with
   | false=>rw [e1] at hi;rcases h1 with h1 | h1<;>(simp [rs114,h1,e1];simpa [Qi,h1] using hi)
   | true =>
    rw [e1] at hi
    by_cases e2:0<=c.fr<;>by_cases e3:c.fr < c.to<;>by_cases e4:c.to<=10000000000<;>rcases h1 with h1 | h1<;>(simp [rs114,h1,e1,e2,e3,e4];simpa [Qi,h1] using hi)
  ·have h11:¬ c.ki=1:=fun h=>h1 (.inl h)
   have h12:¬ c.ki=2:=fun h=>h1 (.inr h)
   by_cases h3:c.ki=3
   ·have hk:Yi c=(Zu c&&wi c.n 0 1000):=by unfold Yi;rw [if_neg h1,if_pos h3]
    rw [hk]
    clear hk hv
    have hw:=Vi c.n 0 1000
    cases e1:Zu c with
    | false=>rw [e1] at hi;simp [rs114,h3,e1];simpa [Qi,h3] using hi
    | true=>rw [e1] at hi;simp [rs114,h3,e1];exact ⟨by simpa [Qi,h3] using hi,hw⟩
   ·by_cases h4:c.ki=4
    ·have hk:Yi c=(Zu c&&wi c.n 0 10000000000):=by unfold Yi;rw [if_neg h1,if_neg h3,if_pos h4]
     rw [hk]
     clear hk hv
     have hw:=Vi c.n 0 10000000000
     cases e1:Zu c with
     | false=>rw [e1] at hi;simp [rs114,h4,e1];simpa [Qi,h4] using hi
     | true=>rw [e1] at hi;simp [rs114,h4,e1];exact ⟨by simpa [Qi,h4] using hi,hw⟩
    ·by_cases h5:c.ki=5
     ·have hk:Yi c=(wi c.a 1 200&&(wi c.b 1 200&&(decide (c.a≠c.b)&&wi c.n 0 86400))):=by unfold Yi;rw [if_neg h1,if_neg h3,if_neg h4,if_pos h5]
      rw [hk]
      clear hk hv hi
      have w1:=Vi c.a 1 200
      have w2:=Vi c.b 1 200
      have w3:=Vi c.n 0 86400
      cases e1:wi c.a 1 200 with
      | false=>rw [e1] at w1;simp [rs114,h5,e1];exact w1
      | true =>
       rw [e1] at w1
       cases e2:wi c.b 1 200 with
       | false=>rw [e2] at w2;simp [rs114,h5,e1,e2];exact ⟨w1,w2⟩
       | true =>
        rw [e2] at w2
        by_cases e3:c.a=c.b
        ·simp [rs114,h5,e1,e2,e3]
         exact w2
        ·simp [rs114,h5,e1,e2,e3];exact ⟨w1,w2,w3⟩
     ·by_cases h6:c.ki=6
      ·have hk:Yi c=(wi c.a 1 3&&(Vs c.fr&&(Vs c.to&&decide (c.fr≠c.to)))):=by unfold Yi;rw [if_neg h1,if_neg h3,if_neg h4,if_neg h5,if_pos h6]
       rw [hk]
       clear hk hv hi
       have w1:=Vi c.a 1 3
       have w2:=isTime_pure c.fr
       have w3:=isTime_pure c.to
       cases e1:wi c.a 1 3 with
       | false=>rw [e1] at w1;simp [rs114,h6,e1];exact w1
       | true =>
        rw [e1] at w1
        cases e2:Vs c.fr with
        | false=>rw [e2] at w2;simp [rs114,h6,e1,e2];exact ⟨w1,w2⟩
        | true =>
         rw [e2] at w2
         cases e4:Vs c.to with
         | false=>rw [e4] at w3;simp [rs114,h6,e1,e2,e4];exact ⟨w1,w2,w3⟩
         | true =>
          rw [e4] at w3
          by_cases e3:c.fr=c.to
          ·simp [rs114,h6,e1,e2,e4,e3];exact ⟨w1,w3⟩
          ·simp [rs114,h6,e1,e2,e4,e3];exact ⟨w1,w2,w3⟩
      ·have hk:Yi c=false:=by unfold Yi;rw [if_neg h1,if_neg h3,if_neg h4,if_neg h5,if_neg h6]
       rw [hk]
       simp [rs114,h11,h12,h3,h4,h5,h6]
 ·simp only [hu,decide_false] at hE
  have hv:Xc c=false:=by simp [Xc,hu]
  rw [hv]
  simp [-eqFs,sc114,rs114,Qi,orcV,hE]
  exact h0
theorem and1 (a:Int):IntKind.i64.wrap ((BitVec.ofInt 64 a &&& 1#64).toNat:Int)=a % 2:=by
 have h:(BitVec.ofInt 64 a &&& 1#64).toNat=(BitVec.ofInt 64 a).toNat % 2:=by
  rw [BitVec.toNat_and];exact Nat.and_one_is_mod _
 rw [h,BitVec.toNat_ofInt,Qh]<;>omega
def bitC (c:Cl) (region:Int):Bool:=decide (c.re.fdiv (2 ^ (min region.toNat 64)) % 2=1)
def Qbe (c:Cl) (item region:Int):Bool:=wi region 0 7&&(decide (c.it=item)&&bitC c region)
theorem concerns_pure (c:Cl) (item region:Int):Pure Tryz.prog gl0 153 [.agg (Qi c),I item,I region] (.bool (Qbe c item region)):=by
 have h1:=Vi region 0 7
 refine Ql code153 Qcj (by simp) ?_
 cases e1:wi region 0 7 with
 | false=>rw [e1] at h1;simp [sc153,rs153,Qi,Qcj,Qbe,e1];exact h1
 | true =>
  have hr:0<=region:=by simp [wi] at e1;omega
  rw [e1] at h1
  by_cases e2:c.it=item
  ·by_cases e3:c.re.fdiv (2 ^ (min region.toNat 64)) % 2=1
   ·simp [sc153,rs153,Qi,Qcj,Qbe,e1,e2,e3,hr,bitC,IntKind.bits]
    exact ⟨h1,(and1 _).trans e3⟩
   ·simp [sc153,rs153,Qi,Qcj,Qbe,e1,e2,e3,hr,bitC,IntKind.bits]
    exact ⟨h1,fun h=>e3 ((and1 _).symm.trans h)⟩
  ·simp [sc153,rs153,Qi,Qcj,Qbe,e1,e2]
   exact h1
def Qce (rating:Int) (c:Cl):Bool:=decide (c.ki=6)&&(decide (c.a<=rating)&&Xc c)
def Vo (cs:List Cl) (rating:Int):List Sp:=(cs.filter (Qce rating)).map fun c=>(c.fr,c.to)
theorem watersheds_pure (cs:List Cl) (rating:Int) (hl:cs.length<=100000000):Pure Tryz.prog gl0 149 [.sl .ro (cs.map Qi),I rating] (.sl .ro ((Vo cs rating).map Qe)):=by
 have key:∀ r,r=(if Vo cs rating=[] then AV.sl .nil [] else .sl .ro ((Vo cs rating).map Qe))->Pure Tryz.prog gl0 149 [.sl .ro (cs.map Qi),I rating] r:=by
  rintro r rfl
  refine Ql code149 (fun d f l=>if f=999999 then .junk else match l with
   | [.agg [.int _ a,.int _ b,.int _ c,.int _ d,.int _ e,.int _ f,.int _ g,.int _ h]]=>.bool (Xc ⟨a,b,c,d,e,f,g,h⟩)
   | _=>.junk) (by simp) ?_
  simp [sc149]
  refine Qg w149_0 (fun f m=>∃ (i:Nat) (bx:List (List AV)) (rt:Rt) (L':List Nat) (o:List Sp),i<=cs.length/\f 10=I i/\f 5=.sl rt (o.map Qe)/\m=⟨bx,L',fun _=>.gone,0⟩/\o.length<=i/\o++Vo (cs.drop i) rating=Vo cs rating /\
   ((o=[]/\rt=.nil/\L'=[])\/(o≠[]/\rt=.own 0 2/\L'=[o.length]))) (fun f _=>cs.length - (numOf (f 10)).toNat) ?_ ?_
  ·exact ⟨0,[],.nil,[],[],by omega,by simp,by simp,rfl,by simp,by simp,.inl ⟨rfl,rfl,rfl⟩⟩
  ·rintro f m ⟨i,bx,rt,L',o,hi,h10,h5,rfl,hol,ho,hrt⟩
   rcases Nat.lt_or_ge i cs.length with hlt | hge
   ·obtain ⟨c,hc⟩:=getS hlt
    have hrow:Qk (cs.map Qi) i=Qi c:=Qv (by simp [hc])
    have hilt:(i:Int) < (cs.length:Int):=by omega
    have hw:=wrS i (by omega)
    have hd:cs.drop i=c::cs.drop (i+1):=by rw [List.drop_eq_getElem_cons hlt,(List.getElem?_eq_some_iff.1 hc).2]
    have hvp:=Qai c
    rw [hd] at ho
    have hr2:∀ row∈o.map Qe,row.length=2:=by
     intro row h;rw [List.mem_map] at h;obtain ⟨a,_,rfl⟩:=h;rfl
    have skip:Qce rating c=false->o++Vo (cs.drop (i+1)) rating=Vo cs rating:=by
     intro hb;rw [<- ho];simp [Vo,hb]
    have take:Qce rating c=true->(o++[(c.fr,c.to)])++Vo (cs.drop (i+1)) rating=Vo cs rating:=by
     intro hb;rw [<- ho];simp [Vo,hb]
    by_cases c1:c.ki=6
    ·have hc6:(⟨6,c.it,c.fr,c.to,c.re,c.n,c.a,c.b⟩:Cl)=c:=by cases c;simp at c1;subst c1;rfl
     have hvp':Pure Tryz.prog gl0 114 [.agg [I 6,I c.it,I c.fr,I c.to,I c.re,I c.n,I c.a,I c.b]] (.bool (Xc c)):=by simpa [Qi,c1] using hvp
     by_cases c2:c.a<=rating
     ·cases c3:Xc c with
      | true =>
       have ht:=take (by simp [Qce,c1,c2,c3])
       rw [c3] at hvp'
       rcases hrt with ⟨rfl,rfl,rfl⟩ | ⟨hne,rfl,rfl⟩
       ·simp [h10,h5,hlt,hilt,hrow,Qi,c1,c2,hc6,c3,w149_0,hw]
        refine ⟨hvp',ag ?_,⟨i+1,by omega,by simp,_,.own 0 2,[1],[(c.fr,c.to)],⟨rfl,rfl⟩,⟨rfl,rfl⟩,by simp,ht,by simp⟩,by omega⟩
        repeat (first | exact Qb _ _ | refine Qc _ rfl ?_)
       ·simp [h10,h5,hlt,hilt,hrow,Qi,c1,c2,hc6,c3,w149_0,hw]
        refine ⟨hvp',⟨?_,by omega⟩,ag ?_,⟨i+1,by omega,by simp,_,.own 0 2,[o.length+1],o++[(c.fr,c.to)],⟨rfl,by simp [Qe]⟩,⟨rfl,rfl⟩,by simp;omega,ht,by simp⟩,by omega⟩
        ·rintro row (⟨a,b,_,rfl⟩ | rfl)<;>rfl
        repeat (first | exact Qb _ _ | refine Qc _ rfl ?_)
      | false =>
       have hs:=skip (by simp [Qce,c3])
       rw [c3] at hvp'
       simp [h10,h5,hlt,hilt,hrow,Qi,c1,c2,hc6,c3,w149_0,hw]
       refine ⟨hvp',ag ?_,⟨i+1,by omega,by simp,_,rt,L',o,⟨rfl,rfl⟩,⟨rfl,rfl⟩,by omega,hs,hrt⟩,by omega⟩
       repeat (first | exact Qb _ _ | refine Qc _ rfl ?_)
     ·have hs:=skip (by simp [Qce,c2])
      simp [h10,h5,hlt,hilt,hrow,Qi,c1,c2,w149_0,hw]
      refine ⟨ag ?_,⟨i+1,by omega,by simp,_,rt,L',o,⟨rfl,rfl⟩,⟨rfl,rfl⟩,by omega,hs,hrt⟩,by omega⟩
      repeat (first | exact Qb _ _ | refine Qc _ rfl ?_)
    ·have hs:=skip (by simp [Qce,c1])
     simp [h10,h5,hlt,hilt,hrow,Qi,c1,w149_0,hw]
     refine ⟨ag ?_,⟨i+1,by omega,by simp,_,rt,L',o,⟨rfl,rfl⟩,⟨rfl,rfl⟩,by omega,hs,hrt⟩,by omega⟩
     repeat (first | exact Qb _ _ | refine Qc _ rfl ?_)
   ·obtain rfl:i=cs.length:=by omega
    have he:Vo cs rating=o:=by rw [<- ho];simp [Vo]
    rw [he]
    rcases hrt with ⟨rfl,rfl,rfl⟩ | ⟨hne,rfl,rfl⟩
    ·simp [h10,h5,w149_0,rs149]
    ·simp [h10,h5,w149_0,rs149,hne]
 have hk:=key _ rfl
 by_cases hn:Vo cs rating=[]
 ·rw [if_pos hn] at hk
  rw [hn]
  exact Vg hk (Wk.sl _ _)
 ·rw [if_neg hn] at hk
  exact hk
end Go.Proofs.YtkcnjajklnoahaaGreatDoor
