import Derived.Test.YtjmgelbfndnpjaaGreatDoorPPSpG
set_option linter.unusedVariables false
set_option linter.unusedSimpArgs false
set_option maxRecDepth 100000
set_option maxHeartbeats 64000000
namespace Go.Proofs.YtjmgelbfndnpjaaGreatDoor
open Go Go.Abs
theorem inDay_pure (n:Int):Pure Tryz.prog gl0 152 [I n] (.bool (decide (0<=n/\n < 86400))):=by
 refine Qn code152 (fun _ _ _=>.junk) (by simp) ?_
 by_cases h1:0<=n<;>by_cases h2:n < 86400<;>simp [sc152,rs152,h1,h2]
theorem divide_pure (n:Int) (h : -100000000000<=n/\n<=100000000000):Pure Tryz.prog gl0 155 [I n] (.tup [I (n / 86400),I (n % 86400)]):=by
 refine Qn code155 (fun _ _ _=>.junk) (by simp) ?_
 have ht:n.tdiv 86400=if 0<=n\/n % 86400=0 then n / 86400 else n / 86400+1:=by
  by_cases h0:0<=n
  ·rw [if_pos (.inl h0),Int.tdiv_eq_ediv_of_nonneg h0]
  ·rw [Int.tdiv_eq_ediv]
   by_cases h1:n % 86400=0
   ·rw [if_pos (.inr (Int.dvd_of_emod_eq_zero h1)),if_pos (.inr h1)];simp
   ·rw [if_neg (by rintro (h | h);exact h0 h;exact h1 (Int.emod_eq_zero_of_dvd h)),if_neg (by rintro (h | h);exact h0 h;exact h1 h)];rfl
 have hm:n.tmod 86400=n - n.tdiv 86400*86400:=by have:=Int.mul_tdiv_add_tmod n 86400;omega
 have w1:IntKind.i64.wrap (n.tdiv 86400)=n.tdiv 86400:=by rw [ht];split<;>rw [Qe]<;>omega
 by_cases hneg:n.tmod 86400 < 0
 ·have e1:n.tdiv 86400=n / 86400+1:=by
   rw [ht] at hm |-
   split
   ·rename_i hc;rw [if_pos hc] at hm;omega
   ·rfl
  have w2:IntKind.i64.wrap (n / 86400+1)=n / 86400+1:=by rw [Qe]<;>omega
  have w3:IntKind.i64.wrap (n / 86400)=n / 86400:=by rw [Qe]<;>omega
  have e2:n.tmod 86400=n % 86400 - 86400:=by rw [hm,e1];omega
  have w4:IntKind.i64.wrap (n % 86400)=n % 86400:=by rw [Qe]<;>omega
  have hn2:n % 86400 < 86400:=by omega
  have hn3:¬ 86400<=n % 86400:=by omega
  simp [sc155,rs155,e1,e2,w2,w3,w4,hn2,hn3]
 ·have e1:n.tdiv 86400=n / 86400:=by
   rw [ht] at hm |-
   split
   ·rfl
   ·rename_i hc;rw [if_neg hc] at hm;omega
  have e2:n.tmod 86400=n % 86400:=by rw [hm,e1];omega
  have w3:IntKind.i64.wrap (n / 86400)=n / 86400:=by rw [Qe]<;>omega
  have hn2:¬ n % 86400 < 0:=by omega
  simp [sc155,rs155,e1,e2,w3,hn2]
def Wi (fr to:Int):List Sp:=if fr < to then [(fr,to)] else if to < fr then [(0,to),(fr,86400)] else [(0,86400)]
theorem windows_pure (fr to:Int):Pure Tryz.prog gl0 156 [I fr,I to] (.sl .full ((Wi fr to).map Qd)):=by
 refine Qn code156 (fun _ _ _=>.junk) (by simp) ?_
 by_cases h1:fr < to
 ·simp [sc156,rs156,h1,Wi,Qd]
 ·by_cases h2:to < fr
  ·simp [sc156,rs156,h1,h2,Wi,Qd]
  ·simp [sc156,rs156,h1,h2,Wi,Qd]
def Jy:Int->Int->List Sp->List (Int×Int×Int)
 | f,o,[]=>[(f,10000000001,o)]
 | f,o,s::r=>(if f < s.1 then [(f,s.1,o)] else [])++Jy s.1 s.2 r
def stAgg (x:Int×Int×Int):List AV:=[.agg [I x.1,I x.2.1,I x.2.2]]
theorem stretches_pure (of:Int) (sh:List Sp):Pure Tryz.prog gl0 154 [.agg [I of,.sl .ro (sh.map Qd)]] (.fn 175 [] [.ep [I of,.sl .ro (sh.map Qd)] 0]):=by
 refine Qn code154 (fun _ _ _=>.junk) (by simp) ?_
 simp [sc154,rs154]
theorem ExtO.put {O:Nat->Prop} {m:AM} {b:Nat} (hb:O b) (v:List AV) (x:List (List AV)):ExtO O m { m with boxes:=m.boxes.set b v++x } :=
 ⟨by simp,fun j hj ho=>by show Qf (m.boxes.set b v++x) j=_;rw [Qh (by simpa using hj),Zu v (by rintro rfl;exact ho hb)],⟨[],by simp⟩,fun _ _=>rfl⟩
theorem ExtO.put0 {O:Nat->Prop} {m:AM} {b:Nat} (hb:O b) (v:List AV):ExtO O m { m with boxes:=m.boxes.set b v } :=
 ⟨by simp,fun j hj ho=>by show Qf (m.boxes.set b v) j=_;rw [Zu v (by rintro rfl;exact ho hb)],⟨[],by simp⟩,fun _ _=>rfl⟩
theorem stretches_iter (of:Int) (sh:List Sp) (hl:sh.length<=1000000000):IterO Tryz.prog gl0 175 [] [.ep [I of,.sl .ro (sh.map Qd)] 0] ((Jy 0 of sh).map stAgg):=by
 intro Y l m K hF
 refine Zb code175 (fun _ _ _=>.junk) (by simp) ?_
 simp [sc175]
 obtain ⟨b,hbe⟩:∃ b,m.boxes.length=b:=⟨_,rfl⟩
 refine Ql w175_0 (fun f mm=>∃ (i:Nat) (fr t o:Int) (O:Nat->Prop),f 12=I i/\i<=sh.length/\b < mm.boxes.length/\Qf mm.boxes b=[I fr,I t,I o]/\O b/\FoldO (Y l) K ((Jy fr o (sh.drop i)).map stAgg) O mm) (fun f _=>sh.length - (numOf (f 12)).toNat) ?_ ?_
 ·refine ⟨0,0,0,of,OU (fun _=>False) m.boxes.length (m.boxes.length+1),by simp,by omega,by simp [hbe],by simp [<- hbe],.inr ⟨by omega,by omega⟩,?_⟩
  have:=hF.ext ((Ext.box m [[I 0,I 0,I of]]).toO _)
  simpa using this
 ·rintro f mm ⟨i,fr,t,o,O,h12,hi,hlm,hrow,hOb,hF⟩
  rcases Nat.lt_or_ge i sh.length with hlt | hge
  ·obtain ⟨s,hs⟩:=getS hlt
   have hrs:=Zm hs
   have hilt:(i:Int) < (sh.length:Int):=by omega
   have hw:=wrS i (by omega)
   have hd:sh.drop i=s::sh.drop (i+1):=by rw [List.drop_eq_getElem_cons hlt,(List.getElem?_eq_some_iff.1 hs).2]
   rw [hd,Jy] at hF
   have hra:∀ x,Qf (mm.boxes++x) b=[I fr,I t,I o]:=fun x=>by rw [Qh hlm];exact hrow
   have hsa:∀ x y,(mm.boxes++x).set b y=mm.boxes.set b y++x:=fun x y=>Vq y hlm
   have hrc:∀ y x,Qf (mm.boxes.set b y++x) b=y:=fun y x=>by rw [Qh (by simpa using hlm),Vn _ hlm]
   have hrd:∀ y x,Qf (mm.boxes.set b y++[x]) mm.boxes.length=x:=fun y x=>by
    have:=Zn (mm.boxes.set b y) [x] 0
    rw [List.length_set] at this;simpa using this
   have hsc:∀ y x z,(mm.boxes.set b y++x).set b z=mm.boxes.set b z++x:=fun y x z=>by rw [Vq z (by simpa using hlm),List.set_set]
   by_cases hfs:fr < s.1
   ·rw [if_pos hfs] at hF
    simp only [List.singleton_append,List.map_cons] at hF
    simp [h12,hlt,hilt,hrs,hra,hsa,hrc,hrd,w175_0,hbe,hfs,hlm]
    refine ⟨by omega,hF _ (ExtO.put hOb _ _) _ (fun m2 hS2 hF2=>?_) (fun m2 hK=>?_)⟩
    ·have hlm2:mm.boxes.length+1<=m2.boxes.length:=by have:=hS2.1;simpa using this
     have q1:Qf m2.boxes b=[I fr,I s.1,I o]:=by rw [hS2.2 b (.inl hOb)];exact hrc _ _
     have q2:Qf m2.boxes mm.boxes.length=[I s.1,I s.2]:=by
      rw [hS2.2 mm.boxes.length (.inr ⟨Nat.le_refl _,by simp⟩)];exact hrd _ _
     have hb2:b < m2.boxes.length:=by omega
     have hOb2:OU O mm.boxes.length (mm.boxes.length+1) b:=.inl hOb
     simp at hF2
     have q3:∀ y,Qf (m2.boxes.set b y) b=y:=fun y=>Vn _ hb2
     simp [q1,q2,q3,hb2,hw]
     refine ⟨ag ?_,⟨i+1,by simp,by omega,s.1,0,s.2,⟨rfl,rfl,rfl⟩,_,.inl hOb2,hF2.ext (ExtO.put0 hOb2 _)⟩,by omega⟩
     repeat (first | exact Qa _ _ | refine Qb _ rfl ?_)
    ·simp [rs175]
     exact hK _ (ExtO.refl _ _)
   ·rw [if_neg hfs] at hF
    simp only [List.nil_append] at hF
    simp [h12,hlt,hilt,hrs,hra,hsa,hrc,hrd,hsc,w175_0,hbe,hfs,hlm,hw]
    refine ⟨by omega,ag ?_,⟨i+1,by simp,by omega,by omega,s.1,0,s.2,⟨rfl,rfl,rfl⟩,_,.inl hOb,hF.ext (ExtO.put hOb _ _)⟩,by omega⟩
    repeat (first | exact Qa _ _ | refine Qb _ rfl ?_)
  ·obtain rfl:i=sh.length:=by omega
   rw [List.drop_length,Jy] at hF
   simp only [List.map_cons,List.map_nil] at hF
   simp [h12,w175_0,hbe,hrow,hlm,Vn _ hlm]
   refine hF _ (ExtO.put0 hOb _) _ (fun m2 _ hF2=>?_) (fun m2 hK=>?_)
   ·simp [rs175]
    exact hF2 _ (ExtO.refl _ _)
   ·simp [rs175]
    exact hK _ (ExtO.refl _ _)
open Go Go.Abs
def addA (L:List Sp) (f t:Int):List Sp :=
 if f < t then (match L.getLast? with | some s=>if s.2=f then L.dropLast++[(s.1,t)] else L++[(f,t)] | none=>[(f,t)]) else L
def OutB (m:AM) (id k:Nat) (L:List Sp):Prop:=id < m.boxes.length/\((L=[]/\Qf m.boxes id=[.sl .nil []])\/(L≠[]/\k < m.boxes.length/\k≠id/\Qf m.boxes id=[.bs k 0 L.length 2]/\Qf m.boxes k=fl2 L))
def orcA:Nat->FuncId->List AV->AV:=fun d f _=>if f=999999 then (if d=34 then .mobj 0 [] else .junk) else .junk
theorem addA_eff (Y:YT) (f t:Int) (id k:Nat) (L:List Sp) (m:AM) (hO:OutB m id k L) (hl:L.length<=1000000000) (K:AV->AM->Prop)
  (hK:∀ m' k',OutB m' id k' (addA L f t)->(k'=k\/m.boxes.length<=k')->Keep (fun j=>j=id\/(L≠[]/\j=k)) m.boxes m'.boxes->m'.st=m.st->m'.ln=m.ln->m'.lens=m.lens->K (.tup []) m'):EffY Tryz.prog gl0 Y 153 [I f,I t,.ptr id 0] m K:=by
 obtain ⟨h2,h3⟩:=hO
 refine Zb code153 orcA (by simp) ?_
 have hra:∀ x,Qf (m.boxes++x) id=Qf m.boxes id:=fun x=>Qh h2
 have hsa:∀ x y,(m.boxes++x).set id y=m.boxes.set id y++x:=fun x y=>Vq y h2
 by_cases hft:f < t
 ·have hft2:¬ t<=f:=by omega
  rcases h3 with ⟨rfl,h1⟩ | ⟨hne,hk,hki,h1,hrow⟩
  ·have ha:addA [] f t=[(f,t)]:=by simp [addA,hft]
   rw [ha] at hK
   simp [sc153,rs153,orcA,hft,hft2,h1,h2,hra,hsa]
   refine ⟨by omega,hK _ m.boxes.length ⟨by simp;omega,.inr ⟨by simp,by simp,by omega,?_,?_⟩⟩ (.inr (Nat.le_refl _)) ((Keep.set (S:=fun j=>j=id\/(([]:List Sp)≠[]/\j=k)) (Keep.refl _ _) (.inl (.inl rfl)) _).app _) rfl rfl rfl⟩
   ·simp only [List.length_singleton]
    rw [Qh (by simpa using h2),Vn _ h2]
   ·have:=Zn (m.boxes.set id [.bs m.boxes.length 0 1 2]) [[I f,I t]] 0
    rw [List.length_set] at this;simpa using this
  ·obtain ⟨A,s,rfl⟩:∃ A s,L=A++[s]:=⟨L.dropLast,L.getLast hne,(List.dropLast_concat_getLast hne).symm⟩
   have ha:addA (A++[s]) f t=if s.2=f then A++[(s.1,t)] else A++[s]++[(f,t)]:=by simp [addA,hft]
   rw [ha] at hK
   have hw:IntKind.i64.wrap (A.length:Int)=(A.length:Int):=by simp at hl;rw [Qe]<;>omega
   have hg:(A++[s])[A.length]? = some s:=by simp
   have g0:=fl2_get hg
   have g1:=fl2_get1 hg
   have hln:(A++[s]).length=A.length+1:=by simp
   rw [hln] at h1
   have gl:(fl2 (A++[s])).length=A.length*2+2:=by rw [Vb,hln];omega
   have hR2:fl2 (A++[s]++[(f,t)])=fl2 (A++[s])++[I f,I t]:=by rw [Wd];rfl
   have hR1:(fl2 (A++[s])).set (A.length*2+1) (I t)=fl2 (A++[(s.1,t)]):=by rw [fl2_set1 _ _ s _ hg];simp
   have hrk:∀ x,Qf (m.boxes++x) k=fl2 (A++[s]):=fun x=>by rw [Qh hk];exact hrow
   have hsk:∀ x y,(m.boxes++x).set k y=m.boxes.set k y++x:=fun x y=>Vq y hk
   generalize hR:fl2 (A++[s])=R at *
   by_cases hs:s.2=f
   ·rw [if_pos hs] at hK
    simp [sc153,rs153,orcA,hft,hft2,h1,h2,hw,hrow,g0,g1,gl,hra,hsa,hrk,hsk,hk,hs]
    refine ⟨by omega,hK _ k ⟨by simpa using h2,.inr ⟨by simp,by simpa using hk,hki,?_,?_⟩⟩ (.inl rfl) (Keep.set (S:=fun j=>j=id\/(A++[s]≠[]/\j=k)) (Keep.refl _ _) (.inl (.inr ⟨by simp,rfl⟩)) _) rfl rfl rfl⟩
    ·show Qf (m.boxes.set k _) id=_
     rw [Zu _ hki,h1];simp
    ·show Qf (m.boxes.set k _) k=_
     rw [Vn _ hk];exact hR1
   ·rw [if_neg hs] at hK
    simp [sc153,rs153,orcA,hft,hft2,h1,h2,hw,hrow,g0,g1,gl,hra,hsa,hrk,hsk,hk,hs]
    have hRt:List.take ((A.length+1)*2) R=R:=List.take_of_length_le (by omega)
    have hRne:¬ R=[]:=by rintro rfl;simp at gl
    have hri:∀ x,Qf (m.boxes.set k []++x) id=[AV.bs k 0 (A.length+1) 2]:=fun x=>by rw [Qh (by simpa using h2),Zu _ hki,h1]
    simp only [hRt,hri]
    refine ⟨by omega,⟨⟨hRne,by omega⟩,by simp at hl;omega⟩,⟨by simp,by omega⟩,?_⟩
    refine hK _ m.boxes.length ⟨by simp;omega,.inr ⟨by simp,by simp,by omega,?_,?_⟩⟩ (.inr (Nat.le_refl _)) ?_ rfl rfl rfl
    ·show Qf ((m.boxes.set k []).set id _++_) id=_
     rw [Qh (by simpa using h2),Vn _ (by simpa using h2)];simp
    ·have:=Zn ((m.boxes.set k []).set id [.bs m.boxes.length 0 (A.length+1+1) 2]) [R++[I f,I t]] 0
     simp only [List.length_set] at this
     rw [hR2];simpa using this
    ·exact ((Keep.set (S:=fun j=>j=id\/(A++[s]≠[]/\j=k)) (Keep.refl _ _) (.inl (.inr ⟨by simp,rfl⟩)) _).set (.inl (.inl rfl)) _).app _
 ·have ha:addA L f t=L:=by simp [addA,hft]
  rw [ha] at hK
  have hft2:t<=f:=by omega
  simp [sc153,rs153,hft,hft2]
  exact hK m k ⟨h2,h3⟩ (.inl rfl) (Keep.refl _ _) rfl rfl rfl
open Go Go.Abs
theorem addA_len (L:List Sp) (f t:Int):(addA L f t).length<=L.length+1:=by
 unfold addA
 split
 ·split
  ·rename_i s hs
   split
   ·have:0 < L.length:=by cases L with
     | nil=>simp at hs
     | cons=>simp
    simp<;>omega
   ·simp
  ·simp
 ·omega
def winL (sf st mid:Int):List Sp->List Sp->List Sp
 | [],L=>L
 | w::W,L=>winL sf st mid W (addA L (max sf (mid+w.1)) (min st (mid+w.2)))
theorem winL_len (sf st mid:Int):∀ (W L:List Sp),(winL sf st mid W L).length<=L.length+W.length
 | [],L=>by simp [winL]
 | w::W,L=>by
  have h1:=winL_len sf st mid W (addA L (max sf (mid+w.1)) (min st (mid+w.2)))
  have h2:=addA_len L (max sf (mid+w.1)) (min st (mid+w.2))
  simp [winL];omega
def dayL (W:List Sp) (sf st mid:Int) (L:List Sp):List Sp :=
 if mid < st then dayL W sf st (mid+86400) (winL sf st mid W L) else L
termination_by (st - mid).toNat
decreasing_by omega
def DayI (m0:AM) (k0:Nat) (m:AM) (k:Nat) (L:List Sp):Prop :=
 OutB m 4 k L/\(k=k0\/m0.boxes.length<=k)/\Keep (fun j=>j=4\/j=k0) m0.boxes m.boxes/\m.st=m0.st/\m.ln=m0.ln/\m.lens=m0.lens
theorem OutB.app {m:AM} {id k:Nat} {L:List Sp} (h:OutB m id k L) (x:List (List AV)):OutB { m with boxes:=m.boxes++x } id k L:=by
 obtain ⟨h1,h2⟩:=h
 refine ⟨by simp;omega,?_⟩
 rcases h2 with ⟨h2,h3⟩ | ⟨h2,h3,h4,h5,h6⟩
 ·exact .inl ⟨h2,by show Qf (m.boxes++x) id=_;rw [Qh h1];exact h3⟩
 ·exact .inr ⟨h2,by simp;omega,h4,by show Qf (m.boxes++x) id=_;rw [Qh h1];exact h5,by show Qf (m.boxes++x) k=_;rw [Qh h3];exact h6⟩
theorem DayI.refl {m:AM} {k:Nat} {L:List Sp} (h:OutB m 4 k L):DayI m k m k L:=⟨h,.inl rfl,Keep.refl _ _,rfl,rfl,rfl⟩
theorem DayI.app {m0 m:AM} {k0 k:Nat} {L:List Sp} (h:DayI m0 k0 m k L) (x:List (List AV)):DayI m0 k0 { m with boxes:=m.boxes++x } k L :=
 ⟨h.1.app x,h.2.1,h.2.2.1.app x,h.2.2.2⟩
theorem DayI.step {m0 m m':AM} {k0 k k':Nat} {L L':List Sp} (h:DayI m0 k0 m k L) (hO:OutB m' 4 k' L') (hk:k'=k\/m.boxes.length<=k') (hK:Keep (fun j=>j=4\/(L≠[]/\j=k)) m.boxes m'.boxes) (h1:m'.st=m.st) (h2:m'.ln=m.ln) (h3:m'.lens=m.lens):DayI m0 k0 m' k' L':=by
 obtain ⟨a1,a2,a3,a4,a5,a6⟩:=h
 refine ⟨hO,?_,Keep.trans a3 (hK.mono ?_),by rw [h1,a4],by rw [h2,a5],by rw [h3,a6]⟩
 ·have:=a3.1
  omega
 ·rintro i (rfl | ⟨_,rfl⟩)
  ·exact .inl (.inl rfl)
  ·rcases a2 with a2 | a2
   ·exact .inl (.inr a2)
   ·exact .inr a2
theorem DayI.row {m0 m:AM} {k0 k:Nat} {L:List Sp} (h:DayI m0 k0 m k L) {j:Nat} (h1:j < m0.boxes.length) (h4:j≠4) (hk:j≠k0):Qf m.boxes j=Qf m0.boxes j:=h.2.2.1.2 j h1 (by rintro (h | h)<;>omega)
def Fix (s:Sp) (fr to:Int) (m:AM):Prop:=5 < m.boxes.length/\Qf m.boxes 1=[I s.1,I s.2]/\Qf m.boxes 2=[I fr]/\Qf m.boxes 3=[I to]/\Qf m.boxes 5=[.fn 153 [] [.ptr 4 0]]
theorem Fix.keep {s:Sp} {fr to:Int} {m m':AM} (h:Fix s fr to m) {S:Nat->Prop} (hK:Keep S m.boxes m'.boxes) (hS:∀ j,S j->j=4\/6<=j):Fix s fr to m':=by
 obtain ⟨h1,h2,h3,h4,h5⟩:=h
 have q:∀ j,j < 6->j≠4->Qf m'.boxes j=Qf m.boxes j:=fun j hj h4=>hK.2 j (by omega) (fun h=>by have:=hS j h;omega)
 exact ⟨Nat.lt_of_lt_of_le h1 hK.1,by rw [q 1 (by omega) (by omega)];exact h2,by rw [q 2 (by omega) (by omega)];exact h3,by rw [q 3 (by omega) (by omega)];exact h4,by rw [q 5 (by omega) (by omega)];exact h5⟩
theorem Fix.day {s:Sp} {fr to:Int} {m0 m:AM} {k0 k:Nat} {L:List Sp} (h:Fix s fr to m0) (hD:DayI m0 k0 m k L) (hk:k0=4\/6<=k0):Fix s fr to m :=
 h.keep hD.2.2.1 (by rintro j (h | h)<;>omega)
theorem Fix.app {s:Sp} {fr to:Int} {m:AM} (h:Fix s fr to m) (x:List (List AV)):Fix s fr to { m with boxes:=m.boxes++x } :=
 h.keep (S:=fun _=>False) ((Keep.refl _ _).app x) (fun _ h=>h.elim)
def Kl (of:Int) (sh:List Sp) (fr to:Int):Nat->FuncId->List AV->AV:=fun d f l =>
 if f=999999 then .junk else
 if f=40 then .bool (Vf of sh) else
 if f=152 then (match l with | [.int _ n]=>.bool (decide (0<=n/\n < 86400)) | _=>.junk) else
 if f=154 then .fn 175 [] [.ep [I of,.sl .ro (sh.map Qd)] 0] else
 if f=155 then (match l with | [.int _ n]=>.tup [I (n / 86400),I (n % 86400)] | _=>.junk) else
 if f=156 then .sl .full ((Wi fr to).map Qd) else .gd false .junk
def tl122:SC:=(.block 2 (.loop (.seq (.seq (.ops [⟨(some 82),(.mv (.tmp 16)),none,[]⟩,⟨(some 83),(.mv (.tmp 13)),none,[]⟩,⟨(some 84),(.bin .lss (.tmp 82) (.tmp 83)),none,[]⟩]) (.cond (.tmp 84) .skip (.exit 2))) (.seq (.block 3 (.seq (.ops [⟨(some 87),(.load false 1 (.tmp 6)),none,[]⟩,⟨(some 88),(.load false 1 (.tmp 7)),none,[]⟩,⟨(some 89),(.call (.func 156) [(.tmp 87),(.tmp 88)]),none,[]⟩,⟨(some 90),(.len (.tmp 89)),none,[]⟩,⟨(some 91),(.mv (.const (.int .i64 0))),none,[]⟩]) (.block 4 (.loop (.seq (.ops [⟨(some 92),(.bin .lss (.tmp 91) (.tmp 90)),none,[]⟩]) (.seq (.cond (.tmp 92) .skip (.exit 4)) (.seq (.block 5 (.seq (.ops [⟨(some 93),(.iaddr 2 (.tmp 89) (.tmp 91)),none,[]⟩,⟨(some 94),(.load true 2 (.tmp 93)),none,[]⟩,⟨(some 18),(.alloc [(.int .i64 0),(.int .i64 0)]),none,[]⟩,⟨none,(.store 2 (.tmp 18) (.tmp 94)),none,[]⟩]) (.ops [⟨(some 95),(.load false 1 (.tmp 10)),none,[]⟩,⟨(some 96),(.mv (.tmp 12)),none,[]⟩,⟨(some 97),(.mv (.tmp 16)),none,[]⟩,⟨(some 98),(.faddr 0 (.tmp 18)),none,[]⟩,⟨(some 99),(.load false 1 (.tmp 98)),none,[]⟩,⟨(some 100),(.bin .add (.tmp 97) (.tmp 99)),none,[]⟩,⟨(some 101),(.mx (.tmp 96) (.tmp 100)),none,[]⟩,⟨(some 102),(.mv (.tmp 13)),none,[]⟩,⟨(some 103),(.mv (.tmp 16)),none,[]⟩,⟨(some 104),(.faddr 1 (.tmp 18)),none,[]⟩,⟨(some 105),(.load false 1 (.tmp 104)),none,[]⟩,⟨(some 106),(.bin .add (.tmp 103) (.tmp 105)),none,[]⟩,⟨(some 107),(.mn (.tmp 102) (.tmp 106)),none,[]⟩,⟨(some 108),(.call (.tmp 95) [(.tmp 101),(.tmp 107)]),none,[]⟩]))) (.ops [⟨(some 109),(.bin .add (.tmp 91) (.const (.int .i64 1))),none,[]⟩,⟨(some 91),(.mv (.tmp 109)),none,[]⟩])))))))) (.ops [⟨(some 85),(.mv (.tmp 16)),none,[]⟩,⟨(some 86),(.bin .add (.tmp 85) (.const (.int .i64 86400))),none,[]⟩,⟨(some 16),(.mv (.tmp 86)),none,[]⟩])))))
def hd122 (t:SC):SC:=(.seq (.ops [⟨(some 4),(.box (.tmp 0)),none,[]⟩,⟨(some 5),(.box (.tmp 1)),none,[]⟩,⟨(some 6),(.box (.tmp 2)),none,[]⟩,⟨(some 7),(.box (.tmp 3)),none,[]⟩,⟨(some 8),(.mv (.const (.sl .nil []))),none,[]⟩]) (.scope (.seq (.seq (.ops [⟨(some 19),(.load true 2 (.tmp 4)),none,[]⟩,⟨(some 20),(.call (.func 40) [(.tmp 19)]),none,[]⟩,⟨(some 21),(.un .not (.tmp 20)),none,[]⟩,⟨(some 22),(.mv (.tmp 21)),none,[]⟩,⟨(some 23),(.load false 1 (.tmp 6)),(some ((some 22),false)),[(.tmp 6)]⟩,⟨(some 24),(.call (.func 152) [(.tmp 23)]),(some ((some 22),false)),[(.func 152),(.tmp 23)]⟩,⟨(some 25),(.un .not (.tmp 24)),(some ((some 22),false)),[(.tmp 24)]⟩,⟨(some 26),(.pick (.tmp 22) (.const (.bool true)) (.tmp 25)),none,[]⟩,⟨(some 27),(.mv (.tmp 26)),none,[]⟩,⟨(some 28),(.load false 1 (.tmp 7)),(some ((some 27),false)),[(.tmp 7)]⟩,⟨(some 29),(.call (.func 152) [(.tmp 28)]),(some ((some 27),false)),[(.func 152),(.tmp 28)]⟩,⟨(some 30),(.un .not (.tmp 29)),(some ((some 27),false)),[(.tmp 29)]⟩,⟨(some 31),(.pick (.tmp 27) (.const (.bool true)) (.tmp 30)),none,[]⟩]) (.cond (.tmp 31) (.seq (.ops [⟨(some 8),(.mv (.const (.sl .nil []))),none,[]⟩]) .ret) .skip)) (.seq (.seq (.ops [⟨(some 32),(.faddr 0 (.tmp 5)),none,[]⟩,⟨(some 33),(.load false 1 (.tmp 32)),none,[]⟩,⟨(some 34),(.faddr 1 (.tmp 5)),none,[]⟩,⟨(some 35),(.load false 1 (.tmp 34)),none,[]⟩,⟨(some 36),(.bin .geq (.tmp 33) (.tmp 35)),none,[]⟩,⟨(some 37),(.mv (.tmp 36)),none,[]⟩,⟨(some 38),(.faddr 1 (.tmp 5)),(some ((some 37),false)),[(.tmp 5)]⟩,⟨(some 39),(.load false 1 (.tmp 38)),(some ((some 37),false)),[(.tmp 38)]⟩,⟨(some 40),(.conv .u64 (.tmp 39)),(some ((some 37),false)),[(.tmp 39)]⟩,⟨(some 41),(.faddr 0 (.tmp 5)),(some ((some 37),false)),[(.tmp 5)]⟩,⟨(some 42),(.load false 1 (.tmp 41)),(some ((some 37),false)),[(.tmp 41)]⟩,⟨(some 43),(.conv .u64 (.tmp 42)),(some ((some 37),false)),[(.tmp 42)]⟩,⟨(some 44),(.bin .sub (.tmp 40) (.tmp 43)),(some ((some 37),false)),[(.tmp 40),(.tmp 43)]⟩,⟨(some 45),(.bin .gtr (.tmp 44) (.const (.int .u64 1000000))),(some ((some 37),false)),[(.tmp 44),(.const (.int .u64 1000000))]⟩,⟨(some 46),(.pick (.tmp 37) (.const (.bool true)) (.tmp 45)),none,[]⟩]) (.cond (.tmp 46) (.seq (.ops [⟨(some 8),(.mv (.const (.sl .nil []))),none,[]⟩]) .ret) .skip)) (.seq (.ops [⟨(some 9),(.alloc [(.sl .nil [])]),none,[]⟩]) (.seq (.ops [⟨(some 47),(.mkfn 153 [] [(.tmp 9)]),none,[]⟩,⟨(some 10),(.alloc [.nilfn]),none,[]⟩,⟨none,(.store 1 (.tmp 10) (.tmp 47)),none,[]⟩]) (.seq .skip (.seq (.seq (.ops [⟨(some 48),(.load true 2 (.tmp 4)),none,[]⟩,⟨(some 49),(.call (.func 154) [(.tmp 48)]),none,[]⟩]) (.block 0 (.rfunc (.tmp 49) [50] (.ops [⟨(some 11),(.alloc [(.int .i64 0),(.int .i64 0),(.int .i64 0)]),none,[]⟩,⟨none,(.store 3 (.tmp 11) (.tmp 50)),none,[]⟩]) (.block 1 (.seq (.seq (.ops [⟨(some 51),(.faddr 0 (.tmp 11)),none,[]⟩,⟨(some 52),(.load false 1 (.tmp 51)),none,[]⟩,⟨(some 53),(.faddr 1 (.tmp 5)),none,[]⟩,⟨(some 54),(.load false 1 (.tmp 53)),none,[]⟩,⟨(some 55),(.bin .geq (.tmp 52) (.tmp 54)),none,[]⟩]) (.cond (.tmp 55) (.exit 0) .skip)) (.seq (.draw [⟨(some 56),(.faddr 0 (.tmp 11)),none,[]⟩,⟨(some 57),(.load false 1 (.tmp 56)),none,[]⟩,⟨(some 58),(.faddr 0 (.tmp 5)),none,[]⟩,⟨(some 59),(.load false 1 (.tmp 58)),none,[]⟩,⟨(some 60),(.mx (.tmp 57) (.tmp 59)),none,[]⟩,⟨(some 61),(.faddr 1 (.tmp 11)),none,[]⟩,⟨(some 62),(.load false 1 (.tmp 61)),none,[]⟩,⟨(some 63),(.faddr 1 (.tmp 5)),none,[]⟩,⟨(some 64),(.load false 1 (.tmp 63)),none,[]⟩,⟨(some 65),(.mn (.tmp 62) (.tmp 64)),none,[]⟩,⟨(some 12),(.mv (.tmp 60)),none,[]⟩] [⟨(some 13),(.mv (.tmp 65)),none,[]⟩]) (.seq (.seq (.ops [⟨(some 66),(.mv (.tmp 12)),none,[]⟩,⟨(some 67),(.mv (.tmp 13)),none,[]⟩,⟨(some 68),(.bin .geq (.tmp 66) (.tmp 67)),none,[]⟩]) (.cond (.tmp 68) (.exit 1) .skip)) (.seq (.ops [⟨(some 70),(.mv (.tmp 12)),none,[]⟩,⟨(some 71),(.faddr 2 (.tmp 11)),none,[]⟩,⟨(some 72),(.load false 1 (.tmp 71)),none,[]⟩,⟨(some 73),(.bin .add (.tmp 70) (.tmp 72)),none,[]⟩,⟨(some 74),(.call (.func 155) [(.tmp 73)]),none,[]⟩,⟨(some 69),(.mv (.tmp 74)),none,[]⟩,⟨(some 75),(.ext (.tmp 69) 0),none,[]⟩,⟨(some 76),(.ext (.tmp 69) 1),none,[]⟩,⟨(some 14),(.mv (.tmp 75)),none,[]⟩,⟨(some 15),(.mv (.tmp 76)),none,[]⟩]) (.seq (.ops [⟨(some 77),(.mv (.tmp 14)),none,[]⟩,⟨(some 78),(.bin .mul (.tmp 77) (.const (.int .i64 86400))),none,[]⟩,⟨(some 79),(.faddr 2 (.tmp 11)),none,[]⟩,⟨(some 80),(.load false 1 (.tmp 79)),none,[]⟩,⟨(some 81),(.bin .sub (.tmp 78) (.tmp 80)),none,[]⟩,⟨(some 16),(.mv (.tmp 81)),none,[]⟩]) t))))))))) (.seq (.ops [⟨(some 110),(.load false 1 (.tmp 9)),none,[]⟩,⟨(some 8),(.mv (.tmp 110)),none,[]⟩]) .ret)))))))))
theorem sc122_eq:sc122=hd122 tl122:=rfl
theorem winS_ok {fr to:Int} (h1:0<=fr/\fr < 86400) (h2:0<=to/\to < 86400):(Wi fr to).length<=2/\∀ w∈Wi fr to,0<=w.1/\w.1<=86400/\0<=w.2/\w.2<=86400:=by
 unfold Wi
 split
 ·simp;omega
 ·split
  ·simp;omega
  ·simp
theorem days_vc (Y:YT) (of:Int) (sh:List Sp) (fr to:Int) (hfr:0<=fr/\fr < 86400) (hto:0<=to/\to < 86400) (E:List (Nat×AV)) (m:AM) (k0:Nat) (L0:List Sp) (sf st mid0:Int) (Q:Exit->AS->Prop)
  (s:Sp) (h6:Abs.look E 6=.ptr 2 0) (h7:Abs.look E 7=.ptr 3 0) (h10:Abs.look E 10=.ptr 5 0) (h12:Abs.look E 12=I sf) (h13:Abs.look E 13=I st) (h16:Abs.look E 16=I mid0)
  (hf:Fix s fr to m) (hO:OutB m 4 k0 L0) (hk:k0=4\/6<=k0)
  (hb : -100000000000<=mid0/\mid0<=100000000000/\st<=100000000000) (hl:L0.length+2*((st - mid0) / 86400+1).toNat<=100000)
  (hQ:∀ T m' k',DayI m k0 m' k' (dayL (Wi fr to) sf st mid0 L0)->Q .normal ⟨T,m'⟩) :
  vc Tryz.prog gl0 (Kl of sh fr to) Y tl122 ⟨Vd 111 E,m⟩ Q:=by
 obtain ⟨hW2,hWb⟩:=winS_ok hfr hto
 have h177:=windows_pure fr to
 simp [tl122]
 refine Ql w122_0 (fun f mm=>∃ (mid:Int) (k:Nat) (L:List Sp),f 16=I mid/\DayI m k0 mm k L /\ -100000000000<=mid/\mid<=100000086400/\L.length+2*((st - mid) / 86400+1).toNat<=100000/\dayL (Wi fr to) sf st mid L=dayL (Wi fr to) sf st mid0 L0) (fun f _=>(st - numOf (f 16)).toNat) ?_ ?_
 ·exact ⟨mid0,k0,L0,by simp [h16],DayI.refl hO,by omega,by omega,hl,rfl⟩
 ·rintro f mm ⟨mid,k,L,hm16,hD,b1,b2,b3,hR⟩
  by_cases hlt:mid < st
  ·have hw86:IntKind.i64.wrap (mid+86400)=mid+86400:=by rw [Qe]<;>omega
   rw [dayL,if_pos hlt] at hR
   obtain ⟨f0,f1,f2,f3,f5⟩:=hf.day hD hk
   generalize hWe:Wi fr to=W at *
   simp [hm16,h6,h7,h10,h12,h13,w122_0,hlt,Kl,hWe,f2,f3]
   refine ⟨h177,?_⟩
   refine Ql w122_1 (fun f' m'=>∃ (i k':Nat) (L':List Sp),f' 91=I i/\i<=W.length/\DayI m k0 m' k' L'/\L'.length<=L.length+i/\winL sf st mid (W.drop i) L'=winL sf st mid W L) (fun f' _=>W.length - (numOf (f' 91)).toNat) ?_ ?_
   ·exact ⟨0,k,L,by simp,by omega,hD,by omega,rfl⟩
   ·rintro f' m' ⟨i,k',L',h91,hi,hD',hL',hR'⟩
    obtain ⟨g0,g1,g2,g3,g5⟩:=hf.day hD' hk
    rcases Nat.lt_or_ge i W.length with hiw | hge
    ·obtain ⟨w,hw⟩:=getS hiw
     have hrw:=Zm hw
     obtain ⟨c1,c2,c3,c4⟩:=hWb w (List.mem_of_getElem? hw)
     have hilt:(i:Int) < (W.length:Int):=by omega
     have hwi:=wrS i (by omega)
     have hw1:IntKind.i64.wrap (mid+w.1)=mid+w.1:=by rw [Qe]<;>omega
     have hw2:IntKind.i64.wrap (mid+w.2)=mid+w.2:=by rw [Qe]<;>omega
     have hd:W.drop i=w::W.drop (i+1):=by rw [List.drop_eq_getElem_cons hiw,(List.getElem?_eq_some_iff.1 hw).2]
     rw [hd,winL] at hR'
     have hra:∀ x,Qf (m'.boxes++x) 5=[.fn 153 [] [.ptr 4 0]]:=fun x=>by rw [Qh g0];exact g5
     have hrb:∀ x,Qf (m'.boxes++[x]) m'.boxes.length=x:=fun x=>by
      simp
     have hmx:(if sf < mid+w.1 then mid+w.1 else sf)=max sf (mid+w.1):=by omega
     have hmn:(if mid+w.2 < st then mid+w.2 else st)=min st (mid+w.2):=by omega
     have hadd:=fun K hK=>addA_eff Y (max sf (mid+w.1)) (min st (mid+w.2)) 4 k' L' { m' with boxes:=m'.boxes++[[I w.1,I w.2]] } (hD'.1.app _) (by omega) K hK
     simp [h91,hiw,hilt,hrw,w122_1,h10,h12,h13,hm16,g5,hra,hrb,hw1,hw2,g0,hmx,hmn,hwi,Kl]
     refine hadd _ fun m2 k2 e1 e2 e3 e4 e5 e6=>?_
     have hD2:=(hD'.app [[I w.1,I w.2]]).step e1 e2 e3 e4 e5 e6
     have:=addA_len L' (max sf (mid+w.1)) (min st (mid+w.2))
     refine ⟨ag ?_,⟨i+1,by omega,by omega,k2,_,hD2,by omega,hR'⟩,by omega⟩
     repeat (first | exact Qa _ _ | refine Qb _ rfl ?_)
    ·obtain rfl:i=W.length:=by omega
     rw [List.drop_length,winL] at hR'
     rw [<- hR'] at hR
     simp [h91,w122_1,hm16,hw86]
     refine ⟨ag ?_,⟨k',L',hD',by omega,by omega,by omega,hR⟩,by omega⟩
     repeat (first | exact Qa _ _ | refine Qb _ rfl ?_)
  ·have hR0:=hR
   rw [dayL,if_neg hlt] at hR
   simp [hm16,h13,w122_0,hlt]
   exact hQ _ _ k (by rw [<- hR];exact hD)
open Go Go.Abs
def stL (s:Sp) (W:List Sp) (x:Int×Int×Int) (L:List Sp):List Sp :=
 if min x.2.1 s.2<=max x.1 s.1 then L else dayL W (max x.1 s.1) (min x.2.1 s.2) ((max x.1 s.1+x.2.2) / 86400*86400 - x.2.2) L
def calL (s:Sp) (W:List Sp):List (Int×Int×Int)->List Sp->List Sp
 | [],L=>L
 | x::r,L=>if s.2<=x.1 then L else calL s W r (stL s W x L)
def dayB (n:Int):Bool:=decide (0<=n/\n < 86400)
def calB (of:Int) (sh:List Sp) (s:Sp) (fr to:Int):Bool:=Vf of sh&&dayB fr&&dayB to&&decide (s.1 < s.2/\s.2 - s.1<=1000000)
def calS (of:Int) (sh:List Sp) (s:Sp) (fr to:Int):List Sp:=if calB of sh s fr to then calL s (Wi fr to) (Jy 0 of sh) [] else []
def stOk (x:Int×Int×Int):Prop:=0<=x.1/\x.1<=10000000000/\x.2.1<=10000000001 /\ -50400<=x.2.2/\x.2.2<=50400
theorem stch_ok:∀ (sh:List Sp) (f o last:Int),0<=f->f<=10000000000 -> -1<=last -> -50400<=o->o<=50400->ascZ last sh=true->(∀ x∈Jy f o sh,stOk x)
 | [],f,o,last,h1,h2,_,h3,h4,_=>by simp [Jy,stOk];omega
 | s::r,f,o,last,h1,h2,hla,h3,h4,ha=>by
  rw [ascZ] at ha
  split at ha
  ·cases ha
  ·rename_i hn
   simp only [not_or,Bool.not_eq_false,isOff,decide_eq_true_eq] at hn
   have ih:=stch_ok r s.1 s.2 s.1 (by omega) (by omega) (by omega) (by omega) (by omega) ha
   intro x hx
   rw [Jy,List.mem_append] at hx
   rcases hx with hx | hx
   ·split at hx
    ·simp at hx;subst hx;simp [stOk];omega
    ·simp at hx
   ·exact ih x hx
theorem stch_len:∀ (sh:List Sp) (f o:Int),(Jy f o sh).length<=sh.length+1
 | [],f,o=>by simp [Jy]
 | s::r,f,o=>by
  have:=stch_len r s.1 s.2
  rw [Jy]
  split<;>simp<;>omega
theorem dayL_len (W:List Sp) (hW:W.length<=2) (sf st:Int):∀ (n:Nat) (mid:Int) (L:List Sp),(st - mid).toNat<=n->(dayL W sf st mid L).length<=L.length+2*((st - mid) / 86400+1).toNat:=by
 intro n
 induction n with
 | zero=>intro mid L h;rw [dayL,if_neg (by omega)];omega
 | succ n ih =>
  intro mid L h
  rw [dayL]
  split
  ·have:=ih (mid+86400) (winL sf st mid W L) (by omega)
   have:=winL_len sf st mid W L
   omega
  ·omega
def CalI (R:List Sp) (s:Sp) (fr to:Int) (xs:List (Int×Int×Int)) (O:Nat->Prop) (i:Nat) (m:AM):Prop :=
 ∃ k L,OutB m 4 k L/\(k=4\/6<=k)/\¬ O k/\k < m.boxes.length/\(∀ j,O j->6<=j)/\Fix s fr to m/\L.length<=40*i/\calL s (Wi fr to) (xs.drop i) L=R
def CalX (R:List Sp) (O:Nat->Prop) (ex:Exit) (m:AM):Prop:=ex=.exit 0/\∃ k,OutB m 4 k R/\¬ O k/\(∀ j,O j->6<=j)
theorem OutB.cg {m m':AM} {id k:Nat} {L:List Sp} (h:OutB m id k L) (e:m'.boxes=m.boxes):OutB m' id k L:=by unfold OutB at *;rw [e];exact h
theorem Fix.cg {s:Sp} {fr to:Int} {m m':AM} (h:Fix s fr to m) (e:m'.boxes=m.boxes):Fix s fr to m':=by unfold Fix at *;rw [e];exact h
theorem OutB.extO {O:Nat->Prop} {m m':AM} {k:Nat} {L:List Sp} (h:OutB m 4 k L) (e:ExtO O m m') (h0:¬ O 4) (hk:¬ O k):OutB m' 4 k L:=by
 obtain ⟨h1,h2⟩:=h
 refine ⟨Nat.lt_of_lt_of_le h1 e.1,?_⟩
 rcases h2 with ⟨h2,h3⟩ | ⟨h2,h3,h4,h5,h6⟩
 ·exact .inl ⟨h2,by rw [e.2.1 4 h1 h0];exact h3⟩
 ·exact .inr ⟨h2,Nat.lt_of_lt_of_le h3 e.1,h4,by rw [e.2.1 4 h1 h0];exact h5,by rw [e.2.1 k h3 hk];exact h6⟩
theorem CalI.ext {R:List Sp} {s:Sp} {fr to:Int} {xs:List (Int×Int×Int)} {O:Nat->Prop} {i:Nat} {m m':AM} (h:CalI R s fr to xs O i m) (e:ExtO O m m'):CalI R s fr to xs (OU O m.boxes.length m'.boxes.length) i m':=by
 obtain ⟨k,L,h1,h2,h3,h4,h5,h6,h8,h9⟩:=h
 refine ⟨k,L,h1.extO e (fun h=>by have:=h5 4 h;omega) h3,h2,?_,Nat.lt_of_lt_of_le h4 e.1,?_,h6.keep (S:=O) ⟨e.1,e.2.1⟩ (fun j h=>.inr (h5 j h)),h8,h9⟩
 ·rintro (h | h)
  ·exact h3 h
  ·omega
 ·have:=h6.1
  rintro j (h | h)
  ·exact h5 j h
  ·omega
theorem CalX.ext {R:List Sp} {O:Nat->Prop} {ex:Exit} {m m':AM} (h:CalX R O ex m) (e:ExtO O m m'):CalX R O ex m':=by
 obtain ⟨h0,k,h1,h3,h5⟩:=h
 exact ⟨h0,k,h1.extO e (fun h=>by have:=h5 4 h;omega) h3,h3,h5⟩
theorem calSpans_pure0 (of:Int) (sh:List Sp) (s:Sp) (fr to:Int) (hsh:sh.length<=1000000000) (h1 : -9223372036854775808<=s.1/\s.1<=9223372036854775807) (h2 : -9223372036854775808<=s.2/\s.2<=9223372036854775807) :
  Pure Tryz.prog gl0 122 [.agg [I of,.sl .ro (sh.map Qd)],.agg [I s.1,I s.2],I fr,I to] (if calS of sh s fr to=[] then .sl .nil [] else .sl .ro ((calS of sh s fr to).map Qd)):=by
 have k89:=zvalid_pure of sh (by omega)
 have k173:=inDay_pure fr
 have k173':=inDay_pure to
 have k175:=stretches_pure of sh
 refine Qn code122 (Kl of sh fr to) (by simp) ?_
 rw [sc122_eq]
 generalize hR:calS of sh s fr to=R
 by_cases hv:Vf of sh=true
 ·rw [hv] at k89
  by_cases hf:0<=fr/\fr < 86400
  ·rw [decide_eq_true hf] at k173
   by_cases ht:0<=to/\to < 86400
   ·rw [decide_eq_true ht] at k173'
    by_cases hlt:s.1 < s.2
    ·have hle:¬ s.2<=s.1:=by omega
     have hu:IntKind.u64.wrap (IntKind.u64.wrap s.2 - IntKind.u64.wrap s.1)=s.2 - s.1:=by
      have q:∀ z:Int,IntKind.u64.wrap z=z % 18446744073709551616:=fun z=>by simp [IntKind.wrap,IntKind.bits,IntKind.signed]
      rw [q,q,q];omega
     by_cases hm:s.2 - s.1<=1000000
     ·have hm2:¬ 1000000 < s.2 - s.1:=by omega
      simp [hd122,Kl,hv,hf,ht,hlt,hle,hu,hm,hm2]
      refine ⟨k89,k173,k173',k175,?_⟩
      have hit:=stretches_iter of sh hsh
      have hz:sh.length<=40/\isOff of=true/\ascZ (-1) sh=true:=by simpa [Vf,and_assoc] using hv
      have hof : -50400<=of/\of<=50400:=by simpa [isOff] using hz.2.1
      have hok:=stch_ok sh 0 of (-1) (by decide) (by decide) (by decide) hof.1 hof.2 hz.2.2
      have hxl:=stch_len sh 0 of
      have hRc:calL s (Wi fr to) (Jy 0 of sh) []=R:=by rw [<- hR,calS,if_pos (by simp [calB,hv,dayB,hf,ht,hlt,hm])]
      clear k89 k173 k173' k175 hu
      generalize hX:Jy 0 of sh=xs at *
      refine vc_rfuncO (xs:=xs.map stAgg) (by simp) hit (by intro x hx;simp at hx;obtain ⟨a,b,c,_,rfl⟩:=hx;rfl) (CalI R s fr to xs) (CalX R) ?_ (fun _ _ _ _ h e=>h.ext e) (fun _ _ _ _ h e=>h.ext e) ?_ ?_ ?_
      ·refine ⟨4,[],⟨by simp,.inl ⟨rfl,by simp⟩⟩,.inl rfl,id,by simp,fun _ h=>h.elim,⟨by simp,by simp,by simp,by simp,by simp⟩,by simp,by simpa using hRc⟩
      ·rintro O l i m x hO hle0 hg0 hrd ⟨k,L,i1,i2,i3,i4,i5,i6,i8,i9⟩ hx K' q1 q2 q3
       rw [List.getElem?_map,Option.map_eq_some_iff] at hx
       obtain ⟨⟨a,b,o⟩,hx,rfl⟩:=hx
       obtain ⟨o1,o2,o3,o4,o5⟩:=hok _ (List.mem_of_getElem? hx)
       simp only at o1 o2 o3 o4 o5
       have hil:i < xs.length:=(List.getElem?_eq_some_iff.1 hx).1
       have hd:xs.drop i=(a,b,o)::xs.drop (i+1):=by rw [List.drop_eq_getElem_cons hil,(List.getElem?_eq_some_iff.1 hx).2]
       rw [hd,calL] at i9
       simp only [Vw] at i4
       have hf6:=i6
       obtain ⟨f0,f1,f2,f3,f5⟩:=i6
       have hOl:∀ j,O j->j < m.boxes.length:=fun j h=>(hO j h).2
       have hil0:xs.length<=41:=by omega
       clear hO hle0 hg0 hit hR hX
       simp only [Vw] at f0 f1 f2 f3 f5
       have hra:∀ x,Qf (m.boxes++x) 1=[I s.1,I s.2]:=fun x=>by rw [Qh (by omega)];exact f1
       have hrb:∀ x,Qf (m.boxes++[x]) m.boxes.length=x:=fun x=>by
        simp
       by_cases hc:s.2<=a
       ·rw [if_pos hc] at i9
        simp [hrd,Xh,stAgg,hra,hrb,hc]
        subst i9
        refine q3 0 _ (by simp) ⟨rfl,k,?_,i3,i5⟩
        exact (i1.app [[I a,I b,I o]]).cg (by simp)
       ·rw [if_neg hc] at i9
        have hmx:(if a < s.1 then s.1 else a)=max a s.1:=by omega
        have hmn:(if s.2 < b then s.2 else b)=min b s.2:=by omega
        by_cases he:min b s.2<=max a s.1
        ·rw [stL,if_pos he] at i9
         simp [hrd,Xh,stAgg,hra,hrb,hc,hmx,hmn,he]
         refine q1 _ ⟨by simp,fun j hj=>Qh (hOl j hj)⟩ ⟨k,L,(i1.app [[I a,I b,I o]]).cg (by simp),i2,i3,by simp;omega,i5,(hf6.app [[I a,I b,I o]]).cg (by simp),by omega,i9⟩
        ·rw [stL,if_neg he] at i9
         have hw0:IntKind.i64.wrap (max a s.1+o)=max a s.1+o:=by rw [Qe]<;>omega
         have hdv:=divide_pure (max a s.1+o) (by omega)
         have hw1:IntKind.i64.wrap ((max a s.1+o) / 86400*86400)=(max a s.1+o) / 86400*86400:=by rw [Qe]<;>omega
         have hw2:IntKind.i64.wrap ((max a s.1+o) / 86400*86400 - o)=(max a s.1+o) / 86400*86400 - o:=by rw [Qe]<;>omega
         simp [hrd,Xh,stAgg,hra,hrb,hc,hmx,hmn,he,hw0,hw1,hw2,Kl]
         refine ⟨hdv,?_⟩
         refine days_vc Y0 of sh fr to hf ht _ _ k L (max a s.1) (min b s.2) ((max a s.1+o) / 86400*86400 - o) _ s (by simp) (by simp) (by simp) (by simp) (by simp) (by simp) ((hf6.app [[I a,I b,I o]]).cg (by simp)) ((i1.app [[I a,I b,I o]]).cg (by simp)) i2 (by omega) (by omega) ?_
         intro T m' k' hD
         have hlen:m.boxes.length+1<=m'.boxes.length:=by have:=hD.2.2.1.1;simpa using this
         have hL':=dayL_len (Wi fr to) (winS_ok hf ht).1 (max a s.1) (min b s.2) _ ((max a s.1+o) / 86400*86400 - o) L (Nat.le_refl _)
         have hFx:=Fix.day (s:=s) (fr:=fr) (to:=to) ((hf6.app [[I a,I b,I o]]).cg (by simp)) hD i2
         have hk':k'=k\/m.boxes.length+1<=k':=by have:=hD.2.1;simpa using this
         have hS:SameO O m m':=⟨by omega,fun j hj=>by
          have:=hD.2.2.1.2 j (by simp;have:=hOl j hj;omega) (by rintro (rfl | rfl);have:=i5 4 hj;omega;exact i3 hj)
          rw [this];exact Qh (hOl j hj)⟩
         simp
         refine q1 ⟨T,m'⟩ hS ?_
         by_cases hLe:dayL (Wi fr to) (max a s.1) (min b s.2) ((max a s.1+o) / 86400*86400 - o) L=[]
         ·rw [hLe] at i9 hD
          refine ⟨4,[],⟨hD.1.1,?_⟩,.inl rfl,(fun h=>by have:=i5 4 h;omega),(by show 4 < m'.boxes.length;omega),i5,hFx,by simp,i9⟩
          rcases hD.1.2 with h | h
          ·exact .inl h
          ·exact absurd rfl h.1
         ·have hkl:k' < m'.boxes.length:=by
           rcases hD.1.2 with h | h
           ·exact absurd h.1 hLe
           ·exact h.2.1
          refine ⟨k',_,hD.1,by omega,?_,hkl,i5,hFx,by omega,i9⟩
          rcases hk' with rfl | hk'
          ·exact i3
          ·intro h;have:=hOl k' h;omega
      ·rintro O m ⟨k,L,i1,i2,i3,i4,i5,i6,i8,i9⟩
       rw [List.length_map,List.drop_length,calL] at i9
       subst i9
       rcases i1.2 with ⟨hL0,h⟩ | ⟨hne,h2,h3,h4,h5⟩
       ·simp [h,rs122,i1.1,hL0]
       ·have hcv:=Qae m 4 (fl2_ok L)
        have hch:=Qaz L
        have hfl:=Vb L
        simp [h4,rs122,hne,h5,hcv,hch,hfl,i1.1]
      ·rintro O ex m ⟨rfl,k,i1,i3,i5⟩
       rcases i1.2 with ⟨hL0,h⟩ | ⟨hne,h2,h3,h4,h5⟩
       ·simp [h,rs122,i1.1,hL0]
       ·have hcv:=Qae m 4 (fl2_ok R)
        have hch:=Qaz R
        have hfl:=Vb R
        simp [h4,rs122,hne,h5,hcv,hch,hfl,i1.1]
     ·have hR0:R=[]:=by rw [<- hR,calS,if_neg (by simp [calB];omega)]
      have hm2:1000000 < s.2 - s.1:=by omega
      simp [hd122,Kl,hv,hf,ht,hlt,hle,hu,hm,hm2,rs122,hR0,k89,k173,k173']
    ·have hR0:R=[]:=by rw [<- hR,calS,if_neg (by simp [calB];omega)]
     have hle:s.2<=s.1:=by omega
     simp [hd122,Kl,hv,hf,ht,hlt,hle,rs122,hR0,k89,k173,k173']
   ·have hR0:R=[]:=by rw [<- hR,calS,if_neg (by simp [calB,dayB];omega)]
    simp [hd122,Kl,hv,hf,ht,rs122,hR0,k89,k173]
    simpa [ht] using k173'
  ·have hR0:R=[]:=by rw [<- hR,calS,if_neg (by simp [calB,dayB];omega)]
   simp [hd122,Kl,hv,hf,rs122,hR0,k89]
   simpa [hf] using k173
 ·have hR0:R=[]:=by rw [<- hR,calS,if_neg (by simp [calB,hv])]
  simp [hd122,Kl,hv,rs122,hR0]
  simpa [hv] using k89
theorem calSpans_pure (of:Int) (sh:List Sp) (s:Sp) (fr to:Int) (hsh:sh.length<=1000000000) (h1 : -9223372036854775808<=s.1/\s.1<=9223372036854775807) (h2 : -9223372036854775808<=s.2/\s.2<=9223372036854775807) :
  Pure Tryz.prog gl0 122 [.agg [I of,.sl .ro (sh.map Qd)],.agg [I s.1,I s.2],I fr,I to] (.sl .ro ((calS of sh s fr to).map Qd)):=by
 have h:=calSpans_pure0 of sh s fr to hsh h1 h2
 by_cases hn:calS of sh s fr to=[]
 ·rw [if_pos hn] at h
  rw [hn]
  exact Yc h (Wk.sl _ _)
 ·rw [if_neg hn] at h
  exact h
theorem calL_len (s:Sp) (W:List Sp) (hW:W.length<=2) (hs:s.2 - s.1<=1000000):∀ (xs:List (Int×Int×Int)) (L:List Sp),(∀ x∈xs,stOk x)->(calL s W xs L).length<=L.length+40*xs.length
 | [],L,_=>by simp [calL]
 | x::r,L,h=>by
  rw [calL]
  split
  ·omega
  ·have ih:=calL_len s W hW hs r (stL s W x L) (fun y hy=>h y (by simp [hy]))
   obtain ⟨o1,o2,o3,o4,o5⟩:=h x (by simp)
   have:(stL s W x L).length<=L.length+40:=by
    unfold stL
    split
    ·omega
    ·have:=dayL_len W hW (max x.1 s.1) (min x.2.1 s.2) _ ((max x.1 s.1+x.2.2) / 86400*86400 - x.2.2) L (Nat.le_refl _)
     omega
   simp only [List.length_cons];omega
theorem calS_len (of:Int) (sh:List Sp) (s:Sp) (fr to:Int):(calS of sh s fr to).length<=2000:=by
 unfold calS
 split
 ·rename_i h
  simp only [calB,Vf,dayB,isOff,Bool.and_eq_true,decide_eq_true_eq] at h
  obtain ⟨⟨⟨⟨⟨a1,a2⟩,a3⟩,a4⟩,a5⟩,a6,a7⟩:=h
  have h1:=calL_len s (Wi fr to) (winS_ok a4 a5).1 a7 (Jy 0 of sh) [] (stch_ok sh 0 of (-1) (by decide) (by decide) (by decide) a2.1 a2.2 a3)
  have h2:=stch_len sh 0 of
  simp at h1;omega
 ·simp
end Go.Proofs.YtjmgelbfndnpjaaGreatDoor
