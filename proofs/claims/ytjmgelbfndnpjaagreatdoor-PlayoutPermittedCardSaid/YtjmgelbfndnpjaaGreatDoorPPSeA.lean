import Derived.Test.YtjmgelbfndnpjaaGreatDoorPPMM
set_option linter.unusedVariables false
set_option linter.unusedSimpArgs false
namespace Go.Proofs.YtjmgelbfndnpjaaGreatDoor
open Go Go.Abs
def covB (x:Int) (c:Cl):Bool:=decide (c.fr<=x/\x < c.to)
def grX (C:List Cl) (x:Int):Bool:=match C.reverse.find? (covB x) with
 | some c=>decide (c.ki=1)
 | none=>false
theorem find_congr {α:Type} {p q:α->Bool}:∀ {l:List α},(∀ a∈l,p a=q a)->l.find? p=l.find? q
 | [],_=>rfl
 | a::l,h=>by
  have h1:=h a (by simp)
  have ih:=find_congr (l:=l) fun b hb=>h b (by simp [hb])
  rw [List.find?_cons,List.find?_cons,h1,ih]
theorem Xx {x:Int}:∀ {l:List Int} {j:Nat} {v:Int},l.Pairwise (· < ·)->l[j]? = some v->(j < bsS l x<->v < x)
 | [],j,v,_,h=>by simp at h
 | a::r,j,v,hp,h=>by
  obtain ⟨h1,h2⟩:=List.pairwise_cons.1 hp
  have e:bsS (a::r) x=bsS r x+if a < x then 1 else 0:=by
   unfold bsS
   rw [List.filter_cons]
   by_cases ha:a < x<;>simp [ha]
  have hz:¬ a < x->bsS r x=0:=by
   intro ha
   unfold bsS
   rw [List.length_eq_zero_iff,List.filter_eq_nil_iff]
   intro y hy
   have:=h1 y hy
   simp;omega
  rw [e]
  cases j with
  | zero =>
   simp at h;subst h
   by_cases ha:a < x
   ·simp [ha]
   ·simp [ha,hz ha]
  | succ j =>
   simp at h
   have hav:=h1 v (List.mem_of_getElem? h)
   have ih:=Xx (x:=x) h2 h
   by_cases ha:a < x
   ·simp only [ha,if_true];omega
   ·have:=hz ha
    simp only [ha,if_false];omega
def idxB (Bd:List Int) (j:Nat) (c:Cl):Bool:=decide (bsS Bd c.fr<=j/\j < bsS Bd c.to)
theorem fold_get (Bd:List Int) (j:Nat):∀ (R:List Cl) (s:GS),(R.foldl (stC Bd) s)[j]? = (s[j]?).map fun o=>match o with
  | some v=>some v
  | none=>(R.find? (idxB Bd j)).map fun c=>decide (c.ki=1)
 | [],s=>by
  cases h:s[j]? with
  | none=>simp [h]
  | some o=>cases o<;>simp [h]
 | c::R,s=>by
  rw [List.foldl_cons,fold_get Bd j R,stC,Ye,List.find?_cons]
  cases h:s[j]? with
  | none=>simp
  | some o =>
   cases o with
   | some v=>simp
   | none =>
    by_cases hc:bsS Bd c.fr<=j/\j < bsS Bd c.to
    ·simp [idxB,hc]
    ·simp [idxB,hc]
theorem outC_has (Bd:List Int) (s:GS) (x:Int):∀ n,Xj (outC Bd s n) x<->∃ j,j < n/\s[j]? = some (some true)/\Bd.getD j 0<=x/\x < Bd.getD (j+1) 0
 | 0=>by simp [outC]
 | n+1=>by
  rw [outC_succ,Vo,outC_has Bd s x n]
  unfold outI
  constructor
  ·rintro (⟨j,h1,h2⟩ | h)
   ·exact ⟨j,by omega,h2⟩
   ·split at h
    ·rename_i hs
     rw [Xc] at h
     rcases h with h | h
     ·exact ⟨n,by omega,hs,h⟩
     ·simp at h
    ·simp at h
  ·rintro ⟨j,h1,h2,h3⟩
   rcases Nat.lt_or_ge j n with h | h
   ·exact .inl ⟨j,h,h2,h3⟩
   ·obtain rfl:j=n:=by omega
    right
    rw [if_pos h2,Xc]
    exact .inl h3
theorem getD_of {l:List Int} {j:Nat} {v:Int} (h:l[j]? = some v):l.getD j 0=v:=by
 simp [List.getD_eq_getElem?_getD,h]
theorem gr_ok (C:List Cl) (hC:∀ c∈C,c.fr < c.to) (x:Int):Xj (outC (bdC C) (finC C) (bdC C).length) x<->grX C x=true:=by
 have hasc:=bdC_asc C
 have hmem:∀ c∈C,c.fr∈bdC C/\c.to∈bdC C:=fun c hc=>⟨(bdC_mem _ _).2 (bnd_mem hc).1,(bdC_mem _ _).2 (bnd_mem hc).2⟩
 have hfin:∀ j,j < (bdC C).length->(finC C)[j]? = some ((C.reverse.find? (idxB (bdC C) j)).map fun c=>decide (c.ki=1)):=by
  intro j hj
  rw [finC,fold_get]
  have:(List.replicate (bdC C).length (none:Option Bool))[j]? = some none:=by simp [hj]
  rw [this];rfl
 have key:∀ (j:Nat) (u w:Int),(bdC C)[j]? = some u->(bdC C)[j+1]? = some w->u<=x->x < w->∀ c∈C.reverse,idxB (bdC C) j c=covB x c:=by
  intro j u w hu hw h1 h2 c hc
  have hc':=List.mem_reverse.1 hc
  have a1:=Xx (x:=c.fr) hasc hu
  have a2:=Xx (x:=c.fr) hasc hw
  have a3:=Xx (x:=c.to) hasc hu
  have a4:=Xx (x:=c.to) hasc hw
  obtain ⟨m1,m2⟩:=hmem c hc'
  have gap:∀ y∈bdC C,y<=u\/w<=y:=by
   intro y hy
   obtain ⟨k,hk⟩:=List.getElem?_of_mem hy
   rcases Nat.lt_or_ge j k with h | h
   ·right
    have q1:=Xx (x:=w) hasc hk
    have q2:=Xx (x:=w) hasc hw
    omega
   ·left
    have q1:=Xx (x:=y) hasc hk
    have q2:=Xx (x:=y) hasc hu
    omega
  have g1:=gap _ m1
  have g2:=gap _ m2
  unfold idxB covB
  apply decide_eq_decide.2
  omega
 have key2:∀ (j:Nat) (u w:Int),(bdC C)[j]? = some u->(bdC C)[j+1]? = some w->u<=x->x < w->((finC C)[j]? = some (some true)<->grX C x=true):=by
  intro j u w hu hw h1 h2
  rw [hfin j (List.getElem?_eq_some_iff.1 hu).1,find_congr (key j u w hu hw h1 h2),grX]
  cases C.reverse.find? (covB x)<;>simp
 rw [outC_has]
 constructor
 ·rintro ⟨j,hj,hs,h1,h2⟩
  have hs':=hs
  rw [hfin j hj] at hs
  cases hf:C.reverse.find? (idxB (bdC C) j) with
  | none=>rw [hf] at hs;simp at hs
  | some c =>
   have hc:=List.mem_reverse.1 (List.mem_of_find?_eq_some hf)
   have hi:=List.find?_some hf
   simp only [idxB,decide_eq_true_eq] at hi
   have hl:=bsS_lt (hmem c hc).2
   have hj1:j+1 < (bdC C).length:=by omega
   obtain ⟨u,hu⟩:∃ u,(bdC C)[j]? = some u:=⟨_,List.getElem?_eq_getElem hj⟩
   obtain ⟨w,hw⟩:∃ w,(bdC C)[j+1]? = some w:=⟨_,List.getElem?_eq_getElem hj1⟩
   rw [getD_of hu] at h1;rw [getD_of hw] at h2
   exact (key2 j u w hu hw h1 h2).1 hs'
 ·intro hg
  have hg':=hg
  rw [grX] at hg
  cases hf:C.reverse.find? (covB x) with
  | none=>rw [hf] at hg;simp at hg
  | some c =>
   have hc:=List.mem_reverse.1 (List.mem_of_find?_eq_some hf)
   have hi:=List.find?_some hf
   simp only [covB,decide_eq_true_eq] at hi
   obtain ⟨m1,m2⟩:=hmem c hc
   obtain ⟨k1,hk1⟩:=List.getElem?_of_mem m1
   obtain ⟨k2,hk2⟩:=List.getElem?_of_mem m2
   have a1:=(Xx (x:=x+1) hasc hk1).2 (by omega)
   have a2:=Xx (x:=x+1) hasc hk2
   have l2:=(List.getElem?_eq_some_iff.1 hk2).1
   obtain ⟨j,hj⟩:∃ j,bsS (bdC C) (x+1)=j+1:=⟨bsS (bdC C) (x+1) - 1,by omega⟩
   have hj1:j+1 < (bdC C).length:=by omega
   obtain ⟨u,hu⟩:∃ u,(bdC C)[j]? = some u:=⟨_,List.getElem?_eq_getElem (by omega)⟩
   obtain ⟨w,hw⟩:∃ w,(bdC C)[j+1]? = some w:=⟨_,List.getElem?_eq_getElem hj1⟩
   have b1:=Xx (x:=x+1) hasc hu
   have b2:=Xx (x:=x+1) hasc hw
   exact ⟨j,by omega,(key2 j u w hu hw (by omega) (by omega)).2 hg',by rw [getD_of hu];omega,by rw [getD_of hw];omega⟩
theorem cntC_lt {cs:List Cl} {item region:Int}:∀ c∈Uv cs item region,c.fr < c.to:=by
 intro c hc
 simp only [Uv,List.mem_filter,cntB,Xt,Jh,Bool.and_eq_true,decide_eq_true_eq] at hc
 obtain ⟨_,h1,_,_,h2⟩:=hc
 rw [if_pos h1] at h2
 simp at h2
 omega
theorem spansR_has (cs:List Cl) (item region x:Int):Xj (Wj cs item region) x<->grX (Uv cs item region) x=true:=by
 rw [Wj,(Va _).2,gr_ok _ cntC_lt]
def NE (L:List Sp):Prop:=∀ s∈L,s.1 < s.2
theorem addA_ok {L:List Sp} {f t:Int} (h:NE L):NE (addA L f t)/\∀ x,Xj (addA L f t) x<->Xj L x\/(f<=x/\x < t):=by
 unfold addA
 split
 ·rename_i hft
  cases hl:L.getLast? with
  | none =>
   have:L=[]:=by simpa using hl
   subst this
   refine ⟨by intro s hs;simp at hs;subst hs;exact hft,fun x=>by simp⟩
  | some s =>
   obtain ⟨D,rfl⟩:∃ D,L=D++[s]:=by
    have hne:L≠[]:=by rintro rfl;simp at hl
    refine ⟨L.dropLast,?_⟩
    have h1:=List.dropLast_concat_getLast hne
    rw [List.getLast?_eq_some_getLast hne] at hl
    cases hl
    exact h1.symm
   have hs:=h s (by simp)
   simp only
   split
   ·rename_i e
    simp only [List.dropLast_concat]
    refine ⟨?_,fun x=>?_⟩
    ·intro u hu
     rw [List.mem_append] at hu
     rcases hu with hu | hu
     ·exact h u (by simp [hu])
     ·simp at hu;subst hu;simp only;omega
    ·simp only [Vo,Xc,Vk,or_false,or_assoc]
     constructor
     ·rintro (h | h)
      ·exact .inl h
      ·by_cases x < s.2
       ·exact .inr (.inl (by omega))
       ·exact .inr (.inr (by omega))
     ·rintro (h | h | h)
      ·exact .inl h
      ·exact .inr (by omega)
      ·exact .inr (by omega)
   ·refine ⟨?_,fun x=>by simp [or_assoc]⟩
    intro u hu
    rw [List.mem_append] at hu
    rcases hu with hu | hu
    ·exact h u hu
    ·simp at hu;subst hu;exact hft
 ·refine ⟨h,fun x=>?_⟩
  constructor
  ·exact .inl
  ·rintro (h | h)
   ·exact h
   ·omega
def inW (W:List Sp) (n:Int):Prop:=∃ w∈W,w.1<=n/\n < w.2
theorem winL_ok (sf st mid:Int):∀ {W L:List Sp},NE L->NE (winL sf st mid W L)/\∀ x,Xj (winL sf st mid W L) x<->Xj L x\/(sf<=x/\x < st/\inW W (x - mid))
 | [],L,h=>⟨h,fun x=>by simp [winL,inW]⟩
 | w::W,L,h=>by
  obtain ⟨a1,a2⟩:=addA_ok (f:=max sf (mid+w.1)) (t:=min st (mid+w.2)) h
  obtain ⟨b1,b2⟩:=winL_ok sf st mid (W:=W) a1
  refine ⟨b1,fun x=>?_⟩
  rw [winL,b2,a2]
  simp only [inW,List.mem_cons,exists_eq_or_imp]
  constructor
  ·rintro ((h | h) | ⟨h1,h2,h3⟩)
   ·exact .inl h
   ·exact .inr ⟨by omega,by omega,.inl (by omega)⟩
   ·exact .inr ⟨h1,h2,.inr h3⟩
  ·rintro (h | ⟨h1,h2,h3 | h3⟩)
   ·exact .inl (.inl h)
   ·exact .inl (.inr (by omega))
   ·exact .inr ⟨h1,h2,h3⟩
def dayW (W:List Sp):Prop:=∀ w∈W,0<=w.1/\w.2<=86400
theorem dayL_ok {W:List Sp} (hW:dayW W) (sf st o:Int):∀ (n:Nat) (d:Int) {L:List Sp},(st - (d*86400 - o)).toNat<=n->NE L->NE (dayL W sf st (d*86400 - o) L) /\
  ∀ x,Xj (dayL W sf st (d*86400 - o) L) x<->Xj L x\/(sf<=x/\x < st/\d<=(x+o) / 86400/\inW W ((x+o) % 86400)):=by
 intro n
 induction n with
 | zero =>
  intro d L h hL
  rw [dayL,if_neg (by omega)]
  refine ⟨hL,fun x=>⟨.inl,?_⟩⟩
  rintro (h | ⟨h1,h2,h3,h4⟩)
  ·exact h
  ·omega
 | succ n ih =>
  intro d L h hL
  rw [dayL]
  split
  ·rename_i hm
   obtain ⟨a1,a2⟩:=winL_ok sf st (d*86400 - o) (W:=W) hL
   have e:d*86400 - o+86400=(d+1)*86400 - o:=by omega
   rw [e]
   obtain ⟨b1,b2⟩:=ih (d+1) (by omega) a1
   refine ⟨b1,fun x=>?_⟩
   rw [b2,a2]
   constructor
   ·rintro ((h | ⟨h1,h2,w,hw,h3,h4⟩) | ⟨h1,h2,h3,h4⟩)
    ·exact .inl h
    ·have:=hW w hw
     have hd:(x+o) / 86400=d:=by omega
     exact .inr ⟨h1,h2,by omega,w,hw,by omega,by omega⟩
    ·exact .inr ⟨h1,h2,by omega,h4⟩
   ·rintro (h | ⟨h1,h2,h3,h4⟩)
    ·exact .inl (.inl h)
    ·by_cases hd:(x+o) / 86400=d
     ·obtain ⟨w,hw,h5,h6⟩:=h4
      exact .inl (.inr ⟨h1,h2,w,hw,by omega,by omega⟩)
     ·exact .inr ⟨h1,h2,by omega,h4⟩
  ·rename_i hm
   refine ⟨hL,fun x=>⟨.inl,?_⟩⟩
   rintro (h | ⟨h1,h2,h3,h4⟩)
   ·exact h
   ·omega
theorem stL_ok {s:Sp} {W:List Sp} (hW:dayW W) (y:Int×Int×Int) {L:List Sp} (hL:NE L):NE (stL s W y L) /\
  ∀ x,Xj (stL s W y L) x<->Xj L x\/(y.1<=x/\x < y.2.1/\s.1<=x/\x < s.2/\inW W ((x+y.2.2) % 86400)):=by
 unfold stL
 split
 ·refine ⟨hL,fun x=>⟨.inl,?_⟩⟩
  rintro (h | ⟨h1,h2,h3,h4,_⟩)
  ·exact h
  ·omega
 ·obtain ⟨a1,a2⟩:=dayL_ok hW (max y.1 s.1) (min y.2.1 s.2) y.2.2 _ ((max y.1 s.1+y.2.2) / 86400) (Nat.le_refl _) hL
  refine ⟨a1,fun x=>?_⟩
  rw [a2]
  constructor
  ·rintro (h | ⟨h1,h2,h3,h4⟩)
   ·exact .inl h
   ·exact .inr ⟨by omega,by omega,by omega,by omega,h4⟩
  ·rintro (h | ⟨h1,h2,h3,h4,h5⟩)
   ·exact .inl h
   ·exact .inr ⟨by omega,by omega,by omega,h5⟩
theorem calL_ok {s:Sp} {W:List Sp} (hW:dayW W):∀ {xs:List (Int×Int×Int)} {L:List Sp},xs.Pairwise (fun a b=>a.1<=b.1)->NE L->∀ x,Xj (calL s W xs L) x<->Xj L x\/(s.1<=x/\x < s.2/\∃ y∈xs,y.1<=x/\x < y.2.1/\inW W ((x+y.2.2) % 86400))
 | [],L,_,hL,x=>by simp [calL]
 | y::r,L,hp,hL,x=>by
  obtain ⟨p1,p2⟩:=List.pairwise_cons.1 hp
  rw [calL]
  split
  ·rename_i hb
   constructor
   ·exact .inl
   ·rintro (h | ⟨h1,h2,z,hz,h3,h4,_⟩)
    ·exact h
    ·rcases List.mem_cons.1 hz with rfl | hz
     ·omega
     ·have:=p1 z hz;omega
  ·obtain ⟨a1,a2⟩:=stL_ok (s:=s) hW y hL
   rw [calL_ok hW p2 a1,a2]
   simp only [List.mem_cons,exists_eq_or_imp]
   constructor
   ·rintro ((h | ⟨h1,h2,h3,h4,h5⟩) | ⟨h1,h2,h3⟩)
    ·exact .inl h
    ·exact .inr ⟨h3,h4,.inl ⟨h1,h2,h5⟩⟩
    ·exact .inr ⟨h1,h2,.inr h3⟩
   ·rintro (h | ⟨h1,h2,⟨h3,h4,h5⟩ | h3⟩)
    ·exact .inl (.inl h)
    ·exact .inl (.inr ⟨h3,h4,h1,h2,h5⟩)
    ·exact .inr ⟨h1,h2,h3⟩
def offX (of:Int) (sh:List Sp) (x:Int):Int:=sh.foldl (fun n s=>if s.1<=x then s.2 else n) of
theorem ascZ_all:∀ {sh:List Sp} {last:Int},ascZ last sh=true->sh.Pairwise (fun a b=>a.1 < b.1)/\∀ s∈sh,last < s.1/\s.1<=10000000000/\isOff s.2=true
 | [],_,_=>⟨.nil,fun _ h=>by cases h⟩
 | a::r,last,h=>by
  rw [ascZ] at h
  split at h
  ·cases h
  ·rename_i hn
   simp only [not_or,Bool.not_eq_false] at hn
   obtain ⟨h1,h2⟩:=ascZ_all h
   refine ⟨List.pairwise_cons.2 ⟨fun b hb=>(h2 b hb).1,h1⟩,?_⟩
   intro s hs
   rcases List.mem_cons.1 hs with rfl | hs
   ·exact ⟨by omega,by omega,hn.2.2⟩
   ·have:=h2 s hs;exact ⟨by omega,this.2⟩
theorem offX_none {x:Int}:∀ {sh:List Sp} (o:Int),(∀ s∈sh,x < s.1)->offX o sh x=o
 | [],o,_=>rfl
 | a::r,o,h=>by
  have:=h a (by simp)
  rw [offX,List.foldl_cons,if_neg (by omega)]
  exact offX_none o fun s hs=>h s (by simp [hs])
theorem stch_has {P:Int->Prop}:∀ {sh:List Sp} {f o:Int},(∀ s∈sh,f<=s.1/\s.1<=10000000000)->sh.Pairwise (fun a b=>a.1 < b.1)->f<=10000000000->∀ x,(∃ y∈Jy f o sh,y.1<=x/\x < y.2.1/\P y.2.2)<->f<=x/\x<=10000000000/\P (offX o sh x)
 | [],f,o,_,_,hf,x=>by
  simp only [Jy,List.mem_singleton,exists_eq_left,offX,List.foldl_nil]
  constructor
  ·rintro ⟨h1,h2,h3⟩;exact ⟨h1,by omega,h3⟩
  ·rintro ⟨h1,h2,h3⟩;exact ⟨h1,by omega,h3⟩
 | s::r,f,o,hb,hp,hf,x=>by
  obtain ⟨p1,p2⟩:=List.pairwise_cons.1 hp
  have hs:=hb s (by simp)
  have ih:=stch_has (P:=P) (o:=s.2) (f:=s.1) (sh:=r) (fun t ht=>⟨by have:=p1 t ht;omega,(hb t (by simp [ht])).2⟩) p2 hs.2 x
  have e:(∃ y∈Jy f o (s::r),y.1<=x/\x < y.2.1/\P y.2.2)<->(f<=x/\x < s.1/\P o)\/∃ y∈Jy s.1 s.2 r,y.1<=x/\x < y.2.1/\P y.2.2:=by
   rw [Jy]
   simp only [List.mem_append,or_and_right,exists_or]
   refine or_congr ?_ Iff.rfl
   split
   ·simp
   ·simp;intro h1 h2;omega
  have eo:offX o (s::r) x=offX (if s.1<=x then s.2 else o) r x:=rfl
  rw [e,ih,eo]
  by_cases hx:s.1<=x
  ·rw [if_pos hx]
   constructor
   ·rintro (⟨h1,h2,h3⟩ | ⟨h1,h2,h3⟩)
    ·omega
    ·exact ⟨by omega,h2,h3⟩
   ·rintro ⟨h1,h2,h3⟩
    exact .inr ⟨hx,h2,h3⟩
  ·rw [if_neg hx]
   have hn:=offX_none (x:=x) (sh:=r) o fun t ht=>by have:=p1 t ht;omega
   rw [hn]
   constructor
   ·rintro (⟨h1,h2,h3⟩ | ⟨h1,h2,h3⟩)
    ·exact ⟨h1,by omega,h3⟩
    ·omega
   ·rintro ⟨h1,h2,h3⟩
    exact .inl ⟨h1,by omega,h3⟩
theorem stch_asc:∀ {sh:List Sp} {f o:Int},(∀ s∈sh,f<=s.1)->sh.Pairwise (fun a b=>a.1 < b.1)->(Jy f o sh).Pairwise (fun a b=>a.1<=b.1)/\∀ y∈Jy f o sh,f<=y.1
 | [],f,o,_,_=>by simp [Jy]
 | s::r,f,o,hb,hp=>by
  obtain ⟨p1,p2⟩:=List.pairwise_cons.1 hp
  have hs:=hb s (by simp)
  obtain ⟨i1,i2⟩:=stch_asc (f:=s.1) (o:=s.2) (sh:=r) (fun t ht=>by have:=p1 t ht;omega) p2
  rw [Jy]
  refine ⟨?_,?_⟩
  ·rw [List.pairwise_append]
   refine ⟨by split<;>simp,i1,?_⟩
   intro a ha b hb'
   have:=i2 b hb'
   split at ha
   ·simp at ha;subst ha;simp only;omega
   ·simp at ha
  ·intro y hy
   rw [List.mem_append] at hy
   rcases hy with hy | hy
   ·split at hy
    ·simp at hy;subst hy;exact Int.le_refl _
    ·simp at hy
   ·have:=i2 y hy;omega
def withX (of:Int) (sh:List Sp) (x fr to:Int):Prop:=0<=x/\x<=10000000000/\inW (Wi fr to) ((x+offX of sh x) % 86400)
theorem calS_has {of:Int} {sh:List Sp} {s:Sp} {fr to:Int} (h:calB of sh s fr to=true) (x:Int):Xj (calS of sh s fr to) x<->s.1<=x/\x < s.2/\withX of sh x fr to:=by
 rw [calS,if_pos h]
 simp only [calB,Vf,dayB,Bool.and_eq_true,decide_eq_true_eq] at h
 obtain ⟨⟨⟨⟨⟨_,_⟩,ha⟩,h1⟩,h2⟩,_⟩:=h
 obtain ⟨a1,a2⟩:=ascZ_all ha
 have hW:dayW (Wi fr to):=fun w hw=>by have:=(winS_ok h1 h2).2 w hw;omega
 rw [calL_ok hW (stch_asc (fun t ht=>by have:=a2 t ht;omega) a1).1 (fun _ h=>by cases h)]
 rw [stch_has (P:=fun o=>inW (Wi fr to) ((x+o) % 86400)) (fun t ht=>by have:=a2 t ht;omega) a1 (by omega)]
 simp only [Vk,false_or,withX]
end Go.Proofs.YtjmgelbfndnpjaaGreatDoor
