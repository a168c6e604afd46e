import Derived.Test.YtkcnjajklnoahaaGreatDoorTYScD
import Derived.Test.YtkcnjajklnoahaaGreatDoorTYRiJ
set_option linter.unusedVariables false
set_option linter.unusedSimpArgs false
set_option maxRecDepth 100000
set_option maxHeartbeats 64000000
namespace Go.Proofs.YtkcnjajklnoahaaGreatDoor
open Go Go.Abs
theorem cntK_hit (ki it rg:Int) (c:Cl):cntK c ki it rg=hitC ki it rg c:=by
 unfold cntK hitC Qbe has6 wi bitC
 by_cases hr:0<=rg/\rg<=7
 ·have h1:0<=rg/\rg < 8:=by omega
  have h2:min rg.toNat 64=rg.toNat:=by omega
  have h3:c.re.fdiv (2 ^ rg.toNat)=c.re / 2 ^ rg.toNat:=Int.fdiv_eq_ediv_of_nonneg _ (Int.le_of_lt (Int.pow_pos (by omega)))
  rw [if_pos h1,h2,h3,decide_eq_true hr]
  cases decide (c.ki=ki)<;>cases Xc c<;>simp
 ·have h1:¬ (0<=rg/\rg < 8):=by omega
  rw [if_neg h1,decide_eq_false hr]
  simp
def idxS (p:Pl) (id:Int):Int:=match Vy id p.ens 0 with
 | none => -1
 | some k=>(k:Int)
def idxG (id:Int) (l:List En) (i:Nat):Int:=match Vy id l i with
 | none => -1
 | some k=>(k:Int)
theorem index69 (p:Pl) (id:Int) (hl:p.ens.length<=1000000000):Pure Tryz.prog gl0 69 [.agg (Qa p),I id] (I (idxS p id)):=by
 refine Ql code69 (fun _ _ _=>.junk) (by simp) ?_
 simp [sc69,Qa]
 refine Qg w69_0 (fun f m=>∃ (i:Nat),f 5=I i/\i<=p.ens.length/\idxG id (p.ens.drop i) i=idxS p id/\m=⟨[Qa p],[],fun _=>.gone,0⟩) (fun f _=>p.ens.length - (numOf (f 5)).toNat) ?_ ?_
 ·exact ⟨0,by simp,by omega,rfl,by simp [Qa]⟩
 ·rintro f m ⟨i,h5,hi,hf,rfl⟩
  rcases Nat.lt_or_ge i p.ens.length with hlt | hge
  ·obtain ⟨x,hx⟩:=getS hlt
   have hrow:=Zi hx
   have hilt:(i:Int) < (p.ens.length:Int):=by omega
   have hw:=wrS i (by omega)
   rw [Qr hx,idxG,Vy] at hf
   by_cases hid:x.id=id
   ·rw [if_pos hid] at hf
    simp [h5,hlt,hilt,hrow,Qd,hid,w69_0,rs69,Qa,<- hf]
   ·rw [if_neg hid] at hf
    simp [h5,hlt,hilt,hrow,Qd,hid,w69_0,hw,Qa]
    refine ⟨ag ?_,⟨i+1,by simp,by omega,hf⟩,by omega⟩
    repeat (first | exact Qb _ _ | refine Qc _ rfl ?_)
  ·have hin:¬ (i:Int) < (p.ens.length:Int):=by omega
   rw [List.drop_eq_nil_of_le hge,idxG,Vy] at hf
   simp [h5,hin,Nat.not_lt.2 hge,w69_0,rs69,Qa,<- hf]
def InvIo (p:Pl) (ids:List Int) (f:Nat->AV) (m:AM):Prop:=∃ (i:Nat) (last:Int),f 6=I i/\f 5=I last /\ -1<=last/\i<=ids.length/\ordB p (ids.drop i) last=ordB p ids (-1)/\m=⟨[Qa p],[],fun _=>.gone,0⟩
theorem inOrder39 (p:Pl) (ids:List Int) (hl:p.ens.length<=1000000000) (hi:ids.length<=1000000000):Pure Tryz.prog gl0 39 [.agg (Qa p),.sl .ro (ids.map Qp)] (.bool (ordB p ids (-1))):=by
 refine Ql code39 (fun _ _ l=>match l with | [_,.int _ id]=>I (idxS p id) | _=>.junk) (by simp) ?_
 simp [sc39,Qa]
 refine Qg w39_0 (InvIo p ids) (fun f _=>ids.length - (numOf (f 6)).toNat) ?_ ?_
 ·exact ⟨0,-1,by simp,by simp,by omega,by omega,rfl,by simp [Qa]⟩
 ·rintro f m ⟨i,last,h6,h5,h0,hi2,hf,rfl⟩
  rcases Nat.lt_or_ge i ids.length with hlt | hge
  ·obtain ⟨id,hx⟩:=getS hlt
   have hrow:Qk (ids.map Qp) i=Qp id:=Qv (by simp [hx])
   have hilt:(i:Int) < (ids.length:Int):=by omega
   have hw:=wrS i (by omega)
   have k69:=index69 p id hl
   simp only [Qa] at k69
   rw [Qr hx,ordB] at hf
   by_cases hc:idxS p id<=last
   ·have hb:ordB p ids (-1)=false:=by
     rw [<- hf]
     unfold idxS at hc
     cases hk:Vy id p.ens 0 with
     | none=>rfl
     | some k=>rw [hk] at hc;simp only;rw [if_pos hc]
    simp [h6,h5,hlt,hilt,hrow,Qp,w39_0,rs39,Qa,hc,hb]
    exact k69
   ·have hb:ordB p (ids.drop (i+1)) (idxS p id)=ordB p ids (-1) /\ -1<=idxS p id:=by
     rw [<- hf]
     unfold idxS at hc |-
     cases hk:Vy id p.ens 0 with
     | none=>rw [hk] at hc;simp only at hc;omega
     | some k=>rw [hk] at hc;simp only;rw [if_neg hc];exact ⟨rfl,by omega⟩
    simp [h6,h5,hlt,hilt,hrow,Qp,w39_0,Qa,hc,hw]
    refine ⟨k69,ag ?_,⟨i+1,idxS p id,by simp,by simp,hb.2,by omega,hb.1,by simp [Qa]⟩,by omega⟩
    repeat (first | exact Qb _ _ | refine Qc _ rfl ?_)
  ·have hin:¬ (i:Int) < (ids.length:Int):=by omega
   rw [List.drop_eq_nil_of_le hge,ordB] at hf
   simp [h6,h5,hin,Nat.not_lt.2 hge,w39_0,rs39,Qa,<- hf]
theorem Zq {α:Type} {l:List α} {i:Nat} {x:α} (h:l[i]? = some x):l.take (i+1)=l.take i++[x]:=by
 rw [List.take_add_one,h];rfl
def InvR73 (cs:List Cl) (it rg:Int) (f:Nat->AV) (m:AM):Prop:=∃ (i:Nat),f 7=I ((i:Int) - 1)/\i<=cs.length/\Jt 3 it rg (cs.take i) (-1)=Jt 3 it rg cs (-1)/\m=⟨[],[],fun _=>.gone,0⟩
theorem runs73 (cs:List Cl) (it rg:Int) (hl:cs.length<=1000000000):Pure Tryz.prog gl0 73 [.sl .ro (cs.map Qi),I it,I rg] (I (Jt 3 it rg cs (-1))):=by
 refine Ql code73 (fun _ _ l=>match l with | [.agg [.int _ a,.int _ b,.int _ c,.int _ d,.int _ e,.int _ f,.int _ g,.int _ h],.int _ k,.int _ i,.int _ r]=>.bool (cntK ⟨a,b,c,d,e,f,g,h⟩ k i r) | _=>.junk) (by simp) ?_
 have hw0:IntKind.i64.wrap ((cs.length:Int) - 1)=(cs.length:Int) - 1:=by rw [Qh]<;>omega
 simp [sc73,hw0]
 refine Qg w73_0 (InvR73 cs it rg) (fun f _=>(numOf (f 7)+1).toNat) ?_ ?_
 ·exact ⟨cs.length,by simp,by omega,by rw [List.take_of_length_le (Nat.le_refl _)],rfl⟩
 ·rintro f m ⟨i,h7,hi,hf,rfl⟩
  cases i with
  | zero =>
   rw [List.take_zero,Jt] at hf
   simp [h7,w73_0,rs73,<- hf]
  | succ j =>
   have hj:((j+1:Nat):Int) - 1=(j:Int):=by omega
   rw [hj] at h7
   obtain ⟨c,hx⟩:∃ x,cs[j]? = some x:=⟨_,List.getElem?_eq_getElem (by omega)⟩
   have hrow:Qk (cs.map Qi) j=Qi c:=Qv (by simp [hx])
   have hjl:j < cs.length:=by omega
   have hjl':(j:Int) < (cs.length:Int):=by omega
   have hw:IntKind.i64.wrap ((j:Int) - 1)=(j:Int) - 1:=by rw [Qh]<;>omega
   have k100:=counts_pure c 3 it rg
   simp only [Qi] at k100
   rw [Zq hx,lastC_app,<- cntK_hit] at hf
   cases hc:cntK c 3 it rg with
   | true =>
    rw [hc,if_pos rfl] at hf
    rw [hc] at k100
    simp [h7,hjl,hjl',hrow,Qi,w73_0,rs73,hc,<- hf]
    exact k100
   | false =>
    rw [hc,if_neg (by simp)] at hf
    rw [hc] at k100
    simp [h7,hjl,hjl',hrow,Qi,w73_0,hc,hw]
    refine ⟨k100,ag ?_,⟨j,by simp,by omega,hf,rfl⟩⟩
    repeat (first | exact Qb _ _ | refine Qc _ rfl ?_)
theorem runs43 (p:Pl) (it:Int) (hc:p.cls.length<=1000000000) (hit:p.its.length<=1000000000):Pure Tryz.prog gl0 43 [.agg (Qa p),I it,I 0] (I (Zo p it)):=by
 have k70:=Qcp p it hit
 have k73:=runs73 p.cls it 0 hc
 simp only [Qa] at k70
 refine Ql code43 (fun _ f _=>if f=70 then Xk (Qy it p.its) else I (Jt 3 it 0 p.cls (-1))) (by simp) ?_
 cases hf:Qy it p.its with
 | none =>
  rw [hf] at k70
  simp [sc43,rs43,Qa,hf,Xk,Zo]
  exact ⟨k70,k73⟩
 | some x =>
  rw [hf] at k70
  by_cases h5:x.ki=5
  ·simp [sc43,rs43,Qa,hf,Xk,Qf,Zo,h5]
   simpa [Xk,Qf,h5] using k70
  ·simp [sc43,rs43,Qa,hf,Xk,Qf,Zo,h5]
   exact ⟨k70,k73⟩
def orcG72:Nat->FuncId->List AV->AV:=fun _ _ l=>match l with | [.agg [.int _ a,.int _ b,.int _ c,.int _ d,.int _ e,.int _ f,.int _ g,.int _ h]]=>.bool (Xc ⟨a,b,c,d,e,f,g,h⟩) | _=>.junk
def InvG72 (a b T:Int) (cs:List Cl) (f:Nat->AV) (m:AM):Prop:=∃ (i:Nat) (g:Int) (bx:List (List AV)),f 8=I i/\f 7=I g/\i<=cs.length/\Kk a b (cs.drop i) g=T/\m=⟨bx,[],fun _=>.gone,0⟩
theorem gap72 (cs:List Cl) (a b:Int) (hl:cs.length<=1000000000):Pure Tryz.prog gl0 72 [.sl .ro (cs.map Qi),I a,I b] (I (Kk a b cs 0)):=by
 obtain ⟨T,hT⟩:∃ T,Kk a b cs 0=T:=⟨_,rfl⟩
 rw [hT]
 refine Ql code72 orcG72 (by simp) ?_
 simp [sc72]
 refine Qg w72_0 (InvG72 a b T cs) (fun f _=>cs.length - (numOf (f 8)).toNat) ?_ ?_
 ·exact ⟨0,0,_,by simp,by simp,by omega,by simpa using hT,rfl⟩
 ·rintro f m ⟨i,g,bx,h8,h7,hi,hx,rfl⟩
  rcases Nat.lt_or_ge i cs.length with hlt | hge
  ·obtain ⟨c,hc⟩:=getS hlt
   have hrow:Qk (cs.map Qi) i=Qi c:=Qv (by simp [hc])
   have hilt:(i:Int) < (cs.length:Int):=by omega
   have hw:=wrS i (by omega)
   have k:=Qay c
   rw [Qr hc,Kj] at hx
   obtain ⟨v0,h0⟩:∃ v,(c.ki==5)=v:=⟨_,rfl⟩
   obtain ⟨v1,h1⟩:∃ v,(c.a==a)=v:=⟨_,rfl⟩
   obtain ⟨v2,h2⟩:∃ v,(c.b==b)=v:=⟨_,rfl⟩
   obtain ⟨v3,h3⟩:∃ v,(c.a==b)=v:=⟨_,rfl⟩
   obtain ⟨v4,h4⟩:∃ v,(c.b==a)=v:=⟨_,rfl⟩
   have hh:hitG a b c=(v0&&(((v1&&v2)||(v3&&v4))&&Xc c)):=by
    rw [<- h0,<- h1,<- h2,<- h3,<- h4];rfl
   obtain ⟨v5,h5⟩:∃ v,Xc c=v:=⟨_,rfl⟩
   rw [hh,h5] at hx
   rw [h5] at k
   have k':Abs.Pure Tryz.prog gl0 63 [.agg [I c.ki,I c.it,I c.fr,I c.to,I c.re,I c.n,I c.a,I c.b]] (.bool v5):=k
   clear hh k
   cases v0
   ·cases v1<;>cases v2<;>cases v3<;>cases v4<;>simp only [Bool.false_and,Bool.false_eq_true,if_false] at hx
    all_goals
     simp [h8,h7,hlt,hilt,hrow,Qi,orcG72,h0,h1,h2,h3,h4,w72_0,hw]
     refine ⟨ag ?_,⟨i+1,g,_,by simp,by simp [h7],by omega,hx,rfl⟩,by omega⟩
     repeat (first | exact Qb _ _ | refine Qc _ rfl ?_)
   ·cases v1<;>cases v2<;>cases v3<;>cases v4<;>cases v5<;>simp only [Bool.and_true,Bool.and_false,Bool.true_and,Bool.false_and,Bool.or_true,Bool.or_false,Bool.true_or,Bool.false_or,Bool.false_eq_true,if_false,if_true,Bool.or_self,Bool.and_self] at hx
    all_goals
     simp [h8,h7,hlt,hilt,hrow,Qi,orcG72,h0,h1,h2,h3,h4,h5,w72_0,hw]
     first
     | (refine ⟨k',ag ?_,⟨i+1,g,_,by simp,by simp [h7],by omega,hx,rfl⟩,by omega⟩
        repeat (first | exact Qb _ _ | refine Qc _ rfl ?_))
     | (refine ⟨k',ag ?_,⟨i+1,max g c.n,_,by simp,by simp;omega,by omega,hx,rfl⟩,by omega⟩
        repeat (first | exact Qb _ _ | refine Qc _ rfl ?_))
  ·have hin:¬ (i:Int) < (cs.length:Int):=by omega
   rw [List.drop_eq_nil_of_le hge] at hx
   have hx:g=T:=hx
   subst hx
   simp [h8,h7,hin,Nat.not_lt.2 hge,w72_0,rs72]
def orcG42 (p:Pl):Nat->FuncId->List AV->AV:=fun d f l =>
 if f=70 then (match l with | [_,.int _ n]=>Xk (Qy n p.its) | _=>.junk) else if f=72 then (match l with | [_,.int _ x,.int _ y]=>I (Kk x y p.cls 0) | _=>.junk) else
 if f=71 then (match l with | [_,.int _ x]=>I (Yu p.nu p.de x) | _=>.junk) else .junk
theorem gap42 (p:Pl) (a b:Int) (hc:p.cls.length<=1000000000) (hit:p.its.length<=1000000000):Pure Tryz.prog gl0 42 [.agg (Qa p),I a,I b] (I (Ze p a b)):=by
 have ka:=Qcp p a hit
 have kb:=Qcp p b hit
 simp only [Qa] at ka kb
 obtain ⟨T,hT⟩:∃ T,Ze p a b=T:=⟨_,rfl⟩
 have hg:=hT
 unfold Ze at hg
 rw [hT]
 refine Ql code42 (orcG42 p) (by simp) ?_
 cases ha:Qy a p.its with
 | none =>
  rw [ha] at ka hg
  have hg:0=T:=hg
  cases hb:Qy b p.its with
  | none =>
   rw [hb] at kb
   simp [sc42,rs42,Qa,orcG42,ha,hb,Xk,<- hg]
   exact ⟨ka,kb⟩
  | some y =>
   rw [hb] at kb
   simp [sc42,rs42,Qa,orcG42,ha,hb,Xk,Qf,<- hg]
   exact ⟨ka,kb⟩
 | some x =>
  rw [ha] at ka hg
  cases hb:Qy b p.its with
  | none =>
   rw [hb] at kb hg
   have hg:0=T:=hg
   simp [sc42,rs42,Qa,orcG42,ha,hb,Xk,Qf,<- hg]
   exact ⟨ka,kb⟩
  | some y =>
   rw [hb] at kb hg
   simp only at hg
   simp only [Xk,Qf] at ka kb
   by_cases c1:x.sp=0
   ·rw [if_pos (.inl c1)] at hg
    simp [sc42,rs42,Qa,orcG42,ha,hb,Xk,Qf,<- hg,c1]
    exact ⟨by simpa [c1] using ka,kb⟩
   ·by_cases c2:y.sp=0
    ·rw [if_pos (.inr (.inr (.inl c2)))] at hg
     simp [sc42,rs42,Qa,orcG42,ha,hb,Xk,Qf,<- hg,c1,c2]
     exact ⟨ka,by simpa [c2] using kb⟩
    ·by_cases c3:x.sp=y.sp
     ·rw [if_pos (.inr (.inr (.inr c3)))] at hg
      simp [sc42,rs42,Qa,orcG42,ha,hb,Xk,Qf,<- hg,c2,c3]
      exact ⟨by simpa [c3] using ka,kb⟩
     ·have k72:=gap72 p.cls x.sp y.sp hc
      have k71:=rfrms_pure p.nu p.de (Kk x.sp y.sp p.cls 0)
      have hm:(if 0 < Yu p.nu p.de (Kk x.sp y.sp p.cls 0) then Yu p.nu p.de (Kk x.sp y.sp p.cls 0) else 0)=T:=by
       have hbd:=gapS_bd p a b
       rw [hT] at hbd
       cases hv:Xq p.nu p.de with
       | false =>
        rw [if_pos (.inr (.inl hv))] at hg
        rw [Yu,if_neg (by rw [hv];simp)]
        simpa using hg
       | true =>
        rw [if_neg (by rw [hv];simp;exact ⟨c1,c2,c3⟩)] at hg
        rw [hg];split<;>omega
      simp [sc42,rs42,Qa,orcG42,ha,hb,Xk,Qf,c1,c2,c3,hm]
      exact ⟨ka,kb,k72,k71⟩
open Go Go.Abs
def rfO (p:Pl) (it fr high from_ run last:Int):Option Int :=
 if from_ < high+fr then
  match rfS fr (Xn p it 0 (from_,min (from_+1000000) (high+fr))) run last with
  | (some r,_,_)=>some r
  | (none,run,last)=>rfO p it fr high (from_+1000000) run last
 else none
termination_by (high+fr - from_).toNat
decreasing_by omega
theorem rfL_O (p:Pl) (it fr high from_ run last:Int):rfL p it fr high from_ run last=match rfO p it fr high from_ run last with
  | some r=>if r<=high then some r else none
  | none=>none:=by
 unfold rfL rfO
 split
 ·rename_i h
  rcases hR:rfS fr (Xn p it 0 (from_,min (from_+1000000) (high+fr))) run last with ⟨_ | r,r1,r2⟩
  ·simp only
   exact rfL_O p it fr high (from_+1000000) r1 r2
  ·rfl
 ·rfl
termination_by (high+fr - from_).toNat
decreasing_by omega
def firO (p:Pl) (it fr low high:Int):Option Int:=if fr < 1\/1000000 < fr\/high < low then none else rfO p it fr high low (-1) (-1)
def Qar (high:Int):Option Int->AV
 | none=>.tup [I 0,.bool false]
 | some r=>.tup [I r,.bool (decide (r<=high))]
theorem firO_R (p:Pl) (it fr low high:Int):Qaq p it fr low high=match firO p it fr low high with
  | some r=>if r<=high then some r else none
  | none=>none:=by
 unfold Qaq firO
 split
 ·rfl
 ·exact rfL_O _ _ _ _ _ _ _
theorem permS_bd {p:Pl} {it:Int} {s:Sp} (hs:s.2 - s.1<=1000000) {a:Sp} (ha:a∈Xn p it 0 s):s.1<=a.1/\a.1 < a.2/\a.2<=s.2/\0<=a.1/\a.2<=100000001:=by
 have hv:=(permS_VS p it 0 s).1 a ha
 have h1:=(Ul p it 0 s hs a.1).1 ⟨a,ha,by omega,by omega⟩
 have h2:=(Ul p it 0 s hs (a.2 - 1)).1 ⟨a,ha,by omega,by omega⟩
 obtain ⟨_,_,q1,_⟩:=h1.2.2
 obtain ⟨_,_,q2,_⟩:=h2.2.2
 omega
def InvFo (p:Pl) (it fr high:Int) (T:Option Int) (f:Nat->AV) (m:AM):Prop :=
 ∃ (fm run last:Int),f 14=I fm/\f 12=I run/\f 13=I last/\(0<=fm/\fm<=200000000)/\(-1<=run/\run<=100000001)/\(-1<=last/\last<=100000001)/\rfO p it fr high fm run last=T/\m=⟨[Qa p],[],fun _=>.gone,0⟩
def InvFi (p:Pl) (fr fm:Int) (L:List Sp) (R:Option Int×Int×Int) (f:Nat->AV) (m:AM):Prop :=
 ∃ (j:Nat) (run last:Int),f 16=I j/\f 12=I run/\f 13=I last/\j<=L.length/\(-1<=run/\run<=100000001)/\(-1<=last/\last<=100000001)/\rfS fr (L.drop j) run last=R/\m=⟨[Qa p],[],fun _=>.gone,0⟩
def orcF44 (p:Pl):Nat->FuncId->List AV->AV:=fun _ _ l=>match l with
 | [_,.int _ it,_,.agg [.int _ a,.int _ b]]=>.sl .ro ((Xn p it 0 (a,b)).map Qe)
 | _=>.junk
theorem first44 (p:Pl) (it fr low high:Int) (hc:p.cls.length<=1000) (hsh:p.sh.length<=1000) (hit:p.its.length<=1000) (hlow:0<=low) (hhi:high<=100000000) :
  Pure Tryz.prog gl0 44 [.agg (Qa p),I it,I fr,I low,I high] (Qar high (firO p it fr low high)):=by
 refine Ql code44 (orcF44 p) (by simp) ?_
 by_cases b1:fr < 1
 ·have hr:firO p it fr low high=none:=by rw [firO,if_pos (.inl b1)]
  rw [hr]
  simp [sc44,rs44,Qa,b1,Qar]
 ·by_cases b2:1000000 < fr
  ·have hr:firO p it fr low high=none:=by rw [firO,if_pos (.inr (.inl b2))]
   rw [hr]
   simp [sc44,rs44,Qa,b1,b2,Qar]
  ·by_cases b3:high < low
   ·have hr:firO p it fr low high=none:=by rw [firO,if_pos (.inr (.inr b3))]
    rw [hr]
    simp [sc44,rs44,Qa,b1,b2,b3,Qar]
   ·obtain ⟨T,hT⟩:∃ T,firO p it fr low high=T:=⟨_,rfl⟩
    have hr:=hT
    rw [firO,if_neg (by omega)] at hr
    rw [hT]
    simp [sc44,Qa,b1,b2,b3]
    refine Qg w44_0 (InvFo p it fr high T) (fun f _=>(high+fr - numOf (f 14)).toNat) ?_ ?_
    ·exact ⟨low,-1,-1,by simp,by simp,by simp,by omega,by omega,by omega,hr,by simp [Qa]⟩
    ·rintro f m ⟨fm,run,last,h14,h12,h13,hfm,hrn,hla,hx,rfl⟩
     have hwh:IntKind.i64.wrap (high+fr)=high+fr:=by rw [Qh]<;>omega
     rw [rfO] at hx
     by_cases c1:fm < high+fr
     ·rw [if_pos c1] at hx
      have hw1:IntKind.i64.wrap (fm+1000000)=fm+1000000:=by rw [Qh]<;>omega
      have hmn:(if fm+1000000 < high+fr then fm+1000000 else high+fr)=min (fm+1000000) (high+fr):=by omega
      have hmn':(if high+fr < fm+1000000 then high+fr else fm+1000000)=min (fm+1000000) (high+fr):=by omega
      have k74:=spans7_pure p it 0 (fm,min (fm+1000000) (high+fr)) hc (by omega) (by omega) (by simp only;omega) (by simp only;omega)
      simp only [Qa] at k74
      have hbd:∀ a∈Xn p it 0 (fm,min (fm+1000000) (high+fr)),fm<=a.1/\a.1 < a.2/\a.2<=min (fm+1000000) (high+fr)/\0<=a.1/\a.2<=100000001:=fun a ha=>permS_bd (by simp only;omega) ha
      have hln:=Qae p it 0 (fm,min (fm+1000000) (high+fr))
      simp [h14,h12,h13,w44_0,Qa,orcF44,c1,hwh,hw1,hmn,hmn']
      obtain ⟨L,hL⟩:∃ L,Xn p it 0 (fm,min (fm+1000000) (high+fr))=L:=⟨_,rfl⟩
      rw [hL] at k74 hbd hx hln |-
      obtain ⟨R,hR⟩:∃ R,rfS fr L run last=R:=⟨_,rfl⟩
      rw [hR] at hx
      refine ⟨k74,?_⟩
      clear k74
      refine Qg w44_1 (InvFi p fr fm L R) (fun f _=>L.length - (numOf (f 16)).toNat) ?_ ?_
      ·exact ⟨0,run,last,by simp,by simp [h12],by simp [h13],by omega,hrn,hla,hR,by simp [Qa]⟩
      ·rintro g m ⟨j,run2,last2,g16,g12,g13,hj,hrn2,hla2,hx2,rfl⟩
       rcases Nat.lt_or_ge j L.length with jlt | jge
       ·obtain ⟨s,hs⟩:=getS jlt
        have jrow:=Xu hs
        have jilt:(j:Int) < (L.length:Int):=by omega
        have hwj:=wrS j (by omega)
        obtain ⟨q1,q2,q3,q4,q5⟩:=hbd s (List.mem_of_getElem? hs)
        rw [Qr hs,rfS] at hx2
        obtain ⟨nr,hnr⟩:∃ nr,(if run2 < 0\/s.1≠last2 then s.1 else run2)=nr:=⟨_,rfl⟩
        rw [hnr] at hx2
        have hnb : -1<=nr/\nr<=100000001:=by rw [<- hnr];split<;>omega
        have hwd:IntKind.i64.wrap (s.2 - nr)=s.2 - nr:=by rw [Qh]<;>omega
        have fin:∀ (v:Int),nr=v->IntKind.i64.wrap (s.2 - v)=s.2 - v:=fun v hv=>by rw [<- hv];exact hwd
        by_cases d1:run2 < 0
        ·have hv:nr=s.1:=by rw [<- hnr,if_pos (.inl d1)]
         subst hv
         by_cases d3:fr<=s.2 - s.1
         ·rw [if_pos d3] at hx2
          subst hx2
          have hx:some s.1=T:=hx
          subst hx
          simp [g16,g12,g13,w44_1,w44_0,jlt,jilt,jrow,Qe,Qa,d1,hwd,d3,rs44,Qar]
         ·rw [if_neg d3] at hx2
          simp [g16,g12,g13,w44_1,w44_0,jlt,jilt,jrow,Qe,Qa,d1,hwd,d3,hwj]
          refine ⟨ag ?_,⟨j+1,s.1,s.2,by simp,by simp,by simp,by omega,by omega,by omega,hx2,by simp [Qa]⟩,by omega⟩
          repeat (first | exact Qb _ _ | refine Qc _ rfl ?_)
        ·by_cases d2:s.1=last2
         ·have hv:nr=run2:=by rw [<- hnr,if_neg (by omega)]
          subst hv
          by_cases d3:fr<=s.2 - nr
          ·rw [if_pos d3] at hx2
           subst hx2
           have hx:some nr=T:=hx
           subst hx
           simp [g16,g12,g13,w44_1,w44_0,jlt,jilt,jrow,Qe,Qa,d1,d2,hwd,d3,rs44,Qar]
          ·rw [if_neg d3] at hx2
           simp [g16,g12,g13,w44_1,w44_0,jlt,jilt,jrow,Qe,Qa,d1,d2,hwd,d3,hwj]
           refine ⟨ag ?_,⟨j+1,nr,s.2,by simp,by simp [g12],by simp,by omega,by omega,by omega,hx2,by simp [Qa]⟩,by omega⟩
           repeat (first | exact Qb _ _ | refine Qc _ rfl ?_)
         ·have hv:nr=s.1:=by rw [<- hnr,if_pos (.inr d2)]
          subst hv
          by_cases d3:fr<=s.2 - s.1
          ·rw [if_pos d3] at hx2
           subst hx2
           have hx:some s.1=T:=hx
           subst hx
           simp [g16,g12,g13,w44_1,w44_0,jlt,jilt,jrow,Qe,Qa,d1,d2,hwd,d3,rs44,Qar]
          ·rw [if_neg d3] at hx2
           simp [g16,g12,g13,w44_1,w44_0,jlt,jilt,jrow,Qe,Qa,d1,d2,hwd,d3,hwj]
           refine ⟨ag ?_,⟨j+1,s.1,s.2,by simp,by simp,by simp,by omega,by omega,by omega,hx2,by simp [Qa]⟩,by omega⟩
           repeat (first | exact Qb _ _ | refine Qc _ rfl ?_)
       ·have jin:¬ (j:Int) < (L.length:Int):=by omega
        rw [List.drop_eq_nil_of_le jge,rfS] at hx2
        subst hx2
        have hx:rfO p it fr high (fm+1000000) run2 last2=T:=hx
        simp [g16,g12,g13,jin,Nat.not_lt.2 jge,w44_1,w44_0,h14,hw1]
        refine ⟨ag ?_,⟨fm+1000000,run2,last2,by simp,by simp [g12],by simp [g13],by omega,hrn2,hla2,hx,by simp [Qa]⟩,by omega⟩
        repeat (first | exact Qb _ _ | refine Qc _ rfl ?_)
     ·rw [if_neg c1] at hx
      simp [h14,h12,h13,w44_0,Qa,c1,hwh,rs44,<- hx,Qar]
end Go.Proofs.YtkcnjajklnoahaaGreatDoor
