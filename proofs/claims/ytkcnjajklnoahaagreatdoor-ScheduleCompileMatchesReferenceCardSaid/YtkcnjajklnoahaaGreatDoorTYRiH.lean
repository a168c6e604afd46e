import Derived.Test.YtkcnjajklnoahaaGreatDoorTYRiF
set_option linter.unusedVariables false
set_option linter.unusedSimpArgs false
set_option maxRecDepth 100000
set_option maxHeartbeats 64000000
namespace Go.Proofs.YtkcnjajklnoahaaGreatDoor
open Go Go.Abs
theorem cnt6_eq (item region:Int) (c:Cl):Qac item region c=cntB item region c:=by
 unfold Qac cntK cntB Qbe has6 wi bitC
 by_cases hr:0<=region/\region<=7
 ·have h1:0<=region/\region < 8:=by omega
  have h2:min region.toNat 64=region.toNat:=by omega
  have h3:c.re.fdiv (2 ^ region.toNat)=c.re / 2 ^ region.toNat:=Int.fdiv_eq_ediv_of_nonneg _ (Int.le_of_lt (Int.pow_pos (by omega)))
  rw [if_pos h1,h2,h3,decide_eq_true hr]
  by_cases k1:c.ki=1
  ·simp [k1]
   cases Xc c<;>simp
  ·by_cases k2:c.ki=2
   ·simp [k2]
    cases Xc c<;>simp
   ·simp [k1,k2]
 ·have h1:¬ (0<=region/\region < 8):=by omega
  rw [if_neg h1,decide_eq_false hr]
  simp
theorem filter6 (cs:List Cl) (item region:Int):cs.filter (Qac item region)=Uo cs item region:=by
 unfold Uo
 exact List.filter_congr fun c _=>cnt6_eq item region c
theorem refL_ok (C:List Cl) (Ed:List Int) (hasc:Ed.Pairwise (· < ·)):∀ j,j<=Ed.length - 1->NE (Ky C Ed j)/\∀ x,Xm (Ky C Ed j) x<->∃ i,i < j/\grX C (Ed.getD i 0)=true/\Ed.getD i 0<=x/\x < Ed.getD (i+1) 0
 | 0,_=>⟨fun _ h=>(by cases h),fun x=>by simp [Ky]⟩
 | j+1,hj=>by
  obtain ⟨i1,i2⟩:=refL_ok C Ed hasc j (by omega)
  rw [Ky]
  split
  ·rename_i hg
   obtain ⟨a1,a2⟩:=addA_ok (f:=Ed.getD j 0) (t:=Ed.getD (j+1) 0) i1
   refine ⟨a1,fun x=>?_⟩
   rw [a2,i2]
   constructor
   ·rintro (⟨i,h1,h2⟩ | h)
    ·exact ⟨i,by omega,h2⟩
    ·exact ⟨j,by omega,hg,h⟩
   ·rintro ⟨i,h1,h2,h3⟩
    rcases Nat.lt_or_ge i j with h | h
    ·exact .inl ⟨i,h,h2,h3⟩
    ·obtain rfl:i=j:=by omega
     exact .inr h3
  ·rename_i hg
   refine ⟨i1,fun x=>?_⟩
   rw [i2]
   constructor
   ·rintro ⟨i,h1,h2⟩;exact ⟨i,by omega,h2⟩
   ·rintro ⟨i,h1,h2,h3⟩
    rcases Nat.lt_or_ge i j with h | h
    ·exact ⟨i,h,h2,h3⟩
    ·obtain rfl:i=j:=by omega
     exact absurd h2 hg
theorem nb_gap {Bd:List Int} (hasc:Bd.Pairwise (· < ·)) {j:Nat} {u w:Int} (hu:Bd[j]? = some u) (hw:Bd[j+1]? = some w):∀ y∈Bd,y<=u\/w<=y:=by
 intro y hy
 obtain ⟨k,hk⟩:=List.getElem?_of_mem hy
 rcases Nat.lt_or_ge j k with h | h
 ·right
  have q1:=Xi (x:=w) hasc hk
  have q2:=Xi (x:=w) hasc hw
  omega
 ·left
  have q1:=Xi (x:=y) hasc hk
  have q2:=Xi (x:=y) hasc hu
  omega
theorem gr_nb {C:List Cl} {Bd:List Int} (hasc:Bd.Pairwise (· < ·)) (hmem:∀ c∈C,c.fr∈Bd/\c.to∈Bd) {j:Nat} {u w x:Int} (hu:Bd[j]? = some u) (hw:Bd[j+1]? = some w) (h1:u<=x) (h2:x < w):grX C u=grX C x:=by
 unfold grX
 rw [find_congr (q:=covB x)]
 intro c hc
 obtain ⟨m1,m2⟩:=hmem c (List.mem_reverse.1 hc)
 have g1:=nb_gap hasc hu hw _ m1
 have g2:=nb_gap hasc hu hw _ m2
 unfold covB
 exact decide_eq_decide.2 (by omega)
theorem ref6_has (cs:List Cl) (item region x:Int):Xm (ref6 cs item region) x<->grX (Uo cs item region) x=true:=by
 unfold ref6
 rw [filter6]
 generalize hC:Uo cs item region=C
 have hlt:∀ c∈C,c.fr < c.to:=by rw [<- hC];exact cntC_lt
 obtain ⟨hasc,hm⟩:=edS_all C
 have hmem:∀ c∈C,c.fr∈edS C/\c.to∈edS C:=fun c hc=>⟨(hm _).2 (Qcy hc).1,(hm _).2 (Qcy hc).2⟩
 rw [(refL_ok C (edS C) hasc _ (Nat.le_refl _)).2]
 generalize edS C=Ed at *
 constructor
 ·rintro ⟨j,hj,hg,h1,h2⟩
  obtain ⟨u,hu⟩:∃ u,Ed[j]? = some u:=⟨_,List.getElem?_eq_getElem (by omega)⟩
  obtain ⟨w,hw⟩:∃ w,Ed[j+1]? = some w:=⟨_,List.getElem?_eq_getElem (by omega)⟩
  rw [Jv hu] at hg h1;rw [Jv hw] at h2
  rw [<- gr_nb hasc hmem hu hw h1 h2];exact hg
 ·intro hg
  have hg':=hg
  rw [grX] at hg
  cases hf:C.reverse.find? (covB x) with
  | none=>rw [hf] at hg;simp at hg
  | some c =>
   have hc:=List.mem_reverse.1 (List.mem_of_find?_eq_some hf)
   have hi:=List.find?_some hf
   simp only [covB,decide_eq_true_eq] at hi
   obtain ⟨m1,m2⟩:=hmem c hc
   obtain ⟨k1,hk1⟩:=List.getElem?_of_mem m1
   obtain ⟨k2,hk2⟩:=List.getElem?_of_mem m2
   have a1:=(Xi (x:=x+1) hasc hk1).2 (by omega)
   have a2:=Xi (x:=x+1) hasc hk2
   have l2:=(List.getElem?_eq_some_iff.1 hk2).1
   obtain ⟨j,hj⟩:∃ j,bsS Ed (x+1)=j+1:=⟨bsS Ed (x+1) - 1,by omega⟩
   have hj1:j+1 < Ed.length:=by omega
   obtain ⟨u,hu⟩:∃ u,Ed[j]? = some u:=⟨_,List.getElem?_eq_getElem (by omega)⟩
   obtain ⟨w,hw⟩:∃ w,Ed[j+1]? = some w:=⟨_,List.getElem?_eq_getElem hj1⟩
   have b1:=Xi (x:=x+1) hasc hu
   have b2:=Xi (x:=x+1) hasc hw
   refine ⟨j,by omega,?_,by rw [Jv hu];omega,by rw [Jv hw];omega⟩
   rw [Jv hu,gr_nb (x:=x) hasc hmem hu hw (by omega) (by omega)];exact hg'
def We (p:Pl) (item region f:Int):Bool:=match Qy item p.its with
 | none=>false
 | some it=>if region < 0\/8<=region\/f < 0\/100000000 < f then false else if it.ki=5 then true else if Zl p=false then false else
  hasB (ref6 p.cls item region) (p.ep+Xz p.nu p.de f)&&(Vo p.cls it.ra).all fun w=>Qbn p.of p.sh (p.ep+Xz p.nu p.de f) w.1 w.2
theorem permB_iff (p:Pl) (item region f:Int):We p item region f=true<->Ue p item region f:=by
 unfold We Ue
 cases hf:Qy item p.its with
 | none=>simp
 | some it =>
  have hid:=(fndI_mem hf).2
  simp only [Option.some.injEq,exists_eq_left']
  split
  ·rename_i hb
   simp only [Bool.false_eq_true,false_iff]
   rintro ⟨h1,h2,_⟩;omega
  ·rename_i hb
   simp only [not_or] at hb
   unfold permI
   by_cases hk:it.ki=5
   ·rw [if_pos hk]
    simp only [hk,true_or,and_true,true_iff]
    omega
   ·rw [if_neg hk]
    cases ht:Zl p with
    | false=>simp [hk]
    | true =>
     have hz:Xl p.of p.sh=true:=by
      simp only [Zl,Bool.and_eq_true] at ht;exact ht.1.2
     simp only [Bool.true_eq_false,if_false,Bool.and_eq_true,hasB_iff,List.all_eq_true,hk,false_or,true_and]
     rw [ref6_has,hid]
     constructor
     ·rintro ⟨h1,h2⟩
      refine ⟨by omega,by omega,h1,fun w hw=>?_⟩
      obtain ⟨d1,d2⟩:=wshS_day w hw
      exact (wthB_iff hz d1 d2).1 (h2 w hw)
     ·rintro ⟨_,_,h1,h2⟩
      refine ⟨h1,fun w hw=>?_⟩
      obtain ⟨d1,d2⟩:=wshS_day w hw
      exact (wthB_iff hz d1 d2).2 (h2 w hw)
open Go Go.Abs
def InvIt (p:Pl) (id:Int) (f:Nat->AV) (mm:AM):Prop:=∃ (i:Nat),f 6=I i/\i<=p.its.length/\Qy id (p.its.drop i)=Qy id p.its/\mm=⟨[Qa p,[I 0,I 0,I 0,I 0,I 0]],[],fun _=>.gone,0⟩
theorem Qcp (p:Pl) (id:Int) (hl:p.its.length<=1000000000):Pure Tryz.prog gl0 70 [.agg (Qa p),I id] (Xk (Qy id p.its)):=by
 refine Ql code70 (fun _ _ _=>.junk) (by simp) ?_
 simp [sc70,Qa]
 refine Qg w70_0 (InvIt p id) (fun f _=>p.its.length - (numOf (f 6)).toNat) ?_ ?_
 ·exact ⟨0,by simp,Nat.zero_le _,rfl,by simp [Qa]⟩
 ·rintro f mm ⟨i,h6,hi,hf,rfl⟩
  rcases Nat.lt_or_ge i p.its.length with hlt | hge
  ·obtain ⟨x,hx⟩:=getS hlt
   have hrow:Qk (p.its.map Qf) i=Qf x:=Qv (by simp [hx])
   have hilt:(i:Int) < (p.its.length:Int):=by omega
   have hw:=wrS i (by omega)
   rw [Qr hx,Qy] at hf
   by_cases hid:x.id=id
   ·rw [if_pos hid] at hf
    rw [<- hf]
    simp [h6,hlt,hilt,hrow,Qa,Qf,hid,w70_0,rs70,Xk]
   ·rw [if_neg hid] at hf
    simp [h6,hlt,hilt,hrow,Qa,Qf,hid,w70_0,hw]
    refine ⟨ag ?_,⟨i+1,by simp,by omega,hf,by simp [Qa]⟩,by omega⟩
    repeat (first | exact Qb _ _ | refine Qc _ rfl ?_)
  ·obtain rfl:i=p.its.length:=by omega
   rw [List.drop_length,Qy] at hf
   rw [<- hf]
   simp [h6,Qa,w70_0,rs70,Xk]
theorem timed7_pure (p:Pl) (hl:p.sh.length<=1000000000):Pure Tryz.prog gl0 101 [.agg (Qa p)] (.bool (Zl p)):=by
 have h1:=Wy p.nu p.de
 have h2:=Wx p.of p.sh hl
 refine Ql code101 (fun _ g _=>if g=58 then .bool (Xq p.nu p.de) else .bool (Xl p.of p.sh)) (by simp) ?_
 cases hv:Xq p.nu p.de with
 | false=>rw [hv] at h1;simp [sc101,rs101,Qa,Zl,hv];exact ⟨h1,h2⟩
 | true =>
  rw [hv] at h1
  cases hz:Xl p.of p.sh with
  | false=>rw [hz] at h2;simp [sc101,rs101,Qa,Zl,hv,hz];exact ⟨h1,h2⟩
  | true =>
   rw [hz] at h2
   by_cases c1:0<=p.ep<;>by_cases c2:p.ep<=9000000000<;>simp [sc101,rs101,Qa,Zl,hv,hz,c1,c2]<;>exact ⟨h1,h2⟩
def orcPe (p:Pl):Nat->FuncId->List AV->AV:=fun d f l =>
 if f=70 then (match l with | [_,.int _ n]=>Xk (Qy n p.its) | _=>.junk) else
 if f=101 then .bool (Zl p) else
 if f=102 then (match l with | [_,.int _ n]=>I (Xz p.nu p.de n) | _=>.junk) else
 if f=132 then (match l with | [_,.int _ a,.int _ b]=>.sl .ro ((ref6 p.cls a b).map Qe) | _=>.junk) else
 if f=131 then (match l with | [.sl _ rows,.int _ x]=>.bool (hasB (rows.map unSp) x) | _=>.junk) else
 if f=133 then (match l with | [_,.int _ a]=>.sl .ro ((Vo p.cls a).map Qe) | _=>.junk) else
 if f=134 then (match l with | [_,.int _ x,.int _ a,.int _ b]=>.bool (Qbn p.of p.sh x a b) | _=>.junk) else .junk
def InvPe (p:Pl) (it:It) (h:Bool) (sec:Int) (f:Nat->AV) (mm:AM):Prop:=∃ (i:Nat),f 15=I i/\i<=(Vo p.cls it.ra).length/\f 13=.bool (h&&((Vo p.cls it.ra).take i).all fun w=>Qbn p.of p.sh sec w.1 w.2)/\mm=⟨[Qa p,Qf it],[],fun _=>.gone,0⟩
theorem wshS_len (cs:List Cl) (ra:Int):(Vo cs ra).length<=cs.length:=by
 unfold Vo;rw [List.length_map];exact List.length_filter_le _ _
theorem perm7_pure (p:Pl) (item region f0:Int) (hc:p.cls.length<=1000) (hsh:p.sh.length<=1000000000) (hit:p.its.length<=1000000000):Pure Tryz.prog gl0 103 [.agg (Qa p),I item,I region,I f0] (.bool (We p item region f0)):=by
 have k128:=Qcp p item hit
 refine Ql code103 (orcPe p) (by simp) ?_
 cases hf:Qy item p.its with
 | none =>
  rw [hf] at k128
  have hP:We p item region f0=false:=by simp only [We,hf]
  rw [hP]
  simp [sc103,rs103,Qa,orcPe,hf,Xk]
  exact k128
 | some it =>
  rw [hf] at k128
  have hP:We p item region f0=if region < 0\/8<=region\/f0 < 0\/100000000 < f0 then false else if it.ki=5 then true else if Zl p=false then false else
   hasB (ref6 p.cls item region) (p.ep+Xz p.nu p.de f0)&&(Vo p.cls it.ra).all fun w=>Qbn p.of p.sh (p.ep+Xz p.nu p.de f0) w.1 w.2:=by simp only [We,hf]
  by_cases c1:region < 0
  ·rw [hP,if_pos (.inl c1)]
   simp [sc103,rs103,Qa,orcPe,hf,Xk,Qf,c1]
   exact k128
  ·by_cases c2:8<=region
   ·rw [hP,if_pos (.inr (.inl c2))]
    simp [sc103,rs103,Qa,orcPe,hf,Xk,Qf,c1,c2]
    exact k128
   ·by_cases c3:f0 < 0
    ·rw [hP,if_pos (.inr (.inr (.inl c3)))]
     simp [sc103,rs103,Qa,orcPe,hf,Xk,Qf,c1,c2,c3]
     exact k128
    ·by_cases c4:100000000 < f0
     ·rw [hP,if_pos (.inr (.inr (.inr c4)))]
      simp [sc103,rs103,Qa,orcPe,hf,Xk,Qf,c1,c2,c3,c4]
      exact k128
     ·rw [if_neg (by omega)] at hP
      by_cases c5:it.ki=5
      ·rw [hP,if_pos c5]
       simp only [Xk,Qf,c5] at k128
       simp [sc103,rs103,Qa,orcPe,hf,Xk,Qf,c1,c2,c3,c4,c5]
       exact k128
      ·rw [if_neg c5] at hP
       have k76:=timed7_pure p hsh
       cases ht:Zl p with
       | false =>
        rw [ht] at k76
        rw [hP,if_pos ht]
        simp [sc103,rs103,Qa,orcPe,hf,Xk,Qf,c1,c2,c3,c4,c5,ht]
        exact ⟨k128,k76⟩
       | true =>
        rw [ht] at k76
        rw [if_neg (by rw [ht];simp)] at hP
        have he:0<=p.ep/\p.ep<=9000000000:=by
         simp only [Zl,Bool.and_eq_true,decide_eq_true_eq] at ht;exact ht.2
        have k78:=rsecs_pure p.nu p.de f0
        have hsb:=Qba p.nu p.de f0
        have hw1:IntKind.i64.wrap (p.ep+Xz p.nu p.de f0)=p.ep+Xz p.nu p.de f0:=by rw [Qh]<;>omega
        obtain ⟨rt6,k130'⟩:=ref6_pure0 p.cls item region hc
        have k130:=Vg k130' (Wk.sl _ _)
        have h6l:(ref6 p.cls item region).length<=1000000:=by
         unfold ref6
         have h1:=refL_len (p.cls.filter (Qac item region)) (edS (p.cls.filter (Qac item region))) ((edS (p.cls.filter (Qac item region))).length - 1)
         have h2:=edS_len (p.cls.filter (Qac item region))
         have h3:(p.cls.filter (Qac item region)).length<=p.cls.length:=List.length_filter_le _ _
         omega
        have k131:=wsh6_pure p.cls it.ra (by omega)
        have hwl:=wshS_len p.cls it.ra
        generalize hsec:p.ep+Xz p.nu p.de f0=sec at *
        have k129:=has5_pure (ref6 p.cls item region) sec (by omega)
        simp [sc103,Qa,orcPe,hf,Xk,Qf,c1,c2,c3,c4,c5,ht,hw1,hsec]
        refine ⟨k128,k76,k78,k130,k129,k131,?_⟩
        clear k128 k76 k78 k130 k130' k129 k131
        rw [hP]
        generalize hasB (ref6 p.cls item region) sec=hb
        refine Qg w103_0 (InvPe p it hb sec) (fun f _=>(Vo p.cls it.ra).length - (numOf (f 15)).toNat) ?_ ?_
        ·exact ⟨0,by simp,Nat.zero_le _,by simp,by simp [Qa,Qf]⟩
        ·rintro g mm ⟨i,g15,hi,g13,rfl⟩
         unfold InvPe
         generalize hWs:Vo p.cls it.ra=Ws at *
         rcases Nat.lt_or_ge i Ws.length with hlt | hge
         ·obtain ⟨w,hw⟩:=getS hlt
          have hrow:=Xu hw
          have hilt:(i:Int) < (Ws.length:Int):=by omega
          have hwr:=wrS i (by omega)
          have k132:=rwithin_pure p.of p.sh sec w.1 w.2 hsh
          have htk:(hb&&(Ws.take (i+1)).all fun w=>Qbn p.of p.sh sec w.1 w.2)=((hb&&(Ws.take i).all fun w=>Qbn p.of p.sh sec w.1 w.2)&&Qbn p.of p.sh sec w.1 w.2):=by
           rw [List.take_add_one,hw,List.all_append]
           simp [Bool.and_assoc]
          generalize (hb&&(Ws.take i).all fun w=>Qbn p.of p.sh sec w.1 w.2)=acc at *
          simp [g15,g13,w103_0,hlt,hilt,hrow,Qa,orcPe,hwr]
          refine ⟨k132,ag ?_,⟨i+1,by omega,by omega,htk.symm⟩,by omega⟩
          repeat (first | exact Qb _ _ | refine Qc _ rfl ?_)
         ·obtain rfl:i=Ws.length:=by omega
          rw [List.take_length] at g13
          simp [g15,g13,w103_0,rs103]
def InvEn (p:Pl) (id:Int) (f:Nat->AV) (mm:AM):Prop:=∃ (i:Nat),f 6=I i/\i<=p.ens.length/\Yv id (p.ens.drop i)=Yv id p.ens/\mm=⟨[Qa p,[I 0,I 0,I 0,I 0,I 0,I 0,.sl .nil []]],[],fun _=>.gone,0⟩
theorem entry8_pure (p:Pl) (id:Int) (hl:p.ens.length<=1000000000):Pure Tryz.prog gl0 41 [.agg (Qa p),I id] (Wn (Yv id p.ens)):=by
 refine Ql code41 (fun _ _ _=>.junk) (by simp) ?_
 simp [sc41,Qa]
 refine Qg w41_0 (InvEn p id) (fun f _=>p.ens.length - (numOf (f 6)).toNat) ?_ ?_
 ·exact ⟨0,by simp,Nat.zero_le _,rfl,by simp [Qa]⟩
 ·rintro f mm ⟨i,h6,hi,hf,rfl⟩
  rcases Nat.lt_or_ge i p.ens.length with hlt | hge
  ·obtain ⟨x,hx⟩:=getS hlt
   have hrow:Qk (p.ens.map Qd) i=Qd x:=Qv (by simp [hx])
   have hilt:(i:Int) < (p.ens.length:Int):=by omega
   have hw:=wrS i (by omega)
   rw [Qr hx,Yv] at hf
   by_cases hid:x.id=id
   ·rw [if_pos hid] at hf
    rw [<- hf]
    simp [h6,hlt,hilt,hrow,Qa,Qd,hid,w41_0,rs41,Wn]
   ·rw [if_neg hid] at hf
    simp [h6,hlt,hilt,hrow,Qa,Qd,hid,w41_0,hw]
    refine ⟨ag ?_,⟨i+1,by simp,by omega,hf,by simp [Qa]⟩,by omega⟩
    repeat (first | exact Qb _ _ | refine Qc _ rfl ?_)
  ·obtain rfl:i=p.ens.length:=by omega
   rw [List.drop_length,Yv] at hf
   rw [<- hf]
   simp [h6,Qa,w41_0,rs41,Wn]
end Go.Proofs.YtkcnjajklnoahaaGreatDoor
