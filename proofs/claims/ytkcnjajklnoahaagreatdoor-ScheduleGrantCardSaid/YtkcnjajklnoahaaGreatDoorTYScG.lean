import Derived.Test.YtkcnjajklnoahaaGreatDoorTYScF
set_option linter.unusedVariables false
set_option linter.unusedSimpArgs false
set_option maxRecDepth 100000
set_option maxHeartbeats 64000000
namespace Go.Proofs.YtkcnjajklnoahaaGreatDoor
open Go Go.Abs
def lowA (p:Pl) (it:Int):List Ad->Int->Int
 | [],f=>f
 | a::r,f=>lowA p it r (if 0 < Ze p a.it it then max f (a.fr+a.fs+Ze p a.it it) else f)
theorem lowA_le_iff {p:Pl} {it:Int}:∀ {bf:List Ad} {f t:Int},lowA p it bf f<=t<->f<=t/\∀ a∈bf,0 < Ze p a.it it->a.fr+a.fs+Ze p a.it it<=t
 | [],f,t=>by simp [lowA]
 | a::r,f,t=>by
  rw [lowA,lowA_le_iff]
  simp only [List.mem_cons,forall_eq_or_imp]
  by_cases h:0 < Ze p a.it it
  ·rw [if_pos h]
   constructor
   ·rintro ⟨h1,h2⟩;exact ⟨by omega,fun _=>by omega,h2⟩
   ·rintro ⟨h1,h2,h3⟩;exact ⟨by have:=h2 h;omega,h3⟩
  ·rw [if_neg h]
   constructor
   ·rintro ⟨h1,h2⟩;exact ⟨h1,fun h'=>absurd h' h,h2⟩
   ·rintro ⟨h1,h2,h3⟩;exact ⟨h1,h3⟩
theorem lowA_R (p:Pl) (it:Int) (bf:List Ad) (f:Int):lowA p it bf f=Qbi p it (Qas bf) f:=by
 have key:∀ t,lowA p it bf f<=t<->Qbi p it (Qas bf) f<=t:=fun t=>by
  rw [lowA_le_iff,Yh]
  refine and_congr_right fun _=>?_
  constructor
  ·intro h a ha hg
   simp only [Qas,List.mem_reverse,List.mem_map] at ha
   obtain ⟨b,hb,rfl⟩:=ha
   exact h b hb hg
  ·intro h b hb hg
   exact h (b.it,b.fr+b.fs) (by simp only [Qas,List.mem_reverse,List.mem_map];exact ⟨b,hb,rfl⟩) hg
 have h1:=(key (Qbi p it (Qas bf) f)).2 (Int.le_refl _)
 have h2:=(key (lowA p it bf f)).1 (Int.le_refl _)
 omega
theorem lowA_bd {p:Pl} {it:Int}:∀ {bf:List Ad} {f M:Int},(∀ a∈bf,a.fr+a.fs<=1000000000)->f<=M->7000000000<=M->lowA p it bf f<=M:=by
 intro bf f M h h1 h2
 refine lowA_le_iff.2 ⟨h1,fun a ha _=>?_⟩
 have:=h a ha
 have:=gapS_bd p a.it it
 omega
theorem runH_step {it:Int} {bf:List Ad} {k:Nat} {a:Ad} (h:bf[k]? = some a):Qbq it (bf.take (k+1))=Qbq it (bf.take k)+if a.it=it then 1 else 0:=by
 rw [Zq h]
 unfold Qbq
 rw [List.filter_append,List.length_append,List.filter_cons]
 by_cases e:a.it=it<;>simp [e]
theorem runH_bd (it:Int) (bf:List Ad):0<=Qbq it bf/\Qbq it bf<=bf.length:=by
 unfold Qbq
 have:=List.length_filter_le (fun a:Ad=>decide (a.it=it)) bf
 omega
def Dis (a b:Rt):Prop:=∀ i s j t,a=.own i s->b=.own j t->i≠j
theorem OutR.lt {α:Type} {sz lo:Nat} {ls:List Nat} {i s:Nat} {l:List α} (h:OutR sz lo ls (.own i s) l):i < ls.length:=by
 rcases h with ⟨_,h⟩ | ⟨k,h1,h2,h3,h4⟩
 ·cases h
 ·cases h1;exact (List.getElem?_eq_some_iff.1 h3).1
theorem OutR.set {α:Type} {sz lo:Nat} {ls:List Nat} {rt:Rt} {l:List α} (h:OutR sz lo ls rt l) {k v:Nat} (hd:∀ s,rt≠.own k s):OutR sz lo (ls.set k v) rt l:=by
 rcases h with h | ⟨j,h1,h2,h3,h4⟩
 ·exact .inl h
 ·exact .inr ⟨j,h1,h2,by rw [List.getElem?_set_ne (by rintro rfl;exact hd _ h1)];exact h3,h4⟩
theorem OutR.push {α:Type} {sz lo:Nat} {ls:List Nat} {k:Nat} {l:List α} (h1:lo<=k) (h2:ls[k]? = some l.length) (a:α):OutR sz lo (ls.set k (l.length+1)) (.own k sz) (l++[a]):=by
 have hk:=(List.getElem?_eq_some_iff.1 h2).1
 exact .inr ⟨k,rfl,h1,by simp [hk],by simp⟩
theorem OutR.first {α:Type} {sz lo:Nat} {ls:List Nat} (h:lo<=ls.length) (a:α):OutR sz lo (ls++[1]) (.own ls.length sz) [a]:=.inr ⟨_,rfl,h,by simp,by simp⟩
def InvRa (p:Pl) (past:List Ad) (f:Nat->AV) (m:AM):Prop :=
 ∃ (i:Nat) (rt:Rt) (ls:List Nat),f 11=I i/\i<=past.length/\f 10=.sl rt (((past.take i).filter Zn).map Qu)/\OutR 4 0 ls rt ((past.take i).filter Zn)/\m=⟨[Qa p],ls,fun _=>.gone,0⟩
def InvRb (p:Pl) (at_:Int) (ids:List Int) (N:Nat) (T:Option (List Sp)) (f:Nat->AV) (m:AM):Prop :=
 ∃ (i:Nat) (bf:List Ad) (free:Int) (l:List Sp) (rtb rt:Rt) (ls:List Nat) (bx:List (List AV)),f 14=I i/\i<=ids.length/\f 10=.sl rtb (bf.map Qu)/\OutR 4 0 ls rtb bf/\f 12=.sl rt (l.map Qe)/\OutR 2 0 ls rt l/\Dis rtb rt /\
  l.length=i/\bf.length<=N+i/\f 13=I free/\(0<=free/\free<=1000000000)/\(∀ a∈bf,0<=a.fr/\a.fr<=100000000/\1<=a.fs/\a.fs<=100000000)/\conT l (refG p at_ (ids.drop i) (Qas bf) free)=T/\m=⟨Qa p::bx,ls,fun _=>.gone,0⟩
def InvRc (p:Pl) (e:En) (bf:List Ad) (LO:Int) (bx:List (List AV)) (ls:List Nat) (f:Nat->AV) (m:AM):Prop :=
 ∃ (k:Nat) (lo:Int),f 19=I k/\k<=bf.length/\f 18=I (Qbq e.it (bf.take k))/\f 17=I lo/\lowA p e.it (bf.drop k) lo=LO/\m=⟨Qa p::(bx++[Qd e]),ls,fun _=>.gone,0⟩
def Zm (p:Pl) (ids:List Int):Nat->FuncId->List AV->AV:=fun _ f l=>if f=999999 then .junk else if f=39 then .bool (ordB p ids (-1)) else if f=40 then (match l with
 | [.agg [.int _ a,.int _ b,.int _ c,.int _ d]]=>.bool (Zn ⟨a,b,c,d⟩) | _=>.junk) else if f=41 then (match l with
 | [_,.int _ id]=>Wn (Yv id p.ens) | _=>.junk) else if f=42 then (match l with
 | [_,.int _ a,.int _ b]=>I (Ze p a b) | _=>.junk) else if f=43 then (match l with
 | [_,.int _ a,_]=>I (Zo p a) | _=>.junk) else if f=44 then (match l with
 | [_,.int _ it,.int _ fr,.int _ lo,.int _ hi]=>Qar hi (firO p it fr lo hi) | _=>.junk) else .junk
theorem ordB_fnd {p:Pl} {id:Int} {r:List Int} {last:Int} (h:ordB p (id::r) last=true):∃ (k:Nat) (e:En),p.ens[k]? = some e/\e.id=id/\Yv id p.ens=some e/\ordB p r k=true:=by
 rw [ordB] at h
 cases hf:Vy id p.ens 0 with
 | none=>rw [hf] at h;cases h
 | some k =>
  rw [hf] at h
  simp only at h
  split at h
  ·cases h
  ·obtain ⟨_,e,h2,h3,h4⟩:=Km hf
   rw [Nat.sub_zero] at h2
   exact ⟨k,e,h2,h3,h4,h⟩
theorem ordB_mem {p:Pl}:∀ {ids:List Int} {last:Int},ordB p ids last=true->∀ id∈ids,∃ e∈p.ens,e.id=id/\Yv id p.ens=some e
 | [],_,_,id,h=>by cases h
 | i::r,last,h,id,hm=>by
  obtain ⟨k,e,h1,h2,h3,h4⟩:=ordB_fnd h
  rcases List.mem_cons.1 hm with rfl | hm
  ·exact ⟨e,List.mem_of_getElem? h1,h2,h3⟩
  ·exact ordB_mem h4 id hm
theorem ref17 {p:Pl} (h:PlK p) {at_:Int} (ha:Xx at_) {past:List Ad} (hp:past.length<=1000) {ids:List Int} (hi:ids.length<=1000) :
  Pure Tryz.prog gl0 17 [.agg (Qa p),.sl .ro (ids.map Qp),I at_,.sl .ro (past.map Qu)] (Ui p at_ past ids):=by
 obtain ⟨l1,l2,l3,l4,l5,l6,l7,l8,l9,l10⟩:=h
 have k39:=inOrder39 p ids (by omega) (by omega)
 simp only [Qa] at k39
 obtain ⟨hA,hB⟩:=past_rel p past [] [] [] ⟨RelA.nil p,RelB.nil p⟩
 rw [List.append_nil,<- endH_past] at hA hB
 have hmax:max (0:Int) at_=max at_ 0:=by omega
 obtain ⟨g1,g2⟩:=earG_ref (p:=p) (at_:=at_) (ids:=ids) (free:=0) (free':=at_) (last := -1) hA hB (Int.le_refl 0) hmax
 refine Ql code17 (Zm p ids) (by simp) ?_
 cases ho:ordB p ids (-1) with
 | false =>
  have hr:Ui p at_ past ids=.tup [.sl .nil [],.bool false]:=by rw [Ui,show Qq p at_ past ids=none from g2 ho]
  rw [ho] at k39
  rw [hr]
  simp [sc17,rs17,Qa,Zm,ho]
  exact k39
 | true =>
  rw [ho] at k39
  have hfnd:=ordB_mem ho
  have g1:Qq p at_ past ids=refG p at_ ids (Qas (past.filter Zn)) 0:=g1 ho
  clear g2 hA hB
  simp [sc17,Qa,Zm,ho]
  refine ⟨k39,?_⟩
  clear k39
  refine Qg w17_0 (InvRa p past) (fun f _=>past.length - (numOf (f 11)).toNat) ?_ ?_
  ·exact ⟨0,.nil,[],by simp,by omega,by simp,.inl ⟨by simp,rfl⟩,by simp [Qa]⟩
  ·rintro f m ⟨i,rt,ls,h11,hil,h10,hO,rfl⟩
   rcases Nat.lt_or_ge i past.length with hlt | hge
   ·obtain ⟨a,hx⟩:=getS hlt
    have hrow:Qk (past.map Qu) i=Qu a:=Qv (by simp [hx])
    have hilt:(i:Int) < (past.length:Int):=by omega
    have hw:=wrS i (by omega)
    have k40:=countsA_pure a
    simp only [Qu] at k40
    have htk:(past.take (i+1)).filter Zn=(past.take i).filter Zn++if Zn a=true then [a] else []:=by
     rw [Zq hx,List.filter_append,List.filter_cons];rfl
    have hfl:((past.take i).filter Zn).length<=1000:=by
     have:=List.length_filter_le Zn (past.take i)
     simp at this;omega
    obtain ⟨S,hS⟩:∃ S,(past.take i).filter Zn=S:=⟨_,rfl⟩
    rw [hS] at h10 hO htk hfl
    cases hc:Zn a with
    | false =>
     rw [hc] at k40 htk
     have htk:(past.take (i+1)).filter Zn=S:=by rw [htk];simp
     simp [h11,h10,hlt,hilt,hrow,Qu,Qa,Zm,w17_0,hw,hc]
     refine ⟨k40,ag ?_,⟨i+1,rt,ls,by simp,by omega,by rw [htk];simp [h10,Qu],by rw [htk];exact hO,by simp [Qa]⟩,by omega⟩
     repeat (first | exact Qb _ _ | refine Qc _ rfl ?_)
    | true =>
     rw [hc] at k40 htk
     have htk:(past.take (i+1)).filter Zn=S++[a]:=by rw [htk];simp
     rcases hO with ⟨rfl,rfl⟩ | ⟨k,rfl,hk1,hk2,hk3⟩
     ·simp [h11,h10,hlt,hilt,hrow,Qu,Qa,Zm,w17_0,hw,hc]
      refine ⟨k40,ag ?_,⟨i+1,.own ls.length 4,ls++[1],by simp,by omega,by rw [htk];simp [Qu],.inr ⟨_,rfl,by omega,by rw [htk];simp,by rw [htk];simp⟩,by simp [Qa]⟩,by omega⟩
      repeat (first | exact Qb _ _ | refine Qc _ rfl ?_)
     ·have hk4:=(List.getElem?_eq_some_iff.1 hk2).1
      simp [h11,h10,hlt,hilt,hrow,Qu,Qa,Zm,w17_0,hw,hc,hk2]
      refine ⟨k40,⟨?_,by omega⟩,ag ?_,⟨i+1,.own k 4,ls.set k (S.length+1),by simp,by omega,by rw [htk];simp [Qu],.inr ⟨_,rfl,by omega,by rw [htk];simp [hk4],by rw [htk];simp⟩,by simp [Qa]⟩,by omega⟩
      ·rintro row (⟨a,_,rfl⟩ | rfl)<;>rfl
      ·repeat (first | exact Qb _ _ | refine Qc _ rfl ?_)
   ·have hin:¬ (i:Int) < (past.length:Int):=by omega
    have htl:past.take i=past:=List.take_of_length_le (by omega)
    rw [htl] at h10 hO
    have hfl:(past.filter Zn).length<=past.length:=List.length_filter_le _ _
    have hba:∀ a∈past.filter Zn,0<=a.fr/\a.fr<=100000000/\1<=a.fs/\a.fs<=100000000:=fun a h=>by
     have:=(List.mem_filter.1 h).2
     simp [Zn] at this;omega
    obtain ⟨T,hT⟩:∃ T,Qq p at_ past ids=T:=⟨_,rfl⟩
    rw [hT] at g1
    simp [h11,hin,Nat.not_lt.2 hge,w17_0,h10,Zm]
    clear h11 hin hge htl
    refine Qg w17_1 (InvRb p at_ ids past.length T) (fun f _=>ids.length - (numOf (f 14)).toNat) ?_ ?_
    ·exact ⟨0,past.filter Zn,0,[],rt,.nil,ls,[],by simp,by omega,by simp [h10],hO,by simp,.inl ⟨rfl,rfl⟩,(fun i s j t _ h=>by cases h),rfl,by omega,by simp,by omega,hba,by rw [List.drop_zero,<- g1];cases T<;>rfl,by simp [Qa]⟩
    ·clear g1 h10
     rintro f m ⟨i,bf,free,l,rtb,rt,ls,bx,h14,hil,h10,hOb,h12,hO,hD,hll,hbl,h13,hfr,hbb,hg,rfl⟩
     rcases Nat.lt_or_ge i ids.length with hlt | hge
     ·obtain ⟨id,hx⟩:=getS hlt
      have hrow:Qk (ids.map Qp) i=Qp id:=Qv (by simp [hx])
      have hilt:(i:Int) < (ids.length:Int):=by omega
      have hw:=wrS i (by omega)
      obtain ⟨e,hem,heid,hfe⟩:=hfnd id (List.mem_of_getElem? hx)
      have k41:=entry8_pure p id (by omega)
      rw [hfe] at k41
      simp only [Qa,Wn,Qd] at k41
      rw [Qr hx,refG,hfe] at hg
      simp only at hg
      simp [h14,h10,h12,h13,hlt,hilt,hrow,Qp,Qa,Zm,w17_1,hfe,Wn,Qd]
      refine Yo ?_
      simp [hlt,hilt,hrow,Qp,Zm,hfe,Wn,Qd]
      have hmm:mm2 true (mm2 true free at_) e.ea=max (max free at_) e.ea:=by simp [mm2];omega
      have heb:=l8 e hem
      have hla:=l9 e hem
      have hfr2:=l10 e hem
      have hab:=ha
      unfold Xx at hab
      obtain ⟨LO,hLO⟩:∃ LO,Qbi p e.it (Qas bf) (max (max free at_) e.ea)=LO:=⟨_,rfl⟩
      rw [hLO,cnt_end] at hg
      have hLA:lowA p e.it bf (mm2 true (mm2 true free at_) e.ea)=LO:=by rw [hmm,lowA_R,hLO]
      have hLb:0<=LO/\LO<=9223372036854775807:=by
       have h1:=(lowA_le_iff (p:=p) (it:=e.it) (bf:=bf) (f:=mm2 true (mm2 true free at_) e.ea)).1 (Int.le_refl _)
       rw [hLA,hmm] at h1
       refine ⟨by omega,?_⟩
       rw [<- hLA,hmm]
       exact lowA_bd (fun a h=>by have:=hbb a h;omega) (by omega) (by omega)
      have hN:T=none->Ui p at_ past ids=.tup [.sl .nil [],.bool false]:=fun h=>by rw [Ui,hT,h]
      have hS:∀ l,T=some l->Ui p at_ past ids=.tup [Vm l,.bool true]:=fun l h=>by rw [Ui,hT,h]
      refine ⟨k41,?_⟩
      clear k41
      refine Qg w17_2 (InvRc p e bf LO bx ls) (fun f _=>bf.length - (numOf (f 19)).toNat) ?_ ?_
      ·exact ⟨0,mm2 true (mm2 true free at_) e.ea,by simp,by omega,by simp [Qbq],by simp,by rw [List.drop_zero];exact hLA,by simp [Qa,Qd]⟩
      ·rintro g m ⟨k,lo,g19,hk,g18,g17,hlo,rfl⟩
       rcases Nat.lt_or_ge k bf.length with klt | kge
       ·obtain ⟨a,hxa⟩:=getS klt
        have hrowa:Qk (bf.map Qu) k=Qu a:=Qv (by simp [hxa])
        have kilt:(k:Int) < (bf.length:Int):=by omega
        have hwk:=wrS k (by omega)
        have k42:=gap42 p a.it e.it (by omega) (by omega)
        simp only [Qa] at k42
        obtain ⟨G,hG⟩:∃ G,Ze p a.it e.it=G:=⟨_,rfl⟩
        have hGb:=gapS_bd p a.it e.it
        have hst:=runH_step (it:=e.it) hxa
        have hrb:=runH_bd e.it (bf.take k)
        have hrl:(bf.take k).length<=3000:=by simp;omega
        have hba:=hbb a (List.mem_of_getElem? hxa)
        have hwr:IntKind.i64.wrap (Qbq e.it (bf.take k)+1)=Qbq e.it (bf.take k)+1:=by rw [Qh]<;>omega
        rw [Qr hxa,lowA] at hlo
        rw [hG] at k42 hGb hlo
        have hw1:IntKind.i64.wrap (a.fr+a.fs)=a.fr+a.fs:=by rw [Qh]<;>omega
        have hw2:IntKind.i64.wrap (a.fr+a.fs+G)=a.fr+a.fs+G:=by rw [Qh]<;>omega
        have hmx:(if lo < a.fr+a.fs+G then a.fr+a.fs+G else lo)=max lo (a.fr+a.fs+G):=by omega
        by_cases r1:a.it=e.it
        ·rw [if_pos r1] at hst
         rw [r1] at k42 hG
         by_cases gp:0 < G
         ·rw [if_pos gp] at hlo
          simp [g19,g18,g17,h10,klt,kilt,hrowa,Qu,Qd,Qa,Zm,w17_2,r1,hG,gp,hwk,hwr,hw1,hw2,hmx]
          refine ⟨k42,ag ?_,⟨k+1,_,by simp,by omega,by rw [hst];simp,by simp,hlo,by simp [Qa,Qd]⟩,by omega⟩
          repeat (first | exact Qb _ _ | refine Qc _ rfl ?_)
         ·rw [if_neg gp] at hlo
          simp [g19,g18,g17,h10,klt,kilt,hrowa,Qu,Qd,Qa,Zm,w17_2,r1,hG,gp,hwk,hwr]
          refine ⟨k42,ag ?_,⟨k+1,lo,by simp,by omega,by rw [hst];simp,by simp [g17],hlo,by simp [Qa,Qd]⟩,by omega⟩
          repeat (first | exact Qb _ _ | refine Qc _ rfl ?_)
        ·rw [if_neg r1,Int.add_zero] at hst
         by_cases gp:0 < G
         ·rw [if_pos gp] at hlo
          simp [g19,g18,g17,h10,klt,kilt,hrowa,Qu,Qd,Qa,Zm,w17_2,r1,hG,gp,hwk,hw1,hw2,hmx]
          refine ⟨k42,ag ?_,⟨k+1,_,by simp,by omega,by rw [hst];simp [g18],by simp,hlo,by simp [Qa,Qd]⟩,by omega⟩
          repeat (first | exact Qb _ _ | refine Qc _ rfl ?_)
         ·rw [if_neg gp] at hlo
          simp [g19,g18,g17,h10,klt,kilt,hrowa,Qu,Qd,Qa,Zm,w17_2,r1,hG,gp,hwk]
          refine ⟨k42,ag ?_,⟨k+1,lo,by simp,by omega,by rw [hst];simp [g18],by simp [g17],hlo,by simp [Qa,Qd]⟩,by omega⟩
          repeat (first | exact Qb _ _ | refine Qc _ rfl ?_)
       ·have kin:¬ (k:Int) < (bf.length:Int):=by omega
        rw [List.drop_eq_nil_of_le kge,lowA] at hlo
        subst hlo
        rw [List.take_of_length_le kge] at g18
        have k43:=runs43 p e.it (by omega) (by omega)
        simp only [Qa] at k43
        obtain ⟨R,hR⟩:∃ R,Zo p e.it=R:=⟨_,rfl⟩
        obtain ⟨rn,hrn⟩:∃ rn,Qbq e.it bf=rn:=⟨_,rfl⟩
        rw [hR] at k43
        rw [hR,hrn] at hg
        rw [hrn] at g18
        by_cases c1:R ≠ -1/\R<=rn
        ·rw [if_pos (.inl c1)] at hg
         have hr:=hN hg.symm
         obtain ⟨c1,c2⟩:=c1
         simp [g19,g18,g17,h10,kin,Nat.not_lt.2 kge,Qa,Qd,Zm,w17_2,hR,c1,c2,rs17,hr]
         exact k43
        ·by_cases c3:e.fr < 1
         ·rw [if_pos (.inr (.inl c3))] at hg
          have hr:=hN hg.symm
          by_cases d1:R = -1
          ·simp [g19,g18,g17,h10,kin,Nat.not_lt.2 kge,Qa,Qd,Zm,w17_2,hR,d1,c3,rs17,hr]
           simpa [d1] using k43
          ·have d2:¬ R<=rn:=fun h=>c1 ⟨d1,h⟩
           simp [g19,g18,g17,h10,kin,Nat.not_lt.2 kge,Qa,Qd,Zm,w17_2,hR,d1,d2,c3,rs17,hr]
           exact k43
         ·by_cases c4:p.ln < e.fr
          ·rw [if_pos (.inr (.inr c4))] at hg
           have hr:=hN hg.symm
           by_cases d1:R = -1
           ·simp [g19,g18,g17,h10,kin,Nat.not_lt.2 kge,Qa,Qd,Zm,w17_2,hR,d1,c3,c4,rs17,hr]
            simpa [d1] using k43
           ·have d2:¬ R<=rn:=fun h=>c1 ⟨d1,h⟩
            simp [g19,g18,g17,h10,kin,Nat.not_lt.2 kge,Qa,Qd,Zm,w17_2,hR,d1,d2,c3,c4,rs17,hr]
            exact k43
          ·rw [if_neg (by rintro (h | h | h);exact c1 h;exact c3 h;exact c4 h),firO_R] at hg
           have hws:IntKind.i64.wrap (p.ln - e.fr)=p.ln - e.fr:=by rw [Qh]<;>omega
           have hhi:mm2 false (mm2 false e.la (p.ln - e.fr)) 100000000=Vj p e:=by simp [mm2,Vj];omega
           have k44:=first44 p e.it e.fr lo (Vj p e) l1 l2 l3 hLb.1 (by simp only [Vj];omega)
           simp only [Qa] at k44
           have hd:(R = -1/\True)\/(R ≠ -1/\¬ R<=rn):=by
            by_cases d1:R = -1
            ·exact .inl ⟨d1,trivial⟩
            ·exact .inr ⟨d1,fun h=>c1 ⟨d1,h⟩⟩
           cases hF:firO p e.it e.fr lo (Vj p e) with
           | none =>
            rw [hF] at hg k44
            have hr:=hN hg.symm
            rcases hd with ⟨d1,d2⟩ | ⟨d1,d2⟩
            ·simp [g19,g18,g17,h10,kin,Nat.not_lt.2 kge,Qa,Qd,Zm,w17_2,hR,d1,c3,c4,hws,hhi,hF,Qar,rs17,hr]
             exact ⟨by simpa [d1] using k43,k44⟩
            ·simp [g19,g18,g17,h10,kin,Nat.not_lt.2 kge,Qa,Qd,Zm,w17_2,hR,d1,d2,c3,c4,hws,hhi,hF,Qar,rs17,hr]
             exact ⟨k43,k44⟩
           | some s =>
            rw [hF] at hg k44
            simp only at hg
            by_cases c5:s<=Vj p e
            ·rw [if_pos c5] at hg
             simp only at hg
             have hfr1:1<=e.fr/\e.fr<=1000000:=by omega
             have hs0:0<=s:=by
              have hsp:=firstR_spec (p:=p) (it:=e.it) (fr:=e.fr) (low:=lo) (high:=Vj p e) hLb.1 hfr1
              rw [firO_R,hF] at hsp
              simp only at hsp
              rw [if_pos c5] at hsp
              have:=hsp.1.1
              omega
             have hsl:s<=100000000:=by
              have:Vj p e<=100000000:=by simp only [Vj];omega
              omega
             have hwe:IntKind.i64.wrap (s+e.fr)=s+e.fr:=by rw [Qh]<;>omega
             have hg2:conT (l++[(id,s)]) (refG p at_ (ids.drop (i+1)) (Qas (bf++[⟨e.it,0,s,e.fr⟩])) (s+e.fr))=T:=by
              rw [<- hg,end_app,<- conT_step]
              rfl
             have hb2:∀ a∈bf++[(⟨e.it,0,s,e.fr⟩:Ad)],0<=a.fr/\a.fr<=100000000/\1<=a.fs/\a.fs<=100000000:=fun a h=>by
              rcases List.mem_append.1 h with h | h
              ·exact hbb a h
              ·rw [List.mem_singleton] at h;subst h;simp only;omega
             simp only [Qar] at k44
             rcases hO with ⟨rfl,rfl⟩ | ⟨k2,rfl,ho1,ho2,ho3⟩
             ·rcases hOb with ⟨rfl,rfl⟩ | ⟨kb,rfl,hb1,hb2',hb3⟩
              ·have q1:OutR 2 0 (ls++[1]++[1]) (.own ls.length 2) ([]++[(id,s)]):=(OutR.first (by omega) _).app
               have q2:OutR 4 0 (ls++[1]++[1]) (.own (ls.length+1) 4) ([]++[(⟨e.it,0,s,e.fr⟩:Ad)]):=.inr ⟨_,rfl,by omega,by simp,by simp⟩
               have q3:Dis (.own (ls.length+1) 4) (.own ls.length 2):=fun i s j t h1 h2=>by cases h1;cases h2;omega
               rcases hd with ⟨d1,d2⟩ | ⟨d1,d2⟩
               ·simp [g19,g18,g17,h14,h10,h12,kin,Nat.not_lt.2 kge,Qa,Qd,Zm,w17_2,w17_1,hR,d1,c3,c4,hws,hhi,hF,Qar,c5,heid,hwe,hw]
                refine ⟨by simpa [d1] using k43,by simpa [c5] using k44,ag ?_,⟨i+1,_,s+e.fr,_,_,_,_,bx++[Qd e],by simp,by omega,by simp [Qu],q2,by simp [Qe],q1,q3,by simp at hll |-;omega,by simp at hbl |-;omega,by simp,by omega,hb2,hg2,by simp [Qa,Qd,heid]⟩,by omega⟩
                ·repeat (first | exact Qb _ _ | refine Qc _ rfl ?_)
               ·simp [g19,g18,g17,h14,h10,h12,kin,Nat.not_lt.2 kge,Qa,Qd,Zm,w17_2,w17_1,hR,d1,d2,c3,c4,hws,hhi,hF,Qar,c5,heid,hwe,hw]
                refine ⟨k43,by simpa [c5] using k44,ag ?_,⟨i+1,_,s+e.fr,_,_,_,_,bx++[Qd e],by simp,by omega,by simp [Qu],q2,by simp [Qe],q1,q3,by simp at hll |-;omega,by simp at hbl |-;omega,by simp,by omega,hb2,hg2,by simp [Qa,Qd,heid]⟩,by omega⟩
                ·repeat (first | exact Qb _ _ | refine Qc _ rfl ?_)
              ·have hkl:=(List.getElem?_eq_some_iff.1 hb2').1
               have hx1:(ls++[1])[kb]? = some bf.length:=by rw [List.getElem?_append_left hkl];exact hb2'
               have q1:OutR 2 0 ((ls++[1]).set kb (bf.length+1)) (.own ls.length 2) ([]++[(id,s)]):=(OutR.first (by omega) _).set (fun s h=>by cases h;omega)
               have q2:OutR 4 0 ((ls++[1]).set kb (bf.length+1)) (.own kb 4) (bf++[(⟨e.it,0,s,e.fr⟩:Ad)]):=OutR.push hb1 hx1 _
               have q3:Dis (.own kb 4) (.own ls.length 2):=fun i s j t h1 h2=>by cases h1;cases h2;omega
               rcases hd with ⟨d1,d2⟩ | ⟨d1,d2⟩
               ·simp [g19,g18,g17,h14,h10,h12,kin,Nat.not_lt.2 kge,Qa,Qd,Zm,w17_2,w17_1,hR,d1,c3,c4,hws,hhi,hF,Qar,c5,heid,hwe,hw,hx1]
                refine ⟨by simpa [d1] using k43,by simpa [c5] using k44,⟨?_,by omega⟩,ag ?_,⟨i+1,_,s+e.fr,_,_,_,_,bx++[Qd e],by simp,by omega,by simp [Qu],q2,by simp [Qe],q1,q3,by simp at hll |-;omega,by simp at hbl |-;omega,by simp,by omega,hb2,hg2,by simp [Qa,Qd,heid]⟩,by omega⟩
                ·first | (rintro row (⟨a,_,rfl⟩ | rfl)<;>rfl) | (rintro row (⟨a,b,_,rfl⟩ | rfl)<;>rfl)
                ·repeat (first | exact Qb _ _ | refine Qc _ rfl ?_)
               ·simp [g19,g18,g17,h14,h10,h12,kin,Nat.not_lt.2 kge,Qa,Qd,Zm,w17_2,w17_1,hR,d1,d2,c3,c4,hws,hhi,hF,Qar,c5,heid,hwe,hw,hx1]
                refine ⟨k43,by simpa [c5] using k44,⟨?_,by omega⟩,ag ?_,⟨i+1,_,s+e.fr,_,_,_,_,bx++[Qd e],by simp,by omega,by simp [Qu],q2,by simp [Qe],q1,q3,by simp at hll |-;omega,by simp at hbl |-;omega,by simp,by omega,hb2,hg2,by simp [Qa,Qd,heid]⟩,by omega⟩
                ·first | (rintro row (⟨a,_,rfl⟩ | rfl)<;>rfl) | (rintro row (⟨a,b,_,rfl⟩ | rfl)<;>rfl)
                ·repeat (first | exact Qb _ _ | refine Qc _ rfl ?_)
             ·have hkl2:=(List.getElem?_eq_some_iff.1 ho2).1
              rcases hOb with ⟨rfl,rfl⟩ | ⟨kb,rfl,hb1,hb2',hb3⟩
              ·have q1:OutR 2 0 (ls.set k2 (l.length+1)++[1]) (.own k2 2) (l++[(id,s)]):=(OutR.push ho1 ho2 _).app
               have q2:OutR 4 0 (ls.set k2 (l.length+1)++[1]) (.own ls.length 4) ([]++[(⟨e.it,0,s,e.fr⟩:Ad)]):=.inr ⟨_,rfl,by omega,by simp,by simp⟩
               have q3:Dis (.own ls.length 4) (.own k2 2):=fun i s j t h1 h2=>by cases h1;cases h2;omega
               rcases hd with ⟨d1,d2⟩ | ⟨d1,d2⟩
               ·simp [g19,g18,g17,h14,h10,h12,kin,Nat.not_lt.2 kge,Qa,Qd,Zm,w17_2,w17_1,hR,d1,c3,c4,hws,hhi,hF,Qar,c5,heid,hwe,hw,ho2]
                refine ⟨by simpa [d1] using k43,by simpa [c5] using k44,⟨?_,by omega⟩,ag ?_,⟨i+1,_,s+e.fr,_,_,_,_,bx++[Qd e],by simp,by omega,by simp [Qu],q2,by simp [Qe],q1,q3,by simp at hll |-;omega,by simp at hbl |-;omega,by simp,by omega,hb2,hg2,by simp [Qa,Qd,heid]⟩,by omega⟩
                ·first | (rintro row (⟨a,_,rfl⟩ | rfl)<;>rfl) | (rintro row (⟨a,b,_,rfl⟩ | rfl)<;>rfl)
                ·repeat (first | exact Qb _ _ | refine Qc _ rfl ?_)
               ·simp [g19,g18,g17,h14,h10,h12,kin,Nat.not_lt.2 kge,Qa,Qd,Zm,w17_2,w17_1,hR,d1,d2,c3,c4,hws,hhi,hF,Qar,c5,heid,hwe,hw,ho2]
                refine ⟨k43,by simpa [c5] using k44,⟨?_,by omega⟩,ag ?_,⟨i+1,_,s+e.fr,_,_,_,_,bx++[Qd e],by simp,by omega,by simp [Qu],q2,by simp [Qe],q1,q3,by simp at hll |-;omega,by simp at hbl |-;omega,by simp,by omega,hb2,hg2,by simp [Qa,Qd,heid]⟩,by omega⟩
                ·first | (rintro row (⟨a,_,rfl⟩ | rfl)<;>rfl) | (rintro row (⟨a,b,_,rfl⟩ | rfl)<;>rfl)
                ·repeat (first | exact Qb _ _ | refine Qc _ rfl ?_)
              ·have hkl:=(List.getElem?_eq_some_iff.1 hb2').1
               have hne:=hD kb 4 k2 2 rfl rfl
               have hx1:(ls.set k2 (l.length+1))[kb]? = some bf.length:=by rw [List.getElem?_set_ne (fun h=>hne h.symm)];exact hb2'
               have q1:OutR 2 0 ((ls.set k2 (l.length+1)).set kb (bf.length+1)) (.own k2 2) (l++[(id,s)]):=(OutR.push ho1 ho2 _).set (fun s h=>by cases h;exact hne rfl)
               have q2:OutR 4 0 ((ls.set k2 (l.length+1)).set kb (bf.length+1)) (.own kb 4) (bf++[(⟨e.it,0,s,e.fr⟩:Ad)]):=OutR.push hb1 hx1 _
               have q3:Dis (.own kb 4) (.own k2 2):=hD
               rcases hd with ⟨d1,d2⟩ | ⟨d1,d2⟩
               ·simp [g19,g18,g17,h14,h10,h12,kin,Nat.not_lt.2 kge,Qa,Qd,Zm,w17_2,w17_1,hR,d1,c3,c4,hws,hhi,hF,Qar,c5,heid,hwe,hw,ho2,hx1]
                refine ⟨by simpa [d1] using k43,by simpa [c5] using k44,⟨?_,by omega⟩,⟨?_,by omega⟩,ag ?_,⟨i+1,_,s+e.fr,_,_,_,_,bx++[Qd e],by simp,by omega,by simp [Qu],q2,by simp [Qe],q1,q3,by simp at hll |-;omega,by simp at hbl |-;omega,by simp,by omega,hb2,hg2,by simp [Qa,Qd,heid]⟩,by omega⟩
                ·first | (rintro row (⟨a,_,rfl⟩ | rfl)<;>rfl) | (rintro row (⟨a,b,_,rfl⟩ | rfl)<;>rfl)
                ·first | (rintro row (⟨a,_,rfl⟩ | rfl)<;>rfl) | (rintro row (⟨a,b,_,rfl⟩ | rfl)<;>rfl)
                ·repeat (first | exact Qb _ _ | refine Qc _ rfl ?_)
               ·simp [g19,g18,g17,h14,h10,h12,kin,Nat.not_lt.2 kge,Qa,Qd,Zm,w17_2,w17_1,hR,d1,d2,c3,c4,hws,hhi,hF,Qar,c5,heid,hwe,hw,ho2,hx1]
                refine ⟨k43,by simpa [c5] using k44,⟨?_,by omega⟩,⟨?_,by omega⟩,ag ?_,⟨i+1,_,s+e.fr,_,_,_,_,bx++[Qd e],by simp,by omega,by simp [Qu],q2,by simp [Qe],q1,q3,by simp at hll |-;omega,by simp at hbl |-;omega,by simp,by omega,hb2,hg2,by simp [Qa,Qd,heid]⟩,by omega⟩
                ·first | (rintro row (⟨a,_,rfl⟩ | rfl)<;>rfl) | (rintro row (⟨a,b,_,rfl⟩ | rfl)<;>rfl)
                ·first | (rintro row (⟨a,_,rfl⟩ | rfl)<;>rfl) | (rintro row (⟨a,b,_,rfl⟩ | rfl)<;>rfl)
                ·repeat (first | exact Qb _ _ | refine Qc _ rfl ?_)
            ·rw [if_neg c5] at hg
             have hr:=hN hg.symm
             simp only [Qar] at k44
             rcases hd with ⟨d1,d2⟩ | ⟨d1,d2⟩
             ·simp [g19,g18,g17,h10,kin,Nat.not_lt.2 kge,Qa,Qd,Zm,w17_2,hR,d1,c3,c4,hws,hhi,hF,Qar,rs17,hr,c5]
              exact ⟨by simpa [d1] using k43,by simpa [c5] using k44⟩
             ·simp [g19,g18,g17,h10,kin,Nat.not_lt.2 kge,Qa,Qd,Zm,w17_2,hR,d1,d2,c3,c4,hws,hhi,hF,Qar,rs17,hr,c5]
              exact ⟨k43,by simpa [c5] using k44⟩
     ·have hin:¬ (i:Int) < (ids.length:Int):=by omega
      rw [List.drop_eq_nil_of_le hge,refG] at hg
      have hg:some (l++[])=T:=hg
      rw [List.append_nil] at hg
      have hr:Ui p at_ past ids=.tup [Vm l,.bool true]:=by rw [Ui,hT,<- hg]
      rw [hr]
      rcases hO with ⟨rfl,rfl⟩ | ⟨k2,rfl,_,_,hne⟩
      ·simp [h14,h12,hin,Nat.not_lt.2 hge,w17_1,rs17,Vm]
      ·simp [h14,h12,hin,Nat.not_lt.2 hge,w17_1,rs17,Vm,hne]
end Go.Proofs.YtkcnjajklnoahaaGreatDoor
