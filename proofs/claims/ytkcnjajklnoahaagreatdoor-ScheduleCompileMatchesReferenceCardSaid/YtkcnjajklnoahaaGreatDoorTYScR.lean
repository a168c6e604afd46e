import Derived.Test.YtkcnjajklnoahaaGreatDoorTYSfD
set_option linter.unusedVariables false
set_option linter.unusedSimpArgs false
set_option maxRecDepth 100000
set_option maxHeartbeats 64000000
namespace Go.Proofs.YtkcnjajklnoahaaGreatDoor
open Go Go.Abs
def plcF (id:Int):List En->Nat->Nat
 | [],i=>i
 | e::r,i=>if e.id=id then i else plcF id r (i+1)
theorem plcF_some {id:Int}:∀ {l:List En} {i k:Nat},Vy id l i=some k->plcF id l i=k
 | [],_,_,h=>by cases h
 | e::r,i,k,h=>by
  rw [Vy] at h
  rw [plcF]
  split
  ·rename_i hc
   rw [if_pos hc] at h
   cases h;rfl
  ·rename_i hc
   rw [if_neg hc] at h
   exact plcF_some h
theorem fidx_not {id:Int}:∀ {l:List En} {i:Nat},Vy id l i=none->Yv id l=none
 | [],_,_=>rfl
 | e::r,i,h=>by
  rw [Vy] at h
  rw [Yv]
  split
  ·rename_i hc
   rw [if_pos hc] at h
   cases h
  ·rename_i hc
   rw [if_neg hc] at h
   exact fidx_not h
theorem hldB_len {p:Pl} {at_:Int}:∀ {ids:List Int} {l:List Sp} {bf:List Ad} {free last:Int},l.length≠ids.length->hldB p at_ ids l bf free last=false
 | [],[],_,_,_,h=>absurd rfl h
 | [],s::l,_,_,_,_=>rfl
 | id::r,[],_,_,_,_=>rfl
 | id::r,s::l,bf,free,last,h=>by
  rw [hldB]
  cases Vy id p.ens 0 with
  | none=>rfl
  | some k =>
   simp only
   cases p.ens[k]? with
   | none=>rfl
   | some e =>
    simp only
    rw [hldB_len (by simpa using h),Bool.and_false]
def Uf (p:Pl):Nat->FuncId->List AV->AV:=fun _ f l=>if f=999999 then .junk else if f=40 then (match l with
 | [.agg [.int _ a,.int _ b,.int _ c,.int _ d]]=>.bool (Zn ⟨a,b,c,d⟩) | _=>.junk) else if f=31 then (match l with
 | [_,.int _ id]=>Wn (Yv id p.ens) | _=>.junk) else if f=55 then (match l with
 | [_,.int _ a,.int _ b,.int _ c,.int _ d]=>.bool (Uu p a b c d) | _=>.junk) else if f=56 then (match l with
 | [_,.int _ a,.int _ b]=>I (Ze p a b) | _=>.junk) else if f=57 then (match l with
 | [_,.int _ a,_]=>I (Zo p a) | _=>.junk) else .junk
def InvHa (c:Ca) (f:Nat->AV) (m:AM):Prop :=
 ∃ (i:Nat) (rt:Rt) (ls:List Nat),f 8=I i/\i<=c.past.length/\f 7=.sl rt (((c.past.take i).filter Zn).map Qu)/\OutR 4 0 ls rt ((c.past.take i).filter Zn)/\m=⟨[Qw c],ls,fun _=>.gone,0⟩
def InvHb (c:Ca) (l:List Sp) (T:Bool) (f:Nat->AV) (m:AM):Prop :=
 ∃ (i:Nat) (bf:List Ad) (free fc last:Int) (rt:Rt) (ls:List Nat) (bx:List (List AV)),f 9=I i/\i<=l.length/\f 7=.sl rt (bf.map Qu)/\OutR 4 0 ls rt bf/\bf.length<=1000+i/\f 5=I last/\f 6=I fc/\(i=0->free=c.at_)/\(0 < i->fc=free) /\
  (∀ a∈bf,0<=a.fr/\a.fr<=100000000/\1<=a.fs/\a.fs<=100000000)/\hldB c.p c.at_ (c.ids.drop i) (l.drop i) bf free last=T/\m=⟨Qw c::bx,ls,fun _=>.gone,0⟩
def InvHp (c:Ca) (id:Int) (P:Nat) (bx:List (List AV)) (ls:List Nat) (f:Nat->AV) (m:AM):Prop :=
 ∃ (k:Nat),f 12=I k/\k<=c.p.ens.length/\plcF id (c.p.ens.drop k) k=P/\m=⟨Qw c::bx,ls,fun _=>.gone,0⟩
def InvHc (c:Ca) (e:En) (s:Int) (bf:List Ad) (V:Bool) (n:Nat) (ls:List Nat) (f:Nat->AV) (m:AM):Prop :=
 ∃ (k:Nat) (Z:List (List AV)),f 15=I k/\k<=bf.length/\f 14=I (Qbq e.it (bf.take k))/\(bf.drop k).all (gapH c.p e.it s)=V/\n < Z.length/\Qk Z n=Qd e/\m=⟨Qw c::Z,ls,fun _=>.gone,0⟩
theorem holds32 {c:Ca} (h:PlK c.p) (ha:Xx c.at_) (hp:c.past.length<=1000) (hi:c.ids.length<=1000) (l:List Sp) :
  Pure Tryz.prog gl0 32 [.agg (Qw c),.sl .ro (l.map Qe)] (.bool (hldB c.p c.at_ c.ids l (c.past.filter Zn) c.at_ (-1))):=by
 obtain ⟨l1,l2,l3,l4,l5,l6,l7,l8,l9,l10⟩:=h
 refine Ql code32 (Uf c.p) (by simp) ?_
 by_cases hl:l.length=c.ids.length
 ·obtain ⟨T,hT⟩:∃ T,hldB c.p c.at_ c.ids l (c.past.filter Zn) c.at_ (-1)=T:=⟨_,rfl⟩
  rw [hT]
  simp [sc32,Qw,Qa,Uf,hl]
  refine Qg w32_0 (InvHa c) (fun f _=>c.past.length - (numOf (f 8)).toNat) ?_ ?_
  ·exact ⟨0,.nil,[],by simp,by omega,by simp,.inl ⟨by simp,rfl⟩,by simp [Qw,Qa]⟩
  ·rintro f m ⟨i,rt,ls,h8,hil,h7,hO,rfl⟩
   rcases Nat.lt_or_ge i c.past.length with hlt | hge
   ·obtain ⟨a,hx⟩:=getS hlt
    have hrow:Qk (c.past.map Qu) i=Qu a:=Qv (by simp [hx])
    have hilt:(i:Int) < (c.past.length:Int):=by omega
    have hw:=wrS i (by omega)
    have k40:=countsA_pure a
    simp only [Qu] at k40
    have htk:(c.past.take (i+1)).filter Zn=(c.past.take i).filter Zn++if Zn a=true then [a] else []:=by
     rw [Zq hx,List.filter_append,List.filter_cons];rfl
    have hfl:((c.past.take i).filter Zn).length<=1000:=by
     have:=List.length_filter_le Zn (c.past.take i)
     simp at this;omega
    obtain ⟨S,hS⟩:∃ S,(c.past.take i).filter Zn=S:=⟨_,rfl⟩
    rw [hS] at h7 hO htk hfl
    cases hc:Zn a with
    | false =>
     rw [hc] at k40 htk
     have htk:(c.past.take (i+1)).filter Zn=S:=by rw [htk];simp
     simp [h8,h7,hlt,hilt,hrow,Qu,Qw,Qa,Uf,w32_0,hw,hc]
     refine ⟨k40,ag ?_,⟨i+1,rt,ls,by simp,by omega,by rw [htk];simp [h7,Qu],by rw [htk];exact hO,by simp [Qw,Qa]⟩,by omega⟩
     repeat (first | exact Qb _ _ | refine Qc _ rfl ?_)
    | true =>
     rw [hc] at k40 htk
     have htk:(c.past.take (i+1)).filter Zn=S++[a]:=by rw [htk];simp
     rcases hO with ⟨rfl,rfl⟩ | ⟨k,rfl,hk1,hk2,hk3⟩
     ·simp [h8,h7,hlt,hilt,hrow,Qu,Qw,Qa,Uf,w32_0,hw,hc]
      refine ⟨k40,ag ?_,⟨i+1,.own ls.length 4,ls++[1],by simp,by omega,by rw [htk];simp [Qu],.inr ⟨_,rfl,by omega,by rw [htk];simp,by rw [htk];simp⟩,by simp [Qw,Qa]⟩,by omega⟩
      repeat (first | exact Qb _ _ | refine Qc _ rfl ?_)
     ·have hk4:=(List.getElem?_eq_some_iff.1 hk2).1
      simp [h8,h7,hlt,hilt,hrow,Qu,Qw,Qa,Uf,w32_0,hw,hc,hk2]
      refine ⟨k40,⟨?_,by omega⟩,ag ?_,⟨i+1,.own k 4,ls.set k (S.length+1),by simp,by omega,by rw [htk];simp [Qu],.inr ⟨_,rfl,by omega,by rw [htk];simp [hk4],by rw [htk];simp⟩,by simp [Qw,Qa]⟩,by omega⟩
      ·rintro row (⟨a,_,rfl⟩ | rfl)<;>rfl
      ·repeat (first | exact Qb _ _ | refine Qc _ rfl ?_)
   ·have hin:¬ (i:Int) < (c.past.length:Int):=by omega
    have htl:c.past.take i=c.past:=List.take_of_length_le (by omega)
    rw [htl] at h7 hO
    have hfl:(c.past.filter Zn).length<=c.past.length:=List.length_filter_le _ _
    have hba:∀ a∈c.past.filter Zn,0<=a.fr/\a.fr<=100000000/\1<=a.fs/\a.fs<=100000000:=fun a h=>by
     have:=(List.mem_filter.1 h).2
     simp [Zn] at this;omega
    simp [h8,hin,Nat.not_lt.2 hge,w32_0,h7,Uf,Qw,Qa]
    clear h8 hin hge htl
    refine Qg w32_1 (InvHb c l T) (fun f _=>l.length - (numOf (f 9)).toNat) ?_ ?_
    ·exact ⟨0,c.past.filter Zn,c.at_,0,-1,rt,ls,[],by simp,by omega,by simp [h7],hO,by omega,by simp,by simp,fun _=>rfl,fun h=>absurd h (by omega),hba,hT,by simp [Qw,Qa]⟩
    ·clear hT h7 hO hba hfl
     rintro f m ⟨i,bf,free,fc,last,rt,ls,bx,h9,hil,h7,hO,hbl,h5,h6,hf0,hf1,hbb,ht,rfl⟩
     rcases Nat.lt_or_ge i l.length with hlt | hge
     ·have hlti:i < c.ids.length:=by omega
      obtain ⟨id,hx⟩:=getS hlti
      obtain ⟨s,hs⟩:=getS hlt
      have hrow:Qk (c.ids.map Qp) i=Qp id:=Qv (by simp [hx])
      have hrows:=Xu hs
      have hilt:(i:Int) < (l.length:Int):=by omega
      have hilti:(i:Int) < (c.ids.length:Int):=by omega
      have hw:=wrS i (by omega)
      have k31:=entry_pure c.p id (by omega) (fun e he=>by have:=l6 e he;omega)
      rw [Qr hx,Qr hs,hldB] at ht
      obtain ⟨x,al,kn,hal,hE,hk⟩:∃ (x:En) (al:AV) (kn:Bool),Xd al=true/\Wn (Yv id c.p.ens)=.tup [.agg [I x.id,I x.it,I x.fr,I x.ea,I x.la,I x.bo,al],.bool kn]/\((kn=true/\Yv id c.p.ens=some x/\al=.sl .ro (x.al.map Qe))\/(kn=false/\Yv id c.p.ens=none)):=by
       cases hf:Yv id c.p.ens with
       | none=>exact ⟨⟨0,0,0,0,0,0,[]⟩,.sl .nil [],false,rfl,rfl,.inr ⟨rfl,rfl⟩⟩
       | some x=>exact ⟨x,.sl .ro (x.al.map Qe),true,rfl,rfl,.inl ⟨rfl,rfl,rfl⟩⟩
      rw [hE] at k31
      simp only [Qa] at k31
      simp [h9,h7,h5,h6,hlt,hlti,hilt,hilti,hrow,Qp,Qw,Qa,Uf,w32_1,hE]
      refine Yo ?_
      simp [hlt,hlti,hilt,hilti,hrow,Qp,Uf,hE]
      refine ⟨k31,hal,?_⟩
      clear k31
      obtain ⟨P,hP⟩:∃ P,plcF x.id c.p.ens 0=P:=⟨_,rfl⟩
      refine Qg w32_2 (InvHp c x.id P (bx++[[I x.id,I x.it,I x.fr,I x.ea,I x.la,I x.bo,al]]) ls) (fun f _=>c.p.ens.length - (numOf (f 12)).toNat) ?_ ?_
      ·exact ⟨0,by simp,by omega,hP,by simp [Qw,Qa]⟩
      ·have hP0:=hP
       clear hP
       rintro g m ⟨k,g12,hkl,hP,rfl⟩
       by_cases hgo:∃ e',c.p.ens[k]? = some e'/\e'.id≠x.id
       ·obtain ⟨e',he',hne⟩:=hgo
        have klt:=(List.getElem?_eq_some_iff.1 he').1
        have kilt:(k:Int) < (c.p.ens.length:Int):=by omega
        have hrowe:=Zi he'
        have hwk:=wrS k (by omega)
        rw [Qr he',plcF,if_neg hne] at hP
        simp [g12,klt,kilt,hrowe,Qd,Qw,Qa,w32_2,hne,hwk]
        refine ⟨ag ?_,⟨k+1,by simp,by omega,hP,by simp [Qw,Qa]⟩,by omega⟩
        repeat (first | exact Qb _ _ | refine Qc _ rfl ?_)
       ·have hPk:P=k:=by
         rcases Nat.lt_or_ge k c.p.ens.length with klt | kge
         ·obtain ⟨e',he'⟩:∃ x,c.p.ens[k]? = some x:=⟨_,List.getElem?_eq_getElem klt⟩
          have:e'.id=x.id:=Classical.byContradiction fun h=>hgo ⟨e',he',h⟩
          rw [Qr he',plcF,if_pos this] at hP
          exact hP.symm
         ·rw [List.drop_eq_nil_of_le kge,plcF] at hP
          exact hP.symm
        subst hPk
        clear hP
        rcases hk with ⟨rfl,hfn,rfl⟩ | ⟨rfl,hfn⟩
        ·cases hfi:Vy id c.p.ens 0 with
         | none=>rw [fidx_not hfi] at hfn;cases hfn
         | some k0 =>
          obtain ⟨_,e',he',heq,hfe⟩:=Km hfi
          rw [Nat.sub_zero] at he'
          rw [hfn] at hfe
          cases hfe
          have hP1:=plcF_some hfi
          rw [<- heq,hP0] at hP1
          subst hP1
          subst heq
          rw [hfi] at ht
          simp only [he'] at ht
          have klt:=(List.getElem?_eq_some_iff.1 he').1
          have kilt:(P:Int) < (c.p.ens.length:Int):=by omega
          have hrowe:=Zi he'
          have hxm:=List.mem_of_getElem? he'
          have b6:=l6 x hxm
          have b8:=l8 x hxm
          have b9:=l9 x hxm
          have b10:=l10 x hxm
          have badOf:¬ (s.1=x.id/\last < (P:Int)/\x.ea<=s.2/\s.2<=x.la/\c.at_<=s.2/\free<=s.2/\1<=x.fr/\0<=s.2/\s.2<=100000000/\s.2+x.fr<=c.p.ln/\Uu c.p x.it 0 s.2 x.fr=true/\bf.all (gapH c.p x.it s.2)=true/\(Zo c.p x.it = -1\/Qbq x.it bf < Zo c.p x.it))->T=false:=fun hb=>by
           have:condH c.p c.at_ x.id s bf free last P x=false:=decide_eq_false hb
           rw [this,Bool.false_and] at ht
           exact ht.symm
          by_cases c1:s.1=x.id
          rotate_left
          ·have hTf:=badOf (fun h=>c1 h.1)
           simp [g12,klt,kilt,hlt,hlti,hilt,hilti,hrowe,hrow,hrows,Qp,Qe,Qd,Qw,Qa,Uf,w32_2,w32_1,c1,rs32,hTf]
          by_cases c2:¬ (P:Int)<=last
          rotate_left
          ·have hTf:=badOf (fun h=>c2 (by have:=h.2.1;omega))
           have c2':=Classical.not_not.1 c2
           simp [g12,klt,kilt,hlt,hlti,hilt,hilti,hrowe,hrow,hrows,Qp,Qe,Qd,Qw,Qa,Uf,w32_2,w32_1,c1,c2',rs32,hTf]
          by_cases c3:¬ s.2 < x.ea
          rotate_left
          ·have hTf:=badOf (fun h=>c3 (by have:=h.2.2.1;omega))
           have c3':=Classical.not_not.1 c3
           simp [g12,klt,kilt,hlt,hlti,hilt,hilti,hrowe,hrow,hrows,Qp,Qe,Qd,Qw,Qa,Uf,w32_2,w32_1,c1,c2,c3',rs32,hTf]
          by_cases c4:¬ x.la < s.2
          rotate_left
          ·have hTf:=badOf (fun h=>c4 (by have:=h.2.2.2.1;omega))
           have c4':=Classical.not_not.1 c4
           simp [g12,klt,kilt,hlt,hlti,hilt,hilti,hrowe,hrow,hrows,Qp,Qe,Qd,Qw,Qa,Uf,w32_2,w32_1,c1,c2,c3,c4',rs32,hTf]
          by_cases c5:¬ s.2 < c.at_
          rotate_left
          ·have hTf:=badOf (fun h=>c5 (by have:=h.2.2.2.2.1;omega))
           have c5':=Classical.not_not.1 c5
           simp [g12,klt,kilt,hlt,hlti,hilt,hilti,hrowe,hrow,hrows,Qp,Qe,Qd,Qw,Qa,Uf,w32_2,w32_1,c1,c2,c3,c4,c5',rs32,hTf]
          have hws:0<=s.2->s.2<=100000000->IntKind.i64.wrap (s.2+x.fr)=s.2+x.fr:=fun h1 h2=>by unfold Xx at ha;rw [Qh]<;>omega
          have hgi:(∃ (_:i=0),True)\/(0 < i/\True):=by rcases Nat.eq_zero_or_pos i with h | h;exact .inl ⟨h,trivial⟩;exact .inr ⟨h,trivial⟩
          by_cases cF:0 < i/\s.2 < fc
          ·obtain ⟨cF1,cF2⟩:=cF
           have hTf:=badOf (fun h=>by have:=h.2.2.2.2.2.1;have:=hf1 cF1;omega)
           have cF1':(0:Int) < (i:Int):=by omega
           simp [g12,klt,kilt,hlt,hlti,hilt,hilti,hrowe,hrow,hrows,Qp,Qe,Qd,Qw,Qa,Uf,w32_2,w32_1,c1,c2,c3,c4,c5,cF1,cF1',cF2,rs32,hTf]
          ·have hfr:free<=s.2:=by
            rcases Nat.eq_zero_or_pos i with h | h
            ·rw [hf0 h];omega
            ·rw [<- hf1 h];omega
           have hcc:(¬ (0:Int) < (i:Int)/\¬ 0 < i/\True)\/((0:Int) < (i:Int)/\0 < i/\¬ s.2 < fc):=by
            by_cases h:0 < i
            ·exact .inr ⟨by omega,h,fun h2=>cF ⟨h,h2⟩⟩
            ·exact .inl ⟨by omega,h,trivial⟩
           by_cases c6:¬ x.fr < 1
           rotate_left
           ·have hTf:=badOf (fun h=>c6 (by have:=h.2.2.2.2.2.2.1;omega))
            have c6':=Classical.not_not.1 c6
            rcases hcc with ⟨z1,z2,z3⟩ | ⟨z1,z2,z3⟩ <;>
             simp [g12,klt,kilt,hlt,hlti,hilt,hilti,hrowe,hrow,hrows,Qp,Qe,Qd,Qw,Qa,Uf,w32_2,w32_1,c1,c2,c3,c4,c5,z1,z2,z3,c6',rs32,hTf]
           by_cases c7:¬ s.2 < 0
           rotate_left
           ·have hTf:=badOf (fun h=>c7 (by have:=h.2.2.2.2.2.2.2.1;omega))
            have c7':=Classical.not_not.1 c7
            rcases hcc with ⟨z1,z2,z3⟩ | ⟨z1,z2,z3⟩ <;>
             simp [g12,klt,kilt,hlt,hlti,hilt,hilti,hrowe,hrow,hrows,Qp,Qe,Qd,Qw,Qa,Uf,w32_2,w32_1,c1,c2,c3,c4,c5,z1,z2,z3,c6,c7',rs32,hTf]
           by_cases c8:¬ 100000000 < s.2
           rotate_left
           ·have hTf:=badOf (fun h=>c8 (by have:=h.2.2.2.2.2.2.2.2.1;omega))
            have c8':=Classical.not_not.1 c8
            rcases hcc with ⟨z1,z2,z3⟩ | ⟨z1,z2,z3⟩ <;>
             simp [g12,klt,kilt,hlt,hlti,hilt,hilti,hrowe,hrow,hrows,Qp,Qe,Qd,Qw,Qa,Uf,w32_2,w32_1,c1,c2,c3,c4,c5,z1,z2,z3,c6,c7,c8',rs32,hTf]
           by_cases c9:¬ c.p.ln < s.2+x.fr
           rotate_left
           ·have hTf:=badOf (fun h=>c9 (by have:=h.2.2.2.2.2.2.2.2.2.1;omega))
            have c9':=Classical.not_not.1 c9
            rcases hcc with ⟨z1,z2,z3⟩ | ⟨z1,z2,z3⟩ <;>
             simp [g12,klt,kilt,hlt,hlti,hilt,hilti,hrowe,hrow,hrows,Qp,Qe,Qd,Qw,Qa,Uf,w32_2,w32_1,c1,c2,c3,c4,c5,z1,z2,z3,c6,c7,c8,c9',rs32,hTf,hws (by omega) (by omega)]
           have hws:=hws (by omega) (by omega)
           have k55:=allowed_pure c.p x.it 0 s.2 x.fr (by omega) (by omega) (by omega)
           simp only [Qa] at k55
           by_cases c10:Uu c.p x.it 0 s.2 x.fr=true
           rotate_left
           ·have hTf:=badOf (fun h=>c10 h.2.2.2.2.2.2.2.2.2.2.1)
            have c10:Uu c.p x.it 0 s.2 x.fr=false:=by simpa using c10
            rw [c10] at k55
            rcases hcc with ⟨z1,z2,z3⟩ | ⟨z1,z2,z3⟩
            all_goals
             simp [g12,klt,kilt,hlt,hlti,hilt,hilti,hrowe,hrow,hrows,Qp,Qe,Qd,Qw,Qa,Uf,w32_2,w32_1,c1,c2,c3,c4,c5,z1,z2,z3,c6,c7,c8,c9,c10,hws,rs32,hTf]
             exact k55
           rw [c10] at k55
           obtain ⟨V,hV⟩:∃ V,bf.all (gapH c.p x.it s.2)=V:=⟨_,rfl⟩
           have hVT:V=false->T=false:=fun h=>badOf (fun hb=>by have:=hb.2.2.2.2.2.2.2.2.2.2.2.1;rw [hV,h] at this;cases this)
           have h7b:bf.length<=3000:=by omega
           rcases hcc with ⟨z1,z2,z3⟩ | ⟨z1,z2,z3⟩
           all_goals
            simp [g12,klt,kilt,hlt,hlti,hilt,hilti,hrowe,hrow,hrows,Qp,Qe,Qd,Qw,Qa,Uf,w32_2,w32_1,c1,c2,c3,c4,c5,z1,z2,z3,c6,c7,c8,c9,c10,hws]
            refine ⟨k55,?_⟩
            refine Qg w32_3 (InvHc c x s.2 bf V bx.length ls) (fun f _=>bf.length - (numOf (f 15)).toNat) ?_ ?_
            ·exact ⟨0,bx++[Qd x],by simp,by omega,by simp [Qbq],by simpa using hV,by simp,by simp,by simp [Qw,Qa,Qd]⟩
            ·rintro g2 m ⟨k,Z,g15,hk,g14,hv,hn,hZ,rfl⟩
             rcases Nat.lt_or_ge k bf.length with klt2 | kge2
             ·obtain ⟨a,hxa⟩:=getS klt2
              have hrowa:Qk (bf.map Qu) k=Qu a:=Qv (by simp [hxa])
              have kilt2:(k:Int) < (bf.length:Int):=by omega
              have hwk:=wrS k (by omega)
              have k56:=gap135 c.p a.it x.it (by omega) (by omega)
              simp only [Qa] at k56
              obtain ⟨G,hG⟩:∃ G,Ze c.p a.it x.it=G:=⟨_,rfl⟩
              have hGb:=gapS_bd c.p a.it x.it
              have hst:=runH_step (it:=x.it) hxa
              have hrb:=runH_bd x.it (bf.take k)
              have hrl:(bf.take k).length<=3000:=by simp;omega
              have hba:=hbb a (List.mem_of_getElem? hxa)
              have hwr:IntKind.i64.wrap (Qbq x.it (bf.take k)+1)=Qbq x.it (bf.take k)+1:=by rw [Qh]<;>omega
              rw [Qr hxa,List.all_cons] at hv
              have hgH:gapH c.p x.it s.2 a=!(decide (0 < G)&&decide (s.2 < a.fr+a.fs+G)):=by rw [gapH,hG]
              rw [hG] at k56 hGb
              rw [hgH] at hv
              have hw1:IntKind.i64.wrap (a.fr+a.fs)=a.fr+a.fs:=by rw [Qh]<;>omega
              have hw2:IntKind.i64.wrap (a.fr+a.fs+G)=a.fr+a.fs+G:=by rw [Qh]<;>omega
              have hZ1:∀ r,Qk (Z++[r]) bx.length=[I x.id,I x.it,I x.fr,I x.ea,I x.la,I x.bo,.sl .ro (x.al.map Qe)]:=fun r=>by rw [Qm hn,hZ];rfl
              have hn1:bx.length < Z.length+1:=by omega
              by_cases r1:a.it=x.it
              ·rw [if_pos r1] at hst
               rw [r1] at k56 hG
               by_cases gp:0 < G
               ·by_cases gs:s.2 < a.fr+a.fs+G
                ·have hTf:T=false:=hVT (by rw [<- hv];simp [gp,gs])
                 simp [g15,g14,klt2,kilt2,hrowa,Qu,Qw,Qa,Uf,w32_3,hZ1,hn,hn1,r1,hG,gp,gs,hwk,hwr,hw1,hw2,rs32,hTf]
                 exact k56
                ·have hv2:(bf.drop (k+1)).all (gapH c.p x.it s.2)=V:=by simpa [gp,gs] using hv
                 simp [g15,g14,klt2,kilt2,hrowa,Qu,Qw,Qa,Uf,w32_3,hZ1,hn,hn1,r1,hG,gp,gs,hwk,hwr,hw1,hw2]
                 refine ⟨k56,ag ?_,⟨k+1,Z++[Qu a],by simp,by omega,by rw [hst];simp,hv2,by simp;omega,by rw [Qm hn,hZ],by simp [Qw,Qa,Qu,r1]⟩,by omega⟩
                 repeat (first | exact Qb _ _ | refine Qc _ rfl ?_)
               ·have hv2:(bf.drop (k+1)).all (gapH c.p x.it s.2)=V:=by simpa [gp] using hv
                simp [g15,g14,klt2,kilt2,hrowa,Qu,Qw,Qa,Uf,w32_3,hZ1,hn,hn1,r1,hG,gp,hwk,hwr]
                refine ⟨k56,ag ?_,⟨k+1,Z++[Qu a],by simp,by omega,by rw [hst];simp,hv2,by simp;omega,by rw [Qm hn,hZ],by simp [Qw,Qa,Qu,r1]⟩,by omega⟩
                repeat (first | exact Qb _ _ | refine Qc _ rfl ?_)
              ·rw [if_neg r1,Int.add_zero] at hst
               by_cases gp:0 < G
               ·by_cases gs:s.2 < a.fr+a.fs+G
                ·have hTf:T=false:=hVT (by rw [<- hv];simp [gp,gs])
                 simp [g15,g14,klt2,kilt2,hrowa,Qu,Qw,Qa,Uf,w32_3,hZ1,hn,hn1,r1,hG,gp,gs,hwk,hw1,hw2,rs32,hTf]
                 exact k56
                ·have hv2:(bf.drop (k+1)).all (gapH c.p x.it s.2)=V:=by simpa [gp,gs] using hv
                 simp [g15,g14,klt2,kilt2,hrowa,Qu,Qw,Qa,Uf,w32_3,hZ1,hn,hn1,r1,hG,gp,gs,hwk,hw1,hw2]
                 refine ⟨k56,ag ?_,⟨k+1,Z++[Qu a],by simp,by omega,by rw [hst];simp [g14],hv2,by simp;omega,by rw [Qm hn,hZ],by simp [Qw,Qa,Qu]⟩,by omega⟩
                 repeat (first | exact Qb _ _ | refine Qc _ rfl ?_)
               ·have hv2:(bf.drop (k+1)).all (gapH c.p x.it s.2)=V:=by simpa [gp] using hv
                simp [g15,g14,klt2,kilt2,hrowa,Qu,Qw,Qa,Uf,w32_3,hZ1,hn,hn1,r1,hG,gp,hwk]
                refine ⟨k56,ag ?_,⟨k+1,Z++[Qu a],by simp,by omega,by rw [hst];simp [g14],hv2,by simp;omega,by rw [Qm hn,hZ],by simp [Qw,Qa,Qu]⟩,by omega⟩
                repeat (first | exact Qb _ _ | refine Qc _ rfl ?_)
             ·have kin2:¬ (k:Int) < (bf.length:Int):=by omega
              rw [List.drop_eq_nil_of_le kge2] at hv
              have hv:true=V:=hv
              subst hv
              rw [List.take_of_length_le kge2] at g14
              have k57:=runs134 c.p x.it (by omega) (by omega)
              simp only [Qa] at k57
              obtain ⟨R,hR⟩:∃ R,Zo c.p x.it=R:=⟨_,rfl⟩
              obtain ⟨rn,hrn⟩:∃ rn,Qbq x.it bf=rn:=⟨_,rfl⟩
              rw [hR] at k57
              rw [hrn] at g14
              have hZ0:Qk Z bx.length=[I x.id,I x.it,I x.fr,I x.ea,I x.la,I x.bo,.sl .ro (x.al.map Qe)]:=hZ
              by_cases e1:R ≠ -1/\R<=rn
              ·have hTf:=badOf (fun h=>by have:=h.2.2.2.2.2.2.2.2.2.2.2.2;rw [hR,hrn] at this;obtain ⟨e2,e3⟩:=e1;rcases this with h | h;exact e2 h;omega)
               obtain ⟨e2,e3⟩:=e1
               simp [g15,g14,kin2,Nat.not_lt.2 kge2,Qw,Qa,Uf,w32_3,hZ0,hn,hR,e2,e3,rs32,hTf]
               exact k57
              ·have hcond:condH c.p c.at_ x.id s bf free last P x=true:=decide_eq_true ⟨c1,by omega,by omega,by omega,by omega,hfr,by omega,by omega,by omega,by omega,c10,hV,by rw [hR,hrn];omega⟩
               rw [hcond,Bool.true_and] at ht
               have hb2:∀ a∈bf++[(⟨x.it,0,s.2,x.fr⟩:Ad)],0<=a.fr/\a.fr<=100000000/\1<=a.fs/\a.fs<=100000000:=fun a h=>by
                rcases List.mem_append.1 h with h | h
                ·exact hbb a h
                ·rw [List.mem_singleton] at h;subst h;simp only;omega
               have hd:R = -1\/(R ≠ -1/\¬ R<=rn):=by omega
               rcases hO with ⟨rfl,rfl⟩ | ⟨kb,rfl,hb1,hb2',hb3⟩
               ·rcases hd with d1 | ⟨d1,d2⟩
                ·simp [g15,g14,kin2,Nat.not_lt.2 kge2,Qw,Qa,Uf,w32_3,hZ0,hn,h7,h9,w32_1,hws,hw,hR,d1]
                 refine ⟨by simpa [d1] using k57,ag ?_,⟨i+1,_,s.2+x.fr,s.2+x.fr,P,.own ls.length 4,ls++[1],Z,by simp,by omega,by simp [Qu],OutR.first (by omega) _,by simp;omega,by simp,by simp,fun h=>absurd h (by omega),fun _=>rfl,hb2,ht,by simp [Qw,Qa]⟩,by omega⟩
                 repeat (first | exact Qb _ _ | refine Qc _ rfl ?_)
                ·simp [g15,g14,kin2,Nat.not_lt.2 kge2,Qw,Qa,Uf,w32_3,hZ0,hn,h7,h9,w32_1,hws,hw,hR,d1,d2]
                 refine ⟨k57,ag ?_,⟨i+1,_,s.2+x.fr,s.2+x.fr,P,.own ls.length 4,ls++[1],Z,by simp,by omega,by simp [Qu],OutR.first (by omega) _,by simp;omega,by simp,by simp,fun h=>absurd h (by omega),fun _=>rfl,hb2,ht,by simp [Qw,Qa]⟩,by omega⟩
                 repeat (first | exact Qb _ _ | refine Qc _ rfl ?_)
               ·have hkl:=(List.getElem?_eq_some_iff.1 hb2').1
                rcases hd with d1 | ⟨d1,d2⟩
                ·simp [g15,g14,kin2,Nat.not_lt.2 kge2,Qw,Qa,Uf,w32_3,hZ0,hn,h7,h9,w32_1,hws,hw,hR,d1,hb2']
                 refine ⟨by simpa [d1] using k57,⟨?_,by omega⟩,ag ?_,⟨i+1,_,s.2+x.fr,s.2+x.fr,P,.own kb 4,ls.set kb (bf.length+1),Z,by simp,by omega,by simp [Qu],OutR.push hb1 hb2' _,by simp;omega,by simp,by simp,fun h=>absurd h (by omega),fun _=>rfl,hb2,ht,by simp [Qw,Qa]⟩,by omega⟩
                 ·first | (rintro row (⟨a,_,rfl⟩ | rfl)<;>rfl) | (rintro row h;rcases h with ⟨a,_,rfl⟩ | rfl<;>rfl)
                 ·repeat (first | exact Qb _ _ | refine Qc _ rfl ?_)
                ·simp [g15,g14,kin2,Nat.not_lt.2 kge2,Qw,Qa,Uf,w32_3,hZ0,hn,h7,h9,w32_1,hws,hw,hR,d1,d2,hb2']
                 refine ⟨k57,⟨?_,by omega⟩,ag ?_,⟨i+1,_,s.2+x.fr,s.2+x.fr,P,.own kb 4,ls.set kb (bf.length+1),Z,by simp,by omega,by simp [Qu],OutR.push hb1 hb2' _,by simp;omega,by simp,by simp,fun h=>absurd h (by omega),fun _=>rfl,hb2,ht,by simp [Qw,Qa]⟩,by omega⟩
                 ·first | (rintro row (⟨a,_,rfl⟩ | rfl)<;>rfl) | (rintro row h;rcases h with ⟨a,_,rfl⟩ | rfl<;>rfl)
                 ·repeat (first | exact Qb _ _ | refine Qc _ rfl ?_)
        ·have hTf:T=false:=by
          cases hfi:Vy id c.p.ens 0 with
          | none=>rw [hfi] at ht;exact ht.symm
          | some k0 =>
           obtain ⟨_,e',_,_,hfe⟩:=Km hfi
           rw [hfn] at hfe;cases hfe
         rcases Nat.lt_or_ge P c.p.ens.length with klt | kge
         ·obtain ⟨e',he'⟩:∃ x,c.p.ens[P]? = some x:=⟨_,List.getElem?_eq_getElem klt⟩
          have heq:e'.id=x.id:=Classical.byContradiction fun h=>hgo ⟨e',he',h⟩
          have kilt:(P:Int) < (c.p.ens.length:Int):=by omega
          have hrowe:=Zi he'
          simp [g12,klt,kilt,hrowe,Qd,Qw,Qa,w32_2,w32_1,heq,hlt,hilt,hrows,Uf,rs32,hTf]
         ·have kin:¬ (P:Int) < (c.p.ens.length:Int):=by omega
          simp [g12,kin,Nat.not_lt.2 kge,Qd,Qw,Qa,w32_2,w32_1,hlt,hilt,hrows,Uf,rs32,hTf]
     ·have hin:¬ (i:Int) < (l.length:Int):=by omega
      rw [List.drop_eq_nil_of_le (by omega),List.drop_eq_nil_of_le hge] at ht
      have ht:true=T:=ht
      simp [h9,hin,Nat.not_lt.2 hge,w32_1,rs32,Uf,<- ht]
 ·have hl':¬ (l.length:Int)=(c.ids.length:Int):=by omega
  rw [hldB_len hl]
  simp [sc32,rs32,Qw,Qa,Uf,hl,hl']
end Go.Proofs.YtkcnjajklnoahaaGreatDoor
