import Derived.Test.YtjmgelbfndnpjaaGreatDoorPPSpG
import Derived.Test.YtjmgelbfndnpjaaGreatDoorPPMP
set_option linter.unusedVariables false
set_option linter.unusedSimpArgs false
set_option maxRecDepth 100000
set_option maxHeartbeats 64000000
namespace Go.Proofs.YtjmgelbfndnpjaaGreatDoor
open Go Go.Abs
theorem Vt (n lo up:Int):Pure Tryz.prog gl0 38 [I n,I lo,I up] (.bool (wi n lo up)):=by
 refine Qn code38 (fun _ _ _=>.junk) (by simp) ?_
 by_cases h1:lo<=n<;>by_cases h2:n<=up<;>simp [sc38,rs38,wi,h1,h2]
theorem itK91 (e:It):Pure Tryz.prog gl0 42 [.agg (Qg e)] (I e.id):=by
 refine Qn code42 (fun _ _ _=>.junk) (by simp) ?_
 simp [sc42,Qg,rs42]
theorem bkKey_pure (e:Bk):Pure Tryz.prog gl0 44 [.agg (Xm e)] (I e.id):=by
 refine Qn code44 (fun _ _ _=>.junk) (by simp) ?_
 simp [sc44,Xm,rs44]
theorem alKey_pure (e:Sp):Pure Tryz.prog gl0 95 [.agg (Qd e)] (I e.1):=by
 refine Qn code95 (fun _ _ _=>.junk) (by simp) ?_
 simp [sc95,Qd,rs95]
def leK (k:Int):Option Int->Bool
 | some q=>decide (k<=q)
 | none=>false
def Ul (lo up:Int):Option Int->List Int->Bool
 | _,[]=>true
 | pr,k::r=>if k < lo\/up < k\/leK k pr=true then false else Ul lo up (some k) r
def Jo (ks:List Int):Nat->Option Int
 | 0=>none
 | i+1=>ks[i]?
theorem Qau {ks:List Int} {i:Nat} {k:Int} (h:ks[i]? = some k):Jo ks (i+1)=some k:=h
def keyOf:List AV->Int
 | [.agg (.int _ n::_)]=>n
 | _=>0
def orcK:Nat->FuncId->List AV->AV:=fun _ _ l=>I (keyOf l)
theorem ascK_step {lo up:Int} {ks:List Int} {i:Nat} {k:Int} (h:ks[i]? = some k):Ul lo up (Jo ks i) (ks.drop i)=if k < lo\/up < k\/leK k (Jo ks i)=true then false else Ul lo up (Jo ks (i+1)) (ks.drop (i+1)):=by
 obtain ⟨hi,hk⟩:=List.getElem?_eq_some_iff.1 h
 rw [List.drop_eq_getElem_cons hi,hk,Ul,Qau h]
def InvAs (s n:Nat) (R:Nat->Prop) (f:Nat->AV) (m:AM):Prop:=∃ (i:Nat) (bx:List (List AV)),f s=I i/\i<=n/\R i/\m=⟨bx,[],fun _=>.gone,0⟩
theorem ascI_pure (L:List It) (lo up:Int) (hl:L.length<=8796093022208):Pure Tryz.prog gl0 41 [.sl .ro (L.map Qg),I lo,I up,.fn 42 [] []] (.bool (Ul lo up none (L.map fun x=>x.id))):=by
 obtain ⟨T,hT⟩:∃ T,Ul lo up none (L.map fun x=>x.id)=T:=⟨_,rfl⟩
 rw [hT]
 refine Qn code41 orcK (by simp) ?_
 simp [sc41]
 refine Ql w41_0 (InvAs 14 L.length fun i=>Ul lo up (Jo (L.map fun x=>x.id) i) ((L.map fun x=>x.id).drop i)=T) (fun f _=>L.length - (numOf (f 14)).toNat) ?_ ?_
 ·exact ⟨0,_,by simp,by omega,by simpa [Jo] using hT,rfl⟩
 ·rintro f m ⟨i,bx,h14,hi,ha,rfl⟩
  rcases Nat.lt_or_ge i L.length with hlt | hge
  ·obtain ⟨x,hx⟩:=getS hlt
   have hrow:Qf (L.map Qg) i=Qg x:=Qv (by simp [hx])
   have hilt:(i:Int) < (L.length:Int):=by omega
   have hw:=wrS i (by omega)
   have hk:=itK91 x
   have hkx:(L.map fun x=>x.id)[i]? = some x.id:=by simp [hx]
   rw [ascK_step hkx] at ha
   by_cases c1:x.id < lo
   ·rw [if_pos (.inl c1)] at ha
    subst ha
    simp [h14,hlt,hilt,hrow,Qg,orcK,keyOf,c1,w41_0,rs41]
    simpa [Qg] using hk
   ·by_cases c2:up < x.id
    ·rw [if_pos (.inr (.inl c2))] at ha
     subst ha
     simp [h14,hlt,hilt,hrow,Qg,orcK,keyOf,c1,c2,w41_0,rs41]
     simpa [Qg] using hk
    ·cases i with
     | zero =>
      rw [if_neg (by simp [c1,c2,Jo,leK])] at ha
      have hw1:IntKind.i64.wrap 1=1:=by decide
      simp [h14,hlt,hilt,hrow,Qg,orcK,keyOf,c1,c2,w41_0,rs41,hw,hw1]
      refine ⟨by simpa [Qg] using hk,ag ?_,⟨1,_,by simp,by omega,ha,rfl⟩,by omega⟩
      repeat (first | exact Qa _ _ | refine Qb _ rfl ?_)
     | succ j =>
      have hjlt:j < L.length:=by omega
      have hjlt':(j:Int) < (L.length:Int):=by omega
      obtain ⟨y,hy⟩:=getS hjlt
      have hrowy:Qf (L.map Qg) j=Qg y:=Qv (by simp [hy])
      have hky:=itK91 y
      have hprev:Jo (L.map fun x=>x.id) (j+1)=some y.id:=Qau (by simp [hy])
      have hwm:IntKind.i64.wrap (((j+1:Nat):Int) - 1)=(j:Int):=by rw [Qe]<;>omega
      have hwm':IntKind.i64.wrap ((j:Int)+1 - 1)=(j:Int):=by rw [Qe]<;>omega
      have hwj:IntKind.i64.wrap (j:Int)=(j:Int):=by rw [Qe]<;>omega
      have hj1:(0:Int) < (j:Int)+1:=by omega
      have hj0:(0:Int)<=(j:Int):=by omega
      have hj00:(0:Int)<=(j:Int)+1:=by omega
      have hjn:¬ (j:Int) < 0:=by omega
      have hjl1:(j:Int)+1 < (L.length:Int):=by omega
      have hw2:IntKind.i64.wrap ((j:Int)+1+1)=((j+1+1:Nat):Int):=by rw [Qe]<;>omega
      by_cases c3:x.id<=y.id
      ·rw [if_pos (.inr (.inr (by rw [hprev];simp [leK,c3])))] at ha
       subst ha
       simp [h14,hlt,hilt,hjl1,hj1,hj0,hj00,hjn,hwm,hwm',hwj,hjlt,hjlt',hrow,hrowy,Qg,orcK,keyOf,c1,c2,c3,w41_0,rs41]
       exact ⟨by simpa [Qg] using hk,by simpa [Qg] using hky⟩
      ·rw [if_neg (by rw [hprev];simp [c1,c2,c3,leK])] at ha
       simp [h14,hlt,hilt,hjl1,hj1,hj0,hj00,hjn,hwm,hwm',hwj,hjlt,hjlt',hrow,hrowy,Qg,orcK,keyOf,c1,c2,c3,w41_0,rs41,hw2]
       refine ⟨by simpa [Qg] using hk,by simpa [Qg] using hky,ag ?_,⟨j+1+1,_,by simp,by omega,ha,rfl⟩,by omega⟩
       repeat (first | exact Qa _ _ | refine Qb _ rfl ?_)
  ·obtain rfl:i=L.length:=by omega
   rw [List.drop_eq_nil_of_le (by simp)] at ha
   have ha:true=T:=by rw [<- ha];simp [Ul]
   subst ha
   simp [h14,w41_0,rs41]
theorem ascB_pure (L:List Bk) (lo up:Int) (hl:L.length<=8796093022208):Pure Tryz.prog gl0 43 [.sl .ro (L.map Xm),I lo,I up,.fn 44 [] []] (.bool (Ul lo up none (L.map fun x=>x.id))):=by
 obtain ⟨T,hT⟩:∃ T,Ul lo up none (L.map fun x=>x.id)=T:=⟨_,rfl⟩
 rw [hT]
 refine Qn code43 orcK (by simp) ?_
 simp [sc43]
 refine Ql w43_0 (InvAs 14 L.length fun i=>Ul lo up (Jo (L.map fun x=>x.id) i) ((L.map fun x=>x.id).drop i)=T) (fun f _=>L.length - (numOf (f 14)).toNat) ?_ ?_
 ·exact ⟨0,_,by simp,by omega,by simpa [Jo] using hT,rfl⟩
 ·rintro f m ⟨i,bx,h14,hi,ha,rfl⟩
  rcases Nat.lt_or_ge i L.length with hlt | hge
  ·obtain ⟨x,hx⟩:=getS hlt
   have hrow:Qf (L.map Xm) i=Xm x:=Qv (by simp [hx])
   have hilt:(i:Int) < (L.length:Int):=by omega
   have hw:=wrS i (by omega)
   have hk:=bkKey_pure x
   have hkx:(L.map fun x=>x.id)[i]? = some x.id:=by simp [hx]
   rw [ascK_step hkx] at ha
   by_cases c1:x.id < lo
   ·rw [if_pos (.inl c1)] at ha
    subst ha
    simp [h14,hlt,hilt,hrow,Xm,orcK,keyOf,c1,w43_0,rs43]
    simpa [Xm] using hk
   ·by_cases c2:up < x.id
    ·rw [if_pos (.inr (.inl c2))] at ha
     subst ha
     simp [h14,hlt,hilt,hrow,Xm,orcK,keyOf,c1,c2,w43_0,rs43]
     simpa [Xm] using hk
    ·cases i with
     | zero =>
      rw [if_neg (by simp [c1,c2,Jo,leK])] at ha
      have hw1:IntKind.i64.wrap 1=1:=by decide
      simp [h14,hlt,hilt,hrow,Xm,orcK,keyOf,c1,c2,w43_0,rs43,hw,hw1]
      refine ⟨by simpa [Xm] using hk,ag ?_,⟨1,_,by simp,by omega,ha,rfl⟩,by omega⟩
      repeat (first | exact Qa _ _ | refine Qb _ rfl ?_)
     | succ j =>
      have hjlt:j < L.length:=by omega
      have hjlt':(j:Int) < (L.length:Int):=by omega
      obtain ⟨y,hy⟩:=getS hjlt
      have hrowy:Qf (L.map Xm) j=Xm y:=Qv (by simp [hy])
      have hky:=bkKey_pure y
      have hprev:Jo (L.map fun x=>x.id) (j+1)=some y.id:=Qau (by simp [hy])
      have hwm:IntKind.i64.wrap (((j+1:Nat):Int) - 1)=(j:Int):=by rw [Qe]<;>omega
      have hwm':IntKind.i64.wrap ((j:Int)+1 - 1)=(j:Int):=by rw [Qe]<;>omega
      have hwj:IntKind.i64.wrap (j:Int)=(j:Int):=by rw [Qe]<;>omega
      have hj1:(0:Int) < (j:Int)+1:=by omega
      have hj0:(0:Int)<=(j:Int):=by omega
      have hj00:(0:Int)<=(j:Int)+1:=by omega
      have hjn:¬ (j:Int) < 0:=by omega
      have hjl1:(j:Int)+1 < (L.length:Int):=by omega
      have hw2:IntKind.i64.wrap ((j:Int)+1+1)=((j+1+1:Nat):Int):=by rw [Qe]<;>omega
      by_cases c3:x.id<=y.id
      ·rw [if_pos (.inr (.inr (by rw [hprev];simp [leK,c3])))] at ha
       subst ha
       simp [h14,hlt,hilt,hjl1,hj1,hj0,hj00,hjn,hwm,hwm',hwj,hjlt,hjlt',hrow,hrowy,Xm,orcK,keyOf,c1,c2,c3,w43_0,rs43]
       exact ⟨by simpa [Xm] using hk,by simpa [Xm] using hky⟩
      ·rw [if_neg (by rw [hprev];simp [c1,c2,c3,leK])] at ha
       simp [h14,hlt,hilt,hjl1,hj1,hj0,hj00,hjn,hwm,hwm',hwj,hjlt,hjlt',hrow,hrowy,Xm,orcK,keyOf,c1,c2,c3,w43_0,rs43,hw2]
       refine ⟨by simpa [Xm] using hk,by simpa [Xm] using hky,ag ?_,⟨j+1+1,_,by simp,by omega,ha,rfl⟩,by omega⟩
       repeat (first | exact Qa _ _ | refine Qb _ rfl ?_)
  ·obtain rfl:i=L.length:=by omega
   rw [List.drop_eq_nil_of_le (by simp)] at ha
   have ha:true=T:=by rw [<- ha];simp [Ul]
   subst ha
   simp [h14,w43_0,rs43]
theorem ascA_pure (L:List Sp) (lo up:Int) (hl:L.length<=8796093022208):Pure Tryz.prog gl0 94 [.sl .ro (L.map Qd),I lo,I up,.fn 95 [] []] (.bool (Ul lo up none (L.map fun x=>x.1))):=by
 obtain ⟨T,hT⟩:∃ T,Ul lo up none (L.map fun x=>x.1)=T:=⟨_,rfl⟩
 rw [hT]
 refine Qn code94 orcK (by simp) ?_
 simp [sc94]
 refine Ql w94_0 (InvAs 14 L.length fun i=>Ul lo up (Jo (L.map fun x=>x.1) i) ((L.map fun x=>x.1).drop i)=T) (fun f _=>L.length - (numOf (f 14)).toNat) ?_ ?_
 ·exact ⟨0,_,by simp,by omega,by simpa [Jo] using hT,rfl⟩
 ·rintro f m ⟨i,bx,h14,hi,ha,rfl⟩
  rcases Nat.lt_or_ge i L.length with hlt | hge
  ·obtain ⟨x,hx⟩:=getS hlt
   have hrow:Qf (L.map Qd) i=Qd x:=Qv (by simp [hx])
   have hilt:(i:Int) < (L.length:Int):=by omega
   have hw:=wrS i (by omega)
   have hk:=alKey_pure x
   have hkx:(L.map fun x=>x.1)[i]? = some x.1:=by simp [hx]
   rw [ascK_step hkx] at ha
   by_cases c1:x.1 < lo
   ·rw [if_pos (.inl c1)] at ha
    subst ha
    simp [h14,hlt,hilt,hrow,Qd,orcK,keyOf,c1,w94_0,rs94]
    simpa [Qd] using hk
   ·by_cases c2:up < x.1
    ·rw [if_pos (.inr (.inl c2))] at ha
     subst ha
     simp [h14,hlt,hilt,hrow,Qd,orcK,keyOf,c1,c2,w94_0,rs94]
     simpa [Qd] using hk
    ·cases i with
     | zero =>
      rw [if_neg (by simp [c1,c2,Jo,leK])] at ha
      have hw1:IntKind.i64.wrap 1=1:=by decide
      simp [h14,hlt,hilt,hrow,Qd,orcK,keyOf,c1,c2,w94_0,rs94,hw,hw1]
      refine ⟨by simpa [Qd] using hk,ag ?_,⟨1,_,by simp,by omega,ha,rfl⟩,by omega⟩
      repeat (first | exact Qa _ _ | refine Qb _ rfl ?_)
     | succ j =>
      have hjlt:j < L.length:=by omega
      have hjlt':(j:Int) < (L.length:Int):=by omega
      obtain ⟨y,hy⟩:=getS hjlt
      have hrowy:Qf (L.map Qd) j=Qd y:=Qv (by simp [hy])
      have hky:=alKey_pure y
      have hprev:Jo (L.map fun x=>x.1) (j+1)=some y.1:=Qau (by simp [hy])
      have hwm:IntKind.i64.wrap (((j+1:Nat):Int) - 1)=(j:Int):=by rw [Qe]<;>omega
      have hwm':IntKind.i64.wrap ((j:Int)+1 - 1)=(j:Int):=by rw [Qe]<;>omega
      have hwj:IntKind.i64.wrap (j:Int)=(j:Int):=by rw [Qe]<;>omega
      have hj1:(0:Int) < (j:Int)+1:=by omega
      have hj0:(0:Int)<=(j:Int):=by omega
      have hj00:(0:Int)<=(j:Int)+1:=by omega
      have hjn:¬ (j:Int) < 0:=by omega
      have hjl1:(j:Int)+1 < (L.length:Int):=by omega
      have hw2:IntKind.i64.wrap ((j:Int)+1+1)=((j+1+1:Nat):Int):=by rw [Qe]<;>omega
      by_cases c3:x.1<=y.1
      ·rw [if_pos (.inr (.inr (by rw [hprev];simp [leK,c3])))] at ha
       subst ha
       simp [h14,hlt,hilt,hjl1,hj1,hj0,hj00,hjn,hwm,hwm',hwj,hjlt,hjlt',hrow,hrowy,Qd,orcK,keyOf,c1,c2,c3,w94_0,rs94]
       exact ⟨by simpa [Qd] using hk,by simpa [Qd] using hky⟩
      ·rw [if_neg (by rw [hprev];simp [c1,c2,c3,leK])] at ha
       simp [h14,hlt,hilt,hjl1,hj1,hj0,hj00,hjn,hwm,hwm',hwj,hjlt,hjlt',hrow,hrowy,Qd,orcK,keyOf,c1,c2,c3,w94_0,rs94,hw2]
       refine ⟨by simpa [Qd] using hk,by simpa [Qd] using hky,ag ?_,⟨j+1+1,_,by simp,by omega,ha,rfl⟩,by omega⟩
       repeat (first | exact Qa _ _ | refine Qb _ rfl ?_)
  ·obtain rfl:i=L.length:=by omega
   rw [List.drop_eq_nil_of_le (by simp)] at ha
   have ha:true=T:=by rw [<- ha];simp [Ul]
   subst ha
   simp [h14,w94_0,rs94]
def Yf (p:Pl):Bool:=wi p.ch 0 39&&(Zh p.nu p.de&&(Vf p.of p.sh&&(wi p.ep 0 9000000000&&(wi p.rg 1 8&&wi p.ln 1 100000000))))
def orcSo (p:Pl):Nat->FuncId->List AV->AV:=fun _ f l =>
 if f=39 then .bool (Zh p.nu p.de) else if f=40 then .bool (Vf p.of p.sh) else (match l with | [.int _ n,.int _ lo,.int _ up]=>.bool (wi n lo up) | _=>.junk)
theorem sound44 (p:Pl) (hsh:p.sh.length<=8796093022208):Pure Tryz.prog gl0 14 [.ep (Qc p++[.junk,.junk]) 0] (.bool (Yf p)):=by
 have h1:=Vt p.ch 0 39
 have h2:=Jd p.nu p.de
 have h3:=zvalid_pure p.of p.sh hsh
 have h4:=Vt p.ep 0 9000000000
 have h5:=Vt p.rg 1 8
 have h6:=Vt p.ln 1 100000000
 refine Qn code14 (orcSo p) (by simp) ?_
 cases e1:wi p.ch 0 39 with
 | false=>rw [e1] at h1;simp [sc14,rs14,Qc,orcSo,Yf,e1];exact h1
 | true =>
  rw [e1] at h1
  cases e2:Zh p.nu p.de with
  | false=>rw [e2] at h2;simp [sc14,rs14,Qc,orcSo,Yf,e1,e2];exact ⟨h1,h2⟩
  | true =>
   rw [e2] at h2
   cases e3:Vf p.of p.sh with
   | false=>rw [e3] at h3;simp [sc14,rs14,Qc,orcSo,Yf,e1,e2,e3];exact ⟨h1,h2,h3⟩
   | true =>
    rw [e3] at h3
    cases e4:wi p.ep 0 9000000000 with
    | false=>rw [e4] at h4;simp [sc14,rs14,Qc,orcSo,Yf,e1,e2,e3,e4];exact ⟨h1,h2,h3,h4⟩
    | true =>
     rw [e4] at h4
     cases e5:wi p.rg 1 8 with
     | false=>rw [e5] at h5;simp [sc14,rs14,Qc,orcSo,Yf,e1,e2,e3,e4,e5];exact ⟨h1,h2,h3,h4,h5⟩
     | true=>rw [e5] at h5;simp [sc14,rs14,Qc,orcSo,Yf,e1,e2,e3,e4,e5];exact ⟨h1,h2,h3,h4,h5,h6⟩
def allC:List Cl->Bool
 | []=>true
 | c::r=>Xt c&&allC r
def Qaq (p:Pl):Bool:=decide (p.cls.length<=400)&&allC p.cls
def orcCl:Nat->FuncId->List AV->AV:=fun _ _ l=>match l with
 | [.agg [.int _ a,.int _ b,.int _ c,.int _ d,.int _ e,.int _ f,.int _ g,.int _ h]]=>.bool (Xt ⟨a,b,c,d,e,f,g,h⟩)
 | _=>.junk
theorem clauses48 (p:Pl) (hc:p.cls.length<=1000000000):Pure Tryz.prog gl0 18 [.ep (Qc p++[.junk,.junk]) 0] (.bool (Qaq p)):=by
 refine Qn code18 orcCl (by simp) ?_
 by_cases h0:p.cls.length<=400
 ·have h0':¬ (400:Int) < (p.cls.length:Int):=by omega
  obtain ⟨T,hT⟩:∃ T,Qaq p=T:=⟨_,rfl⟩
  rw [hT]
  simp [sc18,Qc,h0,h0']
  refine Ql w18_0 (InvAs 18 p.cls.length fun i=>allC (p.cls.drop i)=T) (fun f _=>p.cls.length - (numOf (f 18)).toNat) ?_ ?_
  ·exact ⟨0,_,by simp,by omega,by rw [<- hT];simp [Qaq,h0],rfl⟩
  ·rintro f m ⟨i,bx,h18,hi,ha,rfl⟩
   rcases Nat.lt_or_ge i p.cls.length with hlt | hge
   ·obtain ⟨x,hx⟩:=getS hlt
    have hrow:Qf (p.cls.map Qq) i=Qq x:=Qv (by simp [hx])
    have hilt:(i:Int) < (p.cls.length:Int):=by omega
    have hw:=wrS i (by omega)
    have hk:=Kk x
    rw [Qz hx,allC] at ha
    cases hv:Xt x with
    | false =>
     rw [hv] at ha hk
     simp at ha
     simp [h18,hlt,hilt,hrow,Qq,orcCl,hv,w18_0,rs18,ha]
     simpa [Qq] using hk
    | true =>
     rw [hv] at ha hk
     simp at ha
     simp [h18,hlt,hilt,hrow,Qq,orcCl,hv,w18_0,rs18,hw]
     refine ⟨by simpa [Qq] using hk,ag ?_,⟨i+1,_,by simp,by omega,ha,rfl⟩,by omega⟩
     repeat (first | exact Qa _ _ | refine Qb _ rfl ?_)
   ·obtain rfl:i=p.cls.length:=by omega
    rw [List.drop_length] at ha
    have ha:true=T:=ha
    subst ha
    simp [h18,w18_0,rs18]
 ·have h0':(400:Int) < (p.cls.length:Int):=by omega
  simp [sc18,rs18,Qc,Qaq,h0,h0']
open Go Go.Abs
def mI (l:List It):List (List Int×AV):=l.map fun x=>([x.id],.agg (Qg x))
def mK (l:List Bk):List (List Int×AV):=l.map fun x=>([x.id],.agg (Xm x))
def fndK (id:Int):List Bk->Option Bk
 | []=>none
 | x::r=>if x.id=id then some x else fndK id r
theorem kfind_none {k:List Int}:∀ {kvs:List (List Int×AV)} {i:Nat},(∀ p∈kvs,p.1≠k)->Qx k kvs i=none
 | [],_,_=>rfl
 | (k',a)::r,i,h=>by
  rw [Qx,if_neg (fun e=>h (k',a) (by simp) e.symm)]
  exact kfind_none fun p hp=>h p (by simp [hp])
theorem kf_I (id:Int):∀ (l:List It) (i:Nat),(Xe id l=none->Qx [id] (mI l) i=none)/\∀ x,Xe id l=some x->∃ n,Qx [id] (mI l) i=some (n,.agg (Qg x))
 | [],i=>⟨fun _=>rfl,fun x h=>by cases h⟩
 | y::r,i=>by
  have ih:=kf_I id r (i+1)
  simp only [mI,List.map_cons,Qx,Xe] at ih |-
  by_cases h:y.id=id
  ·rw [if_pos h,if_pos (by rw [h])]
   exact ⟨fun h=>(by cases h),fun x h=>(by cases h;exact ⟨i,rfl⟩)⟩
  ·rw [if_neg h,if_neg (by intro e;cases e;exact h rfl)]
   exact ih
theorem kf_K (id:Int):∀ (l:List Bk) (i:Nat),(fndK id l=none->Qx [id] (mK l) i=none)/\∀ x,fndK id l=some x->∃ n,Qx [id] (mK l) i=some (n,.agg (Xm x))
 | [],i=>⟨fun _=>rfl,fun x h=>by cases h⟩
 | y::r,i=>by
  have ih:=kf_K id r (i+1)
  simp only [mK,List.map_cons,Qx,fndK] at ih |-
  by_cases h:y.id=id
  ·rw [if_pos h,if_pos (by rw [h])]
   exact ⟨fun h=>(by cases h),fun x h=>(by cases h;exact ⟨i,rfl⟩)⟩
  ·rw [if_neg h,if_neg (by intro e;cases e;exact h rfl)]
   exact ih
theorem ascK_spec {lo up:Int}:∀ {ks:List Int} {pr:Option Int},Ul lo up pr ks=true->ks.Pairwise (· < ·)/\∀ k∈ks,lo<=k/\k<=up/\∀ q,pr=some q->q < k
 | [],pr,_=>⟨List.Pairwise.nil,fun k hk=>by cases hk⟩
 | k::r,pr,h=>by
  rw [Ul] at h
  split at h
  ·cases h
  ·rename_i hn
   simp only [not_or] at hn
   obtain ⟨h1,h2⟩:=ascK_spec h
   have hk:∀ q,pr=some q->q < k:=fun q hq=>by
    have:=hn.2.2
    subst hq
    simp [leK] at this;omega
   refine ⟨List.pairwise_cons.2 ⟨fun a ha=>(h2 a ha).2.2 k rfl,h1⟩,fun a ha=>?_⟩
   rcases List.mem_cons.1 ha with rfl | ha
   ·exact ⟨by omega,by omega,hk⟩
   ·obtain ⟨g1,g2,g3⟩:=h2 a ha
    refine ⟨g1,g2,fun q hq=>?_⟩
    have:=hk q hq
    have:=g3 k rfl
    omega
theorem fresh_take {α:Type} {key:α->Int} {row:α->AV} {l:List α} {i:Nat} {x:α} (h:(l.map key).Pairwise (· < ·)) (hx:l[i]? = some x):Qx [key x] ((l.take i).map fun x=>([key x],row x)) 0=none:=by
 refine kfind_none fun p hp=>?_
 obtain ⟨y,hy,rfl⟩:=List.mem_map.1 hp
 obtain ⟨j,hj,hj2⟩:=List.getElem_of_mem hy
 rw [List.length_take] at hj
 rw [List.getElem_take] at hj2
 obtain ⟨hi,hx⟩:=List.getElem?_eq_some_iff.1 hx
 have hlt:key l[j] < key l[i]:=by
  have:=List.pairwise_iff_getElem.1 h j i (by simp;omega) (by simpa using hi) (by omega)
  simpa using this
 intro e
 rw [<- hj2,<- hx] at e
 simp only [List.cons.injEq,and_true] at e
 omega
def itB (x:It):Bool:=wi x.ki 1 5&&(wi x.fr 1 100000000&&(wi x.sp 0 200&&wi x.ra 0 3))
def allI:List It->Bool
 | []=>true
 | x::r=>itB x&&allI r
def fillB (p:Pl):Bool:=match Xe p.fi p.its with
 | some x=>decide (x.ki=5)
 | none=>false
def Jm (p:Pl):Bool:=decide (p.its.length<=4000)&&(Ul 1 1000000 none (p.its.map fun x=>x.id)&&(allI p.its&&fillB p))
def mBk (p:Pl) (kI kB:List (List Int×AV)) (bx:List (List AV)):AM:=⟨Qc p::[.mobj 0 kI]::[.mobj 0 kB]::(Qc p++[.mp 1,.mp 2])::bx,[],fun _=>.gone,0⟩
theorem idle_it (x:It):Idle (.agg (Qg x)):=Idle.agg fun c hc=>by
 simp only [Qg,List.mem_cons,List.not_mem_nil,or_false] at hc
 rcases hc with rfl | rfl | rfl | rfl | rfl<;>exact Idle.int _ _
theorem idle_bk (x:Bk):Idle (.agg (Xm x)):=Idle.agg fun c hc=>by
 simp only [Xm,List.mem_cons,List.not_mem_nil,or_false] at hc
 rcases hc with rfl | rfl | rfl | rfl | rfl | rfl | rfl<;>exact Idle.int _ _
def BkK (p:Pl) (K:AV->AM->Prop) (r:AV) (m:AM):Prop:=∃ kI kB bx,m=mBk p kI kB bx/\(∀ e∈kI,Idle e.2)/\(∀ e∈kB,Idle e.2)/\Idle r/\K r (mBk p kI kB [])
theorem bkK {p:Pl} {K:AV->AM->Prop} {r:AV} {m:AM} (kI kB:List (List Int×AV)) (bx:List (List AV)) (hm:m=mBk p kI kB bx) (h1:∀ e∈kI,Idle e.2) (h2:∀ e∈kB,Idle e.2) (h3:Idle r) (h4:K r (mBk p kI kB [])):BkK p K r m:=⟨kI,kB,bx,hm,h1,h2,h3,h4⟩
theorem book_forget {f:FuncId} {xs:List AV} {p:Pl} {Y:YT} {k0 b0:List (List Int×AV)} {K:AV->AM->Prop}
  (h:EffY Tryz.prog gl0 Y f xs (mBk p k0 b0 []) (BkK p K)):EffY Tryz.prog gl0 Y f xs (mBk p k0 b0 []) K:=by
 refine EffY.forget (EffY.mono h ?_)
 rintro r m' ⟨kI,kB,bx,rfl,h1,h2,h3,h4⟩
 refine ⟨mBk p kI kB [],bx,rfl,rfl,rfl,fun id cells hc=>?_,h3,h4⟩
 match id,hc with
 | 0,hc=>exact .inl hc
 | 1,hc=>cases hc;exact .inr (.inr ⟨0,kI,rfl,h1⟩)
 | 2,hc=>cases hc;exact .inr (.inr ⟨0,kB,rfl,h2⟩)
 | 3,hc=>exact .inl hc
 | n+4,hc=>cases hc
def orcIt (p:Pl):Nat->FuncId->List AV->AV:=fun _ f l =>
 if f=41 then .bool (Ul 1 1000000 none (p.its.map fun x=>x.id)) else (match l with | [.int _ n,.int _ lo,.int _ up]=>.bool (wi n lo up) | _=>.junk)
theorem Zx (l:List It):∀ e∈mI l,Idle e.2:=fun e he=>by
 obtain ⟨x,_,rfl⟩:=List.mem_map.1 he
 exact idle_it x
theorem Kc (l:List Bk):∀ e∈mK l,Idle e.2:=fun e he=>by
 obtain ⟨x,_,rfl⟩:=List.mem_map.1 he
 exact idle_bk x
theorem mI_take {l:List It} {i:Nat} {x:It} (h:l[i]? = some x):mI (l.take (i+1))=mI (l.take i)++[([x.id],.agg (Qg x))]:=by
 simp [mI,List.take_add_one,h]
theorem mK_take {l:List Bk} {i:Nat} {x:Bk} (h:l[i]? = some x):mK (l.take (i+1))=mK (l.take i)++[([x.id],.agg (Xm x))]:=by
 simp [mK,List.take_add_one,h]
theorem Yi {P:List Int×AV->Prop}:∀ e∈([]:List (List Int×AV)),P e:=fun e h=>by cases h
def InvBk (s n:Nat) (p:Pl) (kI kB:Nat->List (List Int×AV)) (R:Nat->Prop) (f:Nat->AV) (m:AM):Prop:=∃ (i:Nat) (bx:List (List AV)),f s=I i/\i<=n/\R i/\m=mBk p (kI i) (kB i) bx
theorem items45 (p:Pl) (hl:p.its.length<=1000000000) (Y:YT) (K:AV->AM->Prop) (hK1:Jm p=true->K (.bool true) (mBk p (mI p.its) [] [])) (hK0:Jm p=false->∀ kI,K (.bool false) (mBk p kI [] [])) :
  EffY Tryz.prog gl0 Y 15 [.ptr 3 0] (mBk p [] [] []) K:=by
 have k90:=ascI_pure p.its 1 1000000 (by omega)
 refine book_forget ?_
 refine Zb code15 (orcIt p) (by simp) ?_
 by_cases h0:p.its.length<=4000
 ·have h0':¬ (4000:Int) < (p.its.length:Int):=by omega
  cases ha:Ul 1 1000000 none (p.its.map fun x=>x.id) with
  | false =>
   rw [ha] at k90
   simp [sc15,rs15,mBk,Qc,h0,h0',orcIt,ha]
   exact ⟨k90,bkK _ _ _ rfl Yi Yi (Idle.bool _) (hK0 (by simp [Jm,ha]) [])⟩
  | true =>
   rw [ha] at k90
   have hp:=(ascK_spec ha).1
   simp [sc15,mBk,Qc,h0,h0',orcIt,ha]
   refine ⟨k90,?_⟩
   refine Ql w15_0 (InvBk 27 p.its.length p (fun i=>mI (p.its.take i)) (fun _=>[]) fun i=>allI (p.its.drop i)=allI p.its) (fun f _=>p.its.length - (numOf (f 27)).toNat) ?_ ?_
   ·exact ⟨0,[],by simp,by omega,by simp,by simp [mBk,Qc,mI]⟩
   ·rintro f m ⟨i,bx,h27,hi,hal,rfl⟩
    rcases Nat.lt_or_ge i p.its.length with hlt | hge
    ·obtain ⟨x,hx⟩:=getS hlt
     have hrow:Qf (p.its.map Qg) i=Qg x:=Qv (by simp [hx])
     have hilt:(i:Int) < (p.its.length:Int):=by omega
     have hw:=wrS i (by omega)
     have hkf:Qx [x.id] (mI (p.its.take i)) 0=none:=fresh_take (key:=fun x=>x.id) (row:=fun x=>.agg (Qg x)) hp hx
     have htk:=mI_take hx
     rw [Qz hx,allI] at hal
     have h1:=Vt x.ki 1 5
     have h2:=Vt x.fr 1 100000000
     have h3:=Vt x.sp 0 200
     have h4:=Vt x.ra 0 3
     have bad:itB x=false->Jm p=false:=fun h=>by rw [h] at hal;simp [Jm,<- hal]
     cases e1:wi x.ki 1 5 with
     | false =>
      rw [e1] at h1
      simp [h27,hlt,hilt,hrow,Qg,mBk,Qc,orcIt,e1,w15_0,rs15]
      exact ⟨h1,bkK _ _ _ rfl (Zx _) Yi (Idle.bool _) (hK0 (bad (by simp [itB,e1])) _)⟩
     | true =>
      rw [e1] at h1
      cases e2:wi x.fr 1 100000000 with
      | false =>
       rw [e2] at h2
       simp [h27,hlt,hilt,hrow,Qg,mBk,Qc,orcIt,e1,e2,w15_0,rs15]
       exact ⟨h1,h2,bkK _ _ _ rfl (Zx _) Yi (Idle.bool _) (hK0 (bad (by simp [itB,e1,e2])) _)⟩
      | true =>
       rw [e2] at h2
       cases e3:wi x.sp 0 200 with
       | false =>
        rw [e3] at h3
        simp [h27,hlt,hilt,hrow,Qg,mBk,Qc,orcIt,e1,e2,e3,w15_0,rs15]
        exact ⟨h1,h2,h3,bkK _ _ _ rfl (Zx _) Yi (Idle.bool _) (hK0 (bad (by simp [itB,e1,e2,e3])) _)⟩
       | true =>
        rw [e3] at h3
        cases e4:wi x.ra 0 3 with
        | false =>
         rw [e4] at h4
         simp [h27,hlt,hilt,hrow,Qg,mBk,Qc,orcIt,e1,e2,e3,e4,w15_0,rs15]
         exact ⟨h1,h2,h3,h4,bkK _ _ _ rfl (Zx _) Yi (Idle.bool _) (hK0 (bad (by simp [itB,e1,e2,e3,e4])) _)⟩
        | true =>
         rw [e4] at h4
         have hok:itB x=true:=by simp [itB,e1,e2,e3,e4]
         rw [hok,Bool.true_and] at hal
         simp [h27,hlt,hilt,hrow,Qg,mBk,Qc,orcIt,e1,e2,e3,e4,w15_0,hw,hkf]
         refine ⟨h1,h2,h3,h4,ag ?_,⟨i+1,bx++[Qg x],by simp,by omega,hal,?_⟩,by omega⟩
         ·repeat (first | exact Qa _ _ | refine Qb _ rfl ?_)
         ·simp only [htk];simp [Qg,mBk,Qc]
    ·have hin:¬ (i:Int) < (p.its.length:Int):=by omega
     rw [List.drop_eq_nil_of_le hge] at hal
     have htl:p.its.take i=p.its:=List.take_of_length_le hge
     simp only [htl]
     have hal:allI p.its=true:=by rw [<- hal];rfl
     obtain ⟨g1,g2⟩:=kf_I p.fi p.its 0
     cases hf:Xe p.fi p.its with
     | none =>
      have g:=g1 hf
      simp [h27,hin,w15_0,rs15,mBk,Qc,g]
      exact bkK _ _ _ rfl (Zx _) Yi (Idle.bool _) (hK0 (by simp [Jm,fillB,hf]) _)
     | some x =>
      obtain ⟨n,g⟩:=g2 x hf
      simp [h27,hin,w15_0,rs15,mBk,Qc,g,Qg]
      by_cases h5:x.ki=5
      ·simp only [h5]
       exact bkK _ _ _ rfl (Zx _) Yi (Idle.bool _) (hK1 (by simp [Jm,fillB,hf,h0,ha,hal,h5]))
      ·have h5':(x.ki==5)=false:=by simpa using h5
       rw [h5']
       exact bkK _ _ _ rfl (Zx _) Yi (Idle.bool _) (hK0 (by simp [Jm,fillB,hf,h5]) _)
 ·have h0':(4000:Int) < (p.its.length:Int):=by omega
  simp [sc15,rs15,mBk,Qc,h0,h0',orcIt]
  exact bkK _ _ _ rfl Yi Yi (Idle.bool _) (hK0 (by simp [Jm,h0]) [])
open Go Go.Abs
def timesB (x:Bk):Bool:=decide (0<=x.fr)&&(decide (x.fr < x.to)&&(decide (x.to<=x.un)&&decide (x.un<=100000000)))
def kindOf (p:Pl) (id:Int):Int:=match Xe id p.its with
 | some y=>y.ki
 | none=>0
def bkB (p:Pl) (x:Bk):Bool:=decide (kindOf p x.it=2)&&(wi x.re 0 (p.rg - 1)&&(timesB x&&wi x.pr 0 1000000000))
def allK (p:Pl):List Bk->Bool
 | []=>true
 | x::r=>bkB p x&&allK p r
def booksB (p:Pl):Bool:=decide (p.bks.length<=2000)&&(Ul 1 1000000 none (p.bks.map fun x=>x.id)&&allK p p.bks)
theorem look_I (p:Pl) (id:Int):∃ r,Qx [id] (mI p.its) 0=r/\((∃ n x,Xe id p.its=some x/\r=some (n,.agg (Qg x)))\/(Xe id p.its=none/\r=none)):=by
 obtain ⟨g1,g2⟩:=kf_I id p.its 0
 cases hf:Xe id p.its with
 | none=>exact ⟨_,rfl,.inr ⟨rfl,g1 hf⟩⟩
 | some x =>
  obtain ⟨n,g⟩:=g2 x hf
  exact ⟨_,rfl,.inl ⟨n,x,rfl,g⟩⟩
def Wz (p:Pl):Nat->FuncId->List AV->AV:=fun _ f l =>
 if f=43 then .bool (Ul 1 1000000 none (p.bks.map fun x=>x.id)) else (match l with | [.int _ n,.int _ lo,.int _ up]=>.bool (wi n lo up) | _=>.junk)
theorem books46 (p:Pl) (hl:p.bks.length<=8796093022208) (hrg:1<=p.rg/\p.rg<=8) (Y:YT) (K:AV->AM->Prop) (hK1:booksB p=true->K (.bool true) (mBk p (mI p.its) (mK p.bks) [])) (hK0:booksB p=false->∀ kB,K (.bool false) (mBk p (mI p.its) kB [])) :
  EffY Tryz.prog gl0 Y 16 [.ptr 3 0] (mBk p (mI p.its) [] []) K:=by
 have k90:=ascB_pure p.bks 1 1000000 hl
 refine book_forget ?_
 refine Zb code16 (Wz p) (by simp) ?_
 by_cases h0:p.bks.length<=2000
 ·have h0':¬ (2000:Int) < (p.bks.length:Int):=by omega
  cases ha:Ul 1 1000000 none (p.bks.map fun x=>x.id) with
  | false =>
   rw [ha] at k90
   simp [sc16,rs16,mBk,Qc,h0,h0',Wz,ha]
   exact ⟨k90,bkK _ _ _ rfl (Zx _) Yi (Idle.bool _) (hK0 (by simp [booksB,ha]) [])⟩
  | true =>
   rw [ha] at k90
   have hp:=(ascK_spec ha).1
   simp [sc16,mBk,Qc,h0,h0',Wz,ha]
   refine ⟨k90,?_⟩
   refine Ql w16_0 (InvBk 28 p.bks.length p (fun _=>mI p.its) (fun i=>mK (p.bks.take i)) fun i=>allK p (p.bks.drop i)=allK p p.bks) (fun f _=>p.bks.length - (numOf (f 28)).toNat) ?_ ?_
   ·exact ⟨0,[],by simp,by omega,by simp,by simp [mBk,Qc,mK]⟩
   ·rintro f m ⟨i,bx,h28,hi,hal,rfl⟩
    rcases Nat.lt_or_ge i p.bks.length with hlt | hge
    ·obtain ⟨x,hx⟩:=getS hlt
     have hrow:Qf (p.bks.map Xm) i=Xm x:=Qv (by simp [hx])
     have hilt:(i:Int) < (p.bks.length:Int):=by omega
     have hw:=wrS i (by omega)
     have hwr:IntKind.i64.wrap (p.rg - 1)=p.rg - 1:=by rw [Qe]<;>omega
     have hkf:Qx [x.id] (mK (p.bks.take i)) 0=none:=fresh_take (key:=fun x=>x.id) (row:=fun x=>.agg (Xm x)) hp hx
     have htk:=mK_take hx
     rw [Qz hx,allK] at hal
     have h1:=Vt x.re 0 (p.rg - 1)
     have h2:=Vt x.pr 0 1000000000
     have bad:bkB p x=false->booksB p=false:=fun h=>by rw [h] at hal;simp [booksB,<- hal]
     obtain ⟨r,hr,hrr⟩:=look_I p x.it
     by_cases hki:kindOf p x.it=2
     ·rcases hrr with ⟨n,y,hf,rfl⟩ | ⟨hf,rfl⟩
      ·have hy:y.ki=2:=by simpa [kindOf,hf] using hki
       cases e1:wi x.re 0 (p.rg - 1) with
       | false =>
        rw [e1] at h1
        simp [h28,hlt,hilt,hrow,Xm,mBk,Qc,Wz,hr,Qg,hy,hwr,e1,w16_0,rs16]
        exact ⟨h1,bkK _ _ _ rfl (Zx _) (Kc _) (Idle.bool _) (hK0 (bad (by simp [bkB,e1])) _)⟩
       | true =>
        rw [e1] at h1
        cases e2:timesB x with
        | false =>
         have e2':¬ (0<=x.fr)\/(0<=x.fr/\¬ x.fr < x.to)\/(0<=x.fr/\x.fr < x.to/\¬ x.to<=x.un)\/(0<=x.fr/\x.fr < x.to/\x.to<=x.un/\¬ x.un<=100000000):=by
          simp [timesB] at e2
          omega
         rcases e2' with c1 | ⟨c1,c2⟩ | ⟨c1,c2,c3⟩ | ⟨c1,c2,c3,c4⟩
         ·simp [h28,hlt,hilt,hrow,Xm,mBk,Qc,Wz,hr,Qg,hy,hwr,e1,c1,w16_0,rs16]
          exact ⟨h1,bkK _ _ _ rfl (Zx _) (Kc _) (Idle.bool _) (hK0 (bad (by simp [bkB,e1,e2])) _)⟩
         ·simp [h28,hlt,hilt,hrow,Xm,mBk,Qc,Wz,hr,Qg,hy,hwr,e1,c1,c2,w16_0,rs16]
          exact ⟨h1,bkK _ _ _ rfl (Zx _) (Kc _) (Idle.bool _) (hK0 (bad (by simp [bkB,e1,e2])) _)⟩
         ·simp [h28,hlt,hilt,hrow,Xm,mBk,Qc,Wz,hr,Qg,hy,hwr,e1,c1,c2,c3,w16_0,rs16]
          exact ⟨h1,bkK _ _ _ rfl (Zx _) (Kc _) (Idle.bool _) (hK0 (bad (by simp [bkB,e1,e2])) _)⟩
         ·simp [h28,hlt,hilt,hrow,Xm,mBk,Qc,Wz,hr,Qg,hy,hwr,e1,c1,c2,c3,c4,w16_0,rs16]
          exact ⟨h1,bkK _ _ _ rfl (Zx _) (Kc _) (Idle.bool _) (hK0 (bad (by simp [bkB,e1,e2])) _)⟩
        | true =>
         have e2':0<=x.fr/\x.fr < x.to/\x.to<=x.un/\x.un<=100000000:=by
          simp [timesB] at e2
          omega
         obtain ⟨c1,c2,c3,c4⟩:=e2'
         cases e3:wi x.pr 0 1000000000 with
         | false =>
          rw [e3] at h2
          simp [h28,hlt,hilt,hrow,Xm,mBk,Qc,Wz,hr,Qg,hy,hwr,e1,c1,c2,c3,c4,e3,w16_0,rs16]
          exact ⟨h1,h2,bkK _ _ _ rfl (Zx _) (Kc _) (Idle.bool _) (hK0 (bad (by simp [bkB,e1,e2,e3])) _)⟩
         | true =>
          rw [e3] at h2
          have hok:bkB p x=true:=by simp [bkB,hki,e1,e2,e3]
          rw [hok,Bool.true_and] at hal
          simp [h28,hlt,hilt,hrow,Xm,mBk,Qc,Wz,hr,Qg,hy,hwr,e1,c1,c2,c3,c4,e3,w16_0,rs16,hw,hkf]
          refine ⟨h1,h2,ag ?_,⟨i+1,bx++[Xm x],by simp,by omega,hal,?_⟩,by omega⟩
          ·repeat (first | exact Qa _ _ | refine Qb _ rfl ?_)
          ·simp only [htk];simp [Xm,mBk,Qc]
      ·simp [kindOf,hf] at hki
     ·have hb:=bad (by simp [bkB,hki])
      rcases hrr with ⟨n,y,hf,rfl⟩ | ⟨hf,rfl⟩
      ·have hy:¬ y.ki=2:=by simpa [kindOf,hf] using hki
       simp [h28,hlt,hilt,hrow,Xm,mBk,Qc,Wz,hr,Qg,hy,hwr,w16_0,rs16]
       exact bkK _ _ _ rfl (Zx _) (Kc _) (Idle.bool _) (hK0 hb _)
      ·simp [h28,hlt,hilt,hrow,Xm,mBk,Qc,Wz,hr,Qg,hwr,w16_0,rs16]
       exact bkK _ _ _ rfl (Zx _) (Kc _) (Idle.bool _) (hK0 hb _)
    ·have hin:¬ (i:Int) < (p.bks.length:Int):=by omega
     rw [List.drop_eq_nil_of_le hge] at hal
     have htl:p.bks.take i=p.bks:=List.take_of_length_le hge
     simp only [htl]
     have hal:allK p p.bks=true:=by rw [<- hal];rfl
     simp [h28,hin,w16_0,rs16,mBk,Qc]
     exact bkK _ _ _ rfl (Zx _) (Kc _) (Idle.bool _) (hK1 (by simp [booksB,h0,ha,hal]))
 ·have h0':(2000:Int) < (p.bks.length:Int):=by omega
  simp [sc16,rs16,mBk,Qc,h0,h0',Wz]
  exact bkK _ _ _ rfl (Zx _) Yi (Idle.bool _) (hK0 (by simp [booksB,h0]) [])
open Go Go.Abs
def RdK (m:AM) (K:AV->AM->Prop) (r:AV) (m':AM):Prop:=∃ ex,m'={ m with boxes:=m.boxes++ex }/\Idle r/\K r m
theorem rdK {m:AM} {K:AV->AM->Prop} {r:AV} {m':AM} (ex:List (List AV)) (hm:m'={ m with boxes:=m.boxes++ex }) (hi:Idle r) (hK:K r m):RdK m K r m':=⟨ex,hm,hi,hK⟩
theorem Un {f:FuncId} {xs:List AV} {m:AM} {Y:YT} {K:AV->AM->Prop} (h:EffY Tryz.prog gl0 Y f xs m (RdK m K)):EffY Tryz.prog gl0 Y f xs m K:=by
 refine EffY.mono (EffY.read (K:=fun r=>K r m) (EffY.mono h fun r m' h=>h)) ?_
 rintro r m' ⟨rfl,h⟩
 exact h
theorem allI_mem:∀ {l:List It},allI l=true->∀ x∈l,itB x=true
 | y::r,h,x,hx=>by
  rw [allI,Bool.and_eq_true] at h
  rcases List.mem_cons.1 hx with rfl | hx
  ·exact h.1
  ·exact allI_mem h.2 x hx
theorem itB_bd {x:It} (h:itB x=true):(1<=x.ki/\x.ki<=5)/\(1<=x.fr/\x.fr<=100000000)/\(0<=x.sp/\x.sp<=200)/\(0<=x.ra/\x.ra<=3):=by
 simp only [itB,wi,Bool.and_eq_true,decide_eq_true_eq] at h
 exact h
def fitsB (p:Pl) (e:En):Bool:=match Xe e.it p.its with
 | none=>false
 | some y=>if y.ki=5 then false else if wi e.fr 1 y.fr=false then false else if y.ki≠4/\e.fr≠y.fr then false else decide (0<=e.ea)&&(decide (e.ea<=e.la)&&decide (e.la<=p.ln - e.fr))
def orcFi:Nat->FuncId->List AV->AV:=fun _ f l=>match l with | [.int _ n,.int _ lo,.int _ up]=>.bool (wi n lo up) | _=>.junk
theorem fits94 (p:Pl) (e:En) (kB:List (List Int×AV)) (bx:List (List AV)) (hits:allI p.its=true) (hln:1<=p.ln/\p.ln<=100000000) (Y:YT) (K:AV->AM->Prop) (hK:∀ b,fitsB p e=b->K (.bool b) (mBk p (mI p.its) kB bx)) :
  EffY Tryz.prog gl0 Y 45 [.ptr 3 0,.agg (Qi e)] (mBk p (mI p.its) kB bx) K:=by
 refine Un (Zb code45 orcFi (by simp) ?_)
 obtain ⟨r,hr,hrr⟩:=look_I p e.it
 simp [sc45,rs45,mBk,Qc,Qi]
 refine Kj ?_
 rcases hrr with ⟨n,y,hf,rfl⟩ | ⟨hf,rfl⟩
 ·obtain ⟨g1,g2,g3,g4⟩:=itB_bd (allI_mem hits y (fndI_mem hf).1)
  have h1:=Vt e.fr 1 y.fr
  by_cases c1:y.ki=5
  ·simp [hr,Qg,c1]
   exact rdK _ rfl (Idle.bool _) (hK _ (by simp [fitsB,hf,c1]))
  ·cases c2:wi e.fr 1 y.fr with
   | false =>
    rw [c2] at h1
    simp [hr,Qg,c1,c2,orcFi]
    exact ⟨h1,rdK _ rfl (Idle.bool _) (hK _ (by simp [fitsB,hf,c1,c2]))⟩
   | true =>
    rw [c2] at h1
    have c2':1<=e.fr/\e.fr<=y.fr:=by simpa [wi] using c2
    have hw:IntKind.i64.wrap (p.ln - e.fr)=p.ln - e.fr:=by rw [Qe]<;>omega
    by_cases c3:y.ki≠4/\e.fr≠y.fr
    ·simp [hr,Qg,c1,c2,orcFi,c3.1,c3.2]
     exact ⟨h1,rdK _ rfl (Idle.bool _) (hK _ (by simp [fitsB,hf,c1,c2,c3.1,c3.2]))⟩
    ·have fin:∀ b,(decide (0<=e.ea)&&(decide (e.ea<=e.la)&&decide (e.la<=p.ln - e.fr)))=b->fitsB p e=b:=fun b hb=>by
      rw [fitsB,hf]
      simp only
      rw [if_neg c1,if_neg (by simp [c2]),if_neg c3]
      exact hb
     have c3':y.ki=4\/(¬ y.ki=4/\e.fr=y.fr):=by
      by_cases h:y.ki=4
      ·exact .inl h
      ·exact .inr ⟨h,by by_cases h':e.fr=y.fr;exact h';exact absurd ⟨h,h'⟩ c3⟩
     by_cases d1:0<=e.ea
     ·by_cases d2:e.ea<=e.la
      ·by_cases d3:e.la<=p.ln - e.fr
       ·rcases c3' with c | ⟨c,c'⟩
        ·simp [hr,Qg,c1,c2,orcFi,c,hw,d1,d2,d3]
         exact ⟨h1,rdK _ rfl (Idle.bool _) (hK _ (fin _ (by simp [d1,d2,d3])))⟩
        ·rw [<- c'] at c2 h1
         simp [hr,Qg,c1,c2,orcFi,c,<- c',hw,d1,d2,d3]
         exact ⟨h1,rdK _ rfl (Idle.bool _) (hK _ (fin _ (by simp [d1,d2,d3])))⟩
       ·rcases c3' with c | ⟨c,c'⟩
        ·simp [hr,Qg,c1,c2,orcFi,c,hw,d1,d2,d3]
         exact ⟨h1,rdK _ rfl (Idle.bool _) (hK _ (fin _ (by simp [d1,d2,d3])))⟩
        ·rw [<- c'] at c2 h1
         simp [hr,Qg,c1,c2,orcFi,c,<- c',hw,d1,d2,d3]
         exact ⟨h1,rdK _ rfl (Idle.bool _) (hK _ (fin _ (by simp [d1,d2,d3])))⟩
      ·rcases c3' with c | ⟨c,c'⟩
       ·simp [hr,Qg,c1,c2,orcFi,c,d1,d2]
        exact ⟨h1,rdK _ rfl (Idle.bool _) (hK _ (fin _ (by simp [d1,d2])))⟩
       ·rw [<- c'] at c2 h1
        simp [hr,Qg,c1,c2,orcFi,c,<- c',d1,d2]
        exact ⟨h1,rdK _ rfl (Idle.bool _) (hK _ (fin _ (by simp [d1,d2])))⟩
     ·rcases c3' with c | ⟨c,c'⟩
      ·simp [hr,Qg,c1,c2,orcFi,c,d1]
       exact ⟨h1,rdK _ rfl (Idle.bool _) (hK _ (fin _ (by simp [d1])))⟩
      ·rw [<- c'] at c2 h1
       simp [hr,Qg,c1,c2,orcFi,c,<- c',d1]
       exact ⟨h1,rdK _ rfl (Idle.bool _) (hK _ (fin _ (by simp [d1])))⟩
 ·simp [hr]
  exact rdK _ rfl (Idle.bool _) (hK _ (by simp [fitsB,hf]))
open Go Go.Abs
def Kq (p:Pl) (e:En) (a:Sp):Bool:=match Xe a.2 p.its with
 | none=>false
 | some y=>decide (y.fr=e.fr)&&(decide (y.ki≠5)&&decide (y.ki≠4))
def mAl (p:Pl) (e:En) (kB:List (List Int×AV)) (b0:List (List AV)):AM:=mBk p (mI p.its) kB (b0++[[.ptr 3 0],Qi e])
theorem rdA {p:Pl} {e:En} {kB:List (List Int×AV)} {b0:List (List AV)} {K:AV->AM->Prop} {r:AV} {m':AM} (ex:List (List AV)) (hm:m'=mBk p (mI p.its) kB (b0++([.ptr 3 0]::Qi e::ex))) (hi:Idle r) (hK:K r (mAl p e kB b0)):RdK (mAl p e kB b0) K r m' :=
 rdK ex (by rw [hm];simp [mAl,mBk]) hi hK
theorem unfit143 (p:Pl) (e:En) (a:Sp) (kB:List (List Int×AV)) (b0:List (List AV)) (Y:YT) (K:AV->AM->Prop) (hK:K (.bool (!Kq p e a)) (mAl p e kB b0)) :
  EffY Tryz.prog gl0 Y 96 [.agg (Qd a),.ptr (b0.length+4) 0,.ptr (b0.length+5) 0] (mAl p e kB b0) K:=by
 refine Un (Zb code96 (fun _ _ _=>.junk) (by simp) ?_)
 obtain ⟨r,hr,hrr⟩:=look_I p a.2
 simp [sc96,rs96,mAl,mBk,Qc,Qi,Qd]
 refine Kj ?_
 rcases hrr with ⟨n,y,hf,rfl⟩ | ⟨hf,rfl⟩
 ·by_cases c1:y.fr=e.fr
  ·by_cases c2:y.ki=5
   ·have:(!Kq p e a)=true:=by simp [Kq,hf,c1,c2]
    rw [this] at hK
    simp [hr,Qg,c1,c2]
    exact rdA _ rfl (Idle.bool _) hK
   ·by_cases c3:y.ki=4
    ·have:(!Kq p e a)=true:=by simp [Kq,hf,c1,c2,c3]
     rw [this] at hK
     simp [hr,Qg,c1,c2,c3]
     exact rdA _ rfl (Idle.bool _) hK
    ·have:(!Kq p e a)=false:=by simp [Kq,hf,c1,c2,c3]
     rw [this] at hK
     have h':(y.ki==5||y.ki==4)=false:=by simp [c2,c3]
     simp [hr,Qg,c1,c2,c3]
     rw [h']
     exact rdA _ rfl (Idle.bool _) hK
  ·have:(!Kq p e a)=true:=by simp [Kq,hf,c1]
   rw [this] at hK
   have h':(y.fr != e.fr||y.ki==5||y.ki==4)=true:=by simp [c1]
   simp [hr,Qg,c1]
   rw [h']
   exact rdA _ rfl (Idle.bool _) hK
 ·have:(!Kq p e a)=true:=by simp [Kq,hf]
  rw [this] at hK
  simp [hr]
  exact rdA _ rfl (Idle.bool _) hK
def idxK {α:Type} (b:α->Bool):List α->Nat->Int
 | [],_ => -1
 | x::r,i=>if b x=true then (i:Int) else idxK b r (i+1)
theorem idxK_any {α:Type} (b:α->Bool):∀ (l:List α) (i:Nat),(0<=idxK b l i<->l.any b=true)
 | [],i=>by simp [idxK]
 | x::r,i=>by
  rw [idxK]
  cases h:b x with
  | true=>simp [h]
  | false=>simp [h,idxK_any b r (i+1)]
def InvX (s n:Nat) (m0:AM) (R:Nat->Prop) (f:Nat->AV) (m:AM):Prop:=∃ (i:Nat),f s=I i/\i<=n/\R i/\m=m0
theorem index189 (p:Pl) (e:En) (L:List Sp) (hl:L.length<=8796093022208) (kB:List (List Int×AV)) (b0:List (List AV)) (Y:YT) (K:AV->AM->Prop) (hK:K (I (idxK (fun a=>!Kq p e a) L 0)) (mAl p e kB b0)) :
  EffY Tryz.prog gl0 Y 128 [.sl .ro (L.map Qd),.fn 96 [] [.ptr (b0.length+4) 0,.ptr (b0.length+5) 0]] (mAl p e kB b0) K:=by
 obtain ⟨T,hT⟩:∃ T,idxK (fun a=>!Kq p e a) L 0=T:=⟨_,rfl⟩
 rw [hT] at hK
 refine Zb code128 (fun _ _ _=>.gd false .junk) (by simp) ?_
 simp [sc128]
 refine Ql w128_0 (InvX 8 L.length (mAl p e kB b0) fun i=>idxK (fun a=>!Kq p e a) (L.drop i) i=T) (fun f _=>L.length - (numOf (f 8)).toNat) ?_ ?_
 ·exact ⟨0,by simp,by omega,by simpa using hT,rfl⟩
 ·rintro f m ⟨i,h8,hi,hx,rfl⟩
  rcases Nat.lt_or_ge i L.length with hlt | hge
  ·obtain ⟨a,ha⟩:=getS hlt
   have hrow:=Zm ha
   have hilt:(i:Int) < (L.length:Int):=by omega
   have hw:=wrS i (by omega)
   rw [Qz ha,idxK] at hx
   simp [h8,hlt,hilt,hrow,w128_0,rs128]
   refine unfit143 p e a kB b0 Y _ ?_
   cases hb:Kq p e a with
   | false =>
    rw [hb] at hx
    simp at hx
    simp [h8,w128_0,rs128,hx]
    exact hK
   | true =>
    rw [hb] at hx
    simp at hx
    simp [h8,w128_0,rs128,hw]
    refine ⟨ag ?_,⟨i+1,by simp,by omega,hx,rfl⟩,by omega⟩
    repeat (first | exact Qa _ _ | refine Qb _ rfl ?_)
  ·have hin:¬ (i:Int) < (L.length:Int):=by omega
   rw [List.drop_eq_nil_of_le hge,idxK] at hx
   simp [h8,hin,Nat.not_lt.2 hge,w128_0,rs128,hx]
   exact hK
theorem any144 (p:Pl) (e:En) (L:List Sp) (hl:L.length<=8796093022208) (kB:List (List Int×AV)) (b0:List (List AV)) (Y:YT) (K:AV->AM->Prop) (hK:K (.bool (L.any fun a=>!Kq p e a)) (mAl p e kB b0)) :
  EffY Tryz.prog gl0 Y 97 [.sl .ro (L.map Qd),.fn 96 [] [.ptr (b0.length+4) 0,.ptr (b0.length+5) 0]] (mAl p e kB b0) K:=by
 have hiff:=idxK_any (fun a=>!Kq p e a) L 0
 refine Zb code97 (fun _ _ _=>.gd false .junk) (by simp) ?_
 simp [sc97]
 refine index189 p e L hl kB b0 Y _ ?_
 have:decide (0<=idxK (fun a=>!Kq p e a) L 0)=L.any fun a=>!Kq p e a:=by
  rw [Bool.eq_iff_iff,decide_eq_true_eq];exact hiff
 simp [rs97,this]
 simpa using hK
def altsB (p:Pl) (e:En):Bool:=Ul 1 (p.rg - 1) none (e.al.map fun x=>x.1)&&(!(decide (kindOf p e.it=4)&&decide (e.al≠[]))&&!(e.al.any fun a=>!Kq p e a))
def orcAt (p:Pl) (e:En):Nat->FuncId->List AV->AV:=fun _ f _=>if f=94 then .bool (Ul 1 (p.rg - 1) none (e.al.map fun x=>x.1)) else .gd false .junk
theorem alts95 (p:Pl) (e:En) (hl:e.al.length<=8796093022208) (hrg:1<=p.rg/\p.rg<=8) (kB:List (List Int×AV)) (bx:List (List AV)) (Y:YT) (K:AV->AM->Prop) (hK:∀ b,altsB p e=b->K (.bool b) (mBk p (mI p.its) kB bx)) :
  EffY Tryz.prog gl0 Y 46 [.ptr 3 0,.agg (Qi e)] (mBk p (mI p.its) kB bx) K:=by
 have k141:=ascA_pure e.al 1 (p.rg - 1) hl
 refine Un (Zb code46 (orcAt p e) (by simp) ?_)
 obtain ⟨r,hr,hrr⟩:=look_I p e.it
 have hwr:IntKind.i64.wrap (p.rg - 1)=p.rg - 1:=by rw [Qe]<;>omega
 cases h1:Ul 1 (p.rg - 1) none (e.al.map fun x=>x.1) with
 | false =>
  rw [h1] at k141
  simp [sc46,rs46,mBk,Qc,Qi,hwr,orcAt,h1]
  exact ⟨k141,rdK _ rfl (Idle.bool _) (hK _ (by simp [altsB,h1]))⟩
 | true =>
  rw [h1] at k141
  have tl:∀ (E:List (Nat×AV)),True:=fun _=>trivial
  have hgo:kindOf p e.it=4->e.al≠[]->altsB p e=false:=fun h h'=>by simp [altsB,h,h']
  have hno:¬ (kindOf p e.it=4/\e.al≠[])->altsB p e=!(e.al.any fun a=>!Kq p e a):=fun h=>by
   have:(decide (kindOf p e.it=4)&&decide (e.al≠[]))=false:=by
    rw [Bool.eq_false_iff];intro h';simp at h';exact h h'
   rw [altsB,h1,this];rfl
  rcases hrr with ⟨n,y,hf,rfl⟩ | ⟨hf,rfl⟩
  ·have hkd:kindOf p e.it=y.ki:=by simp [kindOf,hf]
   by_cases c1:y.ki=4
   ·by_cases c2:e.al=[]
    ·have hno':=hno (by simp [c2])
     have c2l:¬ 0 < e.al.length:=by simp [c2]
     simp [sc46,rs46,mBk,Qc,Qi,hwr,orcAt,h1,hr,Qg,c1,c2]
     rw [c2] at k141
     refine ⟨k141,?_⟩
     have:=any144 p e [] (by simp) kB bx Y
     simp only [mAl,mBk,Qc,Qi,c2] at this
     refine this _ ?_
     simp [rs46]
     exact rdK _ rfl (Idle.bool _) (hK _ (by rw [hno',c2];rfl))
    ·have c2l:0 < e.al.length:=List.length_pos_iff.2 c2
     simp [sc46,rs46,mBk,Qc,Qi,hwr,orcAt,h1,hr,Qg,c1,c2l]
     exact ⟨k141,rdK _ rfl (Idle.bool _) (hK _ (hgo (by rw [hkd,c1]) c2))⟩
   ·have hno':=hno (by rw [hkd];exact fun h=>c1 h.1)
    simp [sc46,rs46,mBk,Qc,Qi,hwr,orcAt,h1,hr,Qg,c1]
    refine ⟨k141,?_⟩
    have:=any144 p e e.al hl kB bx Y
    simp only [mAl,mBk,Qc,Qi] at this
    refine this _ ?_
    simp [rs46]
    exact rdK _ rfl (Idle.bool _) (hK _ (by rw [hno']))
  ·have hno':=hno (by simp [kindOf,hf])
   simp [sc46,rs46,mBk,Qc,Qi,hwr,orcAt,h1,hr]
   refine ⟨k141,?_⟩
   have:=any144 p e e.al hl kB bx Y
   simp only [mAl,mBk,Qc,Qi] at this
   refine this _ ?_
   simp [rs46]
   exact rdK _ rfl (Idle.bool _) (hK _ (by rw [hno']))
open Go Go.Abs
def eqSp (x a:Sp):Bool:=x.1==a.1&&x.2==a.2
theorem any_eqSp (x:Sp) (L:List Sp):L.any (eqSp x)=decide (x∈L):=by
 rw [Bool.eq_iff_iff]
 simp only [List.any_eq_true,decide_eq_true_eq,eqSp,Bool.and_eq_true,beq_iff_eq]
 constructor
 ·rintro ⟨a,h,h1,h2⟩
  have:x=a:=Prod.ext h1 h2
  rw [this];exact h
 ·exact fun h=>⟨x,h,rfl,rfl⟩
theorem index190 (x:Sp) (L:List Sp) (hl:L.length<=8796093022208):Pure Tryz.prog gl0 129 [.sl .ro (L.map Qd),.agg (Qd x)] (I (idxK (eqSp x) L 0)):=by
 obtain ⟨T,hT⟩:∃ T,idxK (eqSp x) L 0=T:=⟨_,rfl⟩
 rw [hT]
 refine Qn code129 (fun _ _ _=>.junk) (by simp) ?_
 simp [sc129,Qd]
 refine Ql w129_0 (InvX 8 L.length ⟨[[I x.1,I x.2]],[],fun _=>.gone,0⟩ fun i=>idxK (eqSp x) (L.drop i) i=T) (fun f _=>L.length - (numOf (f 8)).toNat) ?_ ?_
 ·exact ⟨0,by simp,by omega,by simpa using hT,rfl⟩
 ·rintro f m ⟨i,h8,hi,hx,rfl⟩
  rcases Nat.lt_or_ge i L.length with hlt | hge
  ·obtain ⟨a,ha⟩:=getS hlt
   have hrow:Qf (L.map Qd) i=Qd a:=Zm ha
   have hrow':Qf (L.map fun x=>[I x.1,I x.2]) i=Qd a:=hrow
   have hilt:(i:Int) < (L.length:Int):=by omega
   have hw:=wrS i (by omega)
   rw [Qz ha,idxK] at hx
   cases hb:eqSp x a with
   | false =>
    rw [hb] at hx
    simp at hx
    simp only [eqSp] at hb
    simp [h8,hlt,hilt,hrow,hrow',w129_0,rs129,hw,Qd,hb]
    refine ⟨ag ?_,⟨i+1,by simp,by omega,hx,rfl⟩,by omega⟩
    repeat (first | exact Qa _ _ | refine Qb _ rfl ?_)
   | true =>
    rw [hb] at hx
    simp at hx
    simp only [eqSp] at hb
    subst hx
    simp [h8,hlt,hilt,hrow,hrow',w129_0,rs129,Qd,hb]
  ·have hin:¬ (i:Int) < (L.length:Int):=by omega
   rw [List.drop_eq_nil_of_le hge,idxK] at hx
   simp [h8,hin,Nat.not_lt.2 hge,w129_0,rs129,hx]
theorem contains145 (x:Sp) (L:List Sp) (hl:L.length<=8796093022208):Pure Tryz.prog gl0 98 [.sl .ro (L.map Qd),.agg (Qd x)] (.bool (decide (x∈L))):=by
 have k:=index190 x L hl
 have hiff:=idxK_any (eqSp x) L 0
 refine Qn code98 (fun _ _ _=>I (idxK (eqSp x) L 0)) (by simp) ?_
 have:decide (0<=idxK (eqSp x) L 0)=decide (x∈L):=by
  rw [<- any_eqSp,Bool.eq_iff_iff,decide_eq_true_eq];exact hiff
 simp [sc98,rs98,this,Qd]
 simpa [Qd] using k
theorem look_K (p:Pl) (id:Int):∃ r,Qx [id] (mK p.bks) 0=r/\((∃ n x,fndK id p.bks=some x/\r=some (n,.agg (Xm x)))\/(fndK id p.bks=none/\r=none)):=by
 obtain ⟨g1,g2⟩:=kf_K id p.bks 0
 cases hf:fndK id p.bks with
 | none=>exact ⟨_,rfl,.inr ⟨rfl,g1 hf⟩⟩
 | some x =>
  obtain ⟨n,g⟩:=g2 x hf
  exact ⟨_,rfl,.inl ⟨n,x,rfl,g⟩⟩
def fulB (p:Pl) (e:En):Bool:=if e.bo=0 then true else match fndK e.bo p.bks with
 | none=>false
 | some x=>if x.re=0 then decide (x.it=e.it) else decide ((x.re,x.it)∈e.al)
theorem fulfils96 (p:Pl) (e:En) (hl:e.al.length<=8796093022208) (kI:List (List Int×AV)) (bx:List (List AV)) (Y:YT) (K:AV->AM->Prop) (hK:∀ b,fulB p e=b->K (.bool b) (mBk p kI (mK p.bks) bx)) :
  EffY Tryz.prog gl0 Y 47 [.ptr 3 0,.agg (Qi e)] (mBk p kI (mK p.bks) bx) K:=by
 obtain ⟨r,hr,hrr⟩:=look_K p e.bo
 by_cases h0:e.bo=0
 ·refine Un (Zb code47 (fun _ _ _=>.junk) (by simp) ?_)
  simp [sc47,rs47,mBk,Qc,Qi,h0]
  exact rdK _ rfl (Idle.bool _) (hK _ (by simp [fulB,h0]))
 ·rcases hrr with ⟨n,x,hf,rfl⟩ | ⟨hf,rfl⟩
  ·have k:=contains145 (x.re,x.it) e.al hl
   refine Un (Zb code47 (fun _ _ _=>.bool (decide ((x.re,x.it)∈e.al))) (by simp) ?_)
   simp [sc47,rs47,mBk,Qc,Qi,h0]
   refine Kj ?_
   by_cases c1:x.re=0
   ·simp [hr,Xm,c1]
    exact rdK _ rfl (Idle.bool _) (hK _ (by simp only [fulB,h0,hf,c1];rw [Bool.eq_iff_iff];simp))
   ·simp [hr,Xm,c1]
    refine ⟨by simpa [Qd] using k,rdK _ rfl (Idle.bool _) (hK _ (by simp [fulB,h0,hf,c1]))⟩
  ·refine Un (Zb code47 (fun _ _ _=>.junk) (by simp) ?_)
   simp [sc47,rs47,mBk,Qc,Qi,h0]
   refine Kj ?_
   simp [hr]
   exact rdK _ rfl (Idle.bool _) (hK _ (by simp [fulB,h0,hf]))
def entB (p:Pl) (seen:List Int) (e:En):Bool:=wi e.id 1 1000000&&(!decide (e.id∈seen)&&(fitsB p e&&(altsB p e&&fulB p e)))
def allE (p:Pl):List Int->List En->Bool
 | _,[]=>true
 | seen,e::r=>entB p seen e&&allE p (seen++[e.id]) r
def entsB (p:Pl):Bool:=decide (p.ens.length<=4000)&&allE p [] p.ens
def mS (l:List Int):List (List Int×AV):=l.map fun n=>([n],.bool true)
theorem kf_S (k:Int):∀ (l:List Int) (i:Nat),(k∈l->∃ n,Qx [k] (mS l) i=some (n,.bool true))/\(¬ k∈l->Qx [k] (mS l) i=none)
 | [],i=>⟨fun h=>(by cases h),fun _=>rfl⟩
 | x::r,i=>by
  have ih:=kf_S k r (i+1)
  simp only [mS,List.map_cons,Qx] at ih |-
  by_cases h:x=k
  ·subst h;simp
  ·have h':¬ k=x:=fun e=>h e.symm
   rw [if_neg (by intro e;cases e;exact h rfl)]
   simp only [List.mem_cons,h',false_or]
   exact ih
def orcEn:Nat->FuncId->List AV->AV:=fun _ f l=>if f=38 then (match l with | [.int _ n,.int _ lo,.int _ up]=>.bool (wi n lo up) | _=>.junk) else .gd false .junk
def InvEn8 (p:Pl) (f:Nat->AV) (m:AM):Prop:=∃ (i:Nat) (bx:List (List AV)),f 20=I i/\i<=p.ens.length/\allE p ((p.ens.take i).map fun e=>e.id) (p.ens.drop i)=allE p [] p.ens/\f 3=.mp 4/\m=mBk p (mI p.its) (mK p.bks) ([.mobj 0 (mS ((p.ens.take i).map fun e=>e.id))]::bx)
theorem enRow_row {p:Pl} {i:Nat} {e:En} (h:p.ens[i]? = some e):Qf (p.ens.map Qi) i=Qi e:=Qv (by simp [h])
theorem entries47 (p:Pl) (hl:p.ens.length<=1000000000) (hal:∀ e∈p.ens,e.al.length<=8796093022208) (hits:allI p.its=true) (hrg:1<=p.rg/\p.rg<=8) (hln:1<=p.ln/\p.ln<=100000000) (Y:YT) (K:AV->AM->Prop) (hK:∀ b,entsB p=b->K (.bool b) (mBk p (mI p.its) (mK p.bks) [])) :
  EffY Tryz.prog gl0 Y 17 [.ptr 3 0] (mBk p (mI p.its) (mK p.bks) []) K:=by
 refine Un (Zb code17 orcEn (by simp) ?_)
 by_cases h0:p.ens.length<=4000
 ·have h0':¬ (4000:Int) < (p.ens.length:Int):=by omega
  simp [sc17,mBk,Qc,h0,h0']
  refine Ql w17_0 (InvEn8 p) (fun f _=>p.ens.length - (numOf (f 20)).toNat) ?_ ?_
  ·exact ⟨0,[],by simp,by omega,by simp,by simp,by simp [mBk,Qc,mS]⟩
  ·rintro f m ⟨i,bx,h20,hi,ha,h3,rfl⟩
   rcases Nat.lt_or_ge i p.ens.length with hlt | hge
   ·obtain ⟨e,he⟩:=getS hlt
    have hrow:=enRow_row he
    have hilt:(i:Int) < (p.ens.length:Int):=by omega
    have hw:=wrS i (by omega)
    have htk:(p.ens.take (i+1)).map (fun e=>e.id)=(p.ens.take i).map (fun e=>e.id)++[e.id]:=by simp [List.take_add_one,he]
    rw [Qz he,allE,<- htk] at ha
    obtain ⟨S,hS⟩:∃ S,(p.ens.take i).map (fun e=>e.id)=S:=⟨_,rfl⟩
    rw [hS] at ha htk |-
    have h1:=Vt e.id 1 1000000
    have hae:=hal e (List.mem_of_getElem? he)
    obtain ⟨s1,s2⟩:=kf_S e.id S 0
    have bad:entB p S e=false->entsB p=false:=fun h=>by rw [h] at ha;simp [entsB,<- ha]
    cases e1:wi e.id 1 1000000 with
    | false =>
     rw [e1] at h1
     simp [h20,h3,hlt,hilt,hrow,Qi,mBk,Qc,orcEn,e1,w17_0,rs17]
     exact ⟨h1,rdK _ rfl (Idle.bool _) (hK _ (bad (by simp [entB,e1])))⟩
    | true =>
     rw [e1] at h1
     by_cases e2:e.id∈S
     ·obtain ⟨n,s1⟩:=s1 e2
      simp [h20,h3,hlt,hilt,hrow,Qi,mBk,Qc,orcEn,e1,s1,w17_0,rs17]
      exact ⟨h1,rdK _ rfl (Idle.bool _) (hK _ (bad (by simp [entB,e1,e2])))⟩
     ·have s2:=s2 e2
      simp [h20,h3,hlt,hilt,hrow,Qi,mBk,Qc,orcEn,e1,s2,w17_0]
      refine ⟨h1,fits94 p e (mK p.bks) ([.mobj 0 (mS S)]::(bx++[Qi e])) hits hln Y _ fun b hb=>?_⟩
      cases b with
      | false =>
       simp [rs17]
       exact rdK _ rfl (Idle.bool _) (hK _ (bad (by simp [entB,e1,e2,hb])))
      | true =>
       simp [mBk,Qc,Qi,orcEn]
       refine alts95 p e hae hrg (mK p.bks) ([.mobj 0 (mS S)]::(bx++[Qi e])) Y _ fun b hb2=>?_
       cases b with
       | false =>
        simp [rs17]
        exact rdK _ rfl (Idle.bool _) (hK _ (bad (by simp [entB,e1,e2,hb,hb2])))
       | true =>
        simp [mBk,Qc,Qi,orcEn]
        refine fulfils96 p e hae (mI p.its) ([.mobj 0 (mS S)]::(bx++[Qi e])) Y _ fun b hb3=>?_
        cases b with
        | false =>
         simp [rs17]
         exact rdK _ rfl (Idle.bool _) (hK _ (bad (by simp [entB,e1,e2,hb,hb2,hb3])))
        | true =>
         have hok:entB p S e=true:=by simp [entB,e1,e2,hb,hb2,hb3]
         rw [hok,Bool.true_and] at ha
         simp [h20,h3,mBk,Qc,Qi,orcEn,s2,hw,w17_0]
         refine ⟨ag ?_,⟨i+1,bx++[Qi e],by simp,by omega,ha,by simp [h3],?_⟩,by omega⟩
         ·repeat (first | exact Qa _ _ | refine Qb _ rfl ?_)
         ·rw [htk];simp [mBk,Qc,Qi,mS]
   ·have hin:¬ (i:Int) < (p.ens.length:Int):=by omega
    rw [List.drop_eq_nil_of_le hge] at ha
    have ha:allE p [] p.ens=true:=by rw [<- ha];rfl
    simp [h20,hin,Nat.not_lt.2 hge,w17_0,rs17,mBk,Qc]
    exact rdK _ rfl (Idle.bool _) (hK _ (by simp [entsB,h0,ha]))
 ·have h0':(4000:Int) < (p.ens.length:Int):=by omega
  simp [sc17,rs17,mBk,Qc,h0,h0']
  exact rdK [] (by simp) (Idle.bool _) (hK _ (by simp [entsB,h0]))
open Go Go.Abs
def pvB (p:Pl):Bool:=Yf p&&(Jm p&&(booksB p&&(entsB p&&Qaq p)))
def orcPv (p:Pl):Nat->FuncId->List AV->AV:=fun _ f _=>if f=14 then .bool (Yf p) else if f=18 then .bool (Qaq p) else .gd false .junk
def PlS (p:Pl):Prop:=p.sh.length<=1000000000/\p.its.length<=1000000000/\p.ens.length<=1000000000/\p.bks.length<=8796093022208/\p.cls.length<=1000000000/\∀ e∈p.ens,e.al.length<=8796093022208
def PlSw (p:Pl):Prop:=p.sh.length<=8796093022208/\p.its.length<=1000000000/\p.ens.length<=1000000000/\p.bks.length<=8796093022208/\p.cls.length<=1000000000/\∀ e∈p.ens,e.al.length<=8796093022208
theorem PlS.w {p:Pl} (h:PlS p):PlSw p:=⟨Nat.le_trans h.1 (by decide),h.2⟩
theorem pvalid_pure (p:Pl) (h:PlSw p):Pure Tryz.prog gl0 5 [.agg (Qc p)] (.bool (pvB p)):=by
 obtain ⟨l1,l2,l3,l4,l5,l6⟩:=h
 have k44:=sound44 p l1
 have k48:=clauses48 p l5
 refine Qn code5 (orcPv p) (by simp) ?_
 cases e1:Yf p with
 | false =>
  rw [e1] at k44
  simp [sc5,rs5,Qc,orcPv,pvB,e1]
  simpa [Qc] using k44
 | true =>
  rw [e1] at k44
  have hs:(1<=p.rg/\p.rg<=8)/\(1<=p.ln/\p.ln<=100000000):=by
   simp [Yf,wi] at e1
   omega
  simp [sc5,Qc,orcPv,pvB,e1]
  refine ⟨by simpa [Qc] using k44,?_⟩
  refine items45 p l2 Y0 _ (fun e2=>?_) (fun e2 kI=>?_)
  ·simp [mBk,Qc,orcPv,e2]
   refine books46 p l4 hs.1 Y0 _ (fun e3=>?_) (fun e3 kB=>?_)
   ·simp [mBk,Qc,orcPv,e3]
    have hits:allI p.its=true:=by
     simp [Jm] at e2;exact e2.2.2.1
    refine entries47 p l3 l6 hits hs.1 hs.2 Y0 _ fun b e4=>?_
    cases b with
    | false=>simp [rs5,mBk,Qc,orcPv,e4]
    | true =>
     simp [rs5,mBk,Qc,orcPv,e4]
     simpa [Qc] using k48
   ·simp [rs5,mBk,Qc,orcPv,e3]
  ·simp [rs5,mBk,Qc,orcPv,e2]
end Go.Proofs.YtjmgelbfndnpjaaGreatDoor
