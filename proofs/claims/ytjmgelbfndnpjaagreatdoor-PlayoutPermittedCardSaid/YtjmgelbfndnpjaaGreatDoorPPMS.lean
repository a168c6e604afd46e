import Derived.Test.YtjmgelbfndnpjaaGreatDoorPPMR
import Derived.Test.YtjmgelbfndnpjaaGreatDoorPPTcA
set_option linter.unusedVariables false
set_option linter.unusedSimpArgs false
set_option maxRecDepth 100000
set_option maxHeartbeats 64000000
namespace Go.Proofs.YtjmgelbfndnpjaaGreatDoor
open Go Go.Abs
def Yg (n:Int):List AV:=[I n]
def InvC1215 (LL:List (Rt×List Sp)) (f:Nat->AV) (m:AM):Prop:=∃ (i:Nat) (bx:List (List AV)),f 11=I i/\i<=LL.length/\f 3=I (((LL.take i).map fun x=>x.2).flatten.length:Nat)/\m=⟨bx,[],fun _=>.gone,0⟩
def InvC2215 (LL:List (Rt×List Sp)) (f:Nat->AV) (m:AM):Prop:=∃ (i:Nat) (rt:Rt) (ls:List Nat) (bx:List (List AV)),f 27=I i/\i<=LL.length/\f 6=.sl rt (((LL.take i).map fun x=>x.2).flatten.map Qd) /\
 (((LL.take i).map fun x=>x.2).flatten=[]/\rt=.nil/\i=0\/∃ k,rt=.own k 2/\ls[k]? = some ((LL.take i).map fun x=>x.2).flatten.length)/\m=⟨bx,ls,fun _=>.gone,0⟩
theorem catR215 (LL:List (Rt×List Sp)) {i:Nat} {x:Rt×List Sp} (h:LL[i]? = some x):((LL.take (i+1)).map fun x=>x.2).flatten=((LL.take i).map fun x=>x.2).flatten++x.2:=by
 simp [List.take_add_one,h]
theorem catL215 (LL:List (Rt×List Sp)) (i:Nat):((LL.take i).map fun x=>x.2).flatten.length<=(LL.map fun x=>x.2).flatten.length:=by
 have h:(LL.map fun x=>x.2)=((LL.take i).map fun x=>x.2)++(LL.drop i).map fun x=>x.2:=by rw [<- List.map_append,List.take_append_drop]
 rw [h,List.flatten_append,List.length_append];omega
def orcC215:Nat->FuncId->List AV->AV:=fun _ f _=>if f=177 then .gd false .junk else .junk
theorem concat215 (LL:List (Rt×List Sp)) (hne:LL≠[]) (hl:LL.length<=1000000) (hf:(LL.map fun x=>x.2).flatten.length<=1000000000):Pure Tryz.prog gl0 160 [.sl .full (LL.map fun x=>[.sl x.1 (x.2.map Qd)])] (.sl .ro ((LL.map fun x=>x.2).flatten.map Qd)):=by
 have hpos:=List.length_pos_iff.2 hne
 have htl:LL.take LL.length=LL:=List.take_length
 refine Qn code160 orcC215 (by simp) ?_
 simp [sc160]
 refine Ql w160_0 (InvC1215 LL) (fun f _=>LL.length - (numOf (f 11)).toNat) ?_ ?_
 ·exact ⟨0,[],by simp,by omega,by simp,rfl⟩
 ·rintro f m ⟨i,bx,h11,hi,h3,rfl⟩
  rcases Nat.lt_or_ge i LL.length with hlt | hge
  ·obtain ⟨x,hx⟩:=getS hlt
   have hrow:Qf (LL.map fun x=>[.sl x.1 (x.2.map Qd)]) i=[.sl x.1 (x.2.map Qd)]:=Qv (by simp [hx])
   have hilt:(i:Int) < (LL.length:Int):=by omega
   have hw:=wrS i (by omega)
   have hc:=catR215 LL hx
   have hcl:=catL215 LL (i+1)
   obtain ⟨n,hn⟩:∃ n,((LL.take i).map fun x=>x.2).flatten.length=n:=⟨_,rfl⟩
   have hcn:((LL.take (i+1)).map fun x=>x.2).flatten.length=n+x.2.length:=by rw [hc,List.length_append,hn]
   rw [hn] at h3
   have hw2:IntKind.i64.wrap ((n:Int)+(x.2.length:Int))=((n+x.2.length:Nat):Int):=by rw [Qe]<;>omega
   have hnn:¬ (n:Int)+(x.2.length:Int) < 0:=by omega
   simp [h11,h3,hlt,hilt,hrow,w160_0,hw,hw2,hnn]
   refine ⟨ag ?_,⟨i+1,_,by simp,by omega,by rw [hcn];simp [hw2],rfl⟩,by omega⟩
   repeat (first | exact Qa _ _ | refine Qb _ rfl ?_)
  ·have hin:¬ (i:Int) < (LL.length:Int):=by omega
   obtain rfl:i=LL.length:=by omega
   rw [htl] at h3
   obtain ⟨n,hn⟩:∃ n,(LL.map fun x=>x.2).flatten.length=n:=⟨_,rfl⟩
   rw [hn] at h3 hf
   have fin:∀ (rt:Rt) (ls:List Nat),(rt=.nil\/∃ k,rt=.own k 2/\ls[k]? = some 0)->∀ (E:List (Nat×AV)),True:=fun _ _ _ _=>trivial
   simp [h11,h3,hin,Nat.not_lt.2 hge,w160_0,orcC215]
   refine grow242 hf (fun h0=>?_) (fun h0=>?_)
   all_goals
    try simp [h11,h3,w160_0]
    refine Ql w160_1 (InvC2215 LL) (fun f _=>LL.length - (numOf (f 27)).toNat) ?_ ?_
   ·exact ⟨0,.nil,[],bx,by simp,by omega,by simp,.inl ⟨by simp,rfl,rfl⟩,rfl⟩
   rotate_left
   ·exact ⟨0,.own 0 2,[0],bx,by simp,by omega,by simp,.inr ⟨0,rfl,by simp⟩,rfl⟩
   all_goals
    clear h0
    rintro f m ⟨i,rt,ls,bx,h27,hi,h6,hrt,rfl⟩
    rcases Nat.lt_or_ge i LL.length with hlt | hge
    ·obtain ⟨x,hx⟩:=getS hlt
     have hrow:Qf (LL.map fun x=>[.sl x.1 (x.2.map Qd)]) i=[.sl x.1 (x.2.map Qd)]:=Qv (by simp [hx])
     have hilt:(i:Int) < (LL.length:Int):=by omega
     have hw:=wrS i (by omega)
     have hc:=catR215 LL hx
     have hcl:=catL215 LL (i+1)
     obtain ⟨F,hF⟩:∃ F,((LL.take i).map fun x=>x.2).flatten=F:=⟨_,rfl⟩
     rw [hF] at h6 hrt hc
     rw [hc,List.length_append,hn] at hcl
     rcases hrt with ⟨rfl,rfl,rfl⟩ | ⟨k,rfl,hk⟩
     ·have hw1:IntKind.i64.wrap 1=1:=by decide
      simp [h27,h6,hlt,hilt,hrow,w160_1,hw,hw1,orcC215]
      refine ⟨⟨?_,by omega⟩,ag ?_,⟨1,.own ls.length 2,_,bx,by simp,by omega,by rw [hc];simp,.inr ⟨ls.length,rfl,by rw [hc];simp⟩,rfl⟩,by omega⟩
      ·rintro a b row _ rfl;rfl
      ·repeat (first | exact Qa _ _ | refine Qb _ rfl ?_)
     ·have hkl:=(List.getElem?_eq_some_iff.1 hk).1
      simp [h27,h6,hlt,hilt,hrow,w160_1,hw,hk,orcC215]
      refine ⟨⟨?_,by omega⟩,ag ?_,⟨i+1,.own k 2,_,bx,by simp,by omega,by rw [hc];simp,.inr ⟨k,rfl,by rw [hc];simp [hkl]⟩,rfl⟩,by omega⟩
      ·rintro row (⟨a,b,_,rfl⟩ | ⟨a,b,_,rfl⟩)<;>rfl
      ·repeat (first | exact Qa _ _ | refine Qb _ rfl ?_)
    ·have hin:¬ (i:Int) < (LL.length:Int):=by omega
     obtain rfl:i=LL.length:=by omega
     rw [htl] at h6 hrt
     rcases hrt with ⟨_,_,h0⟩ | ⟨k,rfl,hk⟩
     ·omega
     ·simp [h27,h6,hin,Nat.not_lt.2 hge,w160_1,rs160]
open Go Go.Abs
def InvC186 (LL:List (Rt×List Int)) (f:Nat->AV) (m:AM):Prop:=∃ (i:Nat) (bx:List (List AV)),f 11=I i/\i<=LL.length/\f 3=I (((LL.take i).map fun x=>x.2).flatten.length:Nat)/\m=⟨bx,[],fun _=>.gone,0⟩
def InvC286 (LL:List (Rt×List Int)) (f:Nat->AV) (m:AM):Prop:=∃ (i:Nat) (rt:Rt) (ls:List Nat) (bx:List (List AV)),f 27=I i/\i<=LL.length/\f 6=.sl rt (((LL.take i).map fun x=>x.2).flatten.map Yg) /\
 (((LL.take i).map fun x=>x.2).flatten=[]/\rt=.nil/\i=0\/∃ k,rt=.own k 1/\ls[k]? = some ((LL.take i).map fun x=>x.2).flatten.length)/\m=⟨bx,ls,fun _=>.gone,0⟩
theorem catR86 (LL:List (Rt×List Int)) {i:Nat} {x:Rt×List Int} (h:LL[i]? = some x):((LL.take (i+1)).map fun x=>x.2).flatten=((LL.take i).map fun x=>x.2).flatten++x.2:=by
 simp [List.take_add_one,h]
theorem catL86 (LL:List (Rt×List Int)) (i:Nat):((LL.take i).map fun x=>x.2).flatten.length<=(LL.map fun x=>x.2).flatten.length:=by
 have h:(LL.map fun x=>x.2)=((LL.take i).map fun x=>x.2)++(LL.drop i).map fun x=>x.2:=by rw [<- List.map_append,List.take_append_drop]
 rw [h,List.flatten_append,List.length_append];omega
def orcC86:Nat->FuncId->List AV->AV:=fun _ f _=>if f=108 then .gd false .junk else .junk
theorem concat86 (LL:List (Rt×List Int)) (hne:LL≠[]) (hl:LL.length<=1000000) (hf:(LL.map fun x=>x.2).flatten.length<=1000000000):Pure Tryz.prog gl0 55 [.sl .full (LL.map fun x=>[.sl x.1 (x.2.map Yg)])] (.sl .ro ((LL.map fun x=>x.2).flatten.map Yg)):=by
 have hpos:=List.length_pos_iff.2 hne
 have htl:LL.take LL.length=LL:=List.take_length
 refine Qn code55 orcC86 (by simp) ?_
 simp [sc55]
 refine Ql w55_0 (InvC186 LL) (fun f _=>LL.length - (numOf (f 11)).toNat) ?_ ?_
 ·exact ⟨0,[],by simp,by omega,by simp,rfl⟩
 ·rintro f m ⟨i,bx,h11,hi,h3,rfl⟩
  rcases Nat.lt_or_ge i LL.length with hlt | hge
  ·obtain ⟨x,hx⟩:=getS hlt
   have hrow:Qf (LL.map fun x=>[.sl x.1 (x.2.map Yg)]) i=[.sl x.1 (x.2.map Yg)]:=Qv (by simp [hx])
   have hilt:(i:Int) < (LL.length:Int):=by omega
   have hw:=wrS i (by omega)
   have hc:=catR86 LL hx
   have hcl:=catL86 LL (i+1)
   obtain ⟨n,hn⟩:∃ n,((LL.take i).map fun x=>x.2).flatten.length=n:=⟨_,rfl⟩
   have hcn:((LL.take (i+1)).map fun x=>x.2).flatten.length=n+x.2.length:=by rw [hc,List.length_append,hn]
   rw [hn] at h3
   have hw2:IntKind.i64.wrap ((n:Int)+(x.2.length:Int))=((n+x.2.length:Nat):Int):=by rw [Qe]<;>omega
   have hnn:¬ (n:Int)+(x.2.length:Int) < 0:=by omega
   simp [h11,h3,hlt,hilt,hrow,w55_0,hw,hw2,hnn]
   refine ⟨ag ?_,⟨i+1,_,by simp,by omega,by rw [hcn];simp [hw2],rfl⟩,by omega⟩
   repeat (first | exact Qa _ _ | refine Qb _ rfl ?_)
  ·have hin:¬ (i:Int) < (LL.length:Int):=by omega
   obtain rfl:i=LL.length:=by omega
   rw [htl] at h3
   obtain ⟨n,hn⟩:∃ n,(LL.map fun x=>x.2).flatten.length=n:=⟨_,rfl⟩
   rw [hn] at h3 hf
   have fin:∀ (rt:Rt) (ls:List Nat),(rt=.nil\/∃ k,rt=.own k 1/\ls[k]? = some 0)->∀ (E:List (Nat×AV)),True:=fun _ _ _ _=>trivial
   simp [h11,h3,hin,Nat.not_lt.2 hge,w55_0,orcC86]
   refine grow138 hf (fun h0=>?_) (fun h0=>?_)
   all_goals
    try simp [h11,h3,w55_0]
    refine Ql w55_1 (InvC286 LL) (fun f _=>LL.length - (numOf (f 27)).toNat) ?_ ?_
   ·exact ⟨0,.nil,[],bx,by simp,by omega,by simp,.inl ⟨by simp,rfl,rfl⟩,rfl⟩
   rotate_left
   ·exact ⟨0,.own 0 1,[0],bx,by simp,by omega,by simp,.inr ⟨0,rfl,by simp⟩,rfl⟩
   all_goals
    clear h0
    rintro f m ⟨i,rt,ls,bx,h27,hi,h6,hrt,rfl⟩
    rcases Nat.lt_or_ge i LL.length with hlt | hge
    ·obtain ⟨x,hx⟩:=getS hlt
     have hrow:Qf (LL.map fun x=>[.sl x.1 (x.2.map Yg)]) i=[.sl x.1 (x.2.map Yg)]:=Qv (by simp [hx])
     have hilt:(i:Int) < (LL.length:Int):=by omega
     have hw:=wrS i (by omega)
     have hc:=catR86 LL hx
     have hcl:=catL86 LL (i+1)
     obtain ⟨F,hF⟩:∃ F,((LL.take i).map fun x=>x.2).flatten=F:=⟨_,rfl⟩
     rw [hF] at h6 hrt hc
     rw [hc,List.length_append,hn] at hcl
     rcases hrt with ⟨rfl,rfl,rfl⟩ | ⟨k,rfl,hk⟩
     ·have hw1:IntKind.i64.wrap 1=1:=by decide
      simp [h27,h6,hlt,hilt,hrow,w55_1,hw,hw1,orcC86]
      refine ⟨⟨?_,by omega⟩,ag ?_,⟨1,.own ls.length 1,_,bx,by simp,by omega,by rw [hc];simp,.inr ⟨ls.length,rfl,by rw [hc];simp⟩,rfl⟩,by omega⟩
      ·first | (rintro a _;rfl) | (rintro row a _ rfl;rfl)
      ·repeat (first | exact Qa _ _ | refine Qb _ rfl ?_)
     ·have hkl:=(List.getElem?_eq_some_iff.1 hk).1
      simp [h27,h6,hlt,hilt,hrow,w55_1,hw,hk,orcC86]
      refine ⟨⟨?_,by omega⟩,ag ?_,⟨i+1,.own k 1,_,bx,by simp,by omega,by rw [hc];simp,.inr ⟨k,rfl,by rw [hc];simp [hkl]⟩,rfl⟩,by omega⟩
      ·rintro row (⟨a,_,rfl⟩ | ⟨a,_,rfl⟩)<;>rfl
      ·repeat (first | exact Qa _ _ | refine Qb _ rfl ?_)
    ·have hin:¬ (i:Int) < (LL.length:Int):=by omega
     obtain rfl:i=LL.length:=by omega
     rw [htl] at h6 hrt
     rcases hrt with ⟨_,_,h0⟩ | ⟨k,rfl,hk⟩
     ·omega
     ·simp [h27,h6,hin,Nat.not_lt.2 hge,w55_1,rs55]
open Go Go.Abs
theorem union188 (A B:List Sp) (h:A.length+B.length<=100000000):Pure Tryz.prog gl0 134 [.sl .ro (A.map Qd),.sl .ro (B.map Qd)] (.sl .ro ((Xb (A++B)).map Qd)):=by
 have k215:=concat215 [(.ro,A),(.ro,B)] (by simp) (by simp) (by simp;omega)
 have k116:=Yd (A++B) (by simp;omega)
 refine Qn code134 (fun _ f _=>if f=160 then .sl .ro ((A++B).map Qd) else .sl .ro ((Xb (A++B)).map Qd)) (by simp) ?_
 simp at k215 k116
 simp [sc134,rs134]
 exact ⟨k215,k116⟩
theorem size187 (s:Sp) (h1:0<=s.1) (h2:s.1<=s.2) (h3:s.2<=9223372036854775807):Pure Tryz.prog gl0 133 [.agg (Qd s)] (.int .u64 (s.2 - s.1)):=by
 have w1:IntKind.u64.wrap s.1=s.1:=by simp [IntKind.wrap,IntKind.bits,IntKind.signed];omega
 have w2:IntKind.u64.wrap s.2=s.2:=by simp [IntKind.wrap,IntKind.bits,IntKind.signed];omega
 have w3:IntKind.u64.wrap (s.2 - s.1)=s.2 - s.1:=by simp [IntKind.wrap,IntKind.bits,IntKind.signed];omega
 refine Qn code133 (fun _ _ _=>.junk) (by simp) ?_
 simp [sc133,rs133,Qd,w1,w2,w3]
def Jj:Option Int->AV
 | some s=>.tup [I s,.bool true]
 | none=>.tup [I 0,.bool false]
def orcEa (L:List Sp):Nat->FuncId->List AV->AV:=fun _ f l=>if f=117 then .sl .ro (L.map Qd) else if f=132 then (match l with | [.agg [.int _ a,.int _ b]]=>.bool (decide (b<=a)) | _=>.junk) else
 (match l with | [.agg [.int _ a,.int _ b]]=>.int .u64 (b - a) | _=>.junk)
def InvEa (a n:Int) (L:List Sp) (T:Option Int) (f:Nat->AV) (m:AM):Prop:=∃ (i:Nat) (bx:List (List AV)),f 17=I i/\i<=L.length/\earL a n (L.drop i)=T/\m=⟨bx,[],fun _=>.gone,0⟩
theorem earliest136 (l:List Sp) (a n:Int) (hl:l.length<=100000000) (ha:0<=a) (hn:1<=n/\n<=1000000) (hb:∀ s∈l,s.1<=1000000000000/\s.2<=1000000000000):Pure Tryz.prog gl0 106 [.sl .ro (l.map Qd),I a,I n] (Jj (earS l a n)):=by
 have k116:=Yd l hl
 obtain ⟨T,hT⟩:∃ T,earS l a n=T:=⟨_,rfl⟩
 rw [hT]
 rw [earS,if_neg (by omega)] at hT
 have hbL:=normS_bd (P:=fun x=>x<=1000000000000) (l:=l) hb
 have hLl:=Vs l
 generalize Xb l=L at k116 hT hbL hLl
 have hn0:¬ n<=0:=by omega
 refine Qn code106 (orcEa L) (by simp) ?_
 simp [sc106,orcEa,hn0]
 refine ⟨k116,?_⟩
 refine Ql w106_0 (InvEa a n L T) (fun f _=>L.length - (numOf (f 17)).toNat) ?_ ?_
 ·exact ⟨0,[],by simp,by omega,by simpa using hT,rfl⟩
 ·rintro f m ⟨i,bx,h17,hi,hx,rfl⟩
  rcases Nat.lt_or_ge i L.length with hlt | hge
  ·obtain ⟨s,hs⟩:=getS hlt
   have hrow:Qf (L.map Qd) i=Qd s:=Zm hs
   have hilt:(i:Int) < (L.length:Int):=by omega
   have hw:=wrS i (by omega)
   rw [Qz hs,earL] at hx
   obtain ⟨q,hq⟩:∃ q,max s.1 a=q:=⟨_,rfl⟩
   have hqm:(if s.1 < a then a else s.1)=q:=by omega
   have k163:Abs.Pure Tryz.prog gl0 132 [.agg (Qd (q,s.2))] (.bool (decide (s.2<=q))):=empty_pure (q,s.2)
   rw [hq] at hx
   have hu:IntKind.u64.wrap n=n:=by simp [IntKind.wrap,IntKind.bits,IntKind.signed];omega
   by_cases c1:s.2<=q
   ·rw [if_neg (by omega)] at hx
    rw [decide_eq_true c1] at k163
    simp [h17,hlt,hilt,hrow,Qd,hqm,c1,w106_0,hw,orcEa]
    refine ⟨by simpa [Qd] using k163,ag ?_,⟨i+1,_,by simp,by omega,hx,rfl⟩,by omega⟩
    repeat (first | exact Qa _ _ | refine Qb _ rfl ?_)
   ·have k187:=size187 (q,s.2) (by simp only;omega) (by simp only;omega) (by
     have:=hbL s (List.mem_of_getElem? hs);simp only;omega)
    rw [decide_eq_false c1] at k163
    by_cases c2:n<=s.2 - q
    ·rw [if_pos (by omega)] at hx
     subst hx
     simp [h17,hlt,hilt,hrow,Qd,hqm,c1,c2,hu,w106_0,rs106,orcEa,Jj]
     exact ⟨by simpa [Qd] using k163,by simpa [Qd] using k187⟩
    ·rw [if_neg (by omega)] at hx
     simp [h17,hlt,hilt,hrow,Qd,hqm,c1,c2,hu,w106_0,hw,orcEa]
     refine ⟨by simpa [Qd] using k163,by simpa [Qd] using k187,ag ?_,⟨i+1,_,by simp,by omega,hx,rfl⟩,by omega⟩
     repeat (first | exact Qa _ _ | refine Qb _ rfl ?_)
  ·have hin:¬ (i:Int) < (L.length:Int):=by omega
   rw [List.drop_eq_nil_of_le hge] at hx
   have hx:none=T:=hx
   subst hx
   simp [h17,hin,Nat.not_lt.2 hge,w106_0,rs106,Jj]
open Go Go.Abs
def pf (k:Int×Int):List ((Int×Int)×List Sp)->Option (List Sp)
 | []=>none
 | x::r=>if x.1=k then some x.2 else pf k r
theorem pf_cases (k:Int×Int):∀ (l:List ((Int×Int)×List Sp)) (i:Nat),(pf k l=none/\Qx [k.1,k.2] (pmA l) i=none)\/∃ v n,pf k l=some v/\Qx [k.1,k.2] (pmA l) i=some (n,.sl .ro (v.map Qd))
 | [],i=>.inl ⟨rfl,rfl⟩
 | x::r,i=>by
  by_cases h:x.1=k
  ·exact .inr ⟨x.2,i,by rw [pf,if_pos h],by simp [pmA,Qx,h]⟩
  ·have hk:¬ ([k.1,k.2]:List Int)=[x.1.1,x.1.2]:=by
    intro e
    simp only [List.cons.injEq,and_true] at e
    exact h (Prod.ext e.1.symm e.2.symm)
   rcases pf_cases k r (i+1) with ⟨h1,h2⟩ | ⟨v,n,h1,h2⟩
   ·refine .inl ⟨by rw [pf,if_neg h];exact h1,?_⟩
    simp only [pmA,List.map_cons,Qx];rw [if_neg hk];exact h2
   ·refine .inr ⟨v,n,by rw [pf,if_neg h];exact h1,?_⟩
    simp only [pmA,List.map_cons,Qx];rw [if_neg hk];exact h2
theorem pf_app (k q:Int×Int) (v:List Sp):∀ (l:List ((Int×Int)×List Sp)),pf q (l++[(k,v)])=match pf q l with | some u=>some u | none=>if k=q then some v else none
 | []=>rfl
 | x::r=>by
  rw [List.cons_append,pf,pf_app k q v r,pf]
  by_cases h:x.1=q<;>simp [h]
def PmOK (b:Bd):Prop:=∀ k v,pf k b.pm=some v->v=Ze b.p k.1 k.2
def pmN (b:Bd) (it n:Int):List ((Int×Int)×List Sp):=match pf (it,n) b.pm with
 | some _=>b.pm
 | none=>b.pm++[((it,n),Ze b.p it n)]
theorem pmN_ok {b:Bd} (h:PmOK b) (it n:Int):PmOK { b with pm:=pmN b it n }:=fun k v hk=>by
 simp only [pmN] at hk
 cases hp:pf (it,n) b.pm with
 | some u=>rw [hp] at hk;exact h k v hk
 | none =>
  rw [hp] at hk
  simp only [pf_app] at hk
  cases hq:pf k b.pm with
  | some u=>rw [hq] at hk;cases hk;exact h k _ hq
  | none =>
   rw [hq] at hk
   simp only at hk
   split at hk
   ·rename_i e;cases hk;rw [<- e]
   ·cases hk
theorem bd_pm_kept {pre post:List (List AV)} {b:Bd} (pm:List ((Int×Int)×List Sp)) (ls:List Nat) (id:Nat) (cells:List AV) (h:(mBd pre { b with pm:=pm } post ls).boxes[id]? = some cells):(mBd pre b post ls).boxes[id]? = some cells\/IdleB cells:=by
 simp only [mBd] at h |-
 rcases Nat.lt_or_ge id pre.length with hlt | hge
 ·rw [List.getElem?_append_left hlt] at h |-
  exact .inl h
 ·rw [List.getElem?_append_right hge] at h |-
  match hk:id - pre.length,h with
  | 0,h=>exact .inl h
  | 1,h=>exact .inl h
  | 2,h=>exact .inl h
  | 3,h=>exact .inl h
  | 4,h=>exact .inl h
  | 5,h=>exact .inl h
  | 6,h=>exact .inl h
  | 7,h=>exact .inl h
  | 8,h =>
   refine .inr (.inr ⟨2,pmA pm,?_,?_⟩)
   ·simp [bdL] at h;exact h.symm
   ·intro e he
    obtain ⟨x,_,rfl⟩:=List.mem_map.1 he
    exact Idle.ro _
  | 9,h=>exact .inl h
  | k+10,h=>exact .inl h
def FrK (pre:List (List AV)) (b:Bd) (pm:List ((Int×Int)×List Sp)) (post:List (List AV)) (ls:List Nat) (K:AV->AM->Prop) (r:AV) (m:AM):Prop:=∃ ex,m=mBd pre { b with pm:=pm } (post++ex) ls/\Idle r/\K r (mBd pre { b with pm:=pm } post ls)
theorem frK {pre:List (List AV)} {b:Bd} {pm:List ((Int×Int)×List Sp)} {post:List (List AV)} {ls:List Nat} {K:AV->AM->Prop} {r:AV} {m:AM} (ex:List (List AV)) (h:m=mBd pre { b with pm:=pm } (post++ex) ls) (hi:Idle r) (hK:K r (mBd pre { b with pm:=pm } post ls)):FrK pre b pm post ls K r m:=⟨ex,h,hi,hK⟩
theorem fr_forget {f:FuncId} {xs:List AV} {pre post:List (List AV)} {b:Bd} {pm:List ((Int×Int)×List Sp)} {ls:List Nat} {Y:YT} {K:AV->AM->Prop} (h:EffY Tryz.prog gl0 Y f xs (mBd pre b post ls) (FrK pre b pm post ls K)):EffY Tryz.prog gl0 Y f xs (mBd pre b post ls) K:=by
 refine EffY.forget (EffY.mono h ?_)
 rintro r m' ⟨ex,rfl,h1,h2⟩
 refine ⟨mBd pre { b with pm:=pm } post ls,ex,?_,?_,rfl,fun id cells hc=>bd_pm_kept pm ls id cells hc,h1,h2⟩
 ·simp [mBd,bdL]
 ·simp [mBd,bdL]
def orcFr (p:Pl) (it:Int):Nat->FuncId->List AV->AV:=fun d f l=>if f=33 then (match l with | [_,_,_,.agg [.int _ a,.int _ c]]=>.sl .ro ((Zr p it 0 (a,c)).map Qd) | _=>.junk) else
 (match l with | [.sl _ a,.sl _ c]=>.sl .ro ((Xb (a.map unSp++c.map unSp)).map Qd) | _=>.junk)
theorem unSp_map (l:List Sp):(l.map Qd).map unSp=l:=by
 rw [List.map_map]
 conv=>rhs;rw [<- List.map_id l]
 exact List.map_congr_left fun x _=>rfl
theorem frames137 (pre post:List (List AV)) (ls:List Nat) (b:Bd) (it n:Int) (hn:0<=n/\n<=1000) (hc:b.p.cls.length<=1000000) (hsh:b.p.sh.length<=1000000000) (hit:b.p.its.length<=1000000000) (hpm:PmOK b) (Y:YT) (K:AV->AM->Prop)
  (hK:K (.sl .ro ((Ze b.p it n).map Qd)) (mBd pre { b with pm:=pmN b it n } post ls)) :
  EffY Tryz.prog gl0 Y 107 [.ptr (pre.length+9) 0,.agg [I it,I n]] (mBd pre b post ls) K:=by
 refine fr_forget (pm:=pmN b it n) ?_
 have w1:IntKind.i64.wrap (n*1000000)=n*1000000:=by rw [Qe]<;>omega
 have w2:IntKind.i64.wrap (n+1)=n+1:=by rw [Qe]<;>omega
 have w3:IntKind.i64.wrap ((n+1)*1000000)=(n+1)*1000000:=by rw [Qe]<;>omega
 have w4:IntKind.i64.wrap (n+2)=n+2:=by rw [Qe]<;>omega
 have w5:IntKind.i64.wrap ((n+2)*1000000)=(n+2)*1000000:=by rw [Qe]<;>omega
 have k1:=permS_pure b.p it 0 (n*1000000,(n+1)*1000000) hc hsh hit (by simp only;omega) (by simp only;omega)
 have k2:=permS_pure b.p it 0 ((n+1)*1000000,(n+2)*1000000) hc hsh hit (by simp only;omega) (by simp only;omega)
 have l1:=Wy b.p it 0 (n*1000000,(n+1)*1000000)
 have l2:=Wy b.p it 0 ((n+1)*1000000,(n+2)*1000000)
 have k3:=union188 (Zr b.p it 0 (n*1000000,(n+1)*1000000)) (Zr b.p it 0 ((n+1)*1000000,(n+2)*1000000)) (by omega)
 have hfr:Ze b.p it n=Xb (Zr b.p it 0 (n*1000000,(n+1)*1000000)++Zr b.p it 0 ((n+1)*1000000,(n+2)*1000000)):=rfl
 rw [<- hfr] at k3
 obtain ⟨R,hR⟩:∃ R,Ze b.p it n=R:=⟨_,rfl⟩
 refine Zb code107 (orcFr b.p it) (by simp) ?_
 rcases pf_cases (it,n) b.pm 0 with ⟨h1,h2⟩ | ⟨v,j,h1,h2⟩
 ·have hp:pmN b it n=b.pm++[((it,n),Ze b.p it n)]:=by simp only [pmN,h1]
  have hpa:pmA (pmN b it n)=pmA b.pm++[([it,n],.sl .ro ((Ze b.p it n).map Qd))]:=by rw [hp];simp [pmA]
  simp [sc107,rs107,mBd,bdL,Qk,Qc,h2,w1,w2,w3,w4,w5,orcFr,unSp_map,<- hfr]
  refine ⟨by simpa [Qc] using k1,by simpa [Qc] using k2,k3,?_⟩
  rw [<- hpa]
  exact frK [[I it,I n]] rfl (Idle.ro _) hK
 ·have hv:=hpm _ _ h1
  have hp:pmN b it n=b.pm:=by simp only [pmN,h1]
  rw [hp] at hK |-
  rw [<- hv] at hK
  simp [sc107,rs107,mBd,bdL,Qk,Qc,h2]
  exact frK [[I it,I n]] rfl (Idle.ro _) hK
theorem framesS_bd {p:Pl} {it n:Int}:∀ s∈Ze p it n,s.1<=1000000000000/\s.2<=1000000000000:=fun s hs=>by
 have hv:=(Va (Zr p it 0 (n*1000000,(n+1)*1000000)++Zr p it 0 ((n+1)*1000000,(n+2)*1000000))).1.1 s hs
 have h1:Xj (Ze p it n) s.1:=⟨s,hs,by omega,by omega⟩
 have h2:Xj (Ze p it n) (s.2 - 1):=⟨s,hs,by omega,by omega⟩
 rw [framesS_has] at h1 h2
 obtain ⟨_,_,_,_,_,hx1,_⟩:=h1
 obtain ⟨_,_,_,_,_,hx2,_⟩:=h2
 omega
theorem framesS_len (p:Pl) (it n:Int):(Ze p it n).length<=2000000:=by
 have h:=Vs (Zr p it 0 (n*1000000,(n+1)*1000000)++Zr p it 0 ((n+1)*1000000,(n+2)*1000000))
 have l1:=Wy p it 0 (n*1000000,(n+1)*1000000)
 have l2:=Wy p it 0 ((n+1)*1000000,(n+2)*1000000)
 rw [List.length_append] at h
 have:(Ze p it n).length<=_:=h
 omega
def orcSt84:Nat->FuncId->List AV->AV:=fun _ f l=>if f=107 then .gd false .junk else (match l with | [.sl _ a,.int _ x,.int _ n]=>Jj (earS (a.map unSp) x n) | _=>.junk)
def InvSt84 (pre:List (List AV)) (b:Bd) (post:List (List AV)) (ls:List Nat) (e:En) (last from_:Int) (T:Option Int) (f:Nat->AV) (m:AM):Prop:=∃ (n:Int) (pm:List ((Int×Int)×List Sp)),
 f 9=I n/\(0<=n/\n<=9223372036854)/\stP b.p e last from_ n=T/\PmOK { b with pm:=pm }/\m=mBd pre { b with pm:=pm } (post++[Qi e]) ls
theorem drop_in {from_:Int} (h0:0<=from_) (h1:from_<=9223372036854775807):0<=from_.tdiv 1000000/\from_.tdiv 1000000<=9223372036854:=by
 rw [Int.tdiv_eq_ediv_of_nonneg h0]
 omega
theorem start84 (pre post:List (List AV)) (ls:List Nat) (b:Bd) (e:En) (from_:Int) (hc:b.p.cls.length<=1000000) (hsh:b.p.sh.length<=1000000000) (hit:b.p.its.length<=1000000000) (hln:b.p.ln<=9223372036854775807) (hfr:from_<=9223372036854775807)
  (hpm:PmOK b) (Y:YT) (K:AV->AM->Prop) (hK:∀ pm ex,PmOK { b with pm:=pm }->K (Jj (Ue b.p e from_)) (mBd pre { b with pm:=pm } (post++ex) ls)) :
  EffY Tryz.prog gl0 Y 53 [.ptr (pre.length+9) 0,.agg (Qi e),I from_] (mBd pre b post ls) K:=by
 refine Zb code53 orcSt84 (by simp) ?_
 have no:Ue b.p e from_=none->K (.tup [I 0,.bool false]) (mBd pre b (post++[Qi e]) ls):=fun h=>by
  have:=hK b.pm [Qi e] hpm
  rw [h] at this
  exact this
 by_cases c1:e.fr < 1
 ·simp [sc53,rs53,mBd,bdL,Qk,Qc,Qi,c1]
  exact no (by rw [Ue,if_pos (.inl c1)])
 by_cases c2:1000000 < e.fr
 ·simp [sc53,rs53,mBd,bdL,Qk,Qc,Qi,c1,c2]
  exact no (by rw [Ue,if_pos (.inr (.inl c2))])
 by_cases c3:b.p.ln < e.fr
 ·simp [sc53,rs53,mBd,bdL,Qk,Qc,Qi,c1,c2,c3]
  exact no (by rw [Ue,if_pos (.inr (.inr c3))])
 have hS:Ue b.p e from_=stP b.p e (lastS b.p e) (max from_ 0) ((max from_ 0).tdiv 1000000):=by rw [Ue,if_neg (by omega)]
 rw [hS] at hK
 clear no
 obtain ⟨fm,hfm⟩:∃ fm,max from_ 0=fm:=⟨_,rfl⟩
 have hfm':(if from_ < 0 then 0 else from_)=fm:=by omega
 have hf0:0<=fm/\fm<=9223372036854775807:=by omega
 obtain ⟨d1,d2⟩:=drop_in hf0.1 hf0.2
 rw [hfm] at hK
 have hwq:IntKind.i64.wrap (fm.tdiv 1000000)=fm.tdiv 1000000:=by rw [Qe]<;>omega
 have hwl:IntKind.i64.wrap (b.p.ln - e.fr)=b.p.ln - e.fr:=by rw [Qe]<;>omega
 obtain ⟨q,hq⟩:∃ q,fm.tdiv 1000000=q:=⟨_,rfl⟩
 rw [hq] at hwq d1 d2 hK
 obtain ⟨la,hla⟩:∃ la,lastS b.p e=la:=⟨_,rfl⟩
 have hlb:la<=100000000:=by rw [<- hla,lastS];omega
 rw [hla] at hK
 obtain ⟨T,hT⟩:∃ T,stP b.p e la fm q=T:=⟨_,rfl⟩
 rw [hT] at hK
 simp [sc53,mBd,bdL,Qk,Qc,Qi,c1,c2,c3,hwl,hfm',hq,hwq]
 have hmm:mm2 false (mm2 false e.la (b.p.ln - e.fr)) 100000000=la:=by
  rw [<- hla,lastS];simp only [mm2];simp;omega
 rw [hmm]
 refine Ql w53_0 (InvSt84 pre b post ls e la fm T) (fun f _=>(la - numOf (f 9)*1000000+1000000).toNat) ?_ ?_
 ·exact ⟨q,b.pm,by simp,⟨d1,d2⟩,hT,hpm,by simp [mBd,bdL,Qk,Qc,Qi]⟩
 ·rintro f m ⟨n,pm,h9,hn,hst,hpm',rfl⟩
  have hwm:IntKind.i64.wrap (n*1000000)=n*1000000:=by rw [Qe]<;>omega
  have hwn:IntKind.i64.wrap (n+1)=n+1:=by rw [Qe]<;>omega
  rw [stP] at hst
  by_cases c4:n*1000000<=la
  ·rw [if_pos c4] at hst
   have k136:=earliest136 (Ze b.p e.it n) fm e.fr (by have:=framesS_len b.p e.it n;omega) hf0.1 (by omega) framesS_bd
   obtain ⟨R,hR⟩:∃ R,Ze b.p e.it n=R:=⟨_,rfl⟩
   have kf:=fun K'=>frames137 pre (post++[Qi e]) ls { b with pm:=pm } e.it n (by omega) hc hsh hit hpm' Y K'
   have hpn:=pmN_ok hpm' e.it n
   obtain ⟨pm2,hpm2⟩:∃ pm2,pmN { b with pm:=pm } e.it n=pm2:=⟨_,rfl⟩
   rw [hpm2] at kf hpn
   simp only at kf
   rw [hR] at hst k136 kf
   cases hes:earS R fm e.fr with
   | none =>
    rw [hes] at hst k136
    simp [h9,w53_0,hwm,c4,mBd,bdL,Qk,Qc,Qi]
    refine Jb [(.sl .ro (R.map Qd),mBd pre { b with pm:=pm2 } (post++[Qi e]) ls)] ?_
    simp [h9,w53_0,hwm,c4,mBd,bdL,Qk,Qc,Qi,orcSt84,unSp_map,hes,Jj,hwn]
    refine ⟨kf _ ⟨rfl,rfl⟩,k136,ag ?_,⟨n+1,pm2,by simp,by omega,hst,hpn,by simp [mBd,bdL,Qk,Qc,Qi]⟩,by omega⟩
    repeat (first | exact Qa _ _ | refine Qb _ rfl ?_)
   | some s =>
    rw [hes] at hst k136
    simp only at hst
    by_cases c5:la < s
    ·rw [if_pos c5] at hst
     subst hst
     have:=hK pm2 [Qi e] hpn
     simp [h9,w53_0,hwm,c4,mBd,bdL,Qk,Qc,Qi]
     refine Jb [(.sl .ro (R.map Qd),mBd pre { b with pm:=pm2 } (post++[Qi e]) ls)] ?_
     simp [h9,w53_0,hwm,c4,mBd,bdL,Qk,Qc,Qi,orcSt84,unSp_map,hes,Jj,c5,rs53]
     refine ⟨kf _ ⟨rfl,rfl⟩,k136,?_⟩
     simpa [mBd,bdL,Qk,Qc,Qi,Jj] using this
    ·rw [if_neg c5] at hst
     subst hst
     have:=hK pm2 [Qi e] hpn
     simp [h9,w53_0,hwm,c4,mBd,bdL,Qk,Qc,Qi]
     refine Jb [(.sl .ro (R.map Qd),mBd pre { b with pm:=pm2 } (post++[Qi e]) ls)] ?_
     simp [h9,w53_0,hwm,c4,mBd,bdL,Qk,Qc,Qi,orcSt84,unSp_map,hes,Jj,c5,rs53]
     refine ⟨kf _ ⟨rfl,rfl⟩,k136,?_⟩
     simpa [mBd,bdL,Qk,Qc,Qi,Jj] using this
  ·rw [if_neg c4] at hst
   subst hst
   have:=hK pm [Qi e] hpm'
   simp [h9,w53_0,hwm,c4,rs53]
   simpa [mBd,bdL,Qk,Qc,Qi,Jj] using this
open Go Go.Abs
def UsOK (n:Int) (us:List (Int×Int)):Prop:=∀ k v,af k us=some v->0<=v/\v<=n
theorem UsOK.note {n:Int} {us:List (Int×Int)} (h:UsOK n us) (hn:0<=n) (it:Int):UsOK (n+1) (Yy us it):=fun k v hk=>by
 rw [Yy,Wh] at hk
 split at hk
 ·cases hk
  cases ha:af it us with
  | none=>simp;omega
  | some u=>have:=h it u ha;simp;omega
 ·have:=h k v hk;omega
theorem item_case (p:Pl) (it:Int):(∃ n y,Xe it p.its=some y/\Qx [it] (kvA itA (itsS p)) 0=some (n,itA y))\/(Xe it p.its=none/\Qx [it] (kvA itA (itsS p)) 0=none):=by
 rcases Zk itA it (itsS p) 0 with ⟨h1,h2,_,_⟩ | ⟨u,n,h1,h2,_⟩
 ·rw [itsS_af] at h1
  exact .inr ⟨h1,h2⟩
 ·rw [itsS_af] at h1
  exact .inl ⟨_,u,h1,h2⟩
theorem noteU_case (us:List (Int×Int)) (it:Int):(Qx [it] (kvA iA us) 0=none/\kvA iA us++[([it],.int .i64 1)]=kvA iA (Yy us it))\/∃ u n,af it us=some u/\Qx [it] (kvA iA us) 0=some (n,.int .i64 u)/\(kvA iA us).set n ([it],.int .i64 (u+1))=kvA iA (Yy us it):=by
 rcases Zk iA it us 0 with ⟨h1,h2,_,h4⟩ | ⟨u,n,h1,h2,_,_,_,h4⟩
 ·exact .inl ⟨h2,by rw [Yy,h1];exact h4 1⟩
 ·exact .inr ⟨u,n,h1,by rw [h2,Nat.zero_add],by rw [Yy,h1];exact h4 (u+1)⟩
theorem Qaw (p:Pl) (en:List (Int×Int)) (it e:Int) {y:It} (hy:Xe it p.its=some y):(Qx [y.sp] (kvA iA en) 0=none/\kvA iA en++[([y.sp],.int .i64 (if 0 < e then e else 0))]=kvA iA (Zy p en it e))\/∃ u n,af y.sp en=some u/\Qx [y.sp] (kvA iA en) 0=some (n,.int .i64 u)/\(kvA iA en).set n ([y.sp],.int .i64 (if u < e then e else u))=kvA iA (Zy p en it e):=by
 rcases Zk iA y.sp en 0 with ⟨h1,h2,_,h4⟩ | ⟨u,n,h1,h2,_,_,_,h4⟩
 ·refine .inl ⟨h2,?_⟩
  have:(if 0 < e then e else 0)=max 0 e:=by omega
  simp only [Zy,hy,h1,this]
  exact h4 _
 ·refine .inr ⟨u,n,h1,by rw [h2,Nat.zero_add],?_⟩
  have:(if u < e then e else u)=max u e:=by omega
  simp only [Zy,hy,h1,this]
  exact h4 _
theorem note80 (pre p0 bx:List (List AV)) (ls:List Nat) (b:Bd) (us en:List (Int×Int)) (it e:Int) (hu:UsOK 1000000000 us) (Y:YT) (K:AV->AM->Prop) (hK:∀ ex,K (.tup []) (mBd pre b (p0++([.mobj 0 (kvA iA (Yy us it))]::[.mobj 0 (kvA iA (Zy b.p en it e))]::(bx++ex))) ls)) :
  EffY Tryz.prog gl0 Y 49 [.ptr (pre.length+9) 0,.mp (pre.length+(p0.length+10)),.mp (pre.length+(p0.length+11)),I it,I e] (mBd pre b (p0++([.mobj 0 (kvA iA us)]::[.mobj 0 (kvA iA en)]::bx)) ls) K:=by
 refine Zb code49 (fun _ _ _=>.junk) (by simp) ?_
 have w1:IntKind.i64.wrap 1=1:=by decide
 rcases noteU_case us it with ⟨u2,u4⟩ | ⟨u,n,u1,u2,u4⟩
 ·rcases item_case b.p it with ⟨ni,y,hy,hi⟩ | ⟨hy,hi⟩
  ·rcases Qaw b.p en it e hy with ⟨e2,e4⟩ | ⟨v,nv,e1,e2,e4⟩
   ·simp [sc49,rs49,mBd,bdL,Qk,Qc,hi,itA,Qg,u2,e2,w1]
    rw [u4,e4]
    simpa [mBd,bdL,Qk,Qc,Qg] using hK [Qg y]
   ·simp [sc49,rs49,mBd,bdL,Qk,Qc,hi,itA,Qg,u2,e2,w1]
    rw [u4,e4]
    simpa [mBd,bdL,Qk,Qc,Qg] using hK [Qg y]
  ·have he:Zy b.p en it e=en:=by simp only [Zy,hy]
   rw [he] at hK
   simp [sc49,rs49,mBd,bdL,Qk,Qc,hi,u2,w1]
   rw [u4]
   simpa [mBd,bdL,Qk,Qc] using hK [[I 0,I 0,I 0,I 0,I 0]]
 ·have hb:=hu it u u1
  have wu:IntKind.i64.wrap (u+1)=u+1:=by rw [Qe]<;>omega
  rcases item_case b.p it with ⟨ni,y,hy,hi⟩ | ⟨hy,hi⟩
  ·rcases Qaw b.p en it e hy with ⟨e2,e4⟩ | ⟨v,nv,e1,e2,e4⟩
   ·simp [sc49,rs49,mBd,bdL,Qk,Qc,hi,itA,Qg,u2,e2,wu]
    rw [u4,e4]
    simpa [mBd,bdL,Qk,Qc,Qg] using hK [Qg y]
   ·simp [sc49,rs49,mBd,bdL,Qk,Qc,hi,itA,Qg,u2,e2,wu]
    rw [u4,e4]
    simpa [mBd,bdL,Qk,Qc,Qg] using hK [Qg y]
  ·have he:Zy b.p en it e=en:=by simp only [Zy,hy]
   rw [he] at hK
   simp [sc49,rs49,mBd,bdL,Qk,Qc,hi,u2,wu]
   rw [u4]
   simpa [mBd,bdL,Qk,Qc] using hK [[I 0,I 0,I 0,I 0,I 0]]
theorem note80b (pre post:List (List AV)) (ls:List Nat) (b:Bd) (us en:List (Int×Int)) (it e:Int) (hu:UsOK 1000000000 us) (Y:YT) (K:AV->AM->Prop) (hK:∀ ex,K (.tup []) (mBd pre { b with us:=Yy us it,en:=Zy b.p en it e } (post++ex) ls)) :
  EffY Tryz.prog gl0 Y 49 [.ptr (pre.length+9) 0,.mp (pre.length+4),.mp (pre.length+5),I it,I e] (mBd pre { b with us:=us,en:=en } post ls) K:=by
 refine Zb code49 (fun _ _ _=>.junk) (by simp) ?_
 have w1:IntKind.i64.wrap 1=1:=by decide
 rcases noteU_case us it with ⟨u2,u4⟩ | ⟨u,n,u1,u2,u4⟩
 ·rcases item_case b.p it with ⟨ni,y,hy,hi⟩ | ⟨hy,hi⟩
  ·rcases Qaw b.p en it e hy with ⟨e2,e4⟩ | ⟨v,nv,e1,e2,e4⟩
   ·simp [sc49,rs49,mBd,bdL,Qk,Qc,hi,itA,Qg,u2,e2,w1]
    rw [u4,e4]
    simpa [mBd,bdL,Qk,Qc,Qg] using hK [Qg y]
   ·simp [sc49,rs49,mBd,bdL,Qk,Qc,hi,itA,Qg,u2,e2,w1]
    rw [u4,e4]
    simpa [mBd,bdL,Qk,Qc,Qg] using hK [Qg y]
  ·have he:Zy b.p en it e=en:=by simp only [Zy,hy]
   rw [he] at hK
   simp [sc49,rs49,mBd,bdL,Qk,Qc,hi,u2,w1]
   rw [u4]
   simpa [mBd,bdL,Qk,Qc] using hK [[I 0,I 0,I 0,I 0,I 0]]
 ·have hb:=hu it u u1
  have wu:IntKind.i64.wrap (u+1)=u+1:=by rw [Qe]<;>omega
  rcases item_case b.p it with ⟨ni,y,hy,hi⟩ | ⟨hy,hi⟩
  ·rcases Qaw b.p en it e hy with ⟨e2,e4⟩ | ⟨v,nv,e1,e2,e4⟩
   ·simp [sc49,rs49,mBd,bdL,Qk,Qc,hi,itA,Qg,u2,e2,wu]
    rw [u4,e4]
    simpa [mBd,bdL,Qk,Qc,Qg] using hK [Qg y]
   ·simp [sc49,rs49,mBd,bdL,Qk,Qc,hi,itA,Qg,u2,e2,wu]
    rw [u4,e4]
    simpa [mBd,bdL,Qk,Qc,Qg] using hK [Qg y]
  ·have he:Zy b.p en it e=en:=by simp only [Zy,hy]
   rw [he] at hK
   simp [sc49,rs49,mBd,bdL,Qk,Qc,hi,u2,wu]
   rw [u4]
   simpa [mBd,bdL,Qk,Qc] using hK [[I 0,I 0,I 0,I 0,I 0]]
end Go.Proofs.YtjmgelbfndnpjaaGreatDoor
