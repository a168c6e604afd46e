import Derived.Test.YtjmgelbfndnpjaaGreatDoorPPPaA
set_option linter.unusedVariables false
set_option linter.unusedSimpArgs false
set_option maxRecDepth 100000
set_option maxHeartbeats 64000000
namespace Go.Proofs.YtjmgelbfndnpjaaGreatDoor.Lw
open Go Go.Abs
structure Cue where
 id:Int
 fr:Int
 to:Int
 pr:Int
 tx:ByteArray
def Xk (c:Cue):List AV:=[I c.id,I c.fr,I c.to,I c.pr,.str c.tx]
def eB:ByteArray:=⟨#[]⟩
def zCue:Cue:=⟨0,0,0,0,eB⟩
def Qao (k p a b:Int):ByteArray:=⟨#[UInt8.ofNat (IntKind.u8.wrap (IntKind.i64.wrap (IntKind.i64.wrap (k*64)+p))).toNat,UInt8.ofNat a.toNat,UInt8.ofNat b.toNat]⟩
theorem code_pure (k p a b:Int):Pure Tryz.prog gl0 69 [I k,I p,.int .u8 a,.int .u8 b] (.str (Qao k p a b)):=by
 refine Qn code69 (fun _ _ _=>.junk) (by simp) ?_
 simp [sc69,rs69,Qao]
def pref (b:Option Cue) (x:Cue):Bool:=match b with
 | none=>true
 | some b=>if x.pr≠b.pr then decide (b.pr < x.pr) else if x.fr≠b.fr then decide (b.fr < x.fr) else decide (b.id<=x.id)
def Uj (f:Int) (b:Option Cue) (x:Cue):Option Cue:=if x.fr<=f/\f < x.to/\pref b x=true then some x else b
def actv (f:Int) (l:List Cue):Option Cue:=l.foldl (Uj f) none
theorem pref_eff (Y:YT) (x:Cue) (b:Option Cue) (m:AM) (r0:List AV) (rest:List (List AV)) (hm:m.boxes=r0::Xk (b.getD zCue)::[.bool b.isSome]::rest) (K:AV->AM->Prop)
  (hK:K (.bool (pref b x)) { m with boxes:=r0::Xk (b.getD zCue)::[.bool b.isSome]::(rest++[Xk x]) }):EffY Tryz.prog gl0 Y 135 [.agg (Xk x),.ptr 2 0,.ptr 1 0] m K:=by
 refine Zb code135 (fun _ _ _=>.junk) (by simp) ?_
 cases b with
 | none =>
  simp only [Option.getD_none,Option.isSome_none,pref] at hm hK
  simp [sc135,rs135,hm,Xk]
  simpa [Xk] using hK
 | some c =>
  simp only [Option.getD_some,Option.isSome_some,pref] at hm hK
  by_cases h1:x.pr=c.pr
  ·by_cases h2:x.fr=c.fr
   ·simp only [h1,h2,ne_eq,not_true_eq_false,if_false] at hK
    simp [sc135,rs135,hm,Xk,h1,h2]
    simpa [Xk,h1,h2] using hK
   ·simp only [h1,h2,ne_eq,not_true_eq_false,not_false_eq_true,if_false,if_true] at hK
    simp [sc135,rs135,hm,Xk,h1,h2]
    simpa [Xk,h1,h2] using hK
  ·simp only [h1,ne_eq,not_false_eq_true,if_true] at hK
   simp [sc135,rs135,hm,Xk,h1]
   simpa [Xk] using hK
def orc58:Nat->FuncId->List AV->AV:=fun _ f _=>if f=135 then .gd false .junk else .junk
theorem active_pure (l:List Cue) (rt:Rt) (f:Int) (hl:l.length<=1000000000):Pure Tryz.prog gl0 111 [.sl rt (l.map Xk),I f] (.tup [.agg (Xk ((actv f l).getD zCue)),.bool (actv f l).isSome]):=by
 refine Qn code111 orc58 (by simp) ?_
 simp [sc111,rs111]
 refine Ql [10,14,15,16,17,18,19,20,21,22,23,24,25,26,27,28,29,30,31,32,33,34] (fun s m=>∃ i:Nat,s 14=I i/\i<=l.length/\∃ rest,m=⟨Xk zCue::Xk (((l.take i).foldl (Uj f) none).getD zCue)::[.bool ((l.take i).foldl (Uj f) none).isSome]::rest,[],fun _=>.gone,0⟩) (fun s m=>l.length - (numOf (s 14)).toNat) ?_ ?_
 ·exact ⟨0,by simp,by omega,[],by simp [Xk,zCue,eB]⟩
 ·rintro s m ⟨i,hi,hle,rest,rfl⟩
  rcases Nat.lt_or_ge i l.length with hlt | hge
  ·obtain ⟨a,ha⟩:∃ a,l[i]? = some a:=⟨l[i],List.getElem?_eq_getElem hlt⟩
   have hrow:Qf (l.map Xk) i=Xk a:=Qv (by simp [ha])
   have hw:=wrS i (by omega)
   have htk:(l.take (i+1)).foldl (Uj f) none=Uj f ((l.take i).foldl (Uj f) none) a:=by
    rw [List.take_add_one,ha];simp [List.foldl_append]
   generalize (l.take i).foldl (Uj f) none=b at htk
   by_cases h1:a.fr<=f
   ·by_cases h2:f < a.to
    ·simp [hi,hrow,hlt,hw,Xk,h1,h2,orc58]
     refine pref_eff _ a b _ _ _ rfl _ ?_
     cases hp:pref b a with
     | true =>
      simp [Xk]
      refine ⟨ag ?_,⟨i+1,by simp,by omega,?_⟩,by omega⟩
      ·repeat (first | exact Qa _ _ | refine Qb _ rfl ?_)
      ·rw [htk]
       simp [Uj,h1,h2,hp,Xk]
     | false =>
      simp [Xk]
      refine ⟨ag ?_,⟨i+1,by simp,by omega,?_⟩,by omega⟩
      ·repeat (first | exact Qa _ _ | refine Qb _ rfl ?_)
      ·rw [htk]
       simp [Uj,h1,h2,hp,Xk]
    ·simp [hi,hrow,hlt,hw,Xk,h1,h2,orc58]
     refine ⟨ag ?_,⟨i+1,by simp,by omega,?_⟩,by omega⟩
     ·repeat (first | exact Qa _ _ | refine Qb _ rfl ?_)
     ·rw [htk]
      simp [Uj,h1,h2,Xk]
   ·simp [hi,hrow,hlt,hw,Xk,h1,orc58]
    refine ⟨ag ?_,⟨i+1,by simp,by omega,?_⟩,by omega⟩
    ·repeat (first | exact Qa _ _ | refine Qb _ rfl ?_)
    ·rw [htk]
     simp [Uj,h1,Xk]
  ·have htk:l.take i=l:=List.take_of_length_le hge
   rw [htk]
   simp [hi,Nat.not_lt.2 hge]
   refine Kj ?_
   simp [Xk,actv]
def boxN (s:Int) (rest:List (List AV)):List (List AV):=[.sl .nil []]::[I s]::Xk zCue::Xk zCue::[.str eB]::[I 0]::rest
def orc57:Nat->FuncId->List AV->AV:=fun _ f a=>if f=111 then .tup [.agg (Xk zCue),.bool false] else (match a with
 | [.int _ k,.int _ p,.int _ a,.int _ b]=>.str (Qao k p a b)
 | _=>.junk)
theorem send_nil (Y:YT) (f s:Int) (m:AM) (rest:List (List AV)) (hm:m.boxes=boxN s rest) (K:AV->AM->Prop)
  (hK:∀ rest',K (.str (Qao (if s=1 then 0 else 1) 0 0 0)) { m with boxes:=boxN 1 rest' }):EffY Tryz.prog gl0 Y 110 [I f,.ptr 0 0,.ptr 4 0,.ptr 1 0,.ptr 2 0,.ptr 3 0,.ptr 5 0] m K:=by
 have ha:=active_pure [] .nil f (by simp)
 simp only [List.map_nil,actv,List.foldl_nil,Option.getD_none,Option.isSome_none] at ha
 have c0:=code_pure 0 0 0 0
 have c1:=code_pure 1 0 0 0
 refine Zb code110 orc57 (by simp) ?_
 by_cases h1:s=1
 ·simp only [h1,if_true] at hK
  simp [sc110,rs110,hm,boxN,orc57,h1,Xk,zCue] at ha |-
  exact ⟨ha,c0,hK _⟩
 ·simp only [h1,if_false] at hK
  simp [sc110,rs110,hm,boxN,orc57,h1,Xk,zCue] at ha |-
  exact ⟨ha,c1,hK _⟩
def orc28:Nat->FuncId->List AV->AV:=fun _ f a=>if f=69 then .str (Qao 1 0 0 0) else .gd false .junk
theorem sender_eff (Y:YT) (s:Int) (K:AV->AM->Prop) (h:K (.fn 110 [] [.ptr 0 0,.ptr 4 0,.ptr 1 0,.ptr 2 0,.ptr 3 0,.ptr 5 0]) ⟨boxN s [],[],fun _=>.gone,0⟩) :
  EffY Tryz.prog gl0 Y 70 [.sl .nil [],I s] ⟨[],[],fun _=>.gone,0⟩ K:=by
 refine Zb code70 (fun _ _ _=>.junk) (by simp) ?_
 simp [sc70,rs70]
 exact h
def seesI (s0:Int) (i:Nat):Int:=if i=0 then s0 else 1
def kI (s0:Int) (i:Nat):Int:=if i=0 then 1 else if seesI s0 (i - 1)=1 then 0 else 1
def capN (fr f:Int):ByteArray:=Qao (if f<=fr then 1 else if f - fr < 128 then kI 1 (f - fr).toNat else kI 0 ((f - fr).tmod 128+1).toNat) 0 0 0
def lp28:SC:=(.seq (.ops [⟨(some 42),(.bin .lss (.tmp 41) (.tmp 40)),none,[]⟩]) (.seq (.cond (.tmp 42) .skip (.exit 0)) (.seq (.block 1 (.seq (.ops [⟨(some 43),(.mv (.tmp 41)),none,[]⟩,⟨(some 13),(.mv (.tmp 43)),none,[]⟩]) (.ops [⟨(some 44),(.mv (.tmp 12)),none,[]⟩,⟨(some 45),(.mv (.tmp 11)),none,[]⟩,⟨(some 46),(.mv (.tmp 13)),none,[]⟩,⟨(some 47),(.bin .add (.tmp 45) (.tmp 46)),none,[]⟩,⟨(some 48),(.call (.tmp 44) [(.tmp 47)]),none,[]⟩,⟨(some 7),(.mv (.tmp 48)),none,[]⟩]))) (.ops [⟨(some 49),(.bin .add (.tmp 41) (.const (.int .i64 1))),none,[]⟩,⟨(some 41),(.mv (.tmp 49)),none,[]⟩]))))
theorem loop28 (first N:Int) (hf:0<=first/\first<=2000000) (hN:0<=N/\N<=2000000) (s0:Int) (E:List (Nat×AV)) (rest:List (List AV)) (Q:Exit->AS->Prop)
  (h41:Abs.look E 41=I 0) (h40:Abs.look E 40=I N) (h12:Abs.look E 12=.fn 110 [] [.ptr 0 0,.ptr 4 0,.ptr 1 0,.ptr 2 0,.ptr 3 0,.ptr 5 0]) (h11:Abs.look E 11=I first) (h7:Abs.look E 7=.str (Qao 1 0 0 0))
  (hQ:∀ E' m',Abs.look E' 7=.str (Qao (kI s0 N.toNat) 0 0 0)->Q (.exit 0) ⟨Vd 51 E',m'⟩):vc Tryz.prog gl0 orc28 Y0 (.loop lp28) ⟨Vd 51 E,⟨boxN s0 rest,[],fun _=>.gone,0⟩⟩ Q:=by
 refine Ql [7,13,41,42,43,44,45,46,47,48,49] (fun g m=>∃ (i:Nat) (rest:List (List AV)),i<=N.toNat/\g 41=I i/\g 7=.str (Qao (kI s0 i) 0 0 0)/\m=⟨boxN (seesI s0 i) rest,[],fun _=>.gone,0⟩) (fun g m=>N.toNat - (numOf (g 41)).toNat) ?_ ?_
 ·exact ⟨0,rest,by omega,by simp [h41],by simp [h7,kI],rfl⟩
 ·rintro g m ⟨i,rest,hi,hg41,hg7,rfl⟩
  by_cases hend:i=N.toNat
  ·have hge:¬ ((i:Int) < N):=by omega
   simp [lp28,hg41,h40,hge]
   exact hQ _ _ (by simp [hg7,hend])
  ·have hlt:(i:Int) < N:=by omega
   have w1:IntKind.i64.wrap (first+(i:Int))=first+i:=by rw [Qe]<;>omega
   have w2:=wrS i (by omega)
   simp [lp28,hg41,h40,h11,h12,hlt,orc28,w1,w2]
   refine send_nil Y0 (first+i) _ _ rest rfl _ fun rest'=>?_
   simp [w2]
   refine ⟨ag ?_,⟨i+1,by omega,by simp,by simp [kI],rest',by simp [seesI]⟩,by omega⟩
   repeat (first | exact Qa _ _ | refine Qb _ rfl ?_)
theorem code28_pure (fr f:Int) (h1:0<=fr) (h2:fr<=1000000) (h3:0<=f) (h4:f<=1000000) :
  Pure Tryz.prog gl0 28 [.sl .nil [],I fr,I f] (.str (capN fr f)):=by
 have c1:=code_pure 1 0 0 0
 refine Qn code28 orc28 (by simp) ?_
 by_cases hle:f<=fr
 ·simp [sc28,rs28,orc28,hle,capN]
  exact c1
 ·have u1:=wu f (by omega) (by omega)
  have u2:=wu fr (by omega) (by omega)
  have u3:=wu (f - fr) (by omega) (by omega)
  have htm:(f - fr).tmod 128=(f - fr) % 128:=Int.tmod_eq_emod_of_nonneg (by omega)
  have w1:IntKind.i64.wrap ((f - fr).tmod 128)=(f - fr).tmod 128:=by rw [htm,Qe]<;>omega
  have w2:IntKind.i64.wrap (f - (f - fr).tmod 128)=f - (f - fr).tmod 128:=by rw [htm,Qe]<;>omega
  have w3:IntKind.i64.wrap (fr+1)=fr+1:=by rw [Qe]<;>omega
  by_cases h:f - fr < 128
  ·have hN:IntKind.i64.wrap (IntKind.i64.wrap (f - (fr+1))+1)=f - fr:=by
    have e1:IntKind.i64.wrap (f - (fr+1))=f - (fr+1):=by rw [Qe]<;>omega
    rw [e1,Qe]<;>omega
   simp [sc28,rs28,orc28,hle,u1,u2,u3,w1,w2,w3,h]
   refine ⟨c1,?_⟩
   refine sender_eff Y0 1 _ ?_
   refine loop28 (fr+1) (f - fr) ⟨by omega,by omega⟩ ⟨by omega,by omega⟩ 1 _ _ _ (by simp) (by simp [hN]) (by simp) (by simp) (by simp) fun E' m' h7=>?_
   simp [h7,capN,hle,h]
  ·have hN:IntKind.i64.wrap (IntKind.i64.wrap (f - (f - (f - fr).tmod 128))+1)=(f - fr).tmod 128+1:=by
    have e1:IntKind.i64.wrap (f - (f - (f - fr).tmod 128))=(f - fr).tmod 128:=by rw [htm,Qe]<;>omega
    rw [e1,htm,Qe]<;>omega
   simp [sc28,rs28,orc28,hle,u1,u2,u3,w1,w2,w3,h]
   refine ⟨c1,?_⟩
   refine sender_eff Y0 0 _ ?_
   refine loop28 (f - (f - fr).tmod 128) ((f - fr).tmod 128+1) ⟨by rw [htm];omega,by rw [htm];omega⟩ ⟨by rw [htm];omega,by rw [htm];omega⟩ 0 _ _ _ (by simp) (by simp [hN]) (by simp) (by simp) (by simp) fun E' m' h7=>?_
   simp [h7,capN,hle,h]
end Go.Proofs.YtjmgelbfndnpjaaGreatDoor.Lw
