import Derived.Test.YtkcnjajklnoahaaGreatDoorTYScM
set_option linter.unusedVariables false
set_option linter.unusedSimpArgs false
set_option maxRecDepth 100000
set_option maxHeartbeats 64000000
namespace Go.Proofs.YtkcnjajklnoahaaGreatDoor
open Go Go.Abs
def Qcn {α:Type} (up:Int) (bad:α->Bool) (key:α->Int):Int->List α->Bool
 | _,[]=>true
 | last,x::r=>if key x<=last\/up < key x\/bad x=true then false else Qcn up bad key (key x) r
theorem mrgK_eq {α:Type} {up:Int} {bad:α->Bool} {key:α->Int}:∀ {l:List α} {last:Int},0<=last->Qcn up bad key last l=(Ut 1 up (some last) (l.map key)&&l.all fun x=>!bad x)
 | [],_,_=>rfl
 | x::r,last,h=>by
  rw [Qcn,List.map_cons,Ut]
  by_cases h1:key x<=last
  ·have:leK (key x) (some last)=true:=by simpa [leK] using h1
   rw [if_pos (.inl h1),if_pos (.inr (.inr this))]
   rfl
  ·by_cases h2:up < key x
   ·rw [if_pos (.inr (.inl h2)),if_pos (.inr (.inl h2))]
    rfl
   ·have hn:¬ (key x < 1\/up < key x\/leK (key x) (some last)=true):=by
     simp only [leK,decide_eq_true_eq]
     omega
    rw [if_neg hn]
    cases hb:bad x with
    | true=>simp [hb]
    | false =>
     rw [if_neg (by simp;omega),mrgK_eq (by omega)]
     simp [hb]
theorem mrgK_none {α:Type} {up:Int} {bad:α->Bool} {key:α->Int} {l:List α}:Qcn up bad key 0 l=(Ut 1 up none (l.map key)&&l.all fun x=>!bad x):=by
 rw [mrgK_eq (Int.le_refl 0)]
 congr 1
 cases l with
 | nil=>rfl
 | cons x r =>
  rw [List.map_cons,Ut,Ut]
  have:(key x < 1\/up < key x\/leK (key x) (some 0)=true)<->(key x < 1\/up < key x\/leK (key x) none=true):=by
   simp only [leK,decide_eq_true_eq]
   constructor
   ·rintro (h | h | h)
    ·exact .inl h
    ·exact .inr (.inl h)
    ·exact .inl (by omega)
   ·rintro (h | h | h)
    ·exact .inl h
    ·exact .inr (.inl h)
    ·cases h
  by_cases h:key x < 1\/up < key x\/leK (key x) none=true
  ·rw [if_pos h,if_pos (this.2 h)]
  ·rw [if_neg h,if_neg (fun e=>h (this.1 e))]
theorem allI_all:∀ l:List It,allI l=l.all itB
 | []=>rfl
 | x::r=>by rw [allI,List.all_cons,allI_all r]
theorem allK_all (p:Pl):∀ l:List Bk,allK p l=l.all (bkB p)
 | []=>rfl
 | x::r=>by rw [allK,List.all_cons,allK_all p r]
theorem itemsB_mrg (p:Pl):Us p=(decide (p.its.length<=4000)&&(Qcn 1000000 (fun x=>!itB x) (fun x=>x.id) 0 p.its&&fillB p)):=by
 rw [Us,mrgK_none,allI_all]
 simp only [Bool.not_not,Bool.and_assoc]
theorem booksB_mrg (p:Pl):Kt p=(decide (p.bks.length<=2000)&&Qcn 1000000 (fun x=>!bkB p x) (fun x=>x.id) 0 p.bks):=by
 rw [Kt,mrgK_none,allK_all]
 simp only [Bool.not_not]
theorem altsB_mrg (p:Pl) (e:En):Qaw p e=(!(decide (kindOf p e.it=4)&&decide (e.al≠[]))&&Qcn (p.rg - 1) (fun a=>!Jm p e a) (fun x=>x.1) 0 e.al):=by
 rw [Qaw,mrgK_none]
 have:(!(e.al.any fun a=>!Jm p e a))=e.al.all fun a=>!!Jm p e a:=by
  induction e.al with
  | nil=>rfl
  | cons a r ih=>rw [List.any_cons,List.all_cons,<- ih,Bool.not_or]
 rw [this]
 cases Ut 1 (p.rg - 1) none (e.al.map fun x=>x.1)<;>cases (!(decide (kindOf p e.it=4)&&decide (e.al≠[])))<;>simp
open Go Go.Abs
def bkAV:Option Bk->AV
 | some x=>.tup [.agg (Qt x),.bool true]
 | none=>.tup [.agg [I 0,I 0,I 0,I 0,I 0,I 0,I 0],.bool false]
def Vw (p:Pl):Nat->FuncId->List AV->AV:=fun _ f l=>if f=999999 then .junk else (match l with
 | [_,.int _ id]=>if f=75 then Xk (Qy id p.its) else bkAV (Qcr id p.bks) | _=>.junk)
def InvV60 (p:Pl) (T:Bool) (f:Nat->AV) (m:AM):Prop:=∃ (i:Nat) (last:Int) (Z:List (List AV)),f 4=I i/\f 3=I last/\i<=p.its.length/\Qcn 1000000 (fun x=>!itB x) (fun x=>x.id) last (p.its.drop i)=T/\m=⟨Qa p::Z,[],fun _=>.gone,0⟩
theorem vItems60 (p:Pl) (hl:p.its.length<=1000):Pure Tryz.prog gl0 60 [.agg (Qa p)] (.bool (Us p)):=by
 have k75:=item75 p p.fi (by omega)
 have hn:¬ 4000 < p.its.length:=by omega
 have hn':¬ (4000:Int) < (p.its.length:Int):=by omega
 have hle:p.its.length<=4000:=by omega
 rw [itemsB_mrg]
 obtain ⟨T,hT⟩:∃ T,Qcn 1000000 (fun x=>!itB x) (fun x=>x.id) 0 p.its=T:=⟨_,rfl⟩
 rw [hT]
 simp only [Qa] at k75
 refine Ql code60 (Vw p) (by simp) ?_
 simp [sc60,Qa,hn,hn',hle]
 refine Qg w60_0 (InvV60 p T) (fun f _=>p.its.length - (numOf (f 4)).toNat) ?_ ?_
 ·exact ⟨0,0,[],by simp,by simp,by omega,hT,by simp [Qa]⟩
 ·clear hT
  rintro f m ⟨i,last,Z,h4,h3,hi,ht,rfl⟩
  by_cases hlt:i < p.its.length
  ·obtain ⟨x,hx⟩:=getS hlt
   have hrow:Qk (p.its.map Qf) i=Qf x:=Qv (by simp [hx])
   have hilt:(i:Int) < (p.its.length:Int):=by omega
   have hw:=wrS i (by omega)
   rw [Qr hx,Qcn] at ht
   have badOf:(x.id<=last\/1000000 < x.id\/(!itB x)=true)->T=false:=fun h=>by rw [if_pos h] at ht;exact ht.symm
   by_cases c1:¬ x.id<=last
   rotate_left
   ·have hTf:T=false:=badOf (.inl (Classical.not_not.1 c1))
    have c1':=Classical.not_not.1 c1
    simp [h4,h3,hlt,hilt,hrow,Qf,Qa,w60_0,c1',rs60,hTf]
   by_cases c2:¬ 1000000 < x.id
   rotate_left
   ·have hTf:T=false:=badOf (.inr (.inl (Classical.not_not.1 c2)))
    have c2':=Classical.not_not.1 c2
    simp [h4,h3,hlt,hilt,hrow,Qf,Qa,w60_0,c1,c2',rs60,hTf]
   by_cases c3:¬ x.ki < 1
   rotate_left
   ·have hTf:T=false:=badOf (.inr (.inr (by simp [itB,wi];omega)))
    have c3':=Classical.not_not.1 c3
    simp [h4,h3,hlt,hilt,hrow,Qf,Qa,w60_0,c1,c2,c3',rs60,hTf]
   by_cases c4:¬ 5 < x.ki
   rotate_left
   ·have hTf:T=false:=badOf (.inr (.inr (by simp [itB,wi];omega)))
    have c4':=Classical.not_not.1 c4
    simp [h4,h3,hlt,hilt,hrow,Qf,Qa,w60_0,c1,c2,c3,c4',rs60,hTf]
   by_cases c5:¬ x.fr < 1
   rotate_left
   ·have hTf:T=false:=badOf (.inr (.inr (by simp [itB,wi];omega)))
    have c5':=Classical.not_not.1 c5
    simp [h4,h3,hlt,hilt,hrow,Qf,Qa,w60_0,c1,c2,c3,c4,c5',rs60,hTf]
   by_cases c6:¬ 100000000 < x.fr
   rotate_left
   ·have hTf:T=false:=badOf (.inr (.inr (by simp [itB,wi];omega)))
    have c6':=Classical.not_not.1 c6
    simp [h4,h3,hlt,hilt,hrow,Qf,Qa,w60_0,c1,c2,c3,c4,c5,c6',rs60,hTf]
   by_cases c7:¬ x.sp < 0
   rotate_left
   ·have hTf:T=false:=badOf (.inr (.inr (by simp [itB,wi];omega)))
    have c7':=Classical.not_not.1 c7
    simp [h4,h3,hlt,hilt,hrow,Qf,Qa,w60_0,c1,c2,c3,c4,c5,c6,c7',rs60,hTf]
   by_cases c8:¬ 200 < x.sp
   rotate_left
   ·have hTf:T=false:=badOf (.inr (.inr (by simp [itB,wi];omega)))
    have c8':=Classical.not_not.1 c8
    simp [h4,h3,hlt,hilt,hrow,Qf,Qa,w60_0,c1,c2,c3,c4,c5,c6,c7,c8',rs60,hTf]
   by_cases c9:¬ x.ra < 0
   rotate_left
   ·have hTf:T=false:=badOf (.inr (.inr (by simp [itB,wi];omega)))
    have c9':=Classical.not_not.1 c9
    simp [h4,h3,hlt,hilt,hrow,Qf,Qa,w60_0,c1,c2,c3,c4,c5,c6,c7,c8,c9',rs60,hTf]
   by_cases c10:¬ 3 < x.ra
   rotate_left
   ·have hTf:T=false:=badOf (.inr (.inr (by simp [itB,wi];omega)))
    have c10':=Classical.not_not.1 c10
    simp [h4,h3,hlt,hilt,hrow,Qf,Qa,w60_0,c1,c2,c3,c4,c5,c6,c7,c8,c9,c10',rs60,hTf]
   have hg:¬ (x.id<=last\/1000000 < x.id\/(!itB x)=true):=by
    have:itB x=true:=by simp [itB,wi];omega
    rw [this];simp;omega
   rw [if_neg hg] at ht
   simp [h4,h3,hlt,hilt,hrow,Qf,Qa,w60_0,c1,c2,c3,c4,c5,c6,c7,c8,c9,c10,hw]
   refine ⟨ag ?_,⟨i+1,x.id,Z++[Qf x],by simp,by simp,by omega,ht,by simp [Qa,Qf]⟩,by omega⟩
   repeat (first | exact Qb _ _ | refine Qc _ rfl ?_)
  ·have hin:¬ (i:Int) < (p.its.length:Int):=by omega
   rw [List.drop_eq_nil_of_le (by omega),Qcn] at ht
   subst ht
   cases hf:Qy p.fi p.its with
   | none =>
    have hb:fillB p=false:=by unfold fillB;rw [hf]
    rw [hf] at k75
    simp [h4,hlt,hin,Qa,w60_0,rs60,Vw,hf,Xk,hb]
    exact k75
   | some y =>
    have hb:fillB p=decide (y.ki=5):=by unfold fillB;rw [hf]
    rw [hf] at k75
    by_cases hk:y.ki=5
    ·simp [h4,hlt,hin,Qa,w60_0,rs60,Vw,hf,Xk,Qf,hb,hk]
     simpa only [Xk,Qf,hk] using k75
    ·simp [h4,hlt,hin,Qa,w60_0,rs60,Vw,hf,Xk,Qf,hb,hk]
     exact k75
theorem booking92 (p:Pl) (id:Int) (hl:p.bks.length<=1000000000):Pure Tryz.prog gl0 92 [.agg (Qa p),I id] (bkAV (Qcr id p.bks)):=by
 refine Ql code92 (fun _ _ _=>.junk) (by simp) ?_
 simp [sc92,Qa]
 refine Qg w92_0 (fun f m=>∃ (i:Nat),f 6=I i/\i<=p.bks.length/\Qcr id (p.bks.drop i)=Qcr id p.bks/\m=⟨[Qa p,[I 0,I 0,I 0,I 0,I 0,I 0,I 0]],[],fun _=>.gone,0⟩) (fun f _=>p.bks.length - (numOf (f 6)).toNat) ?_ ?_
 ·exact ⟨0,by simp,by omega,rfl,by simp [Qa]⟩
 ·rintro f m ⟨i,h6,hi,hf,rfl⟩
  rcases Nat.lt_or_ge i p.bks.length with hlt | hge
  ·obtain ⟨x,hx⟩:=getS hlt
   have hrow:Qk (p.bks.map Qt) i=Qt x:=Qv (by simp [hx])
   have hilt:(i:Int) < (p.bks.length:Int):=by omega
   have hw:=wrS i (by omega)
   rw [Qr hx,Qcr] at hf
   by_cases hid:x.id=id
   ·rw [if_pos hid] at hf
    simp [h6,hlt,hilt,hrow,Qa,Qt,hid,w92_0,rs92,<- hf,bkAV]
   ·rw [if_neg hid] at hf
    simp [h6,hlt,hilt,hrow,Qa,Qt,hid,w92_0,hw]
    refine ⟨ag ?_,⟨i+1,by simp,by omega,hf⟩,by omega⟩
    repeat (first | exact Qb _ _ | refine Qc _ rfl ?_)
  ·have hin:¬ (i:Int) < (p.bks.length:Int):=by omega
   rw [List.drop_eq_nil_of_le hge,Qcr] at hf
   simp [h6,hin,Nat.not_lt.2 hge,Qa,w92_0,rs92,<- hf,bkAV]
def fulX (e:En) (b:Bk):Bool:=if b.re=0 then decide (e.it=b.it) else decide ((b.re,b.it)∈e.al)
def InvV93 (e:En) (b:Bk) (al:AV) (T:Bool) (f:Nat->AV) (m:AM):Prop:=∃ (i:Nat),f 5=I i/\i<=e.al.length/\decide ((b.re,b.it)∈e.al.drop i)=T/\m=⟨[Qd e,Qt b],[],fun _=>.gone,0⟩
theorem fulfils93 (e:En) (b:Bk) (hl:e.al.length<=1000000):Pure Tryz.prog gl0 93 [.agg (Qd e),.agg (Qt b)] (.bool (fulX e b)):=by
 refine Ql code93 (fun _ _ _=>.junk) (by simp) ?_
 by_cases h0:b.re=0
 ·simp [sc93,rs93,Qd,Qt,fulX,h0]
  rfl
 ·obtain ⟨T,hT⟩:∃ T,decide ((b.re,b.it)∈e.al)=T:=⟨_,rfl⟩
  have hf:fulX e b=T:=by rw [fulX,if_neg h0,hT]
  rw [hf]
  simp [sc93,Qd,Qt,h0]
  refine Qg w93_0 (InvV93 e b .junk T) (fun f _=>e.al.length - (numOf (f 5)).toNat) ?_ ?_
  ·exact ⟨0,by simp,by omega,by simpa using hT,by simp [Qd,Qt]⟩
  ·rintro f m ⟨i,h5,hi,ht,rfl⟩
   rcases Nat.lt_or_ge i e.al.length with hlt | hge
   ·obtain ⟨x,hx⟩:=getS hlt
    have hrow:=Xu hx
    have hilt:(i:Int) < (e.al.length:Int):=by omega
    have hw:=wrS i (by omega)
    rw [Qr hx] at ht
    by_cases e1:x.1=b.re
    ·by_cases e2:x.2=b.it
     ·have ht:T=true:=by rw [<- ht];exact decide_eq_true (by rw [<- e1,<- e2];simp)
      simp [h5,hlt,hilt,hrow,Qe,Qd,Qt,w93_0,rs93,e1,e2,ht]
     ·have hne:(b.re,b.it)≠x:=fun h=>e2 (by rw [<- h])
      have ht:decide ((b.re,b.it)∈e.al.drop (i+1))=T:=by rw [<- ht];simp [hne]
      simp [h5,hlt,hilt,hrow,Qe,Qd,Qt,w93_0,e1,e2,hw]
      refine ⟨ag ?_,⟨i+1,by simp,by omega,ht,by simp [Qd,Qt]⟩,by omega⟩
      repeat (first | exact Qb _ _ | refine Qc _ rfl ?_)
    ·have hne:(b.re,b.it)≠x:=fun h=>e1 (by rw [<- h])
     have ht:decide ((b.re,b.it)∈e.al.drop (i+1))=T:=by rw [<- ht];simp [hne]
     simp [h5,hlt,hilt,hrow,Qe,Qd,Qt,w93_0,e1,hw]
     refine ⟨ag ?_,⟨i+1,by simp,by omega,ht,by simp [Qd,Qt]⟩,by omega⟩
     repeat (first | exact Qb _ _ | refine Qc _ rfl ?_)
   ·have hin:¬ (i:Int) < (e.al.length:Int):=by omega
    rw [List.drop_eq_nil_of_le hge] at ht
    have ht:T=false:=by rw [<- ht];simp
    simp [h5,hin,Nat.not_lt.2 hge,Qd,Qt,w93_0,rs93,ht]
open Go Go.Abs
theorem itG (p:Pl) (id:Int):∃ (y:It) (kn:Bool),Xk (Qy id p.its)=.tup [.agg (Qf y),.bool kn]/\kindOf p id=y.ki/\(kn=false->y.ki=0)/\(kn=true->Qy id p.its=some y)/\(kn=false->Qy id p.its=none):=by
 unfold kindOf
 cases hf:Qy id p.its with
 | none=>exact ⟨⟨0,0,0,0,0⟩,false,rfl,rfl,(fun _=>rfl),(fun h=>by cases h),(fun _=>rfl)⟩
 | some y=>exact ⟨y,true,rfl,rfl,(fun h=>by cases h),(fun _=>rfl),(fun h=>by cases h)⟩
def InvV61 (p:Pl) (T:Bool) (f:Nat->AV) (m:AM):Prop:=∃ (i:Nat) (last:Int) (Z:List (List AV)),f 4=I i/\f 3=I last/\i<=p.bks.length/\Qcn 1000000 (fun x=>!bkB p x) (fun x=>x.id) last (p.bks.drop i)=T/\m=⟨Qa p::Z,[],fun _=>.gone,0⟩
theorem vBooks61 (p:Pl) (hl:p.bks.length<=1000) (hit:p.its.length<=1000):Pure Tryz.prog gl0 61 [.agg (Qa p)] (.bool (Kt p)):=by
 have hn:¬ 2000 < p.bks.length:=by omega
 have hn':¬ (2000:Int) < (p.bks.length:Int):=by omega
 have hle:p.bks.length<=2000:=by omega
 rw [booksB_mrg]
 obtain ⟨T,hT⟩:∃ T,Qcn 1000000 (fun x=>!bkB p x) (fun x=>x.id) 0 p.bks=T:=⟨_,rfl⟩
 rw [hT]
 refine Ql code61 (Vw p) (by simp) ?_
 simp [sc61,Qa,hn,hn',hle]
 refine Qg w61_0 (InvV61 p T) (fun f _=>p.bks.length - (numOf (f 4)).toNat) ?_ ?_
 ·exact ⟨0,0,[],by simp,by simp,by omega,hT,by simp [Qa]⟩
 ·clear hT
  rintro f m ⟨i,last,Z,h4,h3,hi,ht,rfl⟩
  by_cases hlt:i < p.bks.length
  ·obtain ⟨x,hx⟩:=getS hlt
   have hrow:Qk (p.bks.map Qt) i=Qt x:=Qv (by simp [hx])
   have hilt:(i:Int) < (p.bks.length:Int):=by omega
   have hw:=wrS i (by omega)
   rw [Qr hx,Qcn] at ht
   have badOf:(x.id<=last\/1000000 < x.id\/(!bkB p x)=true)->T=false:=fun h=>by rw [if_pos h] at ht;exact ht.symm
   have k75:=item75 p x.it (by omega)
   obtain ⟨y,kn,hE,hki,hk0,hk1,hk2⟩:=itG p x.it
   rw [hE] at k75
   simp only [Qa,Qf] at k75
   by_cases c1:¬ x.id<=last
   rotate_left
   ·have hTf:T=false:=badOf (.inl (Classical.not_not.1 c1))
    have c1':=Classical.not_not.1 c1
    simp [h4,h3,hlt,hilt,hrow,Qt,Qf,Qa,w61_0,Vw,hE,c1',rs61,hTf]
    exact k75
   by_cases c2:¬ 1000000 < x.id
   rotate_left
   ·have hTf:T=false:=badOf (.inr (.inl (Classical.not_not.1 c2)))
    have c2':=Classical.not_not.1 c2
    simp [h4,h3,hlt,hilt,hrow,Qt,Qf,Qa,w61_0,Vw,hE,c1,c2',rs61,hTf]
    exact k75
   by_cases c3:kn=true
   rotate_left
   ·have hTf:T=false:=badOf (.inr (.inr (by simp [bkB,hki,hk0 (by simpa using c3)])))
    have c3':kn=false:=by simpa using c3
    subst c3'
    simp [h4,h3,hlt,hilt,hrow,Qt,Qf,Qa,w61_0,Vw,hE,c1,c2,rs61,hTf]
    exact k75
   subst c3
   by_cases c4:y.ki=2
   rotate_left
   ·have hTf:T=false:=badOf (.inr (.inr (by simp [bkB,hki,c4])))
    simp [h4,h3,hlt,hilt,hrow,Qt,Qf,Qa,w61_0,Vw,hE,c1,c2,c4,rs61,hTf]
    exact k75
   rw [c4] at k75
   by_cases c5:¬ x.re < 0
   rotate_left
   ·have hTf:T=false:=badOf (.inr (.inr (by simp [bkB,Kc,wi];omega)))
    have c5':=Classical.not_not.1 c5
    simp [h4,h3,hlt,hilt,hrow,Qt,Qf,Qa,w61_0,Vw,hE,c1,c2,c4,c5',rs61,hTf]
    exact k75
   by_cases c6:¬ p.rg<=x.re
   rotate_left
   ·have hTf:T=false:=badOf (.inr (.inr (by simp [bkB,Kc,wi];omega)))
    have c6':=Classical.not_not.1 c6
    simp [h4,h3,hlt,hilt,hrow,Qt,Qf,Qa,w61_0,Vw,hE,c1,c2,c4,c5,c6',rs61,hTf]
    exact k75
   by_cases c7:¬ x.fr < 0
   rotate_left
   ·have hTf:T=false:=badOf (.inr (.inr (by simp [bkB,Kc,wi];omega)))
    have c7':=Classical.not_not.1 c7
    simp [h4,h3,hlt,hilt,hrow,Qt,Qf,Qa,w61_0,Vw,hE,c1,c2,c4,c5,c6,c7',rs61,hTf]
    exact k75
   by_cases c8:¬ x.to<=x.fr
   rotate_left
   ·have hTf:T=false:=badOf (.inr (.inr (by simp [bkB,Kc,wi];omega)))
    have c8':=Classical.not_not.1 c8
    simp [h4,h3,hlt,hilt,hrow,Qt,Qf,Qa,w61_0,Vw,hE,c1,c2,c4,c5,c6,c7,c8',rs61,hTf]
    exact k75
   by_cases c9:¬ x.un < x.to
   rotate_left
   ·have hTf:T=false:=badOf (.inr (.inr (by simp [bkB,Kc,wi];omega)))
    have c9':=Classical.not_not.1 c9
    simp [h4,h3,hlt,hilt,hrow,Qt,Qf,Qa,w61_0,Vw,hE,c1,c2,c4,c5,c6,c7,c8,c9',rs61,hTf]
    exact k75
   by_cases c10:¬ 100000000 < x.un
   rotate_left
   ·have hTf:T=false:=badOf (.inr (.inr (by simp [bkB,Kc,wi];omega)))
    have c10':=Classical.not_not.1 c10
    simp [h4,h3,hlt,hilt,hrow,Qt,Qf,Qa,w61_0,Vw,hE,c1,c2,c4,c5,c6,c7,c8,c9,c10',rs61,hTf]
    exact k75
   by_cases c11:¬ x.pr < 0
   rotate_left
   ·have hTf:T=false:=badOf (.inr (.inr (by simp [bkB,Kc,wi];omega)))
    have c11':=Classical.not_not.1 c11
    simp [h4,h3,hlt,hilt,hrow,Qt,Qf,Qa,w61_0,Vw,hE,c1,c2,c4,c5,c6,c7,c8,c9,c10,c11',rs61,hTf]
    exact k75
   by_cases c12:¬ 1000000000 < x.pr
   rotate_left
   ·have hTf:T=false:=badOf (.inr (.inr (by simp [bkB,Kc,wi];omega)))
    have c12':=Classical.not_not.1 c12
    simp [h4,h3,hlt,hilt,hrow,Qt,Qf,Qa,w61_0,Vw,hE,c1,c2,c4,c5,c6,c7,c8,c9,c10,c11,c12',rs61,hTf]
    exact k75
   have hg:¬ (x.id<=last\/1000000 < x.id\/(!bkB p x)=true):=by
    have:bkB p x=true:=by simp [bkB,hki,c4,Kc,wi];omega
    rw [this];simp;omega
   rw [if_neg hg] at ht
   simp [h4,h3,hlt,hilt,hrow,Qt,Qf,Qa,w61_0,Vw,hE,c1,c2,c4,c5,c6,c7,c8,c9,c10,c11,c12,hw]
   refine ⟨k75,ag ?_,⟨i+1,x.id,Z++[Qt x,Qf y],by simp,by simp,by omega,ht,by simp [Qa,Qt,Qf,c4]⟩,by omega⟩
   repeat (first | exact Qb _ _ | refine Qc _ rfl ?_)
  ·have hin:¬ (i:Int) < (p.bks.length:Int):=by omega
   rw [List.drop_eq_nil_of_le (by omega),Qcn] at ht
   simp [h4,hlt,hin,Qa,w61_0,rs61,Vw,<- ht]
def InvV94 (p:Pl) (e:En) (y:It) (T:Bool) (f:Nat->AV) (m:AM):Prop:=∃ (i:Nat) (last:Int) (Z:List (List AV)),f 8=I i/\f 7=I last/\i<=e.al.length/\Qcn (p.rg - 1) (fun a=>!Jm p e a) (fun x=>x.1) last (e.al.drop i)=T/\m=⟨Qa p::Qd e::Qf y::Z,[],fun _=>.gone,0⟩
theorem vAlts94 (p:Pl) (e:En) (y:It) (hy:Qy e.it p.its=some y) (hl:e.al.length<=1000) (hit:p.its.length<=1000):Pure Tryz.prog gl0 94 [.agg (Qa p),.agg (Qd e),.agg (Qf y)] (.bool (Qaw p e)):=by
 have hko:kindOf p e.it=y.ki:=by unfold kindOf;rw [hy]
 rw [altsB_mrg,hko]
 refine Ql code94 (Vw p) (by simp) ?_
 by_cases hlive:y.ki=4/\e.al≠[]
 ·obtain ⟨q1,q2⟩:=hlive
  have q3:0 < e.al.length:=by exact List.length_pos_iff.2 q2
  have q4:(0:Int) < (e.al.length:Int):=by omega
  simp [sc94,rs94,Qa,Qd,Qf,q1,q2,q3,q4]
 ·obtain ⟨T,hT⟩:∃ T,Qcn (p.rg - 1) (fun a=>!Jm p e a) (fun x=>x.1) 0 e.al=T:=⟨_,rfl⟩
  have hq:(!(decide (y.ki=4)&&decide (e.al≠[]))&&T)=T:=by
   have:(decide (y.ki=4)&&decide (e.al≠[]))=false:=by
    cases h:(decide (y.ki=4)&&decide (e.al≠[])) with
    | false=>rfl
    | true=>rw [Bool.and_eq_true,decide_eq_true_eq,decide_eq_true_eq] at h;exact absurd h hlive
   rw [this];rfl
  rw [hT,hq]
  have hstart:∀ Q:Prop,(y.ki=4->¬ 0 < e.al.length->Q)->(y.ki≠4->Q)->Q:=fun Q h1 h2=>by
   by_cases h:y.ki=4
   ·refine h1 h fun hp=>hlive ⟨h,fun hn=>?_⟩
    rw [hn] at hp;exact absurd hp (by simp)
   ·exact h2 h
  refine hstart _ (fun q1 q2=>?_) (fun q1=>?_)
  all_goals
   first
   | (have q3:¬ (0:Int) < (e.al.length:Int):=by omega
      simp [sc94,Qa,Qd,Qf,q1,q2,q3])
   | simp [sc94,Qa,Qd,Qf,q1]
   refine Qg w94_0 (InvV94 p e y T) (fun f _=>e.al.length - (numOf (f 8)).toNat) ?_ ?_
   ·exact ⟨0,0,[],by simp,by simp,by omega,hT,by simp [Qa,Qd,Qf,q1]⟩
   ·rintro f m ⟨i,last,Z,h8,h7,hi,ht,rfl⟩
    by_cases hlt:i < e.al.length
    ·obtain ⟨a,hx⟩:=getS hlt
     have hrow:=Xu hx
     have hilt:(i:Int) < (e.al.length:Int):=by omega
     have hw:=wrS i (by omega)
     rw [Qr hx,Qcn] at ht
     have badOf:(a.1<=last\/p.rg - 1 < a.1\/(!Jm p e a)=true)->T=false:=fun h=>by rw [if_pos h] at ht;exact ht.symm
     have k75:=item75 p a.2 (by omega)
     obtain ⟨z,kn,hE,hki,hk0,hk1,hk2⟩:=itG p a.2
     rw [hE] at k75
     simp only [Qa,Qf] at k75
     have hfit:Jm p e a=(kn&&(decide (z.fr=e.fr)&&(decide (z.ki≠5)&&decide (z.ki≠4)))):=by
      unfold Jm
      cases kn with
      | false=>rw [hk2 rfl];rfl
      | true=>rw [hk1 rfl];rfl
     by_cases c1:¬ a.1<=last
     rotate_left
     ·have hTf:T=false:=badOf (.inl (Classical.not_not.1 c1))
      have c1':=Classical.not_not.1 c1
      simp [h8,h7,hlt,hilt,hrow,Qe,Qd,Qf,Qa,w94_0,Vw,hE,c1',rs94,hTf]
      exact k75
     by_cases c2:¬ p.rg<=a.1
     rotate_left
     ·have hTf:T=false:=badOf (.inr (.inl (by omega)))
      have c2':=Classical.not_not.1 c2
      simp [h8,h7,hlt,hilt,hrow,Qe,Qd,Qf,Qa,w94_0,Vw,hE,c1,c2',rs94,hTf]
      exact k75
     by_cases c3:kn=true
     rotate_left
     ·have hTf:T=false:=badOf (.inr (.inr (by rw [hfit];simp [show kn=false by simpa using c3])))
      have c3':kn=false:=by simpa using c3
      subst c3'
      simp [h8,h7,hlt,hilt,hrow,Qe,Qd,Qf,Qa,w94_0,Vw,hE,c1,c2,rs94,hTf]
      exact k75
     subst c3
     by_cases c4:z.fr=e.fr
     rotate_left
     ·have hTf:T=false:=badOf (.inr (.inr (by rw [hfit];simp [c4])))
      simp [h8,h7,hlt,hilt,hrow,Qe,Qd,Qf,Qa,w94_0,Vw,hE,c1,c2,c4,rs94,hTf]
      exact k75
     rw [c4] at k75
     by_cases c5:¬ z.ki=5
     rotate_left
     ·have hTf:T=false:=badOf (.inr (.inr (by rw [hfit];simp [Classical.not_not.1 c5])))
      have c5':=Classical.not_not.1 c5
      simp [h8,h7,hlt,hilt,hrow,Qe,Qd,Qf,Qa,w94_0,Vw,hE,c1,c2,c4,c5',rs94,hTf]
      rw [c5'] at k75
      exact k75
     by_cases c6:¬ z.ki=4
     rotate_left
     ·have hTf:T=false:=badOf (.inr (.inr (by rw [hfit];simp [Classical.not_not.1 c6])))
      have c6':=Classical.not_not.1 c6
      simp [h8,h7,hlt,hilt,hrow,Qe,Qd,Qf,Qa,w94_0,Vw,hE,c1,c2,c4,c5,c6',rs94,hTf]
      rw [c6'] at k75
      exact k75
     have hg:¬ (a.1<=last\/p.rg - 1 < a.1\/(!Jm p e a)=true):=by
      rw [hfit];simp [c4,c5,c6];omega
     rw [if_neg hg] at ht
     simp [h8,h7,hlt,hilt,hrow,Qe,Qd,Qf,Qa,w94_0,Vw,hE,c1,c2,c4,c5,c6,hw]
     refine ⟨k75,ag ?_,⟨i+1,a.1,Z++[Qe a,Qf z],by simp,by simp,by omega,ht,by simp [Qa,Qd,Qe,Qf,c4]⟩,by omega⟩
     repeat (first | exact Qb _ _ | refine Qc _ rfl ?_)
    ·have hin:¬ (i:Int) < (e.al.length:Int):=by omega
     rw [List.drop_eq_nil_of_le (by omega),Qcn] at ht
     simp [h8,hlt,hin,Qa,Qd,w94_0,rs94,Vw,<- ht]
end Go.Proofs.YtkcnjajklnoahaaGreatDoor
