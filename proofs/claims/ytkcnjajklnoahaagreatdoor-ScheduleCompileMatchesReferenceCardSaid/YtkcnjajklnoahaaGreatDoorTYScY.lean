import Derived.Test.YtkcnjajklnoahaaGreatDoorTYScW
set_option linter.unusedVariables false
set_option linter.unusedSimpArgs false
set_option maxRecDepth 100000
set_option maxHeartbeats 64000000
namespace Go.Proofs.YtkcnjajklnoahaaGreatDoor
open Go Go.Abs
def Qak (p:Pl) (e:En) (fu al:Bool):Nat->FuncId->List AV->AV:=fun _ f _=>if f=999999 then .junk else if f=75 then Xk (Qy e.it p.its) else if f=92 then bkAV (Qcr e.bo p.bks) else if f=93 then .bool fu else .bool al
theorem bkG (p:Pl) (id:Int):∃ (b:Bk) (kb:Bool),bkAV (Qcr id p.bks)=.tup [.agg (Qt b),.bool kb]/\(kb=true->Qcr id p.bks=some b)/\(kb=false->Qcr id p.bks=none):=by
 cases hf:Qcr id p.bks with
 | none=>exact ⟨⟨0,0,0,0,0,0,0⟩,false,rfl,(fun h=>by cases h),(fun _=>rfl)⟩
 | some y=>exact ⟨y,true,rfl,(fun _=>rfl),(fun h=>by cases h)⟩
theorem vEntry62 (p:Pl) (e:En) (hal:e.al.length<=1000) (hit:p.its.length<=1000) (hbk:p.bks.length<=1000) (hln:1<=p.ln/\p.ln<=100000000) (hfr:e.fr<=2000) :
  Pure Tryz.prog gl0 62 [.agg (Qa p),.agg (Qd e)] (.bool (Uh p e&&(Qaw p e&&fulB p e))):=by
 have k75:=item75 p e.it (by omega)
 obtain ⟨y,kn,hE,hki,hk0,hk1,hk2⟩:=itG p e.it
 rw [hE] at k75
 have k92:=booking92 p e.bo (by omega)
 obtain ⟨b,kb,hBk,hb1,hb2⟩:=bkG p e.bo
 rw [hBk] at k92
 have k93:=fulfils93 e b (by omega)
 obtain ⟨fu,hfu⟩:∃ fu,fulX e b=fu:=⟨_,rfl⟩
 rw [hfu] at k93
 simp only [Qa,Qf,Qd,Qt] at k75 k92 k93
 refine Ql code62 (Qak p e fu (Qaw p e)) (by simp) ?_
 by_cases c1:kn=true
 rotate_left
 ·have c1':kn=false:=by simpa using c1
  subst c1'
  have hTf:Uh p e=false:=by unfold Uh;rw [hk2 rfl]
  simp [sc62,Qd,Qf,Qt,Qa,Qak,hE,rs62,hTf]
  exact k75
 subst c1
 have hy:=hk1 rfl
 have k94:=vAlts94 p e y hy hal hit
 simp only [Qa,Qf,Qd] at k94
 have hfit:Uh p e=if y.ki=5 then false else if wi e.fr 1 y.fr=false then false else if y.ki≠4/\e.fr≠y.fr then false else decide (0<=e.ea)&&(decide (e.ea<=e.la)&&decide (e.la<=p.ln - e.fr)):=by unfold Uh;rw [hy]
 by_cases c2:y.ki=5
 ·have hTf:Uh p e=false:=by rw [hfit,if_pos c2]
  rw [c2] at k75
  simp [sc62,Qd,Qf,Qt,Qa,Qak,hE,c2,rs62,hTf]
  exact k75
 rw [if_neg c2] at hfit
 by_cases c3:e.fr < 1
 ·have hTf:Uh p e=false:=by rw [hfit,if_pos (by simp [wi];omega)]
  simp [sc62,Qd,Qf,Qt,Qa,Qak,hE,c2,c3,rs62,hTf]
  exact k75
 by_cases c4:y.fr < e.fr
 ·have hTf:Uh p e=false:=by rw [hfit,if_pos (by simp [wi];omega)]
  simp [sc62,Qd,Qf,Qt,Qa,Qak,hE,c2,c3,c4,rs62,hTf]
  exact k75
 rw [if_neg (by simp [wi];omega)] at hfit
 by_cases c5:y.ki≠4/\e.fr≠y.fr
 ·have hTf:Uh p e=false:=by rw [hfit,if_pos c5]
  obtain ⟨d1,d2⟩:=c5
  simp [sc62,Qd,Qf,Qt,Qa,Qak,hE,c2,c3,c4,d1,d2,rs62,hTf]
  exact k75
 rw [if_neg c5] at hfit
 have hws:IntKind.i64.wrap (p.ln - e.fr)=p.ln - e.fr:=by rw [Qh]<;>omega
 have hd:(y.ki=4/\True)\/(y.ki≠4/\e.fr=y.fr):=by
  by_cases h:y.ki=4
  ·exact .inl ⟨h,trivial⟩
  ·exact .inr ⟨h,Classical.byContradiction fun h2=>c5 ⟨h,h2⟩⟩
 by_cases c6:e.ea < 0
 ·have hTf:Uh p e=false:=by rw [hfit];simp;omega
  rcases hd with ⟨d1,d2⟩ | ⟨d1,d2⟩
  all_goals
   simp only [d1,d2] at k75 c3 c4
   simp [sc62,Qd,Qf,Qt,Qa,Qak,hE,c2,c3,c4,d1,d2,c6,rs62,hTf]
   exact k75
 by_cases c7:e.la < e.ea
 ·have hTf:Uh p e=false:=by rw [hfit];simp;omega
  rcases hd with ⟨d1,d2⟩ | ⟨d1,d2⟩
  all_goals
   simp only [d1,d2] at k75 c3 c4
   simp [sc62,Qd,Qf,Qt,Qa,Qak,hE,c2,c3,c4,d1,d2,c6,c7,rs62,hTf]
   exact k75
 by_cases c8:p.ln - e.fr < e.la
 ·have hTf:Uh p e=false:=by rw [hfit];simp;omega
  rcases hd with ⟨d1,d2⟩ | ⟨d1,d2⟩
  all_goals
   simp only [d1,d2] at k75 c3 c4 c8 hws
   simp [sc62,Qd,Qf,Qt,Qa,Qak,hE,c2,c3,c4,d1,d2,c6,c7,hws,c8,rs62,hTf]
   exact k75
 have hTt:Uh p e=true:=by rw [hfit];simp;omega
 have hful:fulB p e=(decide (e.bo=0)||(kb&&fu)):=by
  unfold fulB
  by_cases h0:e.bo=0
  ·rw [if_pos h0,decide_eq_true h0];rfl
  ·rw [if_neg h0,decide_eq_false h0,Bool.false_or]
   cases kb with
   | false=>rw [hb2 rfl];rfl
   | true =>
    rw [hb1 rfl,<- hfu]
    unfold fulX
    by_cases hr:b.re=0
    ·simp only [hr,if_true,Bool.true_and]
     exact decide_eq_decide.2 ⟨fun h=>h.symm,fun h=>h.symm⟩
    ·simp only [hr,if_false,Bool.true_and]
 obtain ⟨fl,hfl⟩:∃ fl,fulB p e=fl:=⟨_,rfl⟩
 obtain ⟨A,hA⟩:∃ A,Qaw p e=A:=⟨_,rfl⟩
 rw [hA] at k94
 rw [hfl] at hful
 by_cases h0:e.bo=0
 ·have hfl1:fl=true:=by rw [hful];simp [h0]
  rw [h0] at k92 hBk
  cases A<;>rcases hd with ⟨d1,d2⟩ | ⟨d1,d2⟩
  all_goals
   simp only [d1,d2,h0] at k75 k92 k93 k94 c3 c4 c8 hws
   simp [sc62,Qd,Qf,Qt,Qa,Qak,hE,hBk,c2,c3,c4,d1,d2,c6,c7,hws,c8,h0,hA,rs62,hTt,hfl,hfl1]
   exact ⟨k75,k92,k93,k94⟩
 ·cases A<;>cases kb<;>cases fu<;>rcases hd with ⟨d1,d2⟩ | ⟨d1,d2⟩
  all_goals
   simp only [d1,d2] at k75 k92 k93 k94 c3 c4 c8 hws
   simp [sc62,Qd,Qf,Qt,Qa,Qak,hE,hBk,c2,c3,c4,d1,d2,c6,c7,hws,c8,h0,hA,rs62,hTt,hfl,hful]
   exact ⟨k75,k92,k93,k94⟩
open Go Go.Abs
def entX (p:Pl) (e:En):Bool:=Uh p e&&(Qaw p e&&fulB p e)
def Yb (p:Pl):Nat->FuncId->List AV->AV:=fun _ f l=>if f=999999 then .junk else if f=58 then .bool (Xq p.nu p.de) else if f=59 then .bool (Xl p.of p.sh) else if f=60 then .bool (Us p) else if f=61 then .bool (Kt p) else (match l with
 | [_,.agg [.int _ a,.int _ b,.int _ c,.int _ d,.int _ e,.int _ g,.sl _ rows]]=>.bool (entX p ⟨a,b,c,d,e,g,rows.map unSp⟩)
 | [.agg [.int _ a,.int _ b,.int _ c,.int _ d,.int _ e,.int _ f,.int _ g,.int _ h]]=>.bool (Xc ⟨a,b,c,d,e,f,g,h⟩)
 | _=>.junk)
def InvV33a (p:Pl) (T:Bool) (f:Nat->AV) (m:AM):Prop:=∃ (i:Nat) (Z:List (List AV)),f 7=I i/\i<=p.ens.length/\allE p ((p.ens.take i).map fun e=>e.id) (p.ens.drop i)=T/\m=⟨Qa p::Z,[],fun _=>.gone,0⟩
def InvV33b (p:Pl) (i:Nat) (e:En) (Z:List (List AV)) (f:Nat->AV) (m:AM):Prop:=∃ (k:Nat),f 10=I k/\k<=i/\e.id ∉ (p.ens.take k).map (fun e=>e.id)/\m=⟨Qa p::(Z++[Qd e]),[],fun _=>.gone,0⟩
def InvV33c (p:Pl) (U:Bool) (f:Nat->AV) (m:AM):Prop:=∃ (i:Nat) (Z:List (List AV)),f 11=I i/\i<=p.cls.length/\allC (p.cls.drop i)=U/\m=⟨Qa p::Z,[],fun _=>.gone,0⟩
theorem vValid33 (p:Pl) (h:PlK p) (hc:p.cls.length<=400):Pure Tryz.prog gl0 33 [.agg (Qa p)] (.bool (pvB p)):=by
 obtain ⟨l1,l2,l3,l4,l5,l6,l7,l8,l9,l10⟩:=h
 have k58:=Wy p.nu p.de
 have k59:=Wx p.of p.sh (by omega)
 have k60:=vItems60 p l3
 have k61:=vBooks61 p l5 l3
 simp only [Qa] at k60 k61
 have badS:Zk p=false->pvB p=false:=fun h=>by rw [pvB,h];rfl
 refine Ql code33 (Yb p) (by simp) ?_
 by_cases c1:¬ p.ch < 0
 rotate_left
 ·have c1':=Classical.not_not.1 c1
  have hTf:pvB p=false:=badS (by simp [Zk,wi];omega)
  simp [sc33,Qa,Yb,c1',rs33,hTf]
  exact ⟨k58,k59⟩
 by_cases c2:¬ 40<=p.ch
 rotate_left
 ·have c2':=Classical.not_not.1 c2
  have hTf:pvB p=false:=badS (by simp [Zk,wi];omega)
  simp [sc33,Qa,Yb,c1,c2',rs33,hTf]
  exact ⟨k58,k59⟩
 by_cases c3:Xq p.nu p.de=true
 rotate_left
 ·have c3':=Bool.eq_false_iff.2 c3
  have hTf:pvB p=false:=badS (by simp [Zk,c3'])
  rw [c3'] at k58
  simp [sc33,Qa,Yb,c1,c2,c3',rs33,hTf]
  exact ⟨k58,k59⟩
 rw [c3] at k58
 by_cases c4:Xl p.of p.sh=true
 rotate_left
 ·have c4':=Bool.eq_false_iff.2 c4
  have hTf:pvB p=false:=badS (by simp [Zk,c4'])
  rw [c4'] at k59
  simp [sc33,Qa,Yb,c1,c2,c3,c4',rs33,hTf]
  exact ⟨k58,k59⟩
 rw [c4] at k59
 by_cases c5:¬ p.ep < 0
 rotate_left
 ·have c5':=Classical.not_not.1 c5
  have hTf:pvB p=false:=badS (by simp [Zk,wi,c3,c4];omega)
  simp [sc33,Qa,Yb,c1,c2,c3,c4,c5',rs33,hTf]
  exact ⟨k58,k59⟩
 by_cases c6:¬ 9000000000 < p.ep
 rotate_left
 ·have c6':=Classical.not_not.1 c6
  have hTf:pvB p=false:=badS (by simp [Zk,wi,c3,c4];omega)
  simp [sc33,Qa,Yb,c1,c2,c3,c4,c5,c6',rs33,hTf]
  exact ⟨k58,k59⟩
 by_cases c7:¬ p.rg < 1
 rotate_left
 ·have c7':=Classical.not_not.1 c7
  have hTf:pvB p=false:=badS (by simp [Zk,wi,c3,c4];omega)
  simp [sc33,Qa,Yb,c1,c2,c3,c4,c5,c6,c7',rs33,hTf]
  exact ⟨k58,k59⟩
 by_cases c8:¬ 8 < p.rg
 rotate_left
 ·have c8':=Classical.not_not.1 c8
  have hTf:pvB p=false:=badS (by simp [Zk,wi,c3,c4];omega)
  simp [sc33,Qa,Yb,c1,c2,c3,c4,c5,c6,c7,c8',rs33,hTf]
  exact ⟨k58,k59⟩
 by_cases c9:¬ p.ln < 1
 rotate_left
 ·have c9':=Classical.not_not.1 c9
  have hTf:pvB p=false:=badS (by simp [Zk,wi,c3,c4];omega)
  simp [sc33,Qa,Yb,c1,c2,c3,c4,c5,c6,c7,c8,c9',rs33,hTf]
  exact ⟨k58,k59⟩
 by_cases c10:¬ 100000000 < p.ln
 rotate_left
 ·have c10':=Classical.not_not.1 c10
  have hTf:pvB p=false:=badS (by simp [Zk,wi,c3,c4];omega)
  simp [sc33,Qa,Yb,c1,c2,c3,c4,c5,c6,c7,c8,c9,c10',rs33,hTf]
  exact ⟨k58,k59⟩
 have hso:Zk p=true:=by simp [Zk,wi,c3,c4];omega
 have hn1:¬ 4000 < p.ens.length:=by omega
 have hn1':¬ (4000:Int) < (p.ens.length:Int):=by omega
 have hn2:¬ 400 < p.cls.length:=by omega
 have hn2':¬ (400:Int) < (p.cls.length:Int):=by omega
 cases e1:Us p with
 | false =>
  have hTf:pvB p=false:=by rw [pvB,hso,e1];rfl
  rw [e1] at k60
  simp [sc33,Qa,Yb,c1,c2,c3,c4,c5,c6,c7,c8,c9,c10,e1,rs33,hTf]
  exact ⟨k58,k59,k60,k61⟩
 | true =>
 rw [e1] at k60
 cases e2:Kt p with
 | false =>
  have hTf:pvB p=false:=by rw [pvB,hso,e1,e2];rfl
  rw [e2] at k61
  simp [sc33,Qa,Yb,c1,c2,c3,c4,c5,c6,c7,c8,c9,c10,e1,e2,rs33,hTf]
  exact ⟨k58,k59,k60,k61⟩
 | true =>
 rw [e2] at k61
 obtain ⟨T,hT⟩:∃ T,allE p [] p.ens=T:=⟨_,rfl⟩
 obtain ⟨U,hU⟩:∃ U,allC p.cls=U:=⟨_,rfl⟩
 have hpv:pvB p=(T&&U):=by
  have q1:decide (p.ens.length<=4000)=true:=decide_eq_true (by omega)
  have q2:decide (p.cls.length<=400)=true:=decide_eq_true (by omega)
  rw [pvB,hso,e1,e2,entsB,Qau,hT,hU,q1,q2];rfl
 rw [hpv]
 simp [sc33,Qa,Yb,c1,c2,c3,c4,c5,c6,c7,c8,c9,c10,e1,e2,hn1,hn1',hn2,hn2']
 refine ⟨k58,k59,k60,k61,?_⟩
 clear k58 k59 k60 k61 badS hpv
 refine Qg w33_0 (InvV33a p T) (fun f _=>p.ens.length - (numOf (f 7)).toNat) ?_ ?_
 ·exact ⟨0,[],by simp,by omega,by simpa using hT,by simp [Qa]⟩
 ·clear hT
  rintro f m ⟨i,Z,f7,hi,ht,rfl⟩
  rcases Nat.lt_or_ge i p.ens.length with hlt | hge
  ·obtain ⟨e,hx⟩:=getS hlt
   have hrow:=Zi hx
   have hilt:(i:Int) < (p.ens.length:Int):=by omega
   have hw:=wrS i (by omega)
   have hem:=List.mem_of_getElem? hx
   have k62:=vEntry62 p e (l6 e hem) l3 l5 (by omega) (l10 e hem).2
   obtain ⟨v,hv⟩:∃ v,entX p ⟨e.id,e.it,e.fr,e.ea,e.la,e.bo,e.al⟩=v:=⟨_,rfl⟩
   have hv2:(Uh p e&&(Qaw p e&&fulB p e))=v:=hv
   rw [hv2] at k62
   simp only [Qa,Qd] at k62
   rw [Qr hx,allE,entB,hv2] at ht
   by_cases d1:v=true
   rotate_left
   ·have d1':=Bool.eq_false_iff.2 d1
    subst d1'
    have hTf:T=false:=by rw [<- ht];cases wi e.id 1 1000000<;>simp
    simp [f7,hlt,hilt,hrow,Qd,Qa,Yb,hv,w33_0,rs33,hTf]
    exact k62
   subst d1
   by_cases d2:e.id < 1
   ·have hTf:T=false:=by rw [<- ht,show wi e.id 1 1000000=false by simp [wi];omega];rfl
    simp [f7,hlt,hilt,hrow,Qd,Qa,Yb,hv,w33_0,rs33,hTf,d2]
    exact k62
   by_cases d3:1000000 < e.id
   ·have hTf:T=false:=by rw [<- ht,show wi e.id 1 1000000=false by simp [wi];omega];rfl
    simp [f7,hlt,hilt,hrow,Qd,Qa,Yb,hv,w33_0,rs33,hTf,d2,d3]
    exact k62
   have hwi:wi e.id 1 1000000=true:=by simp [wi];omega
   rw [hwi] at ht
   simp [f7,hlt,hilt,hrow,Qd,Qa,Yb,hv,w33_0,d2,d3]
   refine ⟨k62,?_⟩
   clear k62
   refine Qg w33_1 (InvV33b p i e Z) (fun f _=>i - (numOf (f 10)).toNat) ?_ ?_
   ·exact ⟨0,by simp,by omega,by simp,by simp [Qa,Qd]⟩
   ·rintro g m ⟨k,g10,hk,hxk,rfl⟩
    rcases Nat.lt_or_ge k i with klt | kge
    ·obtain ⟨y,hy⟩:∃ x,p.ens[k]? = some x:=⟨_,List.getElem?_eq_getElem (by omega)⟩
     have hrowy:=Zi hy
     have kilt:(k:Int) < (i:Int):=by omega
     have kltB:k < p.ens.length:=by omega
     have hwk:=wrS k (by omega)
     have htk:(p.ens.take (k+1)).map (fun e=>e.id)=(p.ens.take k).map (fun e=>e.id)++[y.id]:=by rw [Zq hy,List.map_append];rfl
     by_cases q:y.id=e.id
     ·have hTf:T=false:=by
       have hmem:e.id∈(p.ens.take i).map (fun e=>e.id):=by
        rw [<- q]
        have hyt:(p.ens.take i)[k]? = some y:=by rw [List.getElem?_take];simp [klt,hy]
        exact List.mem_map.2 ⟨y,List.mem_of_getElem? hyt,rfl⟩
       rw [<- ht,decide_eq_true hmem];rfl
      simp [g10,klt,kilt,kltB,hrowy,Qa,Qd,w33_1,q,rs33,hTf]
     ·simp [g10,klt,kilt,kltB,hrowy,Qa,Qd,w33_1,q,hwk]
      refine ⟨ag ?_,⟨k+1,by simp,by omega,?_,by simp [Qa,Qd]⟩,by omega⟩
      ·repeat (first | exact Qb _ _ | refine Qc _ rfl ?_)
      ·rw [htk,List.mem_append,List.mem_singleton]
       rintro (h | h)
       ·exact hxk h
       ·exact q h.symm
    ·obtain rfl:k=i:=by omega
     have kin:¬ (k:Int) < (k:Int):=by omega
     have htk:(p.ens.take (k+1)).map (fun e=>e.id)=(p.ens.take k).map (fun e=>e.id)++[e.id]:=by rw [Zq hx,List.map_append];rfl
     rw [decide_eq_false hxk,<- htk] at ht
     simp [g10,kin,Qa,Qd,w33_1,w33_0,hw]
     refine ⟨ag ?_,⟨k+1,Z++[Qd e],by simp,by omega,by simpa using ht,by simp [Qa,Qd]⟩,by simp [f7];omega⟩
     repeat (first | exact Qb _ _ | refine Qc _ rfl ?_)
  ·have hin:¬ (i:Int) < (p.ens.length:Int):=by omega
   rw [List.drop_eq_nil_of_le hge,allE] at ht
   subst ht
   simp [f7,hin,Nat.not_lt.2 hge,Qa,w33_0]
   refine Qg w33_2 (InvV33c p U) (fun f _=>p.cls.length - (numOf (f 11)).toNat) ?_ ?_
   ·exact ⟨0,Z,by simp,by omega,by simpa using hU,by simp [Qa]⟩
   ·clear hU
    rintro g m ⟨k,Z,g11,hk,hu,rfl⟩
    rcases Nat.lt_or_ge k p.cls.length with klt | kge
    ·obtain ⟨c,hy⟩:=getS klt
     have hrowc:Qk (p.cls.map Qi) k=Qi c:=Qv (by simp [hy])
     have kilt:(k:Int) < (p.cls.length:Int):=by omega
     have hwk:=wrS k (by omega)
     have k63:=Qay c
     obtain ⟨v,hv⟩:∃ v,Xc ⟨c.ki,c.it,c.fr,c.to,c.re,c.n,c.a,c.b⟩=v:=⟨_,rfl⟩
     have hv2:Xc c=v:=hv
     rw [hv2] at k63
     simp only [Qi] at k63
     rw [Qr hy,allC,hv2] at hu
     cases v with
     | false =>
      have hUf:U=false:=by rw [<- hu];rfl
      simp [g11,klt,kilt,hrowc,Qi,Qa,Yb,hv,w33_2,rs33,hUf]
      exact k63
     | true =>
      have hu:allC (p.cls.drop (k+1))=U:=by rw [<- hu];rfl
      simp [g11,klt,kilt,hrowc,Qi,Qa,Yb,hv,w33_2,hwk]
      refine ⟨k63,ag ?_,⟨k+1,Z,by simp,by omega,hu,by simp [Qa]⟩,by omega⟩
      repeat (first | exact Qb _ _ | refine Qc _ rfl ?_)
    ·have kin:¬ (k:Int) < (p.cls.length:Int):=by omega
     rw [List.drop_eq_nil_of_le kge,allC] at hu
     simp [g11,kin,Nat.not_lt.2 kge,Qa,w33_2,rs33,<- hu]
end Go.Proofs.YtkcnjajklnoahaaGreatDoor
