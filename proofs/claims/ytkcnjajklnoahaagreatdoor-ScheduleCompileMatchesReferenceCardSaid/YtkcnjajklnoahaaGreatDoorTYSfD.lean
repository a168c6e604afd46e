import Derived.Test.YtkcnjajklnoahaaGreatDoorTYScL
import Derived.Test.YtkcnjajklnoahaaGreatDoorTYScO
set_option linter.unusedVariables false
set_option linter.unusedSimpArgs false
set_option maxRecDepth 100000
set_option maxHeartbeats 64000000
namespace Go.Proofs.YtkcnjajklnoahaaGreatDoor
open Go Go.Abs
theorem exP_K (rg:Int):PlK (exP rg):=by
 refine ⟨by simp [exP],by simp [exP],by simp [exP],by simp [exP],by simp [exP],?_,by simp [exP],?_,?_,?_⟩<;>simp [exP]
theorem ear_a:Ui (exP 1) 0 [] [5,6]=.tup [.sl .ro [[I 5,I 25],[I 6,I 175]],.bool true]:=by
 rw [Ui,show Qq (exP 1) 0 [] [5,6]=some [(5,25),(6,175)] from ex_a];rfl
theorem ear_no:Ui (exP 1) 0 [] [6,5]=.tup [.sl .nil [],.bool false]:=by
 rw [Ui,show Qq (exP 1) 0 [] [6,5]=none from ex_no]
theorem ear_b:Ui (exP 1) 70 [] [5,6]=.tup [.sl .ro [[I 5,I 70],[I 6,I 220]],.bool true]:=by
 rw [Ui,show Qq (exP 1) 70 [] [5,6]=some [(5,70),(6,220)] from ex_b];rfl
theorem con_c:conR (exP 1) 95 [] [5,6]=.sl .ro [[I 5],[I 6]]:=by
 have h0:okE (bdP (exP 1) 95 []) [5,6]=false:=by rw [Vq,show Qq (exP 1) 95 [] [5,6]=none from ex_c];rfl
 have h1:okE (bdP (exP 1) 95 []) [6]=true:=by rw [Vq,show Qq (exP 1) 95 [] [6]=some [(6,95)] from ex_c6];rfl
 have h2:okE (bdP (exP 1) 95 []) [5]=true:=by rw [Vq,show Qq (exP 1) 95 [] [5]=some [(5,95)] from ex_c5];rfl
 rw [conR,Yf,if_neg (by rw [h0];simp),conG,dif_pos (by simp)]
 simp only [List.take_zero,List.nil_append,List.drop_succ_cons,List.drop_zero]
 rw [if_pos h1,conG,dif_pos (by simp)]
 simp only [List.take_succ_cons,List.take_zero,List.drop_succ_cons,List.drop_zero,List.cons_append,List.nil_append,List.drop_nil]
 rw [if_pos h2,conG,dif_neg (by simp)]
 rfl
theorem cho_d:choR (exP 1) 95 [] [5,6]=.tup [.sl .ro [[I 5,I 95]],.sl .ro [[I 6]]]:=by
 have h0:okE (bdP (exP 1) 95 []) [5,6]=false:=by rw [Vq,show Qq (exP 1) 95 [] [5,6]=none from ex_c];rfl
 have h2:okE (bdP (exP 1) 95 []) [5]=true:=by rw [Vq,show Qq (exP 1) 95 [] [5]=some [(5,95)] from ex_c5];rfl
 have r5:rdS (exP 1) 5=2:=by decide
 have r6:rdS (exP 1) 6=2:=by decide
 have hk:Yp (exP 1) 95 [] [5,6]=[true,false]:=by
  unfold Yp Uq Yw
  simp [List.range_succ,Ux,r5,r6,Xa,h0,h2]
 rw [choR,hk]
 simp only [Xa]
 simp only [beq_self_eq_true,if_true,show ((false==true)=true)=False by simp,show ((true==false)=true)=False by simp,if_false]
 rw [show Qq (exP 1) 95 [] [5]=some [(5,95)] from ex_c5]
 rfl
theorem com_f:Vv (exP 1)=.tup [.sl .ro [[I 5,I 25],[I 6,I 175]],.sl .nil [],I 0]:=by
 rw [Vv,if_neg (by rw [ex_v];simp),show Zt (exP 1) (Xv (exP 1)) [] [] 0 (-1)=some [(5,25),(6,175)] from ex_a];rfl
theorem com_h:Vv (exP 0)=.tup [.sl .nil [],.sl .nil [],I 80]:=by rw [Vv,if_pos ex_w]
def exN:List AV:=[I 0,I 25,I 1,I 0,.sl .nil [],I 1000,I 1,I 300,I 1,.sl .full [[I 1,I 5,I 10,I 0,I 0],[I 2,I 2,I 50,I 3,I 0],[I 3,I 2,I 50,I 7,I 0]],
 .sl .full [[I 5,I 2,I 50,I 0,I 100,I 0,.sl .nil []],[I 6,I 3,I 50,I 0,I 240,I 0,.sl .nil []]],.sl .nil [],
 .sl .full [[I 1,I 2,I 1001,I 1100,I 255,I 0,I 0,I 0],[I 1,I 3,I 1000,I 1100,I 255,I 0,I 0,I 0],[I 5,I 0,I 0,I 0,I 0,I 4,I 3,I 7]]]
theorem example34a:Pure Tryz.prog gl0 34 [] (.agg exN):=by
 refine Ql code34 (fun _ _ _=>.junk) (by simp) ?_
 simp [sc34,rs34,exN]
theorem example34:Pure Tryz.prog gl0 34 [] (.agg (Qa (exP 1))) :=
 Vg example34a (wk_agg ⟨Wk.refl _,Wk.refl _,Wk.refl _,Wk.refl _,Wk.sl _ _,Wk.refl _,Wk.refl _,Wk.refl _,Wk.refl _,Wk.sl _ _,wk_ens [(⟨5,2,50,0,100,0,[]⟩,.nil),(⟨6,3,50,0,240,0,[]⟩,.nil)] .full,Wk.sl _ _,Wk.sl _ _,trivial⟩)
def orcSn:Nat->FuncId->List AV->AV:=fun d f _ =>
 if f=34 then .agg (Qa (exP 1)) else if d=21 then .tup [.sl .ro [[I 5,I 25],[I 6,I 175]],.bool true] else if d=27 then .tup [.sl .nil [],.bool false] else
 if d=33 then .tup [.sl .ro [[I 5,I 70],[I 6,I 220]],.bool true] else if d=38 then .sl .ro [[I 5],[I 6]] else if d=42 then .tup [.sl .ro [[I 5,I 95]],.sl .ro [[I 6]]] else
 if d=47 then .tup [.sl .ro [[I 5,I 25],[I 6,I 175]],.sl .nil [],I 0] else if d=54 then .tup [.sl .nil [],.sl .nil [],I 80] else .bool true
theorem sane14:Pure Tryz.prog gl0 14 [] (.bool true):=by
 have hK:=exP_K 1
 have k34:=example34
 have q21:=Kn hK (at_:=0) ⟨by omega,by omega⟩ (past:=[]) (by simp) (ids:=[5,6]) (by simp)
 have q27:=Kn hK (at_:=0) ⟨by omega,by omega⟩ (past:=[]) (by simp) (ids:=[6,5]) (by simp)
 have q33:=Kn hK (at_:=70) ⟨by omega,by omega⟩ (past:=[]) (by simp) (ids:=[5,6]) (by simp)
 have q38:=conflict22 hK (at_:=95) ⟨by omega,by omega⟩ (past:=[]) (by simp) (ids:=[5,6]) (by simp)
 have q42:=choose19 hK (at_:=95) ⟨by omega,by omega⟩ (past:=[]) (by simp) (ids:=[5,6]) (by simp)
 rw [ear_a] at q21
 rw [ear_no] at q27
 rw [ear_b] at q33
 rw [con_c] at q38
 rw [cho_d] at q42
 have q21':Abs.Pure Tryz.prog gl0 16 [.agg (Qa (exP 1)),.sl .full [[I 5],[I 6]],I 0,.sl .nil []] _:=Qz q21 ⟨Wk.refl _,Wk.sl _ _,Wk.refl _,Wk.sl _ _,trivial⟩
 have q27':Abs.Pure Tryz.prog gl0 16 [.agg (Qa (exP 1)),.sl .full [[I 6],[I 5]],I 0,.sl .nil []] _:=Qz q27 ⟨Wk.refl _,Wk.sl _ _,Wk.refl _,Wk.sl _ _,trivial⟩
 have q33':Abs.Pure Tryz.prog gl0 16 [.agg (Qa (exP 1)),.sl .full [[I 5],[I 6]],I 70,.sl .nil []] _:=Qz q33 ⟨Wk.refl _,Wk.sl _ _,Wk.refl _,Wk.sl _ _,trivial⟩
 have q38':Abs.Pure Tryz.prog gl0 22 [.agg (Qa (exP 1)),.sl .full [[I 5],[I 6]],I 95,.sl .nil []] _:=Qz q38 ⟨Wk.refl _,Wk.sl _ _,Wk.refl _,Wk.sl _ _,trivial⟩
 have q42':Abs.Pure Tryz.prog gl0 19 [.agg (Qa (exP 1)),.sl .full [[I 5],[I 6]],I 95,.sl .nil []] _:=Qz q42 ⟨Wk.refl _,Wk.sl _ _,Wk.refl _,Wk.sl _ _,trivial⟩
 have q47:=compile21 (exP 1) ⟨by simp [exP],by simp [exP],by simp [exP],by simp [exP],by simp [exP],by simp [exP]⟩ (by simp [exP]) (by simp [exP]) (by simp [exP]) (by simp [exP])
 have q54:=compile21 (exP 0) ⟨by simp [exP],by simp [exP],by simp [exP],by simp [exP],by simp [exP],by simp [exP]⟩ (by simp [exP]) (by simp [exP]) (by simp [exP]) (by simp [exP])
 rw [com_f] at q47
 rw [com_h] at q54
 have sS:∀ l:List Sp,l.length<=10->Abs.Pure Tryz.prog gl0 18 [.sl .ro (l.map Qe),.sl .full (l.map Qe)] (.bool true):=fun l hl=>by
  have:=sameS_pure l l (by omega)
  rw [decide_eq_true rfl] at this
  exact Qz this ⟨Wk.refl _,Wk.sl _ _,trivial⟩
 have sI:∀ l:List Int,l.length<=10->Abs.Pure Tryz.prog gl0 21 [.sl .ro (l.map Qp),.sl .full (l.map Qp)] (.bool true):=fun l hl=>by
  have:=sameI_pure l l (by omega)
  rw [decide_eq_true rfl] at this
  exact Qz this ⟨Wk.refl _,Wk.sl _ _,trivial⟩
 have s64:=sS [(5,25),(6,175)] (by simp)
 have s78:=sS [(5,70),(6,220)] (by simp)
 have s89:=sS [(5,95)] (by simp)
 have s83:=sI [5,6] (by simp)
 have s94:=sI [6] (by simp)
 have s103:=sameS_pure [(5,25),(6,175)] [(5,25),(6,175)] (by simp)
 rw [decide_eq_true rfl] at s103
 refine Ql code14 orcSn (by simp) ?_
 simp [sc14,rs14,orcSn,Qa,exP,Qf,Qd,Qi,Qt]
 exact ⟨k34,q21',q27',q33',q38',q42',q47,q54,s64,s78,s83,s89,s94,s103⟩
open Go Go.Abs
theorem shP_K {p:Pl} (h:Pl64 p):PlK (shP p):=by
 have hen:∀ x∈(shP p).ens,∃ e∈p.ens,x=shE e:=fun x hx=>by
  obtain ⟨e,he,rfl⟩:=List.mem_map.1 hx
  exact ⟨e,List.mem_of_mem_take he,rfl⟩
 refine ⟨by simp [shP];omega,by simp [shP];omega,by simp [shP];omega,by simp [shP];omega,by simp [shP];omega,fun x hx=>?_,h.ln,fun x hx=>?_,fun x hx=>?_,fun x hx=>?_⟩
 ·obtain ⟨e,he,rfl⟩:=hen x hx
  simp [shE];omega
 ·obtain ⟨e,he,rfl⟩:=hen x hx
  exact (h.ens e he).1.2.2.2.1
 ·obtain ⟨e,he,rfl⟩:=hen x hx
  have h1:=(h.ens e he).1.2.2.2.2.1
  unfold Xx at h1
  simp only [shE]
  split<;>omega
 ·obtain ⟨e,he,rfl⟩:=hen x hx
  have h1:=(h.ens e he).1.2.2.1
  unfold Xx at h1
  simp only [shE]
  split
  ·rename_i hc
   rw [Int.tmod_eq_emod_of_nonneg (by omega)];omega
  ·omega
theorem shP_S {p:Pl} (h:Pl64 p):PlS (shP p):=by
 obtain ⟨l1,l2,l3,l4,l5,l6,_,_,_,_⟩:=shP_K h
 exact ⟨by omega,by omega,by omega,by omega,by omega,fun e he=>by have:=l6 e he;omega⟩
structure Bnd (c:Ca):Prop where
 k:PlK c.p
 s:PlS c.p
 en8:c.p.ens.length<=8
 cl15:c.p.cls.length<=15
 ids:c.ids.length<=10
 at_:Xx c.at_
 past:c.past.length<=6
theorem bnd_of {c:Ca} (h:Ca64 c):Bnd (bndC c) :=
 ⟨shP_K h.p,shP_S h.p,by simp [bndC,shP];omega,by simp [bndC,shP];omega,fewI_len _ _ _ (by simp [shP];omega),h.at_,by simp [bndC];omega⟩
def orcBn (c:Ca):Nat->FuncId->List AV->AV:=fun _ f _=>if f=24 then .agg (Qa (shP c.p)) else if f=35 then .sl .ro ((fewI (shP c.p) c.ids c.wh).map Qp) else .sl .ro ((c.past.take 6).map Qu)
theorem bound15 (c:Ca) (h:Ca64 c):Pure Tryz.prog gl0 15 [.agg (Qw c)] (.agg (Qw (bndC c))):=by
 have k24:=short24 c.p h.p
 have k35:=few35 (shP c.p) c.ids c.wh h.wh (by simp [shP];omega) h.idl
 have k36:=some_pure c.past
 rw [List.map_take] at k36
 obtain ⟨P,hP⟩:∃ P,shP c.p=P:=⟨_,rfl⟩
 rw [hP] at k24 k35
 have hr:Qw (bndC c)=Qa P++[.sl .ro ((fewI P c.ids c.wh).map Qp),I c.wh,I c.at_,.sl .ro ((c.past.take 6).map Qu)]:=by rw [<- hP];rfl
 rw [hr]
 simp only [Qa] at k24 k35
 refine Ql code15 (orcBn c) (by simp) ?_
 simp [sc15,rs15,Qw,Qa,orcBn,hP]
 exact ⟨k24,k35,k36⟩
def rtE {α:Type} (l:List α):Rt:=if l=[] then .nil else .ro
theorem Qbo (l:List Sp):Vm l=.sl (rtE l) (l.map Qe):=by
 unfold Vm rtE
 by_cases h:l=[]
 ·rw [if_pos h,if_pos h,h];rfl
 ·rw [if_neg h,if_neg h]
theorem slI8_rt (l:List Int):Ww l=.sl (rtE l) (l.map Qp):=by
 unfold Ww rtE
 by_cases h:l=[]
 ·rw [if_pos h,if_pos h,h];rfl
 ·rw [if_neg h,if_neg h]
@[simp] theorem cvn_rtE {α:Type} (m:AM) (d:Nat) (l:List α) (rows:List (List AV)):cvn m (d+1) (.sl (rtE l) rows)=.sl (rtE l) rows:=by
 unfold rtE;split<;>rfl
theorem Qaf {p:Pl} {at_:Int} {past:List Ad} {ids:List Int} (h:Qq p at_ past ids=none):Ui p at_ past ids=.tup [.sl .nil [],.bool false]:=by rw [Ui,h]
theorem Ko {p:Pl} {at_:Int} {past:List Ad} {ids:List Int} {l:List Sp} (h:Qq p at_ past ids=some l):Ui p at_ past ids=.tup [.sl (rtE l) (l.map Qe),.bool true]:=by rw [Ui,h];simp only [Qbo]
theorem ear16 {c:Ca} (h:Bnd c):Pure Tryz.prog gl0 16 [.agg (Qa c.p),.sl .ro (c.ids.map Qp),I c.at_,.sl .ro (c.past.map Qu)] (Ui c.p c.at_ c.past c.ids) :=
 Kn h.k h.at_ (by have:=h.past;omega) (by have:=h.ids;omega)
theorem Qcg {l:List Sp} (hl:l.length<=1000000000) (r1 r2:Rt):Pure Tryz.prog gl0 18 [.sl r1 (l.map Qe),.sl r2 (l.map Qe)] (.bool true):=by
 have:=sameS_pure l l hl
 rw [decide_eq_true rfl] at this
 exact Qz this ⟨Wk.sl _ _,Wk.sl _ _,trivial⟩
theorem sameI_self {l:List Int} (hl:l.length<=1000000000) (r1 r2:Rt):Pure Tryz.prog gl0 21 [.sl r1 (l.map Qp),.sl r2 (l.map Qp)] (.bool true):=by
 have:=sameI_pure l l hl
 rw [decide_eq_true rfl] at this
 exact Qz this ⟨Wk.sl _ _,Wk.sl _ _,trivial⟩
open Go Go.Abs
theorem ear_ids {p:Pl} {at_:Int} {past:List Ad} {ids:List Int} {l:List Sp} (h:Qq p at_ past ids=some l):l.map (·.1)=ids:=earG_ids h
theorem ear_len {p:Pl} {at_:Int} {past:List Ad} {ids:List Int} {l:List Sp} (h:Qq p at_ past ids=some l):l.length=ids.length:=by
 have:=congrArg List.length (ear_ids h)
 simpa using this
theorem ear_nodup {p:Pl} {at_:Int} {past:List Ad} {ids:List Int} {l:List Sp} (h:Qq p at_ past ids=some l):(l.map (·.1)).Nodup:=by
 rw [ear_ids h];exact (earG_nodup h).1
theorem past_AB (p:Pl) (past:List Ad):RelA p (Qas (past.filter Zn)) (Jj past []) (Ua p past [])/\RelB p (Qas (past.filter Zn)) (Jj past []) (Ua p past []):=by
 obtain ⟨hA,hB⟩:=past_rel p past [] [] [] ⟨RelA.nil p,RelB.nil p⟩
 rw [List.append_nil,<- endH_past] at hA hB
 exact ⟨hA,hB⟩
theorem ear_holds {p:Pl} {at_:Int} {past:List Ad} {ids:List Int} {l:List Sp} (h:Qq p at_ past ids=some l):hldB p at_ ids l (past.filter Zn) at_ (-1)=true :=
 (hldB_iff (Int.le_refl _)).2 (earG_holds (past_AB p past).2 h)
theorem pastE_with (p:Pl) (c:Cl):∀ (past:List Ad) (en:List (Int×Int)),Ua (Yy p c) past en=Ua p past en
 | [],en=>rfl
 | a::r,en=>by
  rw [Ua,Ua,pastE_with p c r]
  rfl
theorem ear_grant {p:Pl} {at_:Int} {past:List Ad} {ids:List Int} {l:List Sp} (c:Cl) (hc:c.ki=1) (h:Qq p at_ past ids=some l) :
  ∃ l',Qq (Yy p c) at_ past ids=some l'/\l'.length=l.length/\nlB l' l=true:=by
 obtain ⟨l',h1,h2⟩:=earG_part (More.with p c hc) (List.Sublist.refl ids) (fun k=>Int.le_refl _) (LeE.refl _) (by omega:at_<=max at_ 0) h
 rw [<- pastE_with p c] at h1
 have h1:Qq (Yy p c) at_ past ids=some l':=h1
 exact ⟨l',h1,by rw [ear_len h1,ear_len h],h2.nl (ear_nodup h)⟩
theorem con_none {p:Pl} {at_:Int} {past:List Ad} {ids:List Int} (h:(Qq p at_ past ids).isSome=true):Yf (bdP p at_ past) ids=[]:=(Qag (bdP p at_ past) ids).1 h
theorem con_some {p:Pl} {at_:Int} {past:List Ad} {ids:List Int} (h:Qq p at_ past ids=none):Qq p at_ past (Yf (bdP p at_ past) ids)=none/\Yf (bdP p at_ past) ids≠[]/\(Yf (bdP p at_ past) ids).Sublist ids /\
  ∀ j,j < (Yf (bdP p at_ past) ids).length->∃ l,Qq p at_ past ((Yf (bdP p at_ past) ids).take j++(Yf (bdP p at_ past) ids).drop (j+1))=some l:=by
 obtain ⟨h1,h2,h3,h4⟩:=(Qag (bdP p at_ past) ids).2 (by rw [Vq,h];rfl)
 rw [Vq] at h1
 refine ⟨by simpa using h1,h2,h3,fun j hj=>?_⟩
 have:=h4 j hj
 rw [Vq] at this
 exact Option.isSome_iff_exists.1 this
open Go Go.Abs
def nlQ (x y:Sp):Bool:=!(decide (x.1=y.1)&&decide (y.2 < x.2))
theorem nlB_cons (x:Sp) (r b:List Sp):nlB (x::r) b=(b.all (nlQ x)&&nlB r b):=rfl
def InvNa (a b:List Sp) (T:Bool) (f:Nat->AV) (m:AM):Prop:=∃ (i:Nat),f 5=I i/\i<=a.length/\nlB (a.drop i) b=T/\m=⟨[],[],fun _=>.gone,0⟩
def InvNb (x:Sp) (b:List Sp) (V:Bool) (f:Nat->AV) (m:AM):Prop:=∃ (k:Nat),f 6=I k/\k<=b.length/\(b.drop k).all (nlQ x)=V/\m=⟨[],[],fun _=>.gone,0⟩
theorem notLater28 (a b:List Sp) (ha:a.length<=1000000) (hb:b.length<=1000000):Pure Tryz.prog gl0 28 [.sl .ro (a.map Qe),.sl .ro (b.map Qe)] (.bool (nlB a b)):=by
 refine Ql code28 (fun _ _ _=>.junk) (by simp) ?_
 obtain ⟨T,hT⟩:∃ T,nlB a b=T:=⟨_,rfl⟩
 rw [hT]
 simp [sc28]
 refine Qg w28_0 (InvNa a b T) (fun f _=>a.length - (numOf (f 5)).toNat) ?_ ?_
 ·exact ⟨0,by simp,by omega,hT,rfl⟩
 ·rintro f m ⟨i,h5,hi,ht,rfl⟩
  rcases Nat.lt_or_ge i a.length with hlt | hge
  ·obtain ⟨x,hx⟩:=getS hlt
   have hrow:=Xu hx
   have hilt:(i:Int) < (a.length:Int):=by omega
   have hw:=wrS i (by omega)
   rw [Qr hx,nlB_cons] at ht
   obtain ⟨V,hV⟩:∃ V,b.all (nlQ x)=V:=⟨_,rfl⟩
   rw [hV] at ht
   simp [h5,hlt,hilt,w28_0]
   refine Qg w28_1 (InvNb x b V) (fun f _=>b.length - (numOf (f 6)).toNat) ?_ ?_
   ·exact ⟨0,by simp,by omega,hV,rfl⟩
   ·rintro g m ⟨k,g6,hk,hv,rfl⟩
    rcases Nat.lt_or_ge k b.length with klt | kge
    ·obtain ⟨y,hy⟩:=getS klt
     have hrowy:=Xu hy
     have kilt:(k:Int) < (b.length:Int):=by omega
     have hwk:=wrS k (by omega)
     rw [Qr hy,List.all_cons] at hv
     by_cases e1:x.1=y.1
     ·by_cases e2:y.2 < x.2
      ·have hq:nlQ x y=false:=by simp [nlQ,e1,e2]
       rw [hq,Bool.false_and] at hv
       subst hv
       rw [Bool.false_and] at ht
       simp [h5,g6,hlt,hilt,klt,kilt,hrow,hrowy,Qe,w28_1,w28_0,e1,e2,rs28,<- ht]
      ·have hq:nlQ x y=true:=by simp [nlQ,e1,e2]
       rw [hq,Bool.true_and] at hv
       simp [h5,g6,hlt,hilt,klt,kilt,hrow,hrowy,Qe,w28_1,w28_0,e1,e2,hwk]
       refine ⟨ag ?_,⟨k+1,by simp,by omega,hv,rfl⟩,by omega⟩
       repeat (first | exact Qb _ _ | refine Qc _ rfl ?_)
     ·have hq:nlQ x y=true:=by simp [nlQ,e1]
      rw [hq,Bool.true_and] at hv
      simp [h5,g6,hlt,hilt,klt,kilt,hrow,hrowy,Qe,w28_1,w28_0,e1,hwk]
      refine ⟨ag ?_,⟨k+1,by simp,by omega,hv,rfl⟩,by omega⟩
      repeat (first | exact Qb _ _ | refine Qc _ rfl ?_)
    ·have kin:¬ (k:Int) < (b.length:Int):=by omega
     rw [List.drop_eq_nil_of_le kge] at hv
     have hv:true=V:=hv
     subst hv
     rw [Bool.true_and] at ht
     simp [h5,g6,kin,Nat.not_lt.2 kge,w28_1,w28_0,hw]
     refine ⟨ag ?_,⟨i+1,by simp,by omega,ht,rfl⟩,by omega⟩
     repeat (first | exact Qb _ _ | refine Qc _ rfl ?_)
  ·have hin:¬ (i:Int) < (a.length:Int):=by omega
   rw [List.drop_eq_nil_of_le hge] at ht
   have ht:true=T:=ht
   simp [h5,hin,Nat.not_lt.2 hge,w28_0,rs28,<- ht]
open Go Go.Abs
theorem notLater28w (a b:List Sp) (ha:a.length<=1000000) (hb:b.length<=1000000) (r1 r2:Rt):Pure Tryz.prog gl0 28 [.sl r1 (a.map Qe),.sl r2 (b.map Qe)] (.bool (nlB a b)) :=
 Qz (notLater28 a b ha hb) ⟨Wk.sl _ _,Wk.sl _ _,trivial⟩
end Go.Proofs.YtkcnjajklnoahaaGreatDoor
