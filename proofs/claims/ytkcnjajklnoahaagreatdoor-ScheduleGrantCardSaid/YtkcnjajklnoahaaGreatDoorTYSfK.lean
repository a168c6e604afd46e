import Derived.Test.YtkcnjajklnoahaaGreatDoorTYScZ
set_option linter.unusedVariables false
set_option linter.unusedSimpArgs false
set_option maxRecDepth 100000
set_option maxHeartbeats 64000000
namespace Go.Proofs.YtkcnjajklnoahaaGreatDoor
open Go Go.Abs
def caRowR (r:Rt) (c:Ca):List AV:=Jc (.own 3 2) (.own 0 5) r (.own 1 7) (.own 2 8) c.p++[.sl .ro (c.ids.map Qp),I c.wh,I c.at_,.sl .ro (c.past.map Qu)]
theorem wk_plR (a b c d e:Rt) (p:Pl):Wk (.agg (Jc a b c d e p)) (.agg (Qa p)) :=
 wk_agg ⟨Wk.refl _,Wk.refl _,Wk.refl _,Wk.refl _,Wk.sl _ _,Wk.refl _,Wk.refl _,Wk.refl _,Wk.refl _,Wk.sl _ _,Wk.sl _ _,Wk.sl _ _,Wk.sl _ _,trivial⟩
def orcBy (c:Ca):Nat->FuncId->List AV->AV:=fun _ f _=>if f=24 then .gd false .junk else if f=35 then .sl .ro ((fewI (shP c.p) c.ids c.wh).map Qp) else .sl .ro ((c.past.take 6).map Qu)
theorem bound15y (c:Ca) (h:Ca64 c) (B:List (List AV)) (Y:YT) (K:AV->AM->Prop) (hK:∀ (ex:List (List AV)) (exl:List Nat) (r:Rt),exl[2]? = some (min 15 c.p.cls.length)->(r=.nil\/∃ k,r=.own k 7)->K (.agg (caRowR r (bndC c))) ⟨B++ex,exl,fun _=>.gone,0⟩) :
  EffY Tryz.prog gl0 Y 15 [.agg (Qw c)] ⟨B,[],fun _=>.gone,0⟩ K:=by
 have k35:=fun (a b d e g:Rt)=>Qz (l:=[.agg (Jc a b d e g (shP c.p)),.sl .ro (c.ids.map Qp),I c.wh]) (few35 (shP c.p) c.ids c.wh h.wh (by simp [shP];omega) h.idl) ⟨wk_plR _ _ _ _ _ _,Wk.refl _,Wk.refl _,trivial⟩
 have k36:=some_pure c.past
 rw [List.map_take] at k36
 obtain ⟨P,hP⟩:∃ P,shP c.p=P:=⟨_,rfl⟩
 have hr:∀ r,caRowR r (bndC c)=Jc (.own 3 2) (.own 0 5) r (.own 1 7) (.own 2 8) P++[.sl .ro ((fewI P c.ids c.wh).map Qp),I c.wh,I c.at_,.sl .ro ((c.past.take 6).map Qu)]:=fun r=>by rw [<- hP];rfl
 have hs:=short24y c.p h.p
 rw [hP] at k35 hs
 simp only [hr] at hK
 simp only [Jc] at k35 hs hK
 refine Yx code15 (orcBy c) (by simp) ?_
 simp [sc15,Qw,Qa,orcBy,hP]
 simp only [Qa] at hs
 refine hs (B++[_,_]) _ _ (fun ex exl r h1 h2 h3=>?_)
 rcases h3 with rfl | ⟨k,rfl⟩
 ·have hK2:∀ (ex:List (List AV)) (row:List AV),row=caRowR .nil (bndC c)->K (.agg row) ⟨B++ex,exl,fun _=>.gone,0⟩:=fun ex row e=>by rw [e,hr];exact hK ex exl .nil h1 (.inl rfl)
  simp [sc15,Qw,Qa,orcBy,hP,rs15]
  refine ⟨k35 _ _ _ _ _,k36,hK2 _ _ ?_⟩
  rw [hr]
  simp [Jc,List.map_take]
 ·have hK2:∀ (ex:List (List AV)) (row:List AV),row=caRowR (.own k 7) (bndC c)->K (.agg row) ⟨B++ex,exl,fun _=>.gone,0⟩:=fun ex row e=>by rw [e,hr];exact hK ex exl (.own k 7) h1 (.inr ⟨k,rfl⟩)
  simp [sc15,Qw,Qa,orcBy,hP,rs15]
  refine ⟨k35 _ _ _ _ _,k36,hK2 _ _ ?_⟩
  rw [hr]
  simp [Jc,List.map_take]
def gCl (it fr to:Int):Cl:=⟨1,it,fr,to,255,0,0,0⟩
def orcL7 (R1 R2:AV):Nat->FuncId->List AV->AV:=fun d f l=>if f=999999 then .junk else if f=14 then .bool true else if f=15 then .gd false .junk else if f=16 then (if d=26 then R1 else R2) else .bool true
theorem earR_of7 (p:Pl) (at_:Int) (past:List Ad) (ids:List Int):∃ (r:Rt) (l:List Sp) (b:Bool),(r=.nil\/r=.ro)/\Ui p at_ past ids=.tup [.sl r (l.map Qe),.bool b]/\l.length<=ids.length/\(b=true->Qq p at_ past ids=some l)/\(∀ l',Qq p at_ past ids=some l'->b=true/\l=l'):=by
 cases he:Qq p at_ past ids with
 | none=>exact ⟨.nil,[],false,.inl rfl,by rw [Qaf he];rfl,by simp,(fun h=>by cases h),(fun l' h=>by cases h)⟩
 | some l=>exact ⟨rtE l,l,true,by unfold rtE;split<;>simp,Ko he,by rw [ear_len he];exact Nat.le_refl _,(fun _=>rfl),(fun l' h=>by cases h;exact ⟨rfl,rfl⟩)⟩
theorem law7 (c:Ca) (item fr to:Int) (h:Ca64 c) (h1:Xx item) (h2:Xx fr) (h3:Xx to):Pure Tryz.prog gl0 7 [.agg (Qw c),I item,I fr,I to] (.bool true):=by
 have k14:=sane14
 have b:=bnd_of h
 have hcl:(bndC c).p.cls.length=min 15 c.p.cls.length:=by simp [bndC,shP]
 have k15:=bound15y c h
 obtain ⟨B,hB⟩:∃ B,bndC c=B:=⟨_,rfl⟩
 rw [hB] at k15 b hcl
 have hkB:=b.k
 have hC15:=b.cl15
 have hkC:PlK (Yy B.p (gCl item fr to)):={ hkB with cls:=by simp [Yy];omega }
 have hp6:=b.past
 have hi10:=b.ids
 have k16:=fun (x1 x2 x3 x4 x5:Rt)=>Qz (l:=[.agg (Jc x1 x2 x3 x4 x5 B.p),.sl .ro (B.ids.map Qp),I B.at_,.sl .ro (B.past.map Qu)]) (ear16 b) ⟨wk_plR _ _ _ _ _ _,Wk.refl _,Wk.refl _,Wk.refl _,trivial⟩
 have k16g:=fun (x1 x2 x3 x4 x5:Rt)=>Qz (l:=[.agg (Jc x1 x2 x3 x4 x5 (Yy B.p (gCl item fr to))),.sl .ro (B.ids.map Qp),I B.at_,.sl .ro (B.past.map Qu)]) (Kn hkC b.at_ (past:=B.past) (by omega) (ids:=B.ids) (by omega)) ⟨wk_plR _ _ _ _ _ _,Wk.refl _,Wk.refl _,Wk.refl _,trivial⟩
 obtain ⟨r1,l1,b1,hr1,hR1,hl1,hs1,ht1⟩:=earR_of7 B.p B.at_ B.past B.ids
 obtain ⟨r2,l2,b2,hr2,hR2,hl2,hs2,ht2⟩:=earR_of7 (Yy B.p (gCl item fr to)) B.at_ B.past B.ids
 have hg:b1=true->b2=true/\l2.length=l1.length/\nlB l2 l1=true:=fun e=>by
  obtain ⟨l',q1,q2,q3⟩:=ear_grant (gCl item fr to) rfl (hs1 e)
  obtain ⟨q4,rfl⟩:=ht2 l' q1
  exact ⟨q4,q2,q3⟩
 rw [hR1] at k16
 rw [hR2] at k16g
 have k28:=fun (x y:Rt)=>notLater28w l2 l1 (by omega) (by omega) x y
 simp only [caRowR,Qw,Jc,Qa,Yy,gCl,List.map_append,List.map_cons,List.map_nil,Qi] at k15 k16 k16g
 refine Ql code7 (orcL7 (.tup [.sl r1 (l1.map Qe),.bool b1]) (.tup [.sl r2 (l2.map Qe),.bool b2])) (by simp) ?_
 simp [sc7,Qw,Qa,orcL7]
 refine ⟨k14,?_⟩
 refine k15 [_] _ _ (fun ex exl r q1 q2=>?_)
 rw [<- hcl] at q1
 have hrw:∀ (row:List AV),((∃ a,a∈B.p.cls/\Qi a=row)\/row=[I 1,I item,I fr,I to,I 255,I 0,I 0,I 0])->row.length=8:=fun row hx=>by
  rcases hx with ⟨a,_,rfl⟩ | rfl<;>rfl
 cases b1 with
 | false =>
  rcases hr1 with rfl | rfl<;>rcases hr2 with rfl | rfl<;>rcases q2 with rfl | ⟨k,rfl⟩
  all_goals
   simp [sc7,Qw,Qa,orcL7,rs7]
   exact ⟨k16 _ _ _ _ _,⟨q1,hrw,by omega⟩,k16g _ _ _ _ _⟩
 | true =>
  obtain ⟨rfl,hll,hnl⟩:=hg rfl
  rw [hnl] at k28
  rcases hr1 with rfl | rfl<;>rcases hr2 with rfl | rfl<;>rcases q2 with rfl | ⟨k,rfl⟩
  all_goals
   simp [sc7,Qw,Qa,orcL7,rs7,hll]
   exact ⟨k16 _ _ _ _ _,⟨q1,hrw,by omega⟩,k16g _ _ _ _ _,k28 _ _⟩
end Go.Proofs.YtkcnjajklnoahaaGreatDoor
