import Derived.Test.YtjmgelbfndnpjaaGreatDoorPPSpB
import Derived.Test.YtjmgelbfndnpjaaGreatDoorPPSpL
set_option linter.unusedVariables false
set_option linter.unusedSimpArgs false
set_option maxRecDepth 100000
set_option maxHeartbeats 64000000
namespace Go.Proofs.YtjmgelbfndnpjaaGreatDoor
open Go Go.Abs
theorem delete_none (Y:YT) (rt:Rt) (hrt:∀ m,cvn m 6 (.sl rt [])=.sl rt []) (m:AM) (K:AV->AM->Prop) (hK:K (.sl rt []) m):EffY Tryz.prog gl0 Y 142 [.sl rt [],.fn 132 [] []] m K:=by
 have h:=Yh (l:=[.sl rt [],.fn 132 [] []]) (indexEm_pure [] (by simp)) ⟨Wk.sl rt [],Wk.refl _,trivial⟩
 simp only [fstE] at h
 refine Zb code142 (orcDel (-1)) (by simp) ?_
 simp [sc142,rs142,orcDel,hrt]
 exact ⟨h,hK⟩
def orcN:Nat->FuncId->List AV->AV:=fun d f _=>if f=999999 then (if d=12 then .mobj 0 [] else if d=70 then .mobj 0 [] else .junk) else .gd false .junk
theorem mx_max (a b:Int):(if a < b then b else a)=max a b:=by split<;>omega
def OutIs (B:List (List AV)) (id:Nat) (out:List Sp) (a:AV):Prop :=
 (out=[]/\a=.sl .nil [])\/∃ id2,out≠[]/\a=.bs id2 0 out.length 2/\id2≠id/\id2 < B.length/\Qf B id2=fl2 out
theorem snoc_of_ne {out:List Sp} (h:out≠[]):∃ p u,out=p++[u]:=⟨out.dropLast,out.getLast h,(List.dropLast_concat_getLast h).symm⟩
theorem normal_pure0 (l:List Sp) (hl:l.length<=100000000):Pure Tryz.prog gl0 117 [.sl .ro (l.map Qd)] (if Xb l=[] then .sl .nil [] else .sl .ro ((Xb l).map Qd)):=by
 refine Qn code117 orcN (by simp) ?_
 by_cases hne:l=[]
 ·subst hne
  have hn:Xb []=[]:=by simp [Xb,mrg]
  simp [sc117,orcN,hn]
  refine Ql w117_0 (fun f m=>f 15=I 0/\f 3=.sl .full []/\m=⟨[[]],[],fun _=>.gone,0⟩) (fun _ _=>0) ?_ ?_
  ·simp
  rintro f m ⟨h15,h3,rfl⟩
  simp [h15,h3,w117_0]
  refine delete_none _ _ (fun _=>rfl) _ _ ?_
  refine sortIv_none _ _ _ _ ?_
  simp
  refine Ql w117_1 (fun f m=>f 31=I 0/\f 6=.sl .nil []/\m=⟨[[]],[],fun _=>.gone,0⟩) (fun _ _=>0) ?_ ?_
  ·simp
  rintro f m ⟨h31,h6,rfl⟩
  simp [h31,h6,w117_1,rs117]
 ·have hlen0:l.length≠0:=by simpa using hne
  have hpos:0 < l.length:=by omega
  simp [sc117,orcN,hne]
  refine ⟨⟨by omega,by omega⟩,?_⟩
  refine Ql w117_0 (fun f m=>∃ (i id:Nat) (B:List (List AV)),i<=l.length/\f 15=I i/\f 3=.bs id 0 i 2/\m=⟨B,[],fun _=>.gone,0⟩/\id < B.length/\Qf B id≠[]/\i*2<=(Qf B id).length/\(Qf B id).take (i*2)=fl2 (l.take i)/\(0 < i->Qf B id=fl2 (l.take i)))
   (fun f _=>l.length - (numOf (f 15)).toNat) ?_ ?_
  ·exact ⟨0,0,[List.replicate (l.length*2) .junk],by omega,by simp,by simp,rfl,by simp,by simp;omega,by simp,by simp,by simp⟩
  ·rintro f m ⟨i,id,B,hi,h15,h3,rfl,hid,hnn,hle,htk,heq⟩
   rcases Nat.lt_or_ge i l.length with hlt | hge
   ·obtain ⟨s,hs⟩:=getS hlt
    have hrow:=Zm hs
    have hilt:(i:Int) < (l.length:Int):=by omega
    have hw:=wrS i (by omega)
    have hra:∀ x,Qf (B++x) id=Qf B id:=fun x=>Qh hid
    have hsa:∀ x v,(B++x).set id v=B.set id v++x:=fun x v=>Vq v hid
    have hfl:fl2 (l.take (i+1))=fl2 (l.take i)++[I s.1,I s.2]:=by rw [List.take_add_one,hs,Wd];rfl
    simp [h15,h3,hilt,hlt,hrow,w117_0,hw,hra,hsa,hnn,hle,htk,orcN]
    refine ⟨⟨by omega,by omega⟩,ag ?_,⟨i+1,by omega,by simp,?_⟩,by omega⟩
    ·repeat (first | exact Qa _ _ | refine Qb _ rfl ?_)
    ·refine ⟨B.length+1,⟨rfl,rfl⟩,by omega,?_⟩
     have e:Qf (B.set id []++[[AV.int IntKind.i64 s.fst,AV.int IntKind.i64 s.snd],fl2 (List.take i l)++[AV.int IntKind.i64 s.fst,AV.int IntKind.i64 s.snd]]) (B.length+1)=fl2 (l.take (i+1)):=by
      have:=Zn (B.set id []) [[AV.int IntKind.i64 s.fst,AV.int IntKind.i64 s.snd],fl2 (List.take i l)++[AV.int IntKind.i64 s.fst,AV.int IntKind.i64 s.snd]] 1
      rw [List.length_set] at this
      rw [this,hfl];rfl
     rw [e]
     have e2:(fl2 (l.take (i+1))).length=(i+1)*2:=by rw [Vb,List.length_take];congr 1;omega
     refine ⟨?_,by omega,?_,fun _=>rfl⟩
     ·intro h;rw [h] at e2;simp at e2
     ·rw [<- e2,List.take_length]
   ·obtain rfl:i=l.length:=by omega
    have hB:=heq hpos
    rw [List.take_length] at hB
    have hin:¬ ((l.length:Nat):Int) < (l.length:Int):=by omega
    simp [h15,h3,w117_0,orcN]
    refine delete_eff _ l (by omega) B _ _ _ id hid hne hB _ ?_
    intro B1 z hkp hB1 hz
    have hid1:id < B1.length:=Nat.lt_of_lt_of_le hid hkp.1
    rw [Wd] at hB1
    have hsome:B1[id]? = some (fl2 (l.filter ne_)++fl2 z):=by rw [rowN_get hid1,hB1]
    refine sortIv_eff _ (l.filter ne_) (by omega) _ id (fl2 z) hsome ?_ _ ?_
    ·intro h
     have:=congrArg List.length h
     rw [List.length_append,Vb,Vb] at this
     simp at this;omega
    intro d hp hs
    have hres:=mrg_eq hp hs
    have hdl:d.length=(l.filter ne_).length:=hp.length_eq
    rw [<- hdl]
    have hdlen:d.length<=100000000:=by omega
    simp [AM.wr]
    refine Ql w117_1 (fun f m=>∃ (i:Nat) (B:List (List AV)) (out:List Sp),i<=d.length/\f 31=I i/\m=⟨B,[],fun _=>.gone,0⟩/\out.length<=i/\id < B.length/\Qf B id=fl2 d++fl2 z/\mrg out (d.drop i)=Xb l/\OutIs B id out (f 6))
     (fun f _=>d.length - (numOf (f 31)).toNat) ?_ ?_
    ·exact ⟨0,B1.set id (fl2 d++fl2 z),[],by omega,by simp,rfl,by simp,by simpa using hid1,Vn _ hid1,by simpa using hres,.inl ⟨rfl,by simp⟩⟩
    ·rintro f m ⟨i,B,out,hi,h31,rfl,hol,hid,hB,hm,hout⟩
     rcases Nat.lt_or_ge i d.length with hlt | hge
     ·obtain ⟨v,hv⟩:=getS hlt
      have hilt:(i:Int) < (d.length:Int):=by omega
      have hw:=wrS i (by omega)
      have hg:(fl2 d++fl2 z).drop (i*2)=I v.1::I v.2::(fl2 (d.drop (i+1))++fl2 z):=by
       rw [List.drop_append_of_le_length (by rw [Vb];omega),fl2_get hv];rfl
      have hdr:d.drop i=v::d.drop (i+1):=by
       rw [List.drop_eq_getElem_cons hlt,(List.getElem?_eq_some_iff.1 hv).2]
      rw [hdr,mrg] at hm
      have hra:∀ x,Qf (B++x) id=fl2 d++fl2 z:=fun x=>by rw [Qh hid,hB]
      rcases hout with ⟨rfl,h6⟩ | ⟨id2,hon,h6,hn2,hid2,hB2⟩
      ·simp [h31,h6,hilt,hlt,hB,hra,hg,w117_1,hw,orcN]
       refine ⟨ag ?_,⟨i+1,by omega,by simp,?_⟩,by omega⟩
       ·repeat (first | exact Qa _ _ | refine Qb _ rfl ?_)
       ·refine ⟨[v],by simp,by omega,by simpa [mst] using hm,.inr ⟨B.length+1,by simp,by simp,by omega,by simp,by simp⟩⟩
      ·obtain ⟨p,u,rfl⟩:=snoc_of_ne hon
       have hol':p.length+1<=i:=by simpa using hol
       have hgl:(fl2 (p++[u])).drop (p.length*2+1)=[I u.2]:=by
        have:=fl2_get1 (l:=p++[u]) (i:=p.length) (s:=u) (by simp)
        simpa using this
       have hset:=fl2_set1 (p++[u]) p.length u (max u.2 v.2) (by simp)
       have hset':(p++[u]).set p.length (u.1,max u.2 v.2)=p++[(u.1,max u.2 v.2)]:=by simp
       rw [hset'] at hset
       have hwp:IntKind.i64.wrap (p.length:Int)=(p.length:Int):=by rw [Qe]<;>omega
       have hpl:(0:Int) < (p.length:Int)+1:=by omega
       have hra2:∀ x,Qf (B++x) id2=fl2 (p++[u]):=fun x=>by rw [Qh hid2,hB2]
       have hsa:∀ x v,(B++x).set id2 v=B.set id2 v++x:=fun x v=>Vq v hid2
       have hfl:=Vb (p++[u])
       simp only [List.length_append,List.length_cons,List.length_nil,Nat.zero_add] at hfl h6
       have hmst:mst (p++[u]) v=if v.1<=u.2 then p++[(u.1,max u.2 v.2)] else p++[u]++[v]:=by simp [mst]
       rw [hmst] at hm
       by_cases hc:v.1<=u.2
       ·rw [if_pos hc] at hm
        simp [h31,h6,hilt,hlt,hB,hra,hra2,hsa,hg,hgl,w117_1,hw,hwp,hpl,hc,mx_max,hset,hfl,orcN]
        refine ⟨by omega,⟨by omega,by omega⟩,ag ?_,⟨i+1,by omega,by simp,?_⟩,by omega⟩
        ·repeat (first | exact Qa _ _ | refine Qb _ rfl ?_)
        ·refine ⟨p++[(u.1,max u.2 v.2)],by simp;omega,by omega,by rw [Qh (by simpa using hid),Zu _ hn2,hB],hm,.inr ⟨id2,by simp,by simp,hn2,by simp;omega,by rw [Qh (by simpa using hid2),Vn _ hid2]⟩⟩
       ·rw [if_neg hc] at hm
        simp [h31,h6,hilt,hlt,hB,hra,hra2,hsa,hg,hgl,w117_1,hw,hwp,hpl,hc,hfl,orcN]
        refine ⟨by omega,⟨⟨by omega,by simp [Wd]⟩,by omega⟩,ag ?_,⟨i+1,by omega,by simp,?_⟩,by omega⟩
        ·repeat (first | exact Qa _ _ | refine Qb _ rfl ?_)
        ·have htk:(fl2 (p++[u])).take ((p.length+1)*2)=fl2 (p++[u]):=List.take_of_length_le (by rw [hfl];exact Nat.le_refl _)
         rw [htk]
         refine ⟨p++[u]++[v],by simp;omega,by omega,by rw [Qh (by simpa using hid),Zu _ hn2,hB],hm,.inr ⟨B.length+1,by simp,by simp,by omega,by simp,?_⟩⟩
         have:=Zn (B.set id2 []) [[I v.1,I v.2],fl2 (p++[u])++[AV.int IntKind.i64 v.fst,AV.int IntKind.i64 v.snd]] 1
         rw [List.length_set] at this
         rw [this,Wd (p++[u]) [v]]
         rfl
     ·obtain rfl:i=d.length:=by omega
      rw [List.drop_length,mrg] at hm
      rcases hout with ⟨rfl,h6⟩ | ⟨id2,hon,h6,hn2,hid2,hB2⟩
      ·simp [h31,h6,w117_1,rs117,<- hm]
      ·have hcv:=Qae ⟨B,[],fun _=>.gone,0⟩ 4 (fl2_ok out)
       have hch:=Qaz out
       have hfl:=Vb out
       simp [h31,h6,w117_1,rs117,<- hm,hon,hB2,hcv,hch,hfl]
theorem Yd (l:List Sp) (hl:l.length<=100000000):Pure Tryz.prog gl0 117 [.sl .ro (l.map Qd)] (.sl .ro ((Xb l).map Qd)):=by
 have h:=normal_pure0 l hl
 by_cases hn:Xb l=[]
 ·rw [if_pos hn] at h
  rw [hn]
  exact Yc h (Wk.sl _ _)
 ·rw [if_neg hn] at h
  exact h
open Go Go.Abs
theorem mn_min (a b:Int):(if b < a then b else a)=min a b:=by split<;>omega
def spAgg (s:Sp):List AV:=[.agg [I s.1,I s.2]]
theorem ovl_iter (A B:List Sp) (hA:A.length<=100000000) (hB:B.length<=100000000) :
  Iter Tryz.prog gl0 157 [] [.ep [.sl .ro (A.map Qd)] 0,.ep [.sl .ro (B.map Qd)] 0] ((ovl (A.length+B.length) A B).map spAgg):=by
 intro Y l m K hF
 refine Zb code157 (fun _ _ _=>.junk) (by simp) ?_
 simp [sc157]
 refine Ql w157_0 (fun f mm=>∃ (i j:Nat),i<=A.length/\j<=B.length/\f 4=I i/\f 5=I j/\Fold (Y l) K ((ovl (A.length - i+(B.length - j)) (A.drop i) (B.drop j)).map spAgg) mm)
  (fun f _=>A.length - (numOf (f 4)).toNat+(B.length - (numOf (f 5)).toNat)) ?_ ?_
 ·exact ⟨0,0,by omega,by omega,by simp,by simp,by simpa using hF⟩
 ·rintro f mm ⟨i,j,hi,hj,h4,h5,hF⟩
  by_cases hend:i=A.length\/j=B.length
  ·have hnil:ovl (A.length - i+(B.length - j)) (A.drop i) (B.drop j)=[]:=by
    rcases hend with rfl | rfl
    ·rw [List.drop_length];cases A.length - A.length+(B.length - j)<;>rfl
    ·rw [List.drop_length];cases A.length - i+(B.length - B.length) with
     | zero=>rfl
     | succ n=>cases A.drop i<;>rfl
   rw [hnil] at hF
   have hK:K mm:=hF mm (Ext.refl _)
   by_cases h1:i < A.length
   ·have hjn:¬ (j:Int) < (B.length:Int):=by omega
    have hilt:(i:Int) < (A.length:Int):=by omega
    simp [h4,h5,h1,hilt,hjn,w157_0,rs157]
    exact hK
   ·have hin:¬ (i:Int) < (A.length:Int):=by omega
    simp [h4,h5,h1,hin,w157_0,rs157]
    exact hK
  ·have h1:i < A.length:=by omega
   have h2:j < B.length:=by omega
   obtain ⟨s,hs⟩:=getS h1
   obtain ⟨t,ht⟩:=getS h2
   have hrs:=Zm hs
   have hrt:=Zm ht
   have hda:A.drop i=s::A.drop (i+1):=by rw [List.drop_eq_getElem_cons h1,(List.getElem?_eq_some_iff.1 hs).2]
   have hdb:B.drop j=t::B.drop (j+1):=by rw [List.drop_eq_getElem_cons h2,(List.getElem?_eq_some_iff.1 ht).2]
   have hn:A.length - i+(B.length - j)=(A.length - i+(B.length - j) - 1)+1:=by omega
   have hn1:A.length - i+(B.length - j) - 1=A.length - (i+1)+(B.length - j):=by omega
   have hn2:A.length - i+(B.length - j) - 1=A.length - i+(B.length - (j+1)):=by omega
   have hilt:(i:Int) < (A.length:Int):=by omega
   have hjlt:(j:Int) < (B.length:Int):=by omega
   have hwi:=wrS i (by omega)
   have hwj:=wrS j (by omega)
   rw [hda,hdb,hn,ovl,<- hda,<- hdb] at hF
   by_cases hc:max s.1 t.1 < min s.2 t.2
   ·rw [if_pos hc] at hF
    simp only [List.singleton_append,List.map_cons] at hF
    simp [h4,h5,h1,h2,hilt,hjlt,hrs,hrt,w157_0,mx_max,mn_min,hc]
    refine hF _ (Ext.box mm _) _ (fun m2 hF2=>?_) (fun m2 hK=>?_)
    ·by_cases hd:s.2 < t.2
     ·rw [if_pos hd,hn1] at hF2
      have hd':¬ t.2<=s.2:=by omega
      simp [h1,h2,hilt,hjlt,hrs,hrt,hd,hd',hwi]
      refine ⟨ag ?_,⟨i+1,by omega,j,by omega,by simp,rfl,hF2⟩,by omega⟩
      repeat (first | exact Qa _ _ | refine Qb _ rfl ?_)
     ·rw [if_neg hd,hn2] at hF2
      have hd':t.2<=s.2:=by omega
      simp [h1,h2,hilt,hjlt,hrs,hrt,hd,hd',hwj]
      refine ⟨ag ?_,⟨i,by omega,j+1,by omega,rfl,by simp,hF2⟩,by omega⟩
      repeat (first | exact Qa _ _ | refine Qb _ rfl ?_)
    ·simp [rs157]
     exact hK _ (Ext.refl _)
   ·rw [if_neg hc] at hF
    simp only [List.nil_append] at hF
    have hF':=Fold.ext hF (Ext.box mm [[I (max s.1 t.1),I (min s.2 t.2)]])
    by_cases hd:s.2 < t.2
    ·rw [if_pos hd,hn1] at hF'
     simp [h4,h5,h1,h2,hilt,hjlt,hrs,hrt,w157_0,mx_max,mn_min,hc,hd,hwi]
     refine ⟨ag ?_,⟨i+1,by omega,j,by omega,by simp,rfl,hF'⟩,by omega⟩
     repeat (first | exact Qa _ _ | refine Qb _ rfl ?_)
    ·rw [if_neg hd,hn2] at hF'
     simp [h4,h5,h1,h2,hilt,hjlt,hrs,hrt,w157_0,mx_max,mn_min,hc,hd,hwj]
     refine ⟨ag ?_,⟨i,by omega,j+1,by omega,rfl,by simp,hF'⟩,by omega⟩
     repeat (first | exact Qa _ _ | refine Qb _ rfl ?_)
theorem overlaps_pure (A B:List Sp):Pure Tryz.prog gl0 123 [.sl .ro (A.map Qd),.sl .ro (B.map Qd)] (.fn 157 [] [.ep [.sl .ro (A.map Qd)] 0,.ep [.sl .ro (B.map Qd)] 0]):=by
 refine Qn code123 (fun _ _ _=>.junk) (by simp) ?_
 simp [sc123,rs123]
def orcI (A B:List Sp):Nat->FuncId->List AV->AV:=fun d f _ =>
 if f=999999 then .junk else if d=8 then .sl .ro ((Xb A).map Qd) else if d=10 then .sl .ro ((Xb B).map Qd) else if d=11 then .fn 157 [] [.ep [.sl .ro ((Xb A).map Qd)] 0,.ep [.sl .ro ((Xb B).map Qd)] 0] else .junk
theorem ovl_len:∀ (n:Nat) (A B:List Sp),(ovl n A B).length<=n
 | 0,_,_=>by simp [ovl]
 | n+1,[],_=>by simp [ovl]
 | n+1,s::A,[]=>by simp [ovl]
 | n+1,s::A,t::B=>by
  have h1:=ovl_len n A (t::B)
  have h2:=ovl_len n (s::A) B
  rw [ovl,List.length_append]
  split<;>split<;>simp<;>omega
theorem intersect_pure (A B:List Sp) (hA:A.length<=10000000) (hB:B.length<=10000000) :
  Pure Tryz.prog gl0 83 [.sl .ro (A.map Qd),.sl .ro (B.map Qd)] (.sl .ro ((Wp A B).map Qd)):=by
 have h1:=Yd A (by omega)
 have h2:=Yd B (by omega)
 have l1:=Vs A
 have l2:=Vs B
 have h3:=overlaps_pure (Xb A) (Xb B)
 have hit:=ovl_iter (Xb A) (Xb B) (by omega) (by omega)
 have hX:Wp A B=ovl ((Xb A).length+(Xb B).length) (Xb A) (Xb B):=rfl
 have hXl:=ovl_len ((Xb A).length+(Xb B).length) (Xb A) (Xb B)
 rw [<- hX] at hit hXl
 generalize Wp A B=X at hit hXl
 clear hX
 have key:∀ r,r=(if X=[] then AV.sl .nil [] else .sl .ro (X.map Qd))->Pure Tryz.prog gl0 83 [.sl .ro (A.map Qd),.sl .ro (B.map Qd)] r:=by
  rintro r rfl
  refine Qn code83 (orcI A B) (by simp) ?_
  simp [sc83,orcI]
  refine ⟨h1,h2,h3,?_⟩
  refine Ud (xs:=X.map spAgg) (by simp) hit (by intro x hx;simp at hx;obtain ⟨a,b,_,rfl⟩:=hx;rfl)
   (fun i m=>∃ (bx:List (List AV)) (rt:Rt),m.boxes=[.sl rt ((X.take i).map Qd)]::bx/\((i=0/\rt=.nil)\/(0 < i/\∃ id,rt=.own id 2/\m.lens[id]? = some i))) (fun _ _=>False) ⟨[],.nil,by simp,.inl ⟨rfl,rfl⟩⟩ ?_ (fun _ _ _ h=>h.elim) ?_ ?_ (fun _ _ h=>h.elim)
  ·rintro i m m' ⟨bx,rt,hb,hrt⟩ ⟨⟨b2,e1⟩,⟨l2,e2⟩,_⟩
   refine ⟨bx++b2,rt,by rw [e1,hb];rfl,?_⟩
   rcases hrt with h | ⟨h0,id,h1,h2⟩
   ·exact .inl h
   ·refine .inr ⟨h0,id,h1,?_⟩
    rw [e2,List.getElem?_append_left (List.getElem?_eq_some_iff.1 h2).1];exact h2
  ·rintro l i m x hg hr ⟨bx,rt,hb,hrt⟩ hx K' k1 _ _
   obtain ⟨s,hs,rfl⟩:∃ s,X[i]? = some s/\spAgg s=x:=by
    rw [List.getElem?_map] at hx
    cases hq:X[i]? with
    | none=>rw [hq] at hx;cases hx
    | some y=>rw [hq] at hx;exact ⟨y,rfl,Option.some.inj hx⟩
   have hi:i < X.length:=(List.getElem?_eq_some_iff.1 hs).1
   have htk:X.take (i+1)=X.take i++[s]:=by rw [List.take_add_one,hs];rfl
   have htl:(X.take i).length=i:=by rw [List.length_take];omega
   rw [Vw] at hb
   have hr2:∀ row∈(X.take i).map Qd,row.length=2:=by
    intro row h;rw [List.mem_map] at h;obtain ⟨a,_,rfl⟩:=h;rfl
   generalize X.take i=T at hb htk htl hr2
   rcases hrt with ⟨rfl,rfl⟩ | ⟨h0,id,rfl,hL⟩
   ·have hTn:T=[]:=List.length_eq_zero_iff.1 htl
    subst hTn
    simp [hr,Xh,spAgg,hb,orcI]
    refine k1 _ ⟨bx++[[I s.1,I s.2]],.own m.lens.length 2,?_,.inr ⟨by omega,m.lens.length,rfl,?_⟩⟩
    ·rw [htk];rfl
    ·simp
   ·have hL':m.lens[id]? = some T.length:=by rw [htl];simpa using hL
    have hlt:=(List.getElem?_eq_some_iff.1 hL').1
    simp [hr,Xh,spAgg,hb,orcI,hL']
    refine ⟨⟨?_,by omega⟩,?_⟩
    ·rintro row (⟨a,b,_,rfl⟩ | rfl)<;>rfl
    ·refine k1 _ ⟨bx++[[I s.1,I s.2]],.own id 2,?_,.inr ⟨by omega,id,rfl,?_⟩⟩
     ·rw [htk,List.map_append];rfl
     ·simp [hlt,htl]
  ·rintro m ⟨bx,rt,hb,hrt⟩
   rw [List.length_map] at hb hrt
   rw [List.take_length] at hb
   by_cases hn:X=[]
   ·subst hn
    rcases hrt with ⟨_,rfl⟩ | ⟨h0,_⟩
    ·simp [hb,rs83]
    ·simp at h0
   ·rcases hrt with ⟨h0,_⟩ | ⟨_,id,rfl,_⟩
    ·exact absurd (List.length_eq_zero_iff.1 h0) hn
    ·simp [hb,rs83,hn]
 have hk:=key _ rfl
 by_cases hn:X=[]
 ·rw [if_pos hn] at hk
  rw [hn]
  exact Yc hk (Wk.sl _ _)
 ·rw [if_neg hn] at hk
  exact hk
open Go Go.Abs
def Out (m:AM) (id:Nat) (L:List Sp):Prop:=∃ rt,Qf m.boxes id=[.sl rt (L.map Qd)]/\id < m.boxes.length/\((L=[]/\rt=.nil)\/(L≠[]/\∃ k,rt=.own k 2/\m.lens[k]? = some L.length))
theorem Out.box {m:AM} {id:Nat} {L:List Sp} (h:Out m id L) (b:List (List AV)):Out { m with boxes:=m.boxes++b } id L:=by
 obtain ⟨rt,h1,h2,h3⟩:=h
 exact ⟨rt,by show Qf (m.boxes++b) id=_;rw [Qh h2];exact h1,by show id < (m.boxes++b).length;simp;omega,h3⟩
theorem Out.wr {m:AM} {id j:Nat} {L:List Sp} (h:Out m id L) (hne:j≠id) (v:List AV):Out { m with boxes:=m.boxes.set j v } id L:=by
 obtain ⟨rt,h1,h2,h3⟩:=h
 exact ⟨rt,by show Qf (m.boxes.set j v) id=_;rw [Zu v hne];exact h1,by show id < (m.boxes.set j v).length;simpa using h2,h3⟩
theorem add_eff (Y:YT) (f t:Int) (id:Nat) (L:List Sp) (m:AM) (hO:Out m id L) (hl:L.length<=1000000000) (K:AV->AM->Prop)
  (hK:∀ m',Out m' id (L++Qbd f t)->Keep (·=id) m.boxes m'.boxes->m'.st=m.st->m'.ln=m.ln->K (.tup []) m'):EffY Tryz.prog gl0 Y 116 [I f,I t,.ptr id 0] m K:=by
 obtain ⟨rt,h1,h2,h3⟩:=hO
 refine Zb code116 (fun _ _ _=>.junk) (by simp) ?_
 by_cases hft:f < t
 ·have ha:Qbd f t=[(f,t)]:=by simp [Qbd,hft]
  rw [ha] at hK
  have hr2:∀ row∈L.map Qd,row.length=2:=by
   intro row h;rw [List.mem_map] at h;obtain ⟨a,_,rfl⟩:=h;rfl
  rcases h3 with ⟨rfl,rfl⟩ | ⟨hne,k,rfl,hk⟩
  ·simp [sc116,rs116,hft,h1,h2]
   refine hK _ ⟨.own m.lens.length 2,?_,by simpa using h2,.inr ⟨by simp,m.lens.length,rfl,by simp⟩⟩ (Keep.set (S:=(·=id)) (Keep.refl _ _) (.inl rfl) _) rfl rfl
   simp [Vn _ h2,Qd]
  ·have hkl:=(List.getElem?_eq_some_iff.1 hk).1
   simp [sc116,rs116,hft,h1,h2,hk]
   refine ⟨⟨?_,by omega⟩,?_⟩
   ·rintro row (⟨a,b,_,rfl⟩ | rfl)<;>rfl
   ·refine hK _ ⟨.own k 2,?_,by simpa using h2,.inr ⟨by simp,k,rfl,by simp [hkl]⟩⟩ (Keep.set (S:=(·=id)) (Keep.refl _ _) (.inl rfl) _) rfl rfl
    simp [Vn _ h2,Qd]
 ·have ha:Qbd f t=[]:=by simp [Qbd,hft]
  rw [ha,List.append_nil] at hK
  simp [sc116,rs116,hft]
  exact hK m ⟨rt,h1,h2,h3⟩ (Keep.refl _ _) rfl rfl
theorem addS_len (f t:Int):(Qbd f t).length<=1:=by unfold Qbd;split<;>simp
theorem sub1_len:∀ (H:List Sp) (f t:Int),(sub1 f t H).1.length+(sub1 f t H).2.length<=H.length+1
 | [],f,t=>by have:=addS_len f t;simp [sub1];omega
 | h::r,f,t=>by
  have h1:=addS_len f h.1
  have h2:=addS_len f t
  rw [sub1]
  split
  ·split
   ·simp;omega
   ·have:=sub1_len r (max f h.2) t
    simp;omega
  ·simp;omega
theorem subL_len:∀ (A H:List Sp),(subL A H).length<=A.length+H.length
 | [],H=>by simp [subL]
 | s::A,H=>by
  have h1:=sub1_len H s.1 s.2
  have h2:=subL_len A (sub1 s.1 s.2 H).2
  simp [subL];omega
def orcSub (a b:List Sp):Nat->FuncId->List AV->AV:=fun d f _ =>
 if f=999999 then .junk else if d=14 then .sl .ro ((Xb b).map Qd) else if d=16 then .sl .ro ((Xb a).map Qd) else .gd false .junk
theorem subtract_pure (a b:List Sp) (ha:a.length<=10000000) (hb:b.length<=10000000) :
  Pure Tryz.prog gl0 78 [.sl .ro (a.map Qd),.sl .ro (b.map Qd)] (.sl .ro ((subS a b).map Qd)):=by
 have h1:=Yd a (by omega)
 have h2:=Yd b (by omega)
 have hR:subS a b=subL (Xb a) (Xb b):=rfl
 have hRl:=subL_len (Xb a) (Xb b)
 have l1:=Vs a
 have l2:=Vs b
 rw [<- hR] at hRl
 generalize subS a b=R at hR hRl
 have key:∀ r,r=(if R=[] then AV.sl .nil [] else .sl .ro (R.map Qd))->Pure Tryz.prog gl0 78 [.sl .ro (a.map Qd),.sl .ro (b.map Qd)] r:=by
  rintro r rfl
  refine Qn code78 (orcSub a b) (by simp) ?_
  simp [sc78,orcSub]
  refine ⟨h2,h1,?_⟩
  generalize Xb a=A at hR hRl l1 |-
  generalize Xb b=H at hR hRl l2 |-
  clear h1 h2
  refine Ql w78_0 (fun f m=>∃ (k i:Nat) (L:List Sp),k<=A.length/\i<=H.length/\f 18=I k/\f 8=I i/\Out m 0 L/\L++subL (A.drop k) (H.drop i)=R) (fun f _=>A.length - (numOf (f 18)).toNat) ?_ ?_
  ·exact ⟨0,0,[],by omega,by omega,by simp,by simp,⟨.nil,rfl,by simp,.inl ⟨rfl,rfl⟩⟩,by simpa using hR.symm⟩
  ·rintro f m ⟨k,i,L,hk,hi,h18,h8,hO,hL⟩
   rcases Nat.lt_or_ge k A.length with hlt | hge
   ·obtain ⟨s,hs⟩:=getS hlt
    have hrow:=Zm hs
    have hklt:(k:Int) < (A.length:Int):=by omega
    have hwk:=wrS k (by omega)
    have hda:A.drop k=s::A.drop (k+1):=by rw [List.drop_eq_getElem_cons hlt,(List.getElem?_eq_some_iff.1 hs).2]
    rw [hda,subL] at hL
    have hO0:=hO
    obtain ⟨_,_,hm0,_⟩:=hO0
    simp [h18,hlt,hklt,hrow,w78_0,orcSub]
    refine Ql w78_1 (fun g m2=>∃ (i:Nat) (fr:Int) (L:List Sp),i<=H.length/\g 8=I i/\g 11=I fr/\Out m2 0 L/\m.boxes.length < m2.boxes.length/\Qf m2.boxes m.boxes.length=[I s.1,I s.2] /\
      L++((sub1 fr s.2 (H.drop i)).1++subL (A.drop (k+1)) (sub1 fr s.2 (H.drop i)).2)=R) (fun g _=>H.length - (numOf (g 8)).toNat) ?_ ?_
    ·refine ⟨i,s.1,L,hi,by simp [h8],by simp,hO.box _,by simp,by simp,hL⟩
    ·rintro g m2 ⟨i,fr,L,hi,h8,h11,hO,hm2,hbx,hL⟩
     have hLl:L.length<=1000000000:=by
      have:=congrArg List.length hL
      rw [List.length_append] at this;omega
     have hne0:m.boxes.length≠0:=by omega
     have fin:∀ (hd:H.drop i=[]\/∃ h r,H.drop i=h::r/\s.2<=h.1),L++Qbd fr s.2++subL (A.drop (k+1)) (H.drop i)=R:=by
      rintro (hd | ⟨h,r,hd,hc⟩)
      ·rw [hd] at hL |-;simpa [sub1] using hL
      ·rw [hd] at hL |-
       rw [sub1,if_neg (by omega)] at hL
       simpa using hL
     rcases Nat.lt_or_ge i H.length with hil | hig
     ·obtain ⟨h,hh⟩:=getS hil
      have hrh:=Zm hh
      have hilt:(i:Int) < (H.length:Int):=by omega
      have hwi:=wrS i (by omega)
      have hdh:H.drop i=h::H.drop (i+1):=by rw [List.drop_eq_getElem_cons hil,(List.getElem?_eq_some_iff.1 hh).2]
      by_cases hc:h.1 < s.2
      ·rw [hdh,sub1,if_pos hc,<- hdh] at hL
       simp [h8,h11,hil,hilt,hrh,hbx,hc,w78_1,orcSub]
       refine add_eff Y0 fr h.1 0 L m2 hO hLl _ (fun m3 hO3 hk3 _ _=>?_)
       have hbx3:Qf m3.boxes m.boxes.length=[I s.1,I s.2]:=by rw [hk3.2 _ hm2 hne0];exact hbx
       have hm3:m.boxes.length < m3.boxes.length:=by have:=hk3.1;omega
       by_cases hd:s.2<=max fr h.2
       ·rw [if_pos hd] at hL
        simp [hbx3,mx_max,hd,hwk,h18]
        refine ⟨ag ?_,⟨k+1,by omega,i,by omega,by simp,rfl,L++Qbd fr h.1,hO3,by rw [List.append_assoc];exact hL⟩,by omega⟩
        repeat (first | exact Qa _ _ | refine Qb _ rfl ?_)
       ·rw [if_neg hd] at hL
        simp [hbx3,mx_max,hd,hwi,h8]
        refine ⟨ag ?_,⟨i+1,by omega,by simp,L++Qbd fr h.1,hO3,hm3,by rw [List.append_assoc,<- List.append_assoc (Qbd fr h.1)];exact hL⟩,by omega⟩
        repeat (first | exact Qa _ _ | refine Qb _ rfl ?_)
      ·simp [h8,h11,hil,hilt,hrh,hbx,hc,w78_1,orcSub]
       refine add_eff Y0 fr s.2 0 L m2 hO hLl _ (fun m3 hO3 hk3 _ _=>?_)
       simp [hwk,h18]
       refine ⟨ag ?_,⟨k+1,by omega,i,by omega,by simp,rfl,L++Qbd fr s.2,hO3,fin (.inr ⟨h,_,hdh,by omega⟩)⟩,by omega⟩
       repeat (first | exact Qa _ _ | refine Qb _ rfl ?_)
     ·have hin:¬ (i:Int) < (H.length:Int):=by omega
      simp [h8,h11,hin,Nat.not_lt.2 hig,hbx,w78_1,orcSub]
      refine add_eff Y0 fr s.2 0 L m2 hO hLl _ (fun m3 hO3 hk3 _ _=>?_)
      simp [hwk,h18]
      refine ⟨ag ?_,⟨k+1,by omega,i,by omega,by simp,rfl,L++Qbd fr s.2,hO3,fin (.inl (List.drop_eq_nil_of_le hig))⟩,by omega⟩
      repeat (first | exact Qa _ _ | refine Qb _ rfl ?_)
   ·obtain rfl:k=A.length:=by omega
    rw [List.drop_length,subL,List.append_nil] at hL
    subst hL
    obtain ⟨rt,o1,o2,o3⟩:=hO
    rcases o3 with ⟨rfl,rfl⟩ | ⟨hne,k,rfl,_⟩
    ·simp [h18,o1,w78_0,rs78]
    ·simp [h18,o1,w78_0,rs78,hne]
 have hk:=key _ rfl
 by_cases hn:R=[]
 ·rw [if_pos hn] at hk
  rw [hn]
  exact Yc hk (Wk.sl _ _)
 ·rw [if_neg hn] at hk
  exact hk
end Go.Proofs.YtjmgelbfndnpjaaGreatDoor
