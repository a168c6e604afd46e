import Derived.Test.YtjmgelbfndnpjaaGreatDoorPPPbA
set_option linter.unusedVariables false
set_option linter.unusedSimpArgs false
set_option maxRecDepth 100000
set_option maxHeartbeats 64000000
namespace Go.Proofs.YtjmgelbfndnpjaaGreatDoor.Lw
open Go Go.Abs
def LM (bx:List (List AV)) (k:Nat) (q:List (It×Nat)):Prop:=k < bx.length/\Qf bx k=Kb q/\∀ y∈q,(y.2+2 < bx.length/\Qf bx (y.2+2)=pcs (Yx (itN y.1)))/\1<=itN y.1/\itN y.1<=200
theorem LM.ext {bx:List (List AV)} {k:Nat} {q:List (It×Nat)} (h:LM bx k q) (ex:List (List AV)):LM (bx++ex) k q:=by
 obtain ⟨h1,h2,h3⟩:=h
 refine ⟨by simp;omega,by rw [Qh h1,h2],fun y hy=>?_⟩
 obtain ⟨⟨a,b⟩,c⟩:=h3 y hy
 exact ⟨⟨by simp;omega,by rw [Qh a,b]⟩,c⟩
def qL (q:List (It×Nat)):List Zz:=q.map fun y=>itA y.1
theorem LM.cvn {m:AM} {k:Nat} {q:List (It×Nat)} (h:LM m.boxes k q):Abs.cvn m 6 (.bs k 0 q.length 2)=.sl .ro ((qL q).map Xa):=by
 have hl:=libC_len q
 have hc:=lib_cvn m q fun y hy=>⟨(h.2.2 y hy).1.2,(h.2.2 y hy).2.1⟩
 rw [cvn_bs,Zq,h.2.1,if_pos (by omega),List.drop_zero,hc]
 rfl
theorem libC_drop:∀ (q:List (It×Nat)) (j:Nat) (y:It×Nat),q[j]? = some y->(Kb q).drop (j*2+1)=.bs (y.2+2) 0 (itN y.1) 3::Kb (q.drop (j+1))/\(Kb q).drop (j*2)=I y.1.id::.bs (y.2+2) 0 (itN y.1) 3::Kb (q.drop (j+1))
 | [],j,y,h=>by simp at h
 | a::r,0,y,h=>by simp at h;subst h;exact ⟨rfl,rfl⟩
 | a::r,j+1,y,h=>by
  have ih:=libC_drop r j y (by simpa using h)
  rw [show (j+1)*2+1=j*2+1+1+1 by omega,show (j+1)*2=j*2+1+1 by omega]
  exact ih
theorem pcs_ok (l:List Pic):(pcs l).all Qs=true/\(pcs l).any (Zj 6)=false:=by
 induction l with
 | nil=>exact ⟨rfl,rfl⟩
 | cons p r ih=>simp [pcs,ih]
theorem find_eff (Y:YT) (m:AM) (k:Nat) (q:List (It×Nat)) (item:Int) (hq:q.length<=20) (h:LM m.boxes k q) (K:AV->AM->Prop)
  (h0:fnd item (qL q)=none->∀ ex,K zeroA { m with boxes:=m.boxes++ex })
  (h1:∀ a,fnd item (qL q)=some a->∀ ex n,K (.tup [.agg [I a.item,.sl (.own m.lens.length 3) (a.pics.map Vr)],.bool true]) { m with boxes:=m.boxes++ex,lens:=m.lens++[n] }) :
  EffY Tryz.prog gl0 Y 27 [.bs k 0 q.length 2,I item] m K:=by
 obtain ⟨mb,ml,ms,mn⟩:=m
 have hql:(qL q).length=q.length:=by simp [qL]
 have hix:=indexA_pure (qL q) item (by omega)
 have hcv:∀ ex,Abs.cvn ⟨mb++ex,ml,ms,mn⟩ 6 (.bs k 0 q.length 2)=libAV (qL q):=fun ex=>LM.cvn (m:=⟨mb++ex,ml,ms,mn⟩) (h.ext ex)
 obtain ⟨V,hV⟩:∃ V:AV,.bs k 0 q.length 2=V:=⟨_,rfl⟩
 refine Zb code27 (fun _ f _=>if f=999999 then .junk else I (srch item (qL q) 0)) (by simp) ?_
 cases hf:fnd item (qL q) with
 | none =>
  rw [srch_none hf] at hix |-
  rw [hV] at hcv |-
  simp [sc27,rs27,zeroA,hcv]
  exact ⟨hix,h0 hf _⟩
 | some a =>
  obtain ⟨j,g1,g2,g3⟩:=srch_some (i:=0) hf
  rw [g1] at hix |-
  rw [Nat.zero_add] at hix
  have hlt:j < q.length:=by rw [<- hql];exact (List.getElem?_eq_some_iff.1 g2).1
  obtain ⟨y,hy⟩:=getS hlt
  have hya:a=itA y.1:=by
   have:(qL q)[j]? = some (itA y.1):=by simp [qL,hy]
   rw [this] at g2;cases g2;rfl
  obtain ⟨e1,e2⟩:=libC_drop q j y hy
  obtain ⟨hk,hk2,hk3⟩:=h
  obtain ⟨⟨p1,p2⟩,p3,p4⟩:=hk3 y (List.mem_of_getElem? hy)
  have hr:∀ ex,Qf (mb++ex) k=Kb q:=fun ex=>by rw [Qh hk];exact hk2
  have hr2:∀ ex,Qf (mb++ex) (y.2+2)=pcs (Yx (itN y.1)):=fun ex=>by rw [Qh p1];exact p2
  have hpl:=pcs_len (Yx (itN y.1))
  rw [picsN_len _ p3] at hpl
  have hch:=pcs_chunk (Yx (itN y.1))
  rw [picsN_len _ p3] at hch
  obtain ⟨o1,o2⟩:=pcs_ok (Yx (itN y.1))
  have hmp:∀ m:AM,(pcs (Yx (itN y.1))).map (Abs.cvn m 6)=pcs (Yx (itN y.1)):=fun m=>pcs_map m 5 _
  have hitm:item=y.1.id:=by rw [hya] at g3;exact g3.symm
  have hfin:=h1 a hf
  rw [hya] at hfin
  simp only [itA] at hfin
  have hlt':(j:Int) < (q.length:Int):=by omega
  have hid:k < mb.length+2:=by have:=hk;simp only at this;omega
  have hid2:y.2+2 < mb.length+2:=by have:=p1;simp only at this;omega
  simp [-cvn_bs,sc27,rs27,hcv,hlt,hlt']
  refine ⟨hix,?_⟩
  refine Kj ?_
  simp [-cvn_bs,sc27,rs27,hcv,hlt,hlt',hr,hr2,e1,e2,hpl,hch,hmp,o1,o2,hitm]
  exact ⟨⟨by omega,by simp only at p1;omega⟩,hfin _ _⟩
theorem unit_eff (Y:YT) (p:Pl) (ev:List Ev2) (hl:ev.length<=1000000000) (hs:∀ e∈ev,Zw e) (m:AM) (k:Nat) (q:List (It×Nat)) (hq:q.length<=20) (hL:LibOK (qL q)) (h:LM m.boxes k q) (f:Int) (hf:0<=f/\f<=900000) (K:AV->AM->Prop)
  (hK:∀ ex lx,K (.agg (Jn p ev (qL q) f)) { m with boxes:=m.boxes++ex,lens:=m.lens++lx }):EffY Tryz.prog gl0 Y 9 [.agg (Yn p ev),.bs k 0 q.length 2,I f] m K:=by
 have hsl:=slate_pure p f
 have hat:=at2_pure ev f hl hs ⟨by omega,by omega⟩
 have hcv:∀ ml (ex:List (List AV)),Abs.cvn ⟨m.boxes++ex,ml,m.st,m.ln⟩ 6 (.bs k 0 q.length 2)=libAV (qL q):=fun ml ex=>LM.cvn (m:=⟨m.boxes++ex,ml,m.st,m.ln⟩) (h.ext ex)
 have hfe0:=fun (m2:AM) (item:Int) (h:LM m2.boxes k q) (K:AV->AM->Prop)=>find_eff Y m2 k q item hq h K
 have hext:=h.ext
 cases hfe:fnd2 f ev with
 | none =>
  rw [hfe] at hat
  have hu:Jn p ev (qL q) f=Zi p f:=by simp only [Jn,hfe]
  rw [hu] at hK
  refine Zb code9 (Qaa (.agg (Zi p f)) zeroE .junk 0 0 eB zO) (by simp) ?_
  simp only [uRow,Zi,List.cons_append,List.nil_append] at hK hsl
  simp [-cvn_bs,sc9,rs9,Qaa,Yn,Qc,uRow,Zi,zeroE]
  exact ⟨hsl,hat,by simpa using hK _ []⟩
 | some e =>
  obtain ⟨hmem,hon⟩:=fndE_on hfe
  have hon':e.st<=f/\f < e.st+e.fr:=by simpa [Uf] using hon
  have hsm:=hs e hmem
  obtain ⟨⟨a1,a2⟩,⟨a3,a4⟩,⟨a5,a6⟩,a7⟩:=hsm
  rw [hfe] at hat
  simp only [Ur,Qj] at hat
  have e0:¬ e.i+f - e.st < 0:=by omega
  refine Zb code9 (fun d g x=>if g=27 then .gd false .junk else Qaa (.agg (Zi p f)) (Ur f (some e)) .junk (Js (qL q) (begs f ev) 1000) (orgI e) (capN (orgI e) f) (nextS f ev) d g x) (by simp) ?_
  simp only [uRow,Zi,List.cons_append,List.nil_append] at hsl
  simp [-cvn_bs,sc9,Qaa,Yn,Qc,uRow,Zi,Ur,Qj]
  refine ⟨hsl,hat,hfe0 _ _ (hext _) _ ?_ ?_⟩
  ·intro hfn ex
   have hu:Jn p ev (qL q) f=Zi p f:=by simp only [Jn,hfe,hfn]
   rw [hu] at hK
   simp only [uRow,Zi,List.cons_append,List.nil_append] at hK
   simp [zeroA,rs9]
   simpa using hK _ []
  ·intro a hfn ex n
   cases hp:a.pics[(Wq f e).toNat]? with
   | none =>
    have hge:a.pics.length<=(Wq f e).toNat:=by
     rcases Nat.lt_or_ge (Wq f e).toNat a.pics.length with h | h
     ·rw [List.getElem?_eq_getElem h] at hp;cases hp
     ·exact h
    have e1:(a.pics.length:Int)<=e.i+f - e.st:=by unfold Wq at hge;omega
    have hu:Jn p ev (qL q) f=Zi p f:=by simp only [Jn,hfe,hfn,hp]
    rw [hu] at hK
    simp only [uRow,Zi,List.cons_append,List.nil_append] at hK
    simp [rs9,e0,e1]
    simpa using hK _ _
   | some x =>
    have hlt:(Wq f e).toNat < a.pics.length:=(List.getElem?_eq_some_iff.1 hp).1
    have e1:¬ (a.pics.length:Int)<=e.i+f - e.st:=by unfold Wq at hlt;omega
    have e2:e.i+f - e.st < (a.pics.length:Int):=by omega
    have e3:(0:Int)<=e.i+f - e.st:=by omega
    have hp':a.pics[(e.i+f - e.st).toNat]? = some x:=hp
    have hrow:Qf (a.pics.map Vr) (e.i+f - e.st).toNat=Vr x:=Qv (by simp only [Wq] at hp;simp [hp])
    have hga:=gain_pure (qL q) hL ev f hl hs ⟨by omega,by omega⟩ p
    have hnx:=next30_pure ev f hl hs
    have hog:0<=orgI e/\orgI e<=1000000:=by unfold orgI;split<;>omega
    have hco:=code28_pure (orgI e) f hog.1 hog.2 (by omega) (by omega)
    have hor:=origin_pure p ev e ⟨⟨a1,a2⟩,⟨a3,a4⟩,⟨a5,a6⟩,a7⟩
    have hu:Jn p ev (qL q) f=uRow p f e.it (Wq f e) x.key x.data e.re (Js (qL q) (begs f ev) 1000) (capN (orgI e) f) (Qw (nextS f ev)):=by simp only [Jn,hfe,hfn,hp]
    rw [hu] at hK
    simp only [uRow,Wq,Qw,List.cons_append,List.nil_append] at hK hnx
    simp only [Yn,Qc,List.cons_append,List.nil_append,Qj] at hga hor
    simp only [libAV] at hcv
    simp [-cvn_bs,rs9,Qaa,e0,e1,e2,e3,hrow,Vr,hcv,Qw]
    exact ⟨by omega,hga,hor,hco,hnx,by omega,hK _ _⟩
end Go.Proofs.YtjmgelbfndnpjaaGreatDoor.Lw
