import Derived.Test.YtkcnjajklnoahaaGreatDoorTYScG
set_option linter.unusedVariables false
set_option linter.unusedSimpArgs false
set_option maxRecDepth 100000
set_option maxHeartbeats 64000000
namespace Go.Proofs.YtkcnjajklnoahaaGreatDoor
open Go Go.Abs
def rowB (b:Bool):List AV:=[.bool b]
theorem selB_take {w:Bool}:∀ {ids:List Int} {K:List Bool} {i:Nat} {id:Int} {k:Bool},ids[i]? = some id->K[i]? = some k->Xa w (ids.take (i+1)) (K.take (i+1))=Xa w (ids.take i) (K.take i)++if (k==w)=true then [id] else []
 | [],_,_,_,_,h,_=>by simp at h
 | _::_,[],_,_,_,_,h=>by simp at h
 | x::r,y::ks,0,id,k,h1,h2=>by
  simp at h1 h2
  subst h1;subst h2
  simp [Xa]
 | x::r,y::ks,i+1,id,k,h1,h2=>by
  have ih:=selB_take (w:=w) (ids:=r) (K:=ks) (i:=i) (by simpa using h1) (by simpa using h2)
  rw [List.take_succ_cons,List.take_succ_cons,List.take_succ_cons,List.take_succ_cons,Xa,Xa,ih]
  split<;>simp
theorem without50 (l:List Int) (i:Nat) (hl:l.length<=1000000) (hi:i < l.length):Pure Tryz.prog gl0 50 [.sl .ro (l.map Qp),I i] (.sl .ro ((l.take i++l.drop (i+1)).map Qp)):=by
 refine Ql code50 (fun _ f _=>.junk) (by simp) ?_
 have hw:=wrS i (by omega)
 have hilt:(i:Int) < (l.length:Int):=by omega
 simp [sc50,rs50,hw,hi,hilt]
 refine Yo ?_
 simp [hw,hi,hilt]
 have hr1:∀ row∈l.map Qp,row.length=1:=fun row hr=>by
  obtain ⟨a,_,rfl⟩:=List.mem_map.1 hr
  rfl
 refine ⟨⟨by omega,fun _ _=>rfl⟩,⟨fun row hr=>hr1 row (List.mem_of_mem_take hr),by omega⟩,⟨⟨by omega,by omega⟩,fun _ _=>rfl⟩,⟨fun row hr=>?_,by omega⟩,List.take_of_length_le (by simp)⟩
 rcases hr with hr | hr
 ·exact hr1 row (List.mem_of_mem_take hr)
 ·exact hr1 row (List.mem_of_mem_drop (List.mem_of_mem_take hr))
theorem item75 (p:Pl) (id:Int) (hl:p.its.length<=1000000000):Pure Tryz.prog gl0 75 [.agg (Qa p),I id] (Xk (Qy id p.its)):=by
 refine Ql code75 (fun _ _ _=>.junk) (by simp) ?_
 simp [sc75,Qa]
 refine Qg w75_0 (fun f m=>∃ (i:Nat),f 6=I i/\i<=p.its.length/\Qy id (p.its.drop i)=Qy id p.its/\m=⟨[Qa p,[I 0,I 0,I 0,I 0,I 0]],[],fun _=>.gone,0⟩) (fun f _=>p.its.length - (numOf (f 6)).toNat) ?_ ?_
 ·exact ⟨0,by simp,by omega,rfl,by simp [Qa]⟩
 ·rintro f m ⟨i,h6,hi,hf,rfl⟩
  rcases Nat.lt_or_ge i p.its.length with hlt | hge
  ·obtain ⟨x,hx⟩:=getS hlt
   have hrow:Qk (p.its.map Qf) i=Qf x:=Qv (by simp [hx])
   have hilt:(i:Int) < (p.its.length:Int):=by omega
   have hw:=wrS i (by omega)
   rw [Qr hx,Qy] at hf
   by_cases hid:x.id=id
   ·rw [if_pos hid] at hf
    simp [h6,hlt,hilt,hrow,Qa,Qf,hid,w75_0,rs75,<- hf,Xk]
   ·rw [if_neg hid] at hf
    simp [h6,hlt,hilt,hrow,Qa,Qf,hid,w75_0,hw]
    refine ⟨ag ?_,⟨i+1,by simp,by omega,hf⟩,by omega⟩
    repeat (first | exact Qb _ _ | refine Qc _ rfl ?_)
  ·have hin:¬ (i:Int) < (p.its.length:Int):=by omega
   rw [List.drop_eq_nil_of_le hge,Qy] at hf
   simp [h6,hin,Nat.not_lt.2 hge,Qa,w75_0,rs75,<- hf,Xk]
def orcR47 (p:Pl):Nat->FuncId->List AV->AV:=fun _ f l=>if f=41 then (match l with
 | [_,.int _ id]=>Wn (Yv id p.ens) | _=>.junk) else (match l with | [_,.int _ id]=>Xk (Qy id p.its) | _=>.junk)
theorem round47 (p:Pl) (id:Int) (hl:p.its.length<=1000000000) (hn:p.ens.length<=1000000000):Pure Tryz.prog gl0 47 [.agg (Qa p),I id] (I (rdS p id:Nat)):=by
 have k41:=entry8_pure p id hn
 simp only [Qa] at k41
 refine Ql code47 (orcR47 p) (by simp) ?_
 unfold rdS
 cases he:Yv id p.ens with
 | none =>
  rw [he] at k41
  have k75:=item75 p 0 hl
  simp only [Qa] at k75
  cases hi:Qy 0 p.its with
  | none =>
   rw [hi] at k75
   simp [sc47,rs47,Qa,orcR47,he,hi,Wn,Xk]
   exact ⟨k41,k75⟩
  | some x =>
   rw [hi] at k75
   simp [sc47,rs47,Qa,orcR47,he,hi,Wn,Xk,Qf]
   exact ⟨k41,k75⟩
 | some e =>
  rw [he] at k41
  simp only [Wn,Qd] at k41
  by_cases b1:e.bo=0
  ·have k75:=item75 p e.it hl
   simp only [Qa] at k75
   cases hi:Qy e.it p.its with
   | none =>
    rw [hi] at k75
    simp [sc47,rs47,Qa,orcR47,he,hi,Wn,Xk,Qd,b1]
    exact ⟨by simpa [b1] using k41,k75⟩
   | some x =>
    rw [hi] at k75
    simp only [Xk,Qf] at k75
    by_cases c1:x.ki=1
    ·simp [sc47,rs47,Qa,orcR47,he,hi,Wn,Xk,Qf,Qd,b1,c1]
     exact ⟨by simpa [b1] using k41,by simpa [c1] using k75⟩
    ·by_cases c2:x.ki=4
     ·simp [sc47,rs47,Qa,orcR47,he,hi,Wn,Xk,Qf,Qd,b1,c1,c2]
      exact ⟨by simpa [b1] using k41,by simpa [c2] using k75⟩
     ·simp [sc47,rs47,Qa,orcR47,he,hi,Wn,Xk,Qf,Qd,b1,c1,c2]
      exact ⟨by simpa [b1] using k41,k75⟩
  ·simp [sc47,rs47,Qa,orcR47,he,Wn,Qd,b1]
   exact k41
open Go Go.Abs
theorem wk_slI8 (l:List Int):Wk (Ww l) (.sl .ro (l.map Qp)):=by
 unfold Ww
 split
 ·rename_i h;rw [h];exact Wk.sl _ _
 ·exact Wk.refl _
@[simp] theorem cvn_slI8 (m:AM) (d:Nat) (l:List Int):cvn m (d+1) (Ww l)=Ww l:=by
 unfold Ww;split<;>rfl
@[simp] theorem cvn_slAV8 (m:AM) (d:Nat) (l:List Sp):cvn m (d+1) (Vm l)=Vm l:=by
 unfold Vm;split<;>rfl
theorem slAV8_cell (l:List Sp):Xd (Vm l)=true:=by unfold Vm;split<;>rfl
def orcR23 (p:Pl) (at_:Int) (past:List Ad):Nat->FuncId->List AV->AV:=fun _ f l=>if f=999999 then .junk else if f=17 then (match l with
 | [_,.sl _ a,_,_]=>Ui p at_ past (a.map unI) | _=>.junk) else (match l with
 | [.sl _ a,.int _ i]=>.sl .ro (a.take i.toNat++a.drop (i.toNat+1)) | _=>.junk)
def InvR23 (p:Pl) (at_:Int) (past:List Ad) (T:List Int) (f:Nat->AV) (m:AM):Prop :=
 ∃ (i:Nat) (c:List Int) (rt:Rt) (ls:List Nat),f 12=I i/\f 11=.sl rt (c.map Qp)/\(rt=.ro\/∃ k,rt=.own k 1)/\i<=c.length/\c.length<=1000/\conG (okE (bdP p at_ past)) c i=T/\m=⟨[Qa p],ls,fun _=>.gone,0⟩
theorem refCon23 {p:Pl} (h:PlK p) {at_:Int} (ha:Xx at_) {past:List Ad} (hp:past.length<=1000) {ids:List Int} (hi:ids.length<=1000) :
  Pure Tryz.prog gl0 23 [.agg (Qa p),.sl .ro (ids.map Qp),I at_,.sl .ro (past.map Qu)] (conR p at_ past ids):=by
 have k17:=ref17 h ha hp hi
 simp only [Qa] at k17
 refine Ql code23 (orcR23 p at_ past) (by simp) ?_
 have hun:∀ l:List Int,(l.map Qp).map unI=l:=unI_map
 cases he:Qq p at_ past ids with
 | some l =>
  have hok:okE (bdP p at_ past) ids=true:=by rw [Vq,he];rfl
  have hr:conR p at_ past ids=.sl .nil []:=by rw [conR,(Qag _ ids).1 hok];rfl
  have her:Ui p at_ past ids=.tup [Vm l,.bool true]:=by rw [Ui,he]
  rw [her] at k17
  rw [hr]
  simp only [sc23,rs23,Qa,orcR23]
  simp [sc23,rs23,Qa,orcR23,hun,her]
  exact k17
 | none =>
  have hok:okE (bdP p at_ past) ids=false:=by rw [Vq,he];rfl
  obtain ⟨T,hT⟩:∃ T,Yf (bdP p at_ past) ids=T:=⟨_,rfl⟩
  have hne:T≠[]:=by rw [<- hT];exact ((Qag _ ids).2 hok).2.1
  have hg:conG (okE (bdP p at_ past)) ids 0=T:=by rw [<- hT,Yf,if_neg (by rw [hok];simp)]
  have hr:conR p at_ past ids=.sl .ro (T.map Qp):=by rw [conR,hT,Ww,if_neg hne]
  have her:Ui p at_ past ids=.tup [.sl .nil [],.bool false]:=by rw [Ui,he]
  rw [her] at k17
  rw [hr]
  simp [sc23,Qa,orcR23,hun,her]
  refine ⟨k17,?_⟩
  clear k17
  have hun2:(unI ∘ Qp:Int->Int)=id:=by funext n;rfl
  refine ⟨⟨fun _ _=>rfl,by omega⟩,?_⟩
  refine Qg w23_0 (InvR23 p at_ past T) (fun f _=>(match f 11 with | .sl _ c=>c.length | _=>0) - (numOf (f 12)).toNat) ?_ ?_
  ·exact ⟨0,ids,.own 0 1,[ids.length],by simp,by simp,.inr ⟨0,rfl⟩,by omega,hi,hg,by simp [Qa]⟩
  ·clear hg
   rintro f m ⟨i,c,rt,ls,h12,h11,hrt,hic,hcl,hcT,rfl⟩
   rcases Nat.lt_or_ge i c.length with hlt | hge
   ·have hilt:(i:Int) < (c.length:Int):=by omega
    have hw:=wrS i (by omega)
    have hol:(c.take i++c.drop (i+1)).length+1=c.length:=by simp;omega
    have k50:=without50 c i (by omega) hlt
    have k17:=ref17 h ha hp (ids:=c.take i++c.drop (i+1)) (by omega)
    rw [conG,dif_pos hlt,Vq] at hcT
    cases he2:Qq p at_ past (c.take i++c.drop (i+1)) with
    | some l =>
     rw [he2,if_pos (by rfl)] at hcT
     have her2:Ui p at_ past (c.take i++c.drop (i+1))=.tup [Vm l,.bool true]:=by rw [Ui,he2]
     rw [her2] at k17
     simp only [Qa,List.map_append,List.map_take,List.map_drop] at k17 k50
     have hsc:=slAV8_cell l
     rcases hrt with rfl | ⟨k,rfl⟩
     ·simp [h12,h11,hlt,hilt,w23_0,Qa,orcR23,hun,hun2,her2,hw]
      refine ⟨k50,k17,ag ?_,⟨i+1,c,.ro,ls,by simp,by simp [h11],.inl rfl,by omega,hcl,hcT,by simp [Qa]⟩,by omega⟩
      repeat (first | exact Qb _ _ | refine Qc _ rfl ?_)
     ·simp [h12,h11,hlt,hilt,w23_0,Qa,orcR23,hun,hun2,her2,hw]
      refine ⟨k50,k17,ag ?_,⟨i+1,c,.own k 1,ls,by simp,by simp [h11],.inr ⟨k,rfl⟩,by omega,hcl,hcT,by simp [Qa]⟩,by omega⟩
      repeat (first | exact Qb _ _ | refine Qc _ rfl ?_)
    | none =>
     rw [he2,if_neg (by simp)] at hcT
     have her2:Ui p at_ past (c.take i++c.drop (i+1))=.tup [.sl .nil [],.bool false]:=by rw [Ui,he2]
     rw [her2] at k17
     simp only [Qa,List.map_append,List.map_take,List.map_drop] at k17 k50
     rcases hrt with rfl | ⟨k,rfl⟩
     ·simp [h12,h11,hlt,hilt,w23_0,Qa,orcR23,hun,hun2,her2,hw]
      refine ⟨k50,k17,ag ?_,⟨i,c.take i++c.drop (i+1),.ro,ls,by simp [h12],by simp,.inl rfl,by omega,by omega,hcT,by simp [Qa]⟩,by rw [Nat.min_eq_left hic];show (i+(c.length - (i+1)) - i:Nat) < (c.length - i:Nat);omega⟩
      repeat (first | exact Qb _ _ | refine Qc _ rfl ?_)
     ·simp [h12,h11,hlt,hilt,w23_0,Qa,orcR23,hun,hun2,her2,hw]
      refine ⟨k50,k17,ag ?_,⟨i,c.take i++c.drop (i+1),.ro,ls,by simp [h12],by simp,.inl rfl,by omega,by omega,hcT,by simp [Qa]⟩,by rw [Nat.min_eq_left hic];show (i+(c.length - (i+1)) - i:Nat) < (c.length - i:Nat);omega⟩
      repeat (first | exact Qb _ _ | refine Qc _ rfl ?_)
   ·have hin:¬ (i:Int) < (c.length:Int):=by omega
    rw [conG,dif_neg (by omega)] at hcT
    subst hcT
    rcases hrt with rfl | ⟨k,rfl⟩
    ·simp [h12,h11,hin,Nat.not_lt.2 hge,w23_0,Qa,rs23]
    ·simp [h12,h11,hin,Nat.not_lt.2 hge,w23_0,Qa,rs23]
open Go Go.Abs
theorem plc_case (p:Pl) (id:Int):(∃ (n k:Nat) (e:En),Yv id p.ens=some e/\p.ens[k]? = some e/\Xh [id] (kvA iA (plcS p)) 0=some (n,I k))\/(Yv id p.ens=none/\Xh [id] (kvA iA (plcS p)) 0=none):=by
 have key:∀ (l:List En) (i:Nat),Vy id l i=none->Yv id l=none:=by
  intro l
  induction l with
  | nil=>intro i _;rfl
  | cons x r ih =>
   intro i h
   rw [Vy] at h
   split at h
   ·cases h
   ·rename_i hn;rw [Yv,if_neg hn];exact ih _ h
 rcases Vb iA id (plcS p) 0 with ⟨p1,p2,_⟩ | ⟨u,n,p1,p2,_⟩
 ·rw [plcS_af] at p1
  cases hx:Vy id p.ens 0 with
  | none=>exact .inr ⟨key _ _ hx,p2⟩
  | some k=>rw [hx] at p1;cases p1
 ·rw [plcS_af] at p1
  cases hx:Vy id p.ens 0 with
  | none=>rw [hx] at p1;cases p1
  | some k =>
   rw [hx] at p1
   cases p1
   obtain ⟨_,e,h2,h3,h4⟩:=Km hx
   rw [Nat.sub_zero] at h2
   exact .inl ⟨_,k,e,h4,h2,p2⟩
theorem round46 (pre post:List (List AV)) (ls:List Nat) (b:Bd) (id:Int) (Y:YT) (K:AV->AM->Prop) (hK:∀ ex,K (I (rdS b.p id:Nat)) (mBd pre b (post++ex) ls)) :
  EffY Tryz.prog gl0 Y 46 [.ptr (pre.length+9) 0,I id] (mBd pre b post ls) K:=by
 refine Yx code46 (fun _ _ _=>.junk) (by simp) ?_
 unfold rdS at hK
 rcases plc_case b.p id with ⟨n,k,e,he,hk,hp⟩ | ⟨he,hp⟩
 ·rw [he] at hK
  simp only at hK
  have hkl:=(List.getElem?_eq_some_iff.1 hk).1
  have hkl':(k:Int) < (b.p.ens.length:Int):=by omega
  have herow:=Zi hk
  by_cases b1:e.bo=0
  ·rw [if_neg (by simp [b1])] at hK
   rcases Qbw b.p e.it with ⟨ni,y,hy,hi⟩ | ⟨hy,hi⟩
   ·rw [hy] at hK
    simp only at hK
    by_cases c1:y.ki=1
    ·rw [if_pos (.inl c1)] at hK
     simp [sc46,mBd,bdL,Qj,Qa,hp,hkl,hkl',herow,Qd,b1]
     refine Yo ?_
     simp [rs46,mBd,bdL,Qj,Qa,Qd,hi,itA,Qf,c1]
     simpa [mBd,bdL,Qj,Qa,Qf,Qd,b1,c1] using hK [Qd e,Qf y]
    ·by_cases c2:y.ki=4
     ·rw [if_pos (.inr c2)] at hK
      simp [sc46,mBd,bdL,Qj,Qa,hp,hkl,hkl',herow,Qd,b1]
      refine Yo ?_
      simp [rs46,mBd,bdL,Qj,Qa,Qd,hi,itA,Qf,c1,c2]
      simpa [mBd,bdL,Qj,Qa,Qf,Qd,b1,c1,c2] using hK [Qd e,Qf y]
     ·rw [if_neg (by rintro (h | h);exact c1 h;exact c2 h)] at hK
      simp [sc46,mBd,bdL,Qj,Qa,hp,hkl,hkl',herow,Qd,b1]
      refine Yo ?_
      simp [rs46,mBd,bdL,Qj,Qa,Qd,hi,itA,Qf,c1,c2]
      simpa [mBd,bdL,Qj,Qa,Qf,Qd,b1,c1,c2] using hK [Qd e,Qf y]
   ·rw [hy] at hK
    simp only at hK
    simp [sc46,mBd,bdL,Qj,Qa,hp,hkl,hkl',herow,Qd,b1]
    refine Yo ?_
    simp [rs46,mBd,bdL,Qj,Qa,Qd,hi]
    simpa [mBd,bdL,Qj,Qa,Qd,b1] using hK [Qd e,[I 0,I 0,I 0,I 0,I 0]]
  ·rw [if_pos b1] at hK
   simp [sc46,rs46,mBd,bdL,Qj,Qa,hp,hkl,hkl',herow,Qd,b1]
   simpa [mBd,bdL,Qj,Qa,Qd] using hK [Qd e]
 ·rw [he] at hK
  simp only at hK
  simp [sc46,rs46,mBd,bdL,Qj,Qa,hp]
  simpa [mBd,bdL,Qj,Qa] using hK []
def Jy (n:Nat) (S:List Int):Rt:=if S=[] then .nil else .own n 1
def Kb (S:List Int):List Nat:=if S=[] then [] else [S.length]
def InvCl (ids:List Int) (K:List Bool) (w:Bool) (m0:AM) (f:Nat->AV) (m:AM):Prop :=
 ∃ (i:Nat),f 10=I i/\i<=ids.length/\f 5=.sl (Jy m0.lens.length (Xa w (ids.take i) (K.take i))) ((Xa w (ids.take i) (K.take i)).map Qp)/\m={ m0 with lens:=m0.lens++Kb (Xa w (ids.take i) (K.take i)) }
theorem collect45 (ids:List Int) (K:List Bool) (w:Bool) (hi:ids.length<=1000) (hk:K.length=ids.length) (m:AM) (ia ib kb:Nat) (h1:Qk m.boxes ia=[.sl .ro (ids.map Qp)]) (h2:Qk m.boxes ib=[.bs kb 0 ids.length 1]) (h3:Qk m.boxes kb=K.map .bool)
  (g1:ia < m.boxes.length) (g2:ib < m.boxes.length) (g3:kb < m.boxes.length) (Y:YT) (Q:AV->AM->Prop) (hQ:Q (.sl (Jy m.lens.length (Xa w ids K)) ((Xa w ids K).map Qp)) { m with lens:=m.lens++Kb (Xa w ids K) }) :
  EffY Tryz.prog gl0 Y 45 [.bool w,.ptr ia 0,.ptr ib 0] m Q:=by
 refine Yx code45 (fun _ _ _=>.junk) (by simp) ?_
 simp [sc45,h1,g1]
 refine Qg w45_0 (InvCl ids K w m) (fun f _=>ids.length - (numOf (f 10)).toNat) ?_ ?_
 ·exact ⟨0,by simp,by omega,by simp [Xa,Jy],by simp [Xa,Kb]⟩
 ·rintro f m' ⟨i,h10,hil,h5,rfl⟩
  rcases Nat.lt_or_ge i ids.length with hlt | hge
  ·obtain ⟨id,hx⟩:=getS hlt
   obtain ⟨k,hy⟩:∃ x,K[i]? = some x:=⟨_,List.getElem?_eq_getElem (by omega)⟩
   have hrow:Qk (ids.map Qp) i=Qp id:=Qv (by simp [hx])
   have hcell:nth ((K.map AV.bool).drop i) 0=.bool k:=nth_eq (by simp [hy])
   have hmin:min 1 (K.length - i)=1:=by omega
   have hltk:i < K.length:=by omega
   have hilt:(i:Int) < (ids.length:Int):=by omega
   have hw:=wrS i (by omega)
   have htk:=selB_take (w:=w) hx hy
   have hsl:(Xa w (ids.take i) (K.take i)).length<=1000:=by
    have:=(Qbp w (ids.take i) (K.take i)).length_le
    simp at this;omega
   obtain ⟨S,hS⟩:∃ S,Xa w (ids.take i) (K.take i)=S:=⟨_,rfl⟩
   rw [hS] at h5 htk hsl |-
   cases hc:(k==w) with
   | false =>
    rw [hc] at htk
    have htk:Xa w (ids.take (i+1)) (K.take (i+1))=S:=by rw [htk];simp
    simp [h10,h5,hlt,hilt,hltk,hrow,Qp,w45_0,hw,hc,h2,h3,g2,g3,hcell,hmin,show 1<=K.length - i by omega]
    refine ⟨ag ?_,⟨i+1,by simp,by omega,by rw [htk];simp [h5,Qp],by rw [htk]⟩,by omega⟩
    repeat (first | exact Qb _ _ | refine Qc _ rfl ?_)
   | true =>
    rw [hc] at htk
    have htk:Xa w (ids.take (i+1)) (K.take (i+1))=S++[id]:=by rw [htk];simp
    by_cases hSe:S=[]
    ·subst hSe
     simp only [Jy,Kb,if_true,List.map_nil,List.append_nil] at h5 |-
     simp [h10,h5,hlt,hilt,hltk,hrow,Qp,w45_0,hw,hc,h2,h3,g2,g3,hcell,hmin,show 1<=K.length - i by omega]
     refine ⟨ag ?_,⟨i+1,by simp,by omega,by rw [htk];simp [Qp,Jy],by rw [htk];simp [Kb]⟩,by omega⟩
     repeat (first | exact Qb _ _ | refine Qc _ rfl ?_)
    ·simp only [Jy,Kb,if_neg hSe] at h5 |-
     have hst:(m.lens++[S.length]).set m.lens.length (S.length+1)=m.lens++[S.length+1]:=by rw [List.set_append,if_neg (by omega)];simp
     simp [h10,h5,hlt,hilt,hltk,hrow,Qp,w45_0,hw,hc,h2,h3,g2,g3,hcell,hmin,show 1<=K.length - i by omega]
     refine ⟨⟨?_,by omega⟩,ag ?_,⟨i+1,by simp,by omega,by rw [htk];simp [Qp,Jy],by rw [htk];simp [Kb]⟩,by omega⟩
     ·rintro row (⟨a,_,rfl⟩ | rfl)<;>rfl
     ·repeat (first | exact Qb _ _ | refine Qc _ rfl ?_)
  ·have hin:¬ (i:Int) < (ids.length:Int):=by omega
   rw [List.take_of_length_le (by omega),List.take_of_length_le (by omega)] at h5 |-
   simp [h10,h5,hin,Nat.not_lt.2 hge,w45_0,rs45]
   exact hQ
open Go Go.Abs
def InvFe (p:Pl) (T:List Int) (f:Nat->AV) (m:AM):Prop :=
 ∃ (i:Nat) (w:Int) (O:List Int) (rt:Rt) (ls:List Nat),f 8=I i/\i<=p.ens.length/\f 2=I w/\(0<=w/\w<=9223372036854775807)/\f 7=.sl rt (O.map Qp)/\OutR 1 0 ls rt O/\O.length<=i/\O++selI (p.ens.drop i) w=T/\m=⟨[Qa p],ls,fun _=>.gone,0⟩
theorem few35a (p:Pl) (ids:List Int) (wh:Int) (hw:0<=wh/\wh<=9223372036854775807) (he:p.ens.length<=1000):Pure Tryz.prog gl0 35 [.agg (Qa p),.sl .ro (ids.map Qp),I wh] (Ww (selI p.ens wh)):=by
 refine Ql code35 (fun _ _ _=>.junk) (by simp) ?_
 simp [sc35,Qa,show ¬ wh < 0 by omega]
 refine Qg w35_0 (InvFe p (selI p.ens wh)) (fun f _=>p.ens.length - (numOf (f 8)).toNat) ?_ ?_
 ·exact ⟨0,wh,[],.nil,[],by simp,by omega,by simp,hw,by simp,.inl ⟨rfl,rfl⟩,by simp,by simp,by simp [Qa]⟩
 ·rintro f m ⟨i,w,O,rt,ls,h8,hi,h2,hwb,h7,hO,hOl,hT,rfl⟩
  rcases Nat.lt_or_ge i p.ens.length with hlt | hge
  ·obtain ⟨e,hx⟩:=getS hlt
   have hrow:=Zi hx
   have hilt:(i:Int) < (p.ens.length:Int):=by omega
   have hwi:=wrS i (by omega)
   have hq:w.tdiv 2=w / 2:=Int.tdiv_eq_ediv_of_nonneg hwb.1
   have hwq:IntKind.i64.wrap (w.tdiv 2)=w.tdiv 2:=by rw [Qh]<;>omega
   rw [Qr hx,selI] at hT
   by_cases c:w.tmod 2=0
   ·rw [if_pos c] at hT
    have hT:(O++[e.id])++selI (p.ens.drop (i+1)) (w.tdiv 2)=selI p.ens wh:=by rw [<- hT];simp
    rcases hO with ⟨rfl,rfl⟩ | ⟨k,rfl,hk1,hk2,hk3⟩
    ·simp [h8,h2,h7,hlt,hilt,hrow,Qd,Qa,w35_0,hwi,hwq,c]
     refine ⟨ag ?_,⟨i+1,w.tdiv 2,[]++[e.id],.own ls.length 1,ls++[1],by simp,by omega,by simp,by omega,by simp [Qp],OutR.first (by omega) e.id,by simp;try omega,hT,by simp [Qa]⟩,by omega⟩
     repeat (first | exact Qb _ _ | refine Qc _ rfl ?_)
    ·simp [h8,h2,h7,hlt,hilt,hrow,Qd,Qa,w35_0,hwi,hwq,c,hk2]
     refine ⟨⟨?_,by omega⟩,ag ?_,⟨i+1,w.tdiv 2,O++[e.id],.own k 1,ls.set k (O.length+1),by simp,by omega,by simp,by omega,by simp [Qp],OutR.push hk1 hk2 e.id,by simp;omega,hT,by simp [Qa]⟩,by omega⟩
     ·rintro row (⟨a,_,rfl⟩ | rfl)<;>rfl
     ·repeat (first | exact Qb _ _ | refine Qc _ rfl ?_)
   ·rw [if_neg c] at hT
    simp [h8,h2,h7,hlt,hilt,hrow,Qd,Qa,w35_0,hwi,hwq,c]
    refine ⟨ag ?_,⟨i+1,w.tdiv 2,O,rt,ls,by simp,by omega,by simp,by omega,by simp [h7],hO,by omega,hT,by simp [Qa]⟩,by omega⟩
    repeat (first | exact Qb _ _ | refine Qc _ rfl ?_)
  ·have hin:¬ (i:Int) < (p.ens.length:Int):=by omega
   rw [List.drop_eq_nil_of_le hge,selI,List.append_nil] at hT
   subst hT
   rcases hO with ⟨h1,rfl⟩ | ⟨k,rfl,_,_,hne⟩
   ·rw [h1] at h7 |-
    simp [h8,h7,hin,Nat.not_lt.2 hge,Qa,w35_0,rs35,Ww]
   ·simp [h8,h7,hin,Nat.not_lt.2 hge,Qa,w35_0,rs35,Ww,hne]
theorem few35b (p:Pl) (ids:List Int) (wh:Int) (hw:wh < 0) (hi:ids.length<=17592186044416):Pure Tryz.prog gl0 35 [.agg (Qa p),.sl .ro (ids.map Qp),I wh] (.sl .ro ((ids.take 10).map Qp)):=by
 refine Ql code35 (fun _ _ _=>.junk) (by simp) ?_
 have hm:(if (10:Int) < (ids.length:Int) then 10 else (ids.length:Int))=((min 10 ids.length:Nat):Int):=by split<;>omega
 simp [sc35,rs35,Qa,hw,Qp,hm]
 refine ⟨by omega,fun row hr=>?_,by omega⟩
 obtain ⟨a,_,rfl⟩:=List.mem_map.1 (List.mem_of_mem_take hr)
 rfl
theorem few35 (p:Pl) (ids:List Int) (wh:Int) (hw:Xx wh) (he:p.ens.length<=1000) (hi:ids.length<=17592186044416):Pure Tryz.prog gl0 35 [.agg (Qa p),.sl .ro (ids.map Qp),I wh] (.sl .ro ((fewI p ids wh).map Qp)):=by
 unfold fewI
 by_cases h:wh < 0
 ·rw [if_pos h];exact few35b p ids wh h hi
 ·rw [if_neg h];exact Vg (few35a p ids wh ⟨by omega,hw.2⟩ he) (wk_slI8 _)
end Go.Proofs.YtkcnjajklnoahaaGreatDoor
