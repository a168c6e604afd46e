import Derived.Test.YtjmgelbfndnpjaaGreatDoorPPMM
set_option linter.unusedVariables false
set_option linter.unusedSimpArgs false
set_option maxRecDepth 100000
set_option maxHeartbeats 64000000
namespace Go.Proofs.YtjmgelbfndnpjaaGreatDoor
open Go Go.Abs
def altB (p:Pl) (e:En) (fr:Int) (s:Sp):Bool:=decide (1<=s.1)&&decide (s.1 < p.rg)&&Xo p s.2 s.1 fr e.fr
def evM (p:Pl) (e:En) (fr:Int):Int:=Ug (fun i=>Xo p e.it i fr e.fr) (min p.rg 8).toNat
def Ju (p:Pl) (e:En) (fr:Int) (rt:Rt) (l:List Sp):List AV:=[I e.id,I e.it,I fr,I e.fr,I 0,I (evM p e fr),.sl rt (l.map Qd)]
def evA (p:Pl) (e:En) (fr:Int) (i:Nat):List Sp:=(e.al.take i).filter (altB p e fr)
theorem event_pure0 (p:Pl) (e:En) (fr:Int) (hc:p.cls.length<=1000000) (hsh:p.sh.length<=1000000000) (hit:p.its.length<=1000000000) (hal:e.al.length<=8796093022208) :
  ∃ rt,Pure Tryz.prog gl0 24 [.agg (Qc p),.agg (Qi e),I fr] (.agg (Ju p e fr rt (e.al.filter (altB p e fr)))):=by
 refine ⟨if e.al.filter (altB p e fr)=[] then .nil else .ro,Qn code24 (fun _ _ _=>.gd false .junk) (by simp) ?_⟩
 simp [sc24,Qc,Qi]
 refine collect_eff Y0 p 64 [.ptr 4 0,.ptr 1 0] (fun i=>Xo p e.it i fr e.fr) _ _ ?_ fun bx=>?_
 ·rintro i mm _ _ ⟨bx,rfl⟩ K' h
  exact evt2_eff Y0 p e i fr _ 0 2 1 4 hc hsh hit (by simp [Qc]) (by simp) (by simp [Qi]) (by simp) K' h
 ·have hM:Ug (fun i=>Xo p e.it i fr e.fr) (min p.rg 8).toNat=evM p e fr:=rfl
  simp [hM]
  refine Ql w24_0 (fun f mm=>∃ (i:Nat) (bx:List (List AV)) (Lm:List Nat) (rt:Rt),f 27=I i/\i<=e.al.length/\mm=⟨Qc p::Qi e::[I fr]::[I 0,I 0,I 0,I 0,I 0,I 0,.sl .nil []]::[.fn 63 [] [.ptr 0 0,.ptr 2 0,.ptr 1 0]]::Ju p e fr rt (evA p e fr i)::bx,Lm,fun _=>.gone,0⟩ /\
   (evA p e fr i=[]/\rt=.nil\/evA p e fr i≠[]/\∃ k,rt=.own k 2/\Lm[k]? = some (evA p e fr i).length)) (fun f _=>e.al.length - (numOf (f 27)).toNat) ?_ ?_
  ·refine ⟨0,bx,[],.nil,by simp,by omega,?_,.inl ⟨by simp [evA],rfl⟩⟩
   simp [Qc,Qi,Ju,evA]
  ·rintro f mm ⟨i,bx,Lm,rt,h27,hi,rfl,hrt⟩
   rcases Nat.lt_or_ge i e.al.length with hlt | hge
   ·obtain ⟨x,hx⟩:=getS hlt
    have hrow:=Zm hx
    have hilt:(i:Int) < (e.al.length:Int):=by omega
    have hw:=wrS i (by omega)
    have htk:evA p e fr (i+1)=evA p e fr i++if altB p e fr x then [x] else []:=by
     unfold evA
     rw [List.take_add_one,hx,List.filter_append]
     simp only [Option.toList,List.filter_cons,List.filter_nil]
    generalize hG:evA p e fr i=G at *
    by_cases c1:1<=x.1
    ·by_cases c2:x.1 < p.rg
     ·have hpm:=fun mm h1 h2 h3=>evt1_eff Y0 p e x.2 x.1 fr mm 0 2 1 hc hsh hit h1 h2 h3
      simp [h27,Qc,Qi,Ju,hrow,hilt,hlt,w24_0,c1,c2,hw]
      have hGl:G.length<=i:=by rw [<- hG];unfold evA;exact Nat.le_trans (List.length_filter_le _ _) (by rw [List.length_take];omega)
      refine hpm _ rfl rfl rfl _ ?_
      have hA:altB p e fr x=Xo p x.2 x.1 fr e.fr:=by simp [altB,c1,c2]
      rw [hA] at htk
      cases hb:Xo p x.2 x.1 fr e.fr with
      | false =>
       rw [hb] at htk;simp only [Bool.false_eq_true,if_false,List.append_nil] at htk
       simp [hw]
       refine ⟨ag ?_,⟨i+1,by omega,by omega,bx++[[I x.1,I x.2]],Lm,rt,by rw [htk];simp [Qc,Qi,Ju],by rw [htk];exact hrt⟩,by omega⟩
       repeat (first | exact Qa _ _ | refine Qb _ rfl ?_)
      | true =>
       rw [hb] at htk;simp only [if_true] at htk
       rcases hrt with ⟨h1,rfl⟩ | ⟨h1,k,rfl,hk⟩
       ·subst h1
        simp only [List.nil_append] at htk
        simp [hw]
        refine ⟨ag ?_,⟨i+1,by omega,by omega,bx++[[I x.1,I x.2]],Lm++[1],.own Lm.length 2,by rw [htk];simp [Qc,Qi,Ju,Qd],by rw [htk];exact .inr ⟨by simp,_,rfl,by simp⟩⟩,by omega⟩
        repeat (first | exact Qa _ _ | refine Qb _ rfl ?_)
       ·simp [hw,hk]
        refine ⟨⟨by rintro row (⟨a,b,_,rfl⟩ | rfl)<;>rfl,by omega⟩,ag ?_,⟨i+1,by omega,by omega,bx++[[I x.1,I x.2]],Lm.set k (G.length+1),.own k 2,by rw [htk];simp [Qc,Qi,Ju,Qd],by rw [htk];exact .inr ⟨by simp,_,rfl,by rw [List.getElem?_set_self ((List.getElem?_eq_some_iff.1 hk).1)];simp⟩⟩,by omega⟩
        repeat (first | exact Qa _ _ | refine Qb _ rfl ?_)
     ·have hA:altB p e fr x=false:=by simp [altB,c2]
      simp [h27,Qc,Qi,Ju,hrow,hilt,hlt,w24_0,c1,c2,hw]
      rw [hA] at htk;simp only [Bool.false_eq_true,if_false,List.append_nil] at htk
      refine ⟨ag ?_,⟨i+1,by omega,by omega,bx++[[I x.1,I x.2]],Lm,rt,by rw [htk];simp [Qc,Qi,Ju],by rw [htk];exact hrt⟩,by omega⟩
      repeat (first | exact Qa _ _ | refine Qb _ rfl ?_)
    ·have hA:altB p e fr x=false:=by simp [altB,c1]
     simp [h27,Qc,Qi,Ju,hrow,hilt,hlt,w24_0,c1,hw]
     rw [hA] at htk;simp only [Bool.false_eq_true,if_false,List.append_nil] at htk
     refine ⟨ag ?_,⟨i+1,by omega,by omega,bx++[[I x.1,I x.2]],Lm,rt,by rw [htk];simp [Qc,Qi,Ju],by rw [htk];exact hrt⟩,by omega⟩
     repeat (first | exact Qa _ _ | refine Qb _ rfl ?_)
   ·obtain rfl:i=e.al.length:=by omega
    have hE:evA p e fr e.al.length=e.al.filter (altB p e fr):=by simp [evA]
    rw [hE] at hrt
    generalize e.al.filter (altB p e fr)=G at *
    rcases hrt with ⟨h1,rfl⟩ | ⟨h1,k,rfl,hk⟩
    ·simp [h27,Qc,Qi,Ju,w24_0,rs24,h1,hE]
    ·simp [h27,Qc,Qi,Ju,w24_0,rs24,h1,hE]
def evAV (p:Pl) (e:En) (fr:Int):AV:=.agg (Ju p e fr .ro (e.al.filter (altB p e fr)))
theorem event_pure (p:Pl) (e:En) (fr:Int) (hc:p.cls.length<=1000000) (hsh:p.sh.length<=1000000000) (hit:p.its.length<=1000000000) (hal:e.al.length<=8796093022208) :
  Pure Tryz.prog gl0 24 [.agg (Qc p),.agg (Qi e),I fr] (evAV p e fr):=by
 obtain ⟨rt,h⟩:=event_pure0 p e fr hc hsh hit hal
 exact Yc h (wk_agg ⟨Wk.refl _,Wk.refl _,Wk.refl _,Wk.refl _,Wk.refl _,Wk.refl _,Wk.sl _ _,trivial⟩)
open Go Go.Abs
structure Ev2 where
 id:Int
 it:Int
 st:Int
 fr:Int
 i:Int
 re:Int
 al:List Sp
 nl:Bool
def Ws (e:Ev2):List AV:=[I e.id,I e.it,I e.st,I e.fr,I e.i,I e.re,.sl (if e.nl then .nil else .ro) (e.al.map Qd)]
def Xu (p:Pl) (x:Int×Int):Ev2:=⟨0,p.fi,x.1,x.2,0,filM p,[],true⟩
def evtE (p:Pl) (e:En) (fr:Int):Ev2:=⟨e.id,e.it,fr,e.fr,0,evM p e fr,e.al.filter (altB p e fr),false⟩
def OutE (p:Pl) (m:AM) (L:List Ev2):Prop:=1 < m.boxes.length/\Qf m.boxes 0=Qc p/\∃ rt,Qf m.boxes 1=[.sl rt (L.map Ws)]/\(L=[]/\rt=.nil\/L≠[]/\∃ k,rt=.own k 7/\m.lens[k]? = some L.length)
theorem OutE.extO {p:Pl} {m m':AM} {L:List Ev2} {O:Nat->Prop} (h:OutE p m L) (e:ExtO O m m') (h0:¬ O 0) (h1:¬ O 1):OutE p m' L:=by
 obtain ⟨a1,a2,rt,a3,a4⟩:=h
 obtain ⟨e1,e2,⟨lx,e3⟩,_⟩:=e
 refine ⟨by omega,by rw [e2 0 (by omega) h0];exact a2,rt,by rw [e2 1 a1 h1];exact a3,?_⟩
 rcases a4 with h | ⟨hn,k,hk,hl⟩
 ·exact .inl h
 ·exact .inr ⟨hn,k,hk,by rw [e3,List.getElem?_append_left (List.getElem?_eq_some_iff.1 hl).1];exact hl⟩
def flAC:SC:=(.rfunc (.tmp 67) [68] (.ops [⟨(some 12),(.alloc [(.int .i64 0),(.int .i64 0),(.int .i64 0),(.int .i64 0),(.int .i64 0),(.int .i64 0),(.sl .nil [])]),none,[]⟩,⟨none,(.store 7 (.tmp 12) (.tmp 68)),none,[]⟩]) (.block 3 (.ops [⟨(some 69),(.load false 1 (.tmp 7)),none,[]⟩,⟨(some 70),(.load true 7 (.tmp 12)),none,[]⟩,⟨(some 71),(.bsl 7 1 [(0,(.tmp 70))]),none,[]⟩,⟨(some 72),(.app 7 72 (.tmp 69) (.tmp 71)),none,[]⟩,⟨none,(.store 1 (.tmp 7) (.tmp 72)),none,[]⟩])))
theorem flA_vc (Y:YT) (p:Pl) (a t:Int) (hl:p.its.length<=1000000000) (hb : -1000000000<=a/\t<=1000000000) (hf:a<=1000000000 /\ -1000000000<=t) (orc:Nat->FuncId->List AV->AV) (ho:∀ d l,orc d 999999 l=.junk) (E:List (Nat×AV)) (m:AM) (L:List Ev2)
  (hO:OutE p m L) (hL:L.length+(Vp (Xq p) t a).length<=1000000000) (hg:Abs.look E 67=.fn 59 [] [.ep (Qc p) 0,.ep [I a] 0,.ep [I t] 0]) (h7:Abs.look E 7=.ptr 1 0) (Q:Exit->AS->Prop)
  (hQ:∀ m',OutE p m' (L++(Vp (Xq p) t a).map (Xu p))->m.boxes.length<=m'.boxes.length->(∀ j,2<=j->j < m.boxes.length->Qf m'.boxes j=Qf m.boxes j)->Q .normal ⟨Vd 98 E,m'⟩):vc Tryz.prog gl0 orc Y flAC ⟨Vd 98 E,m⟩ Q:=by
 have hit:=fills_iter p a t hl hb hf
 generalize hX:Vp (Xq p) t a=xs at *
 unfold flAC
 refine vc_rfuncO (xs:=xs.map (Ke p)) (by simp [hg];try exact ⟨rfl,rfl⟩) hit (by intro x hx;simp at hx;obtain ⟨u,v,_,rfl⟩:=hx;rfl)
  (fun O i mm=>(∀ j,O j->m.boxes.length<=j)/\OutE p mm (L++(xs.take i).map (Xu p))/\m.boxes.length<=mm.boxes.length/\(∀ j,2<=j->j < m.boxes.length->Qf mm.boxes j=Qf m.boxes j)) (fun _ _ _=>False) ?_ ?_ (fun _ _ _ _ h=>h.elim) ?_ ?_ (fun _ _ _ h=>h.elim)
 ·exact ⟨fun _ h=>h.elim,by rw [List.take_zero,List.map_nil,List.append_nil];exact hO,Nat.le_refl _,fun _ _ _=>rfl⟩
 ·rintro O i m1 m2 ⟨h1,h2,h3,h4⟩ e
  have hm2:=hO.1
  refine ⟨?_,h2.extO e (fun h=>by have:=h1 _ h;omega) (fun h=>by have:=h1 _ h;omega),Nat.le_trans h3 e.1,fun j j1 j2=>by rw [e.2.1 j (by omega) (fun h=>by have:=h1 _ h;omega)];exact h4 j j1 j2⟩
  rintro j (h | h)
  ·exact h1 j h
  ·omega
 ·rintro O l i mm x hOb hle hg0 hrd ⟨h1,h2,h3,h4⟩ hx K' q1 _ _
  rw [List.getElem?_map,Option.map_eq_some_iff] at hx
  obtain ⟨x,hx,rfl⟩:=hx
  have hil:=(List.getElem?_eq_some_iff.1 hx).1
  have htk:L++(xs.take (i+1)).map (Xu p)=(L++(xs.take i).map (Xu p))++[Xu p x]:=by rw [List.take_add_one,hx];simp
  have hml:=hO.1
  have hlen:(L++(xs.take i).map (Xu p)).length<=1000000000:=by simp;omega
  obtain ⟨o1,o2,rt,o3,o4⟩:=h2
  simp only [Vw,at_lens] at o1 o2 o3 o4 h3 h4
  have hra:∀ y,Qf (mm.boxes++y) 1=[.sl rt ((L++(xs.take i).map (Xu p)).map Ws)]:=fun y=>by rw [Qh (by omega)];exact o3
  have hrb:∀ y,Qf (mm.boxes++[y]) mm.boxes.length=y:=fun y=>by
   simp
  have fin:∀ (T:List AV) (v:List AV) (row:List AV) (ls:List Nat) (st:Nat->LS) (ln:Nat),OutE p ⟨(mm.boxes++[row]).set 1 v,ls,st,ln⟩ (L++(xs.take (i+1)).map (Xu p))->K' .normal ⟨T,⟨(mm.boxes++[row]).set 1 v,ls,st,ln⟩⟩:=by
   intro T v row ls st ln hv
   refine q1 _ ⟨by simp,fun j hj=>?_⟩ ⟨h1,hv,by simp;omega,fun j j1 j2=>?_⟩
   ·have:=(hOb j hj).2
    have:=h1 j hj
    show Qf ((mm.boxes++[row]).set 1 v) j=_
    rw [Zu _ (by omega),Qh (by omega)]
   ·show Qf ((mm.boxes++[row]).set 1 v) j=_
    rw [Zu _ (by omega),Qh (by omega)];exact h4 j j1 j2
  have fin0:∀ (v row:List AV),Qf ((mm.boxes++[row]).set 1 v) 0=Qc p/\Qf ((mm.boxes++[row]).set 1 v) 1=v:=fun v row=>⟨by rw [Zu _ (by omega),Qh (by omega)];exact o2,Vn _ (by simp;omega)⟩
  rw [htk] at fin
  generalize L++(xs.take i).map (Xu p)=G at *
  have hG7:∀ row∈G.map Ws,row.length=7:=by
   intro row h
   obtain ⟨e,_,rfl⟩:=List.mem_map.1 h
   rfl
  rcases o4 with ⟨rfl,rfl⟩ | ⟨hne,k,rfl,hk⟩
  ·simp [hrd,Xh,Ke,h7,hra,hrb,ho]
   subst_vars
   exact ⟨by omega,fin _ _ _ _ _ _ ⟨by simp;omega,(fin0 _ _).1,_,(fin0 _ _).2,.inr ⟨by simp,_,rfl,by simp⟩⟩⟩
  ·simp [hrd,Xh,Ke,h7,hra,hrb,ho]
   refine ⟨⟨hk,?_,by omega⟩,by omega,fin _ _ _ _ _ _ ⟨by simp;omega,(fin0 _ _).1,_,by rw [(fin0 _ _).2];simp;rfl,.inr ⟨by simp,k,rfl,by simp [(List.getElem?_eq_some_iff.1 hk).1]⟩⟩⟩
   rintro row (⟨e,_,rfl⟩ | rfl)<;>rfl
 ·rintro mm' mm ⟨h1,h2,h3,h4⟩
  rw [List.length_map,List.take_length] at h2
  exact hQ _ h2 h3 h4
def flBC:SC:=(.rfunc (.tmp 91) [92] (.ops [⟨(some 13),(.alloc [(.int .i64 0),(.int .i64 0),(.int .i64 0),(.int .i64 0),(.int .i64 0),(.int .i64 0),(.sl .nil [])]),none,[]⟩,⟨none,(.store 7 (.tmp 13) (.tmp 92)),none,[]⟩]) (.block 5 (.ops [⟨(some 93),(.load false 1 (.tmp 7)),none,[]⟩,⟨(some 94),(.load true 7 (.tmp 13)),none,[]⟩,⟨(some 95),(.bsl 7 1 [(0,(.tmp 94))]),none,[]⟩,⟨(some 96),(.app 7 72 (.tmp 93) (.tmp 95)),none,[]⟩,⟨none,(.store 1 (.tmp 7) (.tmp 96)),none,[]⟩])))
theorem flB_vc (Y:YT) (p:Pl) (a t:Int) (hl:p.its.length<=1000000000) (hb : -1000000000<=a/\t<=1000000000) (hf:a<=1000000000 /\ -1000000000<=t) (orc:Nat->FuncId->List AV->AV) (ho:∀ d l,orc d 999999 l=.junk) (E:List (Nat×AV)) (m:AM) (L:List Ev2)
  (hO:OutE p m L) (hL:L.length+(Vp (Xq p) t a).length<=1000000000) (hg:Abs.look E 91=.fn 59 [] [.ep (Qc p) 0,.ep [I a] 0,.ep [I t] 0]) (h7:Abs.look E 7=.ptr 1 0) (Q:Exit->AS->Prop)
  (hQ:∀ m',OutE p m' (L++(Vp (Xq p) t a).map (Xu p))->m.boxes.length<=m'.boxes.length->(∀ j,2<=j->j < m.boxes.length->Qf m'.boxes j=Qf m.boxes j)->Q .normal ⟨Vd 98 E,m'⟩):vc Tryz.prog gl0 orc Y flBC ⟨Vd 98 E,m⟩ Q:=by
 have hit:=fills_iter p a t hl hb hf
 generalize hX:Vp (Xq p) t a=xs at *
 unfold flBC
 refine vc_rfuncO (xs:=xs.map (Ke p)) (by simp [hg];try exact ⟨rfl,rfl⟩) hit (by intro x hx;simp at hx;obtain ⟨u,v,_,rfl⟩:=hx;rfl)
  (fun O i mm=>(∀ j,O j->m.boxes.length<=j)/\OutE p mm (L++(xs.take i).map (Xu p))/\m.boxes.length<=mm.boxes.length/\(∀ j,2<=j->j < m.boxes.length->Qf mm.boxes j=Qf m.boxes j)) (fun _ _ _=>False) ?_ ?_ (fun _ _ _ _ h=>h.elim) ?_ ?_ (fun _ _ _ h=>h.elim)
 ·exact ⟨fun _ h=>h.elim,by rw [List.take_zero,List.map_nil,List.append_nil];exact hO,Nat.le_refl _,fun _ _ _=>rfl⟩
 ·rintro O i m1 m2 ⟨h1,h2,h3,h4⟩ e
  have hm2:=hO.1
  refine ⟨?_,h2.extO e (fun h=>by have:=h1 _ h;omega) (fun h=>by have:=h1 _ h;omega),Nat.le_trans h3 e.1,fun j j1 j2=>by rw [e.2.1 j (by omega) (fun h=>by have:=h1 _ h;omega)];exact h4 j j1 j2⟩
  rintro j (h | h)
  ·exact h1 j h
  ·omega
 ·rintro O l i mm x hOb hle hg0 hrd ⟨h1,h2,h3,h4⟩ hx K' q1 _ _
  rw [List.getElem?_map,Option.map_eq_some_iff] at hx
  obtain ⟨x,hx,rfl⟩:=hx
  have hil:=(List.getElem?_eq_some_iff.1 hx).1
  have htk:L++(xs.take (i+1)).map (Xu p)=(L++(xs.take i).map (Xu p))++[Xu p x]:=by rw [List.take_add_one,hx];simp
  have hml:=hO.1
  have hlen:(L++(xs.take i).map (Xu p)).length<=1000000000:=by simp;omega
  obtain ⟨o1,o2,rt,o3,o4⟩:=h2
  simp only [Vw,at_lens] at o1 o2 o3 o4 h3 h4
  have hra:∀ y,Qf (mm.boxes++y) 1=[.sl rt ((L++(xs.take i).map (Xu p)).map Ws)]:=fun y=>by rw [Qh (by omega)];exact o3
  have hrb:∀ y,Qf (mm.boxes++[y]) mm.boxes.length=y:=fun y=>by
   simp
  have fin:∀ (T:List AV) (v:List AV) (row:List AV) (ls:List Nat) (st:Nat->LS) (ln:Nat),OutE p ⟨(mm.boxes++[row]).set 1 v,ls,st,ln⟩ (L++(xs.take (i+1)).map (Xu p))->K' .normal ⟨T,⟨(mm.boxes++[row]).set 1 v,ls,st,ln⟩⟩:=by
   intro T v row ls st ln hv
   refine q1 _ ⟨by simp,fun j hj=>?_⟩ ⟨h1,hv,by simp;omega,fun j j1 j2=>?_⟩
   ·have:=(hOb j hj).2
    have:=h1 j hj
    show Qf ((mm.boxes++[row]).set 1 v) j=_
    rw [Zu _ (by omega),Qh (by omega)]
   ·show Qf ((mm.boxes++[row]).set 1 v) j=_
    rw [Zu _ (by omega),Qh (by omega)];exact h4 j j1 j2
  have fin0:∀ (v row:List AV),Qf ((mm.boxes++[row]).set 1 v) 0=Qc p/\Qf ((mm.boxes++[row]).set 1 v) 1=v:=fun v row=>⟨by rw [Zu _ (by omega),Qh (by omega)];exact o2,Vn _ (by simp;omega)⟩
  rw [htk] at fin
  generalize L++(xs.take i).map (Xu p)=G at *
  have hG7:∀ row∈G.map Ws,row.length=7:=by
   intro row h
   obtain ⟨e,_,rfl⟩:=List.mem_map.1 h
   rfl
  rcases o4 with ⟨rfl,rfl⟩ | ⟨hne,k,rfl,hk⟩
  ·simp [hrd,Xh,Ke,h7,hra,hrb,ho]
   subst_vars
   exact ⟨by omega,fin _ _ _ _ _ _ ⟨by simp;omega,(fin0 _ _).1,_,(fin0 _ _).2,.inr ⟨by simp,_,rfl,by simp⟩⟩⟩
  ·simp [hrd,Xh,Ke,h7,hra,hrb,ho]
   refine ⟨⟨hk,?_,by omega⟩,by omega,fin _ _ _ _ _ _ ⟨by simp;omega,(fin0 _ _).1,_,by rw [(fin0 _ _).2];simp;rfl,.inr ⟨by simp,k,rfl,by simp [(List.getElem?_eq_some_iff.1 hk).1]⟩⟩⟩
   rintro row (⟨e,_,rfl⟩ | rfl)<;>rfl
 ·rintro mm' mm ⟨h1,h2,h3,h4⟩
  rw [List.length_map,List.take_length] at h2
  exact hQ _ h2 h3 h4
theorem fillL_len (fr t:Int):∀ (n:Nat) (a:Int),(t - a).toNat<=n->((Vp fr t a).length:Int)<=max 0 (t - a):=by
 intro n
 induction n with
 | zero=>intro a h;rw [Vp,if_neg (by omega)];simp only [List.length_nil];omega
 | succ n ih =>
  intro a h
  rw [Vp]
  split
  ·rename_i hlt
   have hN:1<=Vl fr t a/\Vl fr t a<=t - a:=by unfold Vl;split<;>omega
   have:=ih (a+Vl fr t a) (by omega)
   simp only [List.length_cons];omega
  ·simp only [List.length_nil];omega
theorem OutE.app {p:Pl} {m:AM} {L:List Ev2} (h:OutE p m L) (x:List (List AV)):OutE p ⟨m.boxes++x,m.lens,m.st,m.ln⟩ L:=by
 obtain ⟨a1,a2,rt,a3,a4⟩:=h
 exact ⟨by simp;omega,by show Qf (m.boxes++x) 0=_;rw [Qh (by omega)];exact a2,rt,by show Qf (m.boxes++x) 1=_;rw [Qh (by omega)];exact a3,a4⟩
open Go Go.Abs
def skipB (p:Pl) (s:Sp) (at_:Int):Option En:=match Ko s.1 p.ens with
 | some e=>if s.1=0\/e.fr < 1\/s.2 < at_\/p.ln - s.2 < e.fr then none else some e
 | none=>none
def Uw (p:Pl):List Sp->Int->List Ev2
 | [],at_=>(Vp (Xq p) p.ln at_).map (Xu p)
 | s::r,at_=>match skipB p s at_ with
  | none=>Uw p r at_
  | some e=>((Vp (Xq p) s.2 at_).map (Xu p)++[evtE p e s.2])++Uw p r (s.2+e.fr)
def bldS (p:Pl) (l:List Sp) (at_:Int):List Ev2:=if at_ < 0\/p.ln < at_ then [] else Uw p l at_
def orcB (p:Pl):Nat->FuncId->List AV->AV:=fun d f l =>
 if f=999999 then .junk else
 if f=22 then (match l with | [_,.int _ n]=>enAV (Ko n p.ens) | _=>.junk) else
 if f=23 then (match l with | [_,.int _ a,.int _ t]=>.fn 59 [] [.ep (Qc p) 0,.ep [I a] 0,.ep [I t] 0] | _=>.junk) else
 if f=24 then (match l with | [_,.agg [.int _ a,.int _ b,.int _ c,.int _ d,.int _ e,.int _ g,.sl _ rows],.int _ fr]=>evAV p ⟨a,b,c,d,e,g,rows.map unSp⟩ fr | _=>.junk) else .gd false .junk
theorem fndN_mem {id:Int} {x:En}:∀ {l:List En},Ko id l=some x->x∈l/\x.id=id
 | [],h=>by cases h
 | y::r,h=>by
  simp only [Ko] at h
  split at h
  ·rename_i hy;cases h;exact ⟨by simp,hy⟩
  ·obtain ⟨h1,h2⟩:=fndN_mem h;exact ⟨by simp [h1],h2⟩
theorem build_pure (p:Pl) (l:List Sp) (at0:Int) (hc:p.cls.length<=1000000) (hsh:p.sh.length<=1000000000) (hit:p.its.length<=1000000000) (hen:p.ens.length<=1000000000) (hal:∀ e∈p.ens,e.al.length<=8796093022208)
  (hln:p.ln<=1000000) (hl:l.length<=1000000) (hls:∀ s∈l,-1000000000<=s.2/\s.2<=1000000000):∃ rt,Pure Tryz.prog gl0 7 [.agg (Qc p),.sl .ro (l.map Qd),I at0] (.sl rt ((bldS p l at0).map Ws)):=by
 by_cases c0:at0 < 0\/p.ln < at0
 ·refine ⟨.nil,Qn code7 (orcB p) (by simp) ?_⟩
  rw [bldS,if_pos c0]
  by_cases c1:at0 < 0
  ·simp [sc7,rs7,Qc,c1]
  ·have c2:p.ln < at0:=by omega
   simp [sc7,rs7,Qc,c1,c2]
 ·refine ⟨if Uw p l at0=[] then .nil else .ro,Qn code7 (orcB p) (by simp) ?_⟩
  rw [bldS,if_neg c0]
  simp only [not_or] at c0
  have c1:¬ at0 < 0:=c0.1
  have c2:¬ p.ln < at0:=c0.2
  simp [sc7,Qc,c1,c2]
  refine Ql w7_0 (fun f mm=>∃ (i:Nat) (at_:Int) (L:List Ev2),f 24=I i/\f 2=I at_/\i<=l.length/\OutE p mm L/\0<=at_/\at_<=p.ln/\(L.length:Int)<=at_/\L++Uw p (l.drop i) at_=Uw p l at0) (fun f _=>l.length - (numOf (f 24)).toNat) ?_ ?_
  ·exact ⟨0,at0,[],by simp,by simp,by omega,⟨by simp,by simp [Qc],.nil,by simp,.inl ⟨rfl,rfl⟩⟩,by omega,by omega,by simp;omega,by simp⟩
  ·rintro f mm ⟨i,at_,L,h24,h2,hi,hO,a1,a2,a3,hI⟩
   rcases Nat.lt_or_ge i l.length with hlt | hge
   ·obtain ⟨s,hs⟩:=getS hlt
    have hrow:=Zm hs
    have hsb:=hls s (List.mem_of_getElem? hs)
    have hilt:(i:Int) < (l.length:Int):=by omega
    have hw:=wrS i (by omega)
    have hw2:IntKind.i64.wrap (p.ln - s.2)=p.ln - s.2:=by rw [Qe]<;>omega
    rw [Qz hs,Uw] at hI
    have k30:=entry_pure p s.1 hen hal
    have hO':=hO
    obtain ⟨o1,o2,rt,o3,o4⟩:=hO'
    have r0:∀ y,Qf (mm.boxes++y) 0=Qc p:=fun y=>by rw [Qh (by omega)];exact o2
    have r1:∀ y,Qf (mm.boxes++y) 1=[.sl rt (L.map Ws)]:=fun y=>by rw [Qh o1];exact o3
    simp only [Qc] at r0
    cases hf:Ko s.1 p.ens with
    | none =>
     simp only [skipB,hf] at hI
     rw [hf] at k30
     by_cases c3:s.1=0
     ·rw [c3] at hf k30
      simp [h24,h2,w7_0,hlt,hilt,hrow,r0,r1,orcB,hf,enAV,hw,c3]
      refine ⟨k30,ag ?_,⟨i+1,by simp,by omega,L,hO.app _,a1,a2,a3,hI⟩,by omega⟩
      repeat (first | exact Qa _ _ | refine Qb _ rfl ?_)
     ·simp [h24,h2,w7_0,hlt,hilt,hrow,r0,r1,orcB,hf,enAV,hw,c3]
      refine ⟨k30,ag ?_,⟨i+1,by simp,by omega,L,hO.app _,a1,a2,a3,hI⟩,by omega⟩
      repeat (first | exact Qa _ _ | refine Qb _ rfl ?_)
    | some e =>
     rw [hf] at k30
     simp only [skipB,hf] at hI
     by_cases c3:s.1=0
     ·rw [if_pos (.inl c3)] at hI
      rw [c3] at hf k30
      simp [h24,h2,w7_0,hlt,hilt,hrow,r0,r1,orcB,hf,enAV,Qi,hw,c3]
      refine ⟨k30,ag ?_,⟨i+1,by simp,by omega,L,hO.app _,a1,a2,a3,hI⟩,by omega⟩
      repeat (first | exact Qa _ _ | refine Qb _ rfl ?_)
     ·by_cases c4:e.fr < 1
      ·rw [if_pos (.inr (.inl c4))] at hI
       simp [h24,h2,w7_0,hlt,hilt,hrow,r0,r1,orcB,hf,enAV,Qi,hw,c3,c4]
       refine ⟨k30,ag ?_,⟨i+1,by simp,by omega,L,hO.app _,a1,a2,a3,hI⟩,by omega⟩
       repeat (first | exact Qa _ _ | refine Qb _ rfl ?_)
      ·by_cases c5:s.2 < at_
       ·rw [if_pos (.inr (.inr (.inl c5)))] at hI
        simp [h24,h2,w7_0,hlt,hilt,hrow,r0,r1,orcB,hf,enAV,Qi,hw,c3,c4,c5]
        refine ⟨k30,ag ?_,⟨i+1,by simp,by omega,L,hO.app _,a1,a2,a3,hI⟩,by omega⟩
        repeat (first | exact Qa _ _ | refine Qb _ rfl ?_)
       ·by_cases c6:p.ln - s.2 < e.fr
        ·rw [if_pos (.inr (.inr (.inr c6)))] at hI
         simp [h24,h2,w7_0,hlt,hilt,hrow,r0,r1,orcB,hf,enAV,Qi,hw,hw2,c3,c4,c5,c6]
         refine ⟨k30,ag ?_,⟨i+1,by simp,by omega,L,hO.app _,a1,a2,a3,hI⟩,by omega⟩
         repeat (first | exact Qa _ _ | refine Qb _ rfl ?_)
        ·rw [if_neg (by omega)] at hI
         simp [h24,h2,w7_0,hlt,hilt,hrow,r0,r1,orcB,hf,enAV,Qi,hw,hw2,c3,c4,c5,c6]
         have k31:=fills_pure p at_ s.2
         have hfl:=fillL_len (Xq p) s.2 _ at_ (Nat.le_refl _)
         refine ⟨k30,k31,?_⟩
         refine flA_vc Y0 p at_ s.2 hit (by omega) (by omega) (orcB p) (fun _ _=>rfl) _ _ L (hO.app _) (by omega) (by simp) (by simp) _ ?_
         intro m' hO2 hle hrows
         have Rs:Qf m'.boxes mm.boxes.length=[I s.1,I s.2]:=by
          rw [hrows _ (by omega) (by simp)];simp
         have Re:Qf m'.boxes (mm.boxes.length+1)=Qi e:=by
          rw [hrows _ (by omega) (by simp)];simp [Qi]
         simp only [Qi] at Re
         obtain ⟨p1,p2,rt2,p3,p4⟩:=hO2
         have p2':=p2
         have b1:∀ v,Qf (m'.boxes.set 1 v) 1=v:=fun v=>Vn v p1
         have b0:∀ v,Qf (m'.boxes.set 1 v) 0=Qc p:=fun v=>by rw [Zu v (by omega)];exact p2
         have bs:∀ v,Qf (m'.boxes.set 1 v) mm.boxes.length=[I s.1,I s.2]:=fun v=>by rw [Zu v (by omega)];exact Rs
         have be:∀ v,Qf (m'.boxes.set 1 v) (mm.boxes.length+1)=[I e.id,I e.it,I e.fr,I e.ea,I e.la,I e.bo,.sl .ro (e.al.map Qd)]:=fun v=>by rw [Zu v (by omega)];exact Re
         simp only [Qc] at p2'
         have hG:((L++(Vp (Xq p) s.2 at_).map (Xu p)).length:Int)<=s.2:=by simp;omega
         have hI2:(L++(Vp (Xq p) s.2 at_).map (Xu p)++[evtE p e s.2])++Uw p (l.drop (i+1)) (s.2+e.fr)=Uw p l at0:=by rw [<- hI];simp
         generalize L++(Vp (Xq p) s.2 at_).map (Xu p)=G at *
         have k32:=event_pure p e s.2 hc hsh hit (hal e (fndN_mem hf).1)
         have hw3:IntKind.i64.wrap (s.2+e.fr)=s.2+e.fr:=by rw [Qe]<;>omega
         rcases p4 with ⟨g1,rfl⟩ | ⟨g1,k,rfl,hk⟩
         ·subst g1
          simp [h24,p2',p3,Rs,Re,b1,bs,be,p1,orcB,evAV,Ju,hw,hw3]
          rw [List.nil_append] at hI2
          refine ⟨k32,ag ?_,⟨i+1,by simp,by omega,[evtE p e s.2],⟨by simp;omega,b0 _,_,b1 _,.inr ⟨by simp,_,rfl,by simp⟩⟩,by omega,by omega,by simp;omega,hI2⟩,by omega⟩
          repeat (first | exact Qa _ _ | refine Qb _ rfl ?_)
         ·simp [h24,p2',p3,Rs,Re,b1,bs,be,p1,orcB,evAV,Ju,hw,hw3]
          refine ⟨k32,⟨hk,by rintro row (⟨a,_,rfl⟩ | rfl)<;>rfl,by omega⟩,ag ?_,⟨i+1,by simp,by omega,G++[evtE p e s.2],⟨by simp;omega,b0 _,_,by rw [b1];simp [Ws,evtE],.inr ⟨by simp,k,rfl,by simp [(List.getElem?_eq_some_iff.1 hk).1]⟩⟩,by omega,by omega,by simp;omega,hI2⟩,by omega⟩
          repeat (first | exact Qa _ _ | refine Qb _ rfl ?_)
   ·obtain rfl:i=l.length:=by omega
    have k31:=fills_pure p at_ p.ln
    have hfl:=fillL_len (Xq p) p.ln _ at_ (Nat.le_refl _)
    rw [List.drop_length,Uw] at hI
    obtain ⟨o1,o2,rt,o3,o4⟩:=id hO
    simp only [Qc] at o2
    simp [h24,h2,w7_0,o2,orcB]
    refine ⟨k31,?_⟩
    refine flB_vc Y0 p at_ p.ln hit (by omega) (by omega) (orcB p) (fun _ _=>rfl) _ _ L hO (by omega) (by simp) (by simp) _ ?_
    intro m' hO2 hle hrows
    rw [hI] at hO2
    obtain ⟨p1,p2,rt2,p3,p4⟩:=hO2
    generalize Uw p l at0=G at *
    rcases p4 with ⟨g1,rfl⟩ | ⟨g1,k,rfl,hk⟩
    ·subst g1
     simp [p3,p1,rs7]
    ·simp [p3,p1,rs7,g1]
def Qj (e:Ev2):List AV:=[I e.id,I e.it,I e.st,I e.fr,I e.i,I e.re,.sl .ro (e.al.map Qd)]
theorem wk_ev2 (L:List Ev2):Wk (.sl .ro (L.map Ws)) (.sl .ro (L.map Qj)):=by
 refine Wk.rows L Ws Qj (fun _=>rfl) fun a j c' h=>?_
 match j,h with
 | 0,h=>exact ⟨_,rfl,by cases h;exact Wk.refl _⟩
 | 1,h=>exact ⟨_,rfl,by cases h;exact Wk.refl _⟩
 | 2,h=>exact ⟨_,rfl,by cases h;exact Wk.refl _⟩
 | 3,h=>exact ⟨_,rfl,by cases h;exact Wk.refl _⟩
 | 4,h=>exact ⟨_,rfl,by cases h;exact Wk.refl _⟩
 | 5,h=>exact ⟨_,rfl,by cases h;exact Wk.refl _⟩
 | 6,h=>exact ⟨_,rfl,by cases h;exact Wk.sl _ _⟩
 | j+7,h=>simp [Qj] at h
theorem Wk.trans {a b c:AV} (h:Wk a b) (k:Wk b c):Wk a c:=fun w γ v hr=>k w γ v (h w γ v hr)
theorem buildR_pure (p:Pl) (l:List Sp) (at0:Int) (hc:p.cls.length<=1000000) (hsh:p.sh.length<=1000000000) (hit:p.its.length<=1000000000) (hen:p.ens.length<=1000000000) (hal:∀ e∈p.ens,e.al.length<=8796093022208)
  (hln:p.ln<=1000000) (hl:l.length<=1000000) (hls:∀ s∈l,-1000000000<=s.2/\s.2<=1000000000):Pure Tryz.prog gl0 7 [.agg (Qc p),.sl .ro (l.map Qd),I at0] (.sl .ro ((bldS p l at0).map Qj)):=by
 obtain ⟨rt,h⟩:=build_pure p l at0 hc hsh hit hen hal hln hl hls
 exact Yc h (Wk.trans (Wk.sl _ _) (wk_ev2 _))
end Go.Proofs.YtjmgelbfndnpjaaGreatDoor
