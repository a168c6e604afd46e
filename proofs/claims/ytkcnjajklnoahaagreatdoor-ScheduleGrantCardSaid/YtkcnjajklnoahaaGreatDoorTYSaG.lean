import Derived.Test.YtkcnjajklnoahaaGreatDoorTYSaD
set_option linter.unusedVariables false
set_option linter.unusedSimpArgs false
namespace Go.Proofs.YtkcnjajklnoahaaGreatDoor
open Go Go.Abs
def cntI (it:Int) (bf:List (Int×Int)):Int:=((bf.filter fun a=>decide (a.1=it)).length:Nat)
def holdG (p:Pl):List Int->List Sp->List (Int×Int)->Int->Int->Prop
 | [],[],_,_,_=>True
 | id::r,s::l,bf,free,last=>∃ k e,Vy id p.ens 0=some k/\p.ens[k]? = some e/\s.1=id/\last < (k:Int)/\(1<=e.fr/\e.fr<=1000000)/\free<=s.2/\e.ea<=s.2/\s.2<=e.la/\0<=s.2/\s.2<=100000000/\s.2+e.fr<=p.ln /\
   Uu p e.it 0 s.2 e.fr=true/\(Zo p e.it = -1\/cntI e.it bf < Zo p e.it)/\(∀ a∈bf,0 < Ze p a.1 e.it->a.2+Ze p a.1 e.it<=s.2)/\holdG p r l ((e.it,s.2+e.fr)::bf) (s.2+e.fr) k
 | _,_,_,_,_=>False
structure RelA (p:Pl) (bf us en:List (Int×Int)):Prop where
 us:∀ it,(af it us).getD 0<=cntI it bf
 en:∀ k v,af k en=some v->∃ a∈bf,∃ x,Qy a.1 p.its=some x/\x.sp=k/\v<=a.2
structure RelB (p:Pl) (bf us en:List (Int×Int)):Prop where
 us:∀ it,cntI it bf<=(af it us).getD 0
 en:∀ a∈bf,∀ x,Qy a.1 p.its=some x->∃ v,af x.sp en=some v/\a.2<=v
theorem cntI_cons (it:Int) (a:Int×Int) (bf:List (Int×Int)):cntI it (a::bf)=cntI it bf+if a.1=it then 1 else 0:=by
 unfold cntI
 rw [List.filter_cons]
 by_cases h:a.1=it
 ·simp [h]
 ·simp [h]
theorem RelA.note {p:Pl} {bf us en:List (Int×Int)} (h:RelA p bf us en) (it:Int) {e' e:Int} (h0:0<=e) (he:e'<=e) (h1:0<=e'):RelA p ((it,e)::bf) (Zw us it) (Za p en it e'):=by
 refine ⟨fun k=>?_,fun k v hk=>?_⟩
 ·rw [Zw,Zr,cntI_cons]
  have:=h.us it
  have:=h.us k
  by_cases hc:k=it
  ·subst hc;simp;omega
  ·have hc':¬ it=k:=fun e=>hc e.symm
   simp [hc,hc'];omega
 ·unfold Za at hk
  cases hf:Qy it p.its with
  | none =>
   rw [hf] at hk
   obtain ⟨a,ha,hx⟩:=h.en k v hk
   exact ⟨a,by simp [ha],hx⟩
  | some x =>
   rw [hf] at hk
   simp only [Zr] at hk
   split at hk
   ·rename_i hkx
    cases hk
    cases ho:af x.sp en with
    | none=>exact ⟨(it,e),by simp,x,hf,hkx.symm,by simp;omega⟩
    | some w =>
     obtain ⟨a,ha,y,h2,h3,h4⟩:=h.en _ _ ho
     rcases Int.lt_or_le w e' with hw | hw
     ·exact ⟨(it,e),by simp,x,hf,hkx.symm,by simp;omega⟩
     ·exact ⟨a,by simp [ha],y,h2,by rw [h3,hkx],by simp;omega⟩
   ·obtain ⟨a,ha,hx⟩:=h.en k v hk
    exact ⟨a,by simp [ha],hx⟩
theorem RelB.note {p:Pl} {bf us en:List (Int×Int)} (h:RelB p bf us en) (it:Int) (e:Int):RelB p ((it,e)::bf) (Zw us it) (Za p en it e):=by
 refine ⟨fun k=>?_,fun a ha x hx=>?_⟩
 ·rw [Zw,Zr,cntI_cons]
  have:=h.us it
  have:=h.us k
  by_cases hc:k=it
  ·subst hc;simp;omega
  ·have hc':¬ it=k:=fun e=>hc e.symm
   simp [hc,hc'];omega
 ·unfold Za
  rcases List.mem_cons.1 ha with rfl | ha
  ·rw [hx]
   simp only
   exact ⟨_,by rw [Zr,if_pos rfl],by omega⟩
  ·obtain ⟨v,hv,hle⟩:=h.en a ha x hx
   cases hf:Qy it p.its with
   | none=>exact ⟨v,hv,hle⟩
   | some y =>
    simp only [Zr]
    split
    ·rename_i hc
     refine ⟨_,rfl,?_⟩
     rw [<- hc,hv];simp;omega
    ·exact ⟨v,hv,hle⟩
theorem earG_holds {p:Pl}:∀ {ids:List Int} {us en bf:List (Int×Int)} {free last:Int} {l:List Sp},RelB p bf us en->Zt p ids us en free last=some l->holdG p ids l bf free last
 | [],_,_,_,_,_,l,_,h=>by cases h;trivial
 | id::r,us,en,bf,free,last,l,hB,h=>by
  rw [Zt] at h
  cases hf:Vy id p.ens 0 with
  | none=>rw [hf] at h;cases h
  | some k =>
   rw [hf] at h
   simp only at h
   split at h
   ·cases h
   ·rename_i hkl
    cases hx:p.ens[k]? with
    | none=>rw [hx] at h;cases h
    | some e =>
     rw [hx] at h
     simp only at h
     split at h
     ·cases h
     ·rename_i hr
      cases hs:Xr p e (Zb en (Vp p e.it) (max e.ea free)) with
      | none=>rw [hs] at h;cases h
      | some s =>
       rw [hs] at h
       simp only at h
       cases hg:Zt p r (Zw us e.it) (Za p en e.it (s+e.fr)) (s+e.fr) k with
       | none=>rw [hg] at h;cases h
       | some l' =>
        rw [hg] at h
        cases h
        obtain ⟨a1,a2,a3,a4,a5,a6,a7⟩:=Uk hs
        obtain ⟨f1,f2⟩:=fromL_le_iff.1 a2
        have hu:=hB.us e.it
        refine ⟨k,e,hf,hx,rfl,by omega,a1,by omega,by omega,a4,a3,a6,a5,startS_allow hs,?_,fun a ha hgp=>?_,earG_holds (hB.note e.it _) hg⟩
        ·by_cases h1:Zo p e.it = -1
         ·exact .inl h1
         ·refine .inr ?_
          rcases Int.lt_or_le ((af e.it us).getD 0) (Zo p e.it) with h2 | h2
          ·omega
          ·exact absurd ⟨h1,h2⟩ hr
        ·obtain ⟨x,y,g1,_⟩:=gapS_pos hgp
         obtain ⟨v,hv,hle⟩:=hB.en a ha x g1
         have:=(riv_iff (p:=p) (it:=e.it) (fun o g=>∀ v,af o en=some v->v+g<=s)).1 f2 a.1 x g1 hgp v hv
         simp only
         omega
theorem RelB.nil (p:Pl):RelB p [] [] []:=⟨fun _=>by simp [cntI,af],fun _ h=>by cases h⟩
theorem RelA.nil (p:Pl):RelA p [] [] []:=⟨fun _=>by simp [cntI,af],fun _ _ h=>by cases h⟩
def pastB (past:List Ad):List (Int×Int):=(past.filter Zn).map fun a=>(a.it,a.fr+a.fs)
theorem past_rel (p:Pl):∀ (past:List Ad) (bf us en:List (Int×Int)),RelA p bf us en/\RelB p bf us en->RelA p ((pastB past).reverse++bf) (Jj past us) (Ua p past en)/\RelB p ((pastB past).reverse++bf) (Jj past us) (Ua p past en)
 | [],bf,us,en,h=>by simpa [pastB,Jj,Ua] using h
 | a::r,bf,us,en,h=>by
  rw [Jj,Ua]
  cases hc:Zn a with
  | false =>
   have:pastB (a::r)=pastB r:=by simp [pastB,hc]
   rw [this]
   simp only [Bool.false_eq_true,if_false]
   exact past_rel p r bf us en h
  | true =>
   have hp:(pastB (a::r)).reverse++bf=(pastB r).reverse++((a.it,a.fr+a.fs)::bf):=by simp [pastB,hc]
   rw [hp]
   simp only [if_true]
   have hb:0<=a.fr+a.fs:=by simp [Zn] at hc;omega
   exact past_rel p r _ _ _ ⟨h.1.note a.it hb (Int.le_refl _) hb,h.2.note a.it _⟩
open Go Go.Abs
def Yy (p:Pl) (c:Cl):Pl:={ p with cls:=p.cls++[c] }
theorem gapC_app (a b:Int) (c:Cl) (hc:hitG a b c=false):∀ (l:List Cl) (g:Int),Kk a b (l++[c]) g=Kk a b l g
 | [],g=>by rw [List.nil_append,Kj,hc];rfl
 | d::l,g=>by rw [List.cons_append,Kj,gapC_app a b c hc l,Kj]
theorem gapS_with (p:Pl) (c:Cl) (h:c.ki=1) (a b:Int):Ze (Yy p c) a b=Ze p a b:=by
 have hh:∀ x y,hitG x y c=false:=fun x y=>by simp [hitG,h]
 simp only [Ze,Yy]
 cases Qy a p.its with
 | none=>rfl
 | some x =>
  cases Qy b p.its with
  | none=>rfl
  | some y=>simp only [gapC_app _ _ c (hh x.sp y.sp)]
theorem rivL_with (p:Pl) (c:Cl) (h:c.ki=1) (it:Int):Vp (Yy p c) it=Vp p it:=by
 have hg:=fun a=>gapS_with p c h a it
 have hs:Vn (Yy p c)=Vn p:=rfl
 unfold Vp
 rw [hs]
 show (match Qy it p.its with | none=>[] | some y=>_)=_
 cases Qy it p.its with
 | none=>rfl
 | some y =>
  simp only [hg]
theorem runsS_with (p:Pl) (c:Cl) (h:c.ki=1) (it:Int):Zo (Yy p c) it=Zo p it:=by
 have hh:hitC 3 it 0 c=false:=by simp [hitC,h]
 simp only [Zo,Yy,lastC_app,hh]
 rfl
theorem perm_with (p:Pl) (c:Cl) (h:c.ki=1) (it x:Int) (hx:Ue p it 0 x):Ue (Yy p c) it 0 x:=by
 obtain ⟨y,h1,h2,h3,h4⟩:=hx
 refine ⟨y,h1,h2,h3,?_⟩
 rcases h4 with h4 | ⟨t1,t2,t3⟩
 ·exact .inl h4
 ·have hw:Vo (Yy p c).cls y.ra=Vo p.cls y.ra:=by
   simp only [Vo,Yy,List.filter_append]
   have:Qce y.ra c=false:=by simp [Qce,h]
   simp [this]
  refine .inr ⟨t1,?_,fun w hw'=>t3 w (by rw [<- hw];exact hw')⟩
  have hc:Uo (Yy p c).cls y.id 0=Uo p.cls y.id 0++[c].filter (cntB y.id 0):=by simp only [Uo,Yy,List.filter_append]
  rw [hc]
  cases hb:cntB y.id 0 c with
  | false=>simpa [hb,Yy] using t2
  | true =>
   simp only [List.filter_cons,hb,if_true,List.filter_nil]
   unfold grX at t2 |-
   rw [List.reverse_append,List.reverse_singleton,List.singleton_append,List.find?_cons]
   have e:(Yy p c).ep+Xz (Yy p c).nu (Yy p c).de x=p.ep+Xz p.nu p.de x:=rfl
   rw [e]
   cases hcv:covB (p.ep+Xz p.nu p.de x) c with
   | true=>simp [h]
   | false=>exact t2
theorem More.with (p:Pl) (c:Cl) (h:c.ki=1):More (Yy p c) p:=⟨rfl,rfl,rfl,runsS_with p c h,rivL_with p c h,perm_with p c h⟩
open Go Go.Abs
def g0 (ok:List Int->Bool) (rd:Int->Nat):List Int->List Int->List Bool
 | [],_=>[]
 | id::r,acc=>if rd id=0 then ok (acc++[id])::g0 ok rd r (if ok (acc++[id])=true then acc++[id] else acc) else false::g0 ok rd r acc
theorem g0_len (ok:List Int->Bool) (rd:Int->Nat):∀ (l acc:List Int),(g0 ok rd l acc).length=l.length
 | [],_=>rfl
 | id::r,acc=>by rw [g0];split<;>simp [g0_len ok rd r]
theorem selB_app (w:Bool):∀ (a:List Int) (K:List Bool) (b:List Int) (L:List Bool),a.length=K.length->Xa w (a++b) (K++L)=Xa w a K++Xa w b L
 | [],[],_,_,_=>rfl
 | [],_::_,_,_,h=>by simp at h
 | _::_,[],_,_,h=>by simp at h
 | x::a,k::K,b,L,h=>by
  simp only [List.cons_append,Xa]
  rw [selB_app w a K b L (by simpa using h)]
  split<;>simp
theorem round_g0 (ok:List Int->Bool) (rd:Int->Nat):∀ (b a:List Int) (K:List Bool),a.length=K.length->((List.range' a.length b.length).foldl (Ux ok rd (a++b) 0) (K++List.replicate b.length false))=K++g0 ok rd b (Xa true a K)
 | [],a,K,h=>by simp [g0]
 | id::b,a,K,h=>by
  rw [List.length_cons,List.range'_succ,List.foldl_cons]
  have hid:(a++id::b)[a.length]? = some id:=by simp
  have hK:a.length < (K++List.replicate (b.length+1) false).length:=by simp;omega
  have hset:∀ x,(K++List.replicate (b.length+1) false).set a.length x=(K++[x])++List.replicate b.length false:=fun x=>by
   rw [List.set_append_right _ _ (by omega),h,Nat.sub_self,List.replicate_succ];simp
  have hab:a++id::b=(a++[id])++b:=by simp
  have hsel:Xa true (a++id::b) ((K++[true])++List.replicate b.length false)=Xa true a K++[id]:=by
   rw [hab,selB_app true (a++[id]) (K++[true]) b _ (by simp [h]),selB_app true a K [id] [true] h,selB_false]
   simp [Xa]
  have hlen:∀ x:Bool,(a++[id]).length=(K++[x]).length:=fun x=>by simp [h]
  have hl1:a.length+1=(a++[id]).length:=by simp
  unfold Ux
  rw [hid]
  simp only
  by_cases hr:rd id=0
  ·rw [if_pos hr,hset true,hsel,hset,g0,if_pos hr]
   have ih:=round_g0 ok rd b (a++[id]) (K++[ok (Xa true a K++[id])]) (hlen _)
   rw [<- hab,<- hl1] at ih
   rw [show (List.foldl (fun K i=>Ux ok rd (a++id::b) 0 K i))=List.foldl (Ux ok rd (a++id::b) 0) from rfl] at *
   refine ih.trans ?_
   rw [selB_app true a K [id] _ h]
   cases hb:ok (Xa true a K++[id])<;>simp [Xa]
  ·rw [if_neg hr,g0,if_neg hr]
   have ih:=round_g0 ok rd b (a++[id]) (K++[false]) (hlen _)
   rw [<- hab,<- hl1] at ih
   have e:K++List.replicate (b.length+1) false=(K++[false])++List.replicate b.length false:=by rw [List.replicate_succ];simp
   rw [e]
   refine ih.trans ?_
   rw [selB_app true a K [id] _ h]
   simp [Xa]
theorem round0_g0 (ok:List Int->Bool) (rd:Int->Nat) (ids:List Int):Yw ok rd ids 0 (List.replicate ids.length false)=g0 ok rd ids []:=by
 have:=round_g0 ok rd ids [] [] rfl
 simp only [List.length_nil,List.nil_append,Xa] at this
 rw [Yw,List.range_eq_range']
 exact this
theorem g0_filter (ok:List Int->Bool) (rd:Int->Nat):∀ (ids acc:List Int),(Xa false ids (g0 ok rd ids acc)).filter (fun id=>decide (rd id=0))=Xa false (ids.filter fun id=>decide (rd id=0)) (g0 ok rd (ids.filter fun id=>decide (rd id=0)) acc)
 | [],acc=>rfl
 | id::r,acc=>by
  by_cases h:rd id=0
  ·rw [List.filter_cons_of_pos (by simp [h]),g0,g0,if_pos h,if_pos h]
   cases hb:ok (acc++[id]) with
   | true=>simpa [Xa] using g0_filter ok rd r (acc++[id])
   | false =>
    simp only [Xa,Bool.false_eq_true,if_false,beq_self_eq_true,if_true]
    rw [List.filter_cons_of_pos (by simp [h]),g0_filter ok rd r acc]
  ·rw [List.filter_cons_of_neg (by simp [h]),g0,if_neg h]
   simp only [Xa,beq_self_eq_true,if_true]
   rw [List.filter_cons_of_neg (by simp [h]),g0_filter ok rd r acc]
def Same0 (rd:Int->Nat) (ids:List Int) (K K':List Bool):Prop:=∀ (j:Nat) (id:Int),ids[j]? = some id->rd id=0->K.getD j false=K'.getD j false
theorem same0_sel (rd:Int->Nat):∀ (ids:List Int) (K K':List Bool),K.length=ids.length->K'.length=ids.length->Same0 rd ids K K'->(Xa false ids K).filter (fun id=>decide (rd id=0))=(Xa false ids K').filter (fun id=>decide (rd id=0))
 | [],K,K',_,_,_=>by simp [Xa]
 | id::r,[],_,h,_,_=>by simp at h
 | id::r,_::_,[],_,h,_=>by simp at h
 | id::r,k::K,k'::K',h1,h2,h=>by
  have ih:=same0_sel rd r K K' (by simpa using h1) (by simpa using h2) fun j x hj hx=>by simpa using h (j+1) x (by simpa using hj) hx
  by_cases hr:rd id=0
  ·have h0:=h 0 id rfl hr
   simp at h0
   subst h0
   simp only [Xa]
   split
   ·rw [List.filter_cons_of_pos (by simp [hr]),List.filter_cons_of_pos (by simp [hr]),ih]
   ·exact ih
  ·simp only [Xa]
   have e:∀ (b:Bool) (l:List Int),(if (b==false)=true then id::l else l).filter (fun id=>decide (rd id=0))=l.filter fun id=>decide (rd id=0):=fun b l=>by
    split
    ·rw [List.filter_cons_of_neg (by simp [hr])]
    ·rfl
   rw [e,e,ih]
theorem round_same0 (ok:List Int->Bool) (rd:Int->Nat) (ids:List Int) (r:Nat) (hr:r≠0) (K:List Bool):Same0 rd ids (Yw ok rd ids r K) K/\(Yw ok rd ids r K).length=K.length:=by
 have key:∀ (L:List Nat) (K:List Bool),Same0 rd ids (L.foldl (Ux ok rd ids r) K) K/\(L.foldl (Ux ok rd ids r) K).length=K.length:=by
  intro L
  induction L with
  | nil=>intro K;exact ⟨fun _ _ _ _=>rfl,rfl⟩
  | cons i L ih =>
   intro K
   obtain ⟨h1,h2⟩:=ih (Ux ok rd ids r K i)
   refine ⟨fun j id hj hid=>?_,by rw [List.foldl_cons,h2,stepK_len]⟩
   rw [List.foldl_cons,h1 j id hj hid]
   unfold Ux
   cases hi:ids[i]? with
   | none=>rfl
   | some x =>
    simp only
    split
    ·rename_i hx
     rw [getD_set,if_neg (by rintro ⟨e,_⟩;subst e;rw [hi] at hj;cases hj;omega)]
    ·rfl
 exact key _ K
theorem booked (ok:List Int->Bool) (rd:Int->Nat) (ids:List Int):(Xa false ids (Uq ok rd ids)).filter (fun id=>decide (rd id=0))=Xa false (ids.filter fun id=>decide (rd id=0)) (Uq ok rd (ids.filter fun id=>decide (rd id=0))):=by
 obtain ⟨S,hS⟩:∃ S,(ids.filter fun id=>decide (rd id=0))=S:=⟨_,rfl⟩
 have hall:∀ (L:List Int),Uq ok rd L=Yw ok rd L 2 (Yw ok rd L 1 (g0 ok rd L [])):=fun L=>by rw [Uq,round0_g0]
 have two:∀ (L:List Int),(Xa false L (Uq ok rd L)).filter (fun id=>decide (rd id=0))=(Xa false L (g0 ok rd L [])).filter (fun id=>decide (rd id=0)):=fun L=>by
  rw [hall]
  obtain ⟨a1,a2⟩:=round_same0 ok rd L 1 (by omega) (g0 ok rd L [])
  obtain ⟨b1,b2⟩:=round_same0 ok rd L 2 (by omega) (Yw ok rd L 1 (g0 ok rd L []))
  have hg:=g0_len ok rd L []
  refine same0_sel rd L _ _ (by omega) hg fun j id hj hid=>?_
  rw [b1 j id hj hid,a1 j id hj hid]
 rw [two ids,g0_filter,hS]
 have hSf:∀ id∈S,rd id=0:=fun id h=>by
  rw [<- hS] at h
  simpa using (List.mem_filter.1 h).2
 have hin:∀ (L:List Int) (K:List Bool),∀ x∈Xa false L K,x∈L:=by
  intro L
  induction L with
  | nil=>intro K x hx;simp [Xa] at hx
  | cons y L ih =>
   intro K x hx
   cases K with
   | nil=>simp [Xa] at hx
   | cons k K =>
    simp only [Xa] at hx
    split at hx
    ·rcases List.mem_cons.1 hx with rfl | hx
     ·simp
     ·exact List.mem_cons_of_mem _ (ih K x hx)
    ·exact List.mem_cons_of_mem _ (ih K x hx)
 have hid:∀ K:List Bool,(Xa false S K).filter (fun id=>decide (rd id=0))=Xa false S K:=fun K=>List.filter_eq_self.2 fun x hx=>by simp [hSf x (hin S K x hx)]
 have:=two S
 rw [hid,hid] at this
 exact this.symm
open Go Go.Abs
def Qbq (it:Int) (bf:List Ad):Int:=((bf.filter fun a=>decide (a.it=it)).length:Nat)
def gapH (p:Pl) (it s:Int) (a:Ad):Bool:=!(decide (0 < Ze p a.it it)&&decide (s < a.fr+a.fs+Ze p a.it it))
def condH (p:Pl) (at_ id:Int) (s:Sp) (bf:List Ad) (free last:Int) (k:Nat) (e:En):Bool :=
 decide (s.1=id/\last < (k:Int)/\e.ea<=s.2/\s.2<=e.la/\at_<=s.2/\free<=s.2/\1<=e.fr/\0<=s.2/\s.2<=100000000/\s.2+e.fr<=p.ln/\Uu p e.it 0 s.2 e.fr=true/\bf.all (gapH p e.it s.2)=true/\(Zo p e.it = -1\/Qbq e.it bf < Zo p e.it))
def hldB (p:Pl) (at_:Int):List Int->List Sp->List Ad->Int->Int->Bool
 | [],[],_,_,_=>true
 | id::r,s::l,bf,free,last=>match Vy id p.ens 0 with
  | none=>false
  | some k=>match p.ens[k]? with
   | none=>false
   | some e=>condH p at_ id s bf free last k e&&hldB p at_ r l (bf++[⟨e.it,0,s.2,e.fr⟩]) (s.2+e.fr) k
 | _,_,_,_,_=>false
def Qas (bf:List Ad):List (Int×Int):=(bf.map fun a=>(a.it,a.fr+a.fs)).reverse
theorem cnt_end (it:Int) (bf:List Ad):cntI it (Qas bf)=Qbq it bf:=by
 unfold cntI Qbq Qas
 rw [List.filter_reverse,List.length_reverse,List.filter_map,List.length_map]
 rfl
theorem gap_end (p:Pl) (it s:Int) (bf:List Ad):bf.all (gapH p it s)=true<->∀ a∈Qas bf,0 < Ze p a.1 it->a.2+Ze p a.1 it<=s:=by
 rw [List.all_eq_true]
 constructor
 ·intro h a ha hg
  simp only [Qas,List.mem_reverse,List.mem_map] at ha
  obtain ⟨b,hb,rfl⟩:=ha
  have:=h b hb
  simp only [gapH,Bool.not_eq_true',Bool.and_eq_false_iff,decide_eq_false_iff_not] at this
  simp only at hg |-
  omega
 ·intro h b hb
  have:=h (b.it,b.fr+b.fs) (by simp only [Qas,List.mem_reverse,List.mem_map];exact ⟨b,hb,rfl⟩)
  simp only at this
  simp only [gapH,Bool.not_eq_true',Bool.and_eq_false_iff,decide_eq_false_iff_not]
  by_cases hg:0 < Ze p b.it it
  ·exact .inr (by have:=this hg;omega)
  ·exact .inl hg
theorem end_app (bf:List Ad) (a:Ad):Qas (bf++[a])=(a.it,a.fr+a.fs)::Qas bf:=by simp [Qas]
theorem hldB_iff {p:Pl} {at_:Int}:∀ {ids:List Int} {l:List Sp} {bf:List Ad} {free last:Int},at_<=free->(hldB p at_ ids l bf free last=true<->holdG p ids l (Qas bf) free last)
 | [],[],_,_,_,_=>by simp [hldB,holdG]
 | [],_::_,_,_,_,_=>by simp [hldB,holdG]
 | _::_,[],_,_,_,_=>by simp [hldB,holdG]
 | id::r,s::l,bf,free,last,hat=>by
  rw [hldB,holdG]
  cases hf:Vy id p.ens 0 with
  | none=>simp
  | some k =>
   cases hx:p.ens[k]? with
   | none=>simp [hx]
   | some e =>
    simp only [hx,Bool.and_eq_true,condH,decide_eq_true_eq]
    have hal:Uu p e.it 0 s.2 e.fr=true->1<=e.fr/\e.fr<=1000000:=fun h=>by
     have:=((allowB_iff _ _ _ _ _).1 h).1
     omega
    have hlow:0<=s.2->1<=e.fr->free<=s.2->at_<=s.2+e.fr:=by omega
    have he:Qas (bf++[⟨e.it,0,s.2,e.fr⟩])=(e.it,s.2+e.fr)::Qas bf:=end_app _ _
    constructor
    ·rintro ⟨⟨c1,c2,c3,c4,c5,c6,c7,c8,c9,c10,c11,c12,c13⟩,h⟩
     rw [hldB_iff (by omega),he] at h
     exact ⟨k,e,rfl,hx,c1,c2,hal c11,c6,c3,c4,c8,c9,c10,c11,by rw [cnt_end];exact c13,(gap_end p e.it s.2 bf).1 c12,h⟩
    ·rintro ⟨k',e',h1,h2,c1,c2,c7,c6,c3,c4,c8,c9,c10,c11,c13,c12,h⟩
     obtain rfl:k=k':=Option.some.inj h1
     rw [hx] at h2
     obtain rfl:e=e':=Option.some.inj h2
     refine ⟨⟨c1,c2,c3,c4,by omega,c6,c7.1,c8,c9,c10,c11,(gap_end p e.it s.2 bf).2 c12,by rw [<- cnt_end];exact c13⟩,?_⟩
     rw [hldB_iff (by omega),he]
     exact h
theorem endH_past (past:List Ad):Qas (past.filter Zn)=(pastB past).reverse:=rfl
end Go.Proofs.YtkcnjajklnoahaaGreatDoor
