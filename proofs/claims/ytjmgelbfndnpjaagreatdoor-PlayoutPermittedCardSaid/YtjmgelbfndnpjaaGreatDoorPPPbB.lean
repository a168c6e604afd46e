import Derived.Test.YtjmgelbfndnpjaaGreatDoorPPPbF
set_option linter.unusedVariables false
set_option linter.unusedSimpArgs false
set_option maxRecDepth 100000
set_option maxHeartbeats 64000000
namespace Go.Proofs.YtjmgelbfndnpjaaGreatDoor.Lw
open Go Go.Abs
theorem vc_loopM {P:Program} {gl:Nat->AV} {orc:Nat->FuncId->List AV->AV} {Y:YT} {n:Nat} {E:List (Nat×AV)} {m0:AM} {Q:Exit->AS->Prop} {c:SC} (W:List Nat) (R:AM->(Nat->AV)->AM->Prop) (μ:(Nat->AV)->AM->Nat)
  (h0:R m0 (nth (Vd n E)) m0) (hr:∀ f m,R m0 f m->vc P gl orc Y c ⟨Vd n (Ki f W E),m⟩ (Qbe n E W (R m0) μ f m Q)):vc P gl orc Y (.loop c) ⟨Vd n E,m0⟩ Q:=Ql W (R m0) μ h0 hr
theorem law3 (p:Pl) (fr:Int) (hp:OKP p) (hsh:p.sh.length<=8796093022208) (hbk:p.bks.length<=8796093022208) (hea:∀ e∈p.ens,e.ea<=9223372036854775807) (ha:Vg fr):Pure Tryz.prog gl0 3 [.agg (Qc p),I fr] (.bool true):=by
 have k4:=sane_pure
 obtain ⟨P,hP⟩:∃ P,cutP p=P:=⟨_,rfl⟩
 have hPk:OKP P:=by rw [<- hP];exact fun e he=>hp e (List.mem_of_mem_take he)
 have hPe:P.ens.length<=16:=by rw [<- hP];simp only [cutP,List.length_take];omega
 have hPc:P.cls.length<=20:=by rw [<- hP];simp only [cutP,List.length_take];omega
 have hPi:P.its.length<=20:=by rw [<- hP];simp only [cutP,List.length_take];omega
 have hPs:P.sh.length<=8796093022208:=by rw [<- hP];exact hsh
 have hPb:P.bks.length<=8796093022208:=by rw [<- hP];exact hbk
 have hPea:∀ e∈P.ens,e.ea<=9223372036854775807:=by rw [<- hP];exact fun e he=>hea e (List.mem_of_mem_take he)
 have k5:=pvalid_pure P ⟨hPs,by omega,by omega,hPb,by omega,hPk⟩
 have z1:p.ch=P.ch/\p.nu=P.nu/\p.de=P.de/\p.of=P.of/\p.sh=P.sh/\p.ep=P.ep/\p.rg=P.rg/\p.ln=P.ln/\p.fi=P.fi/\p.bks=P.bks:=by rw [<- hP];exact ⟨rfl,rfl,rfl,rfl,rfl,rfl,rfl,rfl,rfl,rfl⟩
 obtain ⟨z1,z2,z3,z4,z5,z6,z7,z8,z9,z10⟩:=z1
 have t1:List.take (if (20:Int) < (p.its.length:Int) then (20:Int) else (p.its.length:Int)).toNat (p.its.map Qg)=P.its.map Qg:=by
  rw [<- hP,<- List.map_take]
  congr 1
  split
  ·rfl
  ·simp only [cutP,Int.toNat_natCast,List.take_length];rw [List.take_of_length_le (by omega)]
 have t2:List.take (if (16:Int) < (p.ens.length:Int) then (16:Int) else (p.ens.length:Int)).toNat (p.ens.map Qi)=P.ens.map Qi:=by
  rw [<- hP,<- List.map_take]
  congr 1
  split
  ·rfl
  ·simp only [cutP,Int.toNat_natCast,List.take_length];rw [List.take_of_length_le (by omega)]
 have t3:List.take (if (20:Int) < (p.cls.length:Int) then (20:Int) else (p.cls.length:Int)).toNat (p.cls.map Qq)=P.cls.map Qq:=by
  rw [<- hP,<- List.map_take]
  congr 1
  split
  ·rfl
  ·simp only [cutP,Int.toNat_natCast,List.take_length];rw [List.take_of_length_le (by omega)]
 have g1:(0:Int)<=(if (20:Int) < (p.its.length:Int) then (20:Int) else (p.its.length:Int))/\(if (20:Int) < (p.its.length:Int) then (20:Int) else (p.its.length:Int))<=p.its.length:=by split<;>omega
 have g2:(0:Int)<=(if (16:Int) < (p.ens.length:Int) then (16:Int) else (p.ens.length:Int))/\(if (16:Int) < (p.ens.length:Int) then (16:Int) else (p.ens.length:Int))<=p.ens.length:=by split<;>omega
 have g3:(0:Int)<=(if (20:Int) < (p.cls.length:Int) then (20:Int) else (p.cls.length:Int))/\(if (20:Int) < (p.cls.length:Int) then (20:Int) else (p.cls.length:Int))<=p.cls.length:=by split<;>omega
 have r1:∀ x:It,(Qg x).length=5:=fun _=>rfl
 have r2:∀ x:En,(Qi x).length=7:=fun _=>rfl
 have r3:∀ x:Cl,(Qq x).length=8:=fun _=>rfl
 cases hv:pvB P with
 | false =>
  rw [hv] at k5
  refine Qn code3 (Wn P [] 0 []) (by simp) ?_
  simp only [Qc] at k5
  simp [sc3,rs3,Qc,Wn,hv,t1,t2,t3,g1,g2,g3,r1,r2,r3,z1,z2,z3,z4,z5,z6,z7,z8,z9,z10]
  exact ⟨k4,k5⟩
 | true =>
  rw [hv] at k5
  by_cases hl:1200 < P.ln
  ·refine Qn code3 (Wn P [] 0 []) (by simp) ?_
   simp only [Qc] at k5
   simp [sc3,rs3,Qc,Wn,hv,t1,t2,t3,g1,g2,g3,r1,r2,r3,z1,z2,z3,z4,z5,z6,z7,z8,z9,z10,hl]
   exact ⟨k4,k5⟩
  ·have VPP:=pvB_VP hv
   have hs40:=sh_le hv
   have hPS:PlS P:=⟨by omega,by omega,by omega,hPb,by omega,hPk⟩
   have k6:=compile21 P hPS (by omega) (by omega) (by omega) hPea
   cases hg:Qaj P (Yp P) [] [] 0 (-1) with
   | none =>
    have hr:compR P=.tup [.sl .nil [],.sl .ro ((conS (bd0 P) (Yp P)).map Yg),I 90]:=by rw [compR,if_neg (by simp [hv]),hg]
    rw [hr] at k6
    refine Qn code3 (Wn P [] 0 []) (by simp) ?_
    simp only [Qc] at k5 k6
    simp [sc3,rs3,Qc,Wn,hv,t1,t2,t3,g1,g2,g3,r1,r2,r3,z1,z2,z3,z4,z5,z6,z7,z8,z9,z10,hl,hr]
    exact ⟨k4,k5,k6⟩
   | some l =>
    have hr:compR P=.tup [slAV8 l,.sl .nil [],I 0]:=by rw [compR,if_neg (by simp [hv]),hg]
    rw [hr] at k6
    obtain ⟨hids,hsch⟩:=earG_ok hg
    have hll:l.length=P.ens.length:=by
     have:=congrArg List.length hids
     simpa [Yp] using this
    have hln:=VPP.ln
    have hrg:=VPP.rg
    have hbd:bldS P l 0=Uw P l 0:=by rw [bldS,if_neg (by omega)]
    obtain ⟨hch,hmem⟩:=bld_chain VPP (by omega) l 0 (by omega) (by omega) hsch
    have hgap:=(bldL_gap P l l 0 (fun _ h=>h) (by omega)).1
    have hev:∀ e∈Uw P l 0,EvOK e:=bldL_ok P hPk l 0
    have hval:=vch_valid hch hln.1
    have hlb:∀ s∈l,0<=s.2/\s.2<=1200:=fun s hs=>by
     obtain ⟨e,_,h1,_,h2,h3⟩:=hmem s hs
     omega
    have k7:=buildR_pure P l 0 (by omega) (by omega) (by omega) (by omega) hPk (by omega) (by omega) (fun s hs=>by have:=hlb s hs;omega)
    rw [hbd] at k7
    obtain ⟨b,hB⟩:∃ b,Uw P l 0=b:=⟨_,rfl⟩
    rw [hB] at k7 hch hmem hgap hev hval
    have hbl:b.length<=1200:=by
     have:=gapOK_le hgap
     omega
    have hall:=gapOK_all hgap
    have hsnd:=(validB_all hval).2
    have hsl:slAV8 l=.sl (if l=[] then .nil else .ro) (l.map Qd):=by
     unfold slAV8
     by_cases h:l=[]
     ·rw [if_pos h,if_pos h,h];rfl
     ·rw [if_neg h,if_neg h]
    obtain ⟨rt,hrt⟩:∃ rt:Rt,(if l=[] then Rt.nil else Rt.ro)=rt:=⟨_,rfl⟩
    rw [hrt] at hsl
    have hcv:∀ m,cvn m 6 (.sl rt (l.map Qd))=.sl rt (l.map Qd):=fun m=>by
     rw [<- hrt]
     split<;>rfl
    have k7':Abs.Pure Tryz.prog gl0 7 [.agg (Qc P),.sl rt (l.map Qd),I 0] (.sl .ro (b.map Qj)):=Yh k7 ⟨Wk.refl _,Wk.sl _ _,Wk.refl _,trivial⟩
    rw [hsl] at k6 hr
    have k8:=pick_pure fr P.ln ha.1 ha.2 (by omega)
    have hab:=pickI_bd' fr P.ln (by omega)
    obtain ⟨g,hG⟩:∃ g,pickI fr P.ln=g:=⟨_,rfl⟩
    rw [hG] at k8 hab
    have hsm:∀ e∈b,Zw e:=fun e he=>by
     have h1:=hall e he
     obtain ⟨h2,h3,h4⟩:=hev e he
     exact ⟨by omega,by omega,by omega,h4⟩
    have k9:=unit_pure P b (by omega) hsm (P.its.map itA) (libOK_of _ hPi) g ⟨by omega,by omega⟩
    obtain ⟨it,ix,key,data,re,ga,cap,os,of_,rtU,rows,hU,hsh⟩:=unit_shows P b (P.its.map itA) g
    rw [hU] at k9
    obtain ⟨e0,he0,hst0,hfr0⟩:∃ e0,b[0]? = some e0/\e0.st=0/\1<=e0.fr/\e0.fr<=1000000:=by
     cases b with
     | nil=>simp only [gapOK] at hgap;omega
     | cons x r=>obtain ⟨h1,h2,_⟩:=hgap;have:=hall x (by simp);exact ⟨x,rfl,by omega,by omega,by omega⟩
    have hb0:0 < b.length:=(List.getElem?_eq_some_iff.1 he0).1
    have hrow0:Qf (b.map Qj) 0=Qj e0:=Qv (by simp [he0])
    have k11:=contains_pure e0 hst0 hfr0
    have hitp:∀ x∈P.its,1<=x.fr:=fun x hx=>by
     have:=VPP.its x hx
     simp only [itB,wi,Bool.and_eq_true,decide_eq_true_eq] at this
     exact this.2.1.1
    have hine:0 < P.its.length:=by
     obtain ⟨y,hy,_⟩:=VPP.fill
     exact List.length_pos_of_mem (fndI_mem hy).1
    refine Qn code3 (Wn P b g [I P.ch,I g,I 0,I it,I ix,.bool key,.str data,I re,I ga,.str cap,I os,I of_,.sl rtU rows]) (by simp) ?_
    simp only [Qc] at k5 k6 k7'
    simp [sc3,Qc,Wn,hv,t1,t2,t3,g1,g2,g3,r1,r2,r3,z1,z2,z3,z4,z5,z6,z7,z8,z9,z10,hl,hr,hcv]
    refine ⟨k4,k5,k6,k7',?_⟩
    clear k4 k5 k6 k7 k7' t1 t2 t3 g1 g2 g3
    refine Ql w3_0 (InvL P (Yn P b)) (fun f _=>P.its.length - (numOf (f 11)).toNat) ?_ ?_
    ·exact ⟨0,[],[],by simp,by omega,rfl,rfl,by simp,.inl ⟨rfl,by simp⟩,by simp [Yn,Qc]⟩
    ·rintro f m ⟨i,q,rest,f11,hi,hq,hql,hqr,hf10,rfl⟩
     rcases Nat.lt_or_ge i P.its.length with hlt | hge
     ·obtain ⟨x,hx⟩:=getS hlt
      have hrow:Qf (P.its.map Qg) i=Qg x:=Qv (by simp [hx])
      have hilt:(i:Int) < (P.its.length:Int):=by omega
      have hw:=wrS i (by omega)
      have hxp:=hitp x (List.mem_of_getElem? hx)
      have hN:(if 200 < x.fr then 200 else x.fr)=((itN x:Nat):Int):=by unfold itN;split<;>omega
      have hN1:1<=itN x/\itN x<=200:=by unfold itN;split<;>omega
      have hps:=pics_set (itN x) hN1.1
      have hfl:(fills (itN x) [.bool false,.str ⟨#[]⟩,I 0]).length=itN x*3:=Yj _ _
      have hq1:(q++[(x,rest.length)]).map (·.1)=P.its.take (i+1):=by
       rw [List.map_append,hq,List.take_add_one,hx];rfl
      rcases hf10 with ⟨hi0,h10⟩ | ⟨hi0,k,h10,hk1,hk2,hk3⟩
      ·have hq0:q=[]:=List.length_eq_zero_iff.1 (by omega)
       simp [f11,w3_0,hlt,hilt,hrow,Qc,Qg,hw,h10,Wn,hN,hps,hfl]
       refine ⟨⟨by omega,by omega⟩,by omega,by omega,ag ?_,⟨i+1,q++[(x,rest.length)],rest++[pcs (Yx (itN x)),[I x.id,.bs (rest.length+2) 0 (itN x) 3],[I x.id,.bs (rest.length+2) 0 (itN x) 3],[I x.id,.bs (rest.length+2) 0 (itN x) 3]],by simp,by omega,hq1,by simp [hql],?_,.inr ⟨by omega,rest.length+3,by simp [hi0],by simp,by simp [hq0,Kb],?_⟩,rfl⟩,by omega⟩
       ·repeat (first | exact Qa _ _ | refine Qb _ rfl ?_)
       ·intro y hy
        rw [hq0] at hy
        simp only [List.nil_append,List.mem_singleton] at hy
        subst hy
        exact ⟨by simp,by simp⟩
       ·intro y hy
        rw [hq0] at hy
        simp only [List.nil_append,List.mem_singleton] at hy
        subst hy
        simp
      ·have hra:∀ X,Qf (rest++X) k=Kb q:=fun X=>by rw [Qh hk1,hk2]
       have hset:∀ X,(rest++X).set k []=rest.set k []++X:=fun X=>by rw [List.set_append_left _ _ hk1]
       have hlq:(Kb q).length=i*2:=by rw [libC_len,hql]
       have hne:¬ Kb q=[]:=fun h=>by rw [h] at hlq;simp at hlq;omega
       have htk:(Kb q).take (i*2)=Kb q:=List.take_of_length_le (by omega)
       obtain ⟨R,hR⟩:∃ R,rest.set k []=R:=⟨_,rfl⟩
       have hRl:rest.length=R.length:=by rw [<- hR];simp
       have hRn:∀ j,j≠k->Qf R j=Qf rest j:=fun j hj=>by
        rw [<- hR]
        simp [Qf,List.getD_eq_getElem?_getD,-Zq,List.getElem?_set_ne (Ne.symm hj)]
       simp [f11,w3_0,hlt,hilt,hrow,Qc,Qg,hw,h10,Wn,hN,hps,hfl,hra,hset,hne,htk,hlq,hR]
       refine ⟨⟨by omega,by omega⟩,by omega,by omega,⟨by omega,by omega⟩,ag ?_,⟨i+1,q++[(x,rest.length)],R++[pcs (Yx (itN x)),[I x.id,.bs (rest.length+2) 0 (itN x) 3],[I x.id,.bs (rest.length+2) 0 (itN x) 3],Kb q++[I x.id,.bs (rest.length+2) 0 (itN x) 3]],by simp,by omega,hq1,by simp [hql],?_,.inr ⟨by omega,rest.length+3,by simp,by simp [hRl],?_,?_⟩,rfl⟩,by omega⟩
       ·repeat (first | exact Qa _ _ | refine Qb _ rfl ?_)
       ·intro y hy
        rcases List.mem_append.1 hy with h | h
        ·obtain ⟨y1,y2⟩:=hqr y h
         exact ⟨by simp;omega,by rw [Qh (by omega),hRn _ (hk3 y h)];exact y2⟩
        ·simp only [List.mem_singleton] at h
         subst h
         exact ⟨by simp [hRl],by simp only;rw [hRl];simp⟩
       ·rw [hRl];simp [libC_app,Kb]
       ·intro y hy
        rcases List.mem_append.1 hy with h | h
        ·have:=(hqr y h).1;omega
        ·simp only [List.mem_singleton] at h
         subst h
         simp
     ·obtain rfl:i=P.its.length:=by omega
      rcases hf10 with ⟨hi0,h10⟩ | ⟨hi0,k,h10,hk1,hk2,hk3⟩
      ·omega
      ·have hin:¬ (P.its.length:Int) < (P.its.length:Int):=by omega
       rw [List.take_length] at hq
       have hqL:qL q=P.its.map itA:=by
        rw [<- hq,List.map_map];rfl
       have hLM:∀ bx0 bx1:List AV,LM (bx0::bx1::rest) (k+2) q:=fun bx0 bx1=>⟨by simp;omega,by simpa using hk2,fun y hy=>⟨⟨by have:=(hqr y hy).1;simp;omega,by simpa using (hqr y hy).2⟩,by
        have hm:y.1∈P.its:=by rw [<- hq];exact List.mem_map_of_mem hy
        have:=hitp _ hm
        unfold itN;split<;>omega⟩⟩
       have hue:=fun (m:AM) (h:LM m.boxes (k+2) q) (K:AV->AM->Prop)=>unit_eff Y0 P b (by omega) hsm m (k+2) q (by omega) (by rw [hqL];exact libOK_of _ hPi) h g ⟨by omega,by omega⟩ K
       rw [hqL,hU,hql] at hue
       simp only [Yn,Qc,List.cons_append,List.nil_append] at hue
       simp [-cvn_bs,f11,h10,hin,w3_0,Qc,Yn,Wn]
       refine ⟨k8,hue _ (hLM _ _) _ fun ex lx=>?_⟩
       simp
       have hrl:∀ X:List AV,Qf (rest++(ex++[X])) (rest.length+ex.length)=X:=fun X=>by
        rw [<- List.append_assoc,<- List.length_append];simp
       rcases Classical.em (it=0) with h0 | h0
       ·simp [rs3,h0,hrl]
       ·obtain ⟨e,he,he1,he2,he3⟩:=hsh.resolve_left h0
        obtain ⟨s1,s2,s3⟩:=sound_all (hsnd e he) (hev e he)
        have d2:=(hev e he).2.1
        have heo:e.st<=g/\g < e.st+e.fr:=by simpa [Uf] using he3
        rw [he2] at s1 s2 d2
        rw [he1] at s2
        simp [h0,hrl]
        refine vc_loopM w3_1 (fun m0=>InvR m0 P.rg) (fun f _=>P.rg.toNat - (numOf (f 15)).toNat) ?_ ?_
        ·exact ⟨0,by simp,by omega,rfl⟩
        ·rintro f2 m2 ⟨r,f15,hr,rfl⟩
         by_cases hrl2:(r:Int) < P.rg
         ·have hr8:r < 8:=by omega
          have hw:=wrS r (by omega)
          have k10:=allowed_pure P it r g 1 (by omega) (by omega) (by omega)
          have hbf:=bit_form d2 hr8
          cases hb:bitI re r with
          | false =>
           rw [hb] at hbf
           simp only [Bool.false_eq_true,if_false] at hbf
           simp [f15,w3_1,hrl,hrl2,hw,hbf,Wn]
           refine ⟨ag ?_,⟨r+1,by simp,by omega,rfl⟩,by omega⟩
           repeat (first | exact Qa _ _ | refine Qb _ rfl ?_)
          | true =>
           have hal:=s2 r hr8 hb
           have hal1:Xo P it r g 1=true:=allowB_sub hal (by omega) (by omega) (by omega)
           rw [hal1] at k10
           rw [hb] at hbf
           simp only [if_true] at hbf
           simp only [Qc] at k10
           simp [f15,w3_1,hrl,hrl2,hw,hbf,Wn,hal1]
           refine ⟨k10,ag ?_,⟨r+1,by simp,by omega,rfl⟩,by omega⟩
           repeat (first | exact Qa _ _ | refine Qb _ rfl ?_)
         ·have h1x:and1X re=1:=by rw [and1X_eq _ d2];exact s1
          have h1x':IntKind.i64.wrap (((re % 2 ^ IntKind.i64.bits).toNat &&& ((1:Int) % 2 ^ IntKind.i64.bits).toNat:Nat):Int)=1:=h1x
          simp only [Qj] at hrow0 k11
          simp [f15,w3_1,hrl,hrl2,Wn,rs3,hrow0,hb0,Qj]
          exact ⟨fun _=>k11,h1x'⟩
end Go.Proofs.YtjmgelbfndnpjaaGreatDoor.Lw
