import Derived.Test.YtkcnjajklnoahaaGreatDoorTYSeA
set_option linter.unusedVariables false
set_option linter.unusedSimpArgs false
set_option maxRecDepth 100000
set_option maxHeartbeats 64000000
namespace Go.Proofs.YtkcnjajklnoahaaGreatDoor
open Go Go.Abs
def permI (p:Pl) (it:It) (region x:Int):Prop:=it.ki=5\/(Zl p=true/\grX (Uo p.cls it.id region) (p.ep+Xz p.nu p.de x)=true/\∀ w∈Vo p.cls it.ra,withX p.of p.sh (p.ep+Xz p.nu p.de x) w.1 w.2)
def Ue (p:Pl) (id region x:Int):Prop:=∃ it,Qy id p.its=some it/\(0<=region/\region < 8)/\(0<=x/\x<=100000000)/\permI p it region x
theorem fold_has:∀ (Xs:List (List Sp)) (a:List Sp) (y:Int),Xm (Xs.foldl Qbl a) y<->Xm a y/\∀ l∈Xs,Xm l y
 | [],a,y=>by simp
 | l::Xs,a,y=>by
  rw [List.foldl_cons,fold_has Xs,(Qcq a l).2]
  simp only [List.mem_cons,forall_eq_or_imp,and_assoc]
theorem frm_le {nu de s f:Int} (hv:Xq nu de=true) (hs:0<=s/\s<=10000000000) (hf:0<=f/\f<=100000000):Yu nu de s<=f<->s<=Xz nu de f:=by
 obtain ⟨b1,b2,b3,b4,b5⟩:=Vz hv
 rw [Yu,if_pos ⟨hv,hs.1,hs.2⟩,Xz,if_pos ⟨hv,hf.1,hf.2⟩]
 have q0:0<=s*nu:=Int.mul_nonneg hs.1 (by omega)
 have q1:0<=f*de:=Int.mul_nonneg hf.1 (by omega)
 rw [Int.tdiv_eq_ediv_of_nonneg (by omega),Int.tdiv_eq_ediv_of_nonneg q1]
 have e1:(s*nu+de - 1) / de<=f<->s*nu<=f*de:=by
  rw [<- Int.lt_add_one_iff,Int.ediv_lt_iff_lt_mul (by omega)]
  have:(f+1)*de=f*de+de:=by rw [Int.add_mul];omega
  omega
 rw [e1,Int.le_ediv_iff_mul_le (by omega)]
theorem frames_has {p:Pl} {U:List Sp} (hv:Xq p.nu p.de=true) (hU:∀ w∈U,(0<=w.1 - p.ep/\w.1 - p.ep<=10000000000)/\(0<=w.2 - p.ep/\w.2 - p.ep<=10000000000)) {f:Int} (hf:0<=f/\f<=100000000) :
  Xm (U.map (frS p)) f<->Xm U (p.ep+Xz p.nu p.de f):=by
 unfold Xm
 simp only [List.mem_map]
 constructor
 ·rintro ⟨_,⟨w,hw,rfl⟩,h1,h2⟩
  obtain ⟨u1,u2⟩:=hU w hw
  have a1:=frm_le hv u1 hf
  have a2:=frm_le hv u2 hf
  simp only [frS] at h1 h2
  exact ⟨w,hw,by omega,by omega⟩
 ·rintro ⟨w,hw,h1,h2⟩
  obtain ⟨u1,u2⟩:=hU w hw
  have a1:=frm_le hv u1 hf
  have a2:=frm_le hv u2 hf
  exact ⟨_,⟨w,hw,rfl⟩,by simp only [frS];omega,by simp only [frS];omega⟩
theorem wshS_day {cs:List Cl} {ra:Int}:∀ w∈Vo cs ra,dayB w.1=true/\dayB w.2=true:=by
 intro w hw
 simp only [Vo,List.mem_map,List.mem_filter,Qce,Bool.and_eq_true,decide_eq_true_eq,Xc] at hw
 obtain ⟨c,⟨_,h1,_,_,h2⟩,rfl⟩:=hw
 rw [Yi] at h2
 simp only [h1] at h2
 simp [Vs,wi] at h2
 simp only [dayB,decide_eq_true_eq]
 omega
theorem clip_ok (s:Sp):0<=(Vx s).1/\(Vx s).2<=100000001/\∀ x,((Vx s).1<=x/\x < (Vx s).2)<->(s.1<=x/\x < s.2/\0<=x/\x<=100000000):=by
 simp only [Vx]
 refine ⟨by omega,by omega,fun x=>?_⟩
 omega
theorem Ul (p:Pl) (id region:Int) (s:Sp) (hs:s.2 - s.1<=1000000) (x:Int):Xm (Xn p id region s) x<->s.1<=x/\x < s.2/\Ue p id region x:=by
 obtain ⟨c0,c1,cx⟩:=clip_ok s
 have cl:(Vx s).2 - (Vx s).1<=1000000:=by simp only [Vx];omega
 unfold Xn Ue
 generalize Vx s=c at *
 cases hf:Qy id p.its with
 | none=>simp
 | some it =>
  simp only [Option.some.injEq,exists_eq_left']
  split
  ·rename_i hb
   simp only [Vt,false_iff]
   rintro ⟨h1,h2,h3,h4,_⟩
   have:=(cx x).2 ⟨h1,h2,h4⟩
   omega
  ·rename_i hb
   simp only [not_or] at hb
   split
   ·rename_i hk
    simp only [Xe,Vt,or_false,permI,hk,true_or,and_true]
    rw [cx x]
    constructor
    ·rintro ⟨h1,h2,h3,h4⟩;exact ⟨h1,h2,by omega,h3,h4⟩
    ·rintro ⟨h1,h2,h3,h4⟩;exact ⟨h1,h2,h4⟩
   ·rename_i hk
    split
    ·rename_i ht
     simp [permI,hk,ht]
    ·rename_i ht
     have ht':Zl p=true:=by simpa using ht
     have hte:Xq p.nu p.de=true/\Xl p.of p.sh=true/\0<=p.ep/\p.ep<=9000000000:=by
      simp only [Zl,Bool.and_eq_true,decide_eq_true_eq] at ht'
      exact ⟨ht'.1.1,ht'.1.2,ht'.2⟩
     obtain ⟨hv,hz,he⟩:=hte
     rw [(Qcq _ _).2]
     obtain ⟨u,hu⟩:∃ u,uS p c=u:=⟨_,rfl⟩
     have hu1:u.1=p.ep+Xz p.nu p.de c.1:=by rw [<- hu];rfl
     have hu2:u.2=p.ep+Xz p.nu p.de (c.2 - 1)+1:=by rw [<- hu];rfl
     rw [hu]
     have hd:=Qad (f:=c.1) (g:=c.2 - 1) hv (by omega) (by omega) (by omega)
     have hs1:=Qba p.nu p.de c.1
     have hs2:=Qba p.nu p.de (c.2 - 1)
     have hs0:0<=Xz p.nu p.de c.1:=by
      rw [Xz,if_pos ⟨hv,by omega,by omega⟩]
      exact Int.tdiv_nonneg (Int.mul_nonneg (by omega) (by have:=Vz hv;omega)) (by have:=Vz hv;omega)
     have hcur:curS p it region u (limL p it region u).length=(limL p it region u).foldl Qbl [u]:=by simp [curS]
     have hin:InB u.1 u.2 (curS p it region u (limL p it region u).length):=by
      rw [hcur];exact fold_in _ _ (by intro w hw;simp at hw;subst hw;omega)
     by_cases hx:c.1<=x/\x < c.2
     ·have hx':=(cx x).1 hx
      have m1:=Qad (f:=c.1) (g:=x) hv (by omega) (by omega) (by omega)
      have m2:=Qad (f:=x) (g:=c.2 - 1) hv (by omega) (by omega) (by omega)
      rw [frames_has hv (fun w hw=>by have:=hin w hw;omega) ⟨by omega,by omega⟩,hcur,fold_has]
      simp only [Xe,Vt,or_false,permI,hk,false_or,ht',true_and]
      have hl:(∀ l∈limL p it region u,Xm l (p.ep+Xz p.nu p.de x))<->(grX (Uo p.cls it.id region) (p.ep+Xz p.nu p.de x)=true/\∀ w∈Vo p.cls it.ra,withX p.of p.sh (p.ep+Xz p.nu p.de x) w.1 w.2):=by
       unfold limL
       simp only [List.mem_cons,forall_eq_or_imp,List.mem_map,forall_exists_index,and_imp,forall_apply_eq_imp_iff₂]
       rw [spansR_has]
       refine and_congr Iff.rfl (forall_congr' fun w=>forall_congr' fun hw=>?_)
       obtain ⟨d1,d2⟩:=wshS_day w hw
       rw [calS_has (by simp only [calB,hz,d1,d2,Bool.and_true,Bool.true_and,decide_eq_true_eq];omega)]
       constructor
       ·rintro ⟨_,_,h⟩;exact h
       ·intro h;exact ⟨by omega,by omega,h⟩
      rw [hl]
      constructor
      ·rintro ⟨⟨_,h⟩,_⟩
       exact ⟨hx'.1,hx'.2.1,by omega,hx'.2.2,h⟩
      ·rintro ⟨_,_,_,_,h⟩
       exact ⟨⟨by omega,h⟩,hx⟩
     ·simp only [Xe,Vt,or_false]
      constructor
      ·rintro ⟨_,h⟩;exact absurd h hx
      ·rintro ⟨h1,h2,_,h4,_⟩;exact absurd ((cx x).2 ⟨h1,h2,h4⟩) hx
theorem allowB_iff (p:Pl) (id region f n:Int):Uu p id region f n=true<->(1<=n/\n<=1000000/\0<=f/\f+n - 1<=100000000)/\∀ x,f<=x->x < f+n->Ue p id region x:=by
 unfold Uu
 split
 ·rename_i hb
  simp only [Bool.false_eq_true,false_iff]
  rintro ⟨⟨h1,h2,h3,h4⟩,_⟩
  rcases hb with h | h | h | h
  ·omega
  ·omega
  ·simp [frB] at h;omega
  ·simp [frB] at h;omega
 ·rename_i hb
  simp only [not_or,Bool.not_eq_false,frB,decide_eq_true_eq] at hb
  obtain ⟨b1,b2,b3,b4⟩:=hb
  rw [List.isEmpty_iff,covers_iff (by simp only;omega)]
  constructor
  ·intro h
   refine ⟨by omega,fun x h1 h2=>?_⟩
   exact ((Ul p id region (f,f+n) (by simp only;omega) x).1 (h x h1 h2)).2.2
  ·rintro ⟨_,h⟩ x h1 h2
   exact (Ul p id region (f,f+n) (by simp only;omega) x).2 ⟨h1,h2,h x h1 h2⟩
open Go Go.Abs
def rtRow (x:Int×Int×Int×Int):List AV:=[I x.1,I x.2.1,I x.2.2.1,I x.2.2.2]
theorem rtab_pure:Pure Tryz.prog gl0 124 [] (.sl .full (rtsL.map rtRow)):=by
 refine Ql code124 (fun _ _ _=>.junk) (by simp) ?_
 simp [sc124,rs124,rtsL,rtRow]
theorem rtsL_get:∀ i:Nat,i < 8->∃ x,rtsL[i]? = some x/\Qk (rtsL.map rtRow) i=[I x.1,I x.2.1,I x.2.2.1,I x.2.2.2]
 | 0,_=>⟨_,rfl,rfl⟩
 | 1,_=>⟨_,rfl,rfl⟩
 | 2,_=>⟨_,rfl,rfl⟩
 | 3,_=>⟨_,rfl,rfl⟩
 | 4,_=>⟨_,rfl,rfl⟩
 | 5,_=>⟨_,rfl,rfl⟩
 | 6,_=>⟨_,rfl,rfl⟩
 | 7,_=>⟨_,rfl,rfl⟩
 | n+8,h=>by omega
def InvF3 (nu de:Int) (f:Nat->AV) (m:AM):Prop:=∃ (i:Nat),f 5=I i/\i<=8/\fndR nu de (rtsL.drop i)=fndR nu de rtsL/\m=⟨[[I nu,I de],[I 0,I 0,I 0,I 0]],[],fun _=>.gone,0⟩
theorem rfind_pure (nu de:Int):Pure Tryz.prog gl0 91 [.agg [I nu,I de]] (rtAV (fndR nu de rtsL)):=by
 have k:=rtab_pure
 have hlen:rtsL.length=8:=rfl
 refine Ql code91 (fun _ _ _=>.sl .full (rtsL.map rtRow)) (by simp) ?_
 simp [sc91]
 refine ⟨k,?_⟩
 clear k
 refine Qg w91_0 (InvF3 nu de) (fun f _=>8 - (numOf (f 5)).toNat) ?_ ?_
 ·exact ⟨0,by simp,by omega,rfl,rfl⟩
 ·rintro f m ⟨i,h5,hi,hf,rfl⟩
  by_cases h8:i=8
  ·subst h8
   have:fndR nu de (rtsL.drop 8)=none:=rfl
   rw [this] at hf
   simp [h5,w91_0,rs91,<- hf,rtAV,hlen]
  ·have hlt:i < 8:=by omega
   obtain ⟨x,hx,hrow⟩:=rtsL_get i hlt
   have hilt:(i:Int) < 8:=by omega
   have hw:=wrS i (by omega)
   rw [Qr hx,fndR] at hf
   by_cases hc:x.1=nu/\x.2.1=de
   ·rw [if_pos hc] at hf
    simp [h5,hlt,hilt,hlen,hrow,hc.1,hc.2,w91_0,rs91,<- hf,rtAV]
   ·rw [if_neg hc] at hf
    by_cases hc1:x.1=nu
    ·have hc2:¬ x.2.1=de:=fun h=>hc ⟨hc1,h⟩
     simp [h5,hlt,hilt,hlen,hrow,hc1,hc2,w91_0,hw]
     refine ⟨ag ?_,⟨i+1,by simp,by omega,hf,rfl⟩,by omega⟩
     repeat (first | exact Qb _ _ | refine Qc _ rfl ?_)
    ·simp [h5,hlt,hilt,hlen,hrow,hc1,w91_0,hw]
     refine ⟨ag ?_,⟨i+1,by simp,by omega,hf,rfl⟩,by omega⟩
     repeat (first | exact Qb _ _ | refine Qc _ rfl ?_)
theorem Wy (nu de:Int):Pure Tryz.prog gl0 58 [.agg [I nu,I de]] (.bool (Xq nu de)):=by
 have h:=rfind_pure nu de
 unfold Xq
 refine Ql code58 (fun _ _ _=>rtAV (fndR nu de rtsL)) (by simp) ?_
 cases hf:fndR nu de rtsL with
 | none=>rw [hf] at h;simp only [rtAV] at h;simp [sc58,rs58,rtAV];exact h
 | some x=>rw [hf] at h;simp only [rtAV] at h;simp [sc58,rs58,rtAV];exact h
theorem rframe_pure (f:Int):Pure Tryz.prog gl0 130 [I f] (.bool (decide (0<=f/\f<=100000000))):=by
 refine Ql code130 (fun _ _ _=>.junk) (by simp) ?_
 by_cases h1:0<=f<;>by_cases h2:f<=100000000<;>simp [sc130,rs130,h1,h2]
theorem rsecs_pure (nu de f:Int):Pure Tryz.prog gl0 102 [.agg [I nu,I de],I f] (I (Xz nu de f)):=by
 have h1:=Wy nu de
 have h2:=rframe_pure f
 refine Ql code102 (fun _ g _=>if g=58 then .bool (Xq nu de) else .bool (decide (0<=f/\f<=100000000))) (by simp) ?_
 cases hv:Xq nu de with
 | false=>rw [hv] at h1;simp [sc102,rs102,hv,Xz];exact h1
 | true =>
  rw [hv] at h1
  by_cases hf:0<=f/\f<=100000000
  ·obtain ⟨b1,b2,b3,b4,_⟩:=Vz hv
   obtain ⟨p1,p2⟩:=prod_bd (x:=f) (y:=de) (a:=100000000) (b:=1001) ⟨hf.1,hf.2⟩ ⟨by omega,by omega⟩
   have w1:IntKind.i64.wrap (f*de)=f*de:=by rw [Qh]<;>omega
   obtain ⟨d1,d2⟩:=tdiv_bd (x:=f*de) (y:=nu) p1 (by omega)
   have w2:IntKind.i64.wrap ((f*de).tdiv nu)=(f*de).tdiv nu:=by rw [Qh]<;>omega
   have hnz:¬ nu=0:=by omega
   simp [hf] at h2
   simp [sc102,rs102,hv,Xz,hf,w1,w2,hnz]
   exact ⟨h1,h2⟩
  ·simp only [hf,decide_false] at h2
   simp [sc102,rs102,hv,Xz,hf]
   exact ⟨h1,h2⟩
theorem rup_pure (a b:Int) (ha:0<=a/\a<=1000000000000000) (hb:1<=b/\b<=1001):Pure Tryz.prog gl0 99 [I a,I b] (I ((a+b - 1).tdiv b)):=by
 refine Ql code99 (fun _ _ _=>.junk) (by simp) ?_
 have w1:IntKind.i64.wrap (a+b)=a+b:=by rw [Qh]<;>omega
 have w2:IntKind.i64.wrap (a+b - 1)=a+b - 1:=by rw [Qh]<;>omega
 obtain ⟨d1,d2⟩:=tdiv_bd (x:=a+b - 1) (y:=b) (by omega) (by omega)
 have w3:IntKind.i64.wrap ((a+b - 1).tdiv b)=(a+b - 1).tdiv b:=by rw [Qh]<;>omega
 have hnz:¬ b=0:=by omega
 simp [sc99,rs99,w1,w2,w3,hnz]
theorem rfrms_pure (nu de s:Int):Pure Tryz.prog gl0 71 [.agg [I nu,I de],I s] (I (Yu nu de s)):=by
 have h1:=Wy nu de
 refine Ql code71 (fun _ g _=>if g=58 then .bool (Xq nu de) else I (Yu nu de s)) (by simp) ?_
 cases hv:Xq nu de with
 | false=>rw [hv] at h1;simp [sc71,rs71,hv,Yu];exact h1
 | true =>
  rw [hv] at h1
  by_cases hs0:s < 0
  ·have:¬ (0<=s/\s<=10000000000):=by omega
   simp [sc71,rs71,hv,Yu,hs0,this];exact h1
  ·by_cases hs1:10000000000 < s
   ·have:¬ (0<=s/\s<=10000000000):=by omega
    simp [sc71,rs71,hv,Yu,hs0,hs1,this];exact h1
   ·have hs:0<=s/\s<=10000000000:=by omega
    obtain ⟨b1,b2,b3,b4,_⟩:=Vz hv
    obtain ⟨p1,p2⟩:=prod_bd (x:=s) (y:=nu) (a:=10000000000) (b:=60000) ⟨hs.1,hs.2⟩ ⟨by omega,by omega⟩
    have w1:IntKind.i64.wrap (s*nu)=s*nu:=by rw [Qh]<;>omega
    have h2:=rup_pure (s*nu) de ⟨p1,by omega⟩ ⟨by omega,by omega⟩
    simp [sc71,rs71,hv,Yu,hs0,hs1,hs,w1]
    exact ⟨h1,h2⟩
open Go Go.Abs
def lastZ (sh:List Sp) (i:Nat):Int:=if i=0 then -1 else (sh.getD (i - 1) (0,0)).1
def InvZ (of:Int) (sh:List Sp) (f:Nat->AV) (mm:AM):Prop:=∃ (i:Nat) (bx:List (List AV)),f 3=I i/\i<=sh.length/\ascZ (lastZ sh i) (sh.drop i)=ascZ (-1) sh/\(i≠0->0<=lastZ sh i)/\mm=⟨[I of,.sl .ro (sh.map Qe)]::bx,[],fun _=>.gone,0⟩
theorem Wx (of:Int) (sh:List Sp) (hl:sh.length<=1000000000):Pure Tryz.prog gl0 59 [.agg [I of,.sl .ro (sh.map Qe)]] (.bool (Xl of sh)):=by
 refine Ql code59 (fun d f a=>.junk) (by simp) ?_
 by_cases o1:of < -50400
 ·have:Xl of sh=false:=by simp [Xl,Ub];intro _;omega
  simp [sc59,rs59,o1,this]
 ·by_cases o2:50400 < of
  ·have:Xl of sh=false:=by simp [Xl,Ub];intro _;omega
   simp [sc59,rs59,o1,o2,this]
  ·by_cases h40:40 < sh.length
   ·have h40':(40:Int) < (sh.length:Int):=by omega
    have:Xl of sh=false:=by simp [Xl];intro h;omega
    simp [sc59,rs59,o1,o2,h40,h40',this]
   ·have h40':¬ (40:Int) < (sh.length:Int):=by omega
    have ho:Ub of=true:=by simp [Ub];omega
    have hv:Xl of sh=ascZ (-1) sh:=by simp [Xl,ho];intro _;omega
    simp [sc59,o1,o2,h40,h40']
    refine Qg w59_0 (InvZ of sh) (fun f _=>sh.length - (numOf (f 3)).toNat) ?_ ?_
    ·exact ⟨0,[],by simp,Nat.zero_le _,rfl,fun h=>absurd rfl h,rfl⟩
    ·rintro f mm ⟨i,bx,h3,hi,ha,hla,rfl⟩
     rcases Nat.lt_or_ge i sh.length with hlt | hge
     ·obtain ⟨s,hs⟩:=getS hlt
      have hrow:=Xu hs
      have hilt:(i:Int) < (sh.length:Int):=by omega
      have hw:=wrS i (by omega)
      have hls:lastZ sh (i+1)=s.1:=by simp [lastZ,List.getD_eq_getElem?_getD,hs]
      rw [Qr hs,ascZ] at ha
      have bad:(s.1<=lastZ sh i\/10000000000 < s.1\/Ub s.2=false)->Xl of sh=false:=fun h=>by rw [if_pos h] at ha;rw [hv,<- ha]
      have hl0:lastZ sh i = -1\/0<=lastZ sh i:=by
       by_cases h:i=0
       ·left;simp [lastZ,h]
       ·exact .inr (hla h)
      by_cases c1:s.1 < 0
      ·have:=bad (.inl (by omega))
       simp [h3,hlt,hilt,hrow,c1,w59_0,rs59,this]
      ·by_cases c2:10000000000 < s.1
       ·have:=bad (.inr (.inl c2))
        simp [h3,hlt,hilt,hrow,c1,c2,w59_0,rs59,this]
       ·by_cases c3:s.2 < -50400
        ·have:=bad (.inr (.inr (by simp [Ub];omega)))
         simp [h3,hlt,hilt,hrow,c1,c2,c3,w59_0,rs59,this]
        ·by_cases c4:50400 < s.2
         ·have:=bad (.inr (.inr (by simp [Ub];omega)))
          simp [h3,hlt,hilt,hrow,c1,c2,c3,c4,w59_0,rs59,this]
         ·have hoff:Ub s.2=true:=by simp [Ub];omega
          by_cases hz:i=0
          ·subst hz
           rw [if_neg (by rintro (h | h | h);simp [lastZ] at h;omega;omega;rw [hoff] at h;cases h)] at ha
           have h3':f 3=I 0:=h3
           have w1:IntKind.i64.wrap 1=1:=by rw [Qh]<;>omega
           have hpl:(0:Int) < (sh.length:Int):=by omega
           simp [h3',hlt,hpl,hrow,c1,c2,c3,c4,w59_0,w1]
           refine ⟨ag ?_,⟨1,_,by simp,by omega,by rw [hls];exact ha,fun _=>by rw [hls];omega,rfl⟩,by omega⟩
           repeat (first | exact Qb _ _ | refine Qc _ rfl ?_)
          ·have hip:0 < i:=by omega
           have hw1:IntKind.i64.wrap ((i:Int) - 1)=((i - 1:Nat):Int):=by rw [Qh]<;>omega
           obtain ⟨s',hs'⟩:∃ s,sh[i - 1]? = some s:=⟨_,List.getElem?_eq_getElem (by omega)⟩
           have hrow':=Xu hs'
           have hll:lastZ sh i=s'.1:=by simp [lastZ,List.getD_eq_getElem?_getD,hs',hz]
           have hlt1:i - 1 < sh.length:=by omega
           by_cases c5:s.1<=s'.1
           ·have:=bad (.inl (by omega))
            simp [h3,hlt,hilt,hrow,hrow',c1,c2,c3,c4,c5,hip,hw1,hlt1,w59_0,rs59,this]
           ·rw [if_neg (by rintro (h | h | h);omega;omega;rw [hoff] at h;cases h)] at ha
            simp [h3,hlt,hilt,hrow,hrow',c1,c2,c3,c4,c5,hip,hw1,hlt1,w59_0,hw]
            refine ⟨ag ?_,⟨i+1,_,by simp,by omega,by rw [hls];exact ha,fun _=>by rw [hls];omega,rfl⟩,by omega⟩
            repeat (first | exact Qb _ _ | refine Qc _ rfl ?_)
     ·obtain rfl:i=sh.length:=by omega
      rw [List.drop_length,ascZ] at ha
      simp [h3,w59_0,rs59,hv,<- ha]
theorem offX_snoc (of:Int) (l:List Sp) (s:Sp) (x:Int):Jq of (l++[s]) x=if s.1<=x then s.2 else Jq of l x:=by simp [Jq]
def InvO (of:Int) (sh:List Sp) (x:Int) (f:Nat->AV) (mm:AM):Prop:=∃ (i:Nat),f 6=I i/\i<=sh.length/\f 5=I (Jq of (sh.take i) x)/\mm=⟨[[I of,.sl .ro (sh.map Qe)]],[],fun _=>.gone,0⟩
theorem roff_pure (of:Int) (sh:List Sp) (x:Int) (hl:sh.length<=1000000000):Pure Tryz.prog gl0 180 [.agg [I of,.sl .ro (sh.map Qe)],I x] (I (Jq of sh x)):=by
 refine Ql code180 (fun d f a=>.junk) (by simp) ?_
 simp [sc180]
 refine Qg w180_0 (InvO of sh x) (fun f _=>sh.length - (numOf (f 6)).toNat) ?_ ?_
 ·exact ⟨0,by simp,Nat.zero_le _,by simp [Jq],rfl⟩
 ·rintro f mm ⟨i,h6,hi,h5,rfl⟩
  rcases Nat.lt_or_ge i sh.length with hlt | hge
  ·obtain ⟨s,hs⟩:=getS hlt
   have hrow:=Xu hs
   have hilt:(i:Int) < (sh.length:Int):=by omega
   have hw:=wrS i (by omega)
   have htk:sh.take (i+1)=sh.take i++[s]:=by rw [List.take_add_one,hs];rfl
   by_cases c:s.1<=x
   ·simp [h6,h5,w180_0,hlt,hilt,hrow,c,hw]
    refine ⟨ag ?_,⟨i+1,by simp,by omega,by rw [htk,offX_snoc,if_pos c];simp,rfl⟩,by omega⟩
    repeat (first | exact Qb _ _ | refine Qc _ rfl ?_)
   ·simp [h6,h5,w180_0,hlt,hilt,hrow,c,hw]
    refine ⟨ag ?_,⟨i+1,by simp,by omega,by rw [htk,offX_snoc,if_neg c];simp [h5],rfl⟩,by omega⟩
    repeat (first | exact Qb _ _ | refine Qc _ rfl ?_)
  ·obtain rfl:i=sh.length:=by omega
   rw [List.take_length] at h5
   simp [h6,h5,w180_0,rs180]
theorem offX_bd {of:Int} {sh:List Sp} (h:Xl of sh=true) (x:Int) : -50400<=Jq of sh x/\Jq of sh x<=50400:=by
 simp only [Xl,Bool.and_eq_true] at h
 obtain ⟨⟨_,h1⟩,h2⟩:=h
 have h3:=(ascZ_all h2).2
 simp only [Ub,decide_eq_true_eq] at h1
 have key:∀ (l:List Sp) (o:Int),(∀ s∈l,Ub s.2=true)->(-50400<=o/\o<=50400) -> -50400<=Jq o l x/\Jq o l x<=50400:=by
  intro l
  induction l with
  | nil=>intro o _ h;exact h
  | cons a r ih =>
   intro o hl ho
   have ha:=hl a (by simp)
   simp only [Ub,decide_eq_true_eq] at ha
   show -50400<=Jq (if a.1<=x then a.2 else o) r x/\_
   refine ih _ (fun s hs=>hl s (by simp [hs])) ?_
   split
   ·exact ha
   ·exact ho
 exact key sh of (fun s hs=>(h3 s hs).2.2) h1
theorem rlocal_pure (of:Int) (sh:List Sp) (x:Int) (hl:sh.length<=1000000000) (hv:Xl of sh=true) (hx:0<=x/\x<=10000000000) :
  Pure Tryz.prog gl0 160 [.agg [I of,.sl .ro (sh.map Qe)],I x] (.tup [I ((x+Jq of sh x) / 86400),I ((x+Jq of sh x) % 86400)]):=by
 have k1:=Wx of sh hl
 have k2:=roff_pure of sh x hl
 have hb:=offX_bd hv x
 rw [hv] at k1
 generalize Jq of sh x=o at *
 refine Ql code160 (fun d f a=>if f=59 then .bool true else I o) (by simp) ?_
 have c1:¬ x < 0:=by omega
 have c2:¬ 10000000000 < x:=by omega
 have w1:IntKind.i64.wrap (x+o)=x+o:=by rw [Qh]<;>omega
 have q1:(x+o).tdiv 86400=if x+o < 0/\(x+o) % 86400≠0 then (x+o) / 86400+1 else (x+o) / 86400:=by
  by_cases h:0<=x+o
  ·rw [Int.tdiv_eq_ediv_of_nonneg h,if_neg (by omega)]
  ·have e:(x+o).tdiv 86400 = -((-(x+o)).tdiv 86400):=by rw [Int.neg_tdiv];simp
   rw [e,Int.tdiv_eq_ediv_of_nonneg (by omega)]
   split<;>omega
 have q2:(x+o).tmod 86400=(x+o) - 86400*(x+o).tdiv 86400:=by
  have:=Int.mul_tdiv_add_tmod (x+o) 86400
  omega
 have w2:IntKind.i64.wrap ((x+o).tdiv 86400)=(x+o).tdiv 86400:=by rw [q1,Qh]<;>split<;>omega
 by_cases c3:(x+o).tmod 86400 < 0
 ·have e1:(x+o).tdiv 86400 - 1=(x+o) / 86400:=by rw [q2] at c3;rw [q1] at c3 |-;split at c3<;>split<;>omega
  have w3:IntKind.i64.wrap ((x+o) / 86400)=(x+o) / 86400:=by rw [Qh]<;>omega
  have w4:IntKind.i64.wrap ((x+o) / 86400*86400)=(x+o) / 86400*86400:=by rw [Qh]<;>omega
  have w5:IntKind.i64.wrap (x+o - (x+o) / 86400*86400)=(x+o) % 86400:=by rw [Qh]<;>omega
  simp [sc160,rs160,c1,c2,w1,w2,c3,e1,w3,w4,w5]
  exact ⟨k1,k2⟩
 ·have e1:(x+o).tdiv 86400=(x+o) / 86400:=by rw [q2] at c3;rw [q1] at c3 |-;split at c3<;>split<;>omega
  rw [e1] at w2
  have w4:IntKind.i64.wrap ((x+o) / 86400*86400)=(x+o) / 86400*86400:=by rw [Qh]<;>omega
  have w5:IntKind.i64.wrap (x+o - (x+o) / 86400*86400)=(x+o) % 86400:=by rw [Qh]<;>omega
  simp [sc160,rs160,c1,c2,w1,w2,c3,e1,w4,w5]
  exact ⟨k1,k2⟩
def Qbn (of:Int) (sh:List Sp) (x fr to:Int):Bool :=
 if Xl of sh=false\/x < 0\/10000000000 < x\/fr < 0\/86400<=fr\/to < 0\/86400<=to then false else
 if fr < to then decide (fr<=(x+Jq of sh x) % 86400)&&decide ((x+Jq of sh x) % 86400 < to) else decide (fr<=(x+Jq of sh x) % 86400)||decide ((x+Jq of sh x) % 86400 < to)
theorem wthB_iff {of:Int} {sh:List Sp} {x fr to:Int} (hv:Xl of sh=true) (h1:dayB fr=true) (h2:dayB to=true):Qbn of sh x fr to=true<->withX of sh x fr to:=by
 simp only [dayB,decide_eq_true_eq] at h1 h2
 unfold Qbn withX
 have hn:0<=(x+Jq of sh x) % 86400/\(x+Jq of sh x) % 86400 < 86400:=by omega
 generalize (x+Jq of sh x) % 86400=n at *
 by_cases hx:0<=x/\x<=10000000000
 ·rw [if_neg (by rintro (h | h | h | h | h | h | h);rw [hv] at h;cases h;all_goals omega)]
  have hin:inW (Qah fr to) n<->(if fr < to then (fr<=n/\n < to) else (fr<=n\/n < to)):=by
   unfold Qah inW
   by_cases a:fr < to
   ·simp [a]
   ·by_cases b:to < fr
    ·simp [a,b];omega
    ·simp [a,b];omega
  rw [hin]
  by_cases a:fr < to
  ·simp [a,hx]
  ·simp [a,hx]
 ·rw [if_pos (by omega)]
  constructor
  ·intro h;cases h
  ·rintro ⟨h1,h2,_⟩;exact absurd ⟨h1,h2⟩ hx
theorem rwithin_pure (of:Int) (sh:List Sp) (x fr to:Int) (hl:sh.length<=1000000000):Pure Tryz.prog gl0 134 [.agg [I of,.sl .ro (sh.map Qe)],I x,I fr,I to] (.bool (Qbn of sh x fr to)):=by
 have k1:=Wx of sh hl
 cases hv:Xl of sh with
 | false =>
  rw [hv] at k1
  have hw:Qbn of sh x fr to=false:=by rw [Qbn,if_pos (.inl hv)]
  rw [hw]
  refine Ql code134 (fun d f a=>.bool false) (by simp) ?_
  simp [sc134,rs134]
  exact k1
 | true =>
  rw [hv] at k1
  obtain ⟨o,ho⟩:∃ o,Jq of sh x=o:=⟨_,rfl⟩
  refine Ql code134 (fun d f a=>if f=59 then .bool true else .tup [I ((x+o) / 86400),I ((x+o) % 86400)]) (by simp) ?_
  by_cases c1:x < 0
  ·rw [Qbn,if_pos (.inr (.inl c1))]
   simp [sc134,rs134,c1];exact k1
  ·by_cases c2:10000000000 < x
   ·rw [Qbn,if_pos (.inr (.inr (.inl c2)))]
    simp [sc134,rs134,c1,c2];exact k1
   ·by_cases c3:fr < 0
    ·rw [Qbn,if_pos (.inr (.inr (.inr (.inl c3))))]
     simp [sc134,rs134,c1,c2,c3];exact k1
    ·by_cases c4:86400<=fr
     ·rw [Qbn,if_pos (.inr (.inr (.inr (.inr (.inl c4)))))]
      simp [sc134,rs134,c1,c2,c3,c4];exact k1
     ·by_cases c5:to < 0
      ·rw [Qbn,if_pos (.inr (.inr (.inr (.inr (.inr (.inl c5))))))]
       simp [sc134,rs134,c1,c2,c3,c4,c5];exact k1
      ·by_cases c6:86400<=to
       ·rw [Qbn,if_pos (.inr (.inr (.inr (.inr (.inr (.inr c6))))))]
        simp [sc134,rs134,c1,c2,c3,c4,c5,c6];exact k1
       ·have k2:=rlocal_pure of sh x hl hv ⟨by omega,by omega⟩
        rw [ho] at k2
        rw [Qbn,if_neg (by rintro (h | h | h | h | h | h | h);rw [hv] at h;cases h;all_goals omega),ho]
        by_cases c7:fr < to
        ·rw [if_pos c7]
         by_cases c8:fr<=(x+o) % 86400
         ·simp [sc134,rs134,c1,c2,c3,c4,c5,c6,c7,c8];exact ⟨k1,k2⟩
         ·simp [sc134,rs134,c1,c2,c3,c4,c5,c6,c7,c8];exact ⟨k1,k2⟩
        ·rw [if_neg c7]
         by_cases c8:fr<=(x+o) % 86400
         ·simp [sc134,rs134,c1,c2,c3,c4,c5,c6,c7,c8];exact ⟨k1,k2⟩
         ·simp [sc134,rs134,c1,c2,c3,c4,c5,c6,c7,c8];exact ⟨k1,k2⟩
end Go.Proofs.YtkcnjajklnoahaaGreatDoor
