import Derived.Test.YtjmgelbfndnpjaaGreatDoorPPSeA
set_option linter.unusedVariables false
set_option linter.unusedSimpArgs false
namespace Go.Proofs.YtjmgelbfndnpjaaGreatDoor
open Go Go.Abs
def permI (p:Pl) (it:It) (region x:Int):Prop:=it.ki=5\/(Jk p=true/\grX (Uv p.cls it.id region) (p.ep+Vu p.nu p.de x)=true/\∀ w∈Kh p.cls it.ra,withX p.of p.sh (p.ep+Vu p.nu p.de x) w.1 w.2)
def permX (p:Pl) (id region x:Int):Prop:=∃ it,Xe id p.its=some it/\(0<=region/\region < 8)/\(0<=x/\x<=100000000)/\permI p it region x
theorem fold_has:∀ (Xs:List (List Sp)) (a:List Sp) (y:Int),Xj (Xs.foldl Wp a) y<->Xj a y/\∀ l∈Xs,Xj l y
 | [],a,y=>by simp
 | l::Xs,a,y=>by
  rw [List.foldl_cons,fold_has Xs,(intS_ok a l).2]
  simp only [List.mem_cons,forall_eq_or_imp,and_assoc]
theorem frm_le {nu de s f:Int} (hv:Zh nu de=true) (hs:0<=s/\s<=10000000000) (hf:0<=f/\f<=100000000):Kv nu de s<=f<->s<=Vu nu de f:=by
 obtain ⟨b1,b2,b3,b4,b5⟩:=Yu hv
 rw [Kv,if_pos ⟨hv,hs.1,hs.2⟩,Vu,if_pos ⟨hv,hf.1,hf.2⟩]
 have q0:0<=s*nu:=Int.mul_nonneg hs.1 (by omega)
 have q1:0<=f*de:=Int.mul_nonneg hf.1 (by omega)
 rw [Int.tdiv_eq_ediv_of_nonneg (by omega),Int.tdiv_eq_ediv_of_nonneg q1]
 have e1:(s*nu+de - 1) / de<=f<->s*nu<=f*de:=by
  rw [<- Int.lt_add_one_iff,Int.ediv_lt_iff_lt_mul (by omega)]
  have:(f+1)*de=f*de+de:=by rw [Int.add_mul];omega
  omega
 rw [e1,Int.le_ediv_iff_mul_le (by omega)]
theorem frames_has {p:Pl} {U:List Sp} (hv:Zh p.nu p.de=true) (hU:∀ w∈U,(0<=w.1 - p.ep/\w.1 - p.ep<=10000000000)/\(0<=w.2 - p.ep/\w.2 - p.ep<=10000000000)) {f:Int} (hf:0<=f/\f<=100000000) :
  Xj (U.map (frS p)) f<->Xj U (p.ep+Vu p.nu p.de f):=by
 unfold Xj
 simp only [List.mem_map]
 constructor
 ·rintro ⟨_,⟨w,hw,rfl⟩,h1,h2⟩
  obtain ⟨u1,u2⟩:=hU w hw
  have a1:=frm_le hv u1 hf
  have a2:=frm_le hv u2 hf
  simp only [frS] at h1 h2
  exact ⟨w,hw,by omega,by omega⟩
 ·rintro ⟨w,hw,h1,h2⟩
  obtain ⟨u1,u2⟩:=hU w hw
  have a1:=frm_le hv u1 hf
  have a2:=frm_le hv u2 hf
  exact ⟨_,⟨w,hw,rfl⟩,by simp only [frS];omega,by simp only [frS];omega⟩
theorem wshS_day {cs:List Cl} {ra:Int}:∀ w∈Kh cs ra,dayB w.1=true/\dayB w.2=true:=by
 intro w hw
 simp only [Kh,List.mem_map,List.mem_filter,wshB,Bool.and_eq_true,decide_eq_true_eq,Xt] at hw
 obtain ⟨c,⟨_,h1,_,_,h2⟩,rfl⟩:=hw
 rw [Jh] at h2
 simp only [h1] at h2
 simp [Ui,wi] at h2
 simp only [dayB,decide_eq_true_eq]
 omega
theorem clip_ok (s:Sp):0<=(Qap s).1/\(Qap s).2<=100000001/\∀ x,((Qap s).1<=x/\x < (Qap s).2)<->(s.1<=x/\x < s.2/\0<=x/\x<=100000000):=by
 simp only [Qap]
 refine ⟨by omega,by omega,fun x=>?_⟩
 omega
theorem permS_has (p:Pl) (id region:Int) (s:Sp) (hs:s.2 - s.1<=1000000) (x:Int):Xj (Zr p id region s) x<->s.1<=x/\x < s.2/\permX p id region x:=by
 obtain ⟨c0,c1,cx⟩:=clip_ok s
 have cl:(Qap s).2 - (Qap s).1<=1000000:=by simp only [Qap];omega
 unfold Zr permX
 generalize Qap s=c at *
 cases hf:Xe id p.its with
 | none=>simp
 | some it =>
  simp only [Option.some.injEq,exists_eq_left']
  split
  ·rename_i hb
   simp only [Vk,false_iff]
   rintro ⟨h1,h2,h3,h4,_⟩
   have:=(cx x).2 ⟨h1,h2,h4⟩
   omega
  ·rename_i hb
   simp only [not_or] at hb
   split
   ·rename_i hk
    simp only [Xc,Vk,or_false,permI,hk,true_or,and_true]
    rw [cx x]
    constructor
    ·rintro ⟨h1,h2,h3,h4⟩;exact ⟨h1,h2,by omega,h3,h4⟩
    ·rintro ⟨h1,h2,h3,h4⟩;exact ⟨h1,h2,h4⟩
   ·rename_i hk
    split
    ·rename_i ht
     simp [permI,hk,ht]
    ·rename_i ht
     have ht':Jk p=true:=by simpa using ht
     have hte:Zh p.nu p.de=true/\Vf p.of p.sh=true/\0<=p.ep/\p.ep<=9000000000:=by
      simp only [Jk,Bool.and_eq_true,decide_eq_true_eq] at ht'
      exact ⟨ht'.1.1,ht'.1.2,ht'.2⟩
     obtain ⟨hv,hz,he⟩:=hte
     rw [(intS_ok _ _).2]
     obtain ⟨u,hu⟩:∃ u,uS p c=u:=⟨_,rfl⟩
     have hu1:u.1=p.ep+Vu p.nu p.de c.1:=by rw [<- hu];rfl
     have hu2:u.2=p.ep+Vu p.nu p.de (c.2 - 1)+1:=by rw [<- hu];rfl
     rw [hu]
     have hd:=secR_diff (f:=c.1) (g:=c.2 - 1) hv (by omega) (by omega) (by omega)
     have hs1:=secR_bd p.nu p.de c.1
     have hs2:=secR_bd p.nu p.de (c.2 - 1)
     have hs0:0<=Vu p.nu p.de c.1:=by
      rw [Vu,if_pos ⟨hv,by omega,by omega⟩]
      exact Int.tdiv_nonneg (Int.mul_nonneg (by omega) (by have:=Yu hv;omega)) (by have:=Yu hv;omega)
     have hcur:curS p it region u (limL p it region u).length=(limL p it region u).foldl Wp [u]:=by simp [curS]
     have hin:InB u.1 u.2 (curS p it region u (limL p it region u).length):=by
      rw [hcur];exact fold_in _ _ (by intro w hw;simp at hw;subst hw;omega)
     by_cases hx:c.1<=x/\x < c.2
     ·have hx':=(cx x).1 hx
      have m1:=secR_diff (f:=c.1) (g:=x) hv (by omega) (by omega) (by omega)
      have m2:=secR_diff (f:=x) (g:=c.2 - 1) hv (by omega) (by omega) (by omega)
      rw [frames_has hv (fun w hw=>by have:=hin w hw;omega) ⟨by omega,by omega⟩,hcur,fold_has]
      simp only [Xc,Vk,or_false,permI,hk,false_or,ht',true_and]
      have hl:(∀ l∈limL p it region u,Xj l (p.ep+Vu p.nu p.de x))<->(grX (Uv p.cls it.id region) (p.ep+Vu p.nu p.de x)=true/\∀ w∈Kh p.cls it.ra,withX p.of p.sh (p.ep+Vu p.nu p.de x) w.1 w.2):=by
       unfold limL
       simp only [List.mem_cons,forall_eq_or_imp,List.mem_map,forall_exists_index,and_imp,forall_apply_eq_imp_iff₂]
       rw [spansR_has]
       refine and_congr Iff.rfl (forall_congr' fun w=>forall_congr' fun hw=>?_)
       obtain ⟨d1,d2⟩:=wshS_day w hw
       rw [calS_has (by simp only [calB,hz,d1,d2,Bool.and_true,Bool.true_and,decide_eq_true_eq];omega)]
       constructor
       ·rintro ⟨_,_,h⟩;exact h
       ·intro h;exact ⟨by omega,by omega,h⟩
      rw [hl]
      constructor
      ·rintro ⟨⟨_,h⟩,_⟩
       exact ⟨hx'.1,hx'.2.1,by omega,hx'.2.2,h⟩
      ·rintro ⟨_,_,_,_,h⟩
       exact ⟨⟨by omega,h⟩,hx⟩
     ·simp only [Xc,Vk,or_false]
      constructor
      ·rintro ⟨_,h⟩;exact absurd h hx
      ·rintro ⟨h1,h2,_,h4,_⟩;exact absurd ((cx x).2 ⟨h1,h2,h4⟩) hx
theorem allowB_iff (p:Pl) (id region f n:Int):Xo p id region f n=true<->(1<=n/\n<=1000000/\0<=f/\f+n - 1<=100000000)/\∀ x,f<=x->x < f+n->permX p id region x:=by
 unfold Xo
 split
 ·rename_i hb
  simp only [Bool.false_eq_true,false_iff]
  rintro ⟨⟨h1,h2,h3,h4⟩,_⟩
  rcases hb with h | h | h | h
  ·omega
  ·omega
  ·simp [frB] at h;omega
  ·simp [frB] at h;omega
 ·rename_i hb
  simp only [not_or,Bool.not_eq_false,frB,decide_eq_true_eq] at hb
  obtain ⟨b1,b2,b3,b4⟩:=hb
  rw [List.isEmpty_iff,covers_iff (by simp only;omega)]
  constructor
  ·intro h
   refine ⟨by omega,fun x h1 h2=>?_⟩
   exact ((permS_has p id region (f,f+n) (by simp only;omega) x).1 (h x h1 h2)).2.2
  ·rintro ⟨_,h⟩ x h1 h2
   exact (permS_has p id region (f,f+n) (by simp only;omega) x).2 ⟨h1,h2,h x h1 h2⟩
theorem allowB_sub {p:Pl} {id region f n g m:Int} (h:Xo p id region f n=true) (h1:f<=g) (h2:g+m<=f+n) (h3:1<=m):Xo p id region g m=true:=by
 rw [allowB_iff] at *
 obtain ⟨⟨a1,a2,a3,a4⟩,a5⟩:=h
 exact ⟨by omega,fun x h1 h2=>a5 x (by omega) (by omega)⟩
end Go.Proofs.YtjmgelbfndnpjaaGreatDoor
