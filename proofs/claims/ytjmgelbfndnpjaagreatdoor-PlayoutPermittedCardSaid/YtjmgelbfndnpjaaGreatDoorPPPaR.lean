import Derived.Test.YtjmgelbfndnpjaaGreatDoorPPPaI
set_option linter.unusedVariables false
set_option linter.unusedSimpArgs false
set_option maxRecDepth 100000
namespace Go.Proofs.YtjmgelbfndnpjaaGreatDoor.Lw
open Go Go.Abs
def plc (l:List Ev2):List Ev2:=l.filter fun e=>decide (1<=e.fr)
theorem plc_yes (a:Ev2) (r:List Ev2) (h:1<=a.fr):plc (a::r)=a::plc r:=by simp [plc,h]
theorem plc_no (a:Ev2) (r:List Ev2) (h:¬ 1<=a.fr):plc (a::r)=plc r:=by
 unfold plc
 rw [List.filter_cons_of_neg (by simpa using h)]
theorem plc_mem {e:Ev2} {l:List Ev2} (h:e∈plc l):e∈l/\1<=e.fr:=by simpa [plc] using h
theorem oevents_pure (s:List (List AV)):Pure Tryz.prog gl0 71 [.sl .ro s] (.fn 113 [] [.ep [.sl .ro s] 0]):=by
 refine Qn code71 (fun _ _ _=>.junk) (by simp) ?_
 simp [sc71,rs71]
theorem optionals_pure (s:List (List AV)):Pure Tryz.prog gl0 76 [.sl .ro s] (.fn 115 [] [.ep [.sl .ro s] 0]):=by
 refine Qn code76 (fun _ _ _=>.junk) (by simp) ?_
 simp [sc76,rs76]
theorem oevents_iter (l:List Ev2) (hl:l.length<=1000000000) (hs:∀ e∈l,Zw e):Iter Tryz.prog gl0 113 [] [.ep [.sl .ro (l.map Qj)] 0] ((plc l).map fun e=>[.agg (Qj e)]):=by
 intro Y lp m K hF
 refine Zb code113 (fun _ _ _=>.junk) (by simp) ?_
 simp [sc113,rs113]
 refine Ql w113_0 (fun s m=>∃ i:Nat,s 7=I i/\i<=l.length/\Fold (Y lp) K ((plc (l.drop i)).map fun e=>[.agg (Qj e)]) m) (fun s m=>l.length - (numOf (s 7)).toNat) ?_ ?_
 ·exact ⟨0,by simp,by omega,hF⟩
 ·rintro s m ⟨i,hi,hle,hr⟩
  rcases Nat.lt_or_ge i l.length with hlt | hge
  ·obtain ⟨a,ha⟩:∃ a,l[i]? = some a:=⟨l[i],List.getElem?_eq_getElem hlt⟩
   have hrow:Qf (l.map Qj) i=Qj a:=Qv (by simp [ha])
   have hw:=wrS i (by omega)
   rw [Qz ha] at hr
   obtain ⟨⟨a1,a2⟩,⟨a3,a4⟩,_⟩:=hs a (List.mem_of_getElem? ha)
   have e1:¬ a.st < 0:=by omega
   have e2:¬ 100000000 < a.st:=by omega
   have e4:¬ 100000000 < a.fr:=by omega
   by_cases h2:1<=a.fr
   ·have e3:¬ a.fr < 1:=by omega
    rw [plc_yes a _ h2] at hr
    simp only [List.map_cons] at hr
    simp [w113_0,hi,hrow,hlt,hw,Qj,e1,e2,e3,e4]
    refine hr _ (Ext.box m _) _ (fun m2 h2=>?_) (fun m2 h2=>?_)
    ·simp
     refine ⟨ag ?_,⟨i+1,by simp,by omega,h2⟩,by omega⟩
     repeat (first | exact Qa _ _ | refine Qb _ rfl ?_)
    ·simp
     exact h2 m2 (Ext.refl m2)
   ·have e3:a.fr < 1:=by omega
    rw [plc_no a _ h2] at hr
    simp [w113_0,hi,hrow,hlt,hw,Qj,e1,e2,e3,e4]
    refine ⟨ag ?_,⟨i+1,by simp,by omega,hr.ext (Ext.box m _)⟩,by omega⟩
    repeat (first | exact Qa _ _ | refine Qb _ rfl ?_)
  ·rw [List.drop_eq_nil_of_le hge] at hr
   simp [w113_0,hi,Nat.not_lt.2 hge]
   exact hr m (Ext.refl m)
structure Opt where
 st:Int
 fr:Int
 al:List Sp
def Qw (o:Opt):List AV:=[I o.st,I o.fr,.sl .ro (o.al.map Qd)]
def Jz (e:Ev2):Opt:=⟨e.st - e.i,e.fr+e.i,e.al⟩
def altV (r:Int):List Sp->Bool
 | []=>true
 | a::l=>if r < a.1/\a.1<=7/\1<=a.2/\a.2<=1000000 then altV a.1 l else false
def valO (o:Opt):Bool:=decide (0<=o.st)&&decide (1<=o.al.length/\o.al.length<=7)&&altV 0 o.al
def Kr (e:Ev2):Bool:=valO (Jz e)
theorem runs_pure (e:Ev2) (f:Int) (h:Zw e):Pure Tryz.prog gl0 72 [.agg (Qj e),I f] (.bool (Uf f e)):=by
 refine Qn code72 (fun _ _ _=>.junk) (by simp) ?_
 obtain ⟨⟨a1,a2⟩,⟨a3,a4⟩,_⟩:=h
 have w:IntKind.i64.wrap (e.st+e.fr)=e.st+e.fr:=by rw [Qe]<;>omega
 by_cases h1:e.st<=f
 ·simp [sc72,rs72,Qj,h1,w,Uf]
 ·simp [sc72,rs72,Qj,h1,w,Uf]
def folB (f:Int) (e:Ev2):Bool:=decide (f < e.st/\e.st - 20<=f)
theorem follows_pure (e:Ev2) (f:Int) (h:Zw e):Pure Tryz.prog gl0 77 [.agg (Qj e),I f] (.bool (folB f e)):=by
 refine Qn code77 (fun _ _ _=>.junk) (by simp) ?_
 obtain ⟨⟨a1,a2⟩,⟨a3,a4⟩,_⟩:=h
 have w:IntKind.i64.wrap (e.st - 20)=e.st - 20:=by rw [Qe]<;>omega
 by_cases h1:f < e.st
 ·simp [sc77,rs77,Qj,h1,w,folB]
 ·simp [sc77,rs77,Qj,h1,w,folB]
theorem none_pure (o:Opt) (h:1<=o.fr):Pure Tryz.prog gl0 141 [.agg (Qw o)] (.bool false):=by
 refine Qn code141 (fun _ _ _=>.junk) (by simp) ?_
 have e1:(o.fr==0)=false:=by simp;omega
 by_cases h0:o.st=0
 ·simp [sc141,rs141,Qw,h0,e1]
 ·have e0:(o.st==0)=false:=by simpa using h0
  simp [sc141,rs141,Qw,e0,e1]
theorem own_pure (o:Opt) (h:o.al.length<=8796093022208):Pure Tryz.prog gl0 74 [.agg (Qw o)] (.agg (Qw o)):=by
 refine Qn code74 (fun _ _ _=>.junk) (by simp) ?_
 simp [sc74,rs74,Qw]
 exact ⟨by rintro a b c _ rfl;rfl,by omega⟩
def InvOv (o:Opt) (f:Nat->AV) (m:AM):Prop:=∃ (i:Nat) (r:Int) (bx:List (List AV)),f 39=I i/\i<=o.al.length/\f 3=I r/\altV 0 o.al=altV r (o.al.drop i)/\m=⟨bx,[],fun _=>.gone,0⟩
theorem ovalid_pure (o:Opt) (h1 : -1000000<=o.st/\o.st<=1000000) (h2:1<=o.fr/\o.fr<=2000000):Pure Tryz.prog gl0 114 [.agg (Qw o)] (.bool (valO o)):=by
 have hn:=none_pure o h2.1
 simp only [Qw] at hn |-
 refine Qn code114 (fun _ _ _=>.bool false) (by simp) ?_
 have e2:¬ 100000000 < o.st:=by omega
 have e3:¬ o.fr < 1:=by omega
 have e4:¬ 100000000 < o.fr:=by omega
 by_cases h0:o.st < 0
 ·have h0':¬ 0<=o.st:=by omega
  simp [sc114,rs114,h0,h0',valO]
  exact hn
 ·have h0':0<=o.st:=by omega
  by_cases g1:(o.al.length:Int) < 1
  ·have g1':¬ 1<=o.al.length:=by omega
   simp [sc114,rs114,h0,h0',e2,e3,e4,valO,g1,g1']
   exact hn
  ·by_cases g2:(7:Int) < o.al.length
   ·have g2':¬ o.al.length<=7:=by omega
    simp [sc114,rs114,h0,h0',e2,e3,e4,valO,g1,g2,g2']
    exact hn
   ·have hv:valO o=altV 0 o.al:=by
     have:1<=o.al.length/\o.al.length<=7:=by omega
     simp [valO,h0',this]
    rw [hv]
    simp [sc114,h0,h0',e2,e3,e4,g1,g2]
    refine ⟨hn,?_⟩
    clear hn
    refine Ql w114_0 (InvOv o) (fun s m=>o.al.length - (numOf (s 39)).toNat) ?_ ?_
    ·exact ⟨0,0,_,by simp,by omega,by simp,by simp,rfl⟩
    ·rintro s m ⟨i,r,bx,h39,hi,h3,hr,rfl⟩
     rcases Nat.lt_or_ge i o.al.length with hlt | hge
     ·obtain ⟨a,ha⟩:=getS hlt
      have hrow:=Zm ha
      have hilt:(i:Int) < (o.al.length:Int):=by omega
      have hw:=wrS i (by omega)
      rw [Qz ha,altV] at hr
      by_cases c:r < a.1/\a.1<=7/\1<=a.2/\a.2<=1000000
      ·rw [if_pos c] at hr
       obtain ⟨c1,c2,c3,c4⟩:=c
       have d1:¬ a.1<=r:=by omega
       have d2:¬ 7 < a.1:=by omega
       have d3:¬ a.2 < 1:=by omega
       have d4:¬ 1000000 < a.2:=by omega
       simp [w114_0,h39,h3,hlt,hilt,hrow,hw,d1,d2,d3,d4]
       refine ⟨ag ?_,⟨i+1,a.1,_,by simp,by omega,by simp,hr,rfl⟩,by omega⟩
       repeat (first | exact Qa _ _ | refine Qb _ rfl ?_)
      ·rw [if_neg c] at hr
       rw [hr]
       by_cases d1:a.1<=r
       ·simp [w114_0,rs114,h39,h3,hlt,hilt,hrow,hw,d1]
       ·by_cases d2:7 < a.1
        ·simp [w114_0,rs114,h39,h3,hlt,hilt,hrow,hw,d1,d2]
        ·by_cases d3:a.2 < 1
         ·simp [w114_0,rs114,h39,h3,hlt,hilt,hrow,hw,d1,d2,d3]
         ·have d4:1000000 < a.2:=by omega
          simp [w114_0,rs114,h39,h3,hlt,hilt,hrow,hw,d1,d2,d3,d4]
     ·obtain rfl:i=o.al.length:=by omega
      rw [hr]
      simp [w114_0,rs114,h39,h3,altV]
theorem opt_pure (e:Ev2) (h:Zw e) (h1:1<=e.fr):Pure Tryz.prog gl0 73 [.agg (Qj e)] (.tup [.agg (Qw (Jz e)),.bool (Kr e)]):=by
 obtain ⟨⟨a1,a2⟩,⟨a3,a4⟩,⟨a5,a6⟩,_⟩:=h
 have hv:=ovalid_pure (Jz e) ⟨by simp only [Jz];omega,by simp only [Jz];omega⟩ ⟨by simp only [Jz];omega,by simp only [Jz];omega⟩
 refine Qn code73 (fun _ _ _=>.bool (Kr e)) (by simp) ?_
 have e1:¬ e.i < 0:=by omega
 have e2:¬ 100000000 < e.i:=by omega
 have w1:IntKind.i64.wrap (e.st - e.i)=e.st - e.i:=by rw [Qe]<;>omega
 have w2:IntKind.i64.wrap (e.fr+e.i)=e.fr+e.i:=by rw [Qe]<;>omega
 simp [sc73,rs73,Qj,e1,e2,w1,w2,Qw,Jz]
 exact hv
end Go.Proofs.YtjmgelbfndnpjaaGreatDoor.Lw
