import Derived.Test.YtkcnjajklnoahaaGreatDoorTYScM
import Derived.Test.YtkcnjajklnoahaaGreatDoorTYRgG
set_option linter.unusedVariables false
set_option linter.unusedSimpArgs false
set_option maxRecDepth 100000
set_option maxHeartbeats 64000000
namespace Go.Proofs.YtkcnjajklnoahaaGreatDoor
open Go Go.Abs
def shL (p:Pl):List En:=(p.ens.take 8).map shE
def Qx (p:Pl):List AV:=[I p.ch,I p.nu,I p.de,I p.of,.sl (.own 3 2) ((p.sh.map Qe).take (min 5 p.sh.length)),I p.ep,I p.rg,I p.ln,I p.fi,.sl (.own 0 5) ((p.its.map Qf).take (min 12 p.its.length)),.sl .ro (p.ens.map Qd),
 .sl (.own 1 7) ((p.bks.map Qt).take (min 5 p.bks.length)),.sl (.own 2 8) ((p.cls.map Qi).take (min 15 p.cls.length))]
def zeroP:List AV:=[I 0,I 0,I 0,I 0,.sl .nil [],I 0,I 0,I 0,I 0,.sl .nil [],.sl .nil [],.sl .nil [],.sl .nil []]
def InvSh (p:Pl) (f:Nat->AV) (m:AM):Prop:=∃ (i:Nat) (rt:Rt) (ls:List Nat) (bx:List (List AV)),f 4=I i/\i<=(shL p).length/\f 3=.sl rt (((shL p).take i).map Qd)/\OutR 7 4 ls rt ((shL p).take i)/\4<=ls.length/\m=⟨Qx p::zeroP::bx,ls,fun _=>.gone,0⟩
def plRow8 (p:Pl):List AV:=[I p.ch,I p.nu,I p.de,I p.of,.sl .ro ((p.sh.take 5).map Qe),I p.ep,I p.rg,I p.ln,I p.fi,.sl .ro ((p.its.take 12).map Qf),(if shL p=[] then .sl .nil [] else .sl .ro ((shL p).map Qd)),
 .sl .ro ((p.bks.take 5).map Qt),.sl .ro ((p.cls.take 15).map Qi)]
theorem Uw {α:Type} (l:List α) (k:Nat):l.take (min k l.length)=l.take k:=by
 rcases Nat.lt_or_ge k l.length with h | h
 ·rw [show min k l.length=k by omega]
 ·rw [show min k l.length=l.length by omega,List.take_length,List.take_of_length_le h]
theorem row_of {α:Type} {l:List α} {g:α->List AV} {k n:Nat} (hg:∀ a,(g a).length=n):∀ row∈(l.map g).take k,row.length=n:=fun row hr=>by
 obtain ⟨a,_,rfl⟩:=List.mem_map.1 (List.mem_of_mem_take hr)
 exact hg a
theorem short24a (p:Pl) (h:Pl64 p):Pure Tryz.prog gl0 24 [.agg (Qa p)] (.agg (plRow8 p)):=by
 refine Ql code24 (fun _ _ _=>.junk) (by simp) ?_
 have m1:(if (12:Int) < (p.its.length:Int) then 12 else (p.its.length:Int))=((min 12 p.its.length:Nat):Int):=by split<;>omega
 have m2:(if (5:Int) < (p.bks.length:Int) then 5 else (p.bks.length:Int))=((min 5 p.bks.length:Nat):Int):=by split<;>omega
 have m3:(if (15:Int) < (p.cls.length:Int) then 15 else (p.cls.length:Int))=((min 15 p.cls.length:Nat):Int):=by split<;>omega
 have m4:(if (5:Int) < (p.sh.length:Int) then 5 else (p.sh.length:Int))=((min 5 p.sh.length:Nat):Int):=by split<;>omega
 simp [sc24,Qa,m1,m2,m3,m4]
 refine ⟨⟨by omega,fun _ _=>rfl⟩,⟨row_of fun _=>rfl,by omega⟩,⟨by omega,fun _ _=>rfl⟩,⟨row_of fun _=>rfl,by omega⟩,⟨by omega,fun _ _=>rfl⟩,⟨row_of fun _=>rfl,by omega⟩,⟨by omega,?_⟩,⟨row_of fun _=>rfl,by omega⟩,?_⟩
 ·rintro _ _ _ _ rfl;rfl
 refine Qg w24_0 (InvSh p) (fun f _=>(shL p).length - (numOf (f 4)).toNat) ?_ ?_
 ·exact ⟨0,.nil,[min 12 p.its.length,min 5 p.bks.length,min 15 p.cls.length,min 5 p.sh.length],[],by simp,by omega,by simp,.inl ⟨rfl,rfl⟩,by simp,by simp [Qx,zeroP]⟩
 ·rintro f m ⟨i,rt,ls,bx,g4,hi,g3,hO,hls,rfl⟩
  have hL:(shL p).length=min 8 p.ens.length:=by simp [shL]
  rcases Nat.lt_or_ge i (shL p).length with hlt | hge
  ·have hlt1:i < p.ens.length:=by omega
   have hlt8:i < 8:=by omega
   obtain ⟨e,he⟩:=getS hlt1
   have hrow:=Zi he
   have hilt:(i:Int) < (p.ens.length:Int):=by omega
   have hil8:(i:Int) < 8:=by omega
   have hw:=wrS i (by omega)
   have hx:(shL p)[i]? = some (shE e):=by simp [shL,hlt8,he]
   have htk:=Zq hx
   have ma:(if (8:Int) < (e.al.length:Int) then 8 else (e.al.length:Int))=((min 8 e.al.length:Nat):Int):=by split<;>omega
   obtain ⟨b1,b2,b3,b4,b5,b6⟩:=(h.ens e (List.mem_of_getElem? he)).1
   have b7:=(h.ens e (List.mem_of_getElem? he)).2.1
   unfold Xx at b1 b2 b3 b4 b5 b6
   obtain ⟨S,hS⟩:∃ S,(shL p).take i=S:=⟨_,rfl⟩
   have hSl:S.length<=8:=by rw [<- hS];simp;omega
   rw [hS] at g3 hO htk
   have hta:(e.al.map Qe).take (min 8 e.al.length)=(e.al.take 8).map Qe:=by rw [<- List.map_take,Uw]
   obtain ⟨F,hF⟩:∃ F,(if e.ea < 0 then 0 else e.ea)=F:=⟨_,rfl⟩
   have hFm:max e.ea 0=F:=by rw [<- hF];split<;>omega
   have hFb:0<=F:=by omega
   have hwF:F<=100000000->IntKind.i64.wrap (F+5000)=F+5000:=fun h=>by rw [Qh]<;>omega
   have A1:min 8 e.al.length<=e.al.length/\∀ (row:List AV) (x x_1:Int),(x,x_1)∈e.al->Qe (x,x_1)=row->row.length=2:=⟨by omega,by rintro _ _ _ _ rfl;rfl⟩
   have A2:(∀ (row:List AV),row∈List.take (min 8 e.al.length) (List.map Qe e.al)->row.length=2)/\(3*min 8 e.al.length+4000)*16<=562949953421312:=⟨row_of fun _=>rfl,by omega⟩
   have A2':(∀ (row:List AV),row∈(e.al.map Qe).take 8->row.length=2)/\(3*min 8 e.al.length+4000)*16<=562949953421312:=⟨row_of fun _=>rfl,by omega⟩
   have hsh:∀ fr la,(if 2000 < e.fr then e.fr.tmod 2000 else e.fr)=fr->(if F<=100000000/\F+5000 < e.la then F+5000 else e.la)=la->Qd (shE e)=[I e.id,I e.it,I fr,I e.ea,I la,I e.bo,.sl .ro ((e.al.take 8).map Qe)]:=fun fr la h1 h2=>by
    simp only [Qd,shE,hFm,h1,h2]
   rcases hO with ⟨rfl,rfl⟩ | ⟨k,rfl,hk1,hk2,hk3⟩
   ·skip
    by_cases c1:2000 < e.fr
    ·by_cases c2:F<=100000000
     ·have hwF:=hwF c2
      by_cases c3:F+5000 < e.la
      ·have hr:=hsh (e.fr.tmod 2000) (F+5000) (if_pos c1) (if_pos ⟨c2,c3⟩)
       simp [g4,g3,hlt1,hilt,hlt8,hil8,hrow,Qd,Qx,w24_0,ma,hF,hw,hta,c1,c2,hwF,c3]
       refine ⟨A1,?_,ag ?_,⟨i+1,.own (ls.length+1) 7,ls++[min 8 e.al.length]++[1],_,by simp,by omega,by rw [htk,List.map_append,List.map_singleton,hr];simp [Qd],by rw [htk];exact .inr ⟨_,rfl,by omega,by simp,by simp⟩,by simp;omega,by simp [Qx];rfl⟩,by omega⟩
       ·exact A2'
       ·repeat (first | exact Qb _ _ | refine Qc _ rfl ?_)
      ·have hr:=hsh (e.fr.tmod 2000) e.la (if_pos c1) (if_neg (fun h=>c3 h.2))
       simp [g4,g3,hlt1,hilt,hlt8,hil8,hrow,Qd,Qx,w24_0,ma,hF,hw,hta,c1,c2,hwF,c3]
       refine ⟨A1,?_,ag ?_,⟨i+1,.own (ls.length+1) 7,ls++[min 8 e.al.length]++[1],_,by simp,by omega,by rw [htk,List.map_append,List.map_singleton,hr];simp [Qd],by rw [htk];exact .inr ⟨_,rfl,by omega,by simp,by simp⟩,by simp;omega,by simp [Qx];rfl⟩,by omega⟩
       ·exact A2'
       ·repeat (first | exact Qb _ _ | refine Qc _ rfl ?_)
     ·have hr:=hsh (e.fr.tmod 2000) e.la (if_pos c1) (if_neg (fun h=>c2 h.1))
      simp [g4,g3,hlt1,hilt,hlt8,hil8,hrow,Qd,Qx,w24_0,ma,hF,hw,hta,c1,c2]
      refine ⟨A1,?_,ag ?_,⟨i+1,.own (ls.length+1) 7,ls++[min 8 e.al.length]++[1],_,by simp,by omega,by rw [htk,List.map_append,List.map_singleton,hr];simp [Qd],by rw [htk];exact .inr ⟨_,rfl,by omega,by simp,by simp⟩,by simp;omega,by simp [Qx];rfl⟩,by omega⟩
      ·exact A2'
      ·repeat (first | exact Qb _ _ | refine Qc _ rfl ?_)
    ·by_cases c2:F<=100000000
     ·have hwF:=hwF c2
      by_cases c3:F+5000 < e.la
      ·have hr:=hsh e.fr (F+5000) (if_neg c1) (if_pos ⟨c2,c3⟩)
       simp [g4,g3,hlt1,hilt,hlt8,hil8,hrow,Qd,Qx,w24_0,ma,hF,hw,hta,c1,c2,hwF,c3]
       refine ⟨A1,?_,ag ?_,⟨i+1,.own (ls.length+1) 7,ls++[min 8 e.al.length]++[1],_,by simp,by omega,by rw [htk,List.map_append,List.map_singleton,hr];simp [Qd],by rw [htk];exact .inr ⟨_,rfl,by omega,by simp,by simp⟩,by simp;omega,by simp [Qx];rfl⟩,by omega⟩
       ·exact A2'
       ·repeat (first | exact Qb _ _ | refine Qc _ rfl ?_)
      ·have hr:=hsh e.fr e.la (if_neg c1) (if_neg (fun h=>c3 h.2))
       simp [g4,g3,hlt1,hilt,hlt8,hil8,hrow,Qd,Qx,w24_0,ma,hF,hw,hta,c1,c2,hwF,c3]
       refine ⟨A1,?_,ag ?_,⟨i+1,.own (ls.length+1) 7,ls++[min 8 e.al.length]++[1],_,by simp,by omega,by rw [htk,List.map_append,List.map_singleton,hr];simp [Qd],by rw [htk];exact .inr ⟨_,rfl,by omega,by simp,by simp⟩,by simp;omega,by simp [Qx];rfl⟩,by omega⟩
       ·exact A2'
       ·repeat (first | exact Qb _ _ | refine Qc _ rfl ?_)
     ·have hr:=hsh e.fr e.la (if_neg c1) (if_neg (fun h=>c2 h.1))
      simp [g4,g3,hlt1,hilt,hlt8,hil8,hrow,Qd,Qx,w24_0,ma,hF,hw,hta,c1,c2]
      refine ⟨A1,?_,ag ?_,⟨i+1,.own (ls.length+1) 7,ls++[min 8 e.al.length]++[1],_,by simp,by omega,by rw [htk,List.map_append,List.map_singleton,hr];simp [Qd],by rw [htk];exact .inr ⟨_,rfl,by omega,by simp,by simp⟩,by simp;omega,by simp [Qx];rfl⟩,by omega⟩
      ·exact A2'
      ·repeat (first | exact Qb _ _ | refine Qc _ rfl ?_)
   ·have hk2':(ls++[min 8 e.al.length])[k]? = some S.length:=by rw [List.getElem?_append_left (List.getElem?_eq_some_iff.1 hk2).1];exact hk2
    by_cases c1:2000 < e.fr
    ·by_cases c2:F<=100000000
     ·have hwF:=hwF c2
      by_cases c3:F+5000 < e.la
      ·have hr:=hsh (e.fr.tmod 2000) (F+5000) (if_pos c1) (if_pos ⟨c2,c3⟩)
       simp [g4,g3,hlt1,hilt,hlt8,hil8,hrow,Qd,Qx,w24_0,ma,hF,hw,hta,hk2',c1,c2,hwF,c3]
       refine ⟨A1,?_,⟨?_,by omega⟩,ag ?_,⟨i+1,.own k 7,(ls++[min 8 e.al.length]).set k (S.length+1),_,by simp,by omega,by rw [htk,List.map_append,List.map_singleton,hr];simp [Qd],by rw [htk];exact OutR.push hk1 hk2' _,by simp;omega,by simp [Qx];rfl⟩,by omega⟩
       ·exact A2'
       ·first | (rintro row (⟨a,_,rfl⟩ | rfl)<;>rfl) | (rintro row h;rcases h with ⟨a,_,rfl⟩ | rfl<;>rfl)
       ·repeat (first | exact Qb _ _ | refine Qc _ rfl ?_)
      ·have hr:=hsh (e.fr.tmod 2000) e.la (if_pos c1) (if_neg (fun h=>c3 h.2))
       simp [g4,g3,hlt1,hilt,hlt8,hil8,hrow,Qd,Qx,w24_0,ma,hF,hw,hta,hk2',c1,c2,hwF,c3]
       refine ⟨A1,?_,⟨?_,by omega⟩,ag ?_,⟨i+1,.own k 7,(ls++[min 8 e.al.length]).set k (S.length+1),_,by simp,by omega,by rw [htk,List.map_append,List.map_singleton,hr];simp [Qd],by rw [htk];exact OutR.push hk1 hk2' _,by simp;omega,by simp [Qx];rfl⟩,by omega⟩
       ·exact A2'
       ·first | (rintro row (⟨a,_,rfl⟩ | rfl)<;>rfl) | (rintro row h;rcases h with ⟨a,_,rfl⟩ | rfl<;>rfl)
       ·repeat (first | exact Qb _ _ | refine Qc _ rfl ?_)
     ·have hr:=hsh (e.fr.tmod 2000) e.la (if_pos c1) (if_neg (fun h=>c2 h.1))
      simp [g4,g3,hlt1,hilt,hlt8,hil8,hrow,Qd,Qx,w24_0,ma,hF,hw,hta,hk2',c1,c2]
      refine ⟨A1,?_,⟨?_,by omega⟩,ag ?_,⟨i+1,.own k 7,(ls++[min 8 e.al.length]).set k (S.length+1),_,by simp,by omega,by rw [htk,List.map_append,List.map_singleton,hr];simp [Qd],by rw [htk];exact OutR.push hk1 hk2' _,by simp;omega,by simp [Qx];rfl⟩,by omega⟩
      ·exact A2'
      ·first | (rintro row (⟨a,_,rfl⟩ | rfl)<;>rfl) | (rintro row h;rcases h with ⟨a,_,rfl⟩ | rfl<;>rfl)
      ·repeat (first | exact Qb _ _ | refine Qc _ rfl ?_)
    ·by_cases c2:F<=100000000
     ·have hwF:=hwF c2
      by_cases c3:F+5000 < e.la
      ·have hr:=hsh e.fr (F+5000) (if_neg c1) (if_pos ⟨c2,c3⟩)
       simp [g4,g3,hlt1,hilt,hlt8,hil8,hrow,Qd,Qx,w24_0,ma,hF,hw,hta,hk2',c1,c2,hwF,c3]
       refine ⟨A1,?_,⟨?_,by omega⟩,ag ?_,⟨i+1,.own k 7,(ls++[min 8 e.al.length]).set k (S.length+1),_,by simp,by omega,by rw [htk,List.map_append,List.map_singleton,hr];simp [Qd],by rw [htk];exact OutR.push hk1 hk2' _,by simp;omega,by simp [Qx];rfl⟩,by omega⟩
       ·exact A2'
       ·first | (rintro row (⟨a,_,rfl⟩ | rfl)<;>rfl) | (rintro row h;rcases h with ⟨a,_,rfl⟩ | rfl<;>rfl)
       ·repeat (first | exact Qb _ _ | refine Qc _ rfl ?_)
      ·have hr:=hsh e.fr e.la (if_neg c1) (if_neg (fun h=>c3 h.2))
       simp [g4,g3,hlt1,hilt,hlt8,hil8,hrow,Qd,Qx,w24_0,ma,hF,hw,hta,hk2',c1,c2,hwF,c3]
       refine ⟨A1,?_,⟨?_,by omega⟩,ag ?_,⟨i+1,.own k 7,(ls++[min 8 e.al.length]).set k (S.length+1),_,by simp,by omega,by rw [htk,List.map_append,List.map_singleton,hr];simp [Qd],by rw [htk];exact OutR.push hk1 hk2' _,by simp;omega,by simp [Qx];rfl⟩,by omega⟩
       ·exact A2'
       ·first | (rintro row (⟨a,_,rfl⟩ | rfl)<;>rfl) | (rintro row h;rcases h with ⟨a,_,rfl⟩ | rfl<;>rfl)
       ·repeat (first | exact Qb _ _ | refine Qc _ rfl ?_)
     ·have hr:=hsh e.fr e.la (if_neg c1) (if_neg (fun h=>c2 h.1))
      simp [g4,g3,hlt1,hilt,hlt8,hil8,hrow,Qd,Qx,w24_0,ma,hF,hw,hta,hk2',c1,c2]
      refine ⟨A1,?_,⟨?_,by omega⟩,ag ?_,⟨i+1,.own k 7,(ls++[min 8 e.al.length]).set k (S.length+1),_,by simp,by omega,by rw [htk,List.map_append,List.map_singleton,hr];simp [Qd],by rw [htk];exact OutR.push hk1 hk2' _,by simp;omega,by simp [Qx];rfl⟩,by omega⟩
      ·exact A2'
      ·first | (rintro row (⟨a,_,rfl⟩ | rfl)<;>rfl) | (rintro row h;rcases h with ⟨a,_,rfl⟩ | rfl<;>rfl)
      ·repeat (first | exact Qb _ _ | refine Qc _ rfl ?_)
  ·have hin:¬ ((i:Int) < (p.ens.length:Int)/\(i:Int) < 8):=by omega
   have htl:(shL p).take i=shL p:=List.take_of_length_le hge
   rw [htl] at g3 hO
   have hsh:(shL p).length<=8:=by omega
   have f1:(p.sh.map Qe).take (min 5 p.sh.length)=(p.sh.take 5).map Qe:=by rw [<- List.map_take,Uw]
   have f2:(p.its.map Qf).take (min 12 p.its.length)=(p.its.take 12).map Qf:=by rw [<- List.map_take,Uw]
   have f3:(p.bks.map Qt).take (min 5 p.bks.length)=(p.bks.take 5).map Qt:=by rw [<- List.map_take,Uw]
   have f4:(p.cls.map Qi).take (min 15 p.cls.length)=(p.cls.take 15).map Qi:=by rw [<- List.map_take,Uw]
   by_cases c:i < p.ens.length
   ·have c8:¬ i < 8:=by omega
    have c':(i:Int) < (p.ens.length:Int):=by omega
    have c8':¬ (i:Int) < 8:=by omega
    rcases hO with ⟨h1,rfl⟩ | ⟨k,rfl,_,_,hne⟩
    ·exfalso
     have:min 8 p.ens.length=0:=by rw [<- hL,h1];rfl
     omega
    ·simp [g4,g3,c,c',c8,c8',w24_0,rs24,Qx,zeroP,plRow8,f1,f2,f3,f4,hne]
   ·have c':¬ (i:Int) < (p.ens.length:Int):=by omega
    rcases hO with ⟨h1,rfl⟩ | ⟨k,rfl,_,_,hne⟩
    ·rw [h1] at g3
     simp [g4,g3,c,c',w24_0,rs24,Qx,zeroP,plRow8,f1,f2,f3,f4,h1]
    ·simp [g4,g3,c,c',w24_0,rs24,Qx,zeroP,plRow8,f1,f2,f3,f4,hne]
theorem short24 (p:Pl) (h:Pl64 p):Pure Tryz.prog gl0 24 [.agg (Qa p)] (.agg (Qa (shP p))):=by
 refine Vg (short24a p h) (wk_agg ⟨Wk.refl _,Wk.refl _,Wk.refl _,Wk.refl _,Wk.refl _,Wk.refl _,Wk.refl _,Wk.refl _,Wk.refl _,Wk.refl _,?_,Wk.refl _,Wk.refl _,trivial⟩)
 split
 ·rename_i h;show Wk _ (.sl .ro ((shL p).map Qd));rw [h];exact Wk.sl _ _
 ·exact Wk.refl _
end Go.Proofs.YtkcnjajklnoahaaGreatDoor
