import Derived.Test.YtjmgelbfndnpjaaGreatDoorPPMO
set_option linter.unusedVariables false
set_option linter.unusedSimpArgs false
set_option maxRecDepth 100000
set_option maxHeartbeats 64000000
namespace Go.Proofs.YtjmgelbfndnpjaaGreatDoor
open Go Go.Abs
structure It where
 id:Int
 ki:Int
 fr:Int
 sp:Int
 ra:Int
structure Cl where
 ki:Int
 it:Int
 fr:Int
 to:Int
 re:Int
 n:Int
 a:Int
 b:Int
structure En where
 id:Int
 it:Int
 fr:Int
 ea:Int
 la:Int
 bo:Int
 al:List Sp
structure Bk where
 id:Int
 it:Int
 re:Int
 fr:Int
 to:Int
 un:Int
 pr:Int
structure Pl where
 ch:Int
 nu:Int
 de:Int
 of:Int
 sh:List Sp
 ep:Int
 rg:Int
 ln:Int
 fi:Int
 its:List It
 ens:List En
 bks:List Bk
 cls:List Cl
def Qg (x:It):List AV:=[I x.id,I x.ki,I x.fr,I x.sp,I x.ra]
def Qq (x:Cl):List AV:=[I x.ki,I x.it,I x.fr,I x.to,I x.re,I x.n,I x.a,I x.b]
def Qi (x:En):List AV:=[I x.id,I x.it,I x.fr,I x.ea,I x.la,I x.bo,.sl .ro (x.al.map Qd)]
def Xm (x:Bk):List AV:=[I x.id,I x.it,I x.re,I x.fr,I x.to,I x.un,I x.pr]
def Qc (p:Pl):List AV:=[I p.ch,I p.nu,I p.de,I p.of,.sl .ro (p.sh.map Qd),I p.ep,I p.rg,I p.ln,I p.fi,.sl .ro (p.its.map Qg),.sl .ro (p.ens.map Qi),.sl .ro (p.bks.map Xm),.sl .ro (p.cls.map Qq)]
theorem covers_pure (l:List Sp) (s:Sp) (hl:l.length<=10000000):Pure Tryz.prog gl0 32 [.sl .ro (l.map Qd),.agg [I s.1,I s.2]] (.bool (subS [s] l).isEmpty):=by
 have h:=subtract_pure [s] l (by simp) hl
 have h':=Yh (l:=[.sl .full [[I s.1,I s.2]],.sl .ro (l.map Qd)]) h ⟨Wk.sl _ _,Wk.refl _,trivial⟩
 generalize subS [s] l=R at h'
 refine Qn code32 (fun _ f _=>if f=78 then .sl .ro (R.map Qd) else .junk) (by simp) ?_
 cases R with
 | nil=>simp [sc32,rs32];exact h'
 | cons a r =>
  have:¬ (r.length:Int)+1=0:=by omega
  simp [sc32,rs32,this];exact h'
def Xe (id:Int):List It->Option It
 | []=>none
 | x::r=>if x.id=id then some x else Xe id r
theorem fndI_mem {id:Int} {x:It}:∀ {l:List It},Xe id l=some x->x∈l/\x.id=id
 | [],h=>by cases h
 | y::r,h=>by
  simp only [Xe] at h
  split at h
  ·rename_i hy;cases h;exact ⟨by simp,hy⟩
  ·obtain ⟨h1,h2⟩:=fndI_mem h;exact ⟨by simp [h1],h2⟩
def Zo:Option It->AV
 | some x=>.tup [.agg (Qg x),.bool true]
 | none=>.tup [.agg [I 0,I 0,I 0,I 0,I 0],.bool false]
theorem Us (p:Pl) (id:Int) (hl:p.its.length<=1000000000):Pure Tryz.prog gl0 79 [.agg (Qc p),I id] (Zo (Xe id p.its)):=by
 refine Qn code79 (fun _ _ _=>.junk) (by simp) ?_
 simp [sc79,Qc]
 refine Ql w79_0 (fun f m=>∃ (i:Nat) (bx:List (List AV)),f 11=I i/\i<=p.its.length/\Xe id (p.its.drop i)=Xe id p.its/\m=⟨Qc p::[I 0,I 0,I 0,I 0,I 0]::bx,[],fun _=>.gone,0⟩) (fun f _=>p.its.length - (numOf (f 11)).toNat) ?_ ?_
 ·exact ⟨0,[],by simp,by omega,rfl,rfl⟩
 ·rintro f m ⟨i,bx,h11,hi,hf,rfl⟩
  rcases Nat.lt_or_ge i p.its.length with hlt | hge
  ·obtain ⟨x,hx⟩:=getS hlt
   have hrow:Qf (p.its.map Qg) i=Qg x:=Qv (by simp [hx])
   have hilt:(i:Int) < (p.its.length:Int):=by omega
   have hw:=wrS i (by omega)
   have hd:p.its.drop i=x::p.its.drop (i+1):=by rw [List.drop_eq_getElem_cons hlt,(List.getElem?_eq_some_iff.1 hx).2]
   rw [hd,Xe] at hf
   by_cases hid:x.id=id
   ·rw [if_pos hid] at hf
    simp [h11,hlt,hilt,hrow,Qg,hid,w79_0,rs79,<- hf,Zo]
   ·rw [if_neg hid] at hf
    simp [h11,hlt,hilt,hrow,Qg,hid,w79_0,hw]
    refine ⟨ag ?_,⟨i+1,by simp,by omega,hf⟩,by omega⟩
    repeat (first | exact Qa _ _ | refine Qb _ rfl ?_)
  ·rw [List.drop_eq_nil_of_le hge] at hf
   have hin:¬ (i:Int) < (p.its.length:Int):=by omega
   simp [h11,Nat.not_lt.2 hge,hin,w79_0,rs79,<- hf,Zo,Xe]
def rtsL:List (Int×Int×Int×Int):=[(24000,1001,24,0),(24,1,24,0),(25,1,25,0),(30000,1001,30,2),(30,1,30,0),(50,1,50,0),(60000,1001,60,4),(60,1,60,0)]
def fndR (nu de:Int):List (Int×Int×Int×Int)->Option (Int×Int×Int×Int)
 | []=>none
 | x::r=>if x.1=nu/\x.2.1=de then some x else fndR nu de r
def Zh (nu de:Int):Bool:=(fndR nu de rtsL).isSome
def rtAV:Option (Int×Int×Int×Int)->AV
 | some x=>.tup [.agg [I x.1,I x.2.1,I x.2.2.1,I x.2.2.2],.bool true]
 | none=>.tup [.agg [I 0,I 0,I 0,I 0],.bool false]
theorem tblR_drop:∀ i:Nat,i < 8->∃ x,rtsL[i]? = some x/\(tblR.drop (i*4)).take 4=[I x.1,I x.2.1,I x.2.2.1,I x.2.2.2]/\rtsL.drop i=x::rtsL.drop (i+1)
 | 0,_=>⟨_,rfl,rfl,rfl⟩
 | 1,_=>⟨_,rfl,rfl,rfl⟩
 | 2,_=>⟨_,rfl,rfl,rfl⟩
 | 3,_=>⟨_,rfl,rfl,rfl⟩
 | 4,_=>⟨_,rfl,rfl,rfl⟩
 | 5,_=>⟨_,rfl,rfl,rfl⟩
 | 6,_=>⟨_,rfl,rfl,rfl⟩
 | 7,_=>⟨_,rfl,rfl,rfl⟩
 | n+8,h=>by omega
theorem Yu {nu de:Int} (h:Zh nu de=true):24<=nu/\nu<=60000/\1<=de/\de<=1001/\de < nu:=by
 simp only [Zh,rtsL,fndR] at h
 repeat' split at h
 all_goals first | (cases h;done) | omega
theorem tblR_len:tblR.length=32:=rfl
theorem rate_pure (nu de:Int):Pure Tryz.prog gl0 92 [.agg [I nu,I de]] (rtAV (fndR nu de rtsL)):=by
 refine Qn code92 (fun _ _ _=>.junk) (by simp) ?_
 have hg:gl0 0=.ep tblR 0:=rfl
 have htl:=tblR_len
 have htk:tblR.take 32=tblR:=rfl
 simp [sc92,hg,htl,htk]
 refine Ql w92_0 (fun f m=>∃ (i:Nat) (bx:List (List AV)),f 7=I i/\i<=8/\fndR nu de (rtsL.drop i)=fndR nu de rtsL/\m=⟨[I nu,I de]::[I 0,I 0,I 0,I 0]::bx,[],fun _=>.gone,0⟩) (fun f _=>8 - (numOf (f 7)).toNat) ?_ ?_
 ·exact ⟨0,[],by simp,by omega,rfl,rfl⟩
 ·rintro f m ⟨i,bx,h7,hi,hf,rfl⟩
  by_cases h8:i=8
  ·subst h8
   have:fndR nu de (rtsL.drop 8)=none:=rfl
   rw [this] at hf
   simp [h7,w92_0,rs92,<- hf,rtAV]
  ·have hlt:i < 8:=by omega
   obtain ⟨x,hx,hrow,hd⟩:=tblR_drop i hlt
   have hilt:(i:Int) < 8:=by omega
   have hw:=wrS i (by omega)
   have hmin:min 4 (32 - i*4)=4:=by omega
   rw [hd,fndR] at hf
   by_cases hc:x.1=nu/\x.2.1=de
   ·rw [if_pos hc] at hf
    simp [h7,hlt,hilt,htl,hrow,hmin,hc.1,hc.2,w92_0,rs92,<- hf,rtAV]
   ·rw [if_neg hc] at hf
    by_cases hc1:x.1=nu
    ·have hc2:¬ x.2.1=de:=fun h=>hc ⟨hc1,h⟩
     simp [h7,hlt,hilt,htl,hrow,hmin,hc1,hc2,w92_0,hw]
     refine ⟨ag ?_,⟨i+1,by simp,by omega,hf⟩,by omega⟩
     repeat (first | exact Qa _ _ | refine Qb _ rfl ?_)
    ·simp [h7,hlt,hilt,htl,hrow,hmin,hc1,w92_0,hw]
     refine ⟨ag ?_,⟨i+1,by simp,by omega,hf⟩,by omega⟩
     repeat (first | exact Qa _ _ | refine Qb _ rfl ?_)
theorem Jd (nu de:Int):Pure Tryz.prog gl0 39 [.agg [I nu,I de]] (.bool (Zh nu de)):=by
 have h:=rate_pure nu de
 unfold Zh
 refine Qn code39 (fun _ _ _=>rtAV (fndR nu de rtsL)) (by simp) ?_
 cases hf:fndR nu de rtsL with
 | none=>rw [hf] at h;simp only [rtAV] at h;simp [sc39,rs39,rtAV];exact h
 | some x=>rw [hf] at h;simp only [rtAV] at h;simp [sc39,rs39,rtAV];exact h
theorem tframe_pure (f:Int):Pure Tryz.prog gl0 145 [I f] (.bool (decide (0<=f/\f<=100000000))):=by
 refine Qn code145 (fun _ _ _=>.junk) (by simp) ?_
 by_cases h1:0<=f<;>by_cases h2:f<=100000000<;>simp [sc145,rs145,h1,h2]
theorem pframe_pure (f:Int):Pure Tryz.prog gl0 31 [I f] (.bool (decide (0<=f/\f<=100000000))):=by
 refine Qn code31 (fun _ _ _=>.junk) (by simp) ?_
 by_cases h1:0<=f<;>by_cases h2:f<=100000000<;>simp [sc31,rs31,h1,h2]
def Vu (nu de f:Int):Int:=if Zh nu de=true/\0<=f/\f<=100000000 then (f*de).tdiv nu else -1
def Kv (nu de s:Int):Int:=if Zh nu de=true/\0<=s/\s<=10000000000 then (s*nu+de - 1).tdiv de else -1
theorem prod_bd {x y a b:Int} (h1:0<=x/\x<=a) (h2:0<=y/\y<=b):0<=x*y/\x*y<=a*b :=
 ⟨Int.mul_nonneg h1.1 h2.1,Int.mul_le_mul h1.2 h2.2 h2.1 (Int.le_trans h1.1 h1.2)⟩
theorem tdiv_bd {x y:Int} (h:0<=x) (hy:1<=y):0<=x.tdiv y/\x.tdiv y<=x:=by
 rw [Int.tdiv_eq_ediv_of_nonneg h]
 exact ⟨Int.ediv_nonneg h (by omega),Int.ediv_le_self _ h⟩
theorem secs_pure (nu de f:Int):Pure Tryz.prog gl0 118 [.agg [I nu,I de],I f] (I (Vu nu de f)):=by
 have h1:=Jd nu de
 have h2:=tframe_pure f
 refine Qn code118 (fun _ g _=>if g=39 then .bool (Zh nu de) else .bool (decide (0<=f/\f<=100000000))) (by simp) ?_
 cases hv:Zh nu de with
 | false=>rw [hv] at h1;simp [sc118,rs118,hv,Vu];exact h1
 | true =>
  rw [hv] at h1
  by_cases hf:0<=f/\f<=100000000
  ·obtain ⟨b1,b2,b3,b4,_⟩:=Yu hv
   obtain ⟨p1,p2⟩:=prod_bd (x:=f) (y:=de) (a:=100000000) (b:=1001) ⟨hf.1,hf.2⟩ ⟨by omega,by omega⟩
   have w1:IntKind.i64.wrap (f*de)=f*de:=by rw [Qe]<;>omega
   obtain ⟨d1,d2⟩:=tdiv_bd (x:=f*de) (y:=nu) p1 (by omega)
   have w2:IntKind.i64.wrap ((f*de).tdiv nu)=(f*de).tdiv nu:=by rw [Qe]<;>omega
   have hnz:¬ nu=0:=by omega
   simp [hf] at h2
   simp [sc118,rs118,hv,Vu,hf,w1,w2,hnz]
   exact ⟨h1,h2⟩
  ·simp only [hf,decide_false] at h2
   simp [sc118,rs118,hv,Vu,hf]
   exact ⟨h1,h2⟩
theorem up_pure (a b:Int) (ha:0<=a/\a<=1000000000000000) (hb:1<=b/\b<=1001):Pure Tryz.prog gl0 124 [I a,I b] (I ((a+b - 1).tdiv b)):=by
 refine Qn code124 (fun _ _ _=>.junk) (by simp) ?_
 have w1:IntKind.i64.wrap (a+b)=a+b:=by rw [Qe]<;>omega
 have w2:IntKind.i64.wrap (a+b - 1)=a+b - 1:=by rw [Qe]<;>omega
 obtain ⟨d1,d2⟩:=tdiv_bd (x:=a+b - 1) (y:=b) (by omega) (by omega)
 have w3:IntKind.i64.wrap ((a+b - 1).tdiv b)=(a+b - 1).tdiv b:=by rw [Qe]<;>omega
 have hnz:¬ b=0:=by omega
 simp [sc124,rs124,w1,w2,w3,hnz]
theorem frms_pure (nu de s:Int):Pure Tryz.prog gl0 85 [.agg [I nu,I de],I s] (I (Kv nu de s)):=by
 have h1:=Jd nu de
 refine Qn code85 (fun _ g _=>if g=39 then .bool (Zh nu de) else I (Kv nu de s)) (by simp) ?_
 cases hv:Zh nu de with
 | false=>rw [hv] at h1;simp [sc85,rs85,hv,Kv];exact h1
 | true =>
  rw [hv] at h1
  by_cases hs0:s < 0
  ·have:¬ (0<=s/\s<=10000000000):=by omega
   simp [sc85,rs85,hv,Kv,hs0,this];exact h1
  ·by_cases hs1:10000000000 < s
   ·have:¬ (0<=s/\s<=10000000000):=by omega
    simp [sc85,rs85,hv,Kv,hs0,hs1,this];exact h1
   ·have hs:0<=s/\s<=10000000000:=by omega
    obtain ⟨b1,b2,b3,b4,_⟩:=Yu hv
    obtain ⟨p1,p2⟩:=prod_bd (x:=s) (y:=nu) (a:=10000000000) (b:=60000) ⟨hs.1,hs.2⟩ ⟨by omega,by omega⟩
    have w1:IntKind.i64.wrap (s*nu)=s*nu:=by rw [Qe]<;>omega
    have h2:=up_pure (s*nu) de ⟨p1,by omega⟩ ⟨by omega,by omega⟩
    simp [sc85,rs85,hv,Kv,hs0,hs1,hs,w1]
    exact ⟨h1,h2⟩
def isOff (n:Int):Bool:=decide (-50400<=n/\n<=50400)
theorem isOff_pure (n:Int):Pure Tryz.prog gl0 93 [I n] (.bool (isOff n)):=by
 refine Qn code93 (fun _ _ _=>.junk) (by simp) ?_
 by_cases h1 : -50400<=n<;>by_cases h2:n<=50400<;>simp [sc93,rs93,isOff,h1,h2]
def ascZ:Int->List Sp->Bool
 | _,[]=>true
 | last,s::r=>if s.1<=last\/10000000000 < s.1\/isOff s.2=false then false else ascZ s.1 r
def Vf (of:Int) (sh:List Sp):Bool:=decide (sh.length<=40)&&isOff of&&ascZ (-1) sh
theorem zvalid_pure (of:Int) (sh:List Sp) (hl:sh.length<=8796093022208):Pure Tryz.prog gl0 40 [.agg [I of,.sl .ro (sh.map Qd)]] (.bool (Vf of sh)):=by
 have h1:=isOff_pure of
 refine Qn code40 (fun d f a=>match a with | [.int _ n]=>.bool (isOff n) | _=>.junk) (by simp) ?_
 by_cases h40:40 < sh.length
 ·have h40':(40:Int) < (sh.length:Int):=by omega
  have:Vf of sh=false:=by simp [Vf];intro h;omega
  simp [sc40,rs40,h40,h40',this]
 ·have h40':¬ (40:Int) < (sh.length:Int):=by omega
  cases ho:isOff of with
  | false =>
   have:Vf of sh=false:=by simp [Vf,ho]
   rw [ho] at h1
   simp [sc40,rs40,h40,h40',this,ho];exact h1
  | true =>
   have hv:Vf of sh=ascZ (-1) sh:=by simp [Vf,ho];intro _;omega
   rw [ho] at h1
   simp [sc40,h40,h40',ho]
   refine ⟨h1,?_⟩
   refine Ql w40_0 (fun f m=>∃ (i:Nat) (last:Int) (bx:List (List AV)),f 19=I i/\f 3=I last/\i<=sh.length/\ascZ last (sh.drop i)=ascZ (-1) sh/\m=⟨[I of,.sl .ro (sh.map Qd)]::bx,[],fun _=>.gone,0⟩) (fun f _=>sh.length - (numOf (f 19)).toNat) ?_ ?_
   ·exact ⟨0,-1,[],by simp,by simp,by omega,rfl,rfl⟩
   ·rintro f m ⟨i,last,bx,h19,h3,hi,ha,rfl⟩
    rcases Nat.lt_or_ge i sh.length with hlt | hge
    ·obtain ⟨s,hs⟩:=getS hlt
     have hrow:=Zm hs
     have hilt:(i:Int) < (sh.length:Int):=by omega
     have hw:=wrS i (by omega)
     have hd:sh.drop i=s::sh.drop (i+1):=by rw [List.drop_eq_getElem_cons hlt,(List.getElem?_eq_some_iff.1 hs).2]
     rw [hd,ascZ] at ha
     have hp:=isOff_pure s.2
     by_cases c1:s.1<=last
     ·rw [if_pos (.inl c1)] at ha
      simp [h19,h3,hlt,hilt,hrow,c1,w40_0,rs40,hv,<- ha]
     ·by_cases c2:10000000000 < s.1
      ·rw [if_pos (.inr (.inl c2))] at ha
       simp [h19,h3,hlt,hilt,hrow,c1,c2,w40_0,rs40,hv,<- ha]
      ·cases c3:isOff s.2 with
       | false =>
        rw [if_pos (.inr (.inr c3))] at ha
        rw [c3] at hp
        simp [h19,h3,hlt,hilt,hrow,c1,c2,c3,w40_0,rs40,hv,<- ha]
        exact hp
       | true =>
        rw [if_neg (by rintro (h | h | h);exact c1 h;exact c2 h;rw [c3] at h;cases h)] at ha
        rw [c3] at hp
        simp [h19,h3,hlt,hilt,hrow,c1,c2,c3,w40_0,hw]
        refine ⟨hp,ag ?_,⟨i+1,by simp,by omega,ha⟩,by omega⟩
        repeat (first | exact Qa _ _ | refine Qb _ rfl ?_)
    ·rw [List.drop_eq_nil_of_le hge,ascZ] at ha
     have hin:¬ (i:Int) < (sh.length:Int):=by omega
     simp [h19,Nat.not_lt.2 hge,hin,w40_0,rs40,hv,<- ha]
def Jk (p:Pl):Bool:=Zh p.nu p.de&&Vf p.of p.sh&&decide (0<=p.ep/\p.ep<=9000000000)
theorem timed_pure (p:Pl) (hl:p.sh.length<=1000000000):Pure Tryz.prog gl0 80 [.agg (Qc p)] (.bool (Jk p)):=by
 have h1:=Jd p.nu p.de
 have h2:=zvalid_pure p.of p.sh (by omega)
 refine Qn code80 (fun _ g _=>if g=39 then .bool (Zh p.nu p.de) else .bool (Vf p.of p.sh)) (by simp) ?_
 cases hv:Zh p.nu p.de with
 | false=>rw [hv] at h1;simp [sc80,rs80,Qc,Jk,hv];exact h1
 | true =>
  rw [hv] at h1
  cases hz:Vf p.of p.sh with
  | false=>rw [hz] at h2;simp [sc80,rs80,Qc,Jk,hv,hz];exact ⟨h1,h2⟩
  | true =>
   rw [hz] at h2
   by_cases c1:0<=p.ep<;>by_cases c2:p.ep<=9000000000<;>simp [sc80,rs80,Qc,Jk,hv,hz,c1,c2]<;>exact ⟨h1,h2⟩
end Go.Proofs.YtjmgelbfndnpjaaGreatDoor
