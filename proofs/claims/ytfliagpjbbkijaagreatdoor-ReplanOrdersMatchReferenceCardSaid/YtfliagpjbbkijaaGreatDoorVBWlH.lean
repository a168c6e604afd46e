import Derived.Test.YtfliagpjbbkijaaGreatDoorVBMcL
import Derived.Test.YtfliagpjbbkijaaGreatDoorCards
import Derived.Deep.DeepHandedRow
import Derived.Lib.LaidTab
import Derived.MakeChecks
import Derived.Stop.LaidTwo
import Derived.Test.YtfliagpjbbkijaaGreatDoorVBWlF
set_option linter.all false
set_option maxRecDepth 100000
set_option maxHeartbeats 64000000
namespace Go.Abs
open Go Go.RowKit
end Go.Abs
namespace Go.Proofs.YtfliagpjbbkijaaGreatDoor
noncomputable section
open Go Go.Abs
def azt(o:Int×Int):P1:=[I o.1,I 0,I o.2,I 0,I 0,I 0,I 0,I 0,I 0,I 0,I 0,I 0,.sl .nil [],I 0,I 0,I 0,I 0,I 0,I 0,I 0,I 0,I 0,I 0,I 0,I 0,.str ⟨#[]⟩]
structure Md where
 pl:List (Int×Int)
 ps:List (List Pg)
 os:List (Int×Int)
def azu(S1:List Rt)(ps:List (List Pg)):P1:=List.zipWith (fun rt l=>AV.sl rt (l.map Qo)) S1 ps
structure MdB (bx:X2) (md:Nat) (M:Md) (pid cK:Nat) (S1:List Rt) (rto:Rt) (z:P1):Prop where
 hmd:md<bx.length
 row:Qf bx md=[.mp pid,.bs cK 0 M.ps.length 1,.sl rto (M.os.map azt)]
 hpid:pid<bx.length
 map:Qf bx pid=[.aM 0 (bI (AV.int .i64) M.pl)]
 hbid:cK<bx.length
 hps:Qf bx cK=azu S1 M.ps++z
 hrts:S1.length=M.ps.length
 ne:M.ps≠[]
 iy:∀c i,af c M.pl=some i->0<=i/\i<M.ps.length
 len:M.ps.length<=40
 los:M.os.length<=1000
 hrto:DA rto .ro\/(rto=.nil/\M.os=[])
end
end Go.Proofs.YtfliagpjbbkijaaGreatDoor
namespace Go.Proofs.YtfliagpjbbkijaaGreatDoor
noncomputable section
open Go Go.Abs
structure azv (p:Pl):Prop where
 pl:Ec p
 ln:p.ln<=1000000
 ea:∀e∈p.ens,e.ea<=9223372036854775807
 l:∀l,RS p=some l->l.length<=1000000/\∀s∈l,-1000000000<=s.2/\s.2<=1000000000
def an8(p:Pl):AV:=.aS [.agg (Qo (zJ p)),.sl .ro ((DF p).map Qy),I (zK p)]
def Sv(p:Pl)(h:azv p):Pure Tryz.prog aD 16 [.agg (Qc p)] (an8 p):=LJ p h.pl h.ln h.ea h.l
def nrm(g:Pg):Pg:={g with ev:=g.ev.map nl0}
def BQ(g:Pg):Qo (nrm g)=Qo g:=by
 unfold Qo nrm;simp only[Bw]
def azT(ls:P2)(S1:List Rt)(ps:List (List Pg)):Prop:=
 (∀(i:Nat)(rt:Rt)(l:List Pg),S1[i]?=some rt->ps[i]?=some l->rt=.full\/∃k,rt=.own k 18/\ls[k]?=some l.length)/\∀(i j k:Nat),S1[i]?=some (.own k 18)->S1[j]?=some (.own k 18)->i=j
def azU(ls:P2)(S1:List Rt)(rto:Rt)(n:Nat):Prop:=(rto=.nil/\n=0)\/∃k,rto=.own k 26/\ls[k]?=some n/\∀i:Nat,S1[i]?≠some (.own k 18)
def aAe(ls:P2)(S1:List Rt)(rto:Rt)(k n:Nat):Prop:=ls[k]?=some n/\(∀i:Nat,S1[i]?≠some (.own k 18))/\rto≠.own k 26
def wu6(n:Int)(h:0<=n)(h':n<=9223372036854775807):IntKind.u64.wrap n=n:=by
 simp[IntKind.wrap,IntKind.bits,IntKind.signed];omega
def Sw(e:ck)(f:Int)(h:Yl e)(hf:f<=9223372036854775807):Pure Tryz.prog aD 58 [.agg (Qg e),.ep [I f] 0] (.bool (Bp f e)):=by
 refine Qm akJ (fun _ _ _=>.junk) zd ?_;obtain⟨⟨a1,a2⟩,⟨a3,a4⟩,_⟩:=h;by_cases h1:e.st<=f
 ·have w1:=wu6 e.st zE zE;have w2:=wu6 f zE zE;have w3:=wu6 (f-e.st) zE zE;have w4:=wu6 e.fr zE zE;by_cases h2:0<e.fr
  ·have:(f-e.st<e.fr)=(f<e.st+e.fr):=by apply propext;omega
   simp[abU,abV,Qg,h1,h2,Bp,w1,w2,w3,w4,this]
  have:¬f<e.st+e.fr:=zE
  simp[abU,abV,Qg,h1,h2,Bp,this]
 simp[abU,abV,Qg,h1,Bp]
def Ie(L:List ck)(f:Int)(hL:L.length<=1000000000)(hs:∀e∈L,Yl e)(hf:f<=9223372036854775807):Pure Tryz.prog aD 59 [.sl .ro (L.map Qg),.fn 58 [] [.ep [I f] 0]] (I (ig f L 0)):=by
 refine Qm Tc (LK f) zd ?_;simp[akK,abW];refine Qk se (fun s m=>∃i:Nat,s 8=I i/\i<=L.length/\ig f (L.drop i) i=ig f L 0/\m=⟨[],[],fun _=>.gone,0⟩) (fun s m=>L.length-(numOf (s 8)).toNat) ?_ ?_
 ·exact⟨0,zd,zE,zd,rfl⟩
 rintro s m ⟨i,hi,cw,hr,rfl⟩;rcases zzab i L.length with ah|bu
 ·obtain⟨a,ha⟩:∃a,L[i]?=some a:=⟨L[i],zzac ah⟩;have ai:Qf (L.map Qg) i=Qg a:=Qv (by simp[ha]);have hw:=bO i zE;rw[Zb ha]at hr;have hp:Pure Tryz.prog aD 58 [.agg (Qg a),.ep [I f] 0] (.bool (Bp f a)):=Sw a f (hs a (zzad ha)) hf;have ho:decide (a.st<=f/\f<a.st+a.fr)=Bp f a:=rfl;by_cases h:Bp f a=true
  ·simp[ig,h]at hr;rw[h]at hp ho;simp at ho;simp[hi,ai,ah,Qg,LK,se,ho];exact⟨hp,hr⟩
  simp at h;simp[ig,h]at hr;rw[h]at hp ho
  have dg:decide (a.st<=f)=false\/decide (f<a.st+a.fr)=false:=by
   by_cases q:a.st<=f
   ·right;simp at ho |-;omega
   left;simp[q]
  simp only[decide_eq_false_iff_not]at ho;simp[hi,ai,ah,Qg,LK,se,ho,hw];refine⟨hp,aP,⟨i+1,zd,zE,hr⟩,zE⟩
 rw[zzaj bu]at hr;simp[hi,zzbj.2 bu,se];exact hr
def Ig(L:List ck)(f:Int)(hL:L.length<=1000000000)(hs:∀e∈L,Yl e)(hf:f<=9223372036854775807):Pure Tryz.prog aD 19 [.sl .ro (L.map Qg),I f] (ya f (DG f L)):=by
 have Lu:=Ie L f hL hs hf;refine Qm aj6 (fun _ g l=>if g=59 then I (ig f L 0)else l.headD .junk) zd ?_;cases hfn:DG f L with
 |none=>
  rw[xY hfn]at Lu |-
  simp[aj4,aj5,ya,ajB];exact Lu
 |some a=>
  obtain⟨k,h1,h2,h3⟩:=xZ (i:=0) hfn;rw[h1]at Lu |-
  have ah:k<L.length:=(zza.1 h2).1;have ai:Qf (L.map Qg) k=Qg a:=Qv (by simp[h2]);obtain⟨⟨a1,a2⟩,⟨a3,a4⟩,⟨a7,a8⟩,a9⟩:=hs a (zzad h2);have hon:a.st<=f/\f<a.st+a.fr:=by simpa[Bp]using h3
  have w1:IntKind.i64.wrap (a.i+f)=a.i+f:=by rw[Qh]<;>omega
  have w2:IntKind.i64.wrap (a.i+f-a.st)=a.i+f-a.st:=by rw[Qh]<;>omega
  rw[zzbn]at Lu;have D7:=Qcd a.al a9;simp[aj4,aj5,ya,ah,ai,Qg];refine⟨Lu,D7,Jc [(.junk,⟨[[I f],[I a.id,I a.it,I a.st,I a.fr,I a.i,I a.re,.sl .ro (a.al.map Qe)],[I a.id,I a.it,I a.st,I a.fr,I a.i,I a.re,.sl .ro (a.al.map Qe)]],[],fun _=>.gone,0⟩)] ?_⟩;simp[w1,w2]
def yG(n:Nat)(f:Nat->AV)(m:AM):Prop:=∃i:Nat,f 13=I i/\i<=n/\m=⟨[],[],fun _=>.gone,0⟩
def azw(l:Pi)(hl:l.length<=8796093022208):Pure Tryz.prog aD 61 [.sl .ro (l.map Qy),.sl .ro (l.map Qy)] (.bool true):=by
 refine Qm akL (fun _ _ _=>.junk) zd ?_;simp[apx];refine Qk Td (yG l.length) (fun f _=>l.length-(numOf (f 13)).toNat) ?_ ?_
 ·exact⟨0,zd,zE,rfl⟩
 rintro f m ⟨i,fH,hi,rfl⟩;rcases zzab i l.length with ah|bu
 ·obtain⟨a,ha⟩:=aX ah;have ai:Qf (l.map Qy) i=Qy a:=Qv (by simp[ha]);have aa:(i:Int)<(l.length:Int):=zE
  have hw:=bO i zE;simp[fH,Td,ah,aa,ai,Qy,hw];refine⟨aP,⟨i+1,zd,zE,rfl⟩,zE⟩
 obtain rfl:i=l.length:=zE
 simp[fH,Td,apy]
def azx(l:List Cue)(hl:l.length<=8796093022208):Pure Tryz.prog aD 62 [.sl .ro (l.map Qp),.sl .ro (l.map Qp)] (.bool true):=by
 refine Qm akM (fun _ _ _=>.junk) zd ?_;simp[apz];refine Qk Te (yG l.length) (fun f _=>l.length-(numOf (f 13)).toNat) ?_ ?_
 ·exact⟨0,zd,zE,rfl⟩
 rintro f m ⟨i,fH,hi,rfl⟩;rcases zzab i l.length with ah|bu
 ·obtain⟨a,ha⟩:=aX ah;have ai:Qf (l.map Qp) i=Qp a:=Qv (by simp[ha]);have aa:(i:Int)<(l.length:Int):=zE
  have hw:=bO i zE;simp[fH,Te,ah,aa,ai,Qp,hw];refine⟨aP,⟨i+1,zd,zE,rfl⟩,zE⟩
 obtain rfl:i=l.length:=zE
 simp[fH,Te,apA]
def au4(l:List Sp)(hl:l.length<=8796093022208):Pure Tryz.prog aD 117 [.sl .ro (l.map Qe),.sl .ro (l.map Qe)] (.bool true):=by
 refine Qm acd (fun _ _ _=>.junk) zd ?_;simp[agZ];refine Qk I6 (yG l.length) (fun f _=>l.length-(numOf (f 13)).toNat) ?_ ?_
 ·exact⟨0,zd,zE,rfl⟩
 rintro f m ⟨i,fH,hi,rfl⟩;rcases zzab i l.length with ah|bu
 ·obtain⟨a,ha⟩:=aX ah;have ai:Qf (l.map Qe) i=Qe a:=Qv (by simp[ha]);have aa:(i:Int)<(l.length:Int):=zE
  have hw:=bO i zE;simp[fH,I6,ah,aa,ai,Qe,hw];refine⟨aP,⟨i+1,zd,zE,rfl⟩,zE⟩
 obtain rfl:i=l.length:=zE
 simp[fH,I6,ag0]
def au5(l:List It)(hl:l.length<=8796093022208):Pure Tryz.prog aD 118 [.sl .ro (l.map Ql),.sl .ro (l.map Ql)] (.bool true):=by
 refine Qm ace (fun _ _ _=>.junk) zd ?_;simp[ag1];refine Qk I7 (yG l.length) (fun f _=>l.length-(numOf (f 13)).toNat) ?_ ?_
 ·exact⟨0,zd,zE,rfl⟩
 rintro f m ⟨i,fH,hi,rfl⟩;rcases zzab i l.length with ah|bu
 ·obtain⟨a,ha⟩:=aX ah;have ai:Qf (l.map Ql) i=Ql a:=Qv (by simp[ha]);have aa:(i:Int)<(l.length:Int):=zE
  have hw:=bO i zE;simp[fH,I7,ah,aa,ai,Ql,hw];refine⟨aP,⟨i+1,zd,zE,rfl⟩,zE⟩
 obtain rfl:i=l.length:=zE
 simp[fH,I7,ag2]
def au6(l:List Bk)(hl:l.length<=8796093022208):Pure Tryz.prog aD 121 [.sl .ro (l.map Xm),.sl .ro (l.map Xm)] (.bool true):=by
 refine Qm ach (fun _ _ _=>.junk) zd ?_;simp[ag6];refine Qk I9 (yG l.length) (fun f _=>l.length-(numOf (f 13)).toNat) ?_ ?_
 ·exact⟨0,zd,zE,rfl⟩
 rintro f m ⟨i,fH,hi,rfl⟩;rcases zzab i l.length with ah|bu
 ·obtain⟨a,ha⟩:=aX ah;have ai:Qf (l.map Xm) i=Xm a:=Qv (by simp[ha]);have aa:(i:Int)<(l.length:Int):=zE
  have hw:=bO i zE;simp[fH,I9,ah,aa,ai,Xm,hw];refine⟨aP,⟨i+1,zd,zE,rfl⟩,zE⟩
 obtain rfl:i=l.length:=zE
 simp[fH,I9,ag7]
def au7(l:List Cl)(hl:l.length<=8796093022208):Pure Tryz.prog aD 122 [.sl .ro (l.map Qj),.sl .ro (l.map Qj)] (.bool true):=by
 refine Qm aci (fun _ _ _=>.junk) zd ?_;simp[ag8];refine Qk Jx (yG l.length) (fun f _=>l.length-(numOf (f 13)).toNat) ?_ ?_
 ·exact⟨0,zd,zE,rfl⟩
 rintro f m ⟨i,fH,hi,rfl⟩;rcases zzab i l.length with ah|bu
 ·obtain⟨a,ha⟩:=aX ah;have ai:Qf (l.map Qj) i=Qj a:=Qv (by simp[ha]);have aa:(i:Int)<(l.length:Int):=zE
  have hw:=bO i zE;simp[fH,Jx,ah,aa,ai,Qj,hw];refine⟨aP,⟨i+1,zd,zE,rfl⟩,zE⟩
 obtain rfl:i=l.length:=zE
 simp[fH,Jx,ag9]
def ajP(l:List Sp)(hl:l.length<=8796093022208):Pure Tryz.prog aD 173 [.sl .ro (l.map Qe),.sl .ro (l.map Qe)] (.bool true):=by
 refine Qm acW (fun _ _ _=>.junk) zd ?_;simp[ahE];refine Qk JC (yG l.length) (fun f _=>l.length-(numOf (f 13)).toNat) ?_ ?_
 ·exact⟨0,zd,zE,rfl⟩
 rintro f m ⟨i,fH,hi,rfl⟩;rcases zzab i l.length with ah|bu
 ·obtain⟨a,ha⟩:=aX ah;have ai:Qf (l.map Qe) i=Qe a:=Qv (by simp[ha]);have aa:(i:Int)<(l.length:Int):=zE
  have hw:=bO i zE;simp[fH,JC,ah,aa,ai,Qe,hw];refine⟨aP,⟨i+1,zd,zE,rfl⟩,zE⟩
 obtain rfl:i=l.length:=zE
 simp[fH,JC,ahF]
def agt(e:ck)(hl:e.al.length<=8796093022208):Pure Tryz.prog aD 116 [.agg (Qg e),.agg (Qg e)] (.bool true):=by
 have k:=ajP e.al hl;refine Qm ab9 (fun _ _ _=>.bool true) zd ?_;simp[agX,agY,Qg];exact k
def agu(e:En)(hl:e.al.length<=8796093022208):Pure Tryz.prog aD 120 [.agg (Qd e),.agg (Qd e)] (.bool true):=by
 have k:=ajP e.al hl;refine Qm acg (fun _ _ _=>.bool true) zd ?_;simp[ag4,ag5,Qd];exact k
def ajQ(n:Nat)(f:Nat->AV)(m:AM):Prop:=∃(i:Nat)(bx:X2),f 17=I i/\i<=n/\m=⟨bx,[],fun _=>.gone,0⟩
def an9(l:List ck)(hl:l.length<=8796093022208)(ha:∀e∈l,e.al.length<=8796093022208):Pure Tryz.prog aD 115 [.sl .ro (l.map Qg),.sl .ro (l.map Qg),.fn 116 [] []] (.bool true):=by
 refine Qm ab8 (fun _ _ _=>.bool true) zd ?_;simp[Tx];refine Qk I5 (ajQ l.length) (fun f _=>l.length-(numOf (f 17)).toNat) ?_ ?_
 ·exact⟨0,_,zd,zE,rfl⟩
 rintro f m ⟨i,bx,h17,hi,rfl⟩;rcases zzab i l.length with ah|bu
 ·obtain⟨a,he⟩:=aX ah;have k:=agt a (ha a (zzad he));have ai:Qf (l.map Qg) i=Qg a:=Qv (by simp[he]);have aa:(i:Int)<(l.length:Int):=zE
  have hw:=bO i zE;simp only[Qg]at k ai;simp[h17,I5,ah,aa,ai,Qg,hw];refine⟨k,aP,⟨i+1,_,zd,zE,rfl⟩,zE⟩
 obtain rfl:i=l.length:=zE
 simp[h17,I5,agW]
def aoa(l:List En)(hl:l.length<=8796093022208)(ha:∀e∈l,e.al.length<=8796093022208):Pure Tryz.prog aD 119 [.sl .ro (l.map Qd),.sl .ro (l.map Qd),.fn 120 [] []] (.bool true):=by
 refine Qm acf (fun _ _ _=>.bool true) zd ?_;simp[Ty];refine Qk I8 (ajQ l.length) (fun f _=>l.length-(numOf (f 17)).toNat) ?_ ?_
 ·exact⟨0,_,zd,zE,rfl⟩
 rintro f m ⟨i,bx,h17,hi,rfl⟩;rcases zzab i l.length with ah|bu
 ·obtain⟨a,he⟩:=aX ah;have k:=agu a (ha a (zzad he));have ai:Qf (l.map Qd) i=Qd a:=Qv (by simp[he]);have aa:(i:Int)<(l.length:Int):=zE
  have hw:=bO i zE;simp only[Qd]at k ai;simp[h17,I8,ah,aa,ai,Qd,hw];refine⟨k,aP,⟨i+1,_,zd,zE,rfl⟩,zE⟩
 obtain rfl:i=l.length:=zE
 simp[h17,I8,ag3]
structure aob (g:Pg):Prop where
 sh:g.p.sh.length<=8796093022208
 aT:g.p.aT.length<=8796093022208
 ens:g.p.ens.length<=8796093022208
 al:∀e∈g.p.ens,e.al.length<=8796093022208
 bks:g.p.bks.length<=8796093022208
 cls:g.p.cls.length<=8796093022208
 ev:g.ev.length<=8796093022208
 eal:∀e∈g.ev,e.al.length<=8796093022208
 cu:g.cu.length<=8796093022208
 dr:g.dr.length<=8796093022208
def aoc(l:List ck)(hl:l.length<=8796093022208)(ha:∀e∈l,e.al.length<=8796093022208):Pure Tryz.prog aD 63 [.sl .ro (l.map Qg),.sl .ro (l.map Qg)] (.bool true):=by
 have k:=an9 l hl ha;refine Qm akN (fun _ _ _=>.bool true) zd ?_;simp[apB,apC];exact k
def aod(g:Pg)(h:aob g):Pure Tryz.prog aD 64 [.agg (Qc g.p),.agg (Qc g.p)] (.bool true):=by
 have k1:=au4 g.p.sh h.sh;have k2:=au5 g.p.aT h.aT;have k3:=aoa g.p.ens h.ens h.al;have k4:=au6 g.p.bks h.bks;have k5:=au7 g.p.cls h.cls;refine Qm akO (fun _ _ _=>.bool true) zd ?_;simp[apD,apE,Qc];exact⟨k1,k2,k3,k4,k5⟩
def aoe(g:Pg)(h:aob g):Pure Tryz.prog aD 21 [.agg (Qo g),.agg (Qo g)] (.bool true):=by
 have k1:=azw g.dr h.dr;have k2:=azx g.cu h.cu;have k3:=aoc g.ev h.ev h.eal;have k4:=aod g h;simp only[Qc]at k4;refine Qm S3 (fun _ _ _=>.bool true) zd ?_;simp[abG,abH,Qo,Qc];exact⟨k1,k2,k3,k4⟩
def Sx(g:Pg)(o:Od):Bool:=IG g o&&(uK g o.fr (Xu o.fr g.ev []) o).isSome
def Sy(g:Pg)(fr:Int)(mb:X2):X2:=mb++(Qo g::Qu g fr (mb.length+2)::[.aM 0 (bI .bool (Xu fr g.ev []))]::Qu g fr (mb.length+2)::g.ev.map Qg)
def aof(g:Pg)(fr:Int)(mb:X2)(ml:P2)(ms:Nat->LS)(mn:Nat)(f:Nat->AV)(m:AM):Prop:=
 ∃(i:Nat)(b:QQ),f 16=I i/\i<=g.ev.length/\Xu fr (g.ev.drop i) b=Xu fr g.ev []/\b.length<=i/\
  m=⟨mb++(Qo g::Ee::[.aM 0 (bI .bool b)]::Qu g fr (mb.length+2)::(g.ev.take i).map Qg),ml,ms,mn⟩
def SA(Y:YT)(m:AM)(g:Pg)(fr:Int)(hl:g.ev.length<=1000000):
  aF Tryz.prog aD Y 55 [.agg (Qo g),I fr] m (fun r m'=>r=.agg (Qu g fr (m.boxes.length+2))/\m'={m with boxes:=Sy g fr m.boxes}):=by
 obtain⟨mb,ml,ms,mn⟩:=m;refine Xn Ta (fun _ _ _=>.junk) zd ?_;simp[akG,Qo,Qc];refine Qk lN (aof g fr mb ml ms mn) (fun f _=>g.ev.length-(numOf (f 16)).toNat) ?_ ?_
 ·exact⟨0,[],zd,zE,zd,zd,by simp[Qo,Qc,Qu,Ee]⟩
 rintro f m ⟨i,b,KT,hi,hb,gI,rfl⟩;rcases zzab i g.ev.length with ah|bu
 ·obtain⟨e,he⟩:=aX ah;have ai:Qf (g.ev.map Qg) i=Qg e:=Qv (by simp[he]);have aa:(i:Int)<(g.ev.length:Int):=zE
  have hw:=bO i zE;have hd:g.ev.drop i=e::g.ev.drop (i+1):=by rw[zzae ah,(zza.1 he).2]
  have bD:(g.ev.take (i+1)).map Qg=(g.ev.take i).map Qg++[Qg e]:=by rw[zzap,he];simp
  generalize(g.ev.take i).map Qg=bx at bD |-
  rw[hd,Xu]at hb;by_cases hs:e.st<fr
  ·rw[if_pos hs]at hb;have fc:=rN e.id true b;rcases Xx AV.bool e.id b 0 with⟨b1,b2,b3,b4⟩|⟨u,n,b1,b2,b3,b4,b5,b6⟩
   ·simp[KT,lN,aa,ai,hw,Qg,Qo,Qc,Qu,Ee,hs,b2];refine⟨aP,⟨i+1,Vi e.id true b,zd,zE,hb,zE,by rw[bD];simp[Qo,Qc,Qu,Ee,Qg,b4]⟩,zE⟩
   simp[KT,lN,aa,ai,hw,Qg,Qo,Qc,Qu,Ee,hs,b2];refine⟨aP,⟨i+1,Vi e.id true b,zd,zE,hb,zE,by rw[bD];simp[Qo,Qc,Qu,Ee,Qg,b6]⟩,zE⟩
  rw[if_neg hs]at hb;simp[KT,lN,aa,ai,hw,Qg,Qo,Qc,Qu,Ee,hs];refine⟨aP,⟨i+1,b,zd,zE,hb,zE,by rw[bD];simp[Qo,Qc,Qu,Ee,Qg]⟩,zE⟩
 obtain rfl:i=g.ev.length:=zE
 rw[zzbz,Xu]at hb;subst hb;simp[KT,lN,akH,Qo,Qc,Qu,Ee,Sy]
def aog(g:Pg)(fr:Int)(mb:X2)(h:∀c∈mb,fq c):(∀c∈Sy g fr mb,fq c)/\iJ (Sy g fr mb) (mb.length+2) (Xu fr g.ev []):=by
 refine⟨fun c hc=>?_,⟨by simp[Sy],by simp[Sy]⟩⟩;simp only[Sy,zzat,zzao,zzbk]at hc;obtain hc|rfl|rfl|rfl|rfl|⟨e,_,rfl⟩:=hc
 ·exact h c hc
 ·exact fq.of (by simp[Qo,Qc]) (ZT g)
 ·exact fq.mo g fr _
 ·exact fq.map _
 ·exact fq.mo g fr _
 exact fq.of (by simp[Qg]) (DB e)
def agv(g:Pg)(fr:Int)(o:Od)(mb:X2)(ml:P2)(ms:Nat->LS)(mn:Nat)(h:ZH g fr o)(gT:∀c∈mb,fq c)(v:AV)(hv:zI (uK g fr (Xu fr g.ev []) o)=v):
  aF Tryz.prog aD Y0 56 [.agg (Qu g fr (mb.length+2)),.agg (Qt o)] ⟨Sy g fr mb,ml,ms,mn⟩ (fun r m'=>r=v/\m'=⟨Sy g fr mb,ml,ms,mn⟩):=by
 obtain⟨h1,h2⟩:=aog g fr mb gT;exact aF.mono (OH Y0 ⟨Sy g fr mb,ml,ms,mn⟩ g fr (mb.length+2) _ o h h2 h1) (by rintro r m' ⟨rfl,rfl⟩;exact⟨hv,rfl⟩)
def BR(g:Pg)(o:Od)(h:LI g o):Pure Tryz.prog aD 20 [.agg (Qo g),.agg (Qt o)] (.bool (Sx g o)):=by
 obtain⟨hpg,fc,hve,ud,ZI,kL,hrn⟩:=h;have h5:¬o.ki=5:=zE
 have RR:=sY g o fc;unfold Sx;simp only[Qo,Qc,Qt,Qd,Qj,Qp,zzaf,zzah]at RR;cases hc:IG g o with
 |false=>
  rw[hc]at RR;refine Qm IQ (fun _ f l=>if f=53 then .bool false else .gd false .junk) zd ?_;simp[abE,abF,Qo,Qc,Qt,Qd,Qj,Qp];exact RR
 |true=>
  rw[hc]at RR
  ·have kL:=kL hc;have bZ:g.ev.length<=1000000:=by have:=hpg.2.1;omega
   have gT:∀c∈[Qo g,Qt o],fq c:=by
    intro c hc;simp only[zzao,zzcm,or_false]at hc;obtain rfl|rfl:=hc
    ·exact fq.of (by simp[Qo,Qc]) (ZT g)
    exact fq.of (by simp[Qt]) rfl
   have kl:=SA Y0 ⟨[Qo g,Qt o],[],fun _=>.gone,0⟩ g o.fr bZ;have kc:=agv g o.fr o [Qo g,Qt o] [] (fun _=>.gone) 0 kL gT;simp only[zzba,zzcp]at kl kc;generalize hM:Sy g o.fr [Qo g,Qt o]=M at kl kc;have hM1:∀x,Qf (M++x) 1=Qt o:=fun x=>by rw[<- hM];simp[Sy]
   have aoh:Qf M 1=Qt o:=by rw[<- hM];simp[Sy]
   simp only[Qt,Qd,Qj,Qp,zzaf,zzah]at hM1 aoh;cases hx:uK g o.fr (Xu o.fr g.ev []) o with
   |none=>
    have kc:=kc _ (by rw[hx]);simp only[Qo,Qc,Qt,Qd,Qj,Qp,Qu,zzaf,zzah]at kl kc;refine Qm IQ (fun _ f l=>if f=53 then .bool true else .gd false .junk) zd ?_;simp[abE,abF,Qo,Qc,Qt,Qd,Qj,Qp,h5];refine⟨RR,FM zd [(.agg (Qu g o.fr 4),⟨M,[],fun _=>.gone,0⟩),(zI none,⟨M,[],fun _=>.gone,0⟩),(.ptr M.length 0,⟨M++[[I 0,I 0,I 0,I 0,.sl .nil [],I 0,I 0,I 0,I 0,.sl .nil [],.sl .nil [],.sl .nil [],.sl .nil [],I 0]],[],fun _=>.gone,0⟩),(.junk,⟨M++[RL],[],fun _=>.gone,0⟩)] ?_⟩;simp[Qu,Qo,Qc,zI,RL,hM1,aoh,Qt,Qd,Qj,Qp];exact⟨kl,kc⟩
   |some r=>
    obtain⟨q,d⟩:=r;have kc:=kc _ (by rw[hx]);simp only[Qo,Qc,Qt,Qd,Qj,Qp,Qu,zzaf,zzah]at kl kc;refine Qm IQ (fun _ f l=>if f=53 then .bool true else .gd false .junk) zd ?_;simp[abE,abF,Qo,Qc,Qt,Qd,Qj,Qp,h5];refine⟨RR,FM zd [(.agg (Qu g o.fr 4),⟨M,[],fun _=>.gone,0⟩),(zI (some (q,d)),⟨M,[],fun _=>.gone,0⟩),(.ptr M.length 0,⟨M++[[I 0,I 0,I 0,I 0,.sl .nil [],I 0,I 0,I 0,I 0,.sl .nil [],.sl .nil [],.sl .nil [],.sl .nil [],I 0]],[],fun _=>.gone,0⟩),(.junk,⟨M++[Qc q++[I d]],[],fun _=>.gone,0⟩)] ?_⟩;simp[Qu,Qo,Qc,zI,RL,hM1,aoh,Qt,Qd,Qj,Qp];simp only[zI,Qc,zzaf,zzah]at kc;exact⟨kl,kc⟩
def Zh(n:Int):Prop:= -9223372036854775808<=n/\n<=9223372036854775807
def OKP(p:Pl):Prop:=∀e∈p.ens,e.al.length<=8796093022208
open Go.RowKit
def isI(a:AV):Bool:=match a with
 |.int _ _=>true
 |_=>false
def agw{a:AV}(h:isI a=true){w:World}{γ γ':G}{v:Value}(hr:au w γ a v):v.oneCell'=true/\au w γ' a v:=by
 cases hr<;>simp[isI]at h;exact⟨rfl,.int _ _⟩
def Mv{P:Program}{W:World}{name:String}{d:DataW Unit}{rest:List (String×DataW Unit)}{g:Nat}{t:TypeId}{D:Nat}{row:P1}(h:∃ps,DataW.LaidVars P W ((name,d)::rest) ps)
  (hg:P.globalNamed name=some g)(hty:(P.globals[g]?).map (·.type)=some t)(bY:WN P D t=true)(hav:cW P D t d=row)(hi:row.all isI=true)(aK:row≠[]):au W (G0 CW) (.ep row 0) (.pointer (some ⟨g,0,none⟩)):=by
 obtain⟨ps,g',t',cs,bh,p,q,hg',XW,azy,hd,_,_⟩:=h;obtain rfl:=Option.some.inj (hg.symm.trans hg');obtain rfl:=Option.some.inj (hty.symm.trans XW);obtain⟨_,hr,_,_⟩:=jm D bh t cs.toList d p hd bY;rw[hav]at hr
 have bP:∀(j:Nat)(c:AV),row[j]?=some c->W.cell? ⟨g,j,none⟩=some (cs.toList.getD j undef)/\(cs.toList.getD j undef).oneCell'=true/\au W (G0 CW).cQ c (cs.toList.getD j undef):=by
  intro j c hj;have ah:j<row.length:=(zza.1 hj).1;have bL:j<cs.toList.length:=by rw[<- hr.1];exact ah
  have hv:cs.toList[j]?=some (cs.toList.getD j undef):=by rw[zzaq,zzac bL];try rfl
  have hc:=World.var?_cell hg azy j;have h1:=hr.2 j c _ hj hv;have h2:isI c=true:=zzbf.1 hi c (zzad hj);obtain⟨h3,h4⟩:=agw h2 (γ':=(G0 CW).cQ) h1;refine⟨?_,h3,h4⟩;rw[hc,<- zzby];exact hv
 have hsz:g<W.heap.size:=by
  obtain⟨a,r,rfl⟩:=List.exists_cons_of_ne_nil aK;have:=(bP 0 a rfl).1;simp only[World.cell?]at this;rcases zzab g W.heap.size with h|h
  ·exact h
  rw[zzbt zE]at this;simp at this
 refine au.ep (o:=0) (b:=g) (off:=0) (fun j=>cs.toList.getD j undef) hsz (fun j c hj=>?_) (fun j c hj=>(bP j c hj).2.2);obtain⟨h1,h2,_⟩:=bP j c hj;refine⟨Nm h1,trivial,h2⟩
def abb:cW Tryz.prog 5 326 (Rows.laid_onair_timecode_rates:DataW Unit)=Db:=by
 unfold Rows.laid_onair_timecode_rates;have h3:∀n:Int,cW Tryz.prog 2 3 (.lit (.int .i64 n):DataW Unit)=[I n]:=fun n=>Vk Tryz.underlying3 _ _;have h3':∀n:Int,cW Tryz.prog 3 3 (.lit (.int .i64 n):DataW Unit)=[I n]:=fun n=>Vk Tryz.underlying3 _ _
 have h23:∀a b:Int,cW Tryz.prog 3 45 (.agg [.lit (.int .i64 a),.lit (.int .i64 b)]:DataW Unit)=[I a,I b]:=fun a b=>by
  rw[Kv Tryz.underlying45];simp[h3]
 have azz:∀a b c d:Int,cW Tryz.prog 4 301 (.agg [.agg [.lit (.int .i64 a),.lit (.int .i64 b)],.lit (.int .i64 c),.lit (.int .i64 d)]:DataW Unit)=[I a,I b,I c,I d]:=fun a b c d=>by
  rw[Kv Tryz.underlying301];simp[h3',h23]
 rw[Sc Tryz.underlying326];simp only[zzeq,zzfb,azz];rfl
def aoi{W:World}{rest:List (String×DataW Unit)}(h:laidMet Tryz.prog (("onair/timecode.rates",Rows.laid_onair_timecode_rates)::rest) W):∀g,au W (G0 CW) (aD g) (.pointer (some ⟨g,0,none⟩)):=by
 intro g;obtain⟨ps,h,_⟩:=h
 match g with
 |0=>exact .junk _
 |1=>exact .junk _
 |2=>exact Mv (D:=5) ⟨ps,h⟩ (g:=2) (t:=326) (by kernel_rfl) (by kernel_rfl) (by kernel_rfl) abb (by decide) (by simp[Db])
 |g+3=>exact .junk _
def Qal{m:Int}(h:(Lit.int .i64 m).wf=true):Zh m:=by
 simp[Lit.wf,IntKind.min,IntKind.max,IntKind.bits,IntKind.signed]at h;unfold Zh;omega
def Sz{H:Type}(t:TypeId)(x:DataW H):Prop:=∀k∈x.weights Tryz.prog t,k<=reachBytes
def Sz.all{H:Type}{e:TypeId}{l:List (DataW H)}(h:∀k∈DataW.weightsAll Tryz.prog e l,k<=reachBytes):∀y∈l,Sz e y:=by
 induction l with
 |nil=>intro y hy;cases hy
 |cons a l ih=>
  intro y hy;simp only[DataW.weightsAll,zzat]at h;rcases zzao.1 hy with rfl|hy
  ·exact fun k hk=>h k (.inl hk)
  exact ih (fun k hk=>h k (.inr hk)) y hy
def Sz.slice{H:Type}{t e:TypeId}{bR spare:List (DataW H)}(hu:Tryz.prog.underlying t=some (.slice e))(h:Sz t (.slice bR spare:DataW H)):(bR.length+spare.length)*Tryz.prog.bytesOf e<=reachBytes/\∀y∈bR,Sz e y:=by
 unfold Sz at h;simp only[DataW.weights,hu]at h;refine⟨h _ zd,Sz.all fun k hk=>h k (by simp[hk])⟩
def Sz.agg{H:Type}{t:TypeId}{fs:Array Field}{parts:List (DataW H)}(hu:Tryz.prog.underlying t=some (.struct fs))(h:Sz t (.agg parts:DataW H)):∀k∈DataW.weightsEach Tryz.prog (fs.toList.map (·.type)) parts,k<=reachBytes:=by
 unfold Sz at h;simpa only[DataW.weights,hu]using h
def SB{H:Type}{α:Type}(row:α->P1)(ok:α->Prop){t e:TypeId}(hu:Tryz.prog.underlying t=some (.slice e)){n:Nat}(eX:∀y:DataW H,Typed Tryz.prog n e y->Sz e y->∃a,ok a/\cW Tryz.prog n e y=row a)
  {x:DataW H}(h:Typed Tryz.prog (n+1) t x)(hs:Sz t x):∃(l:List α)(rt:Rt),(∀a∈l,ok a)/\l.length*Tryz.prog.bytesOf e<=reachBytes/\l.length<=maxLen/\cW Tryz.prog (n+1) t x=[.sl rt (l.map row)]:=by
 rcases HQ hu h with rfl|⟨bR,spare,rfl,hl,he⟩
 ·exact⟨[],.nil,(fun _ h=>by cases h),(by rw[zzcp,zzhl];exact zzbe _),zzbe _,af3 hu⟩
 obtain⟨hz,JM⟩:=hs.slice hu
 have key:∃X:List α,(∀y∈X,ok y)/\bR.map (cW Tryz.prog n e)=X.map row:=by
  clear hl h hz hs;induction bR with
  |nil=>exact⟨[],zd,rfl⟩
  |cons y ys ih=>
   obtain⟨X,h1,h2⟩:=ih (fun z hz=>he z (by simp[hz])) (fun z hz=>JM z (by simp[hz]));obtain⟨q,hq,hv⟩:=eX y (he y zd) (JM y zd);refine⟨q::X,?_,by rw[zzax,h2,hv];try rfl⟩;intro z hz;rcases zzao.1 hz with rfl|hz
   ·exact hq
   exact h1 z hz
 obtain⟨X,h1,h2⟩:=key;have aH:X.length=bR.length:=by have:=congrArg List.length h2;simpa using this.symm
 refine⟨X,.nn,h1,?_,zE,by rw[anL hu,h2]⟩;rw[aH];refine zzaz (zzbb _ (Nat.le_add_right _ _)) hz
def agx{α:Type}{l:List α}(h:l.length=2):∃a b,l=[a,b]:=by
 match l,h with
 |[a,b],_=>exact⟨a,b,rfl⟩
def agy{α:Type}{l:List α}(h:l.length=5):∃a0 a1 a2 a3 a4,l=[a0,a1,a2,a3,a4]:=by
 match l,h with
 |[a0,a1,a2,a3,a4],_=>exact⟨a0,a1,a2,a3,a4,rfl⟩
def abc{α:Type}{l:List α}(h:l.length=7):∃a0 a1 a2 a3 a4 a5 a6,l=[a0,a1,a2,a3,a4,a5,a6]:=by
 match l,h with
 |[a0,a1,a2,a3,a4,a5,a6],_=>exact⟨a0,a1,a2,a3,a4,a5,a6,rfl⟩
def abd{α:Type}{l:List α}(h:l.length=8):∃a0 a1 a2 a3 a4 a5 a6 a7,l=[a0,a1,a2,a3,a4,a5,a6,a7]:=by
 match l,h with
 |[a0,a1,a2,a3,a4,a5,a6,a7],_=>exact⟨a0,a1,a2,a3,a4,a5,a6,a7,rfl⟩
def Ih{H:Type}{n:Nat}:∀(L:List Field)(parts:List (DataW H)),(∀f∈L,f.type=3)->(∀p∈L.zip parts,Typed Tryz.prog (n+1) p.1.type p.2)->parts.length=L.length->
  ∃l:Pi,l.length=L.length/\(∀m∈l,Zh m)/\(L.zip parts).flatMap (fun p=>cW Tryz.prog (n+1) p.1.type p.2)=l.map I
 |[],parts,_,_,_=>⟨[],rfl,(fun _ h=>by cases h),by cases parts<;>rfl⟩
 |f::L,[],_,_,h=>by simp at h
 |f::L,a::parts,bJ,hp,hl=>by
  obtain⟨l,l1,l2,l3⟩:=Ih L parts (fun g hg=>bJ g (zzdg _ hg)) (fun p hp'=>hp p (zzdg _ hp')) (Nm hl);have ha:=hp (f,a) zd;have hf:=bJ f zd;rw[hf]at ha;obtain⟨m,rfl,w⟩:=Zi Tryz.underlying3 ha;refine⟨m::l,by simp[l1],?_,?_⟩
  ·intro k hk;rcases zzao.1 hk with rfl|hk
   ·exact Qal w
   exact l2 k hk
  simp only[zzdz,zzeq,hf];rw[Vk Tryz.underlying3,l3];try rfl
def Ii{H:Type}{t:TypeId}{fs:Array Field}(hu:Tryz.prog.underlying t=some (.struct fs))(bJ:∀f∈fs.toList,f.type=3){y:DataW H}{n:Nat}(h:Typed Tryz.prog (n+2) t y):
  ∃l:Pi,l.length=fs.size/\(∀m∈l,Zh m)/\cW Tryz.prog (n+2) t y=l.map I:=by
 obtain⟨parts,rfl,aH,hp⟩:=Qag hu h;rw[Kv hu];obtain⟨l,l1,l2,l3⟩:=Ih fs.toList parts bJ hp (Nm aH);exact⟨l,Nm l1,l2,l3⟩
def agz(s:Sp):Prop:=Zh s.1/\Zh s.2
def agB{H:Type}{t:TypeId}{f g:Field}(hu:Tryz.prog.underlying t=some (.struct #[f,g]))(hf:f.type=3)(hg:g.type=3){y:DataW H}{n:Nat}(h:Typed Tryz.prog (n+2) t y):∃s:Sp,agz s/\cW Tryz.prog (n+2) t y=Qe s:=by
 obtain⟨l,l1,l2,l3⟩:=Ii hu (by simp[hf,hg]) h;obtain⟨a,b,rfl⟩:=agx (show l.length=2 from l1);exact⟨(a,b),⟨l2 a zd,l2 b zd⟩,l3⟩
def azA(x:It):Prop:=Zh x.id/\Zh x.ki/\Zh x.fr/\Zh x.sp/\Zh x.ra
def au8(x:Cl):Prop:=Zh x.ki/\Zh x.it/\Zh x.fr/\Zh x.to/\Zh x.re/\Zh x.n/\Zh x.a/\Zh x.b
def azB(x:Bk):Prop:=Zh x.id/\Zh x.it/\Zh x.re/\Zh x.fr/\Zh x.to/\Zh x.un/\Zh x.pr
def aoj(x:En):Prop:=(Zh x.id/\Zh x.it/\Zh x.fr/\Zh x.ea/\Zh x.la/\Zh x.bo)/\x.al.length<=8796093022208/\∀a∈x.al,agz a
structure aAf (p:Pl):Prop where
 ch:Zh p.ch
 nu:Zh p.nu
 de:Zh p.de
 of:Zh p.of
 ep:Zh p.ep
 rg:Zh p.rg
 ln:Zh p.ln
 fi:Zh p.fi
 sh:∀s∈p.sh,agz s
 aT:∀s∈p.aT,azA s
 ens:∀s∈p.ens,aoj s
 bks:∀s∈p.bks,azB s
 cls:∀s∈p.cls,au8 s
 shl:p.sh.length<=8796093022208
 itl:p.aT.length<=8796093022208
 enl:p.ens.length<=8796093022208
 bkl:p.bks.length<=8796093022208
 cll:p.cls.length<=8796093022208
def Mw{H:Type}{y:DataW H}{n:Nat}(h:Typed Tryz.prog (n+2) 26 y):∃x:Cl,au8 x/\cW Tryz.prog (n+2) 26 y=Qj x:=by
 obtain⟨l,l1,l2,l3⟩:=Ii Tryz.underlying26 zd h;obtain⟨a0,a1,a2,a3,a4,a5,a6,a7,rfl⟩:=abd (show l.length=8 from l1);exact⟨⟨a0,a1,a2,a3,a4,a5,a6,a7⟩,⟨l2 _ zd,l2 _ zd,l2 _ zd,l2 _ zd,l2 _ zd,l2 _ zd,l2 _ zd,l2 _ zd⟩,l3⟩
def agC:Tryz.prog.bytesOf 85=16:=by kernel_rfl
def aok(q:En×Rt):P1:=[I q.1.id,I q.1.it,I q.1.fr,I q.1.ea,I q.1.la,I q.1.bo,.sl q.2 (q.1.al.map Qe)]
def SD{H:Type}{y:DataW H}{n:Nat}(h:Typed Tryz.prog (n+4) 24 y)(hs:Sz 24 y):∃q:En×Rt,aoj q.1/\cW Tryz.prog (n+4) 24 y=aok q:=by
 obtain⟨parts,rfl,aH,hp⟩:=Qag Tryz.underlying24 h;obtain⟨a0,a1,a2,a3,a4,a5,a6,rfl⟩:=abc aH;have hz:=hs.agg Tryz.underlying24;have t0:=hp (⟨ "ID",3,0,false, "", "",0⟩,a0) (by simp);have t1:=hp (⟨ "Item",3,1,false, "", "",8⟩,a1) (by simp);have t2:=hp (⟨ "Frames",3,2,false, "", "",16⟩,a2) (by simp);have t3:=hp (⟨ "Earliest",3,3,false, "", "",24⟩,a3) (by simp);have t4:=hp (⟨ "Latest",3,4,false, "", "",32⟩,a4) (by simp);have t5:=hp (⟨ "Booking",3,5,false, "", "",40⟩,a5) (by simp);have t6:=hp (⟨ "Alts",22,6,false, "", "",48⟩,a6) (by simp);obtain⟨m0,rfl,w0⟩:=Zi Tryz.underlying3 t0;obtain⟨m1,rfl,w1⟩:=Zi Tryz.underlying3 t1;obtain⟨m2,rfl,w2⟩:=Zi Tryz.underlying3 t2;obtain⟨m3,rfl,w3⟩:=Zi Tryz.underlying3 t3;obtain⟨m4,rfl,w4⟩:=Zi Tryz.underlying3 t4;obtain⟨m5,rfl,w5⟩:=Zi Tryz.underlying3 t5;have hs6:Sz 22 a6:=fun k hk=>hz k (by simp[DataW.weightsEach,hk]);obtain⟨l,rt,l1,l2,l3,l4⟩:=SB Qe agz Tryz.underlying22 (fun y hy _=>agB Tryz.underlying85 rfl rfl hy) t6 hs6;rw[agC]at l2;have hr:reachBytes=140737488351232:=rfl;refine⟨(⟨m0,m1,m2,m3,m4,m5,l⟩,rt),⟨⟨Qal w0,Qal w1,Qal w2,Qal w3,Qal w4,Qal w5⟩,by simp only;omega,l1⟩,?_⟩;rw[Kv Tryz.underlying24];simp only[zzdz,zzgh,zzeq,zzfb];rw[Vk Tryz.underlying3,Vk Tryz.underlying3,Vk Tryz.underlying3,Vk Tryz.underlying3,Vk Tryz.underlying3,Vk Tryz.underlying3,l4];try rfl
structure au9 (o:Od):Prop where
 n:Zh o.n
 fr:Zh o.fr
 en:aoj o.nw
abbrev OdT:=Od×Rt
def abe(q:OdT):P1:=[I q.1.sq,I q.1.ch,I q.1.fr,I q.1.ki,I q.1.en,I q.1.n,I q.1.nw.id,I q.1.nw.it,I q.1.nw.fr,I q.1.nw.ea,I q.1.nw.la,I q.1.nw.bo,.sl q.2 (q.1.nw.al.map Qe),I q.1.cl.ki,I q.1.cl.it,I q.1.cl.fr,I q.1.cl.to,I q.1.cl.re,I q.1.cl.n,I q.1.cl.a,I q.1.cl.b,I q.1.cu.id,I q.1.cu.fr,I q.1.cu.to,I q.1.cu.pr,.str q.1.cu.tx]
def agD{H:Type}{x:DataW H}{n:Nat}(h:Typed Tryz.prog (n+2) 28 x):∃c:Cue,cW Tryz.prog (n+2) 28 x=Qp c:=by
 obtain⟨parts,rfl,aH,hp⟩:=Qag Tryz.underlying28 h;obtain⟨a0,a1,a2,a3,a4,rfl⟩:=agy aH;have t0:=hp (⟨ "ID",3,0,false, "", "",0⟩,a0) (by simp);have t1:=hp (⟨ "From",3,1,false, "", "",8⟩,a1) (by simp);have t2:=hp (⟨ "To",3,2,false, "", "",16⟩,a2) (by simp);have t3:=hp (⟨ "Priority",3,3,false, "", "",24⟩,a3) (by simp);have t4:=hp (⟨ "Text",9,4,false, "", "",32⟩,a4) (by simp);obtain⟨m0,rfl,w0⟩:=Zi Tryz.underlying3 t0;obtain⟨m1,rfl,w1⟩:=Zi Tryz.underlying3 t1;obtain⟨m2,rfl,w2⟩:=Zi Tryz.underlying3 t2;obtain⟨m3,rfl,w3⟩:=Zi Tryz.underlying3 t3;obtain⟨s,rfl,_⟩:=BI Tryz.underlying9 t4;refine⟨⟨m0,m1,m2,m3,⟨s.toArray⟩⟩,?_⟩;rw[Kv Tryz.underlying28];simp only[zzdz,zzgh,zzeq,zzfb];rw[Vk Tryz.underlying3,Vk Tryz.underlying3,Vk Tryz.underlying3,Vk Tryz.underlying3,OS Tryz.underlying9];try rfl
def agE{α:Type}{l:List α}(h:l.length=9):∃a0 a1 a2 a3 a4 a5 a6 a7 a8,l=[a0,a1,a2,a3,a4,a5,a6,a7,a8]:=by
 match l,h with
 |[a0,a1,a2,a3,a4,a5,a6,a7,a8],_=>exact⟨a0,a1,a2,a3,a4,a5,a6,a7,a8,rfl⟩
def SE{H:Type}{x:DataW H}{n:Nat}(h:Typed Tryz.prog (n+5) 30 x)(hs:Sz 30 x):∃q:OdT,au9 q.1/\cW Tryz.prog (n+5) 30 x=abe q:=by
 obtain⟨parts,rfl,aH,hp⟩:=Qag Tryz.underlying30 h;obtain⟨a0,a1,a2,a3,a4,a5,a6,a7,a8,rfl⟩:=agE aH;have hz:=hs.agg Tryz.underlying30;have t0:=hp (⟨ "Seq",3,0,false, "", "",0⟩,a0) (by simp);have t1:=hp (⟨ "Channel",3,1,false, "", "",8⟩,a1) (by simp);have t2:=hp (⟨ "Frame",3,2,false, "", "",16⟩,a2) (by simp);have t3:=hp (⟨ "Kind",3,3,false, "", "",24⟩,a3) (by simp);have t4:=hp (⟨ "Entry",3,4,false, "", "",32⟩,a4) (by simp);have t5:=hp (⟨ "N",3,5,false, "", "",40⟩,a5) (by simp);have t6:=hp (⟨ "New",24,6,false, "", "",48⟩,a6) (by simp);have t7:=hp (⟨ "Clause",26,13,false, "", "",120⟩,a7) (by simp);have t8:=hp (⟨ "Cue",28,21,false, "", "",184⟩,a8) (by simp);obtain⟨m0,rfl,w0⟩:=Zi Tryz.underlying3 t0;obtain⟨m1,rfl,w1⟩:=Zi Tryz.underlying3 t1;obtain⟨m2,rfl,w2⟩:=Zi Tryz.underlying3 t2;obtain⟨m3,rfl,w3⟩:=Zi Tryz.underlying3 t3;obtain⟨m4,rfl,w4⟩:=Zi Tryz.underlying3 t4;obtain⟨m5,rfl,w5⟩:=Zi Tryz.underlying3 t5;have s6:Sz 24 a6:=fun k hk=>hz k (by simp[DataW.weightsEach,hk]);obtain⟨⟨e,rt⟩,e1,e2⟩:=SD t6 s6;obtain⟨c,c1,c2⟩:=Mw t7;obtain⟨u,u2⟩:=agD t8;refine⟨(⟨m0,m1,m2,m3,m4,m5,e,c,u⟩,rt),⟨Qal w5,Qal w2,e1⟩,?_⟩;rw[Kv Tryz.underlying30];simp only[zzdz,zzgh,zzeq,zzfb];rw[Vk Tryz.underlying3,Vk Tryz.underlying3,Vk Tryz.underlying3,Vk Tryz.underlying3,Vk Tryz.underlying3,Vk Tryz.underlying3,e2,c2,u2];try rfl
def ava(q:OdT):Wk (.agg (abe q)) (.agg (Qt q.1)):=
 Wq ⟨Ps,Ps,Ps,Ps,Ps,Ps,Ps,Ps,Ps,Ps,Ps,Ps,Wk.sl _ _,Ps,Ps,Ps,Ps,Ps,Ps,Ps,Ps,Ps,Ps,Ps,Ps,Ps,trivial⟩
def RY{H:Type}{x:DataW H}{n:Nat}(h:Typed Tryz.prog (n+5) 30 x)(hs:Sz 30 x):∃o:Od,au9 o/\Wk (o9 Tryz.prog (n+5) 30 x) (.agg (Qt o)):=by
 have bK:Jq Tryz.prog 30=true:=by unfold Jq;rw[Tryz.underlying30]
 obtain⟨q,h1,h2⟩:=SE h hs;exact⟨q.1,h1,by rw[af4 bK,h2];exact ava q⟩
def SF{P:Program}{W:World}{x:String×DataW Unit}{r:List (String×DataW Unit)}(h:laidMet P (x::r) W):laidMet P r W:=by
 obtain⟨n,d⟩:=x;obtain⟨ps,⟨g,t,cs,fu,p,q,_,_,_,_,h1,rfl⟩,hn,hr⟩:=h;exact⟨q,h1,(List.nodup_append.1 hn).2.1,fun b o hb=>hr b o (zzhd _ hb)⟩
def ajR: "*"++ "errors.errorString"= "*errors.errorString":=by decide
def aol(u:TypeId)(h:Tryz.prog.typeName? 3 u=some "*errors.errorString"):u=376:=
 typeName_ptr_named (nm:= "errors.errorString") (by rw[ajR];kernel_rfl) (by kernel_rfl) (by decide) u (by rw[ajR];exact h)
def gW:Tryz.prog.globalNamed "onair/replan.errWire"=some 0:=by kernel_rfl
def gR:Tryz.prog.globalNamed "onair/replan.errReplan"=some 1:=by kernel_rfl
def abf{W:World}{g:Nat}{n:String}{a:Addr}{c:PQ}{e:TypeId}(hg:Tryz.prog.globalNamed n=some g)(hv:W.var? Tryz.prog n=some #[.iface 376 (.pointer (some a))])(hb:W.heap[a.block]?=some (.cells c e (0,0))):
  au W (G0 CW) (.ep [.er 376 a] 0) (.pointer (some ⟨g,0,none⟩)):=by
 have h0:W.cell? ⟨g,0,none⟩=some (.iface 376 (.pointer (some a))):=by simpa using World.var?_cell hg hv 0
 have hsz:g<W.heap.size:=by
  have:=h0;simp only[World.cell?]at this;rcases zzab g W.heap.size with h|h
  ·exact h
  rw[zzbt zE]at this;simp at this
 refine au.ep (o:=0) (b:=g) (off:=0) (fun _=>.iface 376 (.pointer (some a))) hsz (fun j r hj=>?_) (fun j r hj=>?_)
 ·match j,hj with
  |0,hj=>exact⟨Nm h0,trivial,rfl⟩
  |j+1,hj=>simp at hj
 match j,hj with
 |0,hj=>cases hj;exact .er hb
 |j+1,hj=>simp at hj
def afW{W:World}(h:laidMet Tryz.prog [("onair/timecode.rates",Rows.laid_onair_timecode_rates),("onair/replan.errWire",Rows.laid_onair_replan_errWire),("onair/replan.errReplan",Rows.laid_onair_replan_errReplan)] W):
  ∃a0 a1:Addr,a0≠a1/\∀g,au W (G0 CW) (fT a0 a1 g) (.pointer (some ⟨g,0,none⟩)):=by
 obtain⟨a0,a1,s0,s1,c0,c1,t0,t1,hv0,hv1,hc0,JR,UT,fB,hs1,hz1,aK,di,dI⟩:=laid_sentinels2 (te:=399) (SF h) gW (by kernel_rfl) gR (by kernel_rfl) Tryz.underlying76 aol Tryz.underlying376 Tryz.underlying399 rfl rfl Tryz.underlying9 (by kernel_rfl) (by kernel_rfl);refine⟨a0,a1,aK,fun g=>?_⟩
 match g with
 |0=>exact abf gW hv0 di
 |1=>exact abf gR hv1 dI
 |2=>exact aoi h 2
 |g+3=>exact .junk _
def afV{H:Type}{x:DataW H}{n:Nat}(h:Typed Tryz.prog (n+1) 9 x):∃s:ByteArray,o9 Tryz.prog (n+1) 9 x=.str s:=by
 have bK:Jq Tryz.prog 9=false:=by unfold Jq;rw[Tryz.underlying9]
 obtain⟨s,rfl,_⟩:=BI Tryz.underlying9 h;exact⟨⟨s.toArray⟩,af5 bK (OS Tryz.underlying9 _)⟩
def Ij(g:Pg)(o:Od):Pg:=nrm (Uu g o)
def yH(g:Pg)(o:Od):Qo (Ij g o)=Qo (Uu g o):=BQ _
def uQ:Pl:=⟨0,25,1,0,[],0,1,200,1,[⟨1,5,50,0,0⟩,⟨2,2,20,0,0⟩,⟨3,4,100,0,0⟩],[⟨1,2,20,0,0,0,[]⟩,⟨2,3,40,20,50,0,[]⟩],[],[⟨1,2,0,1000,255,0,0,0⟩,⟨1,3,0,1000,255,0,0,0⟩]⟩
def tC:Pl:={uQ with ens:=[⟨1,2,20,0,0,0,[]⟩,⟨2,3,50,20,50,0,[]⟩]}
def tD:Pl:={uQ with ens:=[⟨1,2,20,0,0,0,[]⟩]}
def fiE(a n:Int):ck:=⟨0,1,a,n,0,1,[],false⟩
def bz:Pg:=⟨uQ,[⟨1,2,0,20,0,1,[],false⟩,⟨2,3,20,40,0,1,[],false⟩,fiE 60 50,fiE 110 50,fiE 160 40],[],0,[],0⟩
def S2:Pg:=⟨tC,[⟨1,2,0,20,0,1,[],false⟩,⟨2,3,20,10,0,1,[],false⟩,⟨2,3,30,40,10,1,[],false⟩,fiE 70 50,fiE 120 50,fiE 170 30],[],0,[],1⟩
def exK:Pg:=⟨tD,[⟨1,2,0,20,0,1,[],false⟩,fiE 20 50,fiE 70 50,fiE 120 50,fiE 170 30],[],0,[],1⟩
def oL:Od:=⟨1,-1,30,1,2,10,dJ,eF,eG⟩
def oD:Od:=⟨1,0,20,2,2,0,dJ,eF,eG⟩
def oX:Od:=⟨1,0,20,2,1,0,dJ,eF,eG⟩
def aom(fr a:Int):Yo fr a a=[]:=by rw[Yo,if_neg zE]
def aon{fr t a:Int}(h:a<t)(h2:t-a<=fr):Yo fr t a=[(a,t-a)]:=by
 have hN:Ki fr t a=t-a:=by unfold Ki;rw[if_pos zE];omega
 rw[Yo,if_pos h,hN,show a+(t-a)=t by omega,aom]
def Mx{fr t a:Int}(h:a<t)(h1:1<=fr)(h2:fr<t-a):Yo fr t a=(a,fr)::Yo fr t (a+fr):=by
 have hN:Ki fr t a=fr:=by unfold Ki;split<;>omega
 rw[Yo,if_pos h,hN]
def abg:Ea uQ=true:=by cbv
def avb:Ea tC=true:=by cbv
def avc:Ea tD=true:=by cbv
def avd:Jz uQ [1,2] [] [] 0 (-1)=some [(1,0),(2,20)]:=by rw[<- OQ];cbv
def Pj:RS uQ=some [(1,0),(2,20)]:=by unfold RS;rw[if_neg (by rw[abg];decide)];exact avd
def ave:K7 uQ ⟨1,2,20,0,0,0,[]⟩ 0=⟨1,2,0,20,0,1,[],false⟩:=by cbv
def avf:K7 uQ ⟨2,3,40,20,50,0,[]⟩ 20=⟨2,3,20,40,0,1,[],false⟩:=by cbv
def avg:(rA uQ [(1,0),(2,20)] 0).map nl0=bz.ev:=by
 have h1:Gs uQ (1,0) 0=some ⟨1,2,20,0,0,0,[]⟩:=by cbv
 have h2:Gs uQ (2,20) 20=some ⟨2,3,40,20,50,0,[]⟩:=by cbv
 have hf:Yp uQ=50:=by cbv
 have hl:uQ.ln=200:=rfl;rw[rA,if_neg (by rw[hl];omega),lG,h1];simp only[hf,aom,zzce,zzah];rw[show(0:Int)+20=20 from rfl,lG,h2];simp only[hf,aom,zzce,zzah];rw[show(20:Int)+40=60 from rfl,lG,hf,hl,Mx zE zE zE,Mx zE zE zE,aon zE zE,ave,avf];try rfl
def avh:zK uQ=0:=by unfold zK;rw[if_neg (by rw[abg];decide),Pj]
def avi:nrm (zJ uQ)=bz:=by
 unfold zJ nrm;rw[Pj];simp only;rw[avg];try rfl
def aoo:Xp oL=true:=by
 unfold Xp;rw[if_neg (by simp[oL]),if_neg (by simp[oL]),if_neg (by simp[oL]),if_neg (by simp[oL])];simp[oL,okB,Ym,Yk,ez,dJ,eF,eG,eB]
def avj:Xp oD=true:=by
 unfold Xp;rw[if_neg (by simp[oD]),if_neg (by simp[oD]),if_neg (by simp[oD]),if_neg (by simp[oD])];simp[oD,okB,Ym,Yk,ez,dJ,eF,eG,eB]
def sD0:Wd ([]:Pi)=[]:=by unfold Wd;simp
def abh:uK bz 30 (Xu 30 bz.ev []) oL=some (tC,50):=by
 unfold uK;rw[if_neg (by simp[bz,uQ])];have hb:jM bz 30 (Xu 30 bz.ev []) oL=some (tC,50):=by cbv
 have hm:rM bz 30 (Xu 30 bz.ev []) oL tC 50=true:=by cbv
 rw[hb];simp only;rw[if_pos (by rw[avb,hm];rfl)]
def My:uK bz 20 (Xu 20 bz.ev []) oD=some (tD,0):=by
 unfold uK;rw[if_neg (by simp[bz,uQ])];have hb:jM bz 20 (Xu 20 bz.ev []) oD=some (tD,0):=by cbv
 have hm:rM bz 20 (Xu 20 bz.ev []) oD tD 0=true:=by cbv
 rw[hb];simp only;rw[if_pos (by rw[avc,hm];rfl)]
def abi:uK bz 20 (Xu 20 bz.ev []) oX=none:=by
 unfold uK;rw[if_neg (by simp[bz,uQ])];cases hb:jM bz 20 (Xu 20 bz.ev []) oX with
 |none=>rfl
 |some r=>
  obtain⟨q,d⟩:=r
  have hm:rM bz 20 (Xu 20 bz.ev []) oX q d=false:=by
   unfold rM;rw[if_neg (by simp[oX])];cbv
  simp only;rw[hm,zzhf,if_neg (by decide)]
def azC:IG bz oL=true:=by unfold IG;rw[aoo];try rfl
def avk:IG bz oD=true:=by unfold IG;rw[avj];try rfl
def aop:Sx bz oD=true:=by
 unfold Sx;rw[avk];show(true&&(uK bz 20 (Xu 20 bz.ev []) oD).isSome)=true;rw[My];try rfl
def aoq:Sx bz oX=false:=by
 unfold Sx;show(IG bz oX&&(uK bz 20 (Xu 20 bz.ev []) oX).isSome)=false;rw[abi,Option.isSome_none,zzhf]
def D2:tW bz 30 (Xu 30 bz.ev []) oL tC 50=some ⟨2,3,30,40,10,1,[],true⟩:=by cbv
def Mz:Wm bz 30 (Xu 30 bz.ev []) oL tC 50=70:=by unfold Wm;rw[D2];try rfl
def avl:Jp bz 30 (Xu 30 bz.ev []) oL tC 50=[⟨1,2,0,20,0,1,[],false⟩,⟨2,3,20,10,0,1,[],false⟩,⟨2,3,30,40,10,1,[],true⟩]:=by unfold Jp;rw[D2];cbv
def D3:Kg bz (Xu 30 bz.ev []) tC.ens=[]:=by cbv
def abj:xV bz 30 (Xu 30 bz.ev []) oL tC 50=[]:=by unfold xV;rw[D3];try rfl
def Pk:Yq bz 30 (Xu 30 bz.ev []) oL tC 50=[]:=by unfold Yq;rw[D3,abj];try rfl
def avm:RN bz 30 (Xu 30 bz.ev []) oL tC 50=[]:=by unfold RN;rw[D3,abj];try rfl
def ajS:Yp tC=50:=by cbv
theorem abk:tC.ln=200:=rfl
def ajT:IJ bz 30 (Xu 30 bz.ev []) oL tC 50=[⟨0,1,70,50,0,1,[],true⟩,⟨0,1,120,50,0,1,[],true⟩,⟨0,1,170,30,0,1,[],true⟩]:=by
 unfold IJ;rw[Pk,Mz,rA,if_neg (by rw[abk];omega),lG,ajS,abk,Mx zE zE zE,Mx zE zE zE,aon zE zE];try rfl
def avn:Ij bz oL=S2:=by
 have eu:=D2;have he:=Mz;have h1:=avl;have hi:=D3;have hk:=abj;have hs:=Pk;have hd:=avm;have hf:=ajS;have hl:=abk;have hb:=ajT;unfold Ij Uu;rw[if_neg (by rw[azC];decide)];have hx:uK bz oL.fr (Xu oL.fr bz.ev []) oL=some (tC,50):=abh;rw[hx];show nrm (nR bz oL (Xu 30 bz.ev []) tC 50)=S2;unfold nR;show nrm ({bz with p:=tC,ev:=Jp bz 30 _ _ tC 50++IJ bz 30 _ _ tC 50,dr:=dd (Wd (bz.dr++RN bz 30 _ _ tC 50)),ve:=bz.ve+1}:Pg)=S2;rw[h1,hb,hd];show nrm ({bz with p:=tC,ev:=_,dr:=dd (Wd []),ve:=_}:Pg)=S2;rw[sD0];try rfl
def D4:tW bz 20 (Xu 20 bz.ev []) oD tD 0=none:=by cbv
def MA:Wm bz 20 (Xu 20 bz.ev []) oD tD 0=20:=by unfold Wm;rw[D4]
def avo:Jp bz 20 (Xu 20 bz.ev []) oD tD 0=[⟨1,2,0,20,0,1,[],false⟩]:=by unfold Jp;rw[D4];cbv
def D5:Kg bz (Xu 20 bz.ev []) tD.ens=[]:=by cbv
def abl:xV bz 20 (Xu 20 bz.ev []) oD tD 0=[]:=by unfold xV;rw[D5];try rfl
def Pm:Yq bz 20 (Xu 20 bz.ev []) oD tD 0=[]:=by unfold Yq;rw[D5,abl];try rfl
def avp:RN bz 20 (Xu 20 bz.ev []) oD tD 0=[]:=by unfold RN;rw[D5,abl];try rfl
def ajU:Yp tD=50:=by cbv
theorem abm:tD.ln=200:=rfl
def ajV:IJ bz 20 (Xu 20 bz.ev []) oD tD 0=[⟨0,1,20,50,0,1,[],true⟩,⟨0,1,70,50,0,1,[],true⟩,⟨0,1,120,50,0,1,[],true⟩,⟨0,1,170,30,0,1,[],true⟩]:=by
 unfold IJ;rw[Pm,MA,rA,if_neg (by rw[abm];omega),lG,ajU,abm,Mx zE zE zE,Mx zE zE zE,Mx zE zE zE,aon zE zE];try rfl
def avq:Ij bz oD=exK:=by
 have eu:=D4;have he:=MA;have h1:=avo;have hi:=D5;have hk:=abl;have hs:=Pm;have hd:=avp;have hf:=ajU;have hl:=abm;have hb:=ajV;unfold Ij Uu;rw[if_neg (by rw[avk];decide)];have hx:uK bz oD.fr (Xu oD.fr bz.ev []) oD=some (tD,0):=My;rw[hx];show nrm (nR bz oD (Xu 20 bz.ev []) tD 0)=exK;unfold nR;show nrm ({bz with p:=tD,ev:=Jp bz 20 _ _ tD 0++IJ bz 20 _ _ tD 0,dr:=dd (Wd (bz.dr++RN bz 20 _ _ tD 0)),ve:=bz.ve+1}:Pg)=exK;rw[h1,hb,hd];show nrm ({bz with p:=tD,ev:=_,dr:=dd (Wd []),ve:=_}:Pg)=exK;rw[sD0];try rfl
def abn(e:En×Rt):P1:=[I e.1.id,I e.1.it,I e.1.fr,I e.1.ea,I e.1.la,I e.1.bo,.sl e.2 (e.1.al.map Qe)]
def aor(l:List (En×Rt))(rt:Rt):Wk (.sl rt (l.map abn)) (.sl .ro ((l.map (·.1)).map Qd)):=by
 refine Wk.trans (Wk.sl _ _) ?_;rw[zzcz];refine Wk.rows l abn (Qd ∘ (·.1)) (fun _=>rfl) fun a j c' h=>?_
 match j,h with
 |0,h=>exact⟨_,rfl,by cases h;exact Ps⟩
 |1,h=>exact⟨_,rfl,by cases h;exact Ps⟩
 |2,h=>exact⟨_,rfl,by cases h;exact Ps⟩
 |3,h=>exact⟨_,rfl,by cases h;exact Ps⟩
 |4,h=>exact⟨_,rfl,by cases h;exact Ps⟩
 |5,h=>exact⟨_,rfl,by cases h;exact Ps⟩
 |6,h=>exact⟨_,rfl,by cases h;exact Wk.sl _ _⟩
 |j+7,h=>simp[Qd]at h
def abo:P1:=[I 0,I 25,I 1,I 0,.sl .nil [],I 0,I 1,I 200,I 1,.sl .full [[I 1,I 5,I 50,I 0,I 0],[I 2,I 2,I 20,I 0,I 0],[I 3,I 4,I 100,I 0,I 0]],
 .sl .full [[I 1,I 2,I 20,I 0,I 0,I 0,.sl .nil []],[I 2,I 3,I 40,I 20,I 50,I 0,.sl .nil []]],.sl .nil [],
 .sl .full [[I 1,I 2,I 0,I 1000,I 255,I 0,I 0,I 0],[I 1,I 3,I 0,I 1000,I 255,I 0,I 0,I 0]]]
def MB:Pure Tryz.prog aD 17 [] (.agg abo):=by
 refine Qm aj3 (fun _ _ _=>.junk) zd ?_;simp[apf,apg,abo]
def SG:Pure Tryz.prog aD 17 [] (.agg (Qc uQ)):=
 Zc MB (Wq ⟨Ps,Ps,Ps,Ps,Wk.sl _ _,Ps,Ps,Ps,Ps,Wk.sl _ _,aor [(⟨1,2,20,0,0,0,[]⟩,.nil),(⟨2,3,40,20,50,0,[]⟩,.nil)] .full,Wk.sl _ _,Wk.sl _ _,trivial⟩)
def agF:Ec uQ:=by unfold Ec;decide
def Pn:PgC bz:=by unfold PgC Ec;decide
def SH:∀e∈bz.ev,Yl e:=by unfold Yl;decide
def SI:∀e∈S2.ev,Yl e:=by unfold Yl;decide
def SJ:∀e∈exK.ev,Yl e:=by unfold Yl;decide
def MC{f:Int}(h:0<=f/\f<=1000):nM bz f:=⟨by decide,SH,by unfold nJ;omega,by decide⟩
def MD{o:Od}(h1:o.nw.al.length<=1000)(h2:0<=o.fr/\o.fr<=1000)(h3:o.ki=1\/o.ki=2)(h4:pX o.n)
  (h5:∀q d,uK bz o.fr (Xu o.fr bz.ev []) o=some (q,d)->Hx bz o.fr (Xu o.fr bz.ev []) o q d/\(Yq bz o.fr (Xu o.fr bz.ev []) o q d).length<=1000000/\(IJ bz o.fr (Xu o.fr bz.ev []) o q d).length<=10000000):LI bz o:=
 ⟨Pn,zE,by decide,by decide,h3,fun _=>⟨fun _=>MC h2,Pn.1,h2.1,by decide,h4,by unfold pX;decide,by decide,zE,h3⟩,fun _=>h5⟩
def avr:LI bz oL:=by
 refine MD (by decide) (by decide) (by decide) (by unfold pX;decide) fun q d hx=>?_;cases Option.some.inj (abh.symm.trans hx);refine⟨⟨MC (by decide),by unfold Ec;decide,⟨by decide,by decide,by decide,by decide,by decide,by decide,by decide,by decide,by decide,by decide⟩,by decide,by decide,by decide,by decide,by decide,by decide,fun e he=>?_,?_,fun s hs=>?_⟩,?_,?_⟩
 ·cases Option.some.inj (D2.symm.trans he);unfold Yl;decide
 ·rw[show Wm bz oL.fr (Xu oL.fr bz.ev []) oL tC 50=70 from Mz];decide
 ·rw[show Yq bz oL.fr (Xu oL.fr bz.ev []) oL tC 50=[]from Pk]at hs;cases hs
 ·rw[show Yq bz oL.fr (Xu oL.fr bz.ev []) oL tC 50=[]from Pk];decide
 rw[show IJ bz oL.fr (Xu oL.fr bz.ev []) oL tC 50=_ from ajT];decide
def ajW:LI bz oD:=by
 refine MD (by decide) (by decide) (by decide) (by unfold pX;decide) fun q d hx=>?_;cases Option.some.inj (My.symm.trans hx);refine⟨⟨MC (by decide),by unfold Ec;decide,⟨by decide,by decide,by decide,by decide,by decide,by decide,by decide,by decide,by decide,by decide⟩,by decide,by decide,by decide,by decide,by decide,by decide,fun e he=>?_,?_,fun s hs=>?_⟩,?_,?_⟩
 ·cases D4.symm.trans he
 ·rw[show Wm bz oD.fr (Xu oD.fr bz.ev []) oD tD 0=20 from MA];decide
 ·rw[show Yq bz oD.fr (Xu oD.fr bz.ev []) oD tD 0=[]from Pm]at hs;cases hs
 ·rw[show Yq bz oD.fr (Xu oD.fr bz.ev []) oD tD 0=[]from Pm];decide
 rw[show IJ bz oD.fr (Xu oD.fr bz.ev []) oD tD 0=_ from ajV];decide
def avt:LI bz oX:=
 MD (by decide) (by decide) (by decide) (by unfold pX;decide) fun q d hx=>by cases abi.symm.trans hx
def aos:aob bz:=⟨by decide,by decide,by decide,by decide,by decide,by decide,by decide,by decide,by decide,by decide⟩
def agG:Pure Tryz.prog aD 16 [.agg (Qc uQ)] (.aS [.agg (Qo bz),.sl .ro [],I 0]):=by
 have k:=Sv uQ ⟨agF,by decide,by decide,fun l h=>by cases Option.some.inj (Pj.symm.trans h);decide⟩
 have e:an8 uQ=.aS [.agg (Qo bz),.sl .ro [],I 0]:=by
  unfold an8 DF;rw[avh,Pj,abg,<- BQ,avi];try rfl
 rw[e]at k;exact k
def qo(q c f k e n:Int):P1:=[I q,I c,I f,I k,I e,I n,I 0,I 0,I 0,I 0,I 0,I 0,.sl .nil [],I 0,I 0,I 0,I 0,I 0,I 0,I 0,I 0,I 0,I 0,I 0,I 0,.str ⟨#[]⟩]
def BS(q c f k e n:Int):Wk (.agg (qo q c f k e n)) (.agg (Qt ⟨q,c,f,k,e,n,dJ,eF,eG⟩)):=
 Wq ⟨Ps,Ps,Ps,Ps,Ps,Ps,Ps,Ps,Ps,Ps,Ps,Ps,Wk.sl _ _,Ps,Ps,Ps,Ps,Ps,Ps,Ps,Ps,Ps,Ps,Ps,Ps,Ps,trivial⟩
def aot:Pure Tryz.prog aD 18 [.agg (Qo bz),.agg (qo 1 (-1) 30 1 2 10)] (.agg (Qo S2)):=by
 have k:=xX bz oL avr;rw[<- yH,avn]at k;exact Xl k ⟨Ps,BS _ _ _ _ _ _,trivial⟩
def aou:Pure Tryz.prog aD 18 [.agg (Qo bz),.agg (qo 1 0 20 2 2 0)] (.agg (Qo exK)):=by
 have k:=xX bz oD ajW;rw[<- yH,avq]at k;exact Xl k ⟨Ps,BS _ _ _ _ _ _,trivial⟩
def azD:Pure Tryz.prog aD 20 [.agg (Qo bz),.agg (qo 1 0 20 2 2 0)] (.bool true):=by
 have k:=BR bz oD ajW;rw[aop]at k;exact Xl k ⟨Ps,BS _ _ _ _ _ _,trivial⟩
def azE:Pure Tryz.prog aD 20 [.agg (Qo bz),.agg (qo 1 0 20 2 1 0)] (.bool false):=by
 have k:=BR bz oX avt;rw[aoq]at k;exact Xl k ⟨Ps,BS _ _ _ _ _ _,trivial⟩
def azF:Pure Tryz.prog aD 9 [.agg (qo 1 0 20 2 2 0)] (.bool true):=by
 have k:=Wj oD (by decide);rw[avj]at k;exact Xl k ⟨BS _ _ _ _ _ _,trivial⟩
def agH:Pure Tryz.prog aD 21 [.agg (Qo bz),.agg (Qo bz)] (.bool true):=aoe bz aos
def agI(g h:Pg)(hv:g.ve≠h.ve):Pure Tryz.prog aD 21 [.agg (Qo g),.agg (Qo h)] (.bool false):=by
 refine Qm S3 (fun _ _ _=>.bool true) zd ?_;by_cases he:g.ed=h.ed
 ·simp[abG,abH,Qo,Qc,he,hv]
 simp[abG,abH,Qo,Qc,he,hv]
def azG:Pure Tryz.prog aD 19 [.sl .ro (S2.ev.map Qg),I 69] (.aS [.agg [I 2,I 3,I 30,I 40,I 10,I 1,.sl .ro []],I 49,.bool true]):=by
 have k:=Ig S2.ev 69 (by decide) SI zE;have e:ya 69 (DG 69 S2.ev)=.aS [.agg [I 2,I 3,I 30,I 40,I 10,I 1,.sl .ro []],I 49,.bool true]:=by cbv
 rw[e]at k;exact k
def azH:Pure Tryz.prog aD 19 [.sl .ro (exK.ev.map Qg),I 30] (.aS [.agg [I 0,I 1,I 20,I 50,I 0,I 1,.sl .ro []],I 10,.bool true]):=by
 have k:=Ig exK.ev 30 (by decide) SJ zE;have e:ya 30 (DG 30 exK.ev)=.aS [.agg [I 0,I 1,I 20,I 50,I 0,I 1,.sl .ro []],I 10,.bool true]:=by cbv
 rw[e]at k;exact k
def D6(q c f k e n:Int):P1:=[I q,I c,I f,I k,I e,I n,I 0,I 0,I 0,I 0,I 0,I 0,.sl .ro [],I 0,I 0,I 0,I 0,I 0,I 0,I 0,I 0,I 0,I 0,I 0,I 0,.str ⟨#[]⟩]
def avu:Ya oL=[2,1,60,2,4,20]:=by decide
def Ik:Pure Tryz.prog aD 8 [.agg (qo 1 (-1) 30 1 2 10)] (.aS [.str ⟨#[2,1,60,2,4,20]⟩,I 0]):=by
 have k:=tB oL (by decide) (by decide);unfold Mr at k;rw[if_pos aoo,avu]at k;exact Xl k ⟨BS _ _ _ _ _ _,trivial⟩
def Il{a0 a1:Addr}(aK:a0≠a1):Pure Tryz.prog (fT a0 a1) 10 [.str ⟨#[2,1,60,2,4,20]⟩] (.aS [.agg (D6 1 (-1) 30 1 2 10),I 0]):=by
 have k:=tw aK ⟨#[2,1,60,2,4,20]⟩ (by decide);rw[show aU ⟨#[2,1,60,2,4,20]⟩=Ya oL from by rw[avu];rfl,aaJ aoo (by decide)]at k;exact k
def abp:X1:=fun d f _=>if f=17 then .agg (Qc uQ)else if f=16 then .aS [.agg (Qo bz),.sl .ro [],I 0]else if f=18 then(if d=29 then .agg (Qo S2)else .agg (Qo exK))
 else if f=8 then .aS [.str ⟨#[2,1,60,2,4,20]⟩,I 0]else if f=10 then .aS [.agg (D6 1 (-1) 30 1 2 10),I 0]
 else if f=19 then(if d=46 then .aS [.agg [I 2,I 3,I 30,I 40,I 10,I 1,.sl .ro []],I 49,.bool true]else .aS [.agg [I 0,I 1,I 20,I 50,I 0,I 1,.sl .ro []],I 10,.bool true])
 else if f=20 then .bool (decide (d≠59))else if f=9 then .bool true else if f=21 then .bool (decide (d=130))else .junk
def aov{a0 a1:Addr}(aK:a0≠a1):Pure Tryz.prog (fT a0 a1) 6 [] (.bool true):=by
 have h1:Qf (bz.ev.map Qg) 1=[I 2,I 3,I 20,I 40,I 0,I 1,.sl .ro []]:=rfl;have h2:bz.ev.length=5:=rfl;have h3:S2.ve=1:=rfl;have k1:=H7 (a0:=a0) (a1:=a1) SG;have k2:=H7 (a0:=a0) (a1:=a1) agG;have k3:=H7 (a0:=a0) (a1:=a1) aot;have k4:=H7 (a0:=a0) (a1:=a1) aou;have k5:=H7 (a0:=a0) (a1:=a1) Ik;have k6:=Il aK;have k7:=H7 (a0:=a0) (a1:=a1) azG;have k8:=H7 (a0:=a0) (a1:=a1) azH;have k9:=H7 (a0:=a0) (a1:=a1) azE;have k10:=H7 (a0:=a0) (a1:=a1) azF;have k11:=H7 (a0:=a0) (a1:=a1) azD;have ZI:=H7 (a0:=a0) (a1:=a1) agH;have k13:=H7 (a0:=a0) (a1:=a1) (agI bz S2 (by decide));simp only[Qo,Qc,qo,D6,zzaf,zzah]at k1 k2 k3 k4 k5 k6 k7 k8 k9 k10 k11 ZI k13;refine Qm apa abp zd ?_;simp[sc6,rs6,abp,Qo,Qc,qo,D6,h1,h2,h3];exact⟨k1,k2,k3,k4,k5,k6,k7,k8,k9,k10,k11,ZI,k13⟩
def aow(a b:List Sp)(f:Nat->AV)(m:AM):Prop:=∃i:Nat,f 5=I i/\i<=a.length/\(∀j,j<i->a[j]?=b[j]?)/\m=⟨[],[],fun _=>.gone,0⟩
def aox{gl:Nat->AV}(a b:List Sp)(ha:a.length<=8796093022208)(hb:b.length<=8796093022208)(r:Bool)(hr:r=true<->a=b):Pure Tryz.prog gl 129 [.sl .ro (a.map Qe),.sl .ro (b.map Qe)] (.bool r):=by
 refine Qm MV (fun _ _ _=>.junk) zd ?_;by_cases hl:a.length=b.length
 ·have hli:((a.length:Int) !=b.length)=false:=by simp[hl]
  simp[Ac,hl];refine Qk fJ (aow a b) (fun f _=>a.length-(numOf (f 5)).toNat) ?_ ?_
  ·exact⟨0,zd,zE,fun j h=>zE,rfl⟩
  rintro f m ⟨i,f5,hi,hq,rfl⟩;rcases zzab i a.length with ah|bu
  ·obtain⟨s,hs⟩:=aX ah;obtain⟨t,ht⟩:∃t,b[i]?=some t:=⟨_,zzac zE⟩;have h1:Qf (a.map Qe) i=Qe s:=Qv (by simp[hs]);have h2:Qf (b.map Qe) i=Qe t:=Qv (by simp[ht]);have aa:(i:Int)<(b.length:Int):=zE
   have hw:=bO i zE;by_cases cI:s=t
   ·subst cI;simp[f5,fJ,hl,aa,hw,h1,h2,Qe];refine⟨aP,⟨i+1,zd,zE,fun j hj=>?_,rfl⟩,zE⟩
    ·rcases zzab j i with h|h
     ·exact hq j h
     obtain rfl:j=i:=zE
     rw[hs,ht]
   obtain rfl:r=false:=by
    cases r
    ·rfl
    have:=hr.1 rfl;rw[this,ht]at hs;exact(cI (by cases hs;rfl)).elim
   have azI:¬(s.1=t.1/\s.2=t.2):=fun h=>cI (Prod.ext h.1 h.2);by_cases he:s.1=t.1
   ·have Lo:¬s.2=t.2:=fun h=>azI ⟨he,h⟩;simp[f5,fJ,hl,aa,hw,h1,h2,Qe,he,Lo,oq]
   simp[f5,fJ,hl,aa,hw,h1,h2,Qe,he,oq]
  obtain rfl:i=a.length:=zE
  obtain rfl:r=true:=hr.2 (zzct fun j=>by
   rcases zzab j a.length with h|h
   ·exact hq j h
   rw[zzar h,zzar zE])
  simp[f5,fJ,oq,hl]
 obtain rfl:r=false:=by
  cases r
  ·rfl
  exact(hl (by rw[hr.1 rfl])).elim
 have hli:¬((a.length:Int)=b.length):=zE
 simp[Ac,hli,oq]
def enV(e:En)(rt:Rt):P1:=[I e.id,I e.it,I e.fr,I e.ea,I e.la,I e.bo,.sl rt (e.al.map Qe)]
def aoy{gl:Nat->AV}(a b:En)(ha:a.al.length<=8796093022208)(hb:b.al.length<=8796093022208)(r:Bool)(hr:r=true<->a=b):Pure Tryz.prog gl 76 [.agg (enV a .ro),.agg (enV b .ro)] (.bool r):=by
 have k:=aox (gl:=gl) a.al b.al ha hb (decide (a.al=b.al)) zd;refine Qm Th (fun _ _ _=>.bool (decide (a.al=b.al))) zd ?_;simp[ak3,ak4,enV];refine⟨k,?_⟩;rw[zzbq,hr];cases a;cases b;simp only[zzak,decide_eq_true_eq,beq_iff_eq,En.mk.injEq];constructor<;>(intro h;simp_all)
open Classical in
def abq{gl:Nat->AV}(a b:Od)(ha:a.nw.al.length<=8796093022208)(hb:b.nw.al.length<=8796093022208)(r:Bool)(hr:r=true<->a=b):Pure Tryz.prog gl 36 [.agg (bB a .ro),.agg (bB b .ro)] (.bool r):=by
 obtain⟨q,hq⟩:∃q:Bool,q=true<->a.nw=b.nw:=⟨decide (a.nw=b.nw),zd⟩;have k:=aoy (gl:=gl) a.nw b.nw ha hb q hq;refine Qm S4 (fun _ _ _=>.bool q) zd ?_;simp[akk,akl,bB];refine⟨k,?_⟩;rw[zzbq,hr];obtain⟨a1,a2,a3,a4,a5,a6,a7,⟨a8,a9,a10,a11,a12,a13,a14,a15⟩,⟨a16,a17,a18,a19,⟨⟨a20⟩⟩⟩⟩:=a;obtain⟨b1,b2,b3,b4,b5,b6,b7,⟨b8,b9,b10,b11,b12,b13,b14,b15⟩,⟨b16,b17,b18,b19,⟨⟨b20⟩⟩⟩⟩:=b;simp only[zzak,hq,beq_iff_eq,Od.mk.injEq,Cl.mk.injEq,Cue.mk.injEq,ByteArray.toList_eq,ByteArray.mk.injEq,Array.mk.injEq];constructor<;>(intro h;simp_all)
def ME{gl:Nat->AV}(a b:Od)(ha:a.nw.al.length<=8796093022208)(hb:b.nw.al.length<=8796093022208)(r:Bool)(hr:r=true<->a=b):Pure Tryz.prog gl 12 [.agg (bB a .ro),.agg (bB b .ro)] (.bool r):=by
 have k:=abq (gl:=gl) a b ha hb r hr;refine Qm aj0 (fun _ _ _=>.bool r) zd ?_;simp only[bB]at k;simp[apd,ape,bB];exact k
def r9(o:Od):Od:={o with nw:={o.nw with al:=o.nw.al.take 9},cu:={o.cu with tx:=o.cu.tx.extract 0 (if 300<o.cu.tx.size then 300 else o.cu.tx.size)}}
def azJ{gl:Nat->AV}(o:Od):Pure Tryz.prog gl 7 [.agg (bB o .ro)] (.agg (bB (r9 o) .ro)):=by
 have t1:List.take (if(9:Int)<(o.nw.al.length:Int)then(9:Int)else(o.nw.al.length:Int)).toNat (o.nw.al.map Qe)=List.take 9 (o.nw.al.map Qe):=by
  have:=afA (o.nw.al.map Qe) 9;rw[zzbv]at this;exact this
 have a1:=ZK (a:=o.nw.al.length) 9;have b1:=ZL (a:=o.nw.al.length) 9;have a2:=ZK (a:=o.cu.tx.size) 300;have b2:=ZL (a:=o.cu.tx.size) 300
 have e2:(if(300:Int)<(o.cu.tx.size:Int)then(300:Int)else(o.cu.tx.size:Int)).toNat=if 300<o.cu.tx.size then 300 else o.cu.tx.size:=by
  by_cases h:300<o.cu.tx.size
  ·rw[if_pos h,if_pos zE];try rfl
  rw[if_neg h,if_neg zE];omega
 simp at a1 b1 a2 b2;refine Qm apb (fun _ _ _=>.junk) zd ?_;simp[sc7,rs7,bB,r9,t1,a1,b1,a2,b2,e2];rintro row a b _ rfl;rfl
def pk(v n:Int):Int:=if v<0 then(-(v+1)).tmod n else v.tmod n
def agJ(o:Od):(r9 o).cu.tx.size<=300/\(r9 o).nw.al.length<=9:=by
 constructor
 ·show(o.cu.tx.extract 0 _).size<=300;rw[zzen];split<;>omega
 show(o.nw.al.take 9).length<=9;rw[zzav];omega
def MF(h ns:Pi)(al:List Sp)(tx:ByteArray):(gN h ns al tx).cu.tx.size<=tx.size:=by
 unfold gN;simp only;split
 ·exact zzaa _
 exact zzbe _
def agK{l:P2}{o:Od}(h:Zl l=.ok o):o.cu.tx.size<=l.length:=by
 unfold Zl at h;split at h
 ·cases h
 split at h
 ·cases h
 split at h
 ·cases h
 rename_i hd a _ _ _ ns b _;unfold yz at h;split at h
 ·unfold rd3 at h;split at h
  ·cases h
  split at h
  ·cases h
  split at h
  ·cases h
  split at h
  ·cases h;exact zzaz (MF _ _ _ _) (zzbe _)
  cases h
 split at h
 ·unfold rd5 at h;split at h
  ·cases h
  rename_i t e hr;split at h
  ·cases h;refine zzaz (MF _ _ _ _) ?_;rw[Uo];unfold BK at hr;split at hr
   ·cases hr
   split at hr
   ·cases hr
   cases hr;rw[zzav,zzcw];omega
  cases h
 split at h
 ·cases h;exact zzaz (MF _ _ _ _) (zzbe _)
 cases h
def agL{l:P2}{o:Od}(h:Ka l=.ok o):o.cu.tx.size<=l.length/\o.nw.al.length<=7:=by
 have:Zl l=.ok o:=by
  unfold Ka at h;split at h
  ·rename_i p hp;split at h
   ·cases h;exact hp
   cases h
  rename_i x hx;exact h
 exact⟨agK this,Pe this⟩
def MG(s:ByteArray):ByteArray:=s.extract 0 (if 500<s.size then 500 else s.size)
def agM(s:ByteArray):(MG s).size<=500:=by
 unfold MG;rw[zzen];split<;>omega
def Po:Wk (.agg (bB oZ .nil)) (.agg (bB oZ .ro)):=
 Wq ⟨Ps,Ps,Ps,Ps,Ps,Ps,Ps,Ps,Ps,Ps,Ps,Ps,Wk.sl _ _,Ps,Ps,Ps,Ps,Ps,Ps,Ps,Ps,Ps,Ps,Ps,Ps,Ps,trivial⟩
def abr:SC:=(⟨_,by cbv⟩:we [1,1,1,1,1,1,1,1] IM).1
def mC:SC:=(⟨_,fun _=>by cbv⟩:jh [1] (AT [1,1,1,1,1,1,1] IM)).1 abr
def ajX:SC:=(⟨_,fun _=>by cbv⟩:jh [1] (AT [1,1,1,1,1,1] IM)).1 mC
def ajY:SC:=(⟨_,fun _=>by cbv⟩:jh [1,1,1] (AT [1,1,1] IM)).1 ajX
def avv:SC:=(⟨_,fun _=>by cbv⟩:jh [1,1,1] IM).1 ajY
theorem agN:IM=avv:=rfl
def Pp(s:ByteArray):X1:=fun _ f _=>if f=15 then(match Zl (aU s)with|.ok o=>.bool (Xp o)|_=>.bool false)else .gd false .junk
def DcR(d:DR)(o:Od)(rt:Rt)(x:Od)(dA:Rt)(c:Int):Prop:=match d with
 |.ok p=>x=p/\p=o/\dA=rt/\c=0
 |.wire=>x=oZ/\dA=.nil/\c=10
 |.rep=>x=oZ/\dA=.nil/\c=110
def abt(o:Od)(rt:Rt):Wk (.agg (bB o rt)) (.agg (Qt o)):=
 Wq ⟨Ps,Ps,Ps,Ps,Ps,Ps,Ps,Ps,Ps,Ps,Ps,Ps,Wk.sl _ _,Ps,Ps,Ps,Ps,Ps,Ps,Ps,Ps,Ps,Ps,Ps,Ps,Ps,trivial⟩
variable {s:ByteArray}
def jY{a:Nat}{e:Int}{o:Od}{rt:Rt}{B:X2}{L:P2}{st:Nat->LS}{ln:Nat}{E:QP}{Q:So}(hs:s.size<=1000000)(ha:a<=s.size)(hB:2<B.length)(h0:Qf B 0=bB oZ .nil)(h1:Qf B 1=[.str s,I a,I e])(h2:Qf B 2=bB o rt)
  (e0:Abs.look E 0=.str s)(e2:Abs.look E 2=.ptr 0 0)(e4:Abs.look E 4=.ptr 1 0)(e5:Abs.look E 5=.ptr 2 0)(fc:o.nw.al.length<=8796093022208)(bn:rt=.nil\/∃k,rt=.own k 2)
  (zm:(e=0/\Zl (aU s)=if a=s.size then .ok o else .wire)\/(e=10/\Zl (aU s)=.wire)\/(e=110/\Zl (aU s)=.rep))
  (hQ:∀(E':QP)(B':X2)(x:Od)(dA:Rt)(c:Int),Abs.look E' 2=.ptr 0 0->Abs.look E' 3=I c->2<B'.length->Qf B' 0=bB x dA->DcR (Ka (aU s)) o rt x dA c->Q .ret ⟨Za 120 E',⟨B',L,st,ln⟩⟩):
  vc Tryz.prog aD (Pp s) Y0 abr ⟨Za 120 E,⟨B,L,st,ln⟩⟩ Q:=by
 have A2:1<B.length:=zE
 have dZ:0<B.length:=zE
 unfold abr;have g1:∀v,Qf (B.set 1 v) 1=v:=fun v=>Xj _ A2;have g0:∀v,Qf (B.set 1 v) 0=bB oZ .nil:=fun v=>by rw[Qx _ zE];exact h0
 have f0:∀v,Qf (B.set 0 v) 0=v:=fun v=>Xj _ dZ;have kv:∀dA,Pure Tryz.prog aD 15 [.agg (bB o dA)] (.bool (Xp o)):=fun dA=>Xl (D0 o fc) ⟨abt o dA,trivial⟩;have ai:∀x dA,bB x dA=[I x.sq,I x.ch,I x.fr,I x.ki,I x.en,I x.n,I x.nw.id,I x.nw.it,I x.nw.fr,I x.nw.ea,I x.nw.la,I x.nw.bo,.sl dA (x.nw.al.map Qe),I x.cl.ki,I x.cl.it,I x.cl.fr,I x.cl.to,I x.cl.re,I x.cl.n,I x.cl.a,I x.cl.b,I x.cu.id,I x.cu.fr,I x.cu.to,I x.cu.pr,.str x.cu.tx]:=fun _ _=>rfl;simp only[bB]at kv;obtain⟨rfl,h⟩|⟨rfl,h⟩|⟨rfl,h⟩:=zm
 ·by_cases hc:a=s.size
  ·rw[if_pos hc]at h;subst hc;have hd:Ka (aU s)=if Xp o then .ok o else .rep:=by unfold Ka;rw[h]
   cases hv:Xp o with
   |true=>
    rw[hv]at kv;obtain rfl|⟨k,rfl⟩:=bn
    ·simp[h0,h1,h2,g0,g1,bB,oZ,e0,e2,e4,e5,hB,A2,dZ,Pp,h,hv];exact⟨kv _,hQ _ _ o .nil 0 (by simp[e2]) zd (Nm hB) (f0 _) (by rw[hd,hv];exact⟨rfl,rfl,rfl,rfl⟩)⟩
    simp[h0,h1,h2,g0,g1,bB,oZ,e0,e2,e4,e5,hB,A2,dZ,Pp,h,hv];exact⟨kv _,hQ _ _ o (.own k 2) 0 (by simp[e2]) zd (Nm hB) (f0 _) (by rw[hd,hv];exact⟨rfl,rfl,rfl,rfl⟩)⟩
   |false=>
    rw[hv]at kv;obtain rfl|⟨k,rfl⟩:=bn
    ·simp[h0,h1,h2,g0,g1,bB,oZ,e0,e2,e4,e5,hB,A2,dZ,Pp,h,hv];exact⟨kv _,hQ _ _ oZ .nil 110 (by simp[e2]) zd (Nm hB) (f0 _) (by rw[hd,hv];exact⟨rfl,rfl,rfl⟩)⟩
    simp[h0,h1,h2,g0,g1,bB,oZ,e0,e2,e4,e5,hB,A2,dZ,Pp,h,hv];exact⟨kv _,hQ _ _ oZ .nil 110 (by simp[e2]) zd (Nm hB) (f0 _) (by rw[hd,hv];exact⟨rfl,rfl,rfl⟩)⟩
  have ah:(a:Int)<s.size:=zE
  rw[if_neg hc]at h;have hd:Ka (aU s)=.wire:=by unfold Ka;rw[h]
  simp[h0,h1,h2,g0,g1,bB,oZ,e0,e2,e4,e5,hB,A2,dZ,ah];refine Jc [(.junk,⟨(B.set 1 [.str s,I a,I 10]).set 0 (bB oZ .nil),L,st,ln⟩)] ?_;simp[h0,h1,h2,g0,g1,bB,oZ,e0,e2,e4,e5,hB,A2,dZ,Qx];exact⟨rfl,hQ _ _ oZ .nil 10 (by simp[e2]) zd (Nm hB) (Xj _ (Nm dZ)) (by rw[hd];exact⟨rfl,rfl,rfl⟩)⟩
 ·have hd:Ka (aU s)=.wire:=by unfold Ka;rw[h]
  simp[h0,h1,h2,g0,g1,bB,oZ,e0,e2,e4,e5,hB,A2,dZ];refine Jc [(.junk,⟨B.set 0 (bB oZ .nil),L,st,ln⟩)] ?_;simp[h0,h1,h2,g0,g1,bB,oZ,e0,e2,e4,e5,hB,A2,dZ,Qx];exact⟨rfl,hQ _ _ oZ .nil 10 (by simp[e2]) zd (Nm hB) (f0 _) (by rw[hd];exact⟨rfl,rfl,rfl⟩)⟩
 have hd:Ka (aU s)=.rep:=by unfold Ka;rw[h]
 simp[h0,h1,h2,g0,g1,bB,oZ,e0,e2,e4,e5,hB,A2,dZ];refine Jc [(.junk,⟨B.set 0 (bB oZ .nil),L,st,ln⟩)] ?_;simp[h0,h1,h2,g0,g1,bB,oZ,e0,e2,e4,e5,hB,A2,dZ,Qx];exact⟨rfl,hQ _ _ oZ .nil 110 (by simp[e2]) zd (Nm hB) (f0 _) (by rw[hd];exact⟨rfl,rfl,rfl⟩)⟩
def MH:DR->AV
 |.ok o=>.aS [.agg (bB o (if o.nw.al=[]then .nil else .ro)),I 0]
 |.wire=>.aS [.agg (bB oZ .nil),I 10]
 |.rep=>.aS [.agg (bB oZ .nil),I 110]
def eq3{B:X2}{x y z:P1}(h:B.length=3)(h0:Qf B 0=x)(h1:Qf B 1=y)(h2:Qf B 2=z):B=[x,y,z]:=by
 match B,h with
 |[a,b,c],_=>subst h0 h1 h2;rfl
def zW(q c f k:Int):Od:=⟨q,c,f,k,0,0,dJ,eF,eG⟩
def Pq{l:P2}{q c f k:Int}{a:Nat}(h:dF 4 l 0=some ([q,c,f,k],a)):Zl l=if k<1\/5<k then .rep else match dF (Vm k) l a with
  |none=>.wire
  |some (ns,b)=>yz l [q,c,f,k] ns b:=by unfold Zl;rw[h]<;>rfl
def aoz{l:P2}(hb:∀x∈l,x<256){a:Nat}{e:Int}(h:a<=l.length):(txR l a e).2.1<=l.length:=by
 unfold txR BK;split
 ·cases hr:fO l a with
  |none=>exact h
  |some x=>
   obtain⟨n,d⟩:=x;have:=(Qaj hb hr).2.2.2;simp only;split
   ·exact h
   rename_i t b h2;split at h2
   ·cases h2
   cases h2;show d+n.toNat<=l.length;omega
 exact h
def abu{l:P2}(hb:∀x∈l,x<256):∀(c:Nat){a:Nat}{e:Int},a<=l.length->(nX l c a e).2.1<=l.length
 |0,a,e,h=>h
 |c+1,a,e,h=>by rw[nX];exact abu hb c (Mu hb h)
def Pr(l:P2):∀(c a:Nat)(e:Int),(nX l c a e).1.length=c
 |0,a,e=>rfl
 |c+1,a,e=>by rw[nX];simp only[zzba,Pr l c]
def agO{l:P2}{q c f n0 n1 n2 n3 n4 n5:Int}{a a':Nat}{e':Int}{al:List Sp}(h:EnR l a 0 [n0,n1,n2,n3,n4,n5] al a' e')(hS:Zl l=match dF 6 l a with
  |none=>.wire
  |some (ns,b)=>yz l [q,c,f,3] ns b):(e'=0/\Zl l=if a'=l.length then .ok ⟨q,c,f,3,0,0,⟨n0,n1,n2,n3,n4,n5,al⟩,eF,eG⟩else .wire)\/(e'=10/\Zl l=.wire)\/(e'=110/\Zl l=.rep):=by
 obtain⟨b,g,c',d,g',h1,h2,h3,h4,h5,h6⟩:=h
 have bad:g'≠0->e'=g':=fun hg=>by
  obtain⟨_,h,_⟩|⟨_,h,_⟩:=h6
  ·exact absurd h hg
  rw[h,if_neg hg]
 cases hr:dF 6 l a with
 |none=>
  rw[hr]at hS;have:=(Qba _ 6 a hr).1;rw[h1]at this;simp only at this;subst this;have:fI l b 10=(0,b,10):=by unfold fI;rw[if_neg (by decide)]
  unfold ctR at h2;rw[this,if_neg zd]at h2;cases h2;exact .inr (.inl ⟨bad (by decide),hS⟩)
 |some y=>
  obtain⟨ns,b'⟩:=y;rw[hr]at hS;have:=Qaz _ 6 a hr;rw[h1]at this;cases this;simp only[yz,rd3]at hS;have hn:fI l b 0=match fO l b with|none=>(0,b,10)|some (n,b)=>(n,b,0):=by unfold fI;rw[if_pos rfl]<;>rfl
  unfold ctR at h2;rw[hn]at h2;cases dB:fO l b with
  |none=>
   rw[dB]at h2 hS;simp at h2;obtain⟨rfl,rfl,rfl⟩:=h2;exact .inr (.inl ⟨bad (by decide),hS⟩)
  |some y=>
   obtain⟨cc,d'⟩:=y;rw[dB]at h2 hS;simp only at h2 hS;by_cases hc:cc<0\/7<cc
   ·rw[if_pos ⟨trivial,hc⟩]at h2;cases h2
    have hS':Zl l=.rep:=by
     rw[hS];show(if cc<0\/7<cc then DR.rep else _)=_;rw[if_pos hc]
    exact .inr (.inr ⟨bad (by decide),hS'⟩)
   rw[if_neg (fun h=>hc h.2)]at h2;simp only[Prod.mk.injEq]at h2;obtain⟨u1,u2,u3⟩:=h2;subst u1 u2 u3
   have hS':Zl l=match dF (2*cc.toNat) l d' with
     |none=>.wire
     |some (as',e)=>if e=l.length then .ok (gN [q,c,f,3] [n0,n1,n2,n3,n4,n5] (zQ as') eB)else .wire:=by
    rw[hS];show(if cc<0\/7<cc then DR.rep else _)=_;rw[if_neg hc];try rfl
   obtain⟨he,_,hR⟩|⟨he,hg,hR⟩:=h6
   ·rw[h5 he,zzex,Nat.mul_zero,dF]at hR;simp only[zzcb,zzau]at hR;refine .inl ⟨he,?_⟩;rw[hS',hR];simp only[kY];rfl
   rw[if_pos rfl]at hg;exact .inr (.inl ⟨hg,by rw[hS',hR rfl]⟩)
def aoA{q c f k:Int}{a:Nat}{E:QP}{Q:So}(hs:s.size<=1000000)(ha:a<=s.size)(hr:dF 4 (aU s) 0=some ([q,c,f,k],a))(hk:¬(k<1\/5<k))
  (e0:Abs.look E 0=.str s)(e2:Abs.look E 2=.ptr 0 0)(e4:Abs.look E 4=.ptr 1 0)(e5:Abs.look E 5=.ptr 2 0)
  (hQ:∀(E':QP)(B':X2)(L':P2)(o:Od)(rt:Rt)(x:Od)(dA:Rt)(c:Int),Abs.look E' 2=.ptr 0 0->Abs.look E' 3=I c->2<B'.length->Qf B' 0=bB x dA->DcR (Ka (aU s)) o rt x dA c->(o.nw.al=[]/\rt=.nil\/o.nw.al≠[]/\∃k,rt=.own k 2/\L'[k]?=some o.nw.al.length)->Q .ret ⟨Za 120 E',⟨B',L',fun _=>.gone,0⟩⟩):
  vc Tryz.prog aD (Pp s) Y0 mC ⟨Za 120 E,⟨[bB oZ .nil,[.str s,I a,I 0],bB (zW q c f k) .nil],[],fun _=>.gone,0⟩⟩ Q:=by
 have hS:=Pq hr;rw[if_neg hk]at hS;rcases(show k=1\/k=2\/k=3\/k=4\/k=5 by omega)with rfl|rfl|rfl|rfl|rfl
 ·have D7:Vm 1=2:=rfl;rw[D7]at hS;unfold mC;simp[bB,zW,e4,e5,Pp];refine Ko (id:=1) ha hs zd rfl fun n1 a1 f1 h1 b1=>?_;simp[e4,e5];refine Ko (id:=1) b1 hs zd rfl fun n2 a2 f2 h2 b2=>?_;simp[e4,e5];have sA:nX (aU s) 2 a 0=([n1,n2],a2,f2):=by simp[nX,h1,h2]
  refine jY (a:=a2) (e:=f2) (o:=⟨q,c,f,1,n1,n2,dJ,eF,eG⟩) (rt:=.nil) hs b2 zd rfl rfl rfl (by simp[e0]) (by simp[e2]) (by simp[e4]) (by simp[e5]) (by simp[dJ]) (.inl rfl) ?_ fun E' B' x dA c y1 y2 y3 y4 y5=>hQ E' B' _ _ _ x dA c y1 y2 y3 y4 y5 (.inl ⟨rfl,rfl⟩);cases dB:dF 2 (aU s) a with
  |none=>
   have:=(Qba _ 2 a dB).1;rw[sA]at this;exact .inr (.inl ⟨this,by rw[hS,dB]⟩)
  |some y=>
   obtain⟨ns,b⟩:=y;have:=Qaz _ 2 a dB;rw[sA]at this;cases this;refine .inl ⟨rfl,?_⟩;rw[hS,dB,<- Xo];try rfl
 ·have D7:Vm 2=1:=rfl;rw[D7]at hS;unfold mC;simp[bB,zW,e4,e5,Pp];refine Ko (id:=1) ha hs zd rfl fun n1 a1 f1 h1 b1=>?_;simp[e4,e5];have sA:nX (aU s) 1 a 0=([n1],a1,f1):=by simp[nX,h1]
  refine jY (a:=a1) (e:=f1) (o:=⟨q,c,f,2,n1,0,dJ,eF,eG⟩) (rt:=.nil) hs b1 zd rfl rfl rfl (by simp[e0]) (by simp[e2]) (by simp[e4]) (by simp[e5]) (by simp[dJ]) (.inl rfl) ?_ fun E' B' x dA c y1 y2 y3 y4 y5=>hQ E' B' _ _ _ x dA c y1 y2 y3 y4 y5 (.inl ⟨rfl,rfl⟩);cases dB:dF 1 (aU s) a with
  |none=>
   have:=(Qba _ 1 a dB).1;rw[sA]at this;exact .inr (.inl ⟨this,by rw[hS,dB]⟩)
  |some y=>
   obtain⟨ns,b⟩:=y;have:=Qaz _ 1 a dB;rw[sA]at this;cases this;refine .inl ⟨rfl,?_⟩;rw[hS,dB,<- Xo];try rfl
 ·have D7:Vm 3=6:=rfl;rw[D7]at hS;unfold mC;simp[bB,zW,e4,e5,Pp];refine agr (id:=1) ha hs zd rfl fun B' L' n0 n1 n2 n3 n4 n5 al rt a' e' y1 y2 y3 y4 y5 y6=>?_;have z0:Qf B' 0=bB oZ .nil:=y3 0 zE zd;have z2:Qf B' 2=bB (zW q c f 3) .nil:=y3 2 zE zd;have hl:2<B'.length:=y1;simp only[bB,zW]at z2;simp[e4,e5,hl,z2];have hy:al.length<=7:=by obtain⟨_,_,_,_,_,_,_,_,h,_⟩:=y6;exact h
  have zm:=agO y6 hS;rw[Xo]at zm
  exact jY (o:=⟨q,c,f,3,0,0,⟨n0,n1,n2,n3,n4,n5,al⟩,eF,eG⟩) (rt:=rt) hs y4 (Nm hl) (by rw[Qx _ zE];exact z0) (by rw[Qx _ zE];exact y2) (Xj _ hl) (by simp[e0]) (by simp[e2]) (by simp[e4]) (by simp[e5]) (by show al.length<=_;omega)
   (y5.elim (fun h=>.inl h.2) fun h=>.inr ⟨_,h.2.choose_spec.1⟩) zm fun E' B' x dA c z1 z2 z3 z4 z5=>hQ E' B' _ _ _ x dA c z1 z2 z3 z4 z5 y5
 ·have D7:Vm 4=8:=rfl;rw[D7]at hS;unfold mC;simp[bB,zW,e4,e5,Pp];refine aa5 (id:=1) ha hs zd rfl fun B' y1 y2 y3=>?_;have z0:Qf B' 0=bB oZ .nil:=y3 0 zE zd;have z2:Qf B' 2=bB (zW q c f 4) .nil:=y3 2 zE zd;have hl:2<B'.length:=y1;simp only[bB,zW]at z2;have aH:=Pr (aU s) 8 a 0;obtain⟨ns,b,g,sA⟩:∃ns b g,nX (aU s) 8 a 0=(ns,b,g):=⟨_,_,_,rfl⟩;have hb:=abu (Jj s) 8 (a:=a) (e:=0) (by rw[Xo];exact ha);rw[sA]at y2 aH hb |-
  rw[Xo]at hb
  match ns,aH with
  |[n0,n1,n2,n3,n4,n5,n6,n7],_=>
   simp[e4,e5,hl,z2];refine jY (a:=b) (e:=g) (o:=⟨q,c,f,4,0,0,dJ,⟨n0,n1,n2,n3,n4,n5,n6,n7⟩,eG⟩) (rt:=.nil) hs hb (Nm hl) (by rw[Qx _ zE];exact z0) (by rw[Qx _ zE];exact y2) (Xj _ hl) (by simp[e0]) (by simp[e2]) (by simp[e4]) (by simp[e5]) (by simp[dJ]) (.inl rfl) ?_ fun E' B' x dA c y1 y2 y3 y4 y5=>hQ E' B' _ _ _ x dA c y1 y2 y3 y4 y5 (.inl ⟨rfl,rfl⟩);cases dB:dF 8 (aU s) a with
   |none=>
    have:=(Qba _ 8 a dB).1;rw[sA]at this;exact .inr (.inl ⟨this,by rw[hS,dB]⟩)
   |some y=>
    obtain⟨ns,b'⟩:=y;have:=Qaz _ 8 a dB;rw[sA]at this;cases this;refine .inl ⟨rfl,?_⟩;rw[hS,dB,<- Xo];try rfl
 have D7:Vm 5=4:=rfl;rw[D7]at hS;unfold mC;simp[bB,zW,e4,e5,Pp];refine Ko (id:=1) ha hs zd rfl fun n1 a1 f1 h1 b1=>?_;simp[e4,e5];refine Ko (id:=1) b1 hs zd rfl fun n2 a2 f2 h2 b2=>?_;simp[e4,e5];refine Ko (id:=1) b2 hs zd rfl fun n3 a3 f3 h3 b3=>?_;simp[e4,e5];refine Ko (id:=1) b3 hs zd rfl fun n4 a4 f4 h4 b4=>?_;simp[e4,e5];refine an6 (id:=1) b4 hs zd rfl ?_;obtain⟨t,a5,f5,ht⟩:∃t a5 f5,txR (aU s) a4 f4=(t,a5,f5):=⟨_,_,_,rfl⟩;rw[ht];simp[e4,e5];have sA:nX (aU s) 4 a 0=([n1,n2,n3,n4],a4,f4):=by simp[nX,h1,h2,h3,h4]
 have hx:=aoz (Jj s) (a:=a4) (e:=f4) (by rw[Xo];exact b4);rw[Xo,ht]at hx;refine jY (a:=a5) (e:=f5) (o:=⟨q,c,f,5,0,0,dJ,eF,⟨n1,n2,n3,n4,dh t⟩⟩) (rt:=.nil) hs hx zd rfl rfl rfl (by simp[e0]) (by simp[e2]) (by simp[e4]) (by simp[e5]) (by simp[dJ]) (.inl rfl) ?_ fun E' B' x dA c y1 y2 y3 y4 y5=>hQ E' B' _ _ _ x dA c y1 y2 y3 y4 y5 (.inl ⟨rfl,rfl⟩);unfold txR at ht;cases dB:dF 4 (aU s) a with
 |none=>
  have:=(Qba _ 4 a dB).1;rw[sA]at this;simp only at this;subst this;rw[if_neg (by decide)]at ht;cases ht;exact .inr (.inl ⟨rfl,by rw[hS,dB]⟩)
 |some y=>
  obtain⟨ns,b⟩:=y;have:=Qaz _ 4 a dB;rw[sA]at this;cases this;rw[if_pos rfl]at ht;rw[hS,dB];simp only[yz,rd5];cases Hs:BK (aU s) a4 with
  |none=>
   rw[Hs]at ht;cases ht;exact .inr (.inl ⟨rfl,rfl⟩)
  |some y=>
   rw[Hs]at ht;cases ht;refine .inl ⟨rfl,?_⟩;rw[<- Xo];try rfl
def avw(hs:s.size<=1000000):Pure Tryz.prog aD 14 [.str s] (MH (Ka (aU s))):=by
 have nx:∀(E':QP)(B':X2)(L':P2)(o:Od)(rt:Rt)(x:Od)(dA:Rt)(c:Int),Abs.look E' 2=.ptr 0 0->Abs.look E' 3=I c->2<B'.length->Qf B' 0=bB x dA->DcR (Ka (aU s)) o rt x dA c->(o.nw.al=[]/\rt=.nil\/o.nw.al≠[]/\∃k,rt=.own k 2/\L'[k]?=some o.nw.al.length)->
   post Tryz.prog aD (Pp s) Pt (MH (Ka (aU s))) .ret ⟨Za 120 E',⟨B',L',fun _=>.gone,0⟩⟩:=by
  intro E' B' L' o rt x dA c h2 h3 hl h0 hD hR;have iX:0<B'.length:=zE
  cases hd:Ka (aU s)with
  |ok p=>
   rw[hd]at hD;obtain⟨rfl,rfl,rfl,rfl⟩:=hD;obtain⟨ha,rfl⟩|⟨ha,k,rfl,hk⟩:=hR
   ·simp[Pt,h2,h3,h0,bB,iX,MH,ha]
   simp[Pt,h2,h3,h0,bB,iX,MH,ha]
  |wire=>
   rw[hd]at hD;obtain⟨rfl,rfl,rfl⟩:=hD;simp[Pt,h2,h3,h0,bB,iX,MH]
  |rep=>
   rw[hd]at hD;obtain⟨rfl,rfl,rfl⟩:=hD;simp[Pt,h2,h3,h0,bB,iX,MH]
 refine Qm aj1 (Pp s) zd ?_;rw[agN];simp[avv];have ho:∀d l,Pp s d 41 l=.gd false .junk:=fun _ _=>rfl;simp[ho];refine Ko (id:=1) (a:=0) (e:=0) zE hs zd rfl fun q a1 f1 h1 b1=>?_;simp;unfold ajY;refine Yr (id:=1) (pb:=2) ho zE zE zd zd ⟨zE,zd,zd⟩ rfl rfl zd b1 hs fun c a2 f2 B2 h2 b2 l2 r2 p2 o2=>?_;refine Yr (id:=1) (pb:=2) ho zE zE zd zd ⟨zE,by rw[l2];simp,by rw[l2];simp⟩ r2 p2 zd b2 hs fun f a3 f3 B3 h3 b3 l3 r3 p3 o3=>?_;refine Yr (id:=1) (pb:=2) ho zE zE zd zd ⟨zE,by rw[l3,l2];simp,by rw[l3,l2];simp⟩ r3 p3 zd b3 hs fun k a4 f4 B4 h4 b4 l4 r4 p4 o4=>?_;have hB:B4=[bB oZ .nil,[.str s,I a4,I f4],bB (zW q c f k) .nil]:=eq3 (by rw[l4,l3,l2];try rfl) (by rw[o4 0 zE zE,o3 0 zE zE,o2 0 zE zE];try rfl) r4 (by rw[p4];try rfl);have sA:nX (aU s) 4 0 0=([q,c,f,k],a4,f4):=by simp[nX,h1,h2,h3,h4]
 subst hB;unfold ajX;cases hr:dF 4 (aU s) 0 with
 |none=>
  obtain⟨u1,u2⟩:=Qba _ 4 0 hr;rw[sA]at u1 u2;simp only at u1;subst u1;have AJ:k=0:=u2;subst AJ;have hS:Zl (aU s)=.wire:=by unfold Zl;rw[hr]
  simp[bB,zW,oZ,mC];exact jY (a:=a4) (e:=10) (o:=zW q c f 0) (rt:=.nil) hs b4 zd rfl rfl rfl zd zd zd zd (by simp[zW,dJ]) (.inl rfl) (.inr (.inl ⟨rfl,hS⟩)) fun E' B' x dA c y1 y2 y3 y4 y5=>nx E' B' _ _ _ x dA c y1 y2 y3 y4 y5 (.inl ⟨rfl,rfl⟩)
 |some y=>
  obtain⟨ns,b⟩:=y;have:=Qaz _ 4 0 hr;rw[sA]at this;cases this;by_cases hk:k<1\/5<k
  ·have hS:=Pq hr;rw[if_pos hk]at hS;have k1:¬k=1:=zE
   have k2:¬k=2:=zE
   have k3:¬k=3:=zE
   have k4:¬k=4:=zE
   have k5:¬k=5:=zE
   by_cases cZ:k<1
   ·simp[bB,zW,oZ,mC,cZ,k1,k2,k3,k4,k5];exact jY (a:=a4) (e:=110) (o:=zW q c f k) (rt:=.nil) hs b4 zd rfl rfl rfl zd zd zd zd (by simp[zW,dJ]) (.inl rfl) (.inr (.inr ⟨rfl,hS⟩)) fun E' B' x dA c y1 y2 y3 y4 y5=>nx E' B' _ _ _ x dA c y1 y2 y3 y4 y5 (.inl ⟨rfl,rfl⟩)
   have Ri:5<k:=zE
   simp[bB,zW,oZ,mC,cZ,Ri,k1,k2,k3,k4,k5];exact jY (a:=a4) (e:=110) (o:=zW q c f k) (rt:=.nil) hs b4 zd rfl rfl rfl zd zd zd zd (by simp[zW,dJ]) (.inl rfl) (.inr (.inr ⟨rfl,hS⟩)) fun E' B' x dA c y1 y2 y3 y4 y5=>nx E' B' _ _ _ x dA c y1 y2 y3 y4 y5 (.inl ⟨rfl,rfl⟩)
  have k1:¬k<1:=zE
  have k5:¬5<k:=zE
  simp[bB,zW,oZ,k1,k5];exact aoA hs b4 hr hk zd zd zd zd fun E' B' L' o rt x dA c y1 y2 y3 y4 y5 y6=>nx E' B' L' o rt x dA c y1 y2 y3 y4 y5 y6
def agP(d:DR):Wk (MH d) (Sr d):=by
 cases d with
 |ok o=>exact DE ⟨abt o _,Ps,trivial⟩
 |wire=>exact Ps
 |rep=>exact Ps
def abv{a0 a1:Addr}{s:ByteArray}(hs:s.size<=1000000):Pure Tryz.prog (fT a0 a1) 14 [.str s] (Sr (Ka (aU s))):=H7 (Zc (avw hs) (agP _))
def ajZ(o:Od)(v:Bool)(ev dv:AV):X1:=fun _ f _=>if f=6 then .bool true else if f=7 then .agg (bB (r9 o) .ro)else if f=8\/f=13 then ev else if f=10\/f=14 then dv else if f=12 then .bool true else .bool v
def law5{a0 a1:Addr}(aK:a0≠a1)(o:Od)(s:ByteArray):Pure Tryz.prog (fT a0 a1) 5 [.agg (bB o .ro),.str s] (.bool true):=by
 have k6:=aov aK;have k7:=azJ (gl:=fT a0 a1) o;obtain⟨g1,g2⟩:=agJ o;have k8:=H7 (a0:=a0) (a1:=a1) (tB (r9 o) zE zE);have k13:=H7 (a0:=a0) (a1:=a1) (aa3 (r9 o) zE zE);have k9:=H7 (a0:=a0) (a1:=a1) (Wj (r9 o) zE);have k15:=H7 (a0:=a0) (a1:=a1) (D0 (r9 o) zE);have hsz:=agM s;have k10:=tw aK (MG s) zE;have k14:=abv (a0:=a0) (a1:=a1) (s:=MG s) zE;have a2:=ZK (a:=s.size) 500;have b2:=ZL (a:=s.size) 500
 have e2:(if(500:Int)<(s.size:Int)then(500:Int)else(s.size:Int)).toNat=if 500<s.size then 500 else s.size:=by
  by_cases h:500<s.size
  ·rw[if_pos h,if_pos zE];try rfl
  rw[if_neg h,if_neg zE];omega
 simp at a2 b2;have hx:s.extract 0 (if 500<s.size then 500 else s.size)=MG s:=rfl;rw[show Qt (r9 o)=bB (r9 o) .ro from rfl]at k9 k15 k13
 obtain⟨t,c,he⟩:∃t c,Mr (r9 o)=.aS [.str t,I c]:=by
  unfold Mr;split<;>exact⟨_,_,rfl⟩
 rw[he]at k8 k13
 obtain⟨x,rt,e,bn,hd,ZI⟩:∃(x:Od)(rt:Rt)(e:Int),(rt=.ro\/rt=.nil)/\Sr (Ka (aU (MG s)))=.aS [.agg (bB x rt),I e]/\Pure Tryz.prog (fT a0 a1) 12 [.agg (bB x rt),.agg (bB x rt)] (.bool true):=by
  cases hd:Ka (aU (MG s))with
  |ok p=>
   obtain⟨h1,h2⟩:=agL hd;rw[Xo]at h1;exact⟨p,.ro,0,.inl rfl,rfl,ME p p zE zE true zd⟩
  |wire=>exact⟨oZ,.nil,10,.inr rfl,rfl,Xl (ME (gl:=fT a0 a1) oZ oZ (by decide) (by decide) true zd) ⟨Po,Po,trivial⟩⟩
  |rep=>exact⟨oZ,.nil,110,.inr rfl,rfl,Xl (ME (gl:=fT a0 a1) oZ oZ (by decide) (by decide) true zd) ⟨Po,Po,trivial⟩⟩
 rw[hd]at k10 k14;refine Qm ao9 (ajZ o (Xp (r9 o)) (.aS [.str t,I c]) (.aS [.agg (bB x rt),I e])) zd ?_;simp only[bB]at k7 k8 k9 k10 ZI k13 k14 k15;obtain rfl|rfl:=bn
 all_goals
  simp[sc5,rs5,bB,ajZ,a2,b2,e2,hx];exact⟨k6,k7,k8,k13,k10,k14,ZI,k9,k15⟩
end
