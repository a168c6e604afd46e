import Derived.Test.YtfliagpjbbkijaaGreatDoorVAMcJ
import Derived.Test.YtfliagpjbbkijaaGreatDoorCards
import Derived.Deep.DeepHandedRow
import Derived.Lib.LaidTab
import Derived.MakeChecks
import Derived.Stop.LaidTwo
import Derived.Test.YtfliagpjbbkijaaGreatDoorVAWjO
set_option linter.all false
set_option maxRecDepth 100000
set_option maxHeartbeats 64000000
namespace Go.Abs
open Go Go.RowKit
end Go.Abs
namespace Go.Proofs.YtfliagpjbbkijaaGreatDoor
open Go Go.Abs
def HY(c:Cue)(l:List Cue):Option (List Cue):=if BL c=true then(if 200<(ir c (!decide (c.to=0)) l).length then none else some (ir c (!decide (c.to=0)) l))else none
def HZ(c:Cue)(l:List Cue):mH c l=match HY c l with
 |none=>.aQ [.sl .nil [],I 150]
 |some x=>.aQ [.sl (uk x) (x.map Ql),I 0]:=by
 unfold mH HY uk;split
 ·split<;>rfl
 rfl
def oh(g:Pg)(o:Od)(b:QP)(q:Pl)(d:Int):Pg:=
 {g with p:=q,ev:=Jc g o.fr b o q d++Mn g o.fr b o q d,dr:=dd (Ka (g.dr++Wu g o.fr b o q d)),ve:=g.ve+1}
def Vq(g:Pg)(o:Od):Pg:=
 if Jv g o=false then{g with ve:=g.ve+1}
 else if o.ki=5 then(match HY o.cu g.cu with
  |none=>{g with ve:=g.ve+1}
  |some x=>{g with cu:=x,ed:=o.fr,ve:=g.ve+1})
 else match Kg g o.fr (Xw o.fr g.ev []) o with
  |none=>{g with ve:=g.ve+1}
  |some (q,d)=>oh g o (Xw o.fr g.ev []) q d
structure af0 (g:Pg) (o:Od):Prop where
 pg:PgC g
 al:o.nw.al.length<=8796093022208
 ve:0<=g.ve/\g.ve<=1000000
 cu:g.cu.length<=1000000
 ch:Jv g o=true->o.ki≠5->aae g o.fr o
 rn:Jv g o=true->o.ki≠5->∀q d,Kg g o.fr (Xw o.fr g.ev []) o=some (q,d)->HP g o.fr (Xw o.fr g.ev []) o q d/\(Yd g o.fr (Xw o.fr g.ev []) o q d).length<=1000000/\(Mn g o.fr (Xw o.fr g.ev []) o q d).length<=10000000
def gm.more{bx:X2}{mid:Nat}{b:QP}(h:gm bx mid b)(x:X2):gm (bx++x) mid b:=⟨by have:=h.1;simp;omega,h.ext x⟩
def gm.ayn{a b c d d':PQ}{ex:X2}{mid:Nat}{bg:QP}(h:gm (a::b::c::d::ex) mid bg)(hm:4<=mid)(x:X2):gm (a::b::c::d'::(ex++x)) mid bg:=by
 obtain⟨j,rfl⟩:∃j,mid=j+4:=⟨mid-4,zE⟩;obtain⟨h1,h2⟩:=h;have hg:=Je h1;rw[h2]at hg;simp only[zzdk]at hg;have hj:=(zza.1 hg).1;refine⟨by simp;omega,Qv ?_⟩;simp only[zzdk];rw[zzak hj,hg]
def cell_of{a:AV}(h:Qw a=true):cellsOf a=[a]:=by cases a<;>simp_all[Qw,cellsOf]
def af1{a:AV}(h:Qw a=true):bare a=true:=by cases a<;>simp_all[Qw,bare]
def amW(a b:List bJ):Wk (.sl .ro (a.map Zt++b.map Qf)) (.sl .ro ((a++b).map Qf)):=by
 have h:a.map Zt++b.map Qf=(a++b.map nl0).map Zt:=by rw[zzch,yI]
 have h2:(a++b).map Qf=(a++b.map nl0).map Qf:=by rw[zzch,zzch,BW]
 rw[h,h2];exact LF _
def amX(g:Pg)(o:Od)(h:af0 g o):∃re rc rd evr,Wk (.sl re evr) (.sl .ro ((Vq g o).ev.map Qf))/\
  Pure Tryz.prog aD 18 [.agg (Qo g),.agg (Qu o)] (.agg (Qa (Vq g o).p++[.sl re evr,.sl rc ((Vq g o).cu.map Ql),I (Vq g o).ed,.sl rd ((Vq g o).dr.map Xa),I (Vq g o).ve])):=by
 obtain⟨hpg,fk,hve,sH,mg,hrn⟩:=h;have k76:=ZB g hpg;have Ec:=tg g o fk;have sW:=BR g.cu o.cu sH;rw[HZ]at sW;simp only[Qo,Qa,Qu,Qd,Qh,Ql,zzae,zzaj]at k76 Ec sW;have hw:IntKind.i64.wrap (g.ve+1)=g.ve+1:=by rw[Qi]<;>omega
 cases hc:Jv g o with
 |false=>
  have ha:Vq g o={g with ve:=g.ve+1}:=by unfold Vq;rw[if_pos hc]
  rw[ha];rw[hc]at Ec;refine⟨.ro,.ro,.ro,g.ev.map Qf,Pa,Qn u9 (fun _ f l=>if f=52 then l.headD .junk else if f=53 then .bool (Jv g o)else .gd false .junk) zd ?_⟩;simp[Pz,PA,Qo,Qa,Qu,Qd,Qh,Ql,hc,hw];exact⟨k76,Ec⟩
 |true=>
  rw[hc]at Ec;by_cases h5:o.ki=5
  ·rw[h5]at Ec;cases he:HY o.cu g.cu with
   |none=>
    have ha:Vq g o={g with ve:=g.ve+1}:=by unfold Vq;rw[if_neg (by rw[hc];decide),if_pos h5,he]
    rw[ha];rw[he]at sW;refine⟨.ro,.ro,.ro,g.ev.map Qf,Pa,Qn u9 (fun _ f l=>if f=52 then l.headD .junk else if f=53 then .bool true else if f=54 then .aQ [.sl .nil [],I 150]else .gd false .junk) zd ?_⟩;simp[Pz,PA,Qo,Qa,Qu,Qd,Qh,Ql,hw,h5];exact⟨k76,Ec,sW⟩
   |some x=>
    have ha:Vq g o={g with cu:=x,ed:=o.fr,ve:=g.ve+1}:=by unfold Vq;rw[if_neg (by rw[hc];decide),if_pos h5,he]
    rw[ha];rw[he]at sW;have hcx:=Ml x;have amY:=fun m d y=>hcx m d y;refine⟨.ro,uk x,.ro,g.ev.map Qf,Pa,Qn u9 (fun _ f l=>if f=52 then l.headD .junk else if f=53 then .bool true else if f=54 then .aQ [.sl (uk x) (x.map Ql),I 0]else .gd false .junk) zd ?_⟩;simp[Pz,PA,Qo,Qa,Qu,Qd,Qh,Ql,hw,h5];refine⟨k76,Ec,sW,Ui ?_⟩;simp[amY]
  have mg:=mg hc h5;have hrn:=hrn hc h5;cases hx:Kg g o.fr (Xw o.fr g.ev []) o with
  |none=>
   have ha:Vq g o={g with ve:=g.ve+1}:=by unfold Vq;rw[if_neg (by rw[hc];decide),if_neg h5,hx]
   rw[ha];refine⟨.ro,.ro,.ro,g.ev.map Qf,Pa,Qn u9 (fun _ f l=>if f=52 then l.headD .junk else if f=53 then .bool true else .gd false .junk) zd ?_⟩;simp[Pz,PA,Qo,Qa,Qu,Qd,Qh,Ql,hw,h5];refine⟨k76,Ec,?_⟩;refine BV Y0 _ g o.fr (by have:=hpg.2.1;omega) _ fun ex mid hex V3 gV=>?_;simp[Qq,Qo,Qa,zzan];refine OS Y0 _ g o.fr mid (Xw o.fr g.ev []) o mg ?_ ?_ _ ?_
   ·have:=fun x=>gm.more gV x;simp only[zzae,zzaj]at this;exact this _
   ·intro c hc;simp only[zzao,zzap,zzcn,or_false]at hc;obtain rfl|rfl|rfl|rfl|hc|rfl:=hc
    ·exact eZ.of zd rfl
    ·exact eZ.of zd rfl
    ·exact eZ.of zd rfl
    ·exact eZ.of zd rfl
    ·exact hex c hc
    exact eZ.mo g o.fr mid
   rw[hx];simp[Aj,R9]
  |some r=>
   obtain⟨q,d⟩:=r;obtain⟨hR,iZ,eW⟩:=hrn q d hx;have ha:Vq g o=oh g o (Xw o.fr g.ev []) q d:=by unfold Vq;rw[if_neg (by rw[hc];decide),if_neg h5,hx]
   rw[ha];refine⟨.ro,.ro,uk ((oh g o (Xw o.fr g.ev []) q d).dr.map Xa),(Jc g o.fr (Xw o.fr g.ev []) o q d).map Zt++(Mn g o.fr (Xw o.fr g.ev []) o q d).map Qf,amW _ _,Qn u9 (fun _ f l=>if f=52 then l.headD .junk else if f=53 then .bool true else .gd false .junk) zd ?_⟩;simp[Pz,PA,Qo,Qa,Qu,Qd,Qh,Ql,hw,h5];refine⟨k76,Ec,?_⟩;refine BV Y0 _ g o.fr (by have:=hpg.2.1;omega) _ fun ex mid hex V3 gV=>?_;simp[Qq,Qo,Qa,zzan];have oy:=fun x=>gm.more gV x;simp only[zzae,zzaj]at oy
   refine OS Y0 _ g o.fr mid (Xw o.fr g.ev []) o mg (oy _) (by
    intro c hc;simp only[zzao,zzap,zzcn,or_false]at hc;obtain rfl|rfl|rfl|rfl|hc|rfl:=hc
    ·exact eZ.of zd rfl
    ·exact eZ.of zd rfl
    ·exact eZ.of zd rfl
    ·exact eZ.of zd rfl
    ·exact hex c hc
    exact eZ.mo g o.fr mid) _ ?_
   rw[hx];simp[Aj,Qa,zzan];refine Sb Y0 _ g o.fr mid (Xw o.fr g.ev []) o q d hR (gm.ayn (by simpa using oy []) (Pi V3) _) iZ eW _ fun gN ls ke vd hv=>?_;have fe:=hv.1;have zH:=cell_of fe;have hc3:=af1 fe;simp[zzan,fe,zH,hc3];refine⟨zE,zE,rfl,rfl,rfl,rfl,rfl,rfl,rfl,rfl,rfl,rfl,rfl,rfl,rfl,rfl,rfl,?_,?_⟩
   ·refine hv.2 _ zd (fun j h1 h2=>?_) _;simp at h1;obtain⟨i,rfl⟩:∃i,j=i+4:=⟨j-4,zE⟩;simp
   rfl
def yT(g:Pg)(o:Od)(h:af0 g o):Pure Tryz.prog aD 18 [.agg (Qo g),.agg (Qu o)] (.agg (Qo (Vq g o))):=by
 obtain⟨re,rc,rd,evr,hw,hp⟩:=amX g o h;refine Zx hp ?_;unfold Qo;simp only[Qa,zzae,zzaj];refine Qch ?_;exact⟨Pa,Pa,Pa,Pa,Pa,Pa,Pa,Pa,Pa,Pa,Pa,Pa,Pa,hw,Wk.sl _ _,Pa,Wk.sl _ _,Pa,trivial⟩
def Ms{l l':PQ}(h:WkL l l'):Wk (.aQ l) (.aQ l'):=fun w γ v hr=>by
 have key:∀{l l':PQ},WkL l l'->l.length=l'.length/\∀(i:Nat)(c':AV),l'[i]?=some c'->∃c,l[i]?=some c/\Wk c c':=by
  intro l;induction l with
  |nil=>intro l' h;cases l' with
   |nil=>exact⟨rfl,fun i c' h=>by simp at h⟩
   |cons _ _=>exact h.elim
  |cons a l ih=>intro l' h;cases l' with
   |nil=>exact h.elim
   |cons b l'=>
    obtain⟨h1,h2⟩:=ih h.2;refine⟨by simp[h1],fun i c' hc=>?_⟩;cases i with
    |zero=>simp at hc;subst hc;exact⟨a,rfl,h.1⟩
    |succ i=>simpa using h2 i c' (Pi hc)
 obtain⟨h1,h2⟩:=key h;cases hr with
 |aQ hl hc=>
  refine .aQ zE fun i c' v uw hv=>?_;obtain⟨c,g1,g2⟩:=h2 i c' uw;exact g2 _ _ _ (hc i c v g1 hv)
def pl0:Pl:=⟨0,0,0,0,[],0,0,0,0,[],[],[],[]⟩
def pg0:Pg:=⟨pl0,[],[],0,[],0⟩
def I7(p:Pl):Option (List Sp):=if rI p=false then none else Jg p (Ua p) [] [] 0 (-1)
def r8(p:Pl):Pg:=match I7 p with
 |none=>pg0
 |some l=>⟨p,iG p l 0,[],0,[],0⟩
def Ee(p:Pl):P2:=if rI p=false then[]else match I7 p with
 |none=>og (I6 p) (Ua p)
 |some _=>[]
def r9(p:Pl):Int:=if rI p=false then 80 else match I7 p with
 |none=>90
 |some _=>0
def atk{V X Y:AV}{p:Pl}{ev:List bJ}{cu:List Cue}{dr:P2}{ed ve:Int}(h1:Wk V (.sl .ro (ev.map Qf)))(h2:Wk X (.sl .ro (cu.map Ql)))(h3:Wk Y (.sl .ro (dr.map Xa))):
  Wk (.agg (Qa p++[V,X,I ed,Y,I ve])) (.agg (Qo ⟨p,ev,cu,ed,dr,ve⟩)):=by
 unfold Qo;simp only[Qa,zzae,zzaj];exact Qch ⟨Pa,Pa,Pa,Pa,Pa,Pa,Pa,Pa,Pa,Pa,Pa,Pa,Pa,h1,h2,Pa,h3,Pa,trivial⟩
def aaF:Wk (.agg ZA) (.agg (Qo pg0)):=by
 unfold ZA pg0 pl0 Qo;simp only[Qa,zzae,zzaj,zzcu];exact Qch ⟨Pa,Pa,Pa,Pa,Wk.sl _ _,Pa,Pa,Pa,Pa,Wk.sl _ _,Wk.sl _ _,Wk.sl _ _,Wk.sl _ _,Wk.sl _ _,Wk.sl _ _,Pa,Wk.sl _ _,Pa,trivial⟩
def Mt(p:Pl)(hp:BI p)(ei:p.ln<=1000000)(S9:∀e∈p.ens,e.ea<=9223372036854775807)(hl:∀l,I7 p=some l->l.length<=1000000/\∀s∈l,-1000000000<=s.2/\s.2<=1000000000):
  Pure Tryz.prog aD 16 [.agg (Qa p)] (.aQ [.agg (Qo (r8 p)),.sl .ro ((Ee p).map Xa),I (r9 p)]):=by
 obtain⟨h1,h2,h3,h4,h5,h6⟩:=hp;have k60:=Sg p ⟨zE,zE,zE,zE,zE,h6⟩ h5 zE zE S9;have k61:=qd p ⟨h1,h2,h3,h4,h5,h6⟩;by_cases hv:rI p=false
 ·have hr:Sf p=.aQ [.sl .nil [],.sl .nil [],I 80]:=by unfold Sf;rw[if_pos hv]
  have hb:I7 p=none:=by unfold I7;rw[if_pos hv]
  have hg:r8 p=pg0:=by unfold r8;rw[hb]
  have hc:Ee p=[]:=by unfold Ee;rw[if_pos hv]
  have he:r9 p=80:=by unfold r9;rw[if_pos hv]
  rw[hr]at k60;rw[hg,hc,he];simp only[Qa]at k60
  have:Pure Tryz.prog aD 16 [.agg (Qa p)] (.aQ [.agg ZA,.sl .nil [],I 80]):=by
   refine Qn I8 (fun _ f _=>if f=49 then .aQ [.sl .nil [],.sl .nil [],I 80]else .junk) zd ?_;simp[abK,abL,Qa,ZA];exact k60
  exact Zx this (Ms ⟨aaF,Wk.sl _ _,Pa,trivial⟩)
 cases hx:Jg p (Ua p) [] [] 0 (-1)with
 |none=>
  have hr:Sf p=.aQ [.sl .nil [],.sl .ro ((og (I6 p) (Ua p)).map Xa),I 90]:=by unfold Sf;rw[if_neg hv,hx]
  have hb:I7 p=none:=by unfold I7;rw[if_neg hv,hx]
  have hg:r8 p=pg0:=by unfold r8;rw[hb]
  have hc:Ee p=og (I6 p) (Ua p):=by unfold Ee;rw[if_neg hv,hb]
  have he:r9 p=90:=by unfold r9;rw[if_neg hv,hb]
  rw[hr]at k60;rw[hg,hc,he];simp only[Qa]at k60
  have:Pure Tryz.prog aD 16 [.agg (Qa p)] (.aQ [.agg ZA,.sl .ro ((og (I6 p) (Ua p)).map Xa),I 90]):=by
   refine Qn I8 (fun _ f _=>if f=49 then .aQ [.sl .nil [],.sl .ro ((og (I6 p) (Ua p)).map Xa),I 90]else .junk) zd ?_;simp[abK,abL,Qa,ZA];exact k60
  exact Zx this (Ms ⟨aaF,Pa,Pa,trivial⟩)
 |some l=>
  have hr:Sf p=.aQ [I3 l,.sl .nil [],I 0]:=by unfold Sf;rw[if_neg hv,hx]
  have hb:I7 p=some l:=by unfold I7;rw[if_neg hv,hx]
  have hg:r8 p=⟨p,iG p l 0,[],0,[],0⟩:=by unfold r8;rw[hb]
  have hc:Ee p=[]:=by unfold Ee;rw[if_neg hv,hb]
  have he:r9 p=0:=by unfold r9;rw[if_neg hv,hb]
  obtain⟨gr,uF⟩:=hl l hb;rw[hr,HO]at k60;rw[hg,hc,he];have hcx:=Ml l;have amY:=fun m d y=>hcx m d y;have X9:=Xp (tc p l 0 h5 zE zE zE h6 ei gr uF) (l:=[.agg (Qa p),.sl (uk l) (l.map Qe),I 0]) ⟨Pa,Wk.sl _ _,Pa,trivial⟩;simp only[Qa]at k60 k61 X9
  have:Pure Tryz.prog aD 16 [.agg (Qa p)] (.aQ [.agg (Qa p++[.sl .ro ((iG p l 0).map Qf),.sl .nil [],I 0,.sl .nil [],I 0]),.sl .nil [],I 0]):=by
   refine Qn I8 (fun _ f x=>if f=49 then .aQ [.sl (uk l) (l.map Qe),.sl .nil [],I 0]else if f=50 then x.headD .junk else if f=51 then .sl .ro ((iG p l 0).map Qf)else .junk) zd ?_;simp[abK,abL,Qa,amY];exact⟨k60,k61,X9⟩
  exact Zx this (Ms ⟨atk (Pa) (Wk.sl _ _) (Wk.sl _ _),Wk.sl _ _,Pa,trivial⟩)
def ayo(o:Int×Int):PQ:=[I o.1,I 0,I o.2,I 0,I 0,I 0,I 0,I 0,I 0,I 0,I 0,I 0,.sl .nil [],I 0,I 0,I 0,I 0,I 0,I 0,I 0,I 0,I 0,I 0,I 0,I 0,.str ⟨#[]⟩]
structure Md where
 pl:List (Int×Int)
 ps:List (List Pg)
 os:List (Int×Int)
def ayp(Ta:List Rt)(ps:List (List Pg)):PQ:=List.zipWith (fun rt l=>AV.sl rt (l.map Qo)) Ta ps
structure MdB (bx:X2) (md:Nat) (M:Md) (pid cO:Nat) (Ta:List Rt) (rto:Rt) (z:PQ):Prop where
 hmd:md<bx.length
 row:Qg bx md=[.mp pid,.bs cO 0 M.ps.length 1,.sl rto (M.os.map ayo)]
 hpid:pid<bx.length
 map:Qg bx pid=[.aL 0 (bF (AV.int .i64) M.pl)]
 hbid:cO<bx.length
 hps:Qg bx cO=ayp Ta M.ps++z
 hrts:Ta.length=M.ps.length
 ne:M.ps≠[]
 kK:∀c i,af c M.pl=some i->0<=i/\i<M.ps.length
 len:M.ps.length<=40
 los:M.os.length<=1000
 hrto:D6 rto .ro\/(rto=.nil/\M.os=[])
structure atl (p:Pl):Prop where
 pl:BI p
 ln:p.ln<=1000000
 ea:∀e∈p.ens,e.ea<=9223372036854775807
 l:∀l,I7 p=some l->l.length<=1000000/\∀s∈l,-1000000000<=s.2/\s.2<=1000000000
def amZ(p:Pl):AV:=.aQ [.agg (Qo (r8 p)),.sl .ro ((Ee p).map Xa),I (r9 p)]
def Si(p:Pl)(h:atl p):Pure Tryz.prog aD 16 [.agg (Qa p)] (amZ p):=Mt p h.pl h.ln h.ea h.l
def H6(g:Pg):Pg:={g with ev:=g.ev.map nl0}
def B9(g:Pg):Qo (H6 g)=Qo g:=by
 unfold Qo H6;simp only[BW]
def ay6(ls:P1)(Ta:List Rt)(ps:List (List Pg)):Prop:=
 (∀(i:Nat)(rt:Rt)(l:List Pg),Ta[i]?=some rt->ps[i]?=some l->rt=.full\/∃k,rt=.own k 18/\ls[k]?=some l.length)/\∀(i j k:Nat),Ta[i]?=some (.own k 18)->Ta[j]?=some (.own k 18)->i=j
def ay7(ls:P1)(Ta:List Rt)(rto:Rt)(n:Nat):Prop:=(rto=.nil/\n=0)\/∃k,rto=.own k 26/\ls[k]?=some n/\∀i:Nat,Ta[i]?≠some (.own k 18)
def azv(ls:P1)(Ta:List Rt)(rto:Rt)(k n:Nat):Prop:=ls[k]?=some n/\(∀i:Nat,Ta[i]?≠some (.own k 18))/\rto≠.own k 26
def wu6(n:Int)(h:0<=n)(h':n<=9223372036854775807):IntKind.u64.wrap n=n:=by
 simp[IntKind.wrap,IntKind.bits,IntKind.signed];omega
def Sj(e:bJ)(f:Int)(h:Ki e)(hf:f<=9223372036854775807):Pure Tryz.prog aD 58 [.agg (Qf e),.ep [I f] 0] (.bool (xW f e)):=by
 refine Qn akF (fun _ _ _=>.junk) zd ?_;obtain⟨⟨a1,a2⟩,⟨a3,a4⟩,_⟩:=h;by_cases h1:e.st<=f
 ·have w1:=wu6 e.st zE zE;have w2:=wu6 f zE zE;have w3:=wu6 (f-e.st) zE zE;have w4:=wu6 e.fr zE zE;by_cases h2:0<e.fr
  ·have:(f-e.st<e.fr)=(f<e.st+e.fr):=by apply propext;omega
   simp[abT,abU,Qf,h1,h2,xW,w1,w2,w3,w4,this]
  have:¬f<e.st+e.fr:=zE
  simp[abT,abU,Qf,h1,h2,xW,this]
 simp[abT,abU,Qf,h1,xW]
def H7(L:List bJ)(f:Int)(hL:L.length<=1000000000)(hs:∀e∈L,Ki e)(hf:f<=9223372036854775807):Pure Tryz.prog aD 59 [.sl .ro (L.map Qf),.fn 58 [] [.ep [I f] 0]] (I (iq f L 0)):=by
 refine Qn Tk (LG f) zd ?_;simp[akG,abV];refine Qj sA (fun s m=>∃i:Nat,s 8=I i/\i<=L.length/\iq f (L.drop i) i=iq f L 0/\m=⟨[],[],fun _=>.gone,0⟩) (fun s m=>L.length-(numOf (s 8)).toNat) ?_ ?_
 ·exact⟨0,zd,zE,zd,rfl⟩
 rintro s m ⟨i,hi,cR,hr,rfl⟩;rcases zzab i L.length with aa|bu
 ·obtain⟨a,ha⟩:∃a,L[i]?=some a:=⟨L[i],zzad aa⟩;have ai:Qg (L.map Qf) i=Qf a:=Qv (by simp[ha]);have hw:=bR i zE;rw[Zb ha]at hr;have hp:Pure Tryz.prog aD 58 [.agg (Qf a),.ep [I f] 0] (.bool (xW f a)):=Sj a f (hs a (zzac ha)) hf;have ho:decide (a.st<=f/\f<a.st+a.fr)=xW f a:=rfl;by_cases h:xW f a=true
  ·simp[iq,h]at hr;rw[h]at hp ho;simp at ho;simp[hi,ai,aa,Qf,LG,sA,ho];exact⟨hp,hr⟩
  simp at h;simp[iq,h]at hr;rw[h]at hp ho
  have dx:decide (a.st<=f)=false\/decide (f<a.st+a.fr)=false:=by
   by_cases q:a.st<=f
   ·right;simp at ho |-;omega
   left;simp[q]
  simp only[decide_eq_false_iff_not]at ho;simp[hi,ai,aa,Qf,LG,sA,ho,hw];refine⟨hp,aR,⟨i+1,zd,zE,hr⟩,zE⟩
 rw[zzam bu]at hr;simp[hi,zzbn.2 bu,sA];exact hr
def H8(L:List bJ)(f:Int)(hL:L.length<=1000000000)(hs:∀e∈L,Ki e)(hf:f<=9223372036854775807):Pure Tryz.prog aD 19 [.sl .ro (L.map Qf),I f] (xZ f (DM f L)):=by
 have LY:=H7 L f hL hs hf;refine Qn akh (fun _ g l=>if g=59 then I (iq f L 0)else l.headD .junk) zd ?_;cases S1:DM f L with
 |none=>
  rw[xX S1]at LY |-
  simp[akf,akg,xZ,ajn];exact LY
 |some a=>
  obtain⟨k,h1,h2,h3⟩:=xY (i:=0) S1;rw[h1]at LY |-
  have aa:k<L.length:=(zza.1 h2).1;have ai:Qg (L.map Qf) k=Qf a:=Qv (by simp[h2]);obtain⟨⟨a1,a2⟩,⟨a3,a4⟩,⟨a7,a8⟩,a9⟩:=hs a (zzac h2);have hon:a.st<=f/\f<a.st+a.fr:=by simpa[xW]using h3
  have w1:IntKind.i64.wrap (a.i+f)=a.i+f:=by rw[Qi]<;>omega
  have w2:IntKind.i64.wrap (a.i+f-a.st)=a.i+f-a.st:=by rw[Qi]<;>omega
  rw[zzbm]at LY;have hcn:=Qcf a.al a9;simp[akf,akg,xZ,aa,ai,Qf];refine⟨LY,hcn,Qaw [(.junk,⟨[[I f],[I a.id,I a.it,I a.st,I a.fr,I a.i,I a.re,.sl .ro (a.al.map Qe)],[I a.id,I a.it,I a.st,I a.fr,I a.i,I a.re,.sl .ro (a.al.map Qe)]],[],fun _=>.gone,0⟩)] ?_⟩;simp[w1,w2]
def gz(lo up:Int):List bJ->Prop
 |[]=>lo<=up
 |e::r=>lo<=e.st/\1<=e.fr/\gz (e.st+e.fr) up r
def gz.le{up:Int}:∀{L:List bJ}{lo:Int},gz lo up L->lo<=up/\(L.length:Int)<=up-lo
 |[],lo,h=>⟨h,by simp only[gz]at h;simp only[zzcd];omega⟩
 |e::r,lo,h=>by
  obtain⟨h1,h2,h3⟩:=h;have:=gz.le h3;simp only[zzav];omega
def gz.mem{up:Int}:∀{L:List bJ}{lo:Int},gz lo up L->∀e∈L,lo<=e.st/\1<=e.fr/\e.st+e.fr<=up
 |x::r,lo,h,e,he=>by
  obtain⟨h1,h2,h3⟩:=h;rcases zzao.1 he with rfl|he
  ·exact⟨h1,h2,h3.le.1⟩
  have:=gz.mem h3 e he;omega
def gz.low{up lo lo':Int}{L:List bJ}(h:gz lo up L)(hl:lo'<=lo):gz lo' up L:=by
 cases L with
 |nil=>simp only[gz]at h |-;omega
 |cons e r=>exact⟨by have:=h.1;omega,h.2⟩
def gz.app{m up:Int}{B:List bJ}(hB:gz m up B):∀{A:List bJ}{lo:Int},gz lo m A->gz lo up (A++B)
 |[],lo,h=>hB.low h
 |e::r,lo,h=>⟨h.1,h.2.1,gz.app hB h.2.2⟩
def gz.nl{up:Int}:∀{L:List bJ}{lo:Int},gz lo up L->gz lo up (L.map nl0)
 |[],lo,h=>h
 |e::r,lo,h=>⟨h.1,h.2.1,gz.nl h.2.2⟩
def gz.am0{up f:Int}:∀{L:List bJ}{lo:Int},gz lo up L->f<=lo->Yh f L=[]
 |[],lo,h,hf=>rfl
 |e::r,lo,h,hf=>by
  obtain⟨h1,h2,h3⟩:=h;rw[Yh,if_pos zE];exact gz.am0 h3 zE
def gz.bef{up f:Int}:∀{L:List bJ}{lo:Int},gz lo up L->lo<=f->gz lo f (Yh f L)
 |[],lo,h,hf=>hf
 |e::r,lo,h,hf=>by
  have hh:=h;obtain⟨h1,h2,h3⟩:=h;rw[Yh];by_cases hs:f<=e.st
  ·rw[if_pos hs,gz.am0 h3 zE];exact hf
  rw[if_neg hs];by_cases hl:f-e.st<e.fr
  ·rw[gz.am0 h3 zE];simp only[gz,Me,if_pos hl];omega
  refine⟨h1,?_,?_⟩
  ·simp only[Me,if_neg hl];exact h2
  have:=gz.bef h3 (f:=f) zE;simp only[Me,if_neg hl];exact this
def ajy(p:Pl)(fr t:Int):∀(n:Nat)(a:Int),(t-a).toNat<=n->a<=t->gz a t ((Vl fr t a).map (Vh p)):=by
 intro n;induction n with
 |zero=>intro a h ha;rw[Vl,if_neg zE];exact ha
 |succ n ih=>
  intro a h ha;rw[Vl];split
  ·have hN:1<=Yz fr t a/\Yz fr t a<=t-a:=by unfold Yz;split<;>omega
   have:=ih (a+Yz fr t a) zE zE;exact⟨zzby _,hN.1,this⟩
  exact ha
def H9{p:Pl}{s:Sp}{a:Int}{e:En}(h:p7 p s a=some e):Zf s.1 p.ens=some e/\1<=e.fr/\a<=s.2/\s.2+e.fr<=p.ln:=by
 unfold p7 at h;cases hf:Zf s.1 p.ens with
 |none=>rw[hf]at h;cases h
 |some x=>
  rw[hf]at h;simp only at h;split at h
  ·cases h
  cases h;exact⟨rfl,zE,zE,zE⟩
def aaG(p:Pl):∀(l:List Sp)(a:Int),a<=p.ln->gz a p.ln (zx p l a)
 |[],a,ha=>by rw[zx];exact ajy p _ _ _ a (zzaa _) ha
 |s::r,a,ha=>by
  rw[zx];cases hs:p7 p s a with
  |none=>exact aaG p r a ha
  |some e=>
   obtain⟨h1,h2,h3,h4⟩:=H9 hs;simp only[zzaz];refine gz.app ?_ (ajy p _ _ _ a (zzaa _) h3);exact⟨zzby _,h2,aaG p r _ h4⟩
def aaH(p:Pl)(l:List Sp)(a:Int)(h0:0<=a)(h1:a<=p.ln):gz a p.ln (iG p l a):=by
 unfold iG;rw[if_neg zE];exact aaG p l a h1
def O1(l:List Sp):Prop:=l.length<=1000/\l.Pairwise (fun a b=>a.1<b.1)/\∀a∈l,1<=a.1
def O1.nil:O1 []:=⟨zd,List.Pairwise.nil,fun a ha=>by cases ha⟩
def O1.filter{l:List Sp}(h:O1 l)(P:Sp->Bool):O1 (l.filter P):=
 ⟨zzb (zzca _ _) h.1,h.2.1.filter _,fun a ha=>h.2.2 a (zzcr.1 ha).1⟩
def EvP(e:bJ):Prop:=0<=e.i/\e.i<=e.st/\O1 e.al
def Ia(fr t:Int):∀(n:Nat)(a:Int),(t-a).toNat<=n->∀x∈Vl fr t a,a<=x.1:=by
 intro n;induction n with
 |zero=>intro a h x hx;rw[Vl,if_neg zE]at hx;cases hx
 |succ n ih=>
  intro a h x hx;rw[Vl]at hx;split at hx
  ·have hN:1<=Yz fr t a:=by unfold Yz;split<;>omega
   rcases zzao.1 hx with rfl|hx
   ·exact zzby _
   have:=ih (a+Yz fr t a) zE x hx;omega
  cases hx
def am1(p:Pl)(hp:∀e∈p.ens,O1 e.al):∀(l:List Sp)(a:Int),0<=a->∀e∈zx p l a,EvP e
 |[],a,ha,e,h=>by
  rw[zx,zzbh]at h;obtain⟨x,hx,rfl⟩:=h;have:=Ia _ _ _ a (zzaa _) x hx;exact⟨zzby _,by simp only[Vh];omega,O1.nil⟩
 |s::r,a,ha,e,h=>by
  rw[zx]at h;cases hs:p7 p s a with
  |none=>rw[hs]at h;exact am1 p hp r a ha e h
  |some x=>
   obtain⟨h1,h2,h3,h4⟩:=H9 hs;rw[hs]at h;simp only[zzaz,zzap,zzbh,zzcp]at h;obtain⟨y,hy,rfl⟩|rfl|h:=h
   ·have:=Ia _ _ _ a (zzaa _) y hy;exact⟨zzby _,by simp only[Vh];omega,O1.nil⟩
   ·have:=hp x (jJ h1).1;exact⟨zzby _,by simp only[G3];omega,this.filter _⟩
   exact am1 p hp r _ zE e h
def ajz(p:Pl)(hp:∀e∈p.ens,O1 e.al)(l:List Sp)(a:Int)(h0:0<=a):∀e∈iG p l a,EvP e:=by
 unfold iG;split
 ·intro e he;cases he
 exact am1 p hp l a h0
def am2(f:Int):∀{L:List bJ},(∀e∈L,EvP e)->∀e∈Yh f L,EvP e
 |[],h,e,he=>by cases he
 |x::r,h,e,he=>by
  rw[Yh]at he;split at he
  ·exact am2 f (fun y hy=>h y (by simp[hy])) e he
  rcases zzao.1 he with rfl|he
  ·exact h x zd
  exact am2 f (fun y hy=>h y (by simp[hy])) e he
def O2{lo up:Int}:∀{ks:P2},ks.Pairwise (·<·)->(∀k∈ks,lo<=k/\k<=up)->(ks.length:Int)<=max 0 (up-lo+1)
 |[],_,_=>by simp only[zzcd];omega
 |k::r,h,hb=>by
  obtain⟨h1,h2⟩:=zzbz.1 h;have hk:=hb k zd;have:=O2 (lo:=k+1) (up:=up) h2 (fun x hx=>⟨by have:=h1 x hx;omega,(hb x (by simp[hx])).2⟩);simp only[zzav];omega
def yU{p:Pl}(h:rI p=true):∀e∈p.ens,1<=e.id/\1<=e.fr/\0<=e.ea/\e.ea<=e.la/\e.la<=p.ln-e.fr/\O1 e.al:=by
 intro e he;have hv:=LN h;obtain⟨h1,h2,h3⟩:=hv.ens e he;have Oj:=hv.rg;unfold jy at h2;cases hf:Xg e.it p.aO with
 |none=>rw[hf]at h2;cases h2
 |some y=>
  rw[hf]at h2;simp only at h2;split at h2
  ·cases h2
  split at h2
  ·cases h2
  rename_i q2;split at h2
  ·cases h2
  have q2:wi e.fr 1 y.fr=true:=by simpa using q2
  simp only[wi,decide_eq_true_eq]at q2;simp only[zzai,decide_eq_true_eq]at h2;simp only[mB,zzai]at h3;obtain⟨p1,p2⟩:=ZL h3.1;have:=O2 p1 p2;rw[zzbu]at this;exact⟨h1,q2.1,h2.1,h2.2.1,h2.2.2,zE,List.pairwise_map.1 p1,fun a ha=>(p2 a.1 (zzbh.2 ⟨a,ha,rfl⟩)).1⟩
structure dV (k:Nat) (g:Pg):Prop where
 v:rI g.p=true
 ln:g.p.ln<=1500
 sh:g.p.sh.length<=10
 aO:g.p.aO.length<=20
 ens:g.p.ens.length<=12+k
 bks:g.p.bks.length<=10
 cls:g.p.cls.length<=20+k
 ch:gz 0 g.p.ln g.ev
 ep:∀e∈g.ev,EvP e
 cu:g.cu.length<=200
 dr:g.dr.length<=1000*k
 ve:g.ve=k
def dV.H6{k:Nat}{g:Pg}(h:dV k g):dV k (H6 g):=
 ⟨h.v,h.ln,h.sh,h.aO,h.ens,h.bks,h.cls,h.ch.nl,fun e he=>by
  obtain⟨x,hx,rfl⟩:=zzbh.1 he;exact h.ep x hx,h.cu,h.dr,h.ve⟩
def dV.plc{k:Nat}{g:Pg}(h:dV k g)(hk:k<=900):BI g.p:=
 ⟨by have:=h.sh;omega,by have:=h.aO;omega,by have:=h.ens;omega,by have:=h.bks;omega,by have:=h.cls;omega,fun e he=>by have:=(yU h.v e he).2.2.2.2.2.1;omega⟩
def dV.small{k:Nat}{g:Pg}(h:dV k g):g.ev.length<=1500/\∀e∈g.ev,Ki e:=by
 have h1:=h.ch.le;have h2:=h.ln;refine⟨zE,fun e he=>?_⟩;obtain⟨q1,q2,q3⟩:=h.ch.mem e he;obtain⟨q4,q5,q6,_⟩:=h.ep e he;exact⟨⟨zE,zE⟩,⟨zE,zE⟩,⟨zE,zE⟩,zE⟩
def dV.mo{k:Nat}{g:Pg}{f:Int}(h:dV k g)(hk:k<=900)(hf:0<=f/\f<g.p.ln):lR g f:=
 ⟨by have:=h.small.1;omega,h.small.2,by have:=h.ln;unfold nT;omega,by have:=h.ens;omega⟩
def dV.pgc{k:Nat}{g:Pg}(h:dV k g)(hk:k<=900):PgC g:=
 ⟨h.plc hk,by have:=h.small.1;omega,by have:=h.cu;omega,by have:=h.dr;omega,fun e he=>by have:=(h.ep e he).2.2.1;omega⟩
structure af2 (p:Pl):Prop where
 ln:p.ln<=1500
 sh:p.sh.length<=10
 aO:p.aO.length<=20
 ens:p.ens.length<=12
 bks:p.bks.length<=10
 cls:p.cls.length<=20
def aaI{p:Pl}(h:r9 p=0):rI p=true/\∃l,I7 p=some l:=by
 unfold r9 at h;split at h
 ·cases h
 rename_i hv;cases hl:I7 p with
 |none=>rw[hl]at h;cases h
 |some l=>exact⟨Pi hv,l,rfl⟩
def af3{p:Pl}(hp:af2 p)(h:r9 p=0):dV 0 (r8 p):=by
 obtain⟨hv,l,hl⟩:=aaI h;have hg:r8 p=⟨p,iG p l 0,[],0,[],0⟩:=by unfold r8;rw[hl]
 have ei:=(LN hv).ln;rw[hg];exact⟨hv,hp.ln,hp.sh,hp.aO,hp.ens,hp.bks,hp.cls,aaH p l 0 zE zE,ajz p (fun e he=>(yU hv e he).2.2.2.2.2) l 0 zE,zd,zd,rfl⟩
def Ef{p:Pl}:∀{ids:P2}{us en:List (Int×Int)}{free last:Int}{l:List Sp},Jg p ids us en free last=some l->l.length<=ids.length/\∀s∈l,0<=s.2/\s.2<=100000000
 |[],_,_,_,_,l,h=>by cases h;exact⟨zzaa _,fun s hs=>by cases hs⟩
 |id::r,us,en,free,last,l,h=>by
  rw[Jg]at h;cases h1:Ag id p.ens 0 with
  |none=>rw[h1]at h;cases h
  |some k=>
   rw[h1]at h;simp only at h;split at h
   ·cases h
   cases h2:p.ens[k]? with
   |none=>rw[h2]at h;cases h
   |some e=>
    rw[h2]at h;simp only at h;split at h
    ·cases h
    cases h3:Yc p e (Uf en (Kr p e.it) (max e.ea free))with
    |none=>rw[h3]at h;cases h
    |some s=>
     rw[h3]at h;simp only at h;cases h4:Jg p r (Vs us e.it) (Zn p en e.it (s+e.fr)) (s+e.fr) k with
     |none=>rw[h4]at h;cases h
     |some t=>
      rw[h4]at h;cases h;obtain⟨q1,q2⟩:=Ef h4;obtain⟨_,_,q3,_,_,q4,_⟩:=Qau h3;refine⟨by simp only[zzav];omega,fun x hx=>?_⟩;rcases zzao.1 hx with rfl|hx
      ·exact⟨q3,q4⟩
      exact q2 x hx
def atm{p:Pl}(hp:af2 p)(fk:∀e∈p.ens,e.al.length<=8796093022208)(S9:∀e∈p.ens,e.ea<=9223372036854775807):atl p:=by
 refine⟨⟨by have:=hp.sh;omega,by have:=hp.aO;omega,by have:=hp.ens;omega,by have:=hp.bks;omega,by have:=hp.cls;omega,fk⟩,by have:=hp.ln;omega,S9,fun l hl=>?_⟩;unfold I7 at hl;split at hl
 ·cases hl
 obtain⟨h1,h2⟩:=Ef hl;have h3:(Ua p).length=p.ens.length:=by simp[Ua]
 have:=hp.ens;refine⟨zE,fun s hs=>?_⟩;have:=h2 s hs;omega
def af4{o:Od}(h:Jd o=true):o.n=0/\o.nw.al=[]:=by
 simp only[Jd,decide_eq_true_eq]at h;exact⟨h.2.1,h.2.2.2.2.2.2.2.2.2.2⟩
def yV{o:Od}(h:Xm o=true):(0<=o.fr/\o.fr<=100000000)/\(-100000000<=o.n/\o.n<=100000000)/\(0<=o.sq/\o.sq<=200)/\(1<=o.ki/\o.ki<=5):=by
 unfold Xm at h;split at h
 ·cases h
 split at h
 ·cases h
 split at h
 ·cases h
 split at h
 ·cases h
 rename_i h1 h2 h3 h4;rw[zzai]at h;refine⟨zE,?_,zE,zE⟩;by_cases hk:o.ki=1
 ·omega
 have hb:=(af4 h.2).1
 have hn:(Yp o).n=o.n:=by
  unfold Yp;rw[if_neg hk];repeat' split
  all_goals rfl
 omega
def qo{g:Pg}{f:Int}{b:QP}{o:Od}{q:Pl}{d:Int}(h:Kg g f b o=some (q,d)):f<g.p.ln/\Kl g f b o=some (q,d)/\rI q=true/\zz g f b o q d=true:=by
 unfold Kg at h;split at h
 ·cases h
 rename_i hl;cases hb:Kl g f b o with
 |none=>rw[hb]at h;cases h
 |some x=>
  obtain⟨q',d'⟩:=x;rw[hb]at h;simp only at h;split at h
  ·rename_i hc;cases h;rw[zzai]at hc;exact⟨zE,rfl,hc.1,hc.2⟩
  cases h
def jY{g:Pg}{f:Int}{b:QP}{o:Od}{q:Pl}{d:Int}(h:Kl g f b o=some (q,d)):
  q.ln=g.p.ln/\q.sh=g.p.sh/\q.aO=g.p.aO/\q.bks=g.p.bks/\q.ens.length<=g.p.ens.length+1/\q.cls.length<=g.p.cls.length+1/\q.ch=g.p.ch:=by
 unfold Kl at h;split at h
 ·unfold rQ at h;split at h
  ·cases h
  split at h
  ·cases h
  cases h;exact⟨rfl,rfl,rfl,rfl,zd,zd,rfl⟩
 split at h
 ·unfold yp at h;split at h
  ·cases h
  cases h;exact⟨rfl,rfl,rfl,rfl,by have:=zzca (fun e=>!mF o.en e) g.p.ens;simp only;omega,zd,rfl⟩
 split at h
 ·cases h;refine⟨rfl,rfl,rfl,rfl,?_,by simp[nY],rfl⟩;simp only[nY,zzah,zzaq,zzav,zzcb];omega
 cases h;exact⟨rfl,rfl,rfl,rfl,by simp[DY],by simp[DY],rfl⟩
def af5{n:Int}(h: -9223372036854775808<=n/\n<=9223372036854775807):Vv n=n:=by unfold Vv;omega
def ajA{g:Pg}{f:Int}{b:QP}{o:Od}{q:Pl}{d:Int}(hk:o.ki=1)(h:Kl g f b o=some (q,d))(hv:rI q=true)(hm:zz g f b o q d=true)(ei:g.p.ln<=1500):
  (1<=d/\d<=1500)/\∀st,BO g f b o.en=some st->Vv (f-st)<=d/\st+d<=q.ln:=by
 have hq:=(jY h).1;unfold Kl at h;rw[if_pos hk]at h;unfold zz at hm;rw[if_pos hk]at hm;unfold rQ at h;cases he:g.p.ens[(Ja g o.en).toNat]? with
 |none=>rw[he]at h;cases h
 |some e=>
  rw[he]at h;simp only at h;split at h
  ·cases h
  simp only[Option.some.injEq,Prod.mk.injEq]at h;obtain⟨h1,h2⟩:=h;have aa:=(zza.1 he).1
  have iB:RC g f b o e∈q.ens:=by
   rw[<- h1];exact zzac (zzbg aa)
  obtain⟨_,p1,p2,p3,p4,_⟩:=yU hv _ iB;have zQ:(RC g f b o e).fr=d:=h2;rw[zQ]at p1 p4;refine⟨zE,fun st cc=>?_⟩;unfold Qbw at hm;split at hm
  ·cases hm
  split at hm
  ·cases hm
  split at hm
  ·cases hm
  split at hm
  ·cases hm
  split at hm
  ·cases hm
  rw[cc]at hm;simp only at hm;split at hm
  ·cases hm
  refine⟨?_,zE⟩;rw[<- h2];unfold ug;rw[cc];simp only;split<;>omega
def aaJ{k:Nat}{g:Pg}{f:Int}{b:QP}{o:Od}{q:Pl}{d:Int}(h:dV k g)(hk:k<=900)(hf:0<=f)(hc:Kg g f b o=some (q,d)){e:bJ}(he:oe g f b o q d=some e):
  e.st=f/\1<=e.fr/\f+e.fr<=q.ln/\EvP e:=by
 obtain⟨c1,c2,c3,c4⟩:=qo hc;have hq:=(jY c2).1;have ei:=h.ln;unfold oe at he;cases hp:Jf g f b with
 |none=>rw[hp]at he;cases he
 |some x=>
  rw[hp]at he;simp only at he;cases hF:iH g f o q d x with
  |none=>rw[hF]at he;cases he
  |some F=>
   rw[hF]at he;simp only at he;split at he
   ·cases he
   rename_i dW;cases he
   have hxm:x∈g.ev/\xW f x=true/\x.id≠0:=by
    unfold Jf at hp;cases hfd:g.ev.find? (xW f)with
    |none=>rw[hfd]at hp;cases hp
    |some y=>
     rw[hfd]at hp;simp only at hp;split at hp
     ·cases hp
     split at hp
     ·cases hp;rename_i h1 h2;exact⟨zzee hfd,zzgz hfd,h1⟩
     cases hp
   obtain⟨x1,x2,x3⟩:=hxm;simp only[xW,decide_eq_true_eq]at x2;obtain⟨y1,y2,y3⟩:=h.ch.mem x x1;obtain⟨z1,z2,z3⟩:=h.ep x x1
   have fk:O1 (jQ q f x.id F ((Zf x.id q.ens).getD yt).al):=by
    refine O1.filter ?_ _;cases hn:Zf x.id q.ens with
    |none=>exact O1.nil
    |some en=>exact(yU c3 en (jJ hn).1).2.2.2.2.2
   have hFF:1<=F/\f+F<=q.ln:=by
    unfold iH at hF;split at hF
    ·rename_i fM;cases hF;obtain⟨d1,d2⟩:=ajA fM.1 c2 c3 c4 ei
     have bU:BO g f b o.en=some (rP g x.id):=by
      unfold BO;rw[hp];simp only;rw[if_pos fM.2.symm]
     obtain⟨e1,e2⟩:=d2 _ bU;have hb:=DU (h.mo hk ⟨hf,c1⟩) x.id;rw[af5 zE]at e1;omega
    split at hF
    ·cases hF
    split at hF
    ·cases hF
    cases hF;simp only[uW];omega
   exact⟨rfl,hFF.1,hFF.2,by simp only;omega,by simp only;omega,fk⟩
def aaK{k:Nat}{g:Pg}{f:Int}{b:QP}{o:Od}{q:Pl}{d:Int}(h:dV k g)(hk:k<=900)(hf:0<=f)(hc:Kg g f b o=some (q,d)):
  f<=Jn g f b o q d/\Jn g f b o q d<=q.ln/\gz 0 (Jn g f b o q d) (Jc g f b o q d)/\∀e∈Jc g f b o q d,EvP e:=by
 obtain⟨c1,c2,c3,c4⟩:=qo hc;have hq:=(jY c2).1;have hb:=(h.ch.bef (f:=f) hf).nl;have hbp:=am2 f h.ep;unfold Jn Jc;cases dw:oe g f b o q d with
 |none=>
  simp only[Option.toList_none,zzas];refine⟨zzby _,zE,hb,fun e he=>?_⟩;obtain⟨x,hx,rfl⟩:=zzbh.1 he;exact hbp x hx
 |some e=>
  obtain⟨e1,e2,e3,e4⟩:=aaJ h hk hf hc dw;simp only[Option.toList_some];refine⟨zE,zE,gz.app ?_ hb,fun x hx=>?_⟩
  ·exact⟨zE,e2,by simp only[gz];omega⟩
  rcases zzap.1 hx with hx|hx
  ·obtain⟨y,hy,rfl⟩:=zzbh.1 hx;exact hbp y hy
  rw[zzcp]at hx;rw[hx];exact e4
def atn{k:Nat}{g:Pg}{f:Int}{b:QP}{o:Od}{q:Pl}{d:Int}(h:dV k g)(hk:k<=900)(hf:0<=f)(fM:1<=o.ki/\o.ki<=5)(hc:Kg g f b o=some (q,d)):
  HP g f b o q d/\(Yd g f b o q d).length<=1000000/\(Mn g f b o q d).length<=10000000:=by
 obtain⟨c1,c2,c3,c4⟩:=qo hc;obtain⟨q1,q2,q3,q4,q5,q6,q7⟩:=jY c2;obtain⟨n1,n2,n3,n4⟩:=aaK h hk hf hc;have ei:=h.ln;have XA:=LN c3;have IZ:=yU c3
 have cc:(Yd g f b o q d).length<=1000/\∀s∈Yd g f b o q d,0<=s.2/\s.2<=100000000:=by
  unfold Yd;cases hs:Yo q (Jn g f b o q d) (ql g f b o q d) (Xc true (Jl g b q.ens) (mM g f b o q d))with
  |none=>exact⟨zd,fun s hs=>by cases hs⟩
  |some l=>
   obtain⟨s1,s2⟩:=Ef hs;have t1:=qj true (Jl g b q.ens) (mM g f b o q d);have t2:=jU g b q.ens;have t3:=h.ens;exact⟨by simp only[Option.getD_some];omega,s2⟩
 have eW:=aaH q (Yd g f b o q d) (Jn g f b o q d) zE n2
 have hd:0<=d/\d<=1000000000:=by
  by_cases h1:o.ki=1
  ·have:=(ajA h1 c2 c3 c4 ei).1;omega
  unfold Kl at c2;rw[if_neg h1]at c2;split at c2
  ·cases eY:yp g o with
   |none=>rw[eY]at c2;cases c2
   |some x=>rw[eY]at c2;cases c2;omega
  split at c2<;>cases c2<;>omega
 have hpc:BI q:=⟨by rw[q2];have:=h.sh;omega,by rw[q3];have:=h.aO;omega,by have:=h.ens;omega,by rw[q4];have:=h.bks;omega,by have:=h.cls;omega,fun e he=>by have:=(IZ e he).2.2.2.2.2.1;omega⟩;refine⟨⟨h.mo hk ⟨hf,c1⟩,hpc,?_,hd,by have:=XA.rg;omega,zE,by have:=h.small.1;omega,by have:=h.dr;omega,zE,?_,zE,fun s hs=>by have:=cc.2 s hs;omega⟩,by have:=cc.1;omega,?_⟩
 ·exact⟨by have:=h.cls;omega,by rw[q2];have:=h.sh;omega,by rw[q3];have:=h.aO;omega,by have:=h.ens;omega,by rw[q4];have:=h.bks;omega,fun e he=>(IZ e he).2.2.2.2.2.1,by have:=XA.ln;omega,
   fun e he=>by have:=IZ e he;omega,fun e he=>by have:=IZ e he;omega,fun e he=>by have:=IZ e he;omega⟩
 ·intro e he;obtain⟨e1,e2,e3,e4,e5,e6,_⟩:=aaJ h hk hf hc he;exact⟨⟨zE,zE⟩,⟨zE,zE⟩,⟨zE,zE⟩,zE⟩
 have:=eW.le.2;unfold Mn;omega
def af6(o:Od):Prop:=o.nw.al.length<=1000
def O3{k:Nat}{g:Pg}{o:Od}(h:dV k g)(hk:k<=900)(ho:af6 o):af0 g o:=by
 unfold af6 at ho;refine⟨h.pgc hk,zE,by have:=h.ve;omega,by have:=h.cu;omega,fun hc _=>?_,fun hc _ q d hx=>?_⟩
 ·have hv:Xm o=true:=by unfold Jv at hc;rw[zzai]at hc;exact hc.1
  obtain⟨v1,v2,v3,v4⟩:=yV hv;exact⟨fun hl=>h.mo hk ⟨v1.1,hl⟩,h.plc hk,v1.1,by have:=h.ln;omega,by unfold th;omega,fun e he=>by have:=yU h.v e he;have:=h.ln;unfold th;omega,by have:=h.dr;omega,zE⟩
 have hv:Xm o=true:=by unfold Jv at hc;rw[zzai]at hc;exact hc.1
 obtain⟨v1,v2,v3,v4⟩:=yV hv;exact atn h hk v1.1 v4 hx
def Cb{k:Nat}{g:Pg}{o:Od}(h:dV k g)(hk:k<=900):dV (k+1) (Vq g o):=by
 have hup:dV (k+1) {g with ve:=g.ve+1}:=⟨h.v,h.ln,h.sh,h.aO,by have:=h.ens;simp only;omega,h.bks,by have:=h.cls;simp only;omega,h.ch,h.ep,h.cu,by have:=h.dr;simp only;omega,by have:=h.ve;simp only;omega⟩;unfold Vq;split
 ·exact hup
 rename_i hc;split
 ·cases he:HY o.cu g.cu with
  |none=>exact hup
  |some x=>
   refine⟨h.v,h.ln,h.sh,h.aO,by have:=h.ens;simp only;omega,h.bks,by have:=h.cls;simp only;omega,h.ch,h.ep,?_,by have:=h.dr;simp only;omega,by have:=h.ve;simp only;omega⟩;unfold HY at he;split at he
   ·split at he
    ·cases he
    cases he;simp only;omega
   cases he
 cases hx:Kg g o.fr (Xw o.fr g.ev []) o with
 |none=>exact hup
 |some r=>
  obtain⟨q,d⟩:=r
  have hv:Xm o=true:=by
   have hc:Jv g o=true:=by simpa using hc
   unfold Jv at hc;rw[zzai]at hc;exact hc.1
  obtain⟨v1,v2,v3,v4⟩:=yV hv;obtain⟨c1,c2,c3,c4⟩:=qo hx;obtain⟨q1,q2,q3,q4,q5,q6,q7⟩:=jY c2;obtain⟨n1,n2,n3,n4⟩:=aaK h hk v1.1 hx;have eW:=aaH q (Yd g o.fr (Xw o.fr g.ev []) o q d) _ zE n2;have hbp:=ajz q (fun e he=>(yU c3 e he).2.2.2.2.2) (Yd g o.fr (Xw o.fr g.ev []) o q d) (Jn g o.fr (Xw o.fr g.ev []) o q d) zE;refine⟨c3,by show q.ln<=1500;have:=h.ln;omega,by show q.sh.length<=10;rw[q2];exact h.sh,by show q.aO.length<=20;rw[q3];exact h.aO,by show q.ens.length<=12+(k+1);have:=h.ens;omega,by show q.bks.length<=10;rw[q4];exact h.bks,by show q.cls.length<=20+(k+1);have:=h.cls;omega,gz.app eW n3,?_,h.cu,?_,by show g.ve+1=_;have:=h.ve;omega⟩
  ·intro e he;rcases zzap.1 he with he|he
   ·exact n4 e he
   exact hbp e he
  show(dd (Ka (g.dr++Wu g o.fr (Xw o.fr g.ev []) o q d))).length<=1000*(k+1);have t1:=K6 (Ka (g.dr++Wu g o.fr (Xw o.fr g.ev []) o q d));rw[r6,zzah]at t1;have t2:=qj false (Jl g (Xw o.fr g.ev []) q.ens) (mM g o.fr (Xw o.fr g.ev []) o q d);have t3:=jU g (Xw o.fr g.ev []) q.ens;have t4:=h.ens;have t5:=h.dr;unfold Wu at t1;unfold Wu;omega
structure MdV (M:Md):Prop where
 n:∀l∈M.ps,l.length=M.os.length+1
 pr:∀l∈M.ps,∀i g,l[i]?=some g->dV i g
 fr:∀o∈M.os,0<=o.2/\o.2<=100000000
 los:M.os.length<=200
def yW(n:Nat)(f:Nat->AV)(m:AM):Prop:=∃i:Nat,f 13=I i/\i<=n/\m=⟨[],[],fun _=>.gone,0⟩
def ayq(l:P2)(hl:l.length<=8796093022208):Pure Tryz.prog aD 61 [.sl .ro (l.map Xa),.sl .ro (l.map Xa)] (.bool true):=by
 refine Qn akH (fun _ _ _=>.junk) zd ?_;simp[ape];refine Qj Tl (yW l.length) (fun f _=>l.length-(numOf (f 13)).toNat) ?_ ?_
 ·exact⟨0,zd,zE,rfl⟩
 rintro f m ⟨i,fD,hi,rfl⟩;rcases zzab i l.length with aa|bu
 ·obtain⟨a,ha⟩:=aY aa;have ai:Qg (l.map Xa) i=Xa a:=Qv (by simp[ha]);have ah:(i:Int)<(l.length:Int):=zE
  have hw:=bR i zE;simp[fD,Tl,aa,ah,ai,Xa,hw];refine⟨aR,⟨i+1,zd,zE,rfl⟩,zE⟩
 obtain rfl:i=l.length:=zE
 simp[fD,Tl,apf]
def ayr(l:List Cue)(hl:l.length<=8796093022208):Pure Tryz.prog aD 62 [.sl .ro (l.map Ql),.sl .ro (l.map Ql)] (.bool true):=by
 refine Qn akI (fun _ _ _=>.junk) zd ?_;simp[apg];refine Qj Tm (yW l.length) (fun f _=>l.length-(numOf (f 13)).toNat) ?_ ?_
 ·exact⟨0,zd,zE,rfl⟩
 rintro f m ⟨i,fD,hi,rfl⟩;rcases zzab i l.length with aa|bu
 ·obtain⟨a,ha⟩:=aY aa;have ai:Qg (l.map Ql) i=Ql a:=Qv (by simp[ha]);have ah:(i:Int)<(l.length:Int):=zE
  have hw:=bR i zE;simp[fD,Tm,aa,ah,ai,Ql,hw];refine⟨aR,⟨i+1,zd,zE,rfl⟩,zE⟩
 obtain rfl:i=l.length:=zE
 simp[fD,Tm,aph]
def ato(l:List Sp)(hl:l.length<=8796093022208):Pure Tryz.prog aD 117 [.sl .ro (l.map Qe),.sl .ro (l.map Qe)] (.bool true):=by
 refine Qn acg (fun _ _ _=>.junk) zd ?_;simp[ag8];refine Qj JJ (yW l.length) (fun f _=>l.length-(numOf (f 13)).toNat) ?_ ?_
 ·exact⟨0,zd,zE,rfl⟩
 rintro f m ⟨i,fD,hi,rfl⟩;rcases zzab i l.length with aa|bu
 ·obtain⟨a,ha⟩:=aY aa;have ai:Qg (l.map Qe) i=Qe a:=Qv (by simp[ha]);have ah:(i:Int)<(l.length:Int):=zE
  have hw:=bR i zE;simp[fD,JJ,aa,ah,ai,Qe,hw];refine⟨aR,⟨i+1,zd,zE,rfl⟩,zE⟩
 obtain rfl:i=l.length:=zE
 simp[fD,JJ,ag9]
def atp(l:List It)(hl:l.length<=8796093022208):Pure Tryz.prog aD 118 [.sl .ro (l.map Qm),.sl .ro (l.map Qm)] (.bool true):=by
 refine Qn ach (fun _ _ _=>.junk) zd ?_;simp[aha];refine Qj JK (yW l.length) (fun f _=>l.length-(numOf (f 13)).toNat) ?_ ?_
 ·exact⟨0,zd,zE,rfl⟩
 rintro f m ⟨i,fD,hi,rfl⟩;rcases zzab i l.length with aa|bu
 ·obtain⟨a,ha⟩:=aY aa;have ai:Qg (l.map Qm) i=Qm a:=Qv (by simp[ha]);have ah:(i:Int)<(l.length:Int):=zE
  have hw:=bR i zE;simp[fD,JK,aa,ah,ai,Qm,hw];refine⟨aR,⟨i+1,zd,zE,rfl⟩,zE⟩
 obtain rfl:i=l.length:=zE
 simp[fD,JK,ahb]
def atq(l:List Bk)(hl:l.length<=8796093022208):Pure Tryz.prog aD 121 [.sl .ro (l.map Xk),.sl .ro (l.map Xk)] (.bool true):=by
 refine Qn ack (fun _ _ _=>.junk) zd ?_;simp[ahf];refine Qj JM (yW l.length) (fun f _=>l.length-(numOf (f 13)).toNat) ?_ ?_
 ·exact⟨0,zd,zE,rfl⟩
 rintro f m ⟨i,fD,hi,rfl⟩;rcases zzab i l.length with aa|bu
 ·obtain⟨a,ha⟩:=aY aa;have ai:Qg (l.map Xk) i=Xk a:=Qv (by simp[ha]);have ah:(i:Int)<(l.length:Int):=zE
  have hw:=bR i zE;simp[fD,JM,aa,ah,ai,Xk,hw];refine⟨aR,⟨i+1,zd,zE,rfl⟩,zE⟩
 obtain rfl:i=l.length:=zE
 simp[fD,JM,ahg]
def atr(l:List Cl)(hl:l.length<=8796093022208):Pure Tryz.prog aD 122 [.sl .ro (l.map Qh),.sl .ro (l.map Qh)] (.bool true):=by
 refine Qn acm (fun _ _ _=>.junk) zd ?_;simp[ahh];refine Qj JN (yW l.length) (fun f _=>l.length-(numOf (f 13)).toNat) ?_ ?_
 ·exact⟨0,zd,zE,rfl⟩
 rintro f m ⟨i,fD,hi,rfl⟩;rcases zzab i l.length with aa|bu
 ·obtain⟨a,ha⟩:=aY aa;have ai:Qg (l.map Qh) i=Qh a:=Qv (by simp[ha]);have ah:(i:Int)<(l.length:Int):=zE
  have hw:=bR i zE;simp[fD,JN,aa,ah,ai,Qh,hw];refine⟨aR,⟨i+1,zd,zE,rfl⟩,zE⟩
 obtain rfl:i=l.length:=zE
 simp[fD,JN,ahi]
def ajB(l:List Sp)(hl:l.length<=8796093022208):Pure Tryz.prog aD 173 [.sl .ro (l.map Qe),.sl .ro (l.map Qe)] (.bool true):=by
 refine Qn ac0 (fun _ _ _=>.junk) zd ?_;simp[ahO];refine Qj JQ (yW l.length) (fun f _=>l.length-(numOf (f 13)).toNat) ?_ ?_
 ·exact⟨0,zd,zE,rfl⟩
 rintro f m ⟨i,fD,hi,rfl⟩;rcases zzab i l.length with aa|bu
 ·obtain⟨a,ha⟩:=aY aa;have ai:Qg (l.map Qe) i=Qe a:=Qv (by simp[ha]);have ah:(i:Int)<(l.length:Int):=zE
  have hw:=bR i zE;simp[fD,JQ,aa,ah,ai,Qe,hw];refine⟨aR,⟨i+1,zd,zE,rfl⟩,zE⟩
 obtain rfl:i=l.length:=zE
 simp[fD,JQ,ahP]
def af7(e:bJ)(hl:e.al.length<=8796093022208):Pure Tryz.prog aD 116 [.agg (Qf e),.agg (Qf e)] (.bool true):=by
 have k:=ajB e.al hl;refine Qn acf (fun _ _ _=>.bool true) zd ?_;simp[ag6,ag7,Qf];exact k
def af8(e:En)(hl:e.al.length<=8796093022208):Pure Tryz.prog aD 120 [.agg (Qd e),.agg (Qd e)] (.bool true):=by
 have k:=ajB e.al hl;refine Qn acj (fun _ _ _=>.bool true) zd ?_;simp[ahd,ahe,Qd];exact k
def ajC(n:Nat)(f:Nat->AV)(m:AM):Prop:=∃(i:Nat)(bx:X2),f 17=I i/\i<=n/\m=⟨bx,[],fun _=>.gone,0⟩
def am3(l:List bJ)(hl:l.length<=8796093022208)(ha:∀e∈l,e.al.length<=8796093022208):Pure Tryz.prog aD 115 [.sl .ro (l.map Qf),.sl .ro (l.map Qf),.fn 116 [] []] (.bool true):=by
 refine Qn ace (fun _ _ _=>.bool true) zd ?_;simp[TH];refine Qj JI (ajC l.length) (fun f _=>l.length-(numOf (f 17)).toNat) ?_ ?_
 ·exact⟨0,_,zd,zE,rfl⟩
 rintro f m ⟨i,bx,h17,hi,rfl⟩;rcases zzab i l.length with aa|bu
 ·obtain⟨a,he⟩:=aY aa;have k:=af7 a (ha a (zzac he));have ai:Qg (l.map Qf) i=Qf a:=Qv (by simp[he]);have ah:(i:Int)<(l.length:Int):=zE
  have hw:=bR i zE;simp only[Qf]at k ai;simp[h17,JI,aa,ah,ai,Qf,hw];refine⟨k,aR,⟨i+1,_,zd,zE,rfl⟩,zE⟩
 obtain rfl:i=l.length:=zE
 simp[h17,JI,ag5]
def am4(l:List En)(hl:l.length<=8796093022208)(ha:∀e∈l,e.al.length<=8796093022208):Pure Tryz.prog aD 119 [.sl .ro (l.map Qd),.sl .ro (l.map Qd),.fn 120 [] []] (.bool true):=by
 refine Qn aci (fun _ _ _=>.bool true) zd ?_;simp[TI];refine Qj JL (ajC l.length) (fun f _=>l.length-(numOf (f 17)).toNat) ?_ ?_
 ·exact⟨0,_,zd,zE,rfl⟩
 rintro f m ⟨i,bx,h17,hi,rfl⟩;rcases zzab i l.length with aa|bu
 ·obtain⟨a,he⟩:=aY aa;have k:=af8 a (ha a (zzac he));have ai:Qg (l.map Qd) i=Qd a:=Qv (by simp[he]);have ah:(i:Int)<(l.length:Int):=zE
  have hw:=bR i zE;simp only[Qd]at k ai;simp[h17,JL,aa,ah,ai,Qd,hw];refine⟨k,aR,⟨i+1,_,zd,zE,rfl⟩,zE⟩
 obtain rfl:i=l.length:=zE
 simp[h17,JL,ahc]
structure am5 (g:Pg):Prop where
 sh:g.p.sh.length<=8796093022208
 aO:g.p.aO.length<=8796093022208
 ens:g.p.ens.length<=8796093022208
 al:∀e∈g.p.ens,e.al.length<=8796093022208
 bks:g.p.bks.length<=8796093022208
 cls:g.p.cls.length<=8796093022208
 ev:g.ev.length<=8796093022208
 eal:∀e∈g.ev,e.al.length<=8796093022208
 cu:g.cu.length<=8796093022208
 dr:g.dr.length<=8796093022208
def am6(l:List bJ)(hl:l.length<=8796093022208)(ha:∀e∈l,e.al.length<=8796093022208):Pure Tryz.prog aD 63 [.sl .ro (l.map Qf),.sl .ro (l.map Qf)] (.bool true):=by
 have k:=am3 l hl ha;refine Qn akJ (fun _ _ _=>.bool true) zd ?_;simp[api,apj];exact k
def am7(g:Pg)(h:am5 g):Pure Tryz.prog aD 64 [.agg (Qa g.p),.agg (Qa g.p)] (.bool true):=by
 have k1:=ato g.p.sh h.sh;have k2:=atp g.p.aO h.aO;have k3:=am4 g.p.ens h.ens h.al;have k4:=atq g.p.bks h.bks;have k5:=atr g.p.cls h.cls;refine Qn akK (fun _ _ _=>.bool true) zd ?_;simp[apk,apl,Qa];exact⟨k1,k2,k3,k4,k5⟩
def am8(g:Pg)(h:am5 g):Pure Tryz.prog aD 21 [.agg (Qo g),.agg (Qo g)] (.bool true):=by
 have k1:=ayq g.dr h.dr;have k2:=ayr g.cu h.cu;have k3:=am6 g.ev h.ev h.eal;have k4:=am7 g h;simp only[Qa]at k4;refine Qn Te (fun _ _ _=>.bool true) zd ?_;simp[abM,abN,Qo,Qa];exact⟨k1,k2,k3,k4⟩
def dV.sm{k:Nat}{g:Pg}(h:dV k g)(hk:k<=900):am5 g where
 sh:=by have:=h.sh;omega
 aO:=by have:=h.aO;omega
 ens:=by have:=h.ens;omega
 al:=fun e he=>(h.plc hk).2.2.2.2.2 e he
 bks:=by have:=h.bks;omega
 cls:=by have:=h.cls;omega
 ev:=by have:=h.small.1;omega
 eal:=fun e he=>by have:=(h.ep e he).2.2.1;omega
 cu:=by have:=h.cu;omega
 dr:=by have:=h.dr;omega
def Sk(g:Pg)(o:Od):Bool:=Jv g o&&(if o.ki=5 then(HY o.cu g.cu).isSome else(Kg g o.fr (Xw o.fr g.ev []) o).isSome)
def Sl(g:Pg)(fr:Int)(mb:X2):X2:=mb++(Qo g::Qq g fr (mb.length+2)::[.aL 0 (bF .bool (Xw fr g.ev []))]::Qq g fr (mb.length+2)::g.ev.map Qf)
def am9(g:Pg)(fr:Int)(mb:X2)(ml:P1)(ms:Nat->LS)(mn:Nat)(f:Nat->AV)(m:AM):Prop:=
 ∃(i:Nat)(b:QP),f 16=I i/\i<=g.ev.length/\Xw fr (g.ev.drop i) b=Xw fr g.ev []/\b.length<=i/\
  m=⟨mb++(Qo g::ED::[.aL 0 (bF .bool b)]::Qq g fr (mb.length+2)::(g.ev.take i).map Qf),ml,ms,mn⟩
def Sm(Y:YT)(m:AM)(g:Pg)(fr:Int)(hl:g.ev.length<=1000000):
  aA Tryz.prog aD Y 55 [.agg (Qo g),I fr] m (fun r m'=>r=.agg (Qq g fr (m.boxes.length+2))/\m'={m with boxes:=Sl g fr m.boxes}):=by
 obtain⟨mb,ml,ms,mn⟩:=m;refine Xh Ti (fun _ _ _=>.junk) zd ?_;simp[akC,Qo,Qa];refine Qj lU (am9 g fr mb ml ms mn) (fun f _=>g.ev.length-(numOf (f 16)).toNat) ?_ ?_
 ·exact⟨0,[],zd,zE,zd,zd,by simp[Qo,Qa,Qq,ED]⟩
 rintro f m ⟨i,b,K3,hi,hb,eW,rfl⟩;rcases zzab i g.ev.length with aa|bu
 ·obtain⟨e,he⟩:=aY aa;have ai:Qg (g.ev.map Qf) i=Qf e:=Qv (by simp[he]);have ah:(i:Int)<(g.ev.length:Int):=zE
  have hw:=bR i zE;have hd:g.ev.drop i=e::g.ev.drop (i+1):=by rw[zzaf aa,(zza.1 he).2]
  have bB:(g.ev.take (i+1)).map Qf=(g.ev.take i).map Qf++[Qf e]:=by rw[zzax,he];simp
  generalize(g.ev.take i).map Qf=bx at bB |-
  rw[hd,Xw]at hb;by_cases hs:e.st<fr
  ·rw[if_pos hs]at hb;have fk:=rS e.id true b;rcases Xu AV.bool e.id b 0 with⟨b1,b2,b3,b4⟩|⟨u,n,b1,b2,b3,b4,b5,b6⟩
   ·simp[K3,lU,ah,ai,hw,Qf,Qo,Qa,Qq,ED,hs,b2];refine⟨aR,⟨i+1,Vi e.id true b,zd,zE,hb,zE,by rw[bB];simp[Qo,Qa,Qq,ED,Qf,b4]⟩,zE⟩
   simp[K3,lU,ah,ai,hw,Qf,Qo,Qa,Qq,ED,hs,b2];refine⟨aR,⟨i+1,Vi e.id true b,zd,zE,hb,zE,by rw[bB];simp[Qo,Qa,Qq,ED,Qf,b6]⟩,zE⟩
  rw[if_neg hs]at hb;simp[K3,lU,ah,ai,hw,Qf,Qo,Qa,Qq,ED,hs];refine⟨aR,⟨i+1,b,zd,zE,hb,zE,by rw[bB];simp[Qo,Qa,Qq,ED,Qf]⟩,zE⟩
 obtain rfl:i=g.ev.length:=zE
 rw[zzbx,Xw]at hb;subst hb;simp[K3,lU,akD,Qo,Qa,Qq,ED,Sl]
def ana(g:Pg)(fr:Int)(mb:X2)(h:∀c∈mb,eZ c):(∀c∈Sl g fr mb,eZ c)/\gm (Sl g fr mb) (mb.length+2) (Xw fr g.ev []):=by
 refine⟨fun c hc=>?_,⟨by simp[Sl],by simp[Sl]⟩⟩;simp only[Sl,zzap,zzao,zzbh]at hc;obtain hc|rfl|rfl|rfl|rfl|⟨e,_,rfl⟩:=hc
 ·exact h c hc
 ·exact eZ.of (by simp[Qo,Qa]) (aaq g)
 ·exact eZ.mo g fr _
 ·exact eZ.map _
 ·exact eZ.mo g fr _
 exact eZ.of (by simp[Qf]) (D7 e)
def af9(g:Pg)(fr:Int)(o:Od)(mb:X2)(ml:P1)(ms:Nat->LS)(mn:Nat)(h:aae g fr o)(gV:∀c∈mb,eZ c)(v:AV)(hv:Aj (Kg g fr (Xw fr g.ev []) o)=v):
  aA Tryz.prog aD Y0 56 [.agg (Qq g fr (mb.length+2)),.agg (Qu o)] ⟨Sl g fr mb,ml,ms,mn⟩ (fun r m'=>r=v/\m'=⟨Sl g fr mb,ml,ms,mn⟩):=by
 obtain⟨h1,h2⟩:=ana g fr mb gV;exact aA.mono (OR Y0 ⟨Sl g fr mb,ml,ms,mn⟩ g fr (mb.length+2) _ o h h2 h1) (by rintro r m' ⟨rfl,rfl⟩;exact⟨hv,rfl⟩)
def Cc(g:Pg)(o:Od)(h:af0 g o):Pure Tryz.prog aD 20 [.agg (Qo g),.agg (Qu o)] (.bool (Sk g o)):=by
 obtain⟨hpg,fk,hve,sH,mg,hrn⟩:=h;have Ec:=tg g o fk;have sW:=BR g.cu o.cu sH;rw[HZ]at sW;unfold Sk;simp only[Qo,Qa,Qu,Qd,Qh,Ql,zzae,zzaj]at Ec sW;cases hc:Jv g o with
 |false=>
  rw[hc]at Ec;refine Qn vf (fun _ f l=>if f=53 then .bool false else .gd false .junk) zd ?_;simp[PB,PC,Qo,Qa,Qu,Qd,Qh,Ql];exact Ec
 |true=>
  rw[hc]at Ec;by_cases h5:o.ki=5
  ·rw[if_pos h5];rw[h5]at Ec;cases he:HY o.cu g.cu with
   |none=>
    rw[he]at sW;refine Qn vf (fun _ f l=>if f=53 then .bool true else if f=54 then .aQ [.sl .nil [],I 150]else .gd false .junk) zd ?_;simp[PB,PC,Qo,Qa,Qu,Qd,Qh,Ql,h5];exact⟨Ec,sW⟩
   |some x=>
    rw[he]at sW;refine Qn vf (fun _ f l=>if f=53 then .bool true else if f=54 then .aQ [.sl (uk x) (x.map Ql),I 0]else .gd false .junk) zd ?_;simp[PB,PC,Qo,Qa,Qu,Qd,Qh,Ql,h5];exact⟨Ec,sW⟩
  rw[if_neg h5];have mg:=mg hc h5;have bZ:g.ev.length<=1000000:=by have:=hpg.2.1;omega
  have gV:∀c∈[Qo g,Qu o],eZ c:=by
   intro c hc;simp only[zzao,zzcn,or_false]at hc;obtain rfl|rfl:=hc
   ·exact eZ.of (by simp[Qo,Qa]) (aaq g)
   exact eZ.of (by simp[Qu]) rfl
  have kl:=Sm Y0 ⟨[Qo g,Qu o],[],fun _=>.gone,0⟩ g o.fr bZ;have kc:=af9 g o.fr o [Qo g,Qu o] [] (fun _=>.gone) 0 mg gV;simp only[zzav,zzcd]at kl kc;generalize hM:Sl g o.fr [Qo g,Qu o]=M at kl kc;have hM1:∀x,Qg (M++x) 1=Qu o:=fun x=>by rw[<- hM];simp[Sl]
  have anb:Qg M 1=Qu o:=by rw[<- hM];simp[Sl]
  simp only[Qu,Qd,Qh,Ql,zzae,zzaj]at hM1 anb;cases hx:Kg g o.fr (Xw o.fr g.ev []) o with
  |none=>
   have kc:=kc _ (by rw[hx]);simp only[Qo,Qa,Qu,Qd,Qh,Ql,Qq,zzae,zzaj]at kl kc;refine Qn vf (fun _ f l=>if f=53 then .bool true else .gd false .junk) zd ?_;simp[PB,PC,Qo,Qa,Qu,Qd,Qh,Ql,h5];refine⟨Ec,Ib zd [(.agg (Qq g o.fr 4),⟨M,[],fun _=>.gone,0⟩),(Aj none,⟨M,[],fun _=>.gone,0⟩),(.ptr M.length 0,⟨M++[[I 0,I 0,I 0,I 0,.sl .nil [],I 0,I 0,I 0,I 0,.sl .nil [],.sl .nil [],.sl .nil [],.sl .nil [],I 0]],[],fun _=>.gone,0⟩),(.junk,⟨M++[R9],[],fun _=>.gone,0⟩)] ?_⟩;simp[Qq,Qo,Qa,Aj,R9,hM1,anb,Qu,Qd,Qh,Ql];exact⟨kl,kc⟩
  |some r=>
   obtain⟨q,d⟩:=r;have kc:=kc _ (by rw[hx]);simp only[Qo,Qa,Qu,Qd,Qh,Ql,Qq,zzae,zzaj]at kl kc;refine Qn vf (fun _ f l=>if f=53 then .bool true else .gd false .junk) zd ?_;simp[PB,PC,Qo,Qa,Qu,Qd,Qh,Ql,h5];refine⟨Ec,Ib zd [(.agg (Qq g o.fr 4),⟨M,[],fun _=>.gone,0⟩),(Aj (some (q,d)),⟨M,[],fun _=>.gone,0⟩),(.ptr M.length 0,⟨M++[[I 0,I 0,I 0,I 0,.sl .nil [],I 0,I 0,I 0,I 0,.sl .nil [],.sl .nil [],.sl .nil [],.sl .nil [],I 0]],[],fun _=>.gone,0⟩),(.junk,⟨M++[Qa q++[I d]],[],fun _=>.gone,0⟩)] ?_⟩;simp[Qq,Qo,Qa,Aj,R9,hM1,anb,Qu,Qd,Qh,Ql];simp only[Aj,Qa,zzae,zzaj]at kc;exact⟨kl,kc⟩
open Go.RowKit
def isI(a:AV):Bool:=match a with
 |.int _ _=>true
 |_=>false
def aga{a:AV}(h:isI a=true){w:World}{γ γ':G}{v:Value}(hr:au w γ a v):v.oneCell'=true/\au w γ' a v:=by
 cases hr<;>simp[isI]at h;exact⟨rfl,.int _ _⟩
def Mu{P:Program}{W:World}{name:String}{d:DataW Unit}{rest:List (String×DataW Unit)}{g:Nat}{t:TypeId}{D:Nat}{row:PQ}(h:∃ps,DataW.LaidVars P W ((name,d)::rest) ps)
  (hg:P.globalNamed name=some g)(hty:(P.globals[g]?).map (·.type)=some t)(ck:okT P D t=true)(hav:c9 P D t d=row)(hi:row.all isI=true)(aJ:row≠[]):au W (G0 BY) (.ep row 0) (.pointer (some ⟨g,0,none⟩)):=by
 obtain⟨ps,g',t',cs,aZ,p,q,hg',X5,ays,hd,_,_⟩:=h;obtain rfl:=Option.some.inj (hg.symm.trans hg');obtain rfl:=Option.some.inj (hty.symm.trans X5);obtain⟨_,hr,_,_⟩:=jZ D aZ t cs.toList d p hd ck;rw[hav]at hr
 have bO:∀(j:Nat)(c:AV),row[j]?=some c->W.cell? ⟨g,j,none⟩=some (cs.toList.getD j undef)/\(cs.toList.getD j undef).oneCell'=true/\au W (G0 BY).cW c (cs.toList.getD j undef):=by
  intro j c hj;have aa:j<row.length:=(zza.1 hj).1;have bK:j<cs.toList.length:=by rw[<- hr.1];exact aa
  have hv:cs.toList[j]?=some (cs.toList.getD j undef):=by rw[zzaw,zzad bK];rfl
  have hc:=World.var?_cell hg ays j;have h1:=hr.2 j c _ hj hv;have h2:isI c=true:=zzbe.1 hi c (zzac hj);obtain⟨h3,h4⟩:=aga h2 (γ':=(G0 BY).cW) h1;refine⟨?_,h3,h4⟩;rw[hc,<- zzbw];exact hv
 have hsz:g<W.heap.size:=by
  obtain⟨a,r,rfl⟩:=List.exists_cons_of_ne_nil aJ;have:=(bO 0 a rfl).1;simp only[World.cell?]at this;rcases zzab g W.heap.size with h|h
  ·exact h
  rw[zzbt zE]at this;simp at this
 refine au.ep (o:=0) (b:=g) (off:=0) (fun j=>cs.toList.getD j undef) hsz (fun j c hj=>?_) (fun j c hj=>(bO j c hj).2.2);obtain⟨h1,h2,_⟩:=bO j c hj;refine⟨Pi h1,trivial,h2⟩
def aaL:c9 Tryz.prog 5 326 (Rows.laid_onair_timecode_rates:DataW Unit)=Dr:=by
 unfold Rows.laid_onair_timecode_rates;have h3:∀n:Int,c9 Tryz.prog 2 3 (.lit (.int .i64 n):DataW Unit)=[I n]:=fun n=>Vf Tryz.underlying3 _ _;have h3':∀n:Int,c9 Tryz.prog 3 3 (.lit (.int .i64 n):DataW Unit)=[I n]:=fun n=>Vf Tryz.underlying3 _ _
 have h23:∀a b:Int,c9 Tryz.prog 3 45 (.agg [.lit (.int .i64 a),.lit (.int .i64 b)]:DataW Unit)=[I a,I b]:=fun a b=>by
  rw[We Tryz.underlying45];simp[h3]
 have ayt:∀a b c d:Int,c9 Tryz.prog 4 301 (.agg [.agg [.lit (.int .i64 a),.lit (.int .i64 b)],.lit (.int .i64 c),.lit (.int .i64 d)]:DataW Unit)=[I a,I b,I c,I d]:=fun a b c d=>by
  rw[We Tryz.underlying301];simp[h3',h23]
 rw[Sn Tryz.underlying326];simp only[zzeq,zzfb,ayt];rfl
def anc{W:World}{rest:List (String×DataW Unit)}(h:laidMet Tryz.prog (("onair/timecode.rates",Rows.laid_onair_timecode_rates)::rest) W):∀g,au W (G0 BY) (aD g) (.pointer (some ⟨g,0,none⟩)):=by
 intro g;obtain⟨ps,h,_⟩:=h
 match g with
 |0=>exact .junk _
 |1=>exact .junk _
 |2=>exact Mu (D:=5) ⟨ps,h⟩ (g:=2) (t:=326) (by kernel_rfl) (by kernel_rfl) (by kernel_rfl) aaL (by decide) (by simp[Dr])
 |g+3=>exact .junk _
def Wl{m:Int}(h:(Lit.int .i64 m).wf=true):Zc m:=by
 simp[Lit.wf,IntKind.min,IntKind.max,IntKind.bits,IntKind.signed]at h;unfold Zc;omega
def Sz{H:Type}(t:TypeId)(x:DataW H):Prop:=∀k∈x.weights Tryz.prog t,k<=reachBytes
def Sz.all{H:Type}{e:TypeId}{l:List (DataW H)}(h:∀k∈DataW.weightsAll Tryz.prog e l,k<=reachBytes):∀y∈l,Sz e y:=by
 induction l with
 |nil=>intro y hy;cases hy
 |cons a l ih=>
  intro y hy;simp only[DataW.weightsAll,zzap]at h;rcases zzao.1 hy with rfl|hy
  ·exact fun k hk=>h k (.inl hk)
  exact ih (fun k hk=>h k (.inr hk)) y hy
def Sz.slice{H:Type}{t e:TypeId}{bP spare:List (DataW H)}(hu:Tryz.prog.underlying t=some (.slice e))(h:Sz t (.slice bP spare:DataW H)):(bP.length+spare.length)*Tryz.prog.bytesOf e<=reachBytes/\∀y∈bP,Sz e y:=by
 unfold Sz at h;simp only[DataW.weights,hu]at h;refine⟨h _ zd,Sz.all fun k hk=>h k (by simp[hk])⟩
def Sz.agg{H:Type}{t:TypeId}{fs:Array Field}{parts:List (DataW H)}(hu:Tryz.prog.underlying t=some (.struct fs))(h:Sz t (.agg parts:DataW H)):∀k∈DataW.weightsEach Tryz.prog (fs.toList.map (·.type)) parts,k<=reachBytes:=by
 unfold Sz at h;simpa only[DataW.weights,hu]using h
def Sq{H:Type}{α:Type}(row:α->PQ)(ok:α->Prop){t e:TypeId}(hu:Tryz.prog.underlying t=some (.slice e)){n:Nat}(fB:∀y:DataW H,Typed Tryz.prog n e y->Sz e y->∃a,ok a/\c9 Tryz.prog n e y=row a)
  {x:DataW H}(h:Typed Tryz.prog (n+1) t x)(hs:Sz t x):∃(l:List α)(rt:Rt),(∀a∈l,ok a)/\l.length*Tryz.prog.bytesOf e<=reachBytes/\l.length<=maxLen/\c9 Tryz.prog (n+1) t x=[.sl rt (l.map row)]:=by
 rcases Ic hu h with rfl|⟨bP,spare,rfl,hl,he⟩
 ·exact⟨[],.nil,(fun _ h=>by cases h),(by rw[zzcd,zzhn];exact zzbi _),zzbi _,agb hu⟩
 obtain⟨hz,CV⟩:=hs.slice hu
 have key:∃X:List α,(∀y∈X,ok y)/\bP.map (c9 Tryz.prog n e)=X.map row:=by
  clear hl h hz hs;induction bP with
  |nil=>exact⟨[],zd,rfl⟩
  |cons y ys ih=>
   obtain⟨X,h1,h2⟩:=ih (fun z hz=>he z (by simp[hz])) (fun z hz=>CV z (by simp[hz]));obtain⟨q,hq,hv⟩:=fB y (he y zd) (CV y zd);refine⟨q::X,?_,by rw[zzay,h2,hv];rfl⟩;intro z hz;rcases zzao.1 hz with rfl|hz
   ·exact hq
   exact h1 z hz
 obtain⟨X,h1,h2⟩:=key;have aH:X.length=bP.length:=by have:=congrArg List.length h2;simpa using this.symm
 refine⟨X,.nn,h1,?_,zE,by rw[ane hu,h2]⟩;rw[aH];refine zzb (zzbb _ (Nat.le_add_right _ _)) hz
def agc{α:Type}{l:List α}(h:l.length=2):∃a b,l=[a,b]:=by
 match l,h with
 |[a,b],_=>exact⟨a,b,rfl⟩
def agd{α:Type}{l:List α}(h:l.length=5):∃a0 a1 a2 a3 a4,l=[a0,a1,a2,a3,a4]:=by
 match l,h with
 |[a0,a1,a2,a3,a4],_=>exact⟨a0,a1,a2,a3,a4,rfl⟩
def aaM{α:Type}{l:List α}(h:l.length=7):∃a0 a1 a2 a3 a4 a5 a6,l=[a0,a1,a2,a3,a4,a5,a6]:=by
 match l,h with
 |[a0,a1,a2,a3,a4,a5,a6],_=>exact⟨a0,a1,a2,a3,a4,a5,a6,rfl⟩
def aaN{α:Type}{l:List α}(h:l.length=8):∃a0 a1 a2 a3 a4 a5 a6 a7,l=[a0,a1,a2,a3,a4,a5,a6,a7]:=by
 match l,h with
 |[a0,a1,a2,a3,a4,a5,a6,a7],_=>exact⟨a0,a1,a2,a3,a4,a5,a6,a7,rfl⟩
def Ie{H:Type}{n:Nat}:∀(L:List Field)(parts:List (DataW H)),(∀f∈L,f.type=3)->(∀p∈L.zip parts,Typed Tryz.prog (n+1) p.1.type p.2)->parts.length=L.length->
  ∃l:P2,l.length=L.length/\(∀m∈l,Zc m)/\(L.zip parts).flatMap (fun p=>c9 Tryz.prog (n+1) p.1.type p.2)=l.map I
 |[],parts,_,_,_=>⟨[],rfl,(fun _ h=>by cases h),by cases parts<;>rfl⟩
 |f::L,[],_,_,h=>by simp at h
 |f::L,a::parts,bD,hp,hl=>by
  obtain⟨l,l1,l2,l3⟩:=Ie L parts (fun g hg=>bD g (zzdj _ hg)) (fun p VU=>hp p (zzdj _ VU)) (Pi hl);have ha:=hp (f,a) zd;have hf:=bD f zd;rw[hf]at ha;obtain⟨m,rfl,w⟩:=Za Tryz.underlying3 ha;refine⟨m::l,by simp[l1],?_,?_⟩
  ·intro k hk;rcases zzao.1 hk with rfl|hk
   ·exact Wl w
   exact l2 k hk
  simp only[zzdy,zzeq,hf];rw[Vf Tryz.underlying3,l3];rfl
def Ig{H:Type}{t:TypeId}{fs:Array Field}(hu:Tryz.prog.underlying t=some (.struct fs))(bD:∀f∈fs.toList,f.type=3){y:DataW H}{n:Nat}(h:Typed Tryz.prog (n+2) t y):
  ∃l:P2,l.length=fs.size/\(∀m∈l,Zc m)/\c9 Tryz.prog (n+2) t y=l.map I:=by
 obtain⟨parts,rfl,aH,hp⟩:=Qal hu h;rw[We hu];obtain⟨l,l1,l2,l3⟩:=Ie fs.toList parts bD hp (Pi aH);exact⟨l,Pi l1,l2,l3⟩
def age(s:Sp):Prop:=Zc s.1/\Zc s.2
def agf{H:Type}{t:TypeId}{f g:Field}(hu:Tryz.prog.underlying t=some (.struct #[f,g]))(hf:f.type=3)(hg:g.type=3){y:DataW H}{n:Nat}(h:Typed Tryz.prog (n+2) t y):∃s:Sp,age s/\c9 Tryz.prog (n+2) t y=Qe s:=by
 obtain⟨l,l1,l2,l3⟩:=Ig hu (by simp[hf,hg]) h;obtain⟨a,b,rfl⟩:=agc (show l.length=2 from l1);exact⟨(a,b),⟨l2 a zd,l2 b zd⟩,l3⟩
def ayu(x:It):Prop:=Zc x.id/\Zc x.ki/\Zc x.fr/\Zc x.sp/\Zc x.ra
def att(x:Cl):Prop:=Zc x.ki/\Zc x.it/\Zc x.fr/\Zc x.to/\Zc x.re/\Zc x.n/\Zc x.a/\Zc x.b
def ayv(x:Bk):Prop:=Zc x.id/\Zc x.it/\Zc x.re/\Zc x.fr/\Zc x.to/\Zc x.un/\Zc x.pr
def anf(x:En):Prop:=(Zc x.id/\Zc x.it/\Zc x.fr/\Zc x.ea/\Zc x.la/\Zc x.bo)/\x.al.length<=8796093022208/\∀a∈x.al,age a
structure azw (p:Pl):Prop where
 ch:Zc p.ch
 nu:Zc p.nu
 de:Zc p.de
 of:Zc p.of
 ep:Zc p.ep
 rg:Zc p.rg
 ln:Zc p.ln
 fi:Zc p.fi
 sh:∀s∈p.sh,age s
 aO:∀s∈p.aO,ayu s
 ens:∀s∈p.ens,anf s
 bks:∀s∈p.bks,ayv s
 cls:∀s∈p.cls,att s
 shl:p.sh.length<=8796093022208
 itl:p.aO.length<=8796093022208
 enl:p.ens.length<=8796093022208
 bkl:p.bks.length<=8796093022208
 cll:p.cls.length<=8796093022208
def Mv{H:Type}{y:DataW H}{n:Nat}(h:Typed Tryz.prog (n+2) 26 y):∃x:Cl,att x/\c9 Tryz.prog (n+2) 26 y=Qh x:=by
 obtain⟨l,l1,l2,l3⟩:=Ig Tryz.underlying26 zd h;obtain⟨a0,a1,a2,a3,a4,a5,a6,a7,rfl⟩:=aaN (show l.length=8 from l1);exact⟨⟨a0,a1,a2,a3,a4,a5,a6,a7⟩,⟨l2 _ zd,l2 _ zd,l2 _ zd,l2 _ zd,l2 _ zd,l2 _ zd,l2 _ zd,l2 _ zd⟩,l3⟩
def agh:Tryz.prog.bytesOf 85=16:=by kernel_rfl
def ang(q:En×Rt):PQ:=[I q.1.id,I q.1.it,I q.1.fr,I q.1.ea,I q.1.la,I q.1.bo,.sl q.2 (q.1.al.map Qe)]
def Sr{H:Type}{y:DataW H}{n:Nat}(h:Typed Tryz.prog (n+4) 24 y)(hs:Sz 24 y):∃q:En×Rt,anf q.1/\c9 Tryz.prog (n+4) 24 y=ang q:=by
 obtain⟨parts,rfl,aH,hp⟩:=Qal Tryz.underlying24 h;obtain⟨a0,a1,a2,a3,a4,a5,a6,rfl⟩:=aaM aH;have hz:=hs.agg Tryz.underlying24;have t0:=hp (⟨ "ID",3,0,false, "", "",0⟩,a0) (by simp);have t1:=hp (⟨ "Item",3,1,false, "", "",8⟩,a1) (by simp);have t2:=hp (⟨ "Frames",3,2,false, "", "",16⟩,a2) (by simp);have t3:=hp (⟨ "Earliest",3,3,false, "", "",24⟩,a3) (by simp);have t4:=hp (⟨ "Latest",3,4,false, "", "",32⟩,a4) (by simp);have t5:=hp (⟨ "Booking",3,5,false, "", "",40⟩,a5) (by simp);have t6:=hp (⟨ "Alts",22,6,false, "", "",48⟩,a6) (by simp);obtain⟨m0,rfl,w0⟩:=Za Tryz.underlying3 t0;obtain⟨m1,rfl,w1⟩:=Za Tryz.underlying3 t1;obtain⟨m2,rfl,w2⟩:=Za Tryz.underlying3 t2;obtain⟨m3,rfl,w3⟩:=Za Tryz.underlying3 t3;obtain⟨m4,rfl,w4⟩:=Za Tryz.underlying3 t4;obtain⟨m5,rfl,w5⟩:=Za Tryz.underlying3 t5;have hs6:Sz 22 a6:=fun k hk=>hz k (by simp[DataW.weightsEach,hk]);obtain⟨l,rt,l1,l2,l3,l4⟩:=Sq Qe age Tryz.underlying22 (fun y hy _=>agf Tryz.underlying85 rfl rfl hy) t6 hs6;rw[agh]at l2;have hr:reachBytes=140737488351232:=rfl;refine⟨(⟨m0,m1,m2,m3,m4,m5,l⟩,rt),⟨⟨Wl w0,Wl w1,Wl w2,Wl w3,Wl w4,Wl w5⟩,by simp only;omega,l1⟩,?_⟩;rw[We Tryz.underlying24];simp only[zzdy,zzgh,zzeq,zzfb];rw[Vf Tryz.underlying3,Vf Tryz.underlying3,Vf Tryz.underlying3,Vf Tryz.underlying3,Vf Tryz.underlying3,Vf Tryz.underlying3,l4];rfl
def afR{H:Type}{x:DataW H}{n:Nat}(h:Typed Tryz.prog (n+1) 3 x):∃m:Int,Zc m/\mO Tryz.prog (n+1) 3 x=I m:=by
 have bH:Jh Tryz.prog 3=false:=by unfold Jh;rw[Tryz.underlying3]
 obtain⟨m,rfl,w⟩:=Za Tryz.underlying3 h;exact⟨m,Wl w,by rw[O4 bH (Vf Tryz.underlying3 _ _)]⟩
structure atu (o:Od):Prop where
 n:Zc o.n
 fr:Zc o.fr
 en:anf o.nw
abbrev OdT:=Od×Rt
def aaO(q:OdT):PQ:=[I q.1.sq,I q.1.ch,I q.1.fr,I q.1.ki,I q.1.en,I q.1.n,I q.1.nw.id,I q.1.nw.it,I q.1.nw.fr,I q.1.nw.ea,I q.1.nw.la,I q.1.nw.bo,.sl q.2 (q.1.nw.al.map Qe),I q.1.cl.ki,I q.1.cl.it,I q.1.cl.fr,I q.1.cl.to,I q.1.cl.re,I q.1.cl.n,I q.1.cl.a,I q.1.cl.b,I q.1.cu.id,I q.1.cu.fr,I q.1.cu.to,I q.1.cu.pr,.str q.1.cu.tx]
def agi{H:Type}{x:DataW H}{n:Nat}(h:Typed Tryz.prog (n+2) 28 x):∃c:Cue,c9 Tryz.prog (n+2) 28 x=Ql c:=by
 obtain⟨parts,rfl,aH,hp⟩:=Qal Tryz.underlying28 h;obtain⟨a0,a1,a2,a3,a4,rfl⟩:=agd aH;have t0:=hp (⟨ "ID",3,0,false, "", "",0⟩,a0) (by simp);have t1:=hp (⟨ "From",3,1,false, "", "",8⟩,a1) (by simp);have t2:=hp (⟨ "To",3,2,false, "", "",16⟩,a2) (by simp);have t3:=hp (⟨ "Priority",3,3,false, "", "",24⟩,a3) (by simp);have t4:=hp (⟨ "Text",9,4,false, "", "",32⟩,a4) (by simp);obtain⟨m0,rfl,w0⟩:=Za Tryz.underlying3 t0;obtain⟨m1,rfl,w1⟩:=Za Tryz.underlying3 t1;obtain⟨m2,rfl,w2⟩:=Za Tryz.underlying3 t2;obtain⟨m3,rfl,w3⟩:=Za Tryz.underlying3 t3;obtain⟨s,rfl,_⟩:=Cd Tryz.underlying9 t4;refine⟨⟨m0,m1,m2,m3,⟨s.toArray⟩⟩,?_⟩;rw[We Tryz.underlying28];simp only[zzdy,zzgh,zzeq,zzfb];rw[Vf Tryz.underlying3,Vf Tryz.underlying3,Vf Tryz.underlying3,Vf Tryz.underlying3,O5 Tryz.underlying9];rfl
def agj{α:Type}{l:List α}(h:l.length=9):∃a0 a1 a2 a3 a4 a5 a6 a7 a8,l=[a0,a1,a2,a3,a4,a5,a6,a7,a8]:=by
 match l,h with
 |[a0,a1,a2,a3,a4,a5,a6,a7,a8],_=>exact⟨a0,a1,a2,a3,a4,a5,a6,a7,a8,rfl⟩
def Ss{H:Type}{x:DataW H}{n:Nat}(h:Typed Tryz.prog (n+5) 30 x)(hs:Sz 30 x):∃q:OdT,atu q.1/\c9 Tryz.prog (n+5) 30 x=aaO q:=by
 obtain⟨parts,rfl,aH,hp⟩:=Qal Tryz.underlying30 h;obtain⟨a0,a1,a2,a3,a4,a5,a6,a7,a8,rfl⟩:=agj aH;have hz:=hs.agg Tryz.underlying30;have t0:=hp (⟨ "Seq",3,0,false, "", "",0⟩,a0) (by simp);have t1:=hp (⟨ "Channel",3,1,false, "", "",8⟩,a1) (by simp);have t2:=hp (⟨ "Frame",3,2,false, "", "",16⟩,a2) (by simp);have t3:=hp (⟨ "Kind",3,3,false, "", "",24⟩,a3) (by simp);have t4:=hp (⟨ "Entry",3,4,false, "", "",32⟩,a4) (by simp);have t5:=hp (⟨ "N",3,5,false, "", "",40⟩,a5) (by simp);have t6:=hp (⟨ "New",24,6,false, "", "",48⟩,a6) (by simp);have t7:=hp (⟨ "Clause",26,13,false, "", "",120⟩,a7) (by simp);have t8:=hp (⟨ "Cue",28,21,false, "", "",184⟩,a8) (by simp);obtain⟨m0,rfl,w0⟩:=Za Tryz.underlying3 t0;obtain⟨m1,rfl,w1⟩:=Za Tryz.underlying3 t1;obtain⟨m2,rfl,w2⟩:=Za Tryz.underlying3 t2;obtain⟨m3,rfl,w3⟩:=Za Tryz.underlying3 t3;obtain⟨m4,rfl,w4⟩:=Za Tryz.underlying3 t4;obtain⟨m5,rfl,w5⟩:=Za Tryz.underlying3 t5;have s6:Sz 24 a6:=fun k hk=>hz k (by simp[DataW.weightsEach,hk]);obtain⟨⟨e,rt⟩,e1,e2⟩:=Sr t6 s6;obtain⟨c,c1,c2⟩:=Mv t7;obtain⟨u,u2⟩:=agi t8;refine⟨(⟨m0,m1,m2,m3,m4,m5,e,c,u⟩,rt),⟨Wl w5,Wl w2,e1⟩,?_⟩;rw[We Tryz.underlying30];simp only[zzdy,zzgh,zzeq,zzfb];rw[Vf Tryz.underlying3,Vf Tryz.underlying3,Vf Tryz.underlying3,Vf Tryz.underlying3,Vf Tryz.underlying3,Vf Tryz.underlying3,e2,c2,u2];rfl
def atv(q:OdT):Wk (.agg (aaO q)) (.agg (Qu q.1)):=
 Qch ⟨Pa,Pa,Pa,Pa,Pa,Pa,Pa,Pa,Pa,Pa,Pa,Pa,Wk.sl _ _,Pa,Pa,Pa,Pa,Pa,Pa,Pa,Pa,Pa,Pa,Pa,Pa,Pa,trivial⟩
def BX{H:Type}{x:DataW H}{n:Nat}(h:Typed Tryz.prog (n+5) 30 x)(hs:Sz 30 x):∃o:Od,atu o/\Wk (mO Tryz.prog (n+5) 30 x) (.agg (Qu o)):=by
 have bH:Jh Tryz.prog 30=true:=by unfold Jh;rw[Tryz.underlying30]
 obtain⟨q,h1,h2⟩:=Ss h hs;exact⟨q.1,h1,by rw[agk bH,h2];exact atv q⟩
def St{P:Program}{W:World}{x:String×DataW Unit}{r:List (String×DataW Unit)}(h:laidMet P (x::r) W):laidMet P r W:=by
 obtain⟨n,d⟩:=x;obtain⟨ps,⟨g,t,cs,fu,p,q,_,_,_,_,h1,rfl⟩,hn,hr⟩:=h;exact⟨q,h1,(List.nodup_append.1 hn).2.1,fun b o hb=>hr b o (zzhg _ hb)⟩
def ajD: "*"++ "errors.errorString"= "*errors.errorString":=by decide
def anh(u:TypeId)(h:Tryz.prog.typeName? 3 u=some "*errors.errorString"):u=376:=
 typeName_ptr_named (nm:= "errors.errorString") (by rw[ajD];kernel_rfl) (by kernel_rfl) (by decide) u (by rw[ajD];exact h)
def gW:Tryz.prog.globalNamed "onair/replan.errWire"=some 0:=by kernel_rfl
def gR:Tryz.prog.globalNamed "onair/replan.errReplan"=some 1:=by kernel_rfl
def aaP{W:World}{g:Nat}{n:String}{a:Addr}{c:PP}{e:TypeId}(hg:Tryz.prog.globalNamed n=some g)(hv:W.var? Tryz.prog n=some #[.iface 376 (.pointer (some a))])(hb:W.heap[a.block]?=some (.cells c e (0,0))):
  au W (G0 BY) (.ep [.er 376 a] 0) (.pointer (some ⟨g,0,none⟩)):=by
 have h0:W.cell? ⟨g,0,none⟩=some (.iface 376 (.pointer (some a))):=by simpa using World.var?_cell hg hv 0
 have hsz:g<W.heap.size:=by
  have:=h0;simp only[World.cell?]at this;rcases zzab g W.heap.size with h|h
  ·exact h
  rw[zzbt zE]at this;simp at this
 refine au.ep (o:=0) (b:=g) (off:=0) (fun _=>.iface 376 (.pointer (some a))) hsz (fun j r hj=>?_) (fun j r hj=>?_)
 ·match j,hj with
  |0,hj=>exact⟨Pi h0,trivial,rfl⟩
  |j+1,hj=>simp at hj
 match j,hj with
 |0,hj=>cases hj;exact .er hb
 |j+1,hj=>simp at hj
def OV{W:World}(h:laidMet Tryz.prog [("onair/timecode.rates",Rows.laid_onair_timecode_rates),("onair/replan.errWire",Rows.laid_onair_replan_errWire),("onair/replan.errReplan",Rows.laid_onair_replan_errReplan)] W):
  ∃a0 a1:Addr,a0≠a1/\∀g,au W (G0 BY) (eL a0 a1 g) (.pointer (some ⟨g,0,none⟩)):=by
 obtain⟨a0,a1,s0,s1,c0,c1,t0,t1,hv0,hv1,hc0,J6,U6,fe,hs1,hz1,aJ,dG,di⟩:=laid_sentinels2 (te:=399) (St h) gW (by kernel_rfl) gR (by kernel_rfl) Tryz.underlying76 anh Tryz.underlying376 Tryz.underlying399 rfl rfl Tryz.underlying9 (by kernel_rfl) (by kernel_rfl);refine⟨a0,a1,aJ,fun g=>?_⟩
 match g with
 |0=>exact aaP gW hv0 dG
 |1=>exact aaP gR hv1 di
 |2=>exact anc h 2
 |g+3=>exact .junk _
def afS{H:Type}{x:DataW H}{n:Nat}(h:Typed Tryz.prog (n+1) 9 x):∃s:ByteArray,mO Tryz.prog (n+1) 9 x=.str s:=by
 have bH:Jh Tryz.prog 9=false:=by unfold Jh;rw[Tryz.underlying9]
 obtain⟨s,rfl,_⟩:=Cd Tryz.underlying9 h;exact⟨⟨s.toArray⟩,O4 bH (O5 Tryz.underlying9 _)⟩
def Uc(o:Od):Od:={o with nw:={o.nw with al:=o.nw.al.take 9},cu:={o.cu with tx:=o.cu.tx.extract 0 (if 300<o.cu.tx.size then 300 else o.cu.tx.size)}}
def Ih(g:Pg)(o:Od):Pg:=H6 (Vq g o)
def yX(g:Pg)(o:Od):Qo (Ih g o)=Qo (Vq g o):=B9 _
structure ChP (k:Nat) (g:Pg):Prop where
 ok:dV k g
 nn:H6 g=g
def EvT(lo up:Int):List bJ->Prop
 |[]=>lo=up
 |e::r=>e.st=lo/\1<=e.fr/\0<=e.i/\EvT (e.st+e.fr) up r
def azx(g:Pg):Prop:=EvT 0 g.p.ln g.ev
structure PlL (p:Pl):Prop where
 sh:af2 p
 al:∀e∈p.ens,e.al.length<=8796093022208
 ea:∀e∈p.ens,e.ea<=9223372036854775807
def um:Pl:=⟨0,25,1,0,[],0,1,200,1,[⟨1,5,50,0,0⟩,⟨2,2,20,0,0⟩,⟨3,4,100,0,0⟩],[⟨1,2,20,0,0,0,[]⟩,⟨2,3,40,20,50,0,[]⟩],[],[⟨1,2,0,1000,255,0,0,0⟩,⟨1,3,0,1000,255,0,0,0⟩]⟩
def zB:Pl:={um with ens:=[⟨1,2,20,0,0,0,[]⟩,⟨2,3,50,20,50,0,[]⟩]}
def zC:Pl:={um with ens:=[⟨1,2,20,0,0,0,[]⟩]}
def fiE(a n:Int):bJ:=⟨0,1,a,n,0,1,[],false⟩
def bI:Pg:=⟨um,[⟨1,2,0,20,0,1,[],false⟩,⟨2,3,20,40,0,1,[],false⟩,fiE 60 50,fiE 110 50,fiE 160 40],[],0,[],0⟩
def Tb:Pg:=⟨zB,[⟨1,2,0,20,0,1,[],false⟩,⟨2,3,20,10,0,1,[],false⟩,⟨2,3,30,40,10,1,[],false⟩,fiE 70 50,fiE 120 50,fiE 170 30],[],0,[],1⟩
def exK:Pg:=⟨zC,[⟨1,2,0,20,0,1,[],false⟩,fiE 20 50,fiE 70 50,fiE 120 50,fiE 170 30],[],0,[],1⟩
def oL:Od:=⟨1,-1,30,1,2,10,Ah,BM,BN⟩
def oD:Od:=⟨1,0,20,2,2,0,Ah,BM,BN⟩
def oX:Od:=⟨1,0,20,2,1,0,Ah,BM,BN⟩
def ani(fr a:Int):Vl fr a a=[]:=by rw[Vl,if_neg zE]
def anj{fr t a:Int}(h:a<t)(h2:t-a<=fr):Vl fr t a=[(a,t-a)]:=by
 have hN:Yz fr t a=t-a:=by unfold Yz;rw[if_pos zE];omega
 rw[Vl,if_pos h,hN,show a+(t-a)=t by omega,ani]
def Mw{fr t a:Int}(h:a<t)(h1:1<=fr)(h2:fr<t-a):Vl fr t a=(a,fr)::Vl fr t (a+fr):=by
 have hN:Yz fr t a=fr:=by unfold Yz;split<;>omega
 rw[Vl,if_pos h,hN]
def aaQ:rI um=true:=by cbv
def atw:rI zB=true:=by cbv
def atx:rI zC=true:=by cbv
def aty:Jg um [1,2] [] [] 0 (-1)=some [(1,0),(2,20)]:=by rw[<- ON];cbv
def aaR:I7 um=some [(1,0),(2,20)]:=by unfold I7;rw[if_neg (by rw[aaQ];decide)];exact aty
def atz:G3 um ⟨1,2,20,0,0,0,[]⟩ 0=⟨1,2,0,20,0,1,[],false⟩:=by cbv
def atA:G3 um ⟨2,3,40,20,50,0,[]⟩ 20=⟨2,3,20,40,0,1,[],false⟩:=by cbv
def atB:(iG um [(1,0),(2,20)] 0).map nl0=bI.ev:=by
 have h1:p7 um (1,0) 0=some ⟨1,2,20,0,0,0,[]⟩:=by cbv
 have h2:p7 um (2,20) 20=some ⟨2,3,40,20,50,0,[]⟩:=by cbv
 have hf:Vz um=50:=by cbv
 have hl:um.ln=200:=rfl;rw[iG,if_neg (by rw[hl];omega),zx,h1];simp only[hf,ani,zzcu,zzaj];rw[show(0:Int)+20=20 from rfl,zx,h2];simp only[hf,ani,zzcu,zzaj];rw[show(20:Int)+40=60 from rfl,zx,hf,hl,Mw zE zE zE,Mw zE zE zE,anj zE zE,atz,atA];rfl
def ajE:r9 um=0:=by unfold r9;rw[if_neg (by rw[aaQ];decide),aaR]
def ajF:H6 (r8 um)=bI:=by
 unfold r8 H6;rw[aaR];simp only;rw[atB];rfl
def ank:Xm oL=true:=by
 unfold Xm;rw[if_neg (by simp[oL]),if_neg (by simp[oL]),if_neg (by simp[oL]),if_neg (by simp[oL])];simp[oL,okB,Yp,Jd,rN,Ah,BM,BN,eB]
def atC:Xm oD=true:=by
 unfold Xm;rw[if_neg (by simp[oD]),if_neg (by simp[oD]),if_neg (by simp[oD]),if_neg (by simp[oD])];simp[oD,okB,Yp,Jd,rN,Ah,BM,BN,eB]
def sD0:Ka ([]:P2)=[]:=by unfold Ka;simp
def anl:Kg bI 30 (Xw 30 bI.ev []) oL=some (zB,50):=by
 unfold Kg;rw[if_neg (by simp[bI,um])];have hb:Kl bI 30 (Xw 30 bI.ev []) oL=some (zB,50):=by cbv
 have hm:zz bI 30 (Xw 30 bI.ev []) oL zB 50=true:=by cbv
 rw[hb];simp only;rw[if_pos (by rw[atw,hm];rfl)]
def aaS:Kg bI 20 (Xw 20 bI.ev []) oD=some (zC,0):=by
 unfold Kg;rw[if_neg (by simp[bI,um])];have hb:Kl bI 20 (Xw 20 bI.ev []) oD=some (zC,0):=by cbv
 have hm:zz bI 20 (Xw 20 bI.ev []) oD zC 0=true:=by cbv
 rw[hb];simp only;rw[if_pos (by rw[atx,hm];rfl)]
def anm:Kg bI 20 (Xw 20 bI.ev []) oX=none:=by
 unfold Kg;rw[if_neg (by simp[bI,um])];cases hb:Kl bI 20 (Xw 20 bI.ev []) oX with
 |none=>rfl
 |some r=>
  obtain⟨q,d⟩:=r
  have hm:zz bI 20 (Xw 20 bI.ev []) oX q d=false:=by
   unfold zz;rw[if_neg (by simp[oX]),if_pos (by rfl)];cbv
  simp only;rw[hm,zzhj,if_neg (by decide)]
def ayw:Jv bI oL=true:=by unfold Jv;rw[ank];rfl
def atD:Jv bI oD=true:=by unfold Jv;rw[atC];rfl
def ann:Sk bI oD=true:=by
 unfold Sk;rw[atD,if_neg (by simp[oD])];show(true&&(Kg bI 20 (Xw 20 bI.ev []) oD).isSome)=true;rw[aaS];rfl
def ano:Sk bI oX=false:=by
 unfold Sk;rw[if_neg (by simp[oX])];show(Jv bI oX&&(Kg bI 20 (Xw 20 bI.ev []) oX).isSome)=false;rw[anm,Option.isSome_none,zzhj]
def ajG:Ih bI oL=Tb:=by
 have dw:oe bI 30 (Xw 30 bI.ev []) oL zB 50=some ⟨2,3,30,40,10,1,[],true⟩:=by cbv
 have he:Jn bI 30 (Xw 30 bI.ev []) oL zB 50=70:=by unfold Jn;rw[dw];rfl
 have h1:Jc bI 30 (Xw 30 bI.ev []) oL zB 50=[⟨1,2,0,20,0,1,[],false⟩,⟨2,3,20,10,0,1,[],false⟩,⟨2,3,30,40,10,1,[],true⟩]:=by unfold Jc;rw[dw];cbv
 have hi:Jl bI (Xw 30 bI.ev []) zB.ens=[]:=by cbv
 have hk:mM bI 30 (Xw 30 bI.ev []) oL zB 50=[]:=by unfold mM;rw[hi];rfl
 have hs:Yd bI 30 (Xw 30 bI.ev []) oL zB 50=[]:=by unfold Yd;rw[hi,hk];rfl
 have hd:Wu bI 30 (Xw 30 bI.ev []) oL zB 50=[]:=by unfold Wu;rw[hi,hk];rfl
 have hf:Vz zB=50:=by cbv
 have hl:zB.ln=200:=rfl
 have hb:Mn bI 30 (Xw 30 bI.ev []) oL zB 50=[⟨0,1,70,50,0,1,[],true⟩,⟨0,1,120,50,0,1,[],true⟩,⟨0,1,170,30,0,1,[],true⟩]:=by
  unfold Mn;rw[hs,he,iG,if_neg (by rw[hl];omega),zx,hf,hl,Mw zE zE zE,Mw zE zE zE,anj zE zE];rfl
 unfold Ih Vq;rw[if_neg (by rw[ayw];decide),if_neg (by simp[oL])];have hx:Kg bI oL.fr (Xw oL.fr bI.ev []) oL=some (zB,50):=anl;rw[hx];show H6 (oh bI oL (Xw 30 bI.ev []) zB 50)=Tb;unfold oh;show H6 ({bI with p:=zB,ev:=Jc bI 30 _ _ zB 50++Mn bI 30 _ _ zB 50,dr:=dd (Ka (bI.dr++Wu bI 30 _ _ zB 50)),ve:=bI.ve+1}:Pg)=Tb;rw[h1,hb,hd];show H6 ({bI with p:=zB,ev:=_,dr:=dd (Ka []),ve:=_}:Pg)=Tb;rw[sD0];rfl
def ajH:Ih bI oD=exK:=by
 have dw:oe bI 20 (Xw 20 bI.ev []) oD zC 0=none:=by cbv
 have he:Jn bI 20 (Xw 20 bI.ev []) oD zC 0=20:=by unfold Jn;rw[dw]
 have h1:Jc bI 20 (Xw 20 bI.ev []) oD zC 0=[⟨1,2,0,20,0,1,[],false⟩]:=by unfold Jc;rw[dw];cbv
 have hi:Jl bI (Xw 20 bI.ev []) zC.ens=[]:=by cbv
 have hk:mM bI 20 (Xw 20 bI.ev []) oD zC 0=[]:=by unfold mM;rw[hi];rfl
 have hs:Yd bI 20 (Xw 20 bI.ev []) oD zC 0=[]:=by unfold Yd;rw[hi,hk];rfl
 have hd:Wu bI 20 (Xw 20 bI.ev []) oD zC 0=[]:=by unfold Wu;rw[hi,hk];rfl
 have hf:Vz zC=50:=by cbv
 have hl:zC.ln=200:=rfl
 have hb:Mn bI 20 (Xw 20 bI.ev []) oD zC 0=[⟨0,1,20,50,0,1,[],true⟩,⟨0,1,70,50,0,1,[],true⟩,⟨0,1,120,50,0,1,[],true⟩,⟨0,1,170,30,0,1,[],true⟩]:=by
  unfold Mn;rw[hs,he,iG,if_neg (by rw[hl];omega),zx,hf,hl,Mw zE zE zE,Mw zE zE zE,Mw zE zE zE,anj zE zE];rfl
 unfold Ih Vq;rw[if_neg (by rw[atD];decide),if_neg (by simp[oD])];have hx:Kg bI oD.fr (Xw oD.fr bI.ev []) oD=some (zC,0):=aaS;rw[hx];show H6 (oh bI oD (Xw 20 bI.ev []) zC 0)=exK;unfold oh;show H6 ({bI with p:=zC,ev:=Jc bI 20 _ _ zC 0++Mn bI 20 _ _ zC 0,dr:=dd (Ka (bI.dr++Wu bI 20 _ _ zC 0)),ve:=bI.ve+1}:Pg)=exK;rw[h1,hb,hd];show H6 ({bI with p:=zC,ev:=_,dr:=dd (Ka []),ve:=_}:Pg)=exK;rw[sD0];rfl
def atE{gl:Nat->AV}(o:Od):Pure Tryz.prog gl 7 [.agg (bT o .ro)] (.agg (bT (Uc o) .ro)):=by
 have t1:List.take (if(9:Int)<(o.nw.al.length:Int)then(9:Int)else(o.nw.al.length:Int)).toNat (o.nw.al.map Qe)=List.take 9 (o.nw.al.map Qe):=by
  have:=afu (o.nw.al.map Qe) 9;rw[zzbu]at this;exact this
 have a1:=ZZ (a:=o.nw.al.length) 9;have b1:=Z2 (a:=o.nw.al.length) 9;have a2:=ZZ (a:=o.cu.tx.size) 300;have b2:=Z2 (a:=o.cu.tx.size) 300
 have e2:(if(300:Int)<(o.cu.tx.size:Int)then(300:Int)else(o.cu.tx.size:Int)).toNat=if 300<o.cu.tx.size then 300 else o.cu.tx.size:=by
  by_cases h:300<o.cu.tx.size
  ·rw[if_pos h,if_pos zE];rfl
  rw[if_neg h,if_neg zE];omega
 simp at a1 b1 a2 b2;refine Qn aoY (fun _ _ _=>.junk) zd ?_;simp[sc7,rs7,bT,Uc,t1,a1,b1,a2,b2,e2];rintro row a b _ rfl;rfl
def pk(v n:Int):Int:=if v<0 then(-(v+1)).tmod n else v.tmod n
def atF{v n:Int}(hn:0<n):0<=pk v n/\pk v n<n:=by
 unfold pk;split
 ·exact⟨Int.tmod_nonneg _ zE,Int.tmod_lt_of_pos _ hn⟩
 exact⟨Int.tmod_nonneg _ zE,Int.tmod_lt_of_pos _ hn⟩
def anp{gl:Nat->AV}(v n:Int)(hv: -9223372036854775808<=v/\v<=9223372036854775807)(hn:0<n):Pure Tryz.prog gl 11 [I v,I n] (I (pk v n)):=by
 have eO:n≠0:=zE
 refine Qn akc (fun _ _ _=>.junk) zd ?_;by_cases h:v<0
 ·have h1:IntKind.i64.wrap (v+1)=v+1:=by rw[Qi]<;>omega
  have h2:IntKind.i64.wrap (-(v+1))= -(v+1):=by rw[Qi]<;>omega
  simp[aka,akb,h,h1,h2,eO,pk]
 simp[aka,akb,h,eO,pk]
