import Derived.Test.YthjppoincojfkaaGreatDoorRAMcJ
set_option linter.all false
set_option maxRecDepth 100000
set_option maxHeartbeats 64000000
namespace Go.Abs
open Go Go.RowKit
end Go.Abs
namespace Go.Proofs.YthjppoincojfkaaGreatDoor
open Go Go.Abs
def uo(c:Cue)(l:List Cue):Option (List Cue):=if iB c=true then(if 200<(gW c (!decide (c.to=0)) l).length then none else some (gW c (!decide (c.to=0)) l))else none
def Hv(c:Cue)(l:List Cue):mJ c l=match uo c l with
 |none=>.aS [.sl .nil [],I 150]
 |some x=>.aS [.sl (um x) (x.map Qi),I 0]:=by
 unfold mJ uo um;split
 ·split<;>rfl
 rfl
def j5(g:Pg)(o:Od)(b:QR)(q:Pl)(d:Int):Pg:=
 {g with p:=q,ev:=Uj g o.fr b o q d++Hr g o.fr b o q d,dr:=dd (Kj (g.dr++Hq g o.fr b o q d)),ve:=g.ve+1}
def Xh(g:Pg)(o:Od):Pg:=
 if Vb g o=false then{g with ve:=g.ve+1}
 else if o.ki=5 then(match uo o.cu g.cu with
  |none=>{g with ve:=g.ve+1}
  |some x=>{g with cu:=x,ed:=o.fr,ve:=g.ve+1})
 else match Ue g o.fr (Xm o.fr g.ev []) o with
  |none=>{g with ve:=g.ve+1}
  |some (q,d)=>j5 g o (Xm o.fr g.ev []) q d
structure afo (g:Pg) (o:Od):Prop where
 pg:PgC g
 al:o.nw.al.length<=8796093022208
 ve:0<=g.ve/\g.ve<=1000000
 cu:g.cu.length<=1000000
 ch:Vb g o=true->o.ki≠5->ZY g o.fr o
 rn:Vb g o=true->o.ki≠5->∀q d,Ue g o.fr (Xm o.fr g.ev []) o=some (q,d)->Hu g o.fr (Xm o.fr g.ev []) o q d/\(Vv g o.fr (Xm o.fr g.ev []) o q d).length<=1000000/\(Hr g o.fr (Xm o.fr g.ev []) o q d).length<=10000000
def fS.more{bx:T5}{mid:Nat}{b:QR}(h:fS bx mid b)(x:T5):fS (bx++x) mid b:=⟨by have:=h.1;simp;omega,h.ext x⟩
def fS.axS{a b c d d':P2}{ex:T5}{mid:Nat}{bg:QR}(h:fS (a::b::c::d::ex) mid bg)(hm:4<=mid)(x:T5):fS (a::b::c::d'::(ex++x)) mid bg:=by
 obtain⟨j,rfl⟩:∃j,mid=j+4:=⟨mid-4,zE⟩;obtain⟨h1,h2⟩:=h;have hg:=Jj h1;rw[h2]at hg;simp only[zzcm]at hg;have hj:=(zza.1 hg).1;refine⟨by simp;omega,Qu ?_⟩;simp only[zzcm];rw[zzaj hj,hg]
def cell_of{a:AV}(h:Qx a=true):cellsOf a=[a]:=by cases a<;>simp_all[Qx,cellsOf]
def afp{a:AV}(h:Qx a=true):bare a=true:=by cases a<;>simp_all[Qx,bare]
def amC(a b:List bC):Wk (.sl .ro (a.map Zv++b.map Qf)) (.sl .ro ((a++b).map Qf)):=by
 have h:a.map Zv++b.map Qf=(a++b.map IG).map Zv:=by rw[zzcg,yH]
 have h2:(a++b).map Qf=(a++b.map IG).map Qf:=by rw[zzcg,zzcg,BB]
 rw[h,h2];exact KT _
def amD(g:Pg)(o:Od)(h:afo g o):∃re rc rd evr,Wk (.sl re evr) (.sl .ro ((Xh g o).ev.map Qf))/\
  Pure Tryz.prog aD 25 [.agg (Qh g),.agg (Qq o)] (.agg (Qa (Xh g o).p++[.sl re evr,.sl rc ((Xh g o).cu.map Qi),I (Xh g o).ed,.sl rd ((Xh g o).dr.map Xa),I (Xh g o).ve])):=by
 obtain⟨hpg,fR,hve,sk,fE,hrn⟩:=h;have k76:=Y2 g hpg;have DN:=tf g o fR;have sP:=By g.cu o.cu sk;rw[Hv]at sP;simp only[Qh,Qa,Qq,Qd,Qg,Qi,zzad,zzai]at k76 DN sP;have hw:IntKind.i64.wrap (g.ve+1)=g.ve+1:=by rw[Ql]<;>omega
 cases hc:Vb g o with
 |false=>
  have ha:Xh g o={g with ve:=g.ve+1}:=by unfold Xh;rw[if_pos hc]
  rw[ha];rw[hc]at DN;refine⟨.ro,.ro,.ro,g.ev.map Qf,Ps,Qo vj (fun _ f l=>if f=52 then l.headD .junk else if f=41 then .bool (Vb g o)else .gd false .junk) zd ?_⟩;simp[OX,OY,Qh,Qa,Qq,Qd,Qg,Qi,hc,hw];exact⟨k76,DN⟩
 |true=>
  rw[hc]at DN;by_cases h5:o.ki=5
  ·rw[h5]at DN;cases he:uo o.cu g.cu with
   |none=>
    have ha:Xh g o={g with ve:=g.ve+1}:=by unfold Xh;rw[if_neg (by rw[hc];decide),if_pos h5,he]
    rw[ha];rw[he]at sP;refine⟨.ro,.ro,.ro,g.ev.map Qf,Ps,Qo vj (fun _ f l=>if f=52 then l.headD .junk else if f=41 then .bool true else if f=42 then .aS [.sl .nil [],I 150]else .gd false .junk) zd ?_⟩;simp[OX,OY,Qh,Qa,Qq,Qd,Qg,Qi,hw,h5];exact⟨k76,DN,sP⟩
   |some x=>
    have ha:Xh g o={g with cu:=x,ed:=o.fr,ve:=g.ve+1}:=by unfold Xh;rw[if_neg (by rw[hc];decide),if_pos h5,he]
    rw[ha];rw[he]at sP;have hcx:=LJ x;have amE:=fun m d y=>hcx m d y;refine⟨.ro,um x,.ro,g.ev.map Qf,Ps,Qo vj (fun _ f l=>if f=52 then l.headD .junk else if f=41 then .bool true else if f=42 then .aS [.sl (um x) (x.map Qi),I 0]else .gd false .junk) zd ?_⟩;simp[OX,OY,Qh,Qa,Qq,Qd,Qg,Qi,hw,h5];refine⟨k76,DN,sP,Ul ?_⟩;simp[amE]
  have fE:=fE hc h5;have hrn:=hrn hc h5;cases hx:Ue g o.fr (Xm o.fr g.ev []) o with
  |none=>
   have ha:Xh g o={g with ve:=g.ve+1}:=by unfold Xh;rw[if_neg (by rw[hc];decide),if_neg h5,hx]
   rw[ha];refine⟨.ro,.ro,.ro,g.ev.map Qf,Ps,Qo vj (fun _ f l=>if f=52 then l.headD .junk else if f=41 then .bool true else .gd false .junk) zd ?_⟩;simp[OX,OY,Qh,Qa,Qq,Qd,Qg,Qi,hw,h5];refine⟨k76,DN,?_⟩;refine BA Y0 _ g o.fr (by have:=hpg.2.1;omega) _ fun ex mid hex VF gN=>?_;simp[Qr,Qh,Qa,zzan];refine Oo Y0 _ g o.fr mid (Xm o.fr g.ev []) o fE ?_ ?_ _ ?_
   ·have:=fun x=>fS.more gN x;simp only[zzad,zzai]at this;exact this _
   ·intro c hc;simp only[zzao,zzam,zzd,or_false]at hc;obtain rfl|rfl|rfl|rfl|hc|rfl:=hc
    ·exact eL.of zd rfl
    ·exact eL.of zd rfl
    ·exact eL.of zd rfl
    ·exact eL.of zd rfl
    ·exact hex c hc
    exact eL.mo g o.fr mid
   rw[hx];simp[Ac,Rz]
  |some r=>
   obtain⟨q,d⟩:=r;obtain⟨hR,iE,eR⟩:=hrn q d hx;have ha:Xh g o=j5 g o (Xm o.fr g.ev []) q d:=by unfold Xh;rw[if_neg (by rw[hc];decide),if_neg h5,hx]
   rw[ha];refine⟨.ro,.ro,um ((j5 g o (Xm o.fr g.ev []) q d).dr.map Xa),(Uj g o.fr (Xm o.fr g.ev []) o q d).map Zv++(Hr g o.fr (Xm o.fr g.ev []) o q d).map Qf,amC _ _,Qo vj (fun _ f l=>if f=52 then l.headD .junk else if f=41 then .bool true else .gd false .junk) zd ?_⟩;simp[OX,OY,Qh,Qa,Qq,Qd,Qg,Qi,hw,h5];refine⟨k76,DN,?_⟩;refine BA Y0 _ g o.fr (by have:=hpg.2.1;omega) _ fun ex mid hex VF gN=>?_;simp[Qr,Qh,Qa,zzan];have zg:=fun x=>fS.more gN x;simp only[zzad,zzai]at zg
   refine Oo Y0 _ g o.fr mid (Xm o.fr g.ev []) o fE (zg _) (by
    intro c hc;simp only[zzao,zzam,zzd,or_false]at hc;obtain rfl|rfl|rfl|rfl|hc|rfl:=hc
    ·exact eL.of zd rfl
    ·exact eL.of zd rfl
    ·exact eL.of zd rfl
    ·exact eL.of zd rfl
    ·exact hex c hc
    exact eL.mo g o.fr mid) _ ?_
   rw[hx];simp[Ac,Qa,zzan];refine RC Y0 _ g o.fr mid (Xm o.fr g.ev []) o q d hR (fS.axS (by simpa using zg []) (Nm VF) _) iE eR _ fun gH ls ke vd hv=>?_;have fD:=hv.1;have zb:=cell_of fD;have hc3:=afp fD;simp[zzan,fD,zb,hc3];refine⟨zE,zE,rfl,rfl,rfl,rfl,rfl,rfl,rfl,rfl,rfl,rfl,rfl,rfl,rfl,rfl,rfl,?_,?_⟩
   ·refine hv.2 _ zd (fun j h1 h2=>?_) _;simp at h1;obtain⟨i,rfl⟩:∃i,j=i+4:=⟨j-4,zE⟩;simp
   rfl
def Jv(g:Pg)(o:Od)(h:afo g o):Pure Tryz.prog aD 25 [.agg (Qh g),.agg (Qq o)] (.agg (Qh (Xh g o))):=by
 obtain⟨re,rc,rd,evr,hw,hp⟩:=amD g o h;refine Zl hp ?_;unfold Qh;simp only[Qa,zzad,zzai];refine Qdw ?_;exact⟨Ps,Ps,Ps,Ps,Ps,Ps,Ps,Ps,Ps,Ps,Ps,Ps,Ps,hw,Wk.sl _ _,Ps,Wk.sl _ _,Ps,trivial⟩
open Go Go.Abs
def LN{l l':P2}(h:WkL l l'):Wk (.aS l) (.aS l'):=fun w γ v hr=>by
 have key:∀{l l':P2},WkL l l'->l.length=l'.length/\∀(i:Nat)(c':AV),l'[i]?=some c'->∃c,l[i]?=some c/\Wk c c':=by
  intro l;induction l with
  |nil=>intro l' h;cases l' with
   |nil=>exact⟨rfl,fun i c' h=>by simp at h⟩
   |cons _ _=>exact h.elim
  |cons a l ih=>intro l' h;cases l' with
   |nil=>exact h.elim
   |cons b l'=>
    obtain⟨h1,h2⟩:=ih h.2;refine⟨by simp[h1],fun i c' hc=>?_⟩;cases i with
    |zero=>simp at hc;subst hc;exact⟨a,rfl,h.1⟩
    |succ i=>simpa using h2 i c' (Nm hc)
 obtain⟨h1,h2⟩:=key h;cases hr with
 |aS hl hc=>
  refine .aS zE fun i c' v uv hv=>?_;obtain⟨c,g1,g2⟩:=h2 i c' uv;exact g2 _ _ _ (hc i c v g1 hv)
def pl0:Pl:=⟨0,0,0,0,[],0,0,0,0,[],[],[],[]⟩
def pg0:Pg:=⟨pl0,[],[],0,[],0⟩
def II(p:Pl):Option (List Sp):=if rE p=false then none else Jl p (Uh p) [] [] 0 (-1)
def tw(p:Pl):Pg:=match II p with
 |none=>pg0
 |some l=>⟨p,Bf p l 0,[],0,[],0⟩
def yI(p:Pl):Pi:=if rE p=false then[]else match II p with
 |none=>nR (IC p) (Uh p)
 |some _=>[]
def DO(p:Pl):Int:=if rE p=false then 80 else match II p with
 |none=>90
 |some _=>0
def atl{V X Y:AV}{p:Pl}{ev:List bC}{cu:List Cue}{dr:Pi}{ed ve:Int}(h1:Wk V (.sl .ro (ev.map Qf)))(h2:Wk X (.sl .ro (cu.map Qi)))(h3:Wk Y (.sl .ro (dr.map Xa))):
  Wk (.agg (Qa p++[V,X,I ed,Y,I ve])) (.agg (Qh ⟨p,ev,cu,ed,dr,ve⟩)):=by
 unfold Qh;simp only[Qa,zzad,zzai];exact Qdw ⟨Ps,Ps,Ps,Ps,Ps,Ps,Ps,Ps,Ps,Ps,Ps,Ps,Ps,h1,h2,Ps,h3,Ps,trivial⟩
def Z6:Wk (.agg YZ) (.agg (Qh pg0)):=by
 unfold YZ pg0 pl0 Qh;simp only[Qa,zzad,zzai,zzcv];exact Qdw ⟨Ps,Ps,Ps,Ps,Wk.sl _ _,Ps,Ps,Ps,Ps,Wk.sl _ _,Wk.sl _ _,Wk.sl _ _,Wk.sl _ _,Wk.sl _ _,Wk.sl _ _,Ps,Wk.sl _ _,Ps,trivial⟩
def LO(p:Pl)(hp:Bs p)(dG:p.ln<=1000000)(Sv:∀e∈p.ens,e.ea<=9223372036854775807)(hl:∀l,II p=some l->l.length<=1000000/\∀s∈l,-1000000000<=s.2/\s.2<=1000000000):
  Pure Tryz.prog aD 30 [.agg (Qa p)] (.aS [.agg (Qh (tw p)),.sl .ro ((yI p).map Xa),I (DO p)]):=by
 obtain⟨h1,h2,h3,h4,h5,h6⟩:=hp;have k60:=Q3 p ⟨zE,zE,zE,zE,zE,h6⟩ h5 zE zE Sv;have k61:=pY p ⟨h1,h2,h3,h4,h5,h6⟩;by_cases hv:rE p=false
 ·have hr:Q2 p=.aS [.sl .nil [],.sl .nil [],I 80]:=by unfold Q2;rw[if_pos hv]
  have hb:II p=none:=by unfold II;rw[if_pos hv]
  have hg:tw p=pg0:=by unfold tw;rw[hb]
  have hc:yI p=[]:=by unfold yI;rw[if_pos hv]
  have he:DO p=80:=by unfold DO;rw[if_pos hv]
  rw[hr]at k60;rw[hg,hc,he];simp only[Qa]at k60
  have:Pure Tryz.prog aD 30 [.agg (Qa p)] (.aS [.agg YZ,.sl .nil [],I 80]):=by
   refine Qo IK (fun _ f _=>if f=65 then .aS [.sl .nil [],.sl .nil [],I 80]else .junk) zd ?_;simp[abd,abe,Qa,YZ];exact k60
  exact Zl this (LN ⟨Z6,Wk.sl _ _,Ps,trivial⟩)
 cases hx:Jl p (Uh p) [] [] 0 (-1)with
 |none=>
  have hr:Q2 p=.aS [.sl .nil [],.sl .ro ((nR (IC p) (Uh p)).map Xa),I 90]:=by unfold Q2;rw[if_neg hv,hx]
  have hb:II p=none:=by unfold II;rw[if_neg hv,hx]
  have hg:tw p=pg0:=by unfold tw;rw[hb]
  have hc:yI p=nR (IC p) (Uh p):=by unfold yI;rw[if_neg hv,hb]
  have he:DO p=90:=by unfold DO;rw[if_neg hv,hb]
  rw[hr]at k60;rw[hg,hc,he];simp only[Qa]at k60
  have:Pure Tryz.prog aD 30 [.agg (Qa p)] (.aS [.agg YZ,.sl .ro ((nR (IC p) (Uh p)).map Xa),I 90]):=by
   refine Qo IK (fun _ f _=>if f=65 then .aS [.sl .nil [],.sl .ro ((nR (IC p) (Uh p)).map Xa),I 90]else .junk) zd ?_;simp[abd,abe,Qa,YZ];exact k60
  exact Zl this (LN ⟨Z6,Ps,Ps,trivial⟩)
 |some l=>
  have hr:Q2 p=.aS [IE l,.sl .nil [],I 0]:=by unfold Q2;rw[if_neg hv,hx]
  have hb:II p=some l:=by unfold II;rw[if_neg hv,hx]
  have hg:tw p=⟨p,Bf p l 0,[],0,[],0⟩:=by unfold tw;rw[hb]
  have hc:yI p=[]:=by unfold yI;rw[if_neg hv,hb]
  have he:DO p=0:=by unfold DO;rw[if_neg hv,hb]
  obtain⟨gO,CP⟩:=hl l hb;rw[hr,Hs]at k60;rw[hg,hc,he];have hcx:=LJ l;have amE:=fun m d y=>hcx m d y;have XW:=Xp (sU p l 0 h5 zE zE zE h6 dG gO CP) (l:=[.agg (Qa p),.sl (um l) (l.map Qe),I 0]) ⟨Ps,Wk.sl _ _,Ps,trivial⟩;simp only[Qa]at k60 k61 XW
  have:Pure Tryz.prog aD 30 [.agg (Qa p)] (.aS [.agg (Qa p++[.sl .ro ((Bf p l 0).map Qf),.sl .nil [],I 0,.sl .nil [],I 0]),.sl .nil [],I 0]):=by
   refine Qo IK (fun _ f x=>if f=65 then .aS [.sl (um l) (l.map Qe),.sl .nil [],I 0]else if f=66 then x.headD .junk else if f=67 then .sl .ro ((Bf p l 0).map Qf)else .junk) zd ?_;simp[abd,abe,Qa,amE];exact⟨k60,k61,XW⟩
  exact Zl this (LN ⟨atl (Ps) (Wk.sl _ _) (Wk.sl _ _),Wk.sl _ _,Ps,trivial⟩)
open Go Go.Abs
def axT(o:Int×Int):P2:=[I o.1,I 0,I o.2,I 0,I 0,I 0,I 0,I 0,I 0,I 0,I 0,I 0,.sl .nil [],I 0,I 0,I 0,I 0,I 0,I 0,I 0,I 0,I 0,I 0,I 0,I 0,.str ⟨#[]⟩]
structure Md where
 pl:List (Int×Int)
 ps:List (List Pg)
 os:List (Int×Int)
def axU(SA:List Rt)(ps:List (List Pg)):P2:=List.zipWith (fun rt l=>AV.sl rt (l.map Qh)) SA ps
structure MdB (bx:T5) (md:Nat) (M:Md) (pid cH:Nat) (SA:List Rt) (rto:Rt) (z:P2):Prop where
 hmd:md<bx.length
 row:Qj bx md=[.mp pid,.bs cH 0 M.ps.length 1,.sl rto (M.os.map axT)]
 hpid:pid<bx.length
 map:Qj bx pid=[.aJ 0 (bG (AV.int .i64) M.pl)]
 hbid:cH<bx.length
 hps:Qj bx cH=axU SA M.ps++z
 hrts:SA.length=M.ps.length
 ne:M.ps≠[]
 uu:∀c i,af c M.pl=some i->0<=i/\i<M.ps.length
 len:M.ps.length<=40
 los:M.os.length<=1000
 hrto:DL rto .ro\/(rto=.nil/\M.os=[])
open Go Go.Abs
structure atm (p:Pl):Prop where
 pl:Bs p
 ln:p.ln<=1000000
 ea:∀e∈p.ens,e.ea<=9223372036854775807
 l:∀l,II p=some l->l.length<=1000000/\∀s∈l,-1000000000<=s.2/\s.2<=1000000000
def Hw(p:Pl):AV:=.aS [.agg (Qh (tw p)),.sl .ro ((yI p).map Xa),I (DO p)]
def BC(p:Pl)(h:atm p):Pure Tryz.prog aD 30 [.agg (Qa p)] (Hw p):=LO p h.pl h.ln h.ea h.l
open Go Go.Abs
def eN(g:Pg):Pg:={g with ev:=g.ev.map IG}
def lu(g:Pg):Qh (eN g)=Qh g:=by
 unfold Qh eN;simp only[BB]
def ayB(ls:Pa)(SA:List Rt)(ps:List (List Pg)):Prop:=
 (∀(i:Nat)(rt:Rt)(l:List Pg),SA[i]?=some rt->ps[i]?=some l->rt=.full\/∃k,rt=.own k 18/\ls[k]?=some l.length)/\∀(i j k:Nat),SA[i]?=some (.own k 18)->SA[j]?=some (.own k 18)->i=j
def ayC(ls:Pa)(SA:List Rt)(rto:Rt)(n:Nat):Prop:=(rto=.nil/\n=0)\/∃k,rto=.own k 26/\ls[k]?=some n/\∀i:Nat,SA[i]?≠some (.own k 18)
def ayW(ls:Pa)(SA:List Rt)(rto:Rt)(k n:Nat):Prop:=ls[k]?=some n/\(∀i:Nat,SA[i]?≠some (.own k 18))/\rto≠.own k 26
open Go Go.Abs
open Go Go.Abs
def wu6(n:Int)(h:0<=n)(h':n<=9223372036854775807):IntKind.u64.wrap n=n:=by
 simp[IntKind.wrap,IntKind.bits,IntKind.signed];omega
def RD(e:bC)(f:Int)(h:Jw e)(hf:f<=9223372036854775807):Pure Tryz.prog aD 77 [.agg (Qf e),.ep [I f] 0] (.bool (Uc f e)):=by
 refine Qo akb (fun _ _ _=>.junk) zd ?_;obtain⟨⟨a1,a2⟩,⟨a3,a4⟩,_⟩:=h;by_cases h1:e.st<=f
 ·have w1:=wu6 e.st zE zE;have w2:=wu6 f zE zE;have w3:=wu6 (f-e.st) zE zE;have w4:=wu6 e.fr zE zE;by_cases h2:0<e.fr
  ·have:(f-e.st<e.fr)=(f<e.st+e.fr):=by apply propext;omega
   simp[abp,abq,Qf,h1,h2,Uc,w1,w2,w3,w4,this]
  have:¬f<e.st+e.fr:=zE
  simp[abp,abq,Qf,h1,h2,Uc,this]
 simp[abp,abq,Qf,h1,Uc]
def Hy(L:List bC)(f:Int)(hL:L.length<=1000000000)(hs:∀e∈L,Jw e)(hf:f<=9223372036854775807):Pure Tryz.prog aD 78 [.sl .ro (L.map Qf),.fn 77 [] [.ep [I f] 0]] (I (gV f L 0)):=by
 refine Qo S8 (K9 f) zd ?_;simp[akc,abr];refine Qk r8 (fun s m=>∃i:Nat,s 8=I i/\i<=L.length/\gV f (L.drop i) i=gV f L 0/\m=⟨[],[],fun _=>.gone,0⟩) (fun s m=>L.length-(numOf (s 8)).toNat) ?_ ?_
 ·exact⟨0,zd,zE,zd,rfl⟩
 rintro s m ⟨i,hi,cB,hr,rfl⟩;rcases zzaa i L.length with ai|bn
 ·obtain⟨a,ha⟩:∃a,L[i]?=some a:=⟨L[i],zzaf ai⟩;have ah:Qj (L.map Qf) i=Qf a:=Qu (by simp[ha]);have hw:=bO i zE;rw[Zb ha]at hr;have hp:Pure Tryz.prog aD 77 [.agg (Qf a),.ep [I f] 0] (.bool (Uc f a)):=RD a f (hs a (zzae ha)) hf;have ho:decide (a.st<=f/\f<a.st+a.fr)=Uc f a:=rfl;by_cases h:Uc f a=true
  ·simp[gV,h]at hr;rw[h]at hp ho;simp at ho;simp[hi,ah,ai,Qf,K9,r8,ho];exact⟨hp,hr⟩
  simp at h;simp[gV,h]at hr;rw[h]at hp ho
  have cQ:decide (a.st<=f)=false\/decide (f<a.st+a.fr)=false:=by
   by_cases q:a.st<=f
   ·right;simp at ho |-;omega
   left;simp[q]
  simp only[decide_eq_false_iff_not]at ho;simp[hi,ah,ai,Qf,K9,r8,ho,hw];refine⟨hp,aQ,⟨i+1,zd,zE,hr⟩,zE⟩
 rw[zzal bn]at hr;simp[hi,zzbk.2 bn,r8];exact hr
def qc(L:List bC)(f:Int)(hL:L.length<=1000000000)(hs:∀e∈L,Jw e)(hf:f<=9223372036854775807):Pure Tryz.prog aD 34 [.sl .ro (L.map Qf),I f] (YW f (Yt f L)):=by
 have Lr:=Hy L f hL hs hf;refine Qo ajy (fun _ g l=>if g=78 then I (gV f L 0)else l.headD .junk) zd ?_;cases Eb:Yt f L with
 |none=>
  rw[yc Eb]at Lr |-
  simp[ajw,ajx,YW,Oc];exact Lr
 |some a=>
  obtain⟨k,h1,h2,h3⟩:=yd (i:=0) Eb;rw[h1]at Lr |-
  have ai:k<L.length:=(zza.1 h2).1;have ah:Qj (L.map Qf) k=Qf a:=Qu (by simp[h2]);obtain⟨⟨a1,a2⟩,⟨a3,a4⟩,⟨a7,a8⟩,a9⟩:=hs a (zzae h2);have hon:a.st<=f/\f<a.st+a.fr:=by simpa[Uc]using h3
  have w1:IntKind.i64.wrap (a.i+f)=a.i+f:=by rw[Ql]<;>omega
  have w2:IntKind.i64.wrap (a.i+f-a.st)=a.i+f-a.st:=by rw[Ql]<;>omega
  rw[zzbs]at Lr;have hcn:=Qcl a.al a9;simp[ajw,ajx,YW,ai,ah,Qf];refine⟨Lr,hcn,Qbk [(.junk,⟨[[I f],[I a.id,I a.it,I a.st,I a.fr,I a.i,I a.re,.sl .ro (a.al.map Qe)],[I a.id,I a.it,I a.st,I a.fr,I a.i,I a.re,.sl .ro (a.al.map Qe)]],[],fun _=>.gone,0⟩)] ?_⟩;simp[w1,w2]
open Go Go.Abs
def dI:AV->Int
 |.int _ n=>n
 |_=>0
def dR:AV->T5
 |.sl _ r=>r
 |_=>[]
def dN(l:P2)(i:Nat):AV:=l.getD i .junk
def dSp(l:P2):Sp:=(dI (dN l 0),dI (dN l 1))
def dIt(l:P2):It:=⟨dI (dN l 0),dI (dN l 1),dI (dN l 2),dI (dN l 3),dI (dN l 4)⟩
def dCl(l:P2):Cl:=⟨dI (dN l 0),dI (dN l 1),dI (dN l 2),dI (dN l 3),dI (dN l 4),dI (dN l 5),dI (dN l 6),dI (dN l 7)⟩
def dEn(l:P2):En:=⟨dI (dN l 0),dI (dN l 1),dI (dN l 2),dI (dN l 3),dI (dN l 4),dI (dN l 5),(dR (dN l 6)).map dSp⟩
def dBk(l:P2):Bk:=⟨dI (dN l 0),dI (dN l 1),dI (dN l 2),dI (dN l 3),dI (dN l 4),dI (dN l 5),dI (dN l 6)⟩
def dPl(l:P2):Pl:=⟨dI (dN l 0),dI (dN l 1),dI (dN l 2),dI (dN l 3),(dR (dN l 4)).map dSp,dI (dN l 5),dI (dN l 6),dI (dN l 7),dI (dN l 8),(dR (dN l 9)).map dIt,(dR (dN l 10)).map dEn,(dR (dN l 11)).map dBk,(dR (dN l 12)).map dCl⟩
def Qei{α:Type}{f:α->P2}{g:P2->α}(h:∀a,g (f a)=a)(l:List α):(l.map f).map g=l:=by
 rw[zzcu]
 conv=>rhs;rw[<- List.map_id l]
 exact zzct fun a _=>h a
theorem DP(s:Sp):dSp (Qe s)=s:=rfl
def Ow(e:En):dEn (Qd e)=e:=by
 show(⟨e.id,e.it,e.fr,e.ea,e.la,e.bo,(e.al.map Qe).map dSp⟩:En)=e;rw[Qei DP]
def Ox(p:Pl):dPl (Qa p)=p:=by
 show(⟨p.ch,p.nu,p.de,p.of,(p.sh.map Qe).map dSp,p.ep,p.rg,p.ln,p.fi,(p.aN.map Qm).map dIt,(p.ens.map Qd).map dEn,(p.bks.map Xj).map dBk,(p.cls.map Qg).map dCl⟩:Pl)=p;rw[Qei DP,Qei (fun _=>rfl),Qei Ow,Qei (fun _=>rfl),Qei (fun _=>rfl)]
def dEv(l:P2):bC:=⟨dI (dN l 0),dI (dN l 1),dI (dN l 2),dI (dN l 3),dI (dN l 4),dI (dN l 5),(dR (dN l 6)).map dSp,false⟩
def dS:AV->ByteArray
 |.str s=>s
 |_=>⟨#[]⟩
def dCu(l:P2):Cue:=⟨dI (dN l 0),dI (dN l 1),dI (dN l 2),dI (dN l 3),dS (dN l 4)⟩
def dPg(l:P2):Pg:=⟨dPl l,(dR (dN l 13)).map dEv,(dR (dN l 14)).map dCu,dI (dN l 15),(dR (dN l 16)).map fun r=>dI (dN r 0),dI (dN l 17)⟩
def afq(l:List bC):(l.map Qf).map dEv=l.map IG:=by
 rw[zzcu];refine zzct fun e _=>?_;show(⟨e.id,e.it,e.st,e.fr,e.i,e.re,(e.al.map Qe).map dSp,false⟩:bC)=IG e;rw[Qei DP];rfl
def qd(g:Pg):dPg (Qh g)=eN g:=by
 show(⟨dPl (Qa g.p),(g.ev.map Qf).map dEv,(g.cu.map Qi).map dCu,g.ed,(g.dr.map Xa).map (fun r=>dI (dN r 0)),g.ve⟩:Pg)=eN g;rw[Ox,afq,Qei (fun _=>rfl),Qei (fun _=>rfl)];rfl
def dOd(l:P2):Od:=⟨dI (dN l 0),dI (dN l 1),dI (dN l 2),dI (dN l 3),dI (dN l 4),dI (dN l 5),dEn (l.drop 6),dCl (l.drop 13),dCu (l.drop 21)⟩
def Qep(o:Od):dOd (Qq o)=o:=by
 show(⟨o.sq,o.ch,o.fr,o.ki,o.en,o.n,dEn (Qd o.nw),o.cl,o.cu⟩:Od)=o;rw[Ow]
