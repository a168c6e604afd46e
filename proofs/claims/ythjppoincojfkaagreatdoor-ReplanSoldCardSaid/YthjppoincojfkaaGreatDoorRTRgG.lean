import Derived.Test.YthjppoincojfkaaGreatDoorRTMcJ
import Derived.Test.YthjppoincojfkaaGreatDoorCards
import Derived.Deep.DeepHandedRow
import Derived.Lib.LaidTab
import Derived.MakeChecks
set_option linter.all false
set_option maxRecDepth 100000
set_option maxHeartbeats 64000000
namespace Go.Abs
open Go Go.RowKit
end Go.Abs
namespace Go.Proofs.YthjppoincojfkaaGreatDoor
open Go Go.Abs
def DN(c:Cue)(l:List Cue):Option (List Cue):=if iw c=true then(if 200<(gQ c (!decide (c.to=0)) l).length then none else some (gQ c (!decide (c.to=0)) l))else none
def Ht(c:Cue)(l:List Cue):mg c l=match DN c l with
 |none=>.aS [.sl .nil [],I 150]
 |some x=>.aS [.sl (tW x) (x.map Qh),I 0]:=by
 unfold mg DN tW;split
 ·split<;>rfl
 rfl
def Qdx(g:Pg)(o:Od)(b:QR)(q:Pl)(d:Int):Pg:=
 {g with p:=q,ev:=Vz g o.fr b o q d++Ku g o.fr b o q d,dr:=dd (Uk (g.dr++Kg g o.fr b o q d)),ve:=g.ve+1}
def Zi(g:Pg)(o:Od):Pg:=
 if Ug g o=false then{g with ve:=g.ve+1}
 else if o.ki=5 then(match DN o.cu g.cu with
  |none=>{g with ve:=g.ve+1}
  |some x=>{g with cu:=x,ed:=o.fr,ve:=g.ve+1})
 else match Jk g o.fr (Xd o.fr g.ev []) o with
  |none=>{g with ve:=g.ve+1}
  |some (q,d)=>Qdx g o (Xd o.fr g.ev []) q d
structure afX (g:Pg) (o:Od):Prop where
 pg:PgC g
 al:o.nw.al.length<=8796093022208
 ve:0<=g.ve/\g.ve<=1000000
 cu:g.cu.length<=1000000
 ch:Ug g o=true->o.ki≠5->aac g o.fr o
 rn:Ug g o=true->o.ki≠5->∀q d,Jk g o.fr (Xd o.fr g.ev []) o=some (q,d)->Hs g o.fr (Xd o.fr g.ev []) o q d/\(Vs g o.fr (Xd o.fr g.ev []) o q d).length<=1000000/\(Ku g o.fr (Xd o.fr g.ev []) o q d).length<=10000000
def fN.more{bx:T5}{mid:Nat}{b:QR}(h:fN bx mid b)(x:T5):fN (bx++x) mid b:=⟨by have:=h.1;simp;omega,h.ext x⟩
def fN.ayk{a b c d d':P2}{ex:T5}{mid:Nat}{bg:QR}(h:fN (a::b::c::d::ex) mid bg)(hm:4<=mid)(x:T5):fN (a::b::c::d'::(ex++x)) mid bg:=by
 obtain⟨j,rfl⟩:∃j,mid=j+4:=⟨mid-4,zE⟩;obtain⟨h1,h2⟩:=h;have hg:=Jn h1;rw[h2]at hg;simp only[zzcl]at hg;have hj:=(zza.1 hg).1;refine⟨by simp;omega,Qw ?_⟩;simp only[zzcl];rw[zzak hj,hg]
def cell_of{a:AV}(h:Qx a=true):cellsOf a=[a]:=by cases a<;>simp_all[Qx,cellsOf]
def afY{a:AV}(h:Qx a=true):bare a=true:=by cases a<;>simp_all[Qx,bare]
def am9(a b:List aW):Wk (.sl .ro (a.map Zv++b.map Qf)) (.sl .ro ((a++b).map Qf)):=by
 have h:a.map Zv++b.map Qf=(a++b.map zk).map Zv:=by rw[zzcb,yB]
 have h2:(a++b).map Qf=(a++b.map zk).map Qf:=by rw[zzcb,zzcb,BA]
 rw[h,h2];exact K5 _
def ana(g:Pg)(o:Od)(h:afX g o):∃re rc rd evr,Wk (.sl re evr) (.sl .ro ((Zi g o).ev.map Qf))/\
  Pure Tryz.prog aD 25 [.agg (Qk g),.agg (Qq o)] (.agg (Qa (Zi g o).p++[.sl re evr,.sl rc ((Zi g o).cu.map Qh),I (Zi g o).ed,.sl rd ((Zi g o).dr.map Qz),I (Zi g o).ve])):=by
 obtain⟨hpg,fM,hve,qc,gY,hrn⟩:=h;have k76:=Y5 g hpg;have DO:=sW g o fM;have sH:=Bs g.cu o.cu qc;rw[Ht]at sH;simp only[Qk,Qa,Qq,Qd,Qg,Qh,zzae,zzag]at k76 DO sH;have hw:IntKind.i64.wrap (g.ve+1)=g.ve+1:=by rw[Ql]<;>omega
 cases hc:Ug g o with
 |false=>
  have ha:Zi g o={g with ve:=g.ve+1}:=by unfold Zi;rw[ac hc]
  rw[ha];rw[hc]at DO;refine⟨.ro,.ro,.ro,g.ev.map Qf,Ps,Qp u6 (fun _ f l=>if f=52 then l.headD .junk else if f=41 then .bool (Ug g o)else .gd false .junk) zd ?_⟩;simp[Pq,Pr,Qk,Qa,Qq,Qd,Qg,Qh,hc,hw];exact⟨k76,DO⟩
 |true=>
  rw[hc]at DO;by_cases h5:o.ki=5
  ·rw[h5]at DO;cases he:DN o.cu g.cu with
   |none=>
    have ha:Zi g o={g with ve:=g.ve+1}:=by unfold Zi;rw[ab (by rw[hc];decide),ac h5,he]
    rw[ha];rw[he]at sH;refine⟨.ro,.ro,.ro,g.ev.map Qf,Ps,Qp u6 (fun _ f l=>if f=52 then l.headD .junk else if f=41 then .bool true else if f=42 then .aS [.sl .nil [],I 150]else .gd false .junk) zd ?_⟩;simp[Pq,Pr,Qk,Qa,Qq,Qd,Qg,Qh,hw,h5];exact⟨k76,DO,sH⟩
   |some x=>
    have ha:Zi g o={g with cu:=x,ed:=o.fr,ve:=g.ve+1}:=by unfold Zi;rw[ab (by rw[hc];decide),ac h5,he]
    rw[ha];rw[he]at sH;have hcx:=LM x;have anb:=fun m d y=>hcx m d y;refine⟨.ro,tW x,.ro,g.ev.map Qf,Ps,Qp u6 (fun _ f l=>if f=52 then l.headD .junk else if f=41 then .bool true else if f=42 then .aS [.sl (tW x) (x.map Qh),I 0]else .gd false .junk) zd ?_⟩;simp[Pq,Pr,Qk,Qa,Qq,Qd,Qg,Qh,hw,h5];refine⟨k76,DO,sH,Yz ?_⟩;simp[anb]
  have gY:=gY hc h5;have hrn:=hrn hc h5;cases hx:Jk g o.fr (Xd o.fr g.ev []) o with
  |none=>
   have ha:Zi g o={g with ve:=g.ve+1}:=by unfold Zi;rw[ab (by rw[hc];decide),ab h5,hx]
   rw[ha];refine⟨.ro,.ro,.ro,g.ev.map Qf,Ps,Qp u6 (fun _ f l=>if f=52 then l.headD .junk else if f=41 then .bool true else .gd false .junk) zd ?_⟩;simp[Pq,Pr,Qk,Qa,Qq,Qd,Qg,Qh,hw,h5];refine⟨k76,DO,?_⟩;refine Bw Y0 _ g o.fr (by have:=hpg.2.1;omega) _ fun ex mid hex V0 gJ=>?_;simp[Qr,Qk,Qa,zzap];refine OB Y0 _ g o.fr mid (Xd o.fr g.ev []) o gY ?_ ?_ _ ?_
   ·have:=fun x=>fN.more gJ x;simp only[zzae,zzag]at this;exact this _
   ·intro c hc;simp only[zzao,zzaj,zzdo,or_false]at hc;obtain rfl|rfl|rfl|rfl|hc|rfl:=hc
    ·exact eG.of zd rfl
    ·exact eG.of zd rfl
    ·exact eG.of zd rfl
    ·exact eG.of zd rfl
    ·exact hex c hc
    exact eG.mo g o.fr mid
   rw[hx];simp[zZ,RM]
  |some r=>
   obtain⟨q,d⟩:=r;obtain⟨hR,fU,fT⟩:=hrn q d hx;have ha:Zi g o=Qdx g o (Xd o.fr g.ev []) q d:=by unfold Zi;rw[ab (by rw[hc];decide),ab h5,hx]
   rw[ha];refine⟨.ro,.ro,tW ((Qdx g o (Xd o.fr g.ev []) q d).dr.map Qz),(Vz g o.fr (Xd o.fr g.ev []) o q d).map Zv++(Ku g o.fr (Xd o.fr g.ev []) o q d).map Qf,am9 _ _,Qp u6 (fun _ f l=>if f=52 then l.headD .junk else if f=41 then .bool true else .gd false .junk) zd ?_⟩;simp[Pq,Pr,Qk,Qa,Qq,Qd,Qg,Qh,hw,h5];refine⟨k76,DO,?_⟩;refine Bw Y0 _ g o.fr (by have:=hpg.2.1;omega) _ fun ex mid hex V0 gJ=>?_;simp[Qr,Qk,Qa,zzap];have y9:=fun x=>fN.more gJ x;simp only[zzae,zzag]at y9
   refine OB Y0 _ g o.fr mid (Xd o.fr g.ev []) o gY (y9 _) (by
    intro c hc;simp only[zzao,zzaj,zzdo,or_false]at hc;obtain rfl|rfl|rfl|rfl|hc|rfl:=hc
    ·exact eG.of zd rfl
    ·exact eG.of zd rfl
    ·exact eG.of zd rfl
    ·exact eG.of zd rfl
    ·exact hex c hc
    exact eG.mo g o.fr mid) _ ?_
   rw[hx];simp[zZ,Qa,zzap];refine RT Y0 _ g o.fr mid (Xd o.fr g.ev []) o q d hR (fN.ayk (by simpa using y9 []) (Nm V0) _) fU fT _ fun gD ls ke vd hv=>?_;have fA:=hv.1;have Ct:=cell_of fA;have hc3:=afY fA;simp[zzap,fA,Ct,hc3];refine⟨zE,zE,rfl,rfl,rfl,rfl,rfl,rfl,rfl,rfl,rfl,rfl,rfl,rfl,rfl,rfl,rfl,?_,?_⟩
   ·refine hv.2 _ zd (fun j h1 h2=>?_) _;simp at h1;obtain⟨i,rfl⟩:∃i,j=i+4:=⟨j-4,zE⟩;simp
   rfl
def Qen(g:Pg)(o:Od)(h:afX g o):Pure Tryz.prog aD 25 [.agg (Qk g),.agg (Qq o)] (.agg (Qk (Zi g o))):=by
 obtain⟨re,rc,rd,evr,hw,hp⟩:=ana g o h;refine Zk hp ?_;unfold Qk;simp only[Qa,zzae,zzag];refine Qdq ?_;exact⟨Ps,Ps,Ps,Ps,Ps,Ps,Ps,Ps,Ps,Ps,Ps,Ps,Ps,hw,Wk.sl _ _,Ps,Wk.sl _ _,Ps,trivial⟩
def LQ{l l':P2}(h:WkL l l'):Wk (.aS l) (.aS l'):=fun w γ v hr=>by
 have key:∀{l l':P2},WkL l l'->l.length=l'.length/\∀(i:Nat)(c':AV),l'[i]?=some c'->∃c,l[i]?=some c/\Wk c c':=by
  intro l;induction l with
  |nil=>intro l' h;cases l' with
   |nil=>exact⟨rfl,fun i c' h=>by simp at h⟩
   |cons _ _=>exact h.elim
  |cons a l ih=>intro l' h;cases l' with
   |nil=>exact h.elim
   |cons b l'=>
    obtain⟨h1,h2⟩:=ih h.2;refine⟨by simp[h1],fun i c' hc=>?_⟩;cases i with
    |zero=>simp at hc;subst hc;exact⟨a,rfl,h.1⟩
    |succ i=>simpa using h2 i c' (Nm hc)
 obtain⟨h1,h2⟩:=key h;cases hr with
 |aS hl hc=>
  refine .aS zE fun i c' v uh hv=>?_;obtain⟨c,g1,g2⟩:=h2 i c' uh;exact g2 _ _ _ (hc i c v g1 hv)
def pl0:Pl:=⟨0,0,0,0,[],0,0,0,0,[],[],[],[]⟩
def pg0:Pg:=⟨pl0,[],[],0,[],0⟩
def Hu(p:Pl):Option (List Sp):=if pe p=false then none else Yt p (Ue p) [] [] 0 (-1)
def Wl(p:Pl):Pg:=match Hu p with
 |none=>pg0
 |some l=>⟨p,zf p l 0,[],0,[],0⟩
def yC(p:Pl):Pi:=if pe p=false then[]else match Hu p with
 |none=>nO (IP p) (Ue p)
 |some _=>[]
def DP(p:Pl):Int:=if pe p=false then 80 else match Hu p with
 |none=>90
 |some _=>0
def atY{V X Y:AV}{p:Pl}{ev:List aW}{cu:List Cue}{dr:Pi}{ed ve:Int}(h1:Wk V (.sl .ro (ev.map Qf)))(h2:Wk X (.sl .ro (cu.map Qh)))(h3:Wk Y (.sl .ro (dr.map Qz))):
  Wk (.agg (Qa p++[V,X,I ed,Y,I ve])) (.agg (Qk ⟨p,ev,cu,ed,dr,ve⟩)):=by
 unfold Qk;simp only[Qa,zzae,zzag];exact Qdq ⟨Ps,Ps,Ps,Ps,Ps,Ps,Ps,Ps,Ps,Ps,Ps,Ps,Ps,h1,h2,Ps,h3,Ps,trivial⟩
def aaq:Wk (.agg Y4) (.agg (Qk pg0)):=by
 unfold Y4 pg0 pl0 Qk;simp only[Qa,zzae,zzag,zzct];exact Qdq ⟨Ps,Ps,Ps,Ps,Wk.sl _ _,Ps,Ps,Ps,Ps,Wk.sl _ _,Wk.sl _ _,Wk.sl _ _,Wk.sl _ _,Wk.sl _ _,Wk.sl _ _,Ps,Wk.sl _ _,Ps,trivial⟩
def LR(p:Pl)(hp:Bm p)(dQ:p.ln<=1000000)(SX:∀e∈p.ens,e.ea<=9223372036854775807)(hl:∀l,Hu p=some l->l.length<=1000000/\∀s∈l,-1000000000<=s.2/\s.2<=1000000000):
  Pure Tryz.prog aD 30 [.agg (Qa p)] (.aS [.agg (Qk (Wl p)),.sl .ro ((yC p).map Qz),I (DP p)]):=by
 obtain⟨h1,h2,h3,h4,h5,h6⟩:=hp;have k60:=RU p ⟨zE,zE,zE,zE,zE,h6⟩ h5 zE zE SX;have k61:=pL p ⟨h1,h2,h3,h4,h5,h6⟩;by_cases hv:pe p=false
 ·have hr:RW p=.aS [.sl .nil [],.sl .nil [],I 80]:=by unfold RW;rw[ac hv]
  have hb:Hu p=none:=by unfold Hu;rw[ac hv]
  have hg:Wl p=pg0:=by unfold Wl;rw[hb]
  have hc:yC p=[]:=by unfold yC;rw[ac hv]
  have he:DP p=80:=by unfold DP;rw[ac hv]
  rw[hr]at k60;rw[hg,hc,he];simp only[Qa]at k60
  have:Pure Tryz.prog aD 30 [.agg (Qa p)] (.aS [.agg Y4,.sl .nil [],I 80]):=by
   refine Qp IT (fun _ f _=>if f=65 then .aS [.sl .nil [],.sl .nil [],I 80]else .junk) zd ?_;simp[abL,abM,Qa,Y4];exact k60
  exact Zk this (LQ ⟨aaq,Wk.sl _ _,Ps,trivial⟩)
 cases hx:Yt p (Ue p) [] [] 0 (-1)with
 |none=>
  have hr:RW p=.aS [.sl .nil [],.sl .ro ((nO (IP p) (Ue p)).map Qz),I 90]:=by unfold RW;rw[ab hv,hx]
  have hb:Hu p=none:=by unfold Hu;rw[ab hv,hx]
  have hg:Wl p=pg0:=by unfold Wl;rw[hb]
  have hc:yC p=nO (IP p) (Ue p):=by unfold yC;rw[ab hv,hb]
  have he:DP p=90:=by unfold DP;rw[ab hv,hb]
  rw[hr]at k60;rw[hg,hc,he];simp only[Qa]at k60
  have:Pure Tryz.prog aD 30 [.agg (Qa p)] (.aS [.agg Y4,.sl .ro ((nO (IP p) (Ue p)).map Qz),I 90]):=by
   refine Qp IT (fun _ f _=>if f=65 then .aS [.sl .nil [],.sl .ro ((nO (IP p) (Ue p)).map Qz),I 90]else .junk) zd ?_;simp[abL,abM,Qa,Y4];exact k60
  exact Zk this (LQ ⟨aaq,Ps,Ps,trivial⟩)
 |some l=>
  have hr:RW p=.aS [IN l,.sl .nil [],I 0]:=by unfold RW;rw[ab hv,hx]
  have hb:Hu p=some l:=by unfold Hu;rw[ab hv,hx]
  have hg:Wl p=⟨p,zf p l 0,[],0,[],0⟩:=by unfold Wl;rw[hb]
  have hc:yC p=[]:=by unfold yC;rw[ab hv,hb]
  have he:DP p=0:=by unfold DP;rw[ab hv,hb]
  obtain⟨gK,ze⟩:=hl l hb;rw[hr,Hr]at k60;rw[hg,hc,he];have hcx:=LM l;have anb:=fun m d y=>hcx m d y;have X8:=Zb (sR p l 0 h5 zE zE zE h6 dQ gK ze) (l:=[.agg (Qa p),.sl (tW l) (l.map Qe),I 0]) ⟨Ps,Wk.sl _ _,Ps,trivial⟩;simp only[Qa]at k60 k61 X8
  have:Pure Tryz.prog aD 30 [.agg (Qa p)] (.aS [.agg (Qa p++[.sl .ro ((zf p l 0).map Qf),.sl .nil [],I 0,.sl .nil [],I 0]),.sl .nil [],I 0]):=by
   refine Qp IT (fun _ f x=>if f=65 then .aS [.sl (tW l) (l.map Qe),.sl .nil [],I 0]else if f=66 then x.headD .junk else if f=67 then .sl .ro ((zf p l 0).map Qf)else .junk) zd ?_;simp[abL,abM,Qa,anb];exact⟨k60,k61,X8⟩
  exact Zk this (LQ ⟨atY (Ps) (Wk.sl _ _) (Wk.sl _ _),Wk.sl _ _,Ps,trivial⟩)
def ayl(o:Int×Int):P2:=[I o.1,I 0,I o.2,I 0,I 0,I 0,I 0,I 0,I 0,I 0,I 0,I 0,.sl .nil [],I 0,I 0,I 0,I 0,I 0,I 0,I 0,I 0,I 0,I 0,I 0,I 0,.str ⟨#[]⟩]
structure Md where
 pl:List (Int×Int)
 ps:List (List Pg)
 os:List (Int×Int)
def aym(SY:List Rt)(ps:List (List Pg)):P2:=List.zipWith (fun rt l=>AV.sl rt (l.map Qk)) SY ps
structure MdB (bx:T5) (md:Nat) (M:Md) (pid cD:Nat) (SY:List Rt) (rto:Rt) (z:P2):Prop where
 hmd:md<bx.length
 row:Qi bx md=[.mp pid,.bs cD 0 M.ps.length 1,.sl rto (M.os.map ayl)]
 hpid:pid<bx.length
 map:Qi bx pid=[.aJ 0 (bG (AV.int .i64) M.pl)]
 hbid:cD<bx.length
 hps:Qi bx cD=aym SY M.ps++z
 hrts:SY.length=M.ps.length
 ne:M.ps≠[]
 ug:∀c i,af c M.pl=some i->0<=i/\i<M.ps.length
 len:M.ps.length<=40
 los:M.os.length<=1000
 hrto:DL rto .ro\/(rto=.nil/\M.os=[])
structure atZ (p:Pl):Prop where
 pl:Bm p
 ln:p.ln<=1000000
 ea:∀e∈p.ens,e.ea<=9223372036854775807
 l:∀l,Hu p=some l->l.length<=1000000/\∀s∈l,-1000000000<=s.2/\s.2<=1000000000
def Hv(p:Pl):AV:=.aS [.agg (Qk (Wl p)),.sl .ro ((yC p).map Qz),I (DP p)]
def BB(p:Pl)(h:atZ p):Pure Tryz.prog aD 30 [.agg (Qa p)] (Hv p):=LR p h.pl h.ln h.ea h.l
def fS(g:Pg):Pg:={g with ev:=g.ev.map zk}
def kS(g:Pg):Qk (fS g)=Qk g:=by
 unfold Qk fS;simp only[BA]
def ay7(ls:Pa)(SY:List Rt)(ps:List (List Pg)):Prop:=
 (∀(i:Nat)(rt:Rt)(l:List Pg),SY[i]?=some rt->ps[i]?=some l->rt=.full\/∃k,rt=.own k 18/\ls[k]?=some l.length)/\∀(i j k:Nat),SY[i]?=some (.own k 18)->SY[j]?=some (.own k 18)->i=j
def ay8(ls:Pa)(SY:List Rt)(rto:Rt)(n:Nat):Prop:=(rto=.nil/\n=0)\/∃k,rto=.own k 26/\ls[k]?=some n/\∀i:Nat,SY[i]?≠some (.own k 18)
def azx(ls:Pa)(SY:List Rt)(rto:Rt)(k n:Nat):Prop:=ls[k]?=some n/\(∀i:Nat,SY[i]?≠some (.own k 18))/\rto≠.own k 26
def dB(lo up:Int):List aW->Prop
 |[]=>lo<=up
 |e::r=>lo<=e.st/\1<=e.fr/\dB (e.st+e.fr) up r
def dB.le{up:Int}:∀{L:List aW}{lo:Int},dB lo up L->lo<=up/\(L.length:Int)<=up-lo
 |[],lo,h=>⟨h,by simp only[dB]at h;simp only[zzcn];omega⟩
 |e::r,lo,h=>by
  obtain⟨h1,h2,h3⟩:=h;have:=dB.le h3;simp only[zzbf];omega
def dB.mem{up:Int}:∀{L:List aW}{lo:Int},dB lo up L->∀e∈L,lo<=e.st/\1<=e.fr/\e.st+e.fr<=up
 |x::r,lo,h,e,he=>by
  obtain⟨h1,h2,h3⟩:=h;rcases zzao.1 he with rfl|he
  ·exact⟨h1,h2,h3.le.1⟩
  have:=dB.mem h3 e he;omega
def dB.low{up lo lo':Int}{L:List aW}(h:dB lo up L)(hl:lo'<=lo):dB lo' up L:=by
 cases L with
 |nil=>simp only[dB]at h |-;omega
 |cons e r=>exact⟨by have:=h.1;omega,h.2⟩
def dB.app{m up:Int}{B:List aW}(hB:dB m up B):∀{A:List aW}{lo:Int},dB lo m A->dB lo up (A++B)
 |[],lo,h=>hB.low h
 |e::r,lo,h=>⟨h.1,h.2.1,dB.app hB h.2.2⟩
def dB.nl{up:Int}:∀{L:List aW}{lo:Int},dB lo up L->dB lo up (L.map zk)
 |[],lo,h=>h
 |e::r,lo,h=>⟨h.1,h.2.1,dB.nl h.2.2⟩
def dB.anc{up f:Int}:∀{L:List aW}{lo:Int},dB lo up L->f<=lo->Zm f L=[]
 |[],lo,h,hf=>rfl
 |e::r,lo,h,hf=>by
  obtain⟨h1,h2,h3⟩:=h;rw[Zm,ac zE];exact dB.anc h3 zE
def dB.bef{up f:Int}:∀{L:List aW}{lo:Int},dB lo up L->lo<=f->dB lo f (Zm f L)
 |[],lo,h,hf=>hf
 |e::r,lo,h,hf=>by
  have hh:=h;obtain⟨h1,h2,h3⟩:=h;rw[Zm];by_cases hs:f<=e.st
  ·rw[ac hs,dB.anc h3 zE];exact hf
  rw[ab hs];by_cases hl:f-e.st<e.fr
  ·rw[dB.anc h3 zE];simp only[dB,DF,ac hl];omega
  refine⟨h1,?_,?_⟩
  ·simp only[DF,ab hl];exact h2
  have:=dB.bef h3 (f:=f) zE;simp only[DF,ab hl];exact this
def aar(p:Pl)(fr t:Int):∀(n:Nat)(a:Int),(t-a).toNat<=n->a<=t->dB a t ((Vg fr t a).map (Zq p)):=by
 intro n;induction n with
 |zero=>intro a h ha;rw[Vg,ab zE];exact ha
 |succ n ih=>
  intro a h ha;rw[Vg];split
  ·have hN:1<=Uf fr t a/\Uf fr t a<=t-a:=by unfold Uf;split<;>omega
   have:=ih (a+Uf fr t a) zE zE;exact⟨zzbd _,hN.1,this⟩
  exact ha
def Hw{p:Pl}{s:Sp}{a:Int}{e:En}(h:jo p s a=some e):Xn s.1 p.ens=some e/\1<=e.fr/\a<=s.2/\s.2+e.fr<=p.ln:=by
 unfold jo at h;cases hf:Xn s.1 p.ens with
 |none=>rw[hf]at h;cases h
 |some x=>
  rw[hf]at h;simp only at h;split at h
  ·cases h
  cases h;exact⟨rfl,zE,zE,zE⟩
def aas(p:Pl):∀(l:List Sp)(a:Int),a<=p.ln->dB a p.ln (Je p l a)
 |[],a,ha=>by rw[Je];exact aar p _ _ _ a (zzab _) ha
 |s::r,a,ha=>by
  rw[Je];cases hs:jo p s a with
  |none=>exact aas p r a ha
  |some e=>
   obtain⟨h1,h2,h3,h4⟩:=Hw hs;simp only[zzbg];refine dB.app ?_ (aar p _ _ _ a (zzab _) h3);exact⟨zzbd _,h2,aas p r _ h4⟩
def aat(p:Pl)(l:List Sp)(a:Int)(h0:0<=a)(h1:a<=p.ln):dB a p.ln (zf p l a):=by
 unfold zf;rw[ab zE];exact aas p l a h1
def OJ(l:List Sp):Prop:=l.length<=1000/\l.Pairwise (fun a b=>a.1<b.1)/\∀a∈l,1<=a.1
def OJ.nil:OJ []:=⟨zd,List.Pairwise.nil,fun a ha=>by cases ha⟩
def OJ.filter{l:List Sp}(h:OJ l)(P:Sp->Bool):OJ (l.filter P):=
 ⟨zzbb (zzcf _ _) h.1,h.2.1.filter _,fun a ha=>h.2.2 a (zzbp.1 ha).1⟩
def EvP(e:aW):Prop:=0<=e.i/\e.i<=e.st/\OJ e.al
def Hy(fr t:Int):∀(n:Nat)(a:Int),(t-a).toNat<=n->∀x∈Vg fr t a,a<=x.1:=by
 intro n;induction n with
 |zero=>intro a h x hx;rw[Vg,ab zE]at hx;cases hx
 |succ n ih=>
  intro a h x hx;rw[Vg]at hx;split at hx
  ·have hN:1<=Uf fr t a:=by unfold Uf;split<;>omega
   rcases zzao.1 hx with rfl|hx
   ·exact zzbd _
   have:=ih (a+Uf fr t a) zE x hx;omega
  cases hx
def ane(p:Pl)(hp:∀e∈p.ens,OJ e.al):∀(l:List Sp)(a:Int),0<=a->∀e∈Je p l a,EvP e
 |[],a,ha,e,h=>by
  rw[Je,zzan]at h;obtain⟨x,hx,rfl⟩:=h;have:=Hy _ _ _ a (zzab _) x hx;exact⟨zzbd _,by simp only[Zq];omega,OJ.nil⟩
 |s::r,a,ha,e,h=>by
  rw[Je]at h;cases hs:jo p s a with
  |none=>rw[hs]at h;exact ane p hp r a ha e h
  |some x=>
   obtain⟨h1,h2,h3,h4⟩:=Hw hs;rw[hs]at h;simp only[zzbg,zzaj,zzan,zzbx]at h;obtain⟨y,hy,rfl⟩|rfl|h:=h
   ·have:=Hy _ _ _ a (zzab _) y hy;exact⟨zzbd _,by simp only[Zq];omega,OJ.nil⟩
   ·have:=hp x (Qbi h1).1;exact⟨zzbd _,by simp only[tP];omega,this.filter _⟩
   exact ane p hp r _ zE e h
def ajz(p:Pl)(hp:∀e∈p.ens,OJ e.al)(l:List Sp)(a:Int)(h0:0<=a):∀e∈zf p l a,EvP e:=by
 unfold zf;split
 ·intro e he;cases he
 exact ane p hp l a h0
def anf(f:Int):∀{L:List aW},(∀e∈L,EvP e)->∀e∈Zm f L,EvP e
 |[],h,e,he=>by cases he
 |x::r,h,e,he=>by
  rw[Zm]at he;split at he
  ·exact anf f (fun y hy=>h y (by simp[hy])) e he
  rcases zzao.1 he with rfl|he
  ·exact h x zd
  exact anf f (fun y hy=>h y (by simp[hy])) e he
def OK{lo up:Int}:∀{ks:Pi},ks.Pairwise (·<·)->(∀k∈ks,lo<=k/\k<=up)->(ks.length:Int)<=max 0 (up-lo+1)
 |[],_,_=>by simp only[zzcn];omega
 |k::r,h,hb=>by
  obtain⟨h1,h2⟩:=zzcg.1 h;have hk:=hb k zd;have:=OK (lo:=k+1) (up:=up) h2 (fun x hx=>⟨by have:=h1 x hx;omega,(hb x (by simp[hx])).2⟩);simp only[zzbf];omega
def gU{p:Pl}(h:pe p=true):∀e∈p.ens,1<=e.id/\1<=e.fr/\0<=e.ea/\e.ea<=e.la/\e.la<=p.ln-e.fr/\OJ e.al:=by
 intro e he;have hv:=Dn h;obtain⟨h1,h2,h3⟩:=hv.ens e he;have N5:=hv.rg;unfold jj at h2;cases hf:Xk e.it p.aM with
 |none=>rw[hf]at h2;cases h2
 |some y=>
  rw[hf]at h2;simp only at h2;split at h2
  ·cases h2
  split at h2
  ·cases h2
  rename_i q2;split at h2
  ·cases h2
  have q2:wi e.fr 1 y.fr=true:=by simpa using q2
  simp only[wi,am]at q2;simp only[zzac,am]at h2;simp only[lV,zzac]at h3;obtain⟨p1,p2⟩:=ZE h3.1;have:=OK p1 p2;rw[zzbw]at this;exact⟨h1,q2.1,h2.1,h2.2.1,h2.2.2,zE,List.pairwise_map.1 p1,fun a ha=>(p2 a.1 (zzan.2 ⟨a,ha,rfl⟩)).1⟩
structure cO (k:Nat) (g:Pg):Prop where
 v:pe g.p=true
 ln:g.p.ln<=1500
 sh:g.p.sh.length<=10
 aM:g.p.aM.length<=20
 ens:g.p.ens.length<=12+k
 bks:g.p.bks.length<=10
 cls:g.p.cls.length<=20+k
 ch:dB 0 g.p.ln g.ev
 ep:∀e∈g.ev,EvP e
 cu:g.cu.length<=200
 dr:g.dr.length<=1000*k
 ve:g.ve=k
def cO.fS{k:Nat}{g:Pg}(h:cO k g):cO k (fS g):=
 ⟨h.v,h.ln,h.sh,h.aM,h.ens,h.bks,h.cls,h.ch.nl,fun e he=>by
  obtain⟨x,hx,rfl⟩:=zzan.1 he;exact h.ep x hx,h.cu,h.dr,h.ve⟩
def cO.plc{k:Nat}{g:Pg}(h:cO k g)(hk:k<=900):Bm g.p:=
 ⟨by have:=h.sh;omega,by have:=h.aM;omega,by have:=h.ens;omega,by have:=h.bks;omega,by have:=h.cls;omega,fun e he=>by have:=(gU h.v e he).2.2.2.2.2.1;omega⟩
def cO.small{k:Nat}{g:Pg}(h:cO k g):g.ev.length<=1500/\∀e∈g.ev,Kq e:=by
 have h1:=h.ch.le;have h2:=h.ln;refine⟨zE,fun e he=>?_⟩;obtain⟨q1,q2,q3⟩:=h.ch.mem e he;obtain⟨q4,q5,q6,_⟩:=h.ep e he;exact⟨⟨zE,zE⟩,⟨zE,zE⟩,⟨zE,zE⟩,zE⟩
def cO.mo{k:Nat}{g:Pg}{f:Int}(h:cO k g)(hk:k<=900)(hf:0<=f/\f<g.p.ln):lC g f:=
 ⟨by have:=h.small.1;omega,h.small.2,by have:=h.ln;unfold nG;omega,by have:=h.ens;omega⟩
def cO.pgc{k:Nat}{g:Pg}(h:cO k g)(hk:k<=900):PgC g:=
 ⟨h.plc hk,by have:=h.small.1;omega,by have:=h.cu;omega,by have:=h.dr;omega,fun e he=>by have:=(h.ep e he).2.2.1;omega⟩
structure LU (p:Pl):Prop where
 ln:p.ln<=1500
 sh:p.sh.length<=10
 aM:p.aM.length<=20
 ens:p.ens.length<=12
 bks:p.bks.length<=10
 cls:p.cls.length<=20
def ang(p:Pl):LU (Rx p):=
 ⟨by simp only[Rx];split<;>omega,by simp[Rx];omega,by simp[Rx];omega,by simp[Rx];omega,by simp[Rx];omega,by simp[Rx];omega⟩
def Hz{p:Pl}(h:DP p=0):pe p=true/\∃l,Hu p=some l:=by
 unfold DP at h;split at h
 ·cases h
 rename_i hv;cases hl:Hu p with
 |none=>rw[hl]at h;cases h
 |some l=>exact⟨Nm hv,l,rfl⟩
def uX{p:Pl}(hp:LU p)(h:DP p=0):cO 0 (Wl p):=by
 obtain⟨hv,l,hl⟩:=Hz h;have hg:Wl p=⟨p,zf p l 0,[],0,[],0⟩:=by unfold Wl;rw[hl]
 have dQ:=(Dn hv).ln;rw[hg];exact⟨hv,hp.ln,hp.sh,hp.aM,hp.ens,hp.bks,hp.cls,aat p l 0 zE zE,ajz p (fun e he=>(gU hv e he).2.2.2.2.2) l 0 zE,zd,zd,rfl⟩
def DQ{p:Pl}:∀{ids:Pi}{us en:List (Int×Int)}{free last:Int}{l:List Sp},Yt p ids us en free last=some l->l.length<=ids.length/\∀s∈l,0<=s.2/\s.2<=100000000
 |[],_,_,_,_,l,h=>by cases h;exact⟨zzab _,fun s hs=>by cases hs⟩
 |id::r,us,en,free,last,l,h=>by
  rw[Yt]at h;cases h1:Wy id p.ens 0 with
  |none=>rw[h1]at h;cases h
  |some k=>
   rw[h1]at h;simp only at h;split at h
   ·cases h
   cases h2:p.ens[k]? with
   |none=>rw[h2]at h;cases h
   |some e=>
    rw[h2]at h;simp only at h;split at h
    ·cases h
    cases h3:Vm p e (Vr en (Ub p e.it) (max e.ea free))with
    |none=>rw[h3]at h;cases h
    |some s=>
     rw[h3]at h;simp only at h;cases h4:Yt p r (Zx us e.it) (Xz p en e.it (s+e.fr)) (s+e.fr) k with
     |none=>rw[h4]at h;cases h
     |some t=>
      rw[h4]at h;cases h;obtain⟨q1,q2⟩:=DQ h4;obtain⟨_,_,q3,_,_,q4,_⟩:=Uh h3;refine⟨by simp only[zzbf];omega,fun x hx=>?_⟩;rcases zzao.1 hx with rfl|hx
      ·exact⟨q3,q4⟩
      exact q2 x hx
def ajA{p:Pl}(hp:LU p)(fM:∀e∈p.ens,e.al.length<=8796093022208)(SX:∀e∈p.ens,e.ea<=9223372036854775807):atZ p:=by
 refine⟨⟨by have:=hp.sh;omega,by have:=hp.aM;omega,by have:=hp.ens;omega,by have:=hp.bks;omega,by have:=hp.cls;omega,fM⟩,by have:=hp.ln;omega,SX,fun l hl=>?_⟩;unfold Hu at hl;split at hl
 ·cases hl
 obtain⟨h1,h2⟩:=DQ hl;have h3:(Ue p).length=p.ens.length:=by simp[Ue]
 have:=hp.ens;refine⟨zE,fun s hs=>?_⟩;have:=h2 s hs;omega
def afZ{o:Od}(h:Qcr o=true):o.n=0/\o.nw.al=[]:=by
 simp only[Qcr,am]at h;exact⟨h.2.1,h.2.2.2.2.2.2.2.2.2.2⟩
def Qba{o:Od}(h:Zz o=true):(0<=o.fr/\o.fr<=100000000)/\(-100000000<=o.n/\o.n<=100000000)/\(0<=o.sq/\o.sq<=200)/\(1<=o.ki/\o.ki<=5):=by
 unfold Zz at h;split at h
 ·cases h
 split at h
 ·cases h
 split at h
 ·cases h
 split at h
 ·cases h
 rename_i h1 h2 h3 h4;rw[zzac]at h;refine⟨zE,?_,zE,zE⟩;by_cases hk:o.ki=1
 ·omega
 have hb:=(afZ h.2).1
 have hn:(Ka o).n=o.n:=by
  unfold Ka;rw[ab hk];repeat' split
  all_goals rfl
 omega
def Qdl{g:Pg}{f:Int}{b:QR}{o:Od}{q:Pl}{d:Int}(h:Jk g f b o=some (q,d)):f<g.p.ln/\Ki g f b o=some (q,d)/\pe q=true/\zh g f b o q d=true:=by
 unfold Jk at h;split at h
 ·cases h
 rename_i hl;cases hb:Ki g f b o with
 |none=>rw[hb]at h;cases h
 |some x=>
  obtain⟨q',d'⟩:=x;rw[hb]at h;simp only at h;split at h
  ·rename_i hc;cases h;rw[zzac]at hc;exact⟨zE,rfl,hc.1,hc.2⟩
  cases h
def Qbn{g:Pg}{f:Int}{b:QR}{o:Od}{q:Pl}{d:Int}(h:Ki g f b o=some (q,d)):
  q.ln=g.p.ln/\q.sh=g.p.sh/\q.aM=g.p.aM/\q.bks=g.p.bks/\q.ens.length<=g.p.ens.length+1/\q.cls.length<=g.p.cls.length+1/\q.ch=g.p.ch:=by
 unfold Ki at h;split at h
 ·unfold ru at h;split at h
  ·cases h
  split at h
  ·cases h
  cases h;exact⟨rfl,rfl,rfl,rfl,zd,zd,rfl⟩
 split at h
 ·unfold tU at h;split at h
  ·cases h
  cases h;exact⟨rfl,rfl,rfl,rfl,by have:=zzcf (fun e=>!lZ o.en e) g.p.ens;simp only;omega,zd,rfl⟩
 split at h
 ·cases h;refine⟨rfl,rfl,rfl,rfl,?_,by simp[nL],rfl⟩;simp only[nL,zzal,zzas,zzbf,zzcy];omega
 cases h;exact⟨rfl,rfl,rfl,rfl,by simp[Dv],by simp[Dv],rfl⟩
def af0{n:Int}(h: -9223372036854775808<=n/\n<=9223372036854775807):Yf n=n:=by unfold Yf;omega
def ajB{g:Pg}{f:Int}{b:QR}{o:Od}{q:Pl}{d:Int}(hk:o.ki=1)(h:Ki g f b o=some (q,d))(hv:pe q=true)(hm:zh g f b o q d=true)(dQ:g.p.ln<=1500):
  (1<=d/\d<=1500)/\∀st,Bp g f b o.en=some st->Yf (f-st)<=d/\st+d<=q.ln:=by
 have hq:=(Qbn h).1;unfold Ki at h;rw[ac hk]at h;unfold zh at hm;rw[ac hk]at hm;unfold ru at h;cases he:g.p.ens[(Jh g o.en).toNat]? with
 |none=>rw[he]at h;cases h
 |some e=>
  rw[he]at h;simp only at h;split at h
  ·cases h
  simp only[Option.some.injEq,Prod.mk.injEq]at h;obtain⟨h1,h2⟩:=h;have ah:=(zza.1 he).1
  have dJ:Rp g f b o e∈q.ens:=by
   rw[<- h1];exact zzad (zzbh ah)
  obtain⟨_,p1,p2,p3,p4,_⟩:=gU hv _ dJ;have zF:(Rp g f b o e).fr=d:=h2;rw[zF]at p1 p4;refine⟨zE,fun st bM=>?_⟩;unfold Qbx at hm;split at hm
  ·cases hm
  split at hm
  ·cases hm
  split at hm
  ·cases hm
  split at hm
  ·cases hm
  split at hm
  ·cases hm
  rw[bM]at hm;simp only at hm;split at hm
  ·cases hm
  refine⟨?_,zE⟩;rw[<- h2];unfold tT;rw[bM];simp only;split<;>omega
def aau{k:Nat}{g:Pg}{f:Int}{b:QR}{o:Od}{q:Pl}{d:Int}(h:cO k g)(hk:k<=900)(hf:0<=f)(hc:Jk g f b o=some (q,d)){e:aW}(he:z6 g f b o q d=some e):
  e.st=f/\1<=e.fr/\f+e.fr<=q.ln/\EvP e:=by
 obtain⟨c1,c2,c3,c4⟩:=Qdl hc;have hq:=(Qbn c2).1;have dQ:=h.ln;unfold z6 at he;cases hp:Uc g f b with
 |none=>rw[hp]at he;cases he
 |some x=>
  rw[hp]at he;simp only at he;cases hF:zX g f o q d x with
  |none=>rw[hF]at he;cases he
  |some F=>
   rw[hF]at he;simp only at he;split at he
   ·cases he
   rename_i qn;cases he
   have hxm:x∈g.ev/\Wd f x=true/\x.id≠0:=by
    unfold Uc at hp;cases hfd:g.ev.find? (Wd f)with
    |none=>rw[hfd]at hp;cases hp
    |some y=>
     rw[hfd]at hp;simp only at hp;split at hp
     ·cases hp
     split at hp
     ·cases hp;rename_i h1 h2;exact⟨zzdg hfd,zzfl hfd,h1⟩
     cases hp
   obtain⟨x1,x2,x3⟩:=hxm;simp only[Wd,am]at x2;obtain⟨y1,y2,y3⟩:=h.ch.mem x x1;obtain⟨z1,z2,z3⟩:=h.ep x x1
   have fM:OJ (jH q f x.id F ((Xn x.id q.ens).getD yh).al):=by
    refine OJ.filter ?_ _;cases hn:Xn x.id q.ens with
    |none=>exact OJ.nil
    |some en=>exact(gU c3 en (Qbi hn).1).2.2.2.2.2
   have hFF:1<=F/\f+F<=q.ln:=by
    unfold zX at hF;split at hF
    ·rename_i dP;cases hF;obtain⟨d1,d2⟩:=ajB dP.1 c2 c3 c4 dQ
     have bP:Bp g f b o.en=some (rq g x.id):=by
      unfold Bp;rw[hp];simp only;rw[ac dP.2.symm]
     obtain⟨e1,e2⟩:=d2 _ bP;have hb:=Ds (h.mo hk ⟨hf,c1⟩) x.id;rw[af0 zE]at e1;omega
    split at hF
    ·cases hF
    split at hF
    ·cases hF
    cases hF;simp only[uQ];omega
   exact⟨rfl,hFF.1,hFF.2,by simp only;omega,by simp only;omega,fM⟩
def DR{k:Nat}{g:Pg}{f:Int}{b:QR}{o:Od}{q:Pl}{d:Int}(h:cO k g)(hk:k<=900)(hf:0<=f)(hc:Jk g f b o=some (q,d)):
  f<=Yc g f b o q d/\Yc g f b o q d<=q.ln/\dB 0 (Yc g f b o q d) (Vz g f b o q d)/\∀e∈Vz g f b o q d,EvP e:=by
 obtain⟨c1,c2,c3,c4⟩:=Qdl hc;have hq:=(Qbn c2).1;have hb:=(h.ch.bef (f:=f) hf).nl;have hbp:=anf f h.ep;unfold Yc Vz;cases cU:z6 g f b o q d with
 |none=>
  simp only[Option.toList_none,zzat];refine⟨zzbd _,zE,hb,fun e he=>?_⟩;obtain⟨x,hx,rfl⟩:=zzan.1 he;exact hbp x hx
 |some e=>
  obtain⟨e1,e2,e3,e4⟩:=aau h hk hf hc cU;simp only[Option.toList_some];refine⟨zE,zE,dB.app ?_ hb,fun x hx=>?_⟩
  ·exact⟨zE,e2,by simp only[dB];omega⟩
  rcases zzaj.1 hx with hx|hx
  ·obtain⟨y,hy,rfl⟩:=zzan.1 hx;exact hbp y hy
  rw[zzbx]at hx;rw[hx];exact e4
def at1{k:Nat}{g:Pg}{f:Int}{b:QR}{o:Od}{q:Pl}{d:Int}(h:cO k g)(hk:k<=900)(hf:0<=f)(dP:1<=o.ki/\o.ki<=5)(hc:Jk g f b o=some (q,d)):
  Hs g f b o q d/\(Vs g f b o q d).length<=1000000/\(Ku g f b o q d).length<=10000000:=by
 obtain⟨c1,c2,c3,c4⟩:=Qdl hc;obtain⟨q1,q2,q3,q4,q5,q6,q7⟩:=Qbn c2;obtain⟨n1,n2,n3,n4⟩:=DR h hk hf hc;have dQ:=h.ln;have XO:=Dn c3;have IK:=gU c3
 have bM:(Vs g f b o q d).length<=1000/\∀s∈Vs g f b o q d,0<=s.2/\s.2<=100000000:=by
  unfold Vs;cases hs:Ye q (Yc g f b o q d) (LO g f b o q d) (Xe true (Yg g b q.ens) (jQ g f b o q d))with
  |none=>exact⟨zd,fun s hs=>by cases hs⟩
  |some l=>
   obtain⟨s1,s2⟩:=DQ hs;have t1:=pT true (Yg g b q.ens) (jQ g f b o q d);have t2:=jP g b q.ens;have t3:=h.ens;exact⟨by simp only[Option.getD_some];omega,s2⟩
 have fT:=aat q (Vs g f b o q d) (Yc g f b o q d) zE n2
 have hd:0<=d/\d<=1000000000:=by
  by_cases h1:o.ki=1
  ·have:=(ajB h1 c2 c3 c4 dQ).1;omega
  unfold Ki at c2;rw[ab h1]at c2;split at c2
  ·cases fk:tU g o with
   |none=>rw[fk]at c2;cases c2
   |some x=>rw[fk]at c2;cases c2;omega
  split at c2<;>cases c2<;>omega
 have hpc:Bm q:=⟨by rw[q2];have:=h.sh;omega,by rw[q3];have:=h.aM;omega,by have:=h.ens;omega,by rw[q4];have:=h.bks;omega,by have:=h.cls;omega,fun e he=>by have:=(IK e he).2.2.2.2.2.1;omega⟩;refine⟨⟨h.mo hk ⟨hf,c1⟩,hpc,?_,hd,by have:=XO.rg;omega,zE,by have:=h.small.1;omega,by have:=h.dr;omega,zE,?_,zE,fun s hs=>by have:=bM.2 s hs;omega⟩,by have:=bM.1;omega,?_⟩
 ·exact⟨by have:=h.cls;omega,by rw[q2];have:=h.sh;omega,by rw[q3];have:=h.aM;omega,by have:=h.ens;omega,by rw[q4];have:=h.bks;omega,fun e he=>(IK e he).2.2.2.2.2.1,by have:=XO.ln;omega,
   fun e he=>by have:=IK e he;omega,fun e he=>by have:=IK e he;omega,fun e he=>by have:=IK e he;omega⟩
 ·intro e he;obtain⟨e1,e2,e3,e4,e5,e6,_⟩:=aau h hk hf hc he;exact⟨⟨zE,zE⟩,⟨zE,zE⟩,⟨zE,zE⟩,zE⟩
 have:=fT.le.2;unfold Ku;omega
def tX(o:Od):Prop:=o.nw.al.length<=1000
def yD{k:Nat}{g:Pg}{o:Od}(h:cO k g)(hk:k<=900)(ho:tX o):afX g o:=by
 unfold tX at ho;refine⟨h.pgc hk,zE,by have:=h.ve;omega,by have:=h.cu;omega,fun hc _=>?_,fun hc _ q d hx=>?_⟩
 ·have hv:Zz o=true:=by unfold Ug at hc;rw[zzac]at hc;exact hc.1
  obtain⟨v1,v2,v3,v4⟩:=Qba hv;exact⟨fun hl=>h.mo hk ⟨v1.1,hl⟩,h.plc hk,v1.1,by have:=h.ln;omega,by unfold sX;omega,fun e he=>by have:=gU h.v e he;have:=h.ln;unfold sX;omega,by have:=h.dr;omega,zE⟩
 have hv:Zz o=true:=by unfold Ug at hc;rw[zzac]at hc;exact hc.1
 obtain⟨v1,v2,v3,v4⟩:=Qba hv;exact at1 h hk v1.1 v4 hx
def rJ{k:Nat}{g:Pg}{o:Od}(h:cO k g)(hk:k<=900):cO (k+1) (Zi g o):=by
 have hup:cO (k+1) {g with ve:=g.ve+1}:=⟨h.v,h.ln,h.sh,h.aM,by have:=h.ens;simp only;omega,h.bks,by have:=h.cls;simp only;omega,h.ch,h.ep,h.cu,by have:=h.dr;simp only;omega,by have:=h.ve;simp only;omega⟩;unfold Zi;split
 ·exact hup
 rename_i hc;split
 ·cases he:DN o.cu g.cu with
  |none=>exact hup
  |some x=>
   refine⟨h.v,h.ln,h.sh,h.aM,by have:=h.ens;simp only;omega,h.bks,by have:=h.cls;simp only;omega,h.ch,h.ep,?_,by have:=h.dr;simp only;omega,by have:=h.ve;simp only;omega⟩;unfold DN at he;split at he
   ·split at he
    ·cases he
    cases he;simp only;omega
   cases he
 cases hx:Jk g o.fr (Xd o.fr g.ev []) o with
 |none=>exact hup
 |some r=>
  obtain⟨q,d⟩:=r
  have hv:Zz o=true:=by
   have hc:Ug g o=true:=by simpa using hc
   unfold Ug at hc;rw[zzac]at hc;exact hc.1
  obtain⟨v1,v2,v3,v4⟩:=Qba hv;obtain⟨c1,c2,c3,c4⟩:=Qdl hx;obtain⟨q1,q2,q3,q4,q5,q6,q7⟩:=Qbn c2;obtain⟨n1,n2,n3,n4⟩:=DR h hk v1.1 hx;have fT:=aat q (Vs g o.fr (Xd o.fr g.ev []) o q d) _ zE n2;have hbp:=ajz q (fun e he=>(gU c3 e he).2.2.2.2.2) (Vs g o.fr (Xd o.fr g.ev []) o q d) (Yc g o.fr (Xd o.fr g.ev []) o q d) zE;refine⟨c3,by show q.ln<=1500;have:=h.ln;omega,by show q.sh.length<=10;rw[q2];exact h.sh,by show q.aM.length<=20;rw[q3];exact h.aM,by show q.ens.length<=12+(k+1);have:=h.ens;omega,by show q.bks.length<=10;rw[q4];exact h.bks,by show q.cls.length<=20+(k+1);have:=h.cls;omega,dB.app fT n3,?_,h.cu,?_,by show g.ve+1=_;have:=h.ve;omega⟩
  ·intro e he;rcases zzaj.1 he with he|he
   ·exact n4 e he
   exact hbp e he
  show(dd (Uk (g.dr++Kg g o.fr (Xd o.fr g.ev []) o q d))).length<=1000*(k+1);have t1:=Kf (Uk (g.dr++Kg g o.fr (Xd o.fr g.ev []) o q d));rw[rI,zzal]at t1;have t2:=pT false (Yg g (Xd o.fr g.ev []) q.ens) (jQ g o.fr (Xd o.fr g.ev []) o q d);have t3:=jP g (Xd o.fr g.ev []) q.ens;have t4:=h.ens;have t5:=h.dr;unfold Kg at t1;unfold Kg;omega
structure MdV (M:Md):Prop where
 n:∀l∈M.ps,l.length=M.os.length+1
 pr:∀l∈M.ps,∀i g,l[i]?=some g->cO i g
 fr:∀o∈M.os,0<=o.2/\o.2<=100000000
 los:M.os.length<=200
open Go.RowKit
def isI(a:AV):Bool:=match a with
 |.int _ _=>true
 |_=>false
def af1{a:AV}(h:isI a=true){w:World}{γ γ':G}{v:Value}(hr:aA w γ a v):v.oneCell'=true/\aA w γ' a v:=by
 cases hr<;>simp[isI]at h;exact⟨rfl,.int _ _⟩
def LV{P:Program}{W:World}{name:String}{d:DataW Unit}{rest:List (String×DataW Unit)}{g:Nat}{t:TypeId}{D:Nat}{row:P2}(h:∃ps,DataW.LaidVars P W ((name,d)::rest) ps)
  (hg:P.globalNamed name=some g)(hty:(P.globals[g]?).map (·.type)=some t)(bV:ZX P D t=true)(hav:cB P D t d=row)(hi:row.all isI=true)(aO:row≠[]):aA W (G0 G1) (.ep row 0) (.pointer (some ⟨g,0,none⟩)):=by
 obtain⟨ps,g',t',cs,aT,p,q,hg',X4,ayn,hd,_,_⟩:=h;obtain rfl:=ap (hg.symm.trans hg');obtain rfl:=ap (hty.symm.trans X4);obtain⟨_,hr,_,_⟩:=jK D aT t cs.toList d p hd bV;rw[hav]at hr
 have bK:∀(j:Nat)(c:AV),row[j]?=some c->W.cell? ⟨g,j,none⟩=some (cs.toList.getD j undef)/\(cs.toList.getD j undef).oneCell'=true/\aA W (G0 G1).cS c (cs.toList.getD j undef):=by
  intro j c hj;have ah:j<row.length:=(zza.1 hj).1;have cn:j<cs.toList.length:=by rw[<- hr.1];exact ah
  have hv:cs.toList[j]?=some (cs.toList.getD j undef):=by rw[zzaw,zzaf cn];rfl
  have hc:=World.var?_cell hg ayn j;have h1:=hr.2 j c _ hj hv;have h2:isI c=true:=zzax.1 hi c (zzad hj);obtain⟨h3,h4⟩:=af1 h2 (γ':=(G0 G1).cS) h1;refine⟨?_,h3,h4⟩;rw[hc,<- zzce];exact hv
 have hsz:g<W.heap.size:=by
  obtain⟨a,r,rfl⟩:=List.exists_cons_of_ne_nil aO;have:=(bK 0 a rfl).1;simp only[World.cell?]at this;rcases zzaa g W.heap.size with h|h
  ·exact h
  rw[zzbq zE]at this;simp at this
 refine aA.ep (o:=0) (b:=g) (off:=0) (fun j=>cs.toList.getD j undef) hsz (fun j c hj=>?_) (fun j c hj=>(bK j c hj).2.2);obtain⟨h1,h2,_⟩:=bK j c hj;refine⟨Nm h1,trivial,h2⟩
def aav:cB Tryz.prog 5 339 (Rows.laid_onair_timecode_rates:DataW Unit)=HA:=by
 unfold Rows.laid_onair_timecode_rates;have h3:∀n:Int,cB Tryz.prog 2 3 (.lit (.int .i64 n):DataW Unit)=[I n]:=fun n=>Zf Tryz.underlying3 _ _;have h3':∀n:Int,cB Tryz.prog 3 3 (.lit (.int .i64 n):DataW Unit)=[I n]:=fun n=>Zf Tryz.underlying3 _ _
 have h23:∀a b:Int,cB Tryz.prog 3 23 (.agg [.lit (.int .i64 a),.lit (.int .i64 b)]:DataW Unit)=[I a,I b]:=fun a b=>by
  rw[Uv Tryz.underlying23];simp[h3]
 have ayo:∀a b c d:Int,cB Tryz.prog 4 295 (.agg [.agg [.lit (.int .i64 a),.lit (.int .i64 b)],.lit (.int .i64 c),.lit (.int .i64 d)]:DataW Unit)=[I a,I b,I c,I d]:=fun a b c d=>by
  rw[Uv Tryz.underlying295];simp[h3',h23]
 rw[Rz Tryz.underlying339];simp only[zzdx,zzeo,ayo];rfl
def anh{W:World}{rest:List (String×DataW Unit)}(h:laidMet Tryz.prog (("onair/timecode.rates",Rows.laid_onair_timecode_rates)::rest) W):∀g,aA W (G0 G1) (aD g) (.pointer (some ⟨g,0,none⟩)):=by
 intro g;obtain⟨ps,h,_⟩:=h
 match g with
 |0=>exact .junk _
 |1=>exact .junk _
 |2=>exact LV (D:=5) ⟨ps,h⟩ (g:=2) (t:=339) (by kernel_rfl) (by kernel_rfl) (by kernel_rfl) aav (by decide) (by simp[HA])
 |g+3=>exact .junk _
def Yw{m:Int}(h:(Lit.int .i64 m).wf=true):Zg m:=by
 simp[Lit.wf,IntKind.min,IntKind.max,IntKind.bits,IntKind.signed]at h;unfold Zg;omega
def Sz{H:Type}(t:TypeId)(x:DataW H):Prop:=∀k∈x.weights Tryz.prog t,k<=reachBytes
def Sz.all{H:Type}{e:TypeId}{l:List (DataW H)}(h:∀k∈DataW.weightsAll Tryz.prog e l,k<=reachBytes):∀y∈l,Sz e y:=by
 induction l with
 |nil=>intro y hy;cases hy
 |cons a l ih=>
  intro y hy;simp only[DataW.weightsAll,zzaj]at h;rcases zzao.1 hy with rfl|hy
  ·exact fun k hk=>h k (.inl hk)
  exact ih (fun k hk=>h k (.inr hk)) y hy
def Sz.slice{H:Type}{t e:TypeId}{bL spare:List (DataW H)}(hu:Tryz.prog.underlying t=some (.slice e))(h:Sz t (.slice bL spare:DataW H)):(bL.length+spare.length)*Tryz.prog.bytesOf e<=reachBytes/\∀y∈bL,Sz e y:=by
 unfold Sz at h;simp only[DataW.weights,hu]at h;refine⟨h _ zd,Sz.all fun k hk=>h k (by simp[hk])⟩
def Sz.agg{H:Type}{t:TypeId}{fs:Array Field}{parts:List (DataW H)}(hu:Tryz.prog.underlying t=some (.struct fs))(h:Sz t (.agg parts:DataW H)):∀k∈DataW.weightsEach Tryz.prog (fs.toList.map (·.type)) parts,k<=reachBytes:=by
 unfold Sz at h;simpa only[DataW.weights,hu]using h
def Kw{H:Type}{α:Type}(row:α->P2)(ok:α->Prop){t e:TypeId}(hu:Tryz.prog.underlying t=some (.slice e)){n:Nat}(iC:∀y:DataW H,Typed Tryz.prog n e y->Sz e y->∃a,ok a/\cB Tryz.prog n e y=row a)
  {x:DataW H}(h:Typed Tryz.prog (n+1) t x)(hs:Sz t x):∃(l:List α)(rt:Rt),(∀a∈l,ok a)/\l.length*Tryz.prog.bytesOf e<=reachBytes/\l.length<=maxLen/\cB Tryz.prog (n+1) t x=[.sl rt (l.map row)]:=by
 rcases G4 hu h with rfl|⟨bL,spare,rfl,hl,he⟩
 ·exact⟨[],.nil,(fun _ h=>by cases h),(by rw[zzcn,zzhk];exact zzbv _),zzbv _,afA hu⟩
 obtain⟨hz,Cr⟩:=hs.slice hu
 have key:∃X:List α,(∀y∈X,ok y)/\bL.map (cB Tryz.prog n e)=X.map row:=by
  clear hl h hz hs;induction bL with
  |nil=>exact⟨[],zd,rfl⟩
  |cons y ys ih=>
   obtain⟨X,h1,h2⟩:=ih (fun z hz=>he z (by simp[hz])) (fun z hz=>Cr z (by simp[hz]));obtain⟨q,hq,hv⟩:=iC y (he y zd) (Cr y zd);refine⟨q::X,?_,by rw[zzar,h2,hv];rfl⟩;intro z hz;rcases zzao.1 hz with rfl|hz
   ·exact hq
   exact h1 z hz
 obtain⟨X,h1,h2⟩:=key;have aH:X.length=bL.length:=by have:=congrArg List.length h2;simpa using this.symm
 refine⟨X,.nn,h1,?_,zE,by rw[amT hu,h2]⟩;rw[aH];refine zzbb (zzbc _ (Nat.le_add_right _ _)) hz
def OL{α:Type}{l:List α}(h:l.length=2):∃a b,l=[a,b]:=by
 match l,h with
 |[a,b],_=>exact⟨a,b,rfl⟩
def OM{α:Type}{l:List α}(h:l.length=5):∃a0 a1 a2 a3 a4,l=[a0,a1,a2,a3,a4]:=by
 match l,h with
 |[a0,a1,a2,a3,a4],_=>exact⟨a0,a1,a2,a3,a4,rfl⟩
def HB{α:Type}{l:List α}(h:l.length=7):∃a0 a1 a2 a3 a4 a5 a6,l=[a0,a1,a2,a3,a4,a5,a6]:=by
 match l,h with
 |[a0,a1,a2,a3,a4,a5,a6],_=>exact⟨a0,a1,a2,a3,a4,a5,a6,rfl⟩
def aaw{α:Type}{l:List α}(h:l.length=8):∃a0 a1 a2 a3 a4 a5 a6 a7,l=[a0,a1,a2,a3,a4,a5,a6,a7]:=by
 match l,h with
 |[a0,a1,a2,a3,a4,a5,a6,a7],_=>exact⟨a0,a1,a2,a3,a4,a5,a6,a7,rfl⟩
def RX{α:Type}{l:List α}(h:l.length=11):∃a0 a1 a2 a3 a4 a5 a6 a7 a8 a9 a10,l=[a0,a1,a2,a3,a4,a5,a6,a7,a8,a9,a10]:=by
 match l,h with
 |[a0,a1,a2,a3,a4,a5,a6,a7,a8,a9,a10],_=>exact⟨a0,a1,a2,a3,a4,a5,a6,a7,a8,a9,a10,rfl⟩
def HC{H:Type}{n:Nat}:∀(L:List Field)(parts:List (DataW H)),(∀f∈L,f.type=3)->(∀p∈L.zip parts,Typed Tryz.prog (n+1) p.1.type p.2)->parts.length=L.length->
  ∃l:Pi,l.length=L.length/\(∀m∈l,Zg m)/\(L.zip parts).flatMap (fun p=>cB Tryz.prog (n+1) p.1.type p.2)=l.map I
 |[],parts,_,_,_=>⟨[],rfl,(fun _ h=>by cases h),by cases parts<;>rfl⟩
 |f::L,[],_,_,h=>by simp at h
 |f::L,a::parts,bD,hp,hl=>by
  obtain⟨l,l1,l2,l3⟩:=HC L parts (fun g hg=>bD g (zzcu _ hg)) (fun p VT=>hp p (zzcu _ VT)) (Nm hl);have ha:=hp (f,a) zd;have hf:=bD f zd;rw[hf]at ha;obtain⟨m,rfl,w⟩:=Xp Tryz.underlying3 ha;refine⟨m::l,by simp[l1],?_,?_⟩
  ·intro k hk;rcases zzao.1 hk with rfl|hk
   ·exact Yw w
   exact l2 k hk
  simp only[zzdj,zzdx,hf];rw[Zf Tryz.underlying3,l3];rfl
def pU{H:Type}{t:TypeId}{fs:Array Field}(hu:Tryz.prog.underlying t=some (.struct fs))(bD:∀f∈fs.toList,f.type=3){y:DataW H}{n:Nat}(h:Typed Tryz.prog (n+2) t y):
  ∃l:Pi,l.length=fs.size/\(∀m∈l,Zg m)/\cB Tryz.prog (n+2) t y=l.map I:=by
 obtain⟨parts,rfl,aH,hp⟩:=Uw hu h;rw[Uv hu];obtain⟨l,l1,l2,l3⟩:=HC fs.toList parts bD hp (Nm aH);exact⟨l,Nm l1,l2,l3⟩
def aax(s:Sp):Prop:=Zg s.1/\Zg s.2
def DS{H:Type}{t:TypeId}{f g:Field}(hu:Tryz.prog.underlying t=some (.struct #[f,g]))(hf:f.type=3)(hg:g.type=3){y:DataW H}{n:Nat}(h:Typed Tryz.prog (n+2) t y):∃s:Sp,aax s/\cB Tryz.prog (n+2) t y=Qe s:=by
 obtain⟨l,l1,l2,l3⟩:=pU hu (by simp[hf,hg]) h;obtain⟨a,b,rfl⟩:=OL (show l.length=2 from l1);exact⟨(a,b),⟨l2 a zd,l2 b zd⟩,l3⟩
def ani(x:It):Prop:=Zg x.id/\Zg x.ki/\Zg x.fr/\Zg x.sp/\Zg x.ra
def anj(x:Cl):Prop:=Zg x.ki/\Zg x.it/\Zg x.fr/\Zg x.to/\Zg x.re/\Zg x.n/\Zg x.a/\Zg x.b
def ank(x:Bk):Prop:=Zg x.id/\Zg x.it/\Zg x.re/\Zg x.fr/\Zg x.to/\Zg x.un/\Zg x.pr
def af2(x:En):Prop:=(Zg x.id/\Zg x.it/\Zg x.fr/\Zg x.ea/\Zg x.la/\Zg x.bo)/\x.al.length<=8796093022208/\∀a∈x.al,aax a
structure at2 (p:Pl):Prop where
 ch:Zg p.ch
 nu:Zg p.nu
 de:Zg p.de
 of:Zg p.of
 ep:Zg p.ep
 rg:Zg p.rg
 ln:Zg p.ln
 fi:Zg p.fi
 sh:∀s∈p.sh,aax s
 aM:∀s∈p.aM,ani s
 ens:∀s∈p.ens,af2 s
 bks:∀s∈p.bks,ank s
 cls:∀s∈p.cls,anj s
 shl:p.sh.length<=8796093022208
 itl:p.aM.length<=8796093022208
 enl:p.ens.length<=8796093022208
 bkl:p.bks.length<=8796093022208
 cll:p.cls.length<=8796093022208
def aay{H:Type}{y:DataW H}{n:Nat}(h:Typed Tryz.prog (n+2) 59 y):∃x:It,ani x/\cB Tryz.prog (n+2) 59 y=Qm x:=by
 obtain⟨l,l1,l2,l3⟩:=pU Tryz.underlying59 zd h;obtain⟨a0,a1,a2,a3,a4,rfl⟩:=OM (show l.length=5 from l1);exact⟨⟨a0,a1,a2,a3,a4⟩,⟨l2 _ zd,l2 _ zd,l2 _ zd,l2 _ zd,l2 _ zd⟩,l3⟩
def yE{H:Type}{y:DataW H}{n:Nat}(h:Typed Tryz.prog (n+2) 49 y):∃x:Cl,anj x/\cB Tryz.prog (n+2) 49 y=Qg x:=by
 obtain⟨l,l1,l2,l3⟩:=pU Tryz.underlying49 zd h;obtain⟨a0,a1,a2,a3,a4,a5,a6,a7,rfl⟩:=aaw (show l.length=8 from l1);exact⟨⟨a0,a1,a2,a3,a4,a5,a6,a7⟩,⟨l2 _ zd,l2 _ zd,l2 _ zd,l2 _ zd,l2 _ zd,l2 _ zd,l2 _ zd,l2 _ zd⟩,l3⟩
def HD{H:Type}{y:DataW H}{n:Nat}(h:Typed Tryz.prog (n+2) 130 y):∃x:Bk,ank x/\cB Tryz.prog (n+2) 130 y=Xi x:=by
 obtain⟨l,l1,l2,l3⟩:=pU Tryz.underlying130 zd h;obtain⟨a0,a1,a2,a3,a4,a5,a6,rfl⟩:=HB (show l.length=7 from l1);exact⟨⟨a0,a1,a2,a3,a4,a5,a6⟩,⟨l2 _ zd,l2 _ zd,l2 _ zd,l2 _ zd,l2 _ zd,l2 _ zd,l2 _ zd⟩,l3⟩
def LW:Tryz.prog.bytesOf 59=40:=by kernel_rfl
def af3:Tryz.prog.bytesOf 64=16:=by kernel_rfl
def af4:Tryz.prog.bytesOf 47=72:=by kernel_rfl
def aaz:Tryz.prog.bytesOf 130=56:=by kernel_rfl
def aaA:Tryz.prog.bytesOf 49=64:=by kernel_rfl
def aaB:Tryz.prog.bytesOf 124=16:=by kernel_rfl
def yF(q:En×Rt):P2:=[I q.1.id,I q.1.it,I q.1.fr,I q.1.ea,I q.1.la,I q.1.bo,.sl q.2 (q.1.al.map Qe)]
def BC{H:Type}{y:DataW H}{n:Nat}(h:Typed Tryz.prog (n+4) 47 y)(hs:Sz 47 y):∃q:En×Rt,af2 q.1/\cB Tryz.prog (n+4) 47 y=yF q:=by
 obtain⟨parts,rfl,aH,hp⟩:=Uw Tryz.underlying47 h;obtain⟨a0,a1,a2,a3,a4,a5,a6,rfl⟩:=HB aH;have hz:=hs.agg Tryz.underlying47;have t0:=hp (⟨ "ID",3,0,false, "", "",0⟩,a0) (by simp);have t1:=hp (⟨ "Item",3,1,false, "", "",8⟩,a1) (by simp);have t2:=hp (⟨ "Frames",3,2,false, "", "",16⟩,a2) (by simp);have t3:=hp (⟨ "Earliest",3,3,false, "", "",24⟩,a3) (by simp);have t4:=hp (⟨ "Latest",3,4,false, "", "",32⟩,a4) (by simp);have t5:=hp (⟨ "Booking",3,5,false, "", "",40⟩,a5) (by simp);have t6:=hp (⟨ "Alts",45,6,false, "", "",48⟩,a6) (by simp);obtain⟨m0,rfl,w0⟩:=Xp Tryz.underlying3 t0;obtain⟨m1,rfl,w1⟩:=Xp Tryz.underlying3 t1;obtain⟨m2,rfl,w2⟩:=Xp Tryz.underlying3 t2;obtain⟨m3,rfl,w3⟩:=Xp Tryz.underlying3 t3;obtain⟨m4,rfl,w4⟩:=Xp Tryz.underlying3 t4;obtain⟨m5,rfl,w5⟩:=Xp Tryz.underlying3 t5;have hs6:Sz 45 a6:=fun k hk=>hz k (by simp[DataW.weightsEach,hk]);obtain⟨l,rt,l1,l2,l3,l4⟩:=Kw Qe aax Tryz.underlying45 (fun y hy _=>DS Tryz.underlying64 rfl rfl hy) t6 hs6;rw[af3]at l2;have hr:reachBytes=140737488351232:=rfl;refine⟨(⟨m0,m1,m2,m3,m4,m5,l⟩,rt),⟨⟨Yw w0,Yw w1,Yw w2,Yw w3,Yw w4,Yw w5⟩,by simp only;omega,l1⟩,?_⟩;rw[Uv Tryz.underlying47];simp only[zzdj,zzeu,zzdx,zzeo];rw[Zf Tryz.underlying3,Zf Tryz.underlying3,Zf Tryz.underlying3,Zf Tryz.underlying3,Zf Tryz.underlying3,Zf Tryz.underlying3,l4];rfl
def anl(l:List (En×Rt))(rt:Rt):Wk (.sl rt (l.map yF)) (.sl .ro ((l.map (·.1)).map Qd)):=by
 refine Wk.trans (Wk.sl _ _) ?_;rw[zzcw];refine Wk.rows l yF (Qd ∘ (·.1)) (fun _=>rfl) fun a j c' h=>?_
 match j,h with
 |0,h=>exact⟨_,rfl,by cases h;exact Ps⟩
 |1,h=>exact⟨_,rfl,by cases h;exact Ps⟩
 |2,h=>exact⟨_,rfl,by cases h;exact Ps⟩
 |3,h=>exact⟨_,rfl,by cases h;exact Ps⟩
 |4,h=>exact⟨_,rfl,by cases h;exact Ps⟩
 |5,h=>exact⟨_,rfl,by cases h;exact Ps⟩
 |6,h=>exact⟨_,rfl,by cases h;exact Wk.sl _ _⟩
 |j+7,h=>simp[Qd]at h
abbrev PlT:=Pl×List (En×Rt)×Rt×Rt×Rt×Rt×Rt
def LX(q:PlT):Pl:={q.1 with ens:=q.2.1.map (·.1)}
def anm(q:PlT):P2:=[I q.1.ch,I q.1.nu,I q.1.de,I q.1.of,.sl q.2.2.1 (q.1.sh.map Qe),I q.1.ep,I q.1.rg,I q.1.ln,I q.1.fi,.sl q.2.2.2.1 (q.1.aM.map Qm),.sl q.2.2.2.2.1 (q.2.1.map yF),.sl q.2.2.2.2.2.1 (q.1.bks.map Xi),.sl q.2.2.2.2.2.2 (q.1.cls.map Qg)]
def aaC{H:Type}{x:DataW H}{n:Nat}(h:Typed Tryz.prog (n+6) 32 x)(hs:Sz 32 x):∃q:PlT,at2 (LX q)/\cB Tryz.prog (n+6) 32 x=anm q:=by
 obtain⟨parts,rfl,aH,hp⟩:=Uw Tryz.underlying32 h;obtain⟨a0,a1,a2,a3,a4,a5,a6,a7,a8,a9,a10,rfl⟩:=RX aH;have hz:=hs.agg Tryz.underlying32;have t0:=hp (⟨ "Channel",3,0,false, "", "",0⟩,a0) (by simp);have t1:=hp (⟨ "Rate",23,1,false, "", "",8⟩,a1) (by simp);have t2:=hp (⟨ "Zone",26,3,false, "", "",24⟩,a2) (by simp);have t3:=hp (⟨ "Epoch",3,5,false, "", "",56⟩,a3) (by simp);have t4:=hp (⟨ "Regions",3,6,false, "", "",64⟩,a4) (by simp);have t5:=hp (⟨ "Length",3,7,false, "", "",72⟩,a5) (by simp);have t6:=hp (⟨ "Fill",3,8,false, "", "",80⟩,a6) (by simp);have t7:=hp (⟨ "Items",27,9,false, "", "",88⟩,a7) (by simp);have t8:=hp (⟨ "Entries",28,10,false, "", "",112⟩,a8) (by simp);have t9:=hp (⟨ "Bookings",29,11,false, "", "",136⟩,a9) (by simp);have t10:=hp (⟨ "Clauses",30,12,false, "", "",160⟩,a10) (by simp);obtain⟨m0,rfl,w0⟩:=Xp Tryz.underlying3 t0;obtain⟨m3,rfl,w3⟩:=Xp Tryz.underlying3 t3;obtain⟨m4,rfl,w4⟩:=Xp Tryz.underlying3 t4;obtain⟨m5,rfl,w5⟩:=Xp Tryz.underlying3 t5;obtain⟨m6,rfl,w6⟩:=Xp Tryz.underlying3 t6;obtain⟨r,⟨r1,r2⟩,at3⟩:=DS Tryz.underlying23 rfl rfl t1;obtain⟨zp,rfl,ayp,zpp⟩:=Uw Tryz.underlying26 t2;obtain⟨z0,z1,rfl⟩:=OL ayp;have u0:=zpp (⟨ "Offset",3,0,false, "", "",0⟩,z0) (by simp);have u1:=zpp (⟨ "Shifts",24,1,false, "", "",8⟩,z1) (by simp);obtain⟨mo,rfl,wo⟩:=Xp Tryz.underlying3 u0;have s1:Sz 24 z1:=fun k hk=>hz k (by simp[DataW.weightsEach,DataW.weights,Tryz.underlying26,hk]);have s7:Sz 27 a7:=fun k hk=>hz k (by simp[DataW.weightsEach,hk]);have s8:Sz 28 a8:=fun k hk=>hz k (by simp[DataW.weightsEach,hk]);have s9:Sz 29 a9:=fun k hk=>hz k (by simp[DataW.weightsEach,hk]);have s10:Sz 30 a10:=fun k hk=>hz k (by simp[DataW.weightsEach,hk]);have hr:reachBytes=140737488351232:=rfl;obtain⟨sh,rt1,sh1,sh2,_,sh4⟩:=Kw Qe aax Tryz.underlying24 (fun y hy _=>DS Tryz.underlying124 rfl rfl hy) u1 s1;obtain⟨it,rt7,it1,it2,_,it4⟩:=Kw Qm ani Tryz.underlying27 (fun y hy _=>aay hy) t7 s7;obtain⟨en,rt8,en1,en2,_,en4⟩:=Kw yF (fun q=>af2 q.1) Tryz.underlying28 (fun y hy hz=>BC hy hz) t8 s8;obtain⟨bk,rt9,bk1,bk2,_,bk4⟩:=Kw Xi ank Tryz.underlying29 (fun y hy _=>HD hy) t9 s9;obtain⟨cl,ayq,cl1,cl2,_,cl4⟩:=Kw Qg anj Tryz.underlying30 (fun y hy _=>yE hy) t10 s10;rw[aaB]at sh2;rw[LW]at it2;rw[af4]at en2;rw[aaz]at bk2;rw[aaA]at cl2;refine⟨(⟨m0,r.1,r.2,mo,sh,m3,m4,m5,m6,it,[],bk,cl⟩,en,rt1,rt7,rt8,rt9,ayq),⟨Yw w0,r1,r2,Yw wo,Yw w3,Yw w4,Yw w5,Yw w6,sh1,it1,?_,bk1,cl1,by simp only[LX];omega,by simp only[LX];omega,by simp only[LX,zzbw];omega,by simp only[LX];omega,by simp only[LX];omega⟩,?_⟩
 ·intro s hs;obtain⟨q,hq,rfl⟩:=zzan.1 hs;exact en1 q hq
 rw[Uv Tryz.underlying32];simp only[zzdj,zzeu,zzdx,zzeo];rw[Zf Tryz.underlying3,Zf Tryz.underlying3,Zf Tryz.underlying3,Zf Tryz.underlying3,Zf Tryz.underlying3,it4,en4,bk4,cl4,Uv Tryz.underlying26];simp only[zzdj,zzeu,zzdx,zzeo];rw[Zf Tryz.underlying3,sh4,at3];rfl
def aaD{H:Type}{x:DataW H}{n:Nat}(h:Typed Tryz.prog (n+6) 32 x)(hs:Sz 32 x):∃p:Pl,at2 p/\Wk (mh Tryz.prog (n+6) 32 x) (.agg (Qa p)):=by
 have bH:Jq Tryz.prog 32=true:=by unfold Jq;rw[Tryz.underlying32]
 obtain⟨q,h1,h2⟩:=aaC h hs;refine⟨LX q,h1,?_⟩;rw[Ov bH,h2];exact Qdq ⟨Ps,Ps,Ps,Ps,Wk.sl _ _,Ps,Ps,Ps,Ps,Wk.sl _ _,anl _ _,Wk.sl _ _,Wk.sl _ _,trivial⟩
def af5:Tryz.prog.bytesOf 53=232:=by kernel_rfl
structure af6 (o:Od):Prop where
 n:Zg o.n
 fr:Zg o.fr
 en:af2 o.nw
abbrev OdT:=Od×Rt
def yG(q:OdT):P2:=[I q.1.sq,I q.1.ch,I q.1.fr,I q.1.ki,I q.1.en,I q.1.n,I q.1.nw.id,I q.1.nw.it,I q.1.nw.fr,I q.1.nw.ea,I q.1.nw.la,I q.1.nw.bo,.sl q.2 (q.1.nw.al.map Qe),I q.1.cl.ki,I q.1.cl.it,I q.1.cl.fr,I q.1.cl.to,I q.1.cl.re,I q.1.cl.n,I q.1.cl.a,I q.1.cl.b,I q.1.cu.id,I q.1.cu.fr,I q.1.cu.to,I q.1.cu.pr,.str q.1.cu.tx]
def af7{H:Type}{x:DataW H}{n:Nat}(h:Typed Tryz.prog (n+2) 51 x):∃c:Cue,cB Tryz.prog (n+2) 51 x=Qh c:=by
 obtain⟨parts,rfl,aH,hp⟩:=Uw Tryz.underlying51 h;obtain⟨a0,a1,a2,a3,a4,rfl⟩:=OM aH;have t0:=hp (⟨ "ID",3,0,false, "", "",0⟩,a0) (by simp);have t1:=hp (⟨ "From",3,1,false, "", "",8⟩,a1) (by simp);have t2:=hp (⟨ "To",3,2,false, "", "",16⟩,a2) (by simp);have t3:=hp (⟨ "Priority",3,3,false, "", "",24⟩,a3) (by simp);have t4:=hp (⟨ "Text",9,4,false, "", "",32⟩,a4) (by simp);obtain⟨m0,rfl,w0⟩:=Xp Tryz.underlying3 t0;obtain⟨m1,rfl,w1⟩:=Xp Tryz.underlying3 t1;obtain⟨m2,rfl,w2⟩:=Xp Tryz.underlying3 t2;obtain⟨m3,rfl,w3⟩:=Xp Tryz.underlying3 t3;obtain⟨s,rfl,_⟩:=Ry Tryz.underlying9 t4;refine⟨⟨m0,m1,m2,m3,⟨s.toArray⟩⟩,?_⟩;rw[Uv Tryz.underlying51];simp only[zzdj,zzeu,zzdx,zzeo];rw[Zf Tryz.underlying3,Zf Tryz.underlying3,Zf Tryz.underlying3,Zf Tryz.underlying3,afz Tryz.underlying9];rfl
def af8{α:Type}{l:List α}(h:l.length=9):∃a0 a1 a2 a3 a4 a5 a6 a7 a8,l=[a0,a1,a2,a3,a4,a5,a6,a7,a8]:=by
 match l,h with
 |[a0,a1,a2,a3,a4,a5,a6,a7,a8],_=>exact⟨a0,a1,a2,a3,a4,a5,a6,a7,a8,rfl⟩
def BD{H:Type}{x:DataW H}{n:Nat}(h:Typed Tryz.prog (n+5) 53 x)(hs:Sz 53 x):∃q:OdT,af6 q.1/\cB Tryz.prog (n+5) 53 x=yG q:=by
 obtain⟨parts,rfl,aH,hp⟩:=Uw Tryz.underlying53 h;obtain⟨a0,a1,a2,a3,a4,a5,a6,a7,a8,rfl⟩:=af8 aH;have hz:=hs.agg Tryz.underlying53;have t0:=hp (⟨ "Seq",3,0,false, "", "",0⟩,a0) (by simp);have t1:=hp (⟨ "Channel",3,1,false, "", "",8⟩,a1) (by simp);have t2:=hp (⟨ "Frame",3,2,false, "", "",16⟩,a2) (by simp);have t3:=hp (⟨ "Kind",3,3,false, "", "",24⟩,a3) (by simp);have t4:=hp (⟨ "Entry",3,4,false, "", "",32⟩,a4) (by simp);have t5:=hp (⟨ "N",3,5,false, "", "",40⟩,a5) (by simp);have t6:=hp (⟨ "New",47,6,false, "", "",48⟩,a6) (by simp);have t7:=hp (⟨ "Clause",49,13,false, "", "",120⟩,a7) (by simp);have t8:=hp (⟨ "Cue",51,21,false, "", "",184⟩,a8) (by simp);obtain⟨m0,rfl,w0⟩:=Xp Tryz.underlying3 t0;obtain⟨m1,rfl,w1⟩:=Xp Tryz.underlying3 t1;obtain⟨m2,rfl,w2⟩:=Xp Tryz.underlying3 t2;obtain⟨m3,rfl,w3⟩:=Xp Tryz.underlying3 t3;obtain⟨m4,rfl,w4⟩:=Xp Tryz.underlying3 t4;obtain⟨m5,rfl,w5⟩:=Xp Tryz.underlying3 t5;have s6:Sz 47 a6:=fun k hk=>hz k (by simp[DataW.weightsEach,hk]);obtain⟨⟨e,rt⟩,e1,e2⟩:=BC t6 s6;obtain⟨c,c1,c2⟩:=yE t7;obtain⟨u,u2⟩:=af7 t8;refine⟨(⟨m0,m1,m2,m3,m4,m5,e,c,u⟩,rt),⟨Yw w5,Yw w2,e1⟩,?_⟩;rw[Uv Tryz.underlying53];simp only[zzdj,zzeu,zzdx,zzeo];rw[Zf Tryz.underlying3,Zf Tryz.underlying3,Zf Tryz.underlying3,Zf Tryz.underlying3,Zf Tryz.underlying3,Zf Tryz.underlying3,e2,c2,u2];rfl
def at4(q:OdT):Wk (.agg (yG q)) (.agg (Qq q.1)):=
 Qdq ⟨Ps,Ps,Ps,Ps,Ps,Ps,Ps,Ps,Ps,Ps,Ps,Ps,Wk.sl _ _,Ps,Ps,Ps,Ps,Ps,Ps,Ps,Ps,Ps,Ps,Ps,Ps,Ps,trivial⟩
def ann(l:List OdT)(rt:Rt):Wk (.sl rt (l.map yG)) (.sl .ro ((l.map (·.1)).map Qq)):=by
 refine Wk.trans (Wk.sl _ _) ?_;rw[zzcw];refine Wk.rows l yG (Qq ∘ (·.1)) (fun _=>rfl) fun a j c' h=>?_
 match j,h with
 |0,h=>exact⟨_,rfl,by cases h;exact Ps⟩
 |1,h=>exact⟨_,rfl,by cases h;exact Ps⟩
 |2,h=>exact⟨_,rfl,by cases h;exact Ps⟩
 |3,h=>exact⟨_,rfl,by cases h;exact Ps⟩
 |4,h=>exact⟨_,rfl,by cases h;exact Ps⟩
 |5,h=>exact⟨_,rfl,by cases h;exact Ps⟩
 |6,h=>exact⟨_,rfl,by cases h;exact Ps⟩
 |7,h=>exact⟨_,rfl,by cases h;exact Ps⟩
 |8,h=>exact⟨_,rfl,by cases h;exact Ps⟩
 |9,h=>exact⟨_,rfl,by cases h;exact Ps⟩
 |10,h=>exact⟨_,rfl,by cases h;exact Ps⟩
 |11,h=>exact⟨_,rfl,by cases h;exact Ps⟩
 |12,h=>exact⟨_,rfl,by cases h;exact Wk.sl _ _⟩
 |13,h=>exact⟨_,rfl,by cases h;exact Ps⟩
 |14,h=>exact⟨_,rfl,by cases h;exact Ps⟩
 |15,h=>exact⟨_,rfl,by cases h;exact Ps⟩
 |16,h=>exact⟨_,rfl,by cases h;exact Ps⟩
 |17,h=>exact⟨_,rfl,by cases h;exact Ps⟩
 |18,h=>exact⟨_,rfl,by cases h;exact Ps⟩
 |19,h=>exact⟨_,rfl,by cases h;exact Ps⟩
 |20,h=>exact⟨_,rfl,by cases h;exact Ps⟩
 |21,h=>exact⟨_,rfl,by cases h;exact Ps⟩
 |22,h=>exact⟨_,rfl,by cases h;exact Ps⟩
 |23,h=>exact⟨_,rfl,by cases h;exact Ps⟩
 |24,h=>exact⟨_,rfl,by cases h;exact Ps⟩
 |25,h=>exact⟨_,rfl,by cases h;exact Ps⟩
 |j+26,h=>simp[Qq,Qd,Qg,Qh]at h
def LY{H:Type}{x:DataW H}{n:Nat}(h:Typed Tryz.prog (n+6) 33 x)(hs:Sz 33 x):∃l:List Od,(∀o∈l,af6 o)/\l.length<=1000000000000/\Wk (mh Tryz.prog (n+6) 33 x) (.sl .ro (l.map Qq)):=by
 have bH:Jq Tryz.prog 33=false:=by unfold Jq;rw[Tryz.underlying33]
 obtain⟨l,rt,l1,l2,_,l4⟩:=Kw yG (fun q=>af6 q.1) Tryz.underlying33 (fun y hy hz=>BD hy hz) h hs;rw[af5]at l2;have hr:reachBytes=140737488351232:=rfl;refine⟨l.map (·.1),fun p hp=>?_,by rw[zzbw];omega,by rw[afB bH l4];exact ann l rt⟩;obtain⟨q,hq,rfl⟩:=zzan.1 hp;exact l1 q hq
def RY{H:Type}{x:DataW H}{n:Nat}(h:Typed Tryz.prog (n+5) 53 x)(hs:Sz 53 x):∃o:Od,af6 o/\Wk (mh Tryz.prog (n+5) 53 x) (.agg (Qq o)):=by
 have bH:Jq Tryz.prog 53=true:=by unfold Jq;rw[Tryz.underlying53]
 obtain⟨q,h1,h2⟩:=BD h hs;exact⟨q.1,h1,by rw[Ov bH,h2];exact at4 q⟩
def dI:AV->Int
 |.int _ n=>n
 |_=>0
def dR:AV->T5
 |.sl _ r=>r
 |_=>[]
def dN(l:P2)(i:Nat):AV:=l.getD i .junk
def dSp(l:P2):Sp:=(dI (dN l 0),dI (dN l 1))
def dIt(l:P2):It:=⟨dI (dN l 0),dI (dN l 1),dI (dN l 2),dI (dN l 3),dI (dN l 4)⟩
def dCl(l:P2):Cl:=⟨dI (dN l 0),dI (dN l 1),dI (dN l 2),dI (dN l 3),dI (dN l 4),dI (dN l 5),dI (dN l 6),dI (dN l 7)⟩
def dEn(l:P2):En:=⟨dI (dN l 0),dI (dN l 1),dI (dN l 2),dI (dN l 3),dI (dN l 4),dI (dN l 5),(dR (dN l 6)).map dSp⟩
def dBk(l:P2):Bk:=⟨dI (dN l 0),dI (dN l 1),dI (dN l 2),dI (dN l 3),dI (dN l 4),dI (dN l 5),dI (dN l 6)⟩
def dPl(l:P2):Pl:=⟨dI (dN l 0),dI (dN l 1),dI (dN l 2),dI (dN l 3),(dR (dN l 4)).map dSp,dI (dN l 5),dI (dN l 6),dI (dN l 7),dI (dN l 8),(dR (dN l 9)).map dIt,(dR (dN l 10)).map dEn,(dR (dN l 11)).map dBk,(dR (dN l 12)).map dCl⟩
def Qeb{α:Type}{f:α->P2}{g:P2->α}(h:∀a,g (f a)=a)(l:List α):(l.map f).map g=l:=by
 rw[zzcw]
 conv=>rhs;rw[<- List.map_id l]
 exact zzcs fun a _=>h a
theorem DT(s:Sp):dSp (Qe s)=s:=rfl
def ON(e:En):dEn (Qd e)=e:=by
 show(⟨e.id,e.it,e.fr,e.ea,e.la,e.bo,(e.al.map Qe).map dSp⟩:En)=e;rw[Qeb DT]
def OO(p:Pl):dPl (Qa p)=p:=by
 show(⟨p.ch,p.nu,p.de,p.of,(p.sh.map Qe).map dSp,p.ep,p.rg,p.ln,p.fi,(p.aM.map Qm).map dIt,(p.ens.map Qd).map dEn,(p.bks.map Xi).map dBk,(p.cls.map Qg).map dCl⟩:Pl)=p;rw[Qeb DT,Qeb (fun _=>rfl),Qeb ON,Qeb (fun _=>rfl),Qeb (fun _=>rfl)]
def dEv(l:P2):aW:=⟨dI (dN l 0),dI (dN l 1),dI (dN l 2),dI (dN l 3),dI (dN l 4),dI (dN l 5),(dR (dN l 6)).map dSp,false⟩
def dS:AV->ByteArray
 |.str s=>s
 |_=>⟨#[]⟩
def dCu(l:P2):Cue:=⟨dI (dN l 0),dI (dN l 1),dI (dN l 2),dI (dN l 3),dS (dN l 4)⟩
def dPg(l:P2):Pg:=⟨dPl l,(dR (dN l 13)).map dEv,(dR (dN l 14)).map dCu,dI (dN l 15),(dR (dN l 16)).map fun r=>dI (dN r 0),dI (dN l 17)⟩
def af9(l:List aW):(l.map Qf).map dEv=l.map zk:=by
 rw[zzcw];refine zzcs fun e _=>?_;show(⟨e.id,e.it,e.st,e.fr,e.i,e.re,(e.al.map Qe).map dSp,false⟩:aW)=zk e;rw[Qeb DT];rfl
def aga(g:Pg):dPg (Qk g)=fS g:=by
 show(⟨dPl (Qa g.p),(g.ev.map Qf).map dEv,(g.cu.map Qh).map dCu,g.ed,(g.dr.map Qz).map (fun r=>dI (dN r 0)),g.ve⟩:Pg)=fS g;rw[OO,af9,Qeb (fun _=>rfl),Qeb (fun _=>rfl)];rfl
def dOd(l:P2):Od:=⟨dI (dN l 0),dI (dN l 1),dI (dN l 2),dI (dN l 3),dI (dN l 4),dI (dN l 5),dEn (l.drop 6),dCl (l.drop 13),dCu (l.drop 21)⟩
def OP(o:Od):dOd (Qq o)=o:=by
 show(⟨o.sq,o.ch,o.fr,o.ki,o.en,o.n,dEn (Qd o.nw),o.cl,o.cu⟩:Od)=o;rw[ON]
