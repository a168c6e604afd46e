import Derived.Test.YthjppoincojfkaaGreatDoorRARpE
set_option linter.all false
set_option maxRecDepth 100000
set_option maxHeartbeats 64000000
namespace Go.Proofs.YthjppoincojfkaaGreatDoor
open Go Go.Abs
def BH(q:Pl)(L:List Od):UV:=fun _ f l=>if f=11 then .bool true else if f=12 then .sl .ro (L.map Qq)else if f=14 then .agg (Qa q)else if f=13 then .sl .ro ((u9 q L).map Qh)else if f=24 then(match l with
 |[.agg b]=>.agg (Qq (j7 (dOd b)))
 |_=>.junk)else if f=25 then(match l with
 |[.agg a,.agg b]=>.agg (Qh (Xq (dPg a) (dOd b)))
 |_=>.junk)else if f=26 then .bool true else if f=27 then .bool true else if f=23 then .bool true else .junk
def law8(p:Pl)(l:List Od)(c o:Od)(hp:(∀e∈p.ens,e.al.length<=8796093022208)/\∀e∈p.ens,e.ea<=9223372036854775807)(hl:l.length<=1000000000000):Pure Tryz.prog aD 8 [.agg (Qa p),.sl .ro (l.map Qq),.agg (Qq c),.agg (Qq o)] (.bool true):=by
 have OH:=DX;have L3:=Qea p;have IJ:=Qeg (l.take 6) (by simp;omega);have hL:=qi (l.take 6);have hLo:=va (l.take 6);generalize yR (l.take 6)=L at*
 have hq:PlL (zj p):=DY hp;have Ef:=qj (zj p) L hq hL (fun o ho=>(hLo o ho).1);generalize zj p=q at*
 have t1:List.take (if(6:Int)<(l.length:Int)then(6:Int)else(l.length:Int)).toNat (l.map Qq)=(l.take 6).map Qq:=by
  have:=Qdy (l.map Qq) 6;rw[zzbt]at this;rw[zzgf];exact this
 have a1:=th (a:=l.length) 6;have b1:=tj (a:=l.length) 6;simp at a1 b1;refine Qo aod (BH q L) zd ?_;simp only[Qa]at Ef L3;have aH:=vf q L;have kc:=aan c;have ko:=aan o;have hdc:=Qep c;have sD:=Qep o;have hcO:qf (j7 c):=by simp[qf,j7];omega
 have hoO:qf (j7 o):=by simp[qf,j7];omega
 generalize hC1:j7 c=cc at*
 generalize hO1:j7 o=oo at*
 have hC:=fun i g h=>yS hq.sh hL i g h;generalize hCc:u9 q L=C at*
 simp only[Qq,Qd,Qg,Qi,zzad,zzai]at kc ko hdc sD;have IJ:Pure Tryz.prog aD 12 [.sl .ro (List.take 6 (l.map Qq))] (.sl .ro (L.map Qq)):=by rw[<- zzgf];exact IJ
 rcases C.eq_nil_or_concat with hn|⟨C',g,hCg⟩
 ·subst hn;simp[sc8,rs8,Qa,Qq,Qd,Qg,Qi,BH,t1,a1,b1,hCc,hdc,sD,hC1,hO1]
  repeat' first
   |exact OH
   |exact IJ
   |exact Ef
   |exact L3
   |exact kc
   |exact ko
   |omega
   |refine And.intro ?_ ?_
 have hN:C.length=C'.length+1:=by rw[hCg];simp
 have hg:=hC C'.length g (by rw[hCg];simp);have hCl:C.length<=9:=by split at aH<;>omega
 have r1:Qj (C.map Qh) C'.length=Qh g:=Qu (by rw[hCg];simp);have hwl:IntKind.i64.wrap ((C.length:Int)-1)=(C'.length:Int):=by rw[Ql]<;>omega
 have aO:¬C=[]:=by rw[hCg];simp
 have ai:C'.length<C.length:=zE
 generalize C'.length=N at*
 by_cases eC:cc.ki=5
 ·rw[eC]at kc;by_cases bU:oo.ki=5
  ·rw[bU]at ko;simp only[Qa,Qh,zzad,zzai]at r1;simp[sc8,rs8,Qa,Qq,Qd,Qg,Qi,BH,t1,a1,b1,hCc,hdc,sD,hC1,hO1,aO,eC,bU]
   repeat' first
    |exact OH
    |exact IJ
    |exact Ef
    |exact L3
    |exact kc
    |exact ko
    |omega
    |refine And.intro ?_ ?_
  obtain⟨x1,x2,x3,x4⟩:=aam cc oo hg.nn eC bU;have g1:=hg.step (o:=cc) zE;have g2:=hg.step (o:=oo) zE;have g3:=g2.step (o:=cc) zE;have k1:=Jv g cc (mO hg.ok zE hcO);have k2:=Jv (Xq g cc) oo (mO g1.ok zE hoO);have k3:=Jv g oo (mO hg.ok zE hoO);have k4:=Jv (Xq g oo) cc (mO g2.ok zE hcO);rw[<- Qef]at k1 k2 k3 k4;have RK:dPg (Qh g)=g:=by rw[qd,hg.nn]
  have Sg:dPg (Qh (Xq g cc))=Xq g cc:=by rw[qd,g1.nn]
  have W8:dPg (Qh (Xq g oo))=Xq g oo:=by rw[qd,g2.nn]
  have afK:=Qep cc;have amY:=Qep oo;have k26:=Z8 g.ev (by have:=hg.ok.small.1;omega) (fun e he=>(hg.ok.small.2 e he).2.2.2);have k27:=Z9 g (hg.ok.sm zE);rw[x1]at k2;have k23:=LR (Xq (Xq g oo) cc) (g3.ok.sm zE);generalize hh1:Xq g cc=h1 at*
  generalize hh2:Xq g oo=h2 at*
  generalize hh3:Xq h2 cc=h3 at*
  clear g1 g2 g3;simp only[Qa,Qh,Qq,Qd,Qg,Qi,zzad,zzai,x2,x3]at r1 k1 k2 k3 k4 k26 k27 k23 RK Sg W8 afK amY;rw[eC]at k1 k4 afK;by_cases hE:h1.ed=g.ed
  ·rw[hE]at k1 k2 Sg;simp[sc8,rs8,Qa,Qh,Qq,Qd,Qg,Qi,BH,t1,a1,b1,hCc,hdc,sD,hC1,hO1,aO,eC,bU,r1,hwl,RK,Sg,W8,afK,amY,hh1,hh2,hh3,x1,x2,x3,hE]
   repeat' first
    |exact OH
    |exact IJ
    |exact Ef
    |exact L3
    |exact kc
    |exact ko
    |exact k1
    |exact k2
    |exact k3
    |exact k4
    |exact k26
    |exact k27
    |exact k23
    |omega
    |refine And.intro ?_ ?_
  have hE2:h1.ed=cc.fr:=x4.resolve_left hE;rw[hE2]at hE k1 k2 Sg;simp[sc8,rs8,Qa,Qh,Qq,Qd,Qg,Qi,BH,t1,a1,b1,hCc,hdc,sD,hC1,hO1,aO,eC,bU,r1,hwl,RK,Sg,W8,afK,amY,hh1,hh2,hh3,x1,x2,x3,hE,hE2]
  repeat' first
   |exact OH
   |exact IJ
   |exact Ef
   |exact L3
   |exact kc
   |exact ko
   |exact k1
   |exact k2
   |exact k3
   |exact k4
   |exact k26
   |exact k27
   |exact k23
   |omega
   |refine And.intro ?_ ?_
 simp only[Qa,Qh,zzad,zzai]at r1;simp[sc8,rs8,Qa,Qq,Qd,Qg,Qi,BH,t1,a1,b1,hCc,hdc,sD,hC1,hO1,aO,eC]
 repeat' first
  |exact OH
  |exact IJ
  |exact Ef
  |exact L3
  |exact kc
  |exact ko
  |omega
  |refine And.intro ?_ ?_
