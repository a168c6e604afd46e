import Derived.Test.YthjppoincojfkaaGreatDoorRPRqG
set_option linter.all false
set_option maxRecDepth 100000
set_option maxHeartbeats 64000000
namespace Go.Proofs.YthjppoincojfkaaGreatDoor
open Go Go.Abs
def anD{re:Int}{r:Nat}(h:(re.fdiv (2 ^ min r IntKind.i64.bits)).tmod 2=1):RN re (r:Int)=true:=by
 unfold RN;rw[decide_eq_true_eq,zzgl];have h:(re.fdiv (2 ^ min r 64)).tmod 2=1:=h;generalize re.fdiv (2 ^ min r 64)=x at*
 rw[Int.tmod_eq_emod]at h;split at h<;>omega
def yL(q:Pl)(L:List Od)(E:Pi):UV:=fun _ f l=>if f=11 then .bool true else if f=12 then .sl .ro (L.map Qq)else if f=14 then .agg (Qa q)else if f=13 then .sl .ro ((DW q L).map Qm)else if f=16 then .sl .ro (E.map Qy)else if f=17 then(match l with
 |[.agg a,.int _ id]=>Zj (Xj id (dPl a).aM)
 |_=>.junk)else if f=18 then(match l with
 |[.agg a,.int _ id,.int _ r,.int _ x,.int _ n]=>.bool (Xd (dPl a) id r x n)
 |_=>.junk)else .junk
def ayB(n:Nat)(f:Nat->AV)(m:AM):Prop:=∃(i:Nat)(bx:T5),f 8=I i/\i<=n/\m=⟨bx,[],fun _=>.gone,0⟩
def auk(bx:T5)(g:Pg)(f:Nat->AV)(m:AM):Prop:=∃(k:Nat)(bx2:T5),f 10=I k/\k<=g.ev.length/\m=⟨bx++(Qa g.p::bx2),[],fun _=>.gone,0⟩
def aju(s n:Nat)(M:AM)(f:Nat->AV)(m:AM):Prop:=∃(j:Nat),f s=I j/\j<=n/\m=M
def law5(p:Pl)(l:List Od)(hp:(∀e∈p.ens,e.al.length<=8796093022208)/\∀e∈p.ens,e.ea<=9223372036854775807)(hl:l.length<=1000000000000):Pure Tryz.prog aD 5 [.agg (Qa p),.sl .ro (l.map Qq)] (.bool true):=by
 have k11:=anB;have k14:=Lu p;have k12:=L6 l hl;have hL:=aaE l;have hLo:=af4 l;have Wf:=HH 8 l 0;have Wf:(DU l).Pairwise fun a b=>a.fr<=100000000->a.fr<=b.fr:=Wf;generalize DU l=L at*
 have hq:PlL (Rg p):=anC hp;have k13:=aaI (Rg p) L hq hL (fun o ho=>(hLo o ho).1);generalize Rg p=q at*
 have hC:=fun i g h=>aaF hq.sh hL i g h;simp only[Qa]at k13 k14;by_cases hb:zV q=0
 ·have FF:DW q L=dZ (Yv q)::Ka (dZ (Yv q)) L:=by unfold DW;rw[if_pos hb]
  have k16:=RW _ L _ FF hC hL (fun o ho=>(hLo o ho).1)
  have hP:∀(i:Nat)(g:Pg)(F:Int),(DW q L)[i]?=some g->(0::j6 (dZ (Yv q)) 0 L)[i]?=some F->DR g F/\0<=F/\F<=100000000:=by
   intro i g F h1 h2;rw[FF]at h1;exact OP (k:=0) ⟨(uU hq.sh hb).dZ,uW _⟩ (af1 hb).dZ zE zE (fun o ho=>(hLo o ho).2) Wf i g F h1 h2
  have hEl:(0::j6 (dZ (Yv q)) 0 L).length=(DW q L).length:=by rw[FF,zzaz,zzaz,HM,lz]
  have aO:DW q L≠[]:=by rw[FF];simp
  have hCl:(DW q L).length<=9:=by rw[FF,zzaz,lz];omega
  generalize 0::j6 (dZ (Yv q)) 0 L=E at*
  clear FF;refine Qp agr (yL q L E) zd ?_;generalize hCx:DW q L=C at*
  simp[sc5,Qa,yL,hCx,aO];refine⟨k11,k12,k14,k13,k16,?_⟩;refine Qi ajD (ayB C.length) (fun f _=>C.length-(numOf (f 8)).toNat) ?_ ?_
  ·exact⟨0,_,zd,zE,rfl⟩
  rintro f m ⟨i,bx,f8,hi,rfl⟩;rcases zzaa i C.length with ai|bq
  ·have aa:(i:Int)<(C.length:Int):=zE
   have hw:IntKind.i64.wrap ((i:Int)+1)=(i:Int)+1:=by rw[Ql]<;>omega
   obtain⟨g,hg⟩:=aV ai;obtain⟨F,hF⟩:∃F,E[i]?=some F:=⟨_,zzaf zE⟩;have SL:=hC i g hg;obtain⟨hPr,F0,F1⟩:=hP i g F hg hF;have PZ:=SL.ok.small.1;have dD:=SL.ok.ln;have IJ:=(nS SL.ok.v).rg;have hiE:i<E.length:=zE
   have r1:Qh (C.map Qm) i=Qm g:=Qu (by simp[hg]);have r3:Qh (E.map Qy) i=[I F]:=Qu (by simp[hF,Qy]);have P5:=DP g.p;have k18:=fun id r f n=>Qbh g.p id r f n (by have:=SL.ok.cls;omega) (by have:=SL.ok.sh;omega) (by have:=SL.ok.aM;omega);have k17:=fun id=>BD g.p id (by have:=SL.ok.aM;omega);simp only[Qa,Qm,zzae,zzai]at r1 P5 k17 k18;simp[f8,ajD,aa,r1];refine Qi abn (auk bx g) (fun f _=>g.ev.length-(numOf (f 10)).toNat) ?_ ?_
   ·exact⟨0,[],zd,zE,by simp[Qa]⟩
   rintro f2 m2 ⟨k,bx2,f10,hk,rfl⟩;rcases zzaa k g.ev.length with qv|hkg
   ·have C0:(k:Int)<(g.ev.length:Int):=zE
    have KD:IntKind.i64.wrap ((k:Int)+1)=(k:Int)+1:=by rw[Ql]<;>omega
    obtain⟨e,he⟩:=aV qv;have hem:=zzad he;have r2:Qh (g.ev.map Qe) k=Qe e:=Qu (by simp[he]);obtain⟨⟨s1,s2⟩,⟨s3,s4⟩,_,sal⟩:=SL.ok.small.2 e hem;have hma:=(SL.ok.ch.mem e hem).2.2;obtain⟨X,hX⟩:∃X,(if e.st<F then F else e.st)=X:=⟨_,rfl⟩;have hXF:F<=X/\e.st<=X/\0<=X/\X<=100000000:=by rw[<- hX];split<;>omega
    have hwa:IntKind.i64.wrap (e.st+e.fr)=e.st+e.fr:=by rw[Ql]<;>omega
    have hwn:IntKind.i64.wrap (e.st+e.fr-X)=e.st+e.fr-X:=by rw[Ql]<;>omega
    simp only[Qe]at r2;by_cases hn:e.st+e.fr-X<=0
    ·simp[f8,f10,abn,aa,r1,r2,r3,hiE,C0,KD,hX,hwa,hwn,hn,Qa]
     repeat' first
      |omega
      |exact⟨k+1,bx2++[Qe e],zd,zE,by simp[Qa,Qe]⟩
      |exact Qb _ _
      |refine Qc _ rfl ?_
      |refine ag ?_
      |refine And.intro ?_ ?_
    obtain⟨y,hy,_⟩:=hPr.ne e hem X hXF.1 hXF.2.1 zE;have k17:=k17 e.it;rw[hy]at k17;simp only[Zj,Qj]at k17;obtain⟨n,vJ⟩:∃n,e.st+e.fr-X=n:=⟨_,rfl⟩;have Fs:1<=n/\n<=1000000:=zE
    have hXn:X+n=e.st+e.fr:=zE
    have hy':∀z,Xj e.it g.p.aM=some z->z=y:=fun z hz=>by rw[hy]at hz;exact(Option.some.inj hz).symm
    have ZM:y.ki≠5->Xd g.p e.it 0 X n=true:=fun h5=>HE (fun x h1 h2=>hPr.ne e hem x zE zE zE) (fun z hz=>by rw[hy' z hz];exact h5) Fs zE;have har:y.ki≠5->∀r:Nat,RN e.re (r:Int)=true->Xd g.p e.it (r:Int) X n=true:=fun h5 r hr=>HE (fun x h1 h2=>(hPr.re e hem x zE zE zE).1 r zE hr) (fun z hz=>by rw[hy' z hz];exact h5) Fs zE;have haa:∀a∈e.al,Xd g.p a.2 a.1 X n=true:=fun a ha=>(Jt _ _ _ _ _).2 ⟨zE,fun x h1 h2=>hPr.al e hem a ha x zE zE zE⟩;rw[vJ]at hwn hn;simp[f8,f10,abn,aa,r1,r2,r3,hiE,C0,KD,hX,hwa,hwn,vJ,hn,Qa,yL,P5,hy,Zj,Qj,Qe];refine⟨k17,fun _=>k18 e.it 0 X n,?_⟩;rw[if_neg (fun hx=>by rw[ZM hx.1]at hx;cases hx.2)];refine Qi ajE (aju 16 g.p.rg.toNat ⟨bx++(Qa g.p::(bx2++[Qe e,Qj y])),[],fun _=>.gone,0⟩) (fun f _=>g.p.rg.toNat-(numOf (f 16)).toNat) ?_ ?_
    ·exact⟨0,zd,zE,by simp[Qa,Qe,Qj]⟩
    rintro f3 m3 ⟨r,f16,hr,rfl⟩;rcases zzaa r g.p.rg.toNat with hrl|hrg2
    ·have anE:(r:Int)<g.p.rg:=zE
     have pK:IntKind.i64.wrap ((r:Int)+1)=(r:Int)+1:=by rw[Ql]<;>omega
     simp[f16,ajE,anE,pK,Qa,Qj,Qe,yL,P5];refine⟨fun _ _=>k18 e.it r X n,?_⟩;rw[if_neg (fun hx=>by rw[har hx.1.2 r (anD hx.1.1)]at hx;cases hx.2)]
     repeat' first
      |omega
      |exact⟨r+1,zd,zE,by simp[Qa,Qe,Qj]⟩
      |exact Qb _ _
      |refine Qc _ rfl ?_
      |refine ag ?_
      |refine And.intro ?_ ?_
    have anE:¬(r:Int)<g.p.rg:=zE
    simp[f16,ajE,anE,Qa,Qj,Qe];refine Qi ajF (aju 17 e.al.length ⟨bx++(Qa g.p::(bx2++[Qe e,Qj y])),[],fun _=>.gone,0⟩) (fun f _=>e.al.length-(numOf (f 17)).toNat) ?_ ?_
    ·exact⟨0,zd,zE,by simp[Qa,Qe,Qj]⟩
    rintro f4 m4 ⟨j,f17,hj,rfl⟩;rcases zzaa j e.al.length with gK|hjg
    ·have dH:(j:Int)<(e.al.length:Int):=zE
     have tU:IntKind.i64.wrap ((j:Int)+1)=(j:Int)+1:=by rw[Ql]<;>omega
     obtain⟨a,ha⟩:=aV gK;have ra:Qh (e.al.map Qf) j=Qf a:=Qu (by simp[ha]);have hax:=haa a (zzad ha);have aul:=k18 a.2 a.1 X n;rw[hax]at aul;simp only[Qf]at ra;simp[f17,ajF,dH,tU,ra,Qa,Qj,Qe,yL,P5,hax]
     repeat' first
      |exact aul
      |omega
      |exact⟨j+1,zd,zE,by simp[Qa,Qe,Qj]⟩
      |exact Qb _ _
      |refine Qc _ rfl ?_
      |refine ag ?_
      |refine And.intro ?_ ?_
    have dH:¬(j:Int)<(e.al.length:Int):=zE
    simp[f17,f10,ajF,dH,KD,Qa,Qj,Qe]
    repeat' first
     |omega
     |exact⟨k+1,bx2++[Qe e,Qj y],zd,zE,by simp[Qa,Qe,Qj]⟩
     |exact Qb _ _
     |refine Qc _ rfl ?_
     |refine ag ?_
     |refine And.intro ?_ ?_
   have C0:¬(k:Int)<(g.ev.length:Int):=zE
   simp[f8,f10,abn,aa,r1,C0,hw,Qa]
   repeat' first
    |omega
    |exact⟨i+1,_,zd,zE,rfl⟩
    |exact Qb _ _
    |refine Qc _ rfl ?_
    |refine ag ?_
    |refine And.intro ?_ ?_
  have aa:¬(i:Int)<(C.length:Int):=zE
  simp[f8,ajD,aa,rs5]
 have FF:DW q L=[]:=by unfold DW;rw[if_neg hb]
 rw[FF]at k13;refine Qp agr (yL q L []) zd ?_;simp[sc5,rs5,Qa,yL,FF];exact⟨k11,k12,k14,k13⟩
