import Derived.Test.YthjppoincojfkaaGreatDoorRAMbN
set_option linter.all false
set_option maxRecDepth 100000
set_option maxHeartbeats 64000000
namespace Go.Proofs.YthjppoincojfkaaGreatDoor
noncomputable section
open Go Go.Abs
def Ab(x:Int):Pi->Nat->Int
 |[],_=> -1
 |a::r,i=>if x=a then i else Ab x r (i+1)
def G3(x:Int):∀(L:Pi)(i:Nat),(0<=Ab x L i)=(x∈L)
 |[],i=>by simp[Ab]
 |a::r,i=>by
  unfold Ab;by_cases h:x=a
  ·rw[if_pos h];simp[h]
  rw[if_neg h,G3 x r (i+1)];simp[h]
def ZN(L:Pi)(x:Int)(hl:L.length<=1000000000):Pure Tryz.prog aD 162 [.sl .ro (L.map Xa),I x] (I (Ab x L 0)):=by
 refine Qo acp (fun _ _ _=>.junk) zd ?_;simp[agP];refine Qk B9 (fun f m=>∃i:Nat,f 8=I i/\i<=L.length/\Ab x (L.drop i) i=Ab x L 0/\m=⟨[],[],fun _=>.gone,0⟩) (fun f _=>L.length-(numOf (f 8)).toNat) ?_ ?_
 ·exact⟨0,zd,zE,zd,rfl⟩
 rintro f m ⟨i,f8,hi,hr,rfl⟩;rcases zzaa i L.length with ai|bn
 ·obtain⟨a,ha⟩:=aV ai;have ah:Qj (L.map Xa) i=[I a]:=Qu (by simp[ha,Xa]);have aa:(i:Int)<(L.length:Int):=zE
  have hw:=bO i zE;have hd:L.drop i=a::L.drop (i+1):=by rw[zzag ai,(zza.1 ha).2]
  rw[hd,Ab]at hr;by_cases hP:x=a
  ·rw[if_pos hP]at hr;simp[f8,B9,TL,aa,ah,hP];rw[<- hP];exact hr
  rw[if_neg hP]at hr;simp[f8,B9,aa,ah,hP,hw];refine⟨aQ,⟨i+1,zd,zE,hr⟩,zE⟩
 obtain rfl:i=L.length:=zE
 rw[zzbv,Ab]at hr;simp[f8,B9,TL];exact hr
def jX(L:Pi)(x:Int)(hl:L.length<=1000000000):Pure Tryz.prog aD 107 [.sl .ro (L.map Xa),I x] (.bool (decide (x∈L))):=by
 have k:=ZN L x hl;refine Qo abE (fun _ _ _=>I (Ab x L 0)) zd ?_;simp[aga,agb];refine⟨k,?_⟩;simp[<- G3 x L 0]
def DF(e:bC)(id:Int):Pure Tryz.prog aD 152 [.agg (Qf e),.ep [I id] 0] (.bool (decide (e.id=id))):=by
 refine Qo ach (fun _ _ _=>.junk) zd ?_;simp[agL,agM,Qf];rw[zzcz];simp
def Lu(g:Pg)(id:Int):Bool:=(g.ev.find? (fun e=>decide (e.id=id))).isSome
def DG(L:List bC)(id:Int)(hl:L.length<=1000000000):Pure Tryz.prog aD 151 [.sl .ro (L.map Qf),.fn 152 [] [.ep [I id] 0]] (.bool (L.find? (fun e=>decide (e.id=id))).isSome):=by
 have k:=yo L (fun e=>decide (e.id=id)) 152 [] [.ep [I id] 0] hl (fun _=>rfl) (fun _=>zd) (fun e _=>DF e id) (fun _ _ xs=>match xs with|.agg (.int _ n::_)::_=>.bool (decide (n=id))|_=>.junk) (fun _ e _=>rfl);refine Qo acg (fun _ _ _=>I (Uu (fun e=>decide (e.id=id)) L 0)) zd ?_;cases hf:L.find? (fun e=>decide (e.id=id))with
 |none=>
  rw[Qde hf]at k |-
  simp[TG,TH];exact k
 |some e=>
  obtain⟨n,g1,_,_⟩:=Wj (i:=0) hf;rw[g1,zzbs]at k |-
  simp[TG,TH];exact k
def p7(g:Pg)(o:Od):Bool:=!Lu g o.nw.id&&(decide (Je g o.nw.id<0)&&!decide (o.nw.id∈g.dr))
def Lv(Y:YT)(m:AM)(g:Pg)(f:Int)(mid:Nat)(o:Od)(q:Pl)(V:AV)(rt:Rt)(d:Int)(hV:mH m.boxes V q.ens)(h:lQ g f)(hd:g.dr.length<=1000000000):
  aB Tryz.prog aD Y 94 [.agg (Qr g f mid),.agg (Qq o),.agg (Xt q V (.sl rt (q.cls.map Qg)) d)] m (fun r m'=>m'=m/\r=.bool (p7 g o)):=by
 obtain⟨mb,ml,ms,mn⟩:=m;have hc:=hV.cell;have k:=fun ex K hK=>Lo Y ⟨mb++ex,ml,ms,mn⟩ g f mid o.nw.id h K hK;simp only[Qr,Qh,Qa,zzad,zzai]at k;have k1:=DG g.ev o.nw.id h.1;have k2:=jX g.dr o.nw.id hd;refine aB.read (Xn akB (fun _ f _=>if f=151 then .bool (Lu g o.nw.id)else if f=107 then .bool (decide (o.nw.id∈g.dr))else .gd false .junk) zd ?_);cases hh:Lu g o.nw.id with
 |true=>
  unfold Lu at hh;rw[hh]at k1;simp[akz,akA,Qr,Qh,Qa,Qq,Qd,Qg,Qi,Xt,hc,p7,Lu,hh];exact⟨k1,nU⟩
 |false=>
  unfold Lu at hh;rw[hh]at k1;simp[akz,akA,Qr,Qh,Qa,Qq,Qd,Qg,Qi,Xt,hc,p7,Lu,hh];refine⟨k1,k _ _ ?_⟩;by_cases hp:Je g o.nw.id<0
  ·simp[hp];exact⟨k2,nU⟩
  simp[hp];exact nU
open Go Go.Abs
def yx:En:=⟨0,0,0,0,0,0,[]⟩
def Qcf(g:Pg)(f:Int)(b:QR)(o:Od)(q:Pl)(d:Int):Bool:=
 if DA g f b o.en=true then false
 else if o.en∈g.dr then false
 else if d<1 then false
 else match Xk ((Zh o.en q.ens).getD yx).it q.aN with
  |none=>false
  |some x=>if x.ki≠4 then false
   else match Bv g f b o.en with
    |none=>true
    |some st=>if q.ln-d<st then false else if st+d-f=0 then true else Xy q ((Zh o.en q.ens).getD yx).it 0 f (st+d-f)
def G4(g:Pg)(F:Int)(b:QR)(o:Od)(q:Pl)(d:Int):UV:=fun _ f _=>if f=107 then .bool (decide (o.en∈g.dr))else if f=18 then .bool (Xy q ((Zh o.en q.ens).getD yx).it 0 F ((Bv g F b o.en).getD 0+d-F))else .gd false .junk
def Ri(Y:YT)(m:AM)(q:Pl)(V:AV)(rt:Rt)(id:Int)(hc:Qx V=true)(hl:q.aN.length<=1000000000):
  aB Tryz.prog aD Y 17 [.agg (Jf q V (.sl rt (q.cls.map Qg))),I id] m (fun r m'=>m'=m/\r=Zq (Xk id q.aN)):=by
 obtain⟨mb,ml,ms,mn⟩:=m;have h:=xF q.aN id hl;refine aB.read (Xn SG (fun _ f l=>if f=36 then Zq (Xk id q.aN)else .junk) zd ?_);cases hf:Xk id q.aN with
 |none=>
  rw[hf]at h;simp[SE,SF,Jf,hc,Zq];exact⟨h,nU⟩
 |some x=>
  rw[hf]at h;simp[SE,SF,Jf,hc,Zq,Qm];exact⟨h,nU⟩
def amr(Y:YT)(m:AM)(q:Pl)(V:AV)(rt:Rt)(id:Int)(hc:Qx V=true)(hl:q.aN.length<=1000000000)(K:So)(hK:K (Zq (Xk id q.aN)) m):
  aB Tryz.prog aD Y 17 [.agg (Jf q V (.sl rt (q.cls.map Qg))),I id] m K:=
 aB.mono (Ri Y m q V rt id hc hl) (by rintro r m' ⟨rfl,rfl⟩;exact hK)
def rtE:Option En->Rt
 |none=>.nil
 |some _=>.ro
def G5(o:Option En):Wz o=.aS [.agg [I (o.getD yx).id,I (o.getD yx).it,I (o.getD yx).fr,I (o.getD yx).ea,I (o.getD yx).la,I (o.getD yx).bo,.sl (rtE o) ((o.getD yx).al.map Qe)],.bool o.isSome]:=by
 cases o<;>rfl
def Lw(Y:YT)(m:AM)(g:Pg)(f:Int)(mid:Nat)(b:QR)(o:Od)(q:Pl)(V:AV)(rt:Rt)(d:Int)(hV:mH m.boxes V q.ens)(aX:DD rt)(h:lQ g f)(hb:fS m.boxes mid b)(fu:g.dr.length<=1000000000)(hq:Bs q)(dG:0<=q.ln/\q.ln<=1000000)(hd:tg d):
  aB Tryz.prog aD Y 90 [.agg (Qr g f mid),.agg (Qq o),.agg (Xt q V (.sl rt (q.cls.map Qg)) d)] m (fun r m'=>m'=m/\r=.bool (Qcf g f b o q d)):=by
 obtain⟨mb,ml,ms,mn⟩:=m;obtain⟨q1,q2,q3,q4,q5,q6⟩:=hq;have hc:=hV.cell;have hB:∀ex,fS (mb++ex) mid b:=fun ex=>⟨by have:=hb.1;simp at this |-;omega,hb.ext ex⟩;have ke:=fun ex K hK=>asY Y ⟨mb++ex,ml,ms,mn⟩ g f mid b o.en h (hB ex) K hK;have ki:=fun ex K hK=>amo Y ⟨mb++ex,ml,ms,mn⟩ g f mid b o.en h (hB ex) K hK;have kn:=fun ex K hK=>Oi Y ⟨mb++ex,ml,ms,mn⟩ q V rt o.en (hV.ext ex) zE q6 K hK;simp only[Qr,Qh,Qa,Jf,zzad,zzai]at ke ki kn;have k2:=jX g.dr o.en fu;have gF:=fun ex d=>hV.bz ex ml ms mn d;refine aB.read (Xn akt (G4 g f b o q d) zd ?_);cases he:DA g f b o.en with
 |true=>
  simp[Td,Te,Qr,Qh,Qa,Qq,Qd,Qg,Qi,Xt,hc,Qcf,he,G4];refine ke _ _ ?_;simp[he];exact nU
 |false=>
  by_cases hm:o.en∈g.dr
  ·simp[Td,Te,Qr,Qh,Qa,Qq,Qd,Qg,Qi,Xt,hc,Qcf,he,hm,G4];refine ke _ _ ?_;simp[he,hm]at k2 |-
   exact⟨k2,nU⟩
  by_cases Sg:d<1
  ·simp[Td,Te,Qr,Qh,Qa,Qq,Qd,Qg,Qi,Xt,hc,Qcf,he,hm,Sg,G4];refine ke _ _ ?_;simp[he,hm,Sg]at k2 |-
   exact⟨k2,nU⟩
  simp[Td,Te,Qr,Qh,Qa,Qq,Qd,Qg,Qi,Xt,hc,Qcf,he,hm,Sg,G4];refine ke _ _ ?_;simp[he,hm,Sg]at k2 |-
  refine⟨k2,kn _ _ ?_⟩;obtain⟨e,hE⟩:∃e,(Zh o.en q.ens).getD yx=e:=⟨_,rfl⟩;have kt:=fun ex K hK=>amr Y ⟨mb++ex,ml,ms,mn⟩ q V rt e.it hc zE K hK;simp only[Jf]at kt;rw[G5];generalize rtE (Zh o.en q.ens)=r7;generalize(Zh o.en q.ens).isSome=b7;rw[hE];obtain⟨X,hX⟩:∃X,Xk e.it q.aN=X:=⟨_,rfl⟩;have w0:IntKind.i64.wrap 0=0:=by decide
  simp;refine kt _ _ ?_;cases X with
  |none=>
   simp[hX,Zq];exact .bool _
  |some x=>
   by_cases fq:x.ki=4
   ·have zh:=Qet q e.it 0 f ((Bv g f b o.en).getD 0+d-f) q5 zE zE;simp only[Qa]at zh
    have ef:∀st,Bv g f b o.en=some st->0<=st/\st<=1000000:=fun st hh=>by
     unfold Bv at hh;split at hh
     ·cases hh
     split at hh
     ·cases hh;exact DB h _
     cases hh
    have hfs:=h.2.2.1;unfold nT at hfs;unfold tg at hd;simp[hX,Zq,Qm,fq];refine ki _ _ ?_;cases hi:Bv g f b o.en with
    |none=>
     simp[Q8];exact .bool _
    |some st=>
     have fV:=ef st hi;have w1:IntKind.i64.wrap (q.ln-d)=q.ln-d:=by rw[Ql]<;>omega
     rw[hi]at zh;by_cases lF:q.ln-d<st
     ·simp[Q8,w1,lF];exact .bool _
     have w2:IntKind.i64.wrap (st+d)=st+d:=by rw[Ql]<;>omega
     have w3:IntKind.i64.wrap (st+d-f)=st+d-f:=by rw[Ql]<;>omega
     by_cases hz:st+d-f=0
     ·simp[Q8,w1,lF,w2,hz,w0];exact .bool _
     simp[Q8,w1,lF,w2,w3,hz,gF,aX _ _ _];exact⟨Nm zh,.bool _⟩
   simp[hX,Zq,Qm,fq];exact .bool _
open Go Go.Abs
def Xm(f:Int):List bC->QR->QR
 |[],b=>b
 |e::r,b=>Xm f r (if e.st<f then Vm e.id true b else b)
def Ee:P2:=[I 0,I 0,I 0,I 0,.sl .nil [],I 0,I 0,I 0,I 0,.sl .nil [],.sl .nil [],.sl .nil [],.sl .nil [],.sl .nil [],.sl .nil [],I 0,.sl .nil [],I 0,I 0,.nilv false]
def rN(k:Int)(v:Bool):∀l:QR,(Vm k v l).length<=l.length+1
 |[]=>by simp[Vm]
 |x::r=>by
  unfold Vm;split
  ·simp
  have:=rN k v r;simp;omega
open Go Go.Abs
def gW(c:Cue):Bool->List Cue->List Cue
 |p,[]=>if p=true then[c]else[]
 |p,x::r=>if x.id=c.id then gW c p r else if p=true/\c.id<x.id then c::x::gW c false r else x::gW c p r
def axC(o:List Cue)(v:AV)(ls:Pa):Prop:=(o=[]/\v=.sl .nil []/\ls=[])\/(o≠[]/\v=.sl (.own 0 5) (o.map Qi)/\ls=[o.length])
def mJ(c:Cue)(l:List Cue):AV:=
 if iB c=true then
  (if 200<(gW c (!decide (c.to=0)) l).length then .aS [.sl .nil [],I 150]
  else .aS [.sl (if gW c (!decide (c.to=0)) l=[]then .nil else .ro) ((gW c (!decide (c.to=0)) l).map Qi),I 0])
 else .aS [.sl .nil [],I 150]
def as2(c:Cue)(l:List Cue)(f:Nat->AV)(m:AM):Prop:=
 ∃(i:Nat)(p:Bool)(o:List Cue)(bx:T5)(ls:Pa),f 18=I i/\f 7=.bool p/\i<=l.length/\o++gW c p (l.drop i)=gW c (!decide (c.to=0)) l/\axC o (f 6) ls/\o.length<=2*i/\
  m=⟨Qi c::bx,ls,fun _=>.gone,0⟩
def By(l:List Cue)(c:Cue)(hl:l.length<=1000000):Pure Tryz.prog aD 42 [.sl .ro (l.map Qi),.agg (Qi c)] (mJ c l):=by
 have cv:=td c;refine Qo ajK (fun _ f _=>if f=49 then .bool (iB c)else .junk) zd ?_;cases hc:iB c with
 |false=>
  rw[hc]at cv;simp[abh,Ej,Qi,mJ,hc];exact cv
 |true=>
  rw[hc]at cv;simp[abh,Qi];refine⟨cv,?_⟩;refine Qk eO (as2 c l) (fun f _=>l.length-(numOf (f 18)).toNat) ?_ ?_
  ·refine⟨0,!decide (c.to=0),[],[],[],zd,?_,zE,zd,.inl ⟨rfl,zd,rfl⟩,zd,by simp[Qi]⟩;simp;try(rw[zzcz];simp)
  rintro f m ⟨i,p,o,bx,ls,h18,h7,hi,hR,hO,FP,rfl⟩;rcases zzaa i l.length with ai|bn
  ·obtain⟨x,hx⟩:=aV ai;have ah:Qj (l.map Qi) i=Qi x:=Qu (by simp[hx]);have aa:(i:Int)<(l.length:Int):=zE
   have hw:=bO i zE;have hd:l.drop i=x::l.drop (i+1):=by rw[zzag ai,(zza.1 hx).2]
   rw[hd,gW]at hR;by_cases aL:x.id=c.id
   ·rw[if_pos aL]at hR;simp[h18,h7,eO,aa,ah,hw,Qi,aL];refine⟨aQ,⟨i+1,p,o,bx++[Qi x],ls,zd,zd,zE,hR,Nm hO,zE,by simp[Qi,aL]⟩,zE⟩
   rw[if_neg aL]at hR
   have Sk:∀(z:List Cue)(row:P2),((∃a,a∈z/\Qi a=row)\/row=Qi c\/row=Qi x)->row.length=5:=by
    rintro z row (⟨a,_,rfl⟩|rfl|rfl)<;>rfl
   by_cases hp:p=true/\c.id<x.id
   ·rw[if_pos hp]at hR;obtain⟨rfl,hp⟩:=hp;obtain⟨rfl,h6,rfl⟩|⟨ho,h6,rfl⟩:=hO
    ·simp[h18,h7,h6,eO,aa,ah,hw,Qi,aL,hp];refine⟨aQ,⟨i+1,false,[c,x],bx++[Qi x],[2],zd,zd,zE,Nm hR,.inr ⟨zd,by simp[Qi],rfl⟩,by simp;omega,by simp[Qi]⟩,zE⟩
    simp[h18,h7,h6,eO,aa,ah,hw,Qi,aL,hp];refine⟨⟨by rintro row (⟨a,_,rfl⟩|rfl)<;>rfl,zE⟩,⟨by rintro row (⟨a,_,rfl⟩|rfl|rfl)<;>rfl,zE⟩,ag ?_,⟨i+1,false,o++[c,x],bx++[Qi x],[o.length+2],zd,zd,zE,Nm hR,.inr ⟨zd,by simp[Qi],zd⟩,by simp;omega,by simp[Qi]⟩,zE⟩;repeat(first|exact Qb _ _|refine Qc _ rfl ?_)
   rw[if_neg hp]at hR;obtain⟨rfl,h6,rfl⟩|⟨ho,h6,rfl⟩:=hO
   ·cases p with
    |false=>
     simp[h18,h7,h6,eO,aa,ah,hw,Qi,aL];refine⟨aQ,⟨i+1,false,[x],bx++[Qi x],[1],zd,zd,zE,Nm hR,.inr ⟨zd,by simp[Qi],rfl⟩,by simp;omega,by simp[Qi]⟩,zE⟩
    |true=>
     have U9:¬c.id<x.id:=fun h=>hp ⟨rfl,h⟩;simp[h18,h7,h6,eO,aa,ah,hw,Qi,aL,U9];refine⟨aQ,⟨i+1,true,[x],bx++[Qi x],[1],zd,zd,zE,Nm hR,.inr ⟨zd,by simp[Qi],rfl⟩,by simp;omega,by simp[Qi]⟩,zE⟩
   cases p with
   |false=>
    simp[h18,h7,h6,eO,aa,ah,hw,Qi,aL];refine⟨⟨by rintro row (⟨a,_,rfl⟩|rfl)<;>rfl,zE⟩,ag ?_,⟨i+1,false,o++[x],bx++[Qi x],[o.length+1],zd,zd,zE,Nm hR,.inr ⟨zd,by simp[Qi],zd⟩,by simp;omega,by simp[Qi]⟩,zE⟩;repeat(first|exact Qb _ _|refine Qc _ rfl ?_)
   |true=>
    have U9:¬c.id<x.id:=fun h=>hp ⟨rfl,h⟩;simp[h18,h7,h6,eO,aa,ah,hw,Qi,aL,U9];refine⟨⟨by rintro row (⟨a,_,rfl⟩|rfl)<;>rfl,zE⟩,ag ?_,⟨i+1,true,o++[x],bx++[Qi x],[o.length+1],zd,zd,zE,Nm hR,.inr ⟨zd,by simp[Qi],zd⟩,by simp;omega,by simp[Qi]⟩,zE⟩;repeat(first|exact Qb _ _|refine Qc _ rfl ?_)
  obtain rfl:i=l.length:=zE
  rw[zzbv,gW]at hR;obtain⟨rfl,h6,rfl⟩|⟨ho,h6,rfl⟩:=hO
  ·cases p with
   |false=>
    simp at hR;simp[h18,h7,h6,eO,Ej,Qi,mJ,hc,hR]
   |true=>
    simp at hR;simp[h18,h7,h6,eO,Ej,Qi,mJ,hc,<- hR]
  cases p with
  |false=>
   simp at hR;by_cases hb:200<o.length
   ·have cN:(200:Int)<(o.length:Int):=zE
    simp[h18,h7,h6,eO,Ej,Qi,mJ,hc,<- hR,hb,cN]
   have cN:¬(200:Int)<(o.length:Int):=zE
   simp[h18,h7,h6,eO,Ej,Qi,mJ,hc,<- hR,hb,cN,ho]
  |true=>
   simp at hR;have aH:(o++[c]).length=o.length+1:=zd
   by_cases hb:200<o.length+1
   ·have cN:(200:Int)<(o.length:Int)+1:=zE
    simp[h18,h7,h6,eO,Ej,Qi,mJ,hc,<- hR,hb,cN];exact⟨by rintro row (⟨a,_,rfl⟩|rfl)<;>rfl,zE⟩
   have cN:¬(200:Int)<(o.length:Int)+1:=zE
   simp[h18,h7,h6,eO,Ej,Qi,mJ,hc,<- hR,hb,cN,ho];exact⟨by rintro row (⟨a,_,rfl⟩|rfl)<;>rfl,zE⟩
open Go Go.Abs
def zj(p:Pl):Pl:={p with sh:=p.sh.take 10,aN:=p.aN.take 20,bks:=p.bks.take 10,cls:=p.cls.take 20,ens:=p.ens.take 12,ln:=if 1500<p.ln then 1500 else p.ln}
def Qdy{α:Type}(l:List α)(n:Nat):l.take (if(n:Int)<(l.length:Int)then(n:Int)else(l.length:Int)).toNat=l.take n:=by
 split
 ·simp
 rw[zzau zd,zzau zE]
def th{a:Nat}(n:Nat):(if(n:Int)<(a:Int)then(n:Int)else(a:Int))<=a:=by split<;>omega
def tj{a:Nat}(n:Nat):0<=(if(n:Int)<(a:Int)then(n:Int)else(a:Int)):=by split<;>omega
def Qea(p:Pl):Pure Tryz.prog aD 14 [.agg (Qa p)] (.agg (Qa (zj p))):=by
 have t1:=Qdy (p.sh.map Qe) 10;have t2:=Qdy (p.aN.map Qm) 20;have t3:=Qdy (p.bks.map Xj) 10;have t4:=Qdy (p.cls.map Qg) 20;have t5:=Qdy (p.ens.map Qd) 12;simp only[zzbt]at t1 t2 t3 t4 t5;have a1:=th (a:=p.sh.length) 10;have a2:=th (a:=p.aN.length) 20;have a3:=th (a:=p.bks.length) 10;have a4:=th (a:=p.cls.length) 20;have a5:=th (a:=p.ens.length) 12;have b1:=tj (a:=p.sh.length) 10;have b2:=tj (a:=p.aN.length) 20;have b3:=tj (a:=p.bks.length) 10;have b4:=tj (a:=p.cls.length) 20;have b5:=tj (a:=p.ens.length) 12;simp at a1 a2 a3 a4 a5 b1 b2 b3 b4 b5 t1 t2 t3 t4 t5;refine Qo ajn (fun _ _ _=>.junk) zd ?_;simp[aog,aoh,Qa,zj,t1,t2,t3,t4,t5,a1,a2,a3,a4,a5,b1,b2,b3,b4,b5];exact⟨by rintro row a b _ rfl;rfl,fun _ _=>rfl,fun _ _=>rfl,fun _ _=>rfl,fun _ _=>rfl⟩
open Go Go.Abs
def G6(g:Pg)(f:Int)(q:Pl)(d:Int)(er:P2):P2:=[.ep (Qa q++[I d]) 0,.ep (Qh g++[I f,.junk]) 0,.ep er 0]
def Qdl(g:Pg)(f:Int)(q:Pl)(d:Int)(a0 a1 a2:AV)(fr:Int)(r:P2)(item region:Int)(h1:q.cls.length<=1000000)(h2:q.sh.length<=1000000000)(h3:q.aN.length<=1000000000):
  Pure Tryz.prog aD 161 ([I item,I region]++G6 g f q d (a0::a1::a2::I fr::r)) (.bool (Xy q item region f fr)):=by
 have k:=Qet q item region f fr h1 h2 h3;simp only[Qa]at k;refine Qo aco (fun _ _ _=>.bool (Xy q item region f fr)) (by simp[G6]) ?_;simp[agN,agO,G6,Qa,Qh];exact k
def iC(g:Pg)(f:Int)(o:Od)(q:Pl)(d:Int)(e:bC):Option Int:=
 if o.ki=1/\o.en=e.id then some (rJ g e.id+d-f)
 else if o.ki=2/\o.en=e.id then none
 else if o.ki=4/\Xy q e.it 0 f (uX f e).fr=false then none
 else some (uX f e).fr
def tq(q:Pl)(f:Int):UV:=fun _ k l=>if k=161 then(match l with
 |[.int _ it,.int _ re,_,_,.ep (_::_::_::.int _ F::_) 0]=>.bool (Xy q it re f F)
 |_=>.junk)else .gd false .junk
def jY(q:Pl)(f:Int)(id F:Int)(l:List Sp):List Sp:=l.filter fun a=>Xy q a.2 a.1 f F
def ams(ml:Pa)(o:List Sp)(v:AV)(ls:Pa):Prop:=(o=[]/\v=.sl .nil []/\ls=ml)\/(o≠[]/\v=.sl (.own ml.length 2) (o.map Qe)/\ls=ml++[o.length])
def as3(mb:T5)(ml:Pa)(ms:Nat->LS)(mn:Nat)(r0 r1 r2 pre:P2)(al:List Sp)(A:List Sp->List Sp)(s:Nat->AV)(m:AM):Prop:=
 ∃(j:Nat)(bx:T5)(ls:Pa)(v:AV),s 106=I j/\j<=al.length/\ams ml (A (al.take j)) v ls/\m=⟨mb++(r0::r1::r2::nV::(pre++[v])::bx),ls,ms,mn⟩
def rO(q:Pl)(f:Int)(it F:Int)(n:Nat):Int:=Ut (fun r=>Xy q it r f F) n
def ae2(b:Nat->Bool)(i:Nat)(h:i<8):IntKind.i64.wrap ((((Ut b i%2 ^ IntKind.i64.bits).toNat|||(IntKind.i64.wrap (2 ^ min i IntKind.i64.bits)%2 ^ IntKind.i64.bits).toNat:Nat)):Int)=Ut b i+2 ^ i:=by
 have gN:=Dc b i;obtain⟨x,hx⟩:∃x:Nat,Ut b i=(x:Int):=⟨(Ut b i).toNat,zE⟩
 have hx2:x<2 ^ i:=by
  have h2:=gN.2;rw[hx]at h2
  exact_mod_cast h2
 rw[hx];exact XV i h x hx2
def Lx:SC:=(⟨_,by cbv⟩:JY [1,1,1,1,1,1] Af).1
def ZO:SC:=(⟨_,fun _=>by cbv⟩:Fm [1,1,1,1,1,1] Af).1 Lx
theorem G7:Af=ZO:=rfl
def yy(Y:YT)(mb:T5)(ml:Pa)(ms:Nat->LS)(mn:Nat)(g:Pg)(f:Int)(mid:Nat)(R1:P2)(q:Pl)(V:AV)(rt:Rt)(d:Int)(e:bC)(F:Int)(E0:QQ)(x5 x6:AV)(hV:mH mb V q.ens)(aX:DD rt)(hq:Bs q)(NW:0<=q.rg/\q.rg<=8)(K:So)
  (h3:Abs.look E0 3=.ptr mb.length 0)(h5:Abs.look E0 5=.ptr (mb.length+2) 0)(h6:Abs.look E0 6=.ptr (mb.length+3) 0)(h8:Abs.look E0 8=.ptr (mb.length+4) 0)(pE:Abs.look E0 11=.fn 161 [] [.ptr (mb.length+2) 0,.ptr mb.length 0,.ptr (mb.length+4) 0])
  (h1:∀ex ls v,ams ml (jY q f e.id F ((Zh e.id q.ens).getD yx).al) v ls->K (.aS [.agg [I e.id,I e.it,I f,I F,I (e.i+(f-e.st)),I (rO q f e.it F q.rg.toNat),v],.bool true]) ⟨mb++ex,ls,ms,mn⟩):
  vc Tryz.prog aD (tq q f) Y Lx ⟨Vy 124 E0,⟨mb++[Qr g f mid,R1,Xt q V (.sl rt (q.cls.map Qg)) d,nV,[I e.id,I e.it,I f,I F,I (e.i+(f-e.st)),x5,x6]],ml,ms,mn⟩⟩ (wP Tryz.prog aD (tq q f) Em K):=by
 obtain⟨q1,q2,q3,q4,q5,q6⟩:=hq;have hc:=hV.cell;have gF:=fun ex ml d=>hV.bz ex ml ms mn d;simp[Lx,h5,h8,Qr,Qh,Qa,Xt,nV];refine Qk IU (fun s m=>∃i:Nat,s 80=I i/\(i:Int)<=q.rg/\m=⟨mb++[Qr g f mid,R1,Xt q V (.sl rt (q.cls.map Qg)) d,nV,[I e.id,I e.it,I f,I F,I (e.i+(f-e.st)),I (rO q f e.it F i),.sl .nil []]],ml,ms,mn⟩) (fun s _=>(q.rg-numOf (s 80)).toNat) ?_ ?_
 ·exact⟨0,zd,by simp;omega,by simp[Qr,Qh,Qa,Xt,nV,rO,Ut]⟩
 rintro s m ⟨i,h80,hi,rfl⟩;by_cases ai:(i:Int)<q.rg
 ·have hw:=bO i zE;have kc:=Qdl g f q d (I e.id) (I e.it) (I f) F [I (e.i+(f-e.st)),I (rO q f e.it F i),.sl .nil []] e.it i q5 zE zE;simp only[G6,Qa,Qh,zzad,zzai]at kc;simp[h8,pE,h80,IU,ai,hw,Qr,Qh,Qa,Xt,nV,tq,gF,aX _ _ _];have hor:=ae2 (fun r=>Xy q e.it r f F) i zE;refine⟨kc,?_⟩;have dO:rO q f e.it F (i+1)=rO q f e.it F i+if Xy q e.it (i:Int) f F=true then 2 ^ i else 0:=rfl;split
  ·rename_i ha;rw[if_pos ha]at dO;refine⟨aQ,⟨i+1,zd,zE,by rw[dO];exact hor⟩,zE⟩
  rename_i ha;rw[if_neg ha]at dO;refine⟨aQ,⟨i+1,zd,zE,by rw[dO];simp⟩,zE⟩
 have kn:=fun ex K hK=>Oi Y ⟨mb++ex,ml,ms,mn⟩ q V rt e.id (hV.ext ex) zE q6 K hK;simp only[Jf]at kn;simp[h5,h8,h80,IU,ai,Qr,Qh,Qa,Xt,nV,tq];refine kn _ _ ?_;rw[G5];generalize rtE (Zh e.id q.ens)=r7;generalize(Zh e.id q.ens).isSome=b7;obtain⟨E,hE⟩:∃E,(Zh e.id q.ens).getD yx=E:=⟨_,rfl⟩;rw[hE]
 have hEl:E.al.length<=8796093022208:=by
  rw[<- hE];cases hf:Zh e.id q.ens with
  |none=>simp[yx]
  |some x=>exact q6 x (jL hf).1
 have hiq:i=q.rg.toNat:=zE
 rw[hE]at h1;simp[Em];refine Qk BT (as3 mb ml ms mn (Qr g f mid) R1 (Xt q V (.sl rt (q.cls.map Qg)) d) [I e.id,I e.it,I f,I F,I (e.i+(f-e.st)),I (rO q f e.it F i)] E.al (jY q f e.id F)) (fun s _=>E.al.length-(numOf (s 106)).toNat) ?_ ?_
 ·exact⟨0,_,ml,.sl .nil [],zd,zE,.inl ⟨by simp[jY],rfl,rfl⟩,by simp[Qr,Qh,Qa,Xt,nV];rfl⟩
 rintro s2 m ⟨j,bx,ls,v,h106,hj,hO,rfl⟩;rcases zzaa j E.al.length with JP|hgj
 ·obtain⟨a,ha⟩:=aV JP;have ah:=Zx ha;have as4:(j:Int)<(E.al.length:Int):=zE
  have hw:=bO j zE
  have bA:jY q f e.id F (E.al.take (j+1))=jY q f e.id F (E.al.take j)++if Xy q a.2 a.1 f F=true then[a]else[]:=by
   unfold jY;rw[zzax,ha,zzdi];congr 1;by_cases hh:Xy q a.2 a.1 f F=true<;>simp[hh]
  have FP:(jY q f e.id F (E.al.take j)).length<=j:=by
   refine zzba (zzca _ _) ?_;simp;omega
  generalize jY q f e.id F (E.al.take j)=oL at hO bA FP;obtain⟨rfl,rfl,rfl⟩|⟨ho,rfl,rfl⟩:=hO
  ·have kc:=Qdl g f q d (I e.id) (I e.it) (I f) F [I (e.i+(f-e.st)),I (rO q f e.it F i),.sl .nil []] a.2 a.1 q5 zE zE;simp only[G6,Qa,Qh,zzad,zzai]at kc;simp[h8,pE,h106,BT,as4,ah,hw,Qr,Qh,Qa,Xt,nV,tq,gF,aX _ _ _];refine⟨kc,?_⟩;split
   ·rename_i hh;rw[if_pos hh]at bA;refine⟨aQ,⟨j+1,bx++[[I a.1,I a.2]],ls++[1],.sl (.own ls.length 2) [Qe a],zd,zE,.inr ⟨by rw[bA];simp,by rw[bA];rfl,by rw[bA];rfl⟩,by simp[nV,Qe]⟩,zE⟩
   rename_i hh;rw[if_neg hh]at bA;refine⟨aQ,⟨j+1,bx++[[I a.1,I a.2]],ls,.sl .nil [],zd,zE,.inl ⟨by rw[bA];rfl,rfl,rfl⟩,by simp[nV]⟩,zE⟩
  have kc:=Qdl g f q d (I e.id) (I e.it) (I f) F [I (e.i+(f-e.st)),I (rO q f e.it F i),.sl .ro (oL.map Qe)] a.2 a.1 q5 zE zE;simp only[G6,Qa,Qh,zzad,zzai]at kc;simp[h8,pE,h106,BT,as4,ah,hw,Qr,Qh,Qa,Xt,nV,tq,gF,aX _ _ _];refine⟨kc,?_⟩
  have Sk:∀row:P2,((∃x y,(x,y)∈oL/\Qe (x,y)=row)\/row=Qe a)->row.length=2:=by
   rintro row (⟨x,y,_,rfl⟩|rfl)<;>rfl
  split
  ·rename_i hh;rw[if_pos hh]at bA;refine⟨⟨Sk,zE⟩,aQ,⟨j+1,bx++[[I a.1,I a.2]],ml++[oL.length+1],.sl (.own ml.length 2) ((oL++[a]).map Qe),zd,zE,.inr ⟨by rw[bA];simp,by rw[bA],by rw[bA];simp⟩,by simp[nV,Qe]⟩,zE⟩
  rename_i hh;rw[if_neg hh,zzar]at bA;refine⟨aQ,⟨j+1,bx++[[I a.1,I a.2]],ml++[oL.length],.sl (.own ml.length 2) (oL.map Qe),zd,zE,.inr ⟨by rw[bA];exact ho,by rw[bA],by rw[bA]⟩,by simp[nV]⟩,zE⟩
 obtain rfl:j=E.al.length:=zE
 rw[zzbx]at hO;have bL:Qx v=true:=by rcases hO with⟨_,rfl,_⟩|⟨_,rfl,_⟩<;>rfl
 have h1:=fun ex=>h1 ex ls v hO;rw[<- hiq]at h1;simp[h6,h8,h106,BT,Qr,Qh,Qa,Xt,nV,bL];exact h1 _
def ae3(Y:YT)(m:AM)(g:Pg)(f:Int)(mid:Nat)(b:QR)(o:Od)(q:Pl)(V:AV)(rt:Rt)(d:Int)(hV:mH m.boxes V q.ens)(aX:DD rt)(h:lQ g f)(hb:fS m.boxes mid b)(hq:Bs q)(hd:0<=d/\d<=1000000000)(NW:0<=q.rg/\q.rg<=8)(K:So)
  (h1:∀e F,Jk g f b=some e->iC g f o q d e=some F->F≠0->∀ex ls v,ams m.lens (jY q f e.id F ((Zh e.id q.ens).getD yx).al) v ls->K (.aS [.agg [I e.id,I e.it,I f,I F,I (e.i+(f-e.st)),I (rO q f e.it F q.rg.toNat),v],.bool true]) {m with boxes:=m.boxes++ex,lens:=ls})
  (h0:(Jk g f b).bind (iC g f o q d)=none\/(Jk g f b).bind (iC g f o q d)=some 0->∀ex,K (.aS [.agg nV,.bool false]) {m with boxes:=m.boxes++ex}):
  aB Tryz.prog aD Y 106 [.agg (Qr g f mid),.agg (Qq o),.agg (Xt q V (.sl rt (q.cls.map Qg)) d)] m K:=by
 obtain⟨mb,ml,ms,mn⟩:=m;obtain⟨q1,q2,q3,q4,q5,q6⟩:=hq;have hc:=hV.cell;have hB:∀ex,fS (mb++ex) mid b:=fun ex=>⟨by have:=hb.1;simp at this |-;omega,hb.ext ex⟩;have kp:=fun ex K hK=>aiP Y ⟨mb++ex,ml,ms,mn⟩ g f mid b h (hB ex) K hK;simp only[Qr,Qh,Qa,zzad,zzai]at kp;have gF:=fun ex ml d=>hV.bz ex ml ms mn d;cases hp:Jk g f b with
 |none=>
  have h0:=h0 (by rw[hp];exact .inl rfl);refine Xn My (fun _ f _=>.gd false .junk) zd ?_;simp[G7,ZO,Em,Qr,Qh,Qa,Qq,Qd,Qg,Qi,Xt,hc];refine kp _ _ ?_;simp[Uq,hp];simp[nV]at h0;exact h0 _
 |some e=>
  refine Xn My (tq q f) zd ?_;simp[G7,ZO,Em,Qr,Qh,Qa,Qq,Qd,Qg,Qi,Xt,hc,tq];refine kp _ _ ?_;have ua:=DB h e.id;have hfs:=h.2.2.1;unfold nT at hfs;by_cases dD:o.ki=1
  ·by_cases aL:o.en=e.id
   ·have w1:IntKind.i64.wrap (rJ g e.id+d)=rJ g e.id+d:=by rw[Ql]<;>omega
    have w2:IntKind.i64.wrap (rJ g e.id+d-f)=rJ g e.id+d-f:=by rw[Ql]<;>omega
    obtain⟨F,hF⟩:∃F,rJ g e.id+d-f=F:=⟨_,rfl⟩;have wF:IntKind.i64.wrap F=F:=by rw[<- hF];exact w2
    have w0:IntKind.i64.wrap 0=0:=by decide
    have sk:(Jk g f b).bind (iC g f o q d)=some F:=by rw[hp];simp[iC,dD,aL,hF]
    by_cases qw:F=0
    ·have h0:=h0 (by rw[sk,qw];exact .inr rfl);simp[Uq,hp,Qf,uX,dD,aL,w1,w0,hF,qw];simp[nV]at h0;exact h0 _
    simp[Uq,hp,Qf,uX,dD,aL,w1,wF,hF,qw];refine yy Y mb ml ms mn g f mid _ q V rt d e F _ _ _ hV aX ⟨q1,q2,q3,q4,q5,q6⟩ NW K ?_ ?_ ?_ ?_ ?_ (h1 e F hp (by simpa[hp]using sk) qw)<;>simp
   have w0:True:=trivial;obtain⟨F,hF⟩:∃F,e.fr-(f-e.st)=F:=⟨_,rfl⟩;have sk:(Jk g f b).bind (iC g f o q d)=some F:=by rw[hp];simp[iC,uX,hF,dD,aL]
   by_cases qw:F=0
   ·have h0:=h0 (by rw[sk,qw];exact .inr rfl);simp[Uq,hp,Qf,uX,dD,aL,hF,qw];simp[nV]at h0;exact h0 _
   simp[Uq,hp,Qf,uX,dD,aL,hF,qw];refine yy Y mb ml ms mn g f mid _ q V rt d e F _ _ _ hV aX ⟨q1,q2,q3,q4,q5,q6⟩ NW K ?_ ?_ ?_ ?_ ?_ (h1 e F hp (by simpa[hp]using sk) qw)<;>simp
  by_cases ee:o.ki=2
  ·by_cases aL:o.en=e.id
   ·have w0:True:=trivial;have h0:=h0 (by rw[hp];simp[iC,ee,aL]);simp[Uq,hp,Qf,uX,ee,aL];simp[nV]at h0;exact h0 _
   have w0:True:=trivial;obtain⟨F,hF⟩:∃F,e.fr-(f-e.st)=F:=⟨_,rfl⟩;have sk:(Jk g f b).bind (iC g f o q d)=some F:=by rw[hp];simp[iC,uX,hF,ee,aL]
   by_cases qw:F=0
   ·have h0:=h0 (by rw[sk,qw];exact .inr rfl);simp[Uq,hp,Qf,uX,ee,aL,hF,qw];simp[nV]at h0;exact h0 _
   simp[Uq,hp,Qf,uX,ee,aL,hF,qw];refine yy Y mb ml ms mn g f mid _ q V rt d e F _ _ _ hV aX ⟨q1,q2,q3,q4,q5,q6⟩ NW K ?_ ?_ ?_ ?_ ?_ (h1 e F hp (by simpa[hp]using sk) qw)<;>simp
  by_cases NT:o.ki=4
  ·cases ha0:Xy q e.it 0 f (e.fr-(f-e.st))with
   |false=>
    have h0:=h0 (by rw[hp];simp[iC,uX,NT,ha0]);have kc0:=Qdl g f q d (I e.id) (I e.it) (I f) (e.fr-(f-e.st)) [I (e.i+(f-e.st)),I e.re,.sl .ro (e.al.map Qe)] e.it 0 q5 zE zE;simp only[G6,Qa,Qh,zzad,zzai]at kc0;rw[ha0]at kc0;simp[Uq,hp,Qf,uX,NT,gF,aX _ _ _,ha0];simp[nV]at h0;exact⟨kc0,h0 _⟩
   |true=>
    obtain⟨F,hF⟩:∃F,e.fr-(f-e.st)=F:=⟨_,rfl⟩;rw[hF]at ha0;have sk:(Jk g f b).bind (iC g f o q d)=some F:=by rw[hp];simp[iC,uX,hF,NT,ha0]
    have kc0:=Qdl g f q d (I e.id) (I e.it) (I f) F [I (e.i+(f-e.st)),I e.re,.sl .ro (e.al.map Qe)] e.it 0 q5 zE zE;simp only[G6,Qa,Qh,zzad,zzai]at kc0;rw[ha0]at kc0;by_cases qw:F=0
    ·have h0:=h0 (by rw[sk,qw];exact .inr rfl);rw[qw]at ha0 kc0;simp[Uq,hp,Qf,uX,NT,gF,aX _ _ _,hF,ha0,qw];simp[nV]at h0;exact⟨kc0,h0 _⟩
    simp[Uq,hp,Qf,uX,NT,gF,aX _ _ _,hF,ha0,qw];refine⟨kc0,?_⟩;refine yy Y mb ml ms mn g f mid _ q V rt d e F _ _ _ hV aX ⟨q1,q2,q3,q4,q5,q6⟩ NW K ?_ ?_ ?_ ?_ ?_ (h1 e F hp (by simpa[hp]using sk) qw)<;>simp
  have w0:True:=trivial;obtain⟨F,hF⟩:∃F,e.fr-(f-e.st)=F:=⟨_,rfl⟩;have sk:(Jk g f b).bind (iC g f o q d)=some F:=by rw[hp];simp[iC,uX,hF,dD,ee,NT]
  by_cases qw:F=0
  ·have h0:=h0 (by rw[sk,qw];exact .inr rfl);simp[Uq,hp,Qf,uX,dD,ee,NT,hF,qw];simp[nV]at h0;exact h0 _
  simp[Uq,hp,Qf,uX,dD,ee,NT,hF,qw];refine yy Y mb ml ms mn g f mid _ q V rt d e F _ _ _ hV aX ⟨q1,q2,q3,q4,q5,q6⟩ NW K ?_ ?_ ?_ ?_ ?_ (h1 e F hp (by simpa[hp]using sk) qw)<;>simp
end
