import Derived.Test.YthjppoincojfkaaGreatDoorRTMbN
set_option linter.all false
set_option maxRecDepth 100000
set_option maxHeartbeats 64000000
namespace Go.Proofs.YthjppoincojfkaaGreatDoor
noncomputable section
open Go Go.Abs
def zW(x:Int):Pi->Nat->Int
 |[],_=> -1
 |a::r,i=>if x=a then i else zW x r (i+1)
def GU(x:Int):∀(L:Pi)(i:Nat),(0<=zW x L i)=(x∈L)
 |[],i=>by simp[zW]
 |a::r,i=>by
  unfold zW;by_cases h:x=a
  ·rw[ac h];simp[h]
  rw[ab h,GU x r (i+1)];simp[h]
def ZS(L:Pi)(x:Int)(hl:L.length<=1000000000):Pure Tryz.prog aD 162 [.sl .ro (L.map Qz),I x] (I (zW x L 0)):=by
 refine Qp acY (fun _ _ _=>.junk) zd ?_;simp[ahr];refine Qj B8 (fun f m=>∃i:Nat,f 8=I i/\i<=L.length/\zW x (L.drop i) i=zW x L 0/\m=⟨[],[],fun _=>.gone,0⟩) (fun f _=>L.length-(numOf (f 8)).toNat) ?_ ?_
 ·exact⟨0,zd,zE,zd,rfl⟩
 rintro f m ⟨i,f8,hi,hr,rfl⟩;rcases zzaa i L.length with ah|bu
 ·obtain⟨a,ha⟩:=aV ah;have ai:Qi (L.map Qz) i=[I a]:=Qw (by simp[ha,Qz]);have aa:(i:Int)<(L.length:Int):=zE
  have hw:=bO i zE;have hd:L.drop i=a::L.drop (i+1):=by rw[zzai ah,(zza.1 ha).2]
  rw[hd,zW]at hr;by_cases hP:x=a
  ·rw[ac hP]at hr;simp[f8,B8,UA,aa,ai,hP];rw[<- hP];exact hr
  rw[ab hP]at hr;simp[f8,B8,aa,ai,hP,hw];refine⟨aQ,⟨i+1,zd,zE,hr⟩,zE⟩
 obtain rfl:i=L.length:=zE
 rw[zzc,zW]at hr;simp[f8,B8,UA];exact hr
def jy(L:Pi)(x:Int)(hl:L.length<=1000000000):Pure Tryz.prog aD 107 [.sl .ro (L.map Qz),I x] (.bool (decide (x∈L))):=by
 have k:=ZS L x hl;refine Qp ace (fun _ _ _=>I (zW x L 0)) zd ?_;simp[agP,agQ];refine⟨k,?_⟩;simp[<- GU x L 0]
def Dw(e:aW)(id:Int):Pure Tryz.prog aD 152 [.agg (Qf e),.ep [I id] 0] (.bool (decide (e.id=id))):=by
 refine Qp acR (fun _ _ _=>.junk) zd ?_;simp[ahn,aho,Qf];rw[zzcr];simp
def Lp(g:Pg)(id:Int):Bool:=(g.ev.find? (fun e=>decide (e.id=id))).isSome
def Dx(L:List aW)(id:Int)(hl:L.length<=1000000000):Pure Tryz.prog aD 151 [.sl .ro (L.map Qf),.fn 152 [] [.ep [I id] 0]] (.bool (L.find? (fun e=>decide (e.id=id))).isSome):=by
 have k:=ya L (fun e=>decide (e.id=id)) 152 [] [.ep [I id] 0] hl (fun _=>rfl) (fun _=>zd) (fun e _=>Dw e id) (fun _ _ xs=>match xs with|.agg (.int _ n::_)::_=>.bool (decide (n=id))|_=>.junk) (fun _ e _=>rfl);refine Qp acQ (fun _ _ _=>I (Uu (fun e=>decide (e.id=id)) L 0)) zd ?_;cases hf:L.find? (fun e=>decide (e.id=id))with
 |none=>
  rw[Qcz hf]at k |-
  simp[T6,T7];exact k
 |some e=>
  obtain⟨n,g1,_,_⟩:=Wh (i:=0) hf;rw[g1,zzbs]at k |-
  simp[T6,T7];exact k
def pP(g:Pg)(o:Od):Bool:=!Lp g o.nw.id&&(decide (Jh g o.nw.id<0)&&!decide (o.nw.id∈g.dr))
def Lq(Y:YT)(m:AM)(g:Pg)(f:Int)(mid:Nat)(o:Od)(q:Pl)(V:AV)(rt:Rt)(d:Int)(hV:me m.boxes V q.ens)(h:lC g f)(hd:g.dr.length<=1000000000):
  aB Tryz.prog aD Y 94 [.agg (Qr g f mid),.agg (Qq o),.agg (Xr q V (.sl rt (q.cls.map Qg)) d)] m (fun r m'=>m'=m/\r=.bool (pP g o)):=by
 obtain⟨mb,ml,ms,mn⟩:=m;have hc:=hV.cell;have k:=fun ex K hK=>Li Y ⟨mb++ex,ml,ms,mn⟩ g f mid o.nw.id h K hK;simp only[Qr,Qk,Qa,zzae,zzag]at k;have k1:=Dx g.ev o.nw.id h.1;have k2:=jy g.dr o.nw.id hd;refine aB.read (Xo ak8 (fun _ f _=>if f=151 then .bool (Lp g o.nw.id)else if f=107 then .bool (decide (o.nw.id∈g.dr))else .gd false .junk) zd ?_);cases hh:Lp g o.nw.id with
 |true=>
  unfold Lp at hh;rw[hh]at k1;simp[ak6,ak7,Qr,Qk,Qa,Qq,Qd,Qg,Qh,Xr,hc,pP,Lp,hh];exact⟨k1,nH⟩
 |false=>
  unfold Lp at hh;rw[hh]at k1;simp[ak6,ak7,Qr,Qk,Qa,Qq,Qd,Qg,Qh,Xr,hc,pP,Lp,hh];refine⟨k1,k _ _ ?_⟩;by_cases hp:Jh g o.nw.id<0
  ·simp[hp];exact⟨k2,nH⟩
  simp[hp];exact nH
def yh:En:=⟨0,0,0,0,0,0,[]⟩
def Qbx(g:Pg)(f:Int)(b:QR)(o:Od)(q:Pl)(d:Int):Bool:=
 if Dr g f b o.en=true then false
 else if o.en∈g.dr then false
 else if d<1 then false
 else match Xk ((Xn o.en q.ens).getD yh).it q.aM with
  |none=>false
  |some x=>if x.ki≠4 then false
   else match Bp g f b o.en with
    |none=>true
    |some st=>if q.ln-d<st then false else if st+d-f=0 then true else Xv q ((Xn o.en q.ens).getD yh).it 0 f (st+d-f)
def GV(g:Pg)(F:Int)(b:QR)(o:Od)(q:Pl)(d:Int):UV:=fun _ f _=>if f=107 then .bool (decide (o.en∈g.dr))else if f=18 then .bool (Xv q ((Xn o.en q.ens).getD yh).it 0 F ((Bp g F b o.en).getD 0+d-F))else .gd false .junk
def Rw(Y:YT)(m:AM)(q:Pl)(V:AV)(rt:Rt)(id:Int)(hc:Qx V=true)(hl:q.aM.length<=1000000000):
  aB Tryz.prog aD Y 17 [.agg (Ji q V (.sl rt (q.cls.map Qg))),I id] m (fun r m'=>m'=m/\r=Zr (Xk id q.aM)):=by
 obtain⟨mb,ml,ms,mn⟩:=m;have h:=xm q.aM id hl;refine aB.read (Xo S8 (fun _ f l=>if f=36 then Zr (Xk id q.aM)else .junk) zd ?_);cases hf:Xk id q.aM with
 |none=>
  rw[hf]at h;simp[S6,S7,Ji,hc,Zr];exact⟨h,nH⟩
 |some x=>
  rw[hf]at h;simp[S6,S7,Ji,hc,Zr,Qm];exact⟨h,nH⟩
def aml(Y:YT)(m:AM)(q:Pl)(V:AV)(rt:Rt)(id:Int)(hc:Qx V=true)(hl:q.aM.length<=1000000000)(K:So)(hK:K (Zr (Xk id q.aM)) m):
  aB Tryz.prog aD Y 17 [.agg (Ji q V (.sl rt (q.cls.map Qg))),I id] m K:=
 aB.mono (Rw Y m q V rt id hc hl) (by rintro r m' ⟨rfl,rfl⟩;exact hK)
def rtE:Option En->Rt
 |none=>.nil
 |some _=>.ro
def GW(o:Option En):Jo o=.aS [.agg [I (o.getD yh).id,I (o.getD yh).it,I (o.getD yh).fr,I (o.getD yh).ea,I (o.getD yh).la,I (o.getD yh).bo,.sl (rtE o) ((o.getD yh).al.map Qe)],.bool o.isSome]:=by
 cases o<;>rfl
def Lr(Y:YT)(m:AM)(g:Pg)(f:Int)(mid:Nat)(b:QR)(o:Od)(q:Pl)(V:AV)(rt:Rt)(d:Int)(hV:me m.boxes V q.ens)(aY:Du rt)(h:lC g f)(hb:fN m.boxes mid b)(fk:g.dr.length<=1000000000)(hq:Bm q)(dQ:0<=q.ln/\q.ln<=1000000)(hd:sX d):
  aB Tryz.prog aD Y 90 [.agg (Qr g f mid),.agg (Qq o),.agg (Xr q V (.sl rt (q.cls.map Qg)) d)] m (fun r m'=>m'=m/\r=.bool (Qbx g f b o q d)):=by
 obtain⟨mb,ml,ms,mn⟩:=m;obtain⟨q1,q2,q3,q4,q5,q6⟩:=hq;have hc:=hV.cell;have hB:∀ex,fN (mb++ex) mid b:=fun ex=>⟨by have:=hb.1;simp at this |-;omega,hb.ext ex⟩;have ke:=fun ex K hK=>asG Y ⟨mb++ex,ml,ms,mn⟩ g f mid b o.en h (hB ex) K hK;have ki:=fun ex K hK=>amj Y ⟨mb++ex,ml,ms,mn⟩ g f mid b o.en h (hB ex) K hK;have kn:=fun ex K hK=>Ot Y ⟨mb++ex,ml,ms,mn⟩ q V rt o.en (hV.ext ex) zE q6 K hK;simp only[Qr,Qk,Qa,Ji,zzae,zzag]at ke ki kn;have k2:=jy g.dr o.en fk;have gA:=fun ex d=>hV.bB ex ml ms mn d;refine aB.read (Xo ak0 (GV g f b o q d) zd ?_);cases he:Dr g f b o.en with
 |true=>
  simp[TC,TD,Qr,Qk,Qa,Qq,Qd,Qg,Qh,Xr,hc,Qbx,he,GV];refine ke _ _ ?_;simp[he];exact nH
 |false=>
  by_cases hm:o.en∈g.dr
  ·simp[TC,TD,Qr,Qk,Qa,Qq,Qd,Qg,Qh,Xr,hc,Qbx,he,hm,GV];refine ke _ _ ?_;simp[he,hm]at k2 |-
   exact⟨k2,nH⟩
  by_cases hd1:d<1
  ·simp[TC,TD,Qr,Qk,Qa,Qq,Qd,Qg,Qh,Xr,hc,Qbx,he,hm,hd1,GV];refine ke _ _ ?_;simp[he,hm,hd1]at k2 |-
   exact⟨k2,nH⟩
  simp[TC,TD,Qr,Qk,Qa,Qq,Qd,Qg,Qh,Xr,hc,Qbx,he,hm,hd1,GV];refine ke _ _ ?_;simp[he,hm,hd1]at k2 |-
  refine⟨k2,kn _ _ ?_⟩;obtain⟨e,hE⟩:∃e,(Xn o.en q.ens).getD yh=e:=⟨_,rfl⟩;have kt:=fun ex K hK=>aml Y ⟨mb++ex,ml,ms,mn⟩ q V rt e.it hc zE K hK;simp only[Ji]at kt;rw[GW];generalize rtE (Xn o.en q.ens)=r7;generalize(Xn o.en q.ens).isSome=b7;rw[hE];obtain⟨X,hX⟩:∃X,Xk e.it q.aM=X:=⟨_,rfl⟩;have w0:IntKind.i64.wrap 0=0:=by decide
  simp;refine kt _ _ ?_;cases X with
  |none=>
   simp[hX,Zr];exact .bool _
  |some x=>
   by_cases dP:x.ki=4
   ·have zg:=Qeo q e.it 0 f ((Bp g f b o.en).getD 0+d-f) q5 zE zE;simp only[Qa]at zg
    have dU:∀st,Bp g f b o.en=some st->0<=st/\st<=1000000:=fun st hh=>by
     unfold Bp at hh;split at hh
     ·cases hh
     split at hh
     ·cases hh;exact Ds h _
     cases hh
    have hfs:=h.2.2.1;unfold nG at hfs;unfold sX at hd;simp[hX,Zr,Qm,dP];refine ki _ _ ?_;cases hi:Bp g f b o.en with
    |none=>
     simp[Rn];exact .bool _
    |some st=>
     have fh:=dU st hi;have w1:IntKind.i64.wrap (q.ln-d)=q.ln-d:=by rw[Ql]<;>omega
     rw[hi]at zg;by_cases kY:q.ln-d<st
     ·simp[Rn,w1,kY];exact .bool _
     have w2:IntKind.i64.wrap (st+d)=st+d:=by rw[Ql]<;>omega
     have w3:IntKind.i64.wrap (st+d-f)=st+d-f:=by rw[Ql]<;>omega
     by_cases hz:st+d-f=0
     ·simp[Rn,w1,kY,w2,hz,w0];exact .bool _
     simp[Rn,w1,kY,w2,w3,hz,gA,aY _ _ _];exact⟨Nm zg,.bool _⟩
   simp[hX,Zr,Qm,dP];exact .bool _
def Xd(f:Int):List aW->QR->QR
 |[],b=>b
 |e::r,b=>Xd f r (if e.st<f then Vj e.id true b else b)
def Em:P2:=[I 0,I 0,I 0,I 0,.sl .nil [],I 0,I 0,I 0,I 0,.sl .nil [],.sl .nil [],.sl .nil [],.sl .nil [],.sl .nil [],.sl .nil [],I 0,.sl .nil [],I 0,I 0,.nilv false]
def rz(k:Int)(v:Bool):∀l:QR,(Vj k v l).length<=l.length+1
 |[]=>by simp[Vj]
 |x::r=>by
  unfold Vj;split
  ·simp
  have:=rz k v r;simp;omega
def gQ(c:Cue):Bool->List Cue->List Cue
 |p,[]=>if p=true then[c]else[]
 |p,x::r=>if x.id=c.id then gQ c p r else if p=true/\c.id<x.id then c::x::gQ c false r else x::gQ c p r
def axM(o:List Cue)(v:AV)(ls:Pa):Prop:=(o=[]/\v=.sl .nil []/\ls=[])\/(o≠[]/\v=.sl (.own 0 5) (o.map Qh)/\ls=[o.length])
def mg(c:Cue)(l:List Cue):AV:=
 if iw c=true then
  (if 200<(gQ c (!decide (c.to=0)) l).length then .aS [.sl .nil [],I 150]
  else .aS [.sl (if gQ c (!decide (c.to=0)) l=[]then .nil else .ro) ((gQ c (!decide (c.to=0)) l).map Qh),I 0])
 else .aS [.sl .nil [],I 150]
def asK(c:Cue)(l:List Cue)(f:Nat->AV)(m:AM):Prop:=
 ∃(i:Nat)(p:Bool)(o:List Cue)(bx:T5)(ls:Pa),f 18=I i/\f 7=.bool p/\i<=l.length/\o++gQ c p (l.drop i)=gQ c (!decide (c.to=0)) l/\axM o (f 6) ls/\o.length<=2*i/\
  m=⟨Qh c::bx,ls,fun _=>.gone,0⟩
def Bs(l:List Cue)(c:Cue)(hl:l.length<=1000000):Pure Tryz.prog aD 42 [.sl .ro (l.map Qh),.agg (Qh c)] (mg c l):=by
 have cv:=sU c;refine Qp akh (fun _ f _=>if f=49 then .bool (iw c)else .junk) zd ?_;cases hc:iw c with
 |false=>
  rw[hc]at cv;simp[abP,Et,Qh,mg,hc];exact cv
 |true=>
  rw[hc]at cv;simp[abP,Qh];refine⟨cv,?_⟩;refine Qj eM (asK c l) (fun f _=>l.length-(numOf (f 18)).toNat) ?_ ?_
  ·refine⟨0,!decide (c.to=0),[],[],[],zd,?_,zE,zd,.inl ⟨rfl,zd,rfl⟩,zd,by simp[Qh]⟩;simp;try(rw[zzcr];simp)
  rintro f m ⟨i,p,o,bx,ls,h18,h7,hi,hR,hO,FM,rfl⟩;rcases zzaa i l.length with ah|bu
  ·obtain⟨x,hx⟩:=aV ah;have ai:Qi (l.map Qh) i=Qh x:=Qw (by simp[hx]);have aa:(i:Int)<(l.length:Int):=zE
   have hw:=bO i zE;have hd:l.drop i=x::l.drop (i+1):=by rw[zzai ah,(zza.1 hx).2]
   rw[hd,gQ]at hR;by_cases aK:x.id=c.id
   ·rw[ac aK]at hR;simp[h18,h7,eM,aa,ai,hw,Qh,aK];refine⟨aQ,⟨i+1,p,o,bx++[Qh x],ls,zd,zd,zE,hR,Nm hO,zE,by simp[Qh,aK]⟩,zE⟩
   rw[ab aK]at hR
   have SI:∀(z:List Cue)(row:P2),((∃a,a∈z/\Qh a=row)\/row=Qh c\/row=Qh x)->row.length=5:=by
    rintro z row (⟨a,_,rfl⟩|rfl|rfl)<;>rfl
   by_cases hp:p=true/\c.id<x.id
   ·rw[ac hp]at hR;obtain⟨rfl,hp⟩:=hp;obtain⟨rfl,h6,rfl⟩|⟨ho,h6,rfl⟩:=hO
    ·simp[h18,h7,h6,eM,aa,ai,hw,Qh,aK,hp];refine⟨aQ,⟨i+1,false,[c,x],bx++[Qh x],[2],zd,zd,zE,Nm hR,.inr ⟨zd,by simp[Qh],rfl⟩,by simp;omega,by simp[Qh]⟩,zE⟩
    simp[h18,h7,h6,eM,aa,ai,hw,Qh,aK,hp];refine⟨⟨by rintro row (⟨a,_,rfl⟩|rfl)<;>rfl,zE⟩,⟨by rintro row (⟨a,_,rfl⟩|rfl|rfl)<;>rfl,zE⟩,ag ?_,⟨i+1,false,o++[c,x],bx++[Qh x],[o.length+2],zd,zd,zE,Nm hR,.inr ⟨zd,by simp[Qh],zd⟩,by simp;omega,by simp[Qh]⟩,zE⟩;repeat(first|exact Qb _ _|refine Qc _ rfl ?_)
   rw[ab hp]at hR;obtain⟨rfl,h6,rfl⟩|⟨ho,h6,rfl⟩:=hO
   ·cases p with
    |false=>
     simp[h18,h7,h6,eM,aa,ai,hw,Qh,aK];refine⟨aQ,⟨i+1,false,[x],bx++[Qh x],[1],zd,zd,zE,Nm hR,.inr ⟨zd,by simp[Qh],rfl⟩,by simp;omega,by simp[Qh]⟩,zE⟩
    |true=>
     have VT:¬c.id<x.id:=fun h=>hp ⟨rfl,h⟩;simp[h18,h7,h6,eM,aa,ai,hw,Qh,aK,VT];refine⟨aQ,⟨i+1,true,[x],bx++[Qh x],[1],zd,zd,zE,Nm hR,.inr ⟨zd,by simp[Qh],rfl⟩,by simp;omega,by simp[Qh]⟩,zE⟩
   cases p with
   |false=>
    simp[h18,h7,h6,eM,aa,ai,hw,Qh,aK];refine⟨⟨by rintro row (⟨a,_,rfl⟩|rfl)<;>rfl,zE⟩,ag ?_,⟨i+1,false,o++[x],bx++[Qh x],[o.length+1],zd,zd,zE,Nm hR,.inr ⟨zd,by simp[Qh],zd⟩,by simp;omega,by simp[Qh]⟩,zE⟩;repeat(first|exact Qb _ _|refine Qc _ rfl ?_)
   |true=>
    have VT:¬c.id<x.id:=fun h=>hp ⟨rfl,h⟩;simp[h18,h7,h6,eM,aa,ai,hw,Qh,aK,VT];refine⟨⟨by rintro row (⟨a,_,rfl⟩|rfl)<;>rfl,zE⟩,ag ?_,⟨i+1,true,o++[x],bx++[Qh x],[o.length+1],zd,zd,zE,Nm hR,.inr ⟨zd,by simp[Qh],zd⟩,by simp;omega,by simp[Qh]⟩,zE⟩;repeat(first|exact Qb _ _|refine Qc _ rfl ?_)
  obtain rfl:i=l.length:=zE
  rw[zzc,gQ]at hR;obtain⟨rfl,h6,rfl⟩|⟨ho,h6,rfl⟩:=hO
  ·cases p with
   |false=>
    simp at hR;simp[h18,h7,h6,eM,Et,Qh,mg,hc,hR]
   |true=>
    simp at hR;simp[h18,h7,h6,eM,Et,Qh,mg,hc,<- hR]
  cases p with
  |false=>
   simp at hR;by_cases hb:200<o.length
   ·have cK:(200:Int)<(o.length:Int):=zE
    simp[h18,h7,h6,eM,Et,Qh,mg,hc,<- hR,hb,cK]
   have cK:¬(200:Int)<(o.length:Int):=zE
   simp[h18,h7,h6,eM,Et,Qh,mg,hc,<- hR,hb,cK,ho]
  |true=>
   simp at hR;have aH:(o++[c]).length=o.length+1:=zd
   by_cases hb:200<o.length+1
   ·have cK:(200:Int)<(o.length:Int)+1:=zE
    simp[h18,h7,h6,eM,Et,Qh,mg,hc,<- hR,hb,cK];exact⟨by rintro row (⟨a,_,rfl⟩|rfl)<;>rfl,zE⟩
   have cK:¬(200:Int)<(o.length:Int)+1:=zE
   simp[h18,h7,h6,eM,Et,Qh,mg,hc,<- hR,hb,cK,ho];exact⟨by rintro row (⟨a,_,rfl⟩|rfl)<;>rfl,zE⟩
def Rx(p:Pl):Pl:={p with sh:=p.sh.take 10,aM:=p.aM.take 20,bks:=p.bks.take 10,cls:=p.cls.take 20,ens:=p.ens.take 12,ln:=if 1500<p.ln then 1500 else p.ln}
def Qds{α:Type}(l:List α)(n:Nat):l.take (if(n:Int)<(l.length:Int)then(n:Int)else(l.length:Int)).toNat=l.take n:=by
 split
 ·simp
 rw[zzau zd,zzau zE]
def sY{a:Nat}(n:Nat):(if(n:Int)<(a:Int)then(n:Int)else(a:Int))<=a:=by split<;>omega
def sZ{a:Nat}(n:Nat):0<=(if(n:Int)<(a:Int)then(n:Int)else(a:Int)):=by split<;>omega
def Ls(p:Pl):Pure Tryz.prog aD 14 [.agg (Qa p)] (.agg (Qa (Rx p))):=by
 have t1:=Qds (p.sh.map Qe) 10;have t2:=Qds (p.aM.map Qm) 20;have t3:=Qds (p.bks.map Xi) 10;have t4:=Qds (p.cls.map Qg) 20;have t5:=Qds (p.ens.map Qd) 12;simp only[zzbw]at t1 t2 t3 t4 t5;have a1:=sY (a:=p.sh.length) 10;have a2:=sY (a:=p.aM.length) 20;have a3:=sY (a:=p.bks.length) 10;have a4:=sY (a:=p.cls.length) 20;have a5:=sY (a:=p.ens.length) 12;have b1:=sZ (a:=p.sh.length) 10;have b2:=sZ (a:=p.aM.length) 20;have b3:=sZ (a:=p.bks.length) 10;have b4:=sZ (a:=p.cls.length) 20;have b5:=sZ (a:=p.ens.length) 12;simp at a1 a2 a3 a4 a5 b1 b2 b3 b4 b5 t1 t2 t3 t4 t5;refine Qp ajX (fun _ _ _=>.junk) zd ?_;simp[aoS,aoT,Qa,Rx,t1,t2,t3,t4,t5,a1,a2,a3,a4,a5,b1,b2,b3,b4,b5];exact⟨by rintro row a b _ rfl;rfl,fun _ _=>rfl,fun _ _=>rfl,fun _ _=>rfl,fun _ _=>rfl⟩
def GX(g:Pg)(f:Int)(q:Pl)(d:Int)(er:P2):P2:=[.ep (Qa q++[I d]) 0,.ep (Qk g++[I f,.junk]) 0,.ep er 0]
def Qdh(g:Pg)(f:Int)(q:Pl)(d:Int)(a0 a1 a2:AV)(fr:Int)(r:P2)(item region:Int)(h1:q.cls.length<=1000000)(h2:q.sh.length<=1000000000)(h3:q.aM.length<=1000000000):
  Pure Tryz.prog aD 161 ([I item,I region]++GX g f q d (a0::a1::a2::I fr::r)) (.bool (Xv q item region f fr)):=by
 have k:=Qeo q item region f fr h1 h2 h3;simp only[Qa]at k;refine Qp acX (fun _ _ _=>.bool (Xv q item region f fr)) (by simp[GX]) ?_;simp[ahp,ahq,GX,Qa,Qk];exact k
def zX(g:Pg)(f:Int)(o:Od)(q:Pl)(d:Int)(e:aW):Option Int:=
 if o.ki=1/\o.en=e.id then some (rq g e.id+d-f)
 else if o.ki=2/\o.en=e.id then none
 else if o.ki=4/\Xv q e.it 0 f (uQ f e).fr=false then none
 else some (uQ f e).fr
def s5(q:Pl)(f:Int):UV:=fun _ k l=>if k=161 then(match l with
 |[.int _ it,.int _ re,_,_,.ep (_::_::_::.int _ F::_) 0]=>.bool (Xv q it re f F)
 |_=>.junk)else .gd false .junk
def jH(q:Pl)(f:Int)(id F:Int)(l:List Sp):List Sp:=l.filter fun a=>Xv q a.2 a.1 f F
def amm(ml:Pa)(o:List Sp)(v:AV)(ls:Pa):Prop:=(o=[]/\v=.sl .nil []/\ls=ml)\/(o≠[]/\v=.sl (.own ml.length 2) (o.map Qe)/\ls=ml++[o.length])
def asL(mb:T5)(ml:Pa)(ms:Nat->LS)(mn:Nat)(r0 r1 r2 pre:P2)(al:List Sp)(A:List Sp->List Sp)(s:Nat->AV)(m:AM):Prop:=
 ∃(j:Nat)(bx:T5)(ls:Pa)(v:AV),s 106=I j/\j<=al.length/\amm ml (A (al.take j)) v ls/\m=⟨mb++(r0::r1::r2::nI::(pre++[v])::bx),ls,ms,mn⟩
def rA(q:Pl)(f:Int)(it F:Int)(n:Nat):Int:=Ut (fun r=>Xv q it r f F) n
def afj(b:Nat->Bool)(i:Nat)(h:i<8):IntKind.i64.wrap ((((Ut b i%2 ^ IntKind.i64.bits).toNat|||(IntKind.i64.wrap (2 ^ min i IntKind.i64.bits)%2 ^ IntKind.i64.bits).toNat:Nat)):Int)=Ut b i+2 ^ i:=by
 have gJ:=Da b i;obtain⟨x,hx⟩:∃x:Nat,Ut b i=(x:Int):=⟨(Ut b i).toNat,zE⟩
 have N2:x<2 ^ i:=by
  have h2:=gJ.2;rw[hx]at h2
  exact_mod_cast h2
 rw[hx];exact X7 i h x N2
def Lt:SC:=(⟨_,by cbv⟩:J3 [1,1,1,1,1,1] Ah).1
def ZT:SC:=(⟨_,fun _=>by cbv⟩:Ft [1,1,1,1,1,1] Ah).1 Lt
theorem GY:Ah=ZT:=rfl
def yj(Y:YT)(mb:T5)(ml:Pa)(ms:Nat->LS)(mn:Nat)(g:Pg)(f:Int)(mid:Nat)(R1:P2)(q:Pl)(V:AV)(rt:Rt)(d:Int)(e:aW)(F:Int)(E0:QQ)(x5 x6:AV)(hV:me mb V q.ens)(aY:Du rt)(hq:Bm q)(N5:0<=q.rg/\q.rg<=8)(K:So)
  (h3:Abs.look E0 3=.ptr mb.length 0)(h5:Abs.look E0 5=.ptr (mb.length+2) 0)(h6:Abs.look E0 6=.ptr (mb.length+3) 0)(h8:Abs.look E0 8=.ptr (mb.length+4) 0)(nq:Abs.look E0 11=.fn 161 [] [.ptr (mb.length+2) 0,.ptr mb.length 0,.ptr (mb.length+4) 0])
  (h1:∀ex ls v,amm ml (jH q f e.id F ((Xn e.id q.ens).getD yh).al) v ls->K (.aS [.agg [I e.id,I e.it,I f,I F,I (e.i+(f-e.st)),I (rA q f e.it F q.rg.toNat),v],.bool true]) ⟨mb++ex,ls,ms,mn⟩):
  vc Tryz.prog aD (s5 q f) Y Lt ⟨Vw 124 E0,⟨mb++[Qr g f mid,R1,Xr q V (.sl rt (q.cls.map Qg)) d,nI,[I e.id,I e.it,I f,I F,I (e.i+(f-e.st)),x5,x6]],ml,ms,mn⟩⟩ (wD Tryz.prog aD (s5 q f) Ex K):=by
 obtain⟨q1,q2,q3,q4,q5,q6⟩:=hq;have hc:=hV.cell;have gA:=fun ex ml d=>hV.bB ex ml ms mn d;simp[Lt,h5,h8,Qr,Qk,Qa,Xr,nI];refine Qj I2 (fun s m=>∃i:Nat,s 80=I i/\(i:Int)<=q.rg/\m=⟨mb++[Qr g f mid,R1,Xr q V (.sl rt (q.cls.map Qg)) d,nI,[I e.id,I e.it,I f,I F,I (e.i+(f-e.st)),I (rA q f e.it F i),.sl .nil []]],ml,ms,mn⟩) (fun s _=>(q.rg-numOf (s 80)).toNat) ?_ ?_
 ·exact⟨0,zd,by simp;omega,by simp[Qr,Qk,Qa,Xr,nI,rA,Ut]⟩
 rintro s m ⟨i,h80,hi,rfl⟩;by_cases ah:(i:Int)<q.rg
 ·have hw:=bO i zE;have kc:=Qdh g f q d (I e.id) (I e.it) (I f) F [I (e.i+(f-e.st)),I (rA q f e.it F i),.sl .nil []] e.it i q5 zE zE;simp only[GX,Qa,Qk,zzae,zzag]at kc;simp[h8,nq,h80,I2,ah,hw,Qr,Qk,Qa,Xr,nI,s5,gA,aY _ _ _];have hor:=afj (fun r=>Xv q e.it r f F) i zE;refine⟨kc,?_⟩;have dL:rA q f e.it F (i+1)=rA q f e.it F i+if Xv q e.it (i:Int) f F=true then 2 ^ i else 0:=rfl;split
  ·rename_i ha;rw[ac ha]at dL;refine⟨aQ,⟨i+1,zd,zE,by rw[dL];exact hor⟩,zE⟩
  rename_i ha;rw[ab ha]at dL;refine⟨aQ,⟨i+1,zd,zE,by rw[dL];simp⟩,zE⟩
 have kn:=fun ex K hK=>Ot Y ⟨mb++ex,ml,ms,mn⟩ q V rt e.id (hV.ext ex) zE q6 K hK;simp only[Ji]at kn;simp[h5,h8,h80,I2,ah,Qr,Qk,Qa,Xr,nI,s5];refine kn _ _ ?_;rw[GW];generalize rtE (Xn e.id q.ens)=r7;generalize(Xn e.id q.ens).isSome=b7;obtain⟨E,hE⟩:∃E,(Xn e.id q.ens).getD yh=E:=⟨_,rfl⟩;rw[hE]
 have hEl:E.al.length<=8796093022208:=by
  rw[<- hE];cases hf:Xn e.id q.ens with
  |none=>simp[yh]
  |some x=>exact q6 x (Qbi hf).1
 have hiq:i=q.rg.toNat:=zE
 rw[hE]at h1;simp[Ex];refine Qj BS (asL mb ml ms mn (Qr g f mid) R1 (Xr q V (.sl rt (q.cls.map Qg)) d) [I e.id,I e.it,I f,I F,I (e.i+(f-e.st)),I (rA q f e.it F i)] E.al (jH q f e.id F)) (fun s _=>E.al.length-(numOf (s 106)).toNat) ?_ ?_
 ·exact⟨0,_,ml,.sl .nil [],zd,zE,.inl ⟨by simp[jH],rfl,rfl⟩,by simp[Qr,Qk,Qa,Xr,nI];rfl⟩
 rintro s2 m ⟨j,bx,ls,v,h106,hj,hO,rfl⟩;rcases zzaa j E.al.length with P8|hgj
 ·obtain⟨a,ha⟩:=aV P8;have ai:=Zy ha;have asM:(j:Int)<(E.al.length:Int):=zE
  have hw:=bO j zE
  have bz:jH q f e.id F (E.al.take (j+1))=jH q f e.id F (E.al.take j)++if Xv q a.2 a.1 f F=true then[a]else[]:=by
   unfold jH;rw[zzay,ha,zzdb];congr 1;by_cases hh:Xv q a.2 a.1 f F=true<;>simp[hh]
  have FM:(jH q f e.id F (E.al.take j)).length<=j:=by
   refine zzbb (zzcf _ _) ?_;simp;omega
  generalize jH q f e.id F (E.al.take j)=oL at hO bz FM;obtain⟨rfl,rfl,rfl⟩|⟨ho,rfl,rfl⟩:=hO
  ·have kc:=Qdh g f q d (I e.id) (I e.it) (I f) F [I (e.i+(f-e.st)),I (rA q f e.it F i),.sl .nil []] a.2 a.1 q5 zE zE;simp only[GX,Qa,Qk,zzae,zzag]at kc;simp[h8,nq,h106,BS,asM,ai,hw,Qr,Qk,Qa,Xr,nI,s5,gA,aY _ _ _];refine⟨kc,?_⟩;split
   ·rename_i hh;rw[ac hh]at bz;refine⟨aQ,⟨j+1,bx++[[I a.1,I a.2]],ls++[1],.sl (.own ls.length 2) [Qe a],zd,zE,.inr ⟨by rw[bz];simp,by rw[bz];rfl,by rw[bz];rfl⟩,by simp[nI,Qe]⟩,zE⟩
   rename_i hh;rw[ab hh]at bz;refine⟨aQ,⟨j+1,bx++[[I a.1,I a.2]],ls,.sl .nil [],zd,zE,.inl ⟨by rw[bz];rfl,rfl,rfl⟩,by simp[nI]⟩,zE⟩
  have kc:=Qdh g f q d (I e.id) (I e.it) (I f) F [I (e.i+(f-e.st)),I (rA q f e.it F i),.sl .ro (oL.map Qe)] a.2 a.1 q5 zE zE;simp only[GX,Qa,Qk,zzae,zzag]at kc;simp[h8,nq,h106,BS,asM,ai,hw,Qr,Qk,Qa,Xr,nI,s5,gA,aY _ _ _];refine⟨kc,?_⟩
  have SI:∀row:P2,((∃x y,(x,y)∈oL/\Qe (x,y)=row)\/row=Qe a)->row.length=2:=by
   rintro row (⟨x,y,_,rfl⟩|rfl)<;>rfl
  split
  ·rename_i hh;rw[ac hh]at bz;refine⟨⟨SI,zE⟩,aQ,⟨j+1,bx++[[I a.1,I a.2]],ml++[oL.length+1],.sl (.own ml.length 2) ((oL++[a]).map Qe),zd,zE,.inr ⟨by rw[bz];simp,by rw[bz],by rw[bz];simp⟩,by simp[nI,Qe]⟩,zE⟩
  rename_i hh;rw[ab hh,zzat]at bz;refine⟨aQ,⟨j+1,bx++[[I a.1,I a.2]],ml++[oL.length],.sl (.own ml.length 2) (oL.map Qe),zd,zE,.inr ⟨by rw[bz];exact ho,by rw[bz],by rw[bz]⟩,by simp[nI]⟩,zE⟩
 obtain rfl:j=E.al.length:=zE
 rw[zzbu]at hO;have bK:Qx v=true:=by rcases hO with⟨_,rfl,_⟩|⟨_,rfl,_⟩<;>rfl
 have h1:=fun ex=>h1 ex ls v hO;rw[<- hiq]at h1;simp[h6,h8,h106,BS,Qr,Qk,Qa,Xr,nI,bK];exact h1 _
def afk(Y:YT)(m:AM)(g:Pg)(f:Int)(mid:Nat)(b:QR)(o:Od)(q:Pl)(V:AV)(rt:Rt)(d:Int)(hV:me m.boxes V q.ens)(aY:Du rt)(h:lC g f)(hb:fN m.boxes mid b)(hq:Bm q)(hd:0<=d/\d<=1000000000)(N5:0<=q.rg/\q.rg<=8)(K:So)
  (h1:∀e F,Uc g f b=some e->zX g f o q d e=some F->F≠0->∀ex ls v,amm m.lens (jH q f e.id F ((Xn e.id q.ens).getD yh).al) v ls->K (.aS [.agg [I e.id,I e.it,I f,I F,I (e.i+(f-e.st)),I (rA q f e.it F q.rg.toNat),v],.bool true]) {m with boxes:=m.boxes++ex,lens:=ls})
  (h0:(Uc g f b).bind (zX g f o q d)=none\/(Uc g f b).bind (zX g f o q d)=some 0->∀ex,K (.aS [.agg nI,.bool false]) {m with boxes:=m.boxes++ex}):
  aB Tryz.prog aD Y 106 [.agg (Qr g f mid),.agg (Qq o),.agg (Xr q V (.sl rt (q.cls.map Qg)) d)] m K:=by
 obtain⟨mb,ml,ms,mn⟩:=m;obtain⟨q1,q2,q3,q4,q5,q6⟩:=hq;have hc:=hV.cell;have hB:∀ex,fN (mb++ex) mid b:=fun ex=>⟨by have:=hb.1;simp at this |-;omega,hb.ext ex⟩;have kp:=fun ex K hK=>ai5 Y ⟨mb++ex,ml,ms,mn⟩ g f mid b h (hB ex) K hK;simp only[Qr,Qk,Qa,zzae,zzag]at kp;have gA:=fun ex ml d=>hV.bB ex ml ms mn d;cases hp:Uc g f b with
 |none=>
  have h0:=h0 (by rw[hp];exact .inl rfl);refine Xo MI (fun _ f _=>.gd false .junk) zd ?_;simp[GY,ZT,Ex,Qr,Qk,Qa,Qq,Qd,Qg,Qh,Xr,hc];refine kp _ _ ?_;simp[Uq,hp];simp[nI]at h0;exact h0 _
 |some e=>
  refine Xo MI (s5 q f) zd ?_;simp[GY,ZT,Ex,Qr,Qk,Qa,Qq,Qd,Qg,Qh,Xr,hc,s5];refine kp _ _ ?_;have IE:=Ds h e.id;have hfs:=h.2.2.1;unfold nG at hfs;by_cases dK:o.ki=1
  ·by_cases aK:o.en=e.id
   ·have w1:IntKind.i64.wrap (rq g e.id+d)=rq g e.id+d:=by rw[Ql]<;>omega
    have w2:IntKind.i64.wrap (rq g e.id+d-f)=rq g e.id+d-f:=by rw[Ql]<;>omega
    obtain⟨F,hF⟩:∃F,rq g e.id+d-f=F:=⟨_,rfl⟩;have wF:IntKind.i64.wrap F=F:=by rw[<- hF];exact w2
    have w0:IntKind.i64.wrap 0=0:=by decide
    have qc:(Uc g f b).bind (zX g f o q d)=some F:=by rw[hp];simp[zX,dK,aK,hF]
    by_cases qn:F=0
    ·have h0:=h0 (by rw[qc,qn];exact .inr rfl);simp[Uq,hp,Qf,uQ,dK,aK,w1,w0,hF,qn];simp[nI]at h0;exact h0 _
    simp[Uq,hp,Qf,uQ,dK,aK,w1,wF,hF,qn];refine yj Y mb ml ms mn g f mid _ q V rt d e F _ _ _ hV aY ⟨q1,q2,q3,q4,q5,q6⟩ N5 K ?_ ?_ ?_ ?_ ?_ (h1 e F hp (by simpa[hp]using qc) qn)<;>simp
   have w0:True:=trivial;obtain⟨F,hF⟩:∃F,e.fr-(f-e.st)=F:=⟨_,rfl⟩;have qc:(Uc g f b).bind (zX g f o q d)=some F:=by rw[hp];simp[zX,uQ,hF,dK,aK]
   by_cases qn:F=0
   ·have h0:=h0 (by rw[qc,qn];exact .inr rfl);simp[Uq,hp,Qf,uQ,dK,aK,hF,qn];simp[nI]at h0;exact h0 _
   simp[Uq,hp,Qf,uQ,dK,aK,hF,qn];refine yj Y mb ml ms mn g f mid _ q V rt d e F _ _ _ hV aY ⟨q1,q2,q3,q4,q5,q6⟩ N5 K ?_ ?_ ?_ ?_ ?_ (h1 e F hp (by simpa[hp]using qc) qn)<;>simp
  by_cases eE:o.ki=2
  ·by_cases aK:o.en=e.id
   ·have w0:True:=trivial;have h0:=h0 (by rw[hp];simp[zX,eE,aK]);simp[Uq,hp,Qf,uQ,eE,aK];simp[nI]at h0;exact h0 _
   have w0:True:=trivial;obtain⟨F,hF⟩:∃F,e.fr-(f-e.st)=F:=⟨_,rfl⟩;have qc:(Uc g f b).bind (zX g f o q d)=some F:=by rw[hp];simp[zX,uQ,hF,eE,aK]
   by_cases qn:F=0
   ·have h0:=h0 (by rw[qc,qn];exact .inr rfl);simp[Uq,hp,Qf,uQ,eE,aK,hF,qn];simp[nI]at h0;exact h0 _
   simp[Uq,hp,Qf,uQ,eE,aK,hF,qn];refine yj Y mb ml ms mn g f mid _ q V rt d e F _ _ _ hV aY ⟨q1,q2,q3,q4,q5,q6⟩ N5 K ?_ ?_ ?_ ?_ ?_ (h1 e F hp (by simpa[hp]using qc) qn)<;>simp
  by_cases N0:o.ki=4
  ·cases ha0:Xv q e.it 0 f (e.fr-(f-e.st))with
   |false=>
    have h0:=h0 (by rw[hp];simp[zX,uQ,N0,ha0]);have kc0:=Qdh g f q d (I e.id) (I e.it) (I f) (e.fr-(f-e.st)) [I (e.i+(f-e.st)),I e.re,.sl .ro (e.al.map Qe)] e.it 0 q5 zE zE;simp only[GX,Qa,Qk,zzae,zzag]at kc0;rw[ha0]at kc0;simp[Uq,hp,Qf,uQ,N0,gA,aY _ _ _,ha0];simp[nI]at h0;exact⟨kc0,h0 _⟩
   |true=>
    obtain⟨F,hF⟩:∃F,e.fr-(f-e.st)=F:=⟨_,rfl⟩;rw[hF]at ha0;have qc:(Uc g f b).bind (zX g f o q d)=some F:=by rw[hp];simp[zX,uQ,hF,N0,ha0]
    have kc0:=Qdh g f q d (I e.id) (I e.it) (I f) F [I (e.i+(f-e.st)),I e.re,.sl .ro (e.al.map Qe)] e.it 0 q5 zE zE;simp only[GX,Qa,Qk,zzae,zzag]at kc0;rw[ha0]at kc0;by_cases qn:F=0
    ·have h0:=h0 (by rw[qc,qn];exact .inr rfl);rw[qn]at ha0 kc0;simp[Uq,hp,Qf,uQ,N0,gA,aY _ _ _,hF,ha0,qn];simp[nI]at h0;exact⟨kc0,h0 _⟩
    simp[Uq,hp,Qf,uQ,N0,gA,aY _ _ _,hF,ha0,qn];refine⟨kc0,?_⟩;refine yj Y mb ml ms mn g f mid _ q V rt d e F _ _ _ hV aY ⟨q1,q2,q3,q4,q5,q6⟩ N5 K ?_ ?_ ?_ ?_ ?_ (h1 e F hp (by simpa[hp]using qc) qn)<;>simp
  have w0:True:=trivial;obtain⟨F,hF⟩:∃F,e.fr-(f-e.st)=F:=⟨_,rfl⟩;have qc:(Uc g f b).bind (zX g f o q d)=some F:=by rw[hp];simp[zX,uQ,hF,dK,eE,N0]
  by_cases qn:F=0
  ·have h0:=h0 (by rw[qc,qn];exact .inr rfl);simp[Uq,hp,Qf,uQ,dK,eE,N0,hF,qn];simp[nI]at h0;exact h0 _
  simp[Uq,hp,Qf,uQ,dK,eE,N0,hF,qn];refine yj Y mb ml ms mn g f mid _ q V rt d e F _ _ _ hV aY ⟨q1,q2,q3,q4,q5,q6⟩ N5 K ?_ ?_ ?_ ?_ ?_ (h1 e F hp (by simpa[hp]using qc) qn)<;>simp
end
