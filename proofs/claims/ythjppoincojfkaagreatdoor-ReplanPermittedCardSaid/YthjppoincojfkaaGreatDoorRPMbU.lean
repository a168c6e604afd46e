import Derived.Test.YthjppoincojfkaaGreatDoorRPMbN
set_option linter.all false
set_option maxRecDepth 100000
set_option maxHeartbeats 64000000
namespace Go.Proofs.YthjppoincojfkaaGreatDoor
noncomputable section
open Go Go.Abs
def zT(x:Int):Pi->Nat->Int
 |[],_=> -1
 |a::r,i=>if x=a then i else zT x r (i+1)
def GU(x:Int):∀(L:Pi)(i:Nat),(0<=zT x L i)=(x∈L)
 |[],i=>by simp[zT]
 |a::r,i=>by
  unfold zT;by_cases h:x=a
  ·rw[if_pos h];simp[h]
  rw[if_neg h,GU x r (i+1)];simp[h]
def ZJ(L:Pi)(x:Int)(hl:L.length<=1000000000):Pure Tryz.prog aD 162 [.sl .ro (L.map Qy),I x] (I (zT x L 0)):=by
 refine Qp acJ (fun _ _ _=>.junk) zd ?_;simp[ahd];refine Qi B7 (fun f m=>∃i:Nat,f 8=I i/\i<=L.length/\zT x (L.drop i) i=zT x L 0/\m=⟨[],[],fun _=>.gone,0⟩) (fun f _=>L.length-(numOf (f 8)).toNat) ?_ ?_
 ·exact⟨0,zd,zE,zd,rfl⟩
 rintro f m ⟨i,f8,hi,hr,rfl⟩;rcases zzaa i L.length with ai|bq
 ·obtain⟨a,ha⟩:=aV ai;have ah:Qh (L.map Qy) i=[I a]:=Qu (by simp[ha,Qy]);have aa:(i:Int)<(L.length:Int):=zE
  have hw:=bP i zE;have hd:L.drop i=a::L.drop (i+1):=by rw[zzag ai,(zza.1 ha).2]
  rw[hd,zT]at hr;by_cases hP:x=a
  ·rw[if_pos hP]at hr;simp[f8,B7,TS,aa,ah,hP];rw[<- hP];exact hr
  rw[if_neg hP]at hr;simp[f8,B7,aa,ah,hP,hw];refine⟨aQ,⟨i+1,zd,zE,hr⟩,zE⟩
 obtain rfl:i=L.length:=zE
 rw[zzbu,zT]at hr;simp[f8,B7,TS];exact hr
def jR(L:Pi)(x:Int)(hl:L.length<=1000000000):Pure Tryz.prog aD 107 [.sl .ro (L.map Qy),I x] (.bool (decide (x∈L))):=by
 have k:=ZJ L x hl;refine Qp abW (fun _ _ _=>I (zT x L 0)) zd ?_;simp[agB,agC];refine⟨k,?_⟩;simp[<- GU x L 0]
def Dz(e:bC)(id:Int):Pure Tryz.prog aD 152 [.agg (Qe e),.ep [I id] 0] (.bool (decide (e.id=id))):=by
 refine Qp acC (fun _ _ _=>.junk) zd ?_;simp[ag9,aha,Qe];rw[zzcy];simp
def DA(g:Pg)(id:Int):Bool:=(g.ev.find? (fun e=>decide (e.id=id))).isSome
def DB(L:List bC)(id:Int)(hl:L.length<=1000000000):Pure Tryz.prog aD 151 [.sl .ro (L.map Qe),.fn 152 [] [.ep [I id] 0]] (.bool (L.find? (fun e=>decide (e.id=id))).isSome):=by
 have k:=x8 L (fun e=>decide (e.id=id)) 152 [] [.ep [I id] 0] hl (fun _=>rfl) (fun _=>zd) (fun e _=>Dz e id) (fun _ _ xs=>match xs with|.agg (.int _ n::_)::_=>.bool (decide (n=id))|_=>.junk) (fun _ e _=>rfl);refine Qp acB (fun _ _ _=>I (Uf (fun e=>decide (e.id=id)) L 0)) zd ?_;cases hf:L.find? (fun e=>decide (e.id=id))with
 |none=>
  rw[Qbj hf]at k |-
  simp[TN,TO];exact k
 |some e=>
  obtain⟨n,g1,_,_⟩:=Ke (i:=0) hf;rw[g1,zzbs]at k |-
  simp[TN,TO];exact k
def kX(g:Pg)(o:Od):Bool:=!DA g o.nw.id&&(decide (Yi g o.nw.id<0)&&!decide (o.nw.id∈g.dr))
def Ls(Y:YT)(m:AM)(g:Pg)(f:Int)(mid:Nat)(o:Od)(q:Pl)(V:AV)(rt:Rt)(d:Int)(hV:mH m.boxes V q.ens)(h:lT g f)(hd:g.dr.length<=1000000000):
  aB Tryz.prog aD Y 94 [.agg (Qr g f mid),.agg (Qq o),.agg (Xr q V (.sl rt (q.cls.map Qg)) d)] m (fun r m'=>m'=m/\r=.bool (kX g o)):=by
 obtain⟨mb,ml,ms,mn⟩:=m;have hc:=hV.cell;have k:=fun ex K hK=>Ll Y ⟨mb++ex,ml,ms,mn⟩ g f mid o.nw.id h K hK;simp only[Qr,Qm,Qa,zzae,zzai]at k;have k1:=DB g.ev o.nw.id h.1;have k2:=jR g.dr o.nw.id hd;refine aB.read (Xn akW (fun _ f _=>if f=151 then .bool (DA g o.nw.id)else if f=107 then .bool (decide (o.nw.id∈g.dr))else .gd false .junk) zd ?_);cases hh:DA g o.nw.id with
 |true=>
  unfold DA at hh;rw[hh]at k1;simp[akU,akV,Qr,Qm,Qa,Qq,Qd,Qg,Qk,Xr,hc,kX,DA,hh];exact⟨k1,nU⟩
 |false=>
  unfold DA at hh;rw[hh]at k1;simp[akU,akV,Qr,Qm,Qa,Qq,Qd,Qg,Qk,Xr,hc,kX,DA,hh];refine⟨k1,k _ _ ?_⟩;by_cases hp:Yi g o.nw.id<0
  ·simp[hp];exact⟨k2,nU⟩
  simp[hp];exact nU
open Go Go.Abs
def yd:En:=⟨0,0,0,0,0,0,[]⟩
def Qba(g:Pg)(f:Int)(b:QR)(o:Od)(q:Pl)(d:Int):Bool:=
 if Dt g f b o.en=true then false
 else if o.en∈g.dr then false
 else if d<1 then false
 else match Xj ((Xb o.en q.ens).getD yd).it q.aM with
  |none=>false
  |some x=>if x.ki≠4 then false
   else match zb g f b o.en with
    |none=>true
    |some st=>if q.ln-d<st then false else if st+d-f=0 then true else Xd q ((Xb o.en q.ens).getD yd).it 0 f (st+d-f)
def GV(g:Pg)(F:Int)(b:QR)(o:Od)(q:Pl)(d:Int):UV:=fun _ f _=>if f=107 then .bool (decide (o.en∈g.dr))else if f=18 then .bool (Xd q ((Xb o.en q.ens).getD yd).it 0 F ((zb g F b o.en).getD 0+d-F))else .gd false .junk
def Rf(Y:YT)(m:AM)(q:Pl)(V:AV)(rt:Rt)(id:Int)(hc:Qx V=true)(hl:q.aM.length<=1000000000):
  aB Tryz.prog aD Y 17 [.agg (Jg q V (.sl rt (q.cls.map Qg))),I id] m (fun r m'=>m'=m/\r=Zj (Xj id q.aM)):=by
 obtain⟨mb,ml,ms,mn⟩:=m;have h:=yf q.aM id hl;refine aB.read (Xn SP (fun _ f l=>if f=36 then Zj (Xj id q.aM)else .junk) zd ?_);cases hf:Xj id q.aM with
 |none=>
  rw[hf]at h;simp[SM,SN,Jg,hc,Zj];exact⟨h,nU⟩
 |some x=>
  rw[hf]at h;simp[SM,SN,Jg,hc,Zj,Qj];exact⟨h,nU⟩
def amH(Y:YT)(m:AM)(q:Pl)(V:AV)(rt:Rt)(id:Int)(hc:Qx V=true)(hl:q.aM.length<=1000000000)(K:So)(hK:K (Zj (Xj id q.aM)) m):
  aB Tryz.prog aD Y 17 [.agg (Jg q V (.sl rt (q.cls.map Qg))),I id] m K:=
 aB.mono (Rf Y m q V rt id hc hl) (by rintro r m' ⟨rfl,rfl⟩;exact hK)
def rtE:Option En->Rt
 |none=>.nil
 |some _=>.ro
def GW(o:Option En):sM o=.aS [.agg [I (o.getD yd).id,I (o.getD yd).it,I (o.getD yd).fr,I (o.getD yd).ea,I (o.getD yd).la,I (o.getD yd).bo,.sl (rtE o) ((o.getD yd).al.map Qf)],.bool o.isSome]:=by
 cases o<;>rfl
def Lt(Y:YT)(m:AM)(g:Pg)(f:Int)(mid:Nat)(b:QR)(o:Od)(q:Pl)(V:AV)(rt:Rt)(d:Int)(hV:mH m.boxes V q.ens)(aX:Dx rt)(h:lT g f)(hb:fL m.boxes mid b)(fc:g.dr.length<=1000000000)(hq:Bl q)(dD:0<=q.ln/\q.ln<=1000000)(hd:s5 d):
  aB Tryz.prog aD Y 90 [.agg (Qr g f mid),.agg (Qq o),.agg (Xr q V (.sl rt (q.cls.map Qg)) d)] m (fun r m'=>m'=m/\r=.bool (Qba g f b o q d)):=by
 obtain⟨mb,ml,ms,mn⟩:=m;obtain⟨q1,q2,q3,q4,q5,q6⟩:=hq;have hc:=hV.cell;have hB:∀ex,fL (mb++ex) mid b:=fun ex=>⟨by have:=hb.1;simp at this |-;omega,hb.ext ex⟩;have ke:=fun ex K hK=>ate Y ⟨mb++ex,ml,ms,mn⟩ g f mid b o.en h (hB ex) K hK;have ki:=fun ex K hK=>amF Y ⟨mb++ex,ml,ms,mn⟩ g f mid b o.en h (hB ex) K hK;have kn:=fun ex K hK=>On Y ⟨mb++ex,ml,ms,mn⟩ q V rt o.en (hV.ext ex) zE q6 K hK;simp only[Qr,Qm,Qa,Jg,zzae,zzai]at ke ki kn;have k2:=jR g.dr o.en fc;have gz:=fun ex d=>hV.bz ex ml ms mn d;refine aB.read (Xn akO (GV g f b o q d) zd ?_);cases he:Dt g f b o.en with
 |true=>
  simp[Tk,Tl,Qr,Qm,Qa,Qq,Qd,Qg,Qk,Xr,hc,Qba,he,GV];refine ke _ _ ?_;simp[he];exact nU
 |false=>
  by_cases hm:o.en∈g.dr
  ·simp[Tk,Tl,Qr,Qm,Qa,Qq,Qd,Qg,Qk,Xr,hc,Qba,he,hm,GV];refine ke _ _ ?_;simp[he,hm]at k2 |-
   exact⟨k2,nU⟩
  by_cases hd1:d<1
  ·simp[Tk,Tl,Qr,Qm,Qa,Qq,Qd,Qg,Qk,Xr,hc,Qba,he,hm,hd1,GV];refine ke _ _ ?_;simp[he,hm,hd1]at k2 |-
   exact⟨k2,nU⟩
  simp[Tk,Tl,Qr,Qm,Qa,Qq,Qd,Qg,Qk,Xr,hc,Qba,he,hm,hd1,GV];refine ke _ _ ?_;simp[he,hm,hd1]at k2 |-
  refine⟨k2,kn _ _ ?_⟩;obtain⟨e,hE⟩:∃e,(Xb o.en q.ens).getD yd=e:=⟨_,rfl⟩;have kt:=fun ex K hK=>amH Y ⟨mb++ex,ml,ms,mn⟩ q V rt e.it hc zE K hK;simp only[Jg]at kt;rw[GW];generalize rtE (Xb o.en q.ens)=r7;generalize(Xb o.en q.ens).isSome=b7;rw[hE];obtain⟨X,hX⟩:∃X,Xj e.it q.aM=X:=⟨_,rfl⟩;have w0:IntKind.i64.wrap 0=0:=by decide
  simp;refine kt _ _ ?_;cases X with
  |none=>
   simp[hX,Zj];exact .bool _
  |some x=>
   by_cases eO:x.ki=4
   ·have y9:=Qbh q e.it 0 f ((zb g f b o.en).getD 0+d-f) q5 zE zE;simp only[Qa]at y9
    have ei:∀st,zb g f b o.en=some st->0<=st/\st<=1000000:=fun st hh=>by
     unfold zb at hh;split at hh
     ·cases hh
     split at hh
     ·cases hh;exact Dv h _
     cases hh
    have hfs:=h.2.2.1;unfold nT at hfs;unfold s5 at hd;simp[hX,Zj,Qj,eO];refine ki _ _ ?_;cases hi:zb g f b o.en with
    |none=>
     simp[Q6];exact .bool _
    |some st=>
     have fR:=ei st hi;have w1:IntKind.i64.wrap (q.ln-d)=q.ln-d:=by rw[Ql]<;>omega
     rw[hi]at y9;by_cases lH:q.ln-d<st
     ·simp[Q6,w1,lH];exact .bool _
     have w2:IntKind.i64.wrap (st+d)=st+d:=by rw[Ql]<;>omega
     have w3:IntKind.i64.wrap (st+d-f)=st+d-f:=by rw[Ql]<;>omega
     by_cases hz:st+d-f=0
     ·simp[Q6,w1,lH,w2,hz,w0];exact .bool _
     simp[Q6,w1,lH,w2,w3,hz,gz,aX _ _ _];exact⟨Nm y9,.bool _⟩
   simp[hX,Zj,Qj,eO];exact .bool _
open Go Go.Abs
def Xp(f:Int):List bC->QR->QR
 |[],b=>b
 |e::r,b=>Xp f r (if e.st<f then Vf e.id true b else b)
def Eh:P2:=[I 0,I 0,I 0,I 0,.sl .nil [],I 0,I 0,I 0,I 0,.sl .nil [],.sl .nil [],.sl .nil [],.sl .nil [],.sl .nil [],.sl .nil [],I 0,.sl .nil [],I 0,I 0,.nilv false]
def rF(k:Int)(v:Bool):∀l:QR,(Vf k v l).length<=l.length+1
 |[]=>by simp[Vf]
 |x::r=>by
  unfold Vf;split
  ·simp
  have:=rF k v r;simp;omega
open Go Go.Abs
def gQ(c:Cue):Bool->List Cue->List Cue
 |p,[]=>if p=true then[c]else[]
 |p,x::r=>if x.id=c.id then gQ c p r else if p=true/\c.id<x.id then c::x::gQ c false r else x::gQ c p r
def ax0(o:List Cue)(v:AV)(ls:Pa):Prop:=(o=[]/\v=.sl .nil []/\ls=[])\/(o≠[]/\v=.sl (.own 0 5) (o.map Qk)/\ls=[o.length])
def mJ(c:Cue)(l:List Cue):AV:=
 if ir c=true then
  (if 200<(gQ c (!decide (c.to=0)) l).length then .aS [.sl .nil [],I 150]
  else .aS [.sl (if gQ c (!decide (c.to=0)) l=[]then .nil else .ro) ((gQ c (!decide (c.to=0)) l).map Qk),I 0])
 else .aS [.sl .nil [],I 150]
def ati(c:Cue)(l:List Cue)(f:Nat->AV)(m:AM):Prop:=
 ∃(i:Nat)(p:Bool)(o:List Cue)(bx:T5)(ls:Pa),f 18=I i/\f 7=.bool p/\i<=l.length/\o++gQ c p (l.drop i)=gQ c (!decide (c.to=0)) l/\ax0 o (f 6) ls/\o.length<=2*i/\
  m=⟨Qk c::bx,ls,fun _=>.gone,0⟩
def Bq(l:List Cue)(c:Cue)(hl:l.length<=1000000):Pure Tryz.prog aD 42 [.sl .ro (l.map Qk),.agg (Qk c)] (mJ c l):=by
 have cv:=sX c;refine Qp aj5 (fun _ f _=>if f=49 then .bool (ir c)else .junk) zd ?_;cases hc:ir c with
 |false=>
  rw[hc]at cv;simp[abA,Ek,Qk,mJ,hc];exact cv
 |true=>
  rw[hc]at cv;simp[abA,Qk];refine⟨cv,?_⟩;refine Qi eL (ati c l) (fun f _=>l.length-(numOf (f 18)).toNat) ?_ ?_
  ·refine⟨0,!decide (c.to=0),[],[],[],zd,?_,zE,zd,.inl ⟨rfl,zd,rfl⟩,zd,by simp[Qk]⟩;simp;try(rw[zzcy];simp)
  rintro f m ⟨i,p,o,bx,ls,h18,h7,hi,hR,hO,zF,rfl⟩;rcases zzaa i l.length with ai|bq
  ·obtain⟨x,hx⟩:=aV ai;have ah:Qh (l.map Qk) i=Qk x:=Qu (by simp[hx]);have aa:(i:Int)<(l.length:Int):=zE
   have hw:=bP i zE;have hd:l.drop i=x::l.drop (i+1):=by rw[zzag ai,(zza.1 hx).2]
   rw[hd,gQ]at hR;by_cases aL:x.id=c.id
   ·rw[if_pos aL]at hR;simp[h18,h7,eL,aa,ah,hw,Qk,aL];refine⟨aQ,⟨i+1,p,o,bx++[Qk x],ls,zd,zd,zE,hR,Nm hO,zE,by simp[Qk,aL]⟩,zE⟩
   rw[if_neg aL]at hR
   have Ss:∀(z:List Cue)(row:P2),((∃a,a∈z/\Qk a=row)\/row=Qk c\/row=Qk x)->row.length=5:=by
    rintro z row (⟨a,_,rfl⟩|rfl|rfl)<;>rfl
   by_cases hp:p=true/\c.id<x.id
   ·rw[if_pos hp]at hR;obtain⟨rfl,hp⟩:=hp;obtain⟨rfl,h6,rfl⟩|⟨ho,h6,rfl⟩:=hO
    ·simp[h18,h7,h6,eL,aa,ah,hw,Qk,aL,hp];refine⟨aQ,⟨i+1,false,[c,x],bx++[Qk x],[2],zd,zd,zE,Nm hR,.inr ⟨zd,by simp[Qk],rfl⟩,by simp;omega,by simp[Qk]⟩,zE⟩
    simp[h18,h7,h6,eL,aa,ah,hw,Qk,aL,hp];refine⟨⟨by rintro row (⟨a,_,rfl⟩|rfl)<;>rfl,zE⟩,⟨by rintro row (⟨a,_,rfl⟩|rfl|rfl)<;>rfl,zE⟩,ag ?_,⟨i+1,false,o++[c,x],bx++[Qk x],[o.length+2],zd,zd,zE,Nm hR,.inr ⟨zd,by simp[Qk],zd⟩,by simp;omega,by simp[Qk]⟩,zE⟩;repeat(first|exact Qb _ _|refine Qc _ rfl ?_)
   rw[if_neg hp]at hR;obtain⟨rfl,h6,rfl⟩|⟨ho,h6,rfl⟩:=hO
   ·cases p with
    |false=>
     simp[h18,h7,h6,eL,aa,ah,hw,Qk,aL];refine⟨aQ,⟨i+1,false,[x],bx++[Qk x],[1],zd,zd,zE,Nm hR,.inr ⟨zd,by simp[Qk],rfl⟩,by simp;omega,by simp[Qk]⟩,zE⟩
    |true=>
     have VA:¬c.id<x.id:=fun h=>hp ⟨rfl,h⟩;simp[h18,h7,h6,eL,aa,ah,hw,Qk,aL,VA];refine⟨aQ,⟨i+1,true,[x],bx++[Qk x],[1],zd,zd,zE,Nm hR,.inr ⟨zd,by simp[Qk],rfl⟩,by simp;omega,by simp[Qk]⟩,zE⟩
   cases p with
   |false=>
    simp[h18,h7,h6,eL,aa,ah,hw,Qk,aL];refine⟨⟨by rintro row (⟨a,_,rfl⟩|rfl)<;>rfl,zE⟩,ag ?_,⟨i+1,false,o++[x],bx++[Qk x],[o.length+1],zd,zd,zE,Nm hR,.inr ⟨zd,by simp[Qk],zd⟩,by simp;omega,by simp[Qk]⟩,zE⟩;repeat(first|exact Qb _ _|refine Qc _ rfl ?_)
   |true=>
    have VA:¬c.id<x.id:=fun h=>hp ⟨rfl,h⟩;simp[h18,h7,h6,eL,aa,ah,hw,Qk,aL,VA];refine⟨⟨by rintro row (⟨a,_,rfl⟩|rfl)<;>rfl,zE⟩,ag ?_,⟨i+1,true,o++[x],bx++[Qk x],[o.length+1],zd,zd,zE,Nm hR,.inr ⟨zd,by simp[Qk],zd⟩,by simp;omega,by simp[Qk]⟩,zE⟩;repeat(first|exact Qb _ _|refine Qc _ rfl ?_)
  obtain rfl:i=l.length:=zE
  rw[zzbu,gQ]at hR;obtain⟨rfl,h6,rfl⟩|⟨ho,h6,rfl⟩:=hO
  ·cases p with
   |false=>
    simp at hR;simp[h18,h7,h6,eL,Ek,Qk,mJ,hc,hR]
   |true=>
    simp at hR;simp[h18,h7,h6,eL,Ek,Qk,mJ,hc,<- hR]
  cases p with
  |false=>
   simp at hR;by_cases hb:200<o.length
   ·have cL:(200:Int)<(o.length:Int):=zE
    simp[h18,h7,h6,eL,Ek,Qk,mJ,hc,<- hR,hb,cL]
   have cL:¬(200:Int)<(o.length:Int):=zE
   simp[h18,h7,h6,eL,Ek,Qk,mJ,hc,<- hR,hb,cL,ho]
  |true=>
   simp at hR;have aH:(o++[c]).length=o.length+1:=zd
   by_cases hb:200<o.length+1
   ·have cL:(200:Int)<(o.length:Int)+1:=zE
    simp[h18,h7,h6,eL,Ek,Qk,mJ,hc,<- hR,hb,cL];exact⟨by rintro row (⟨a,_,rfl⟩|rfl)<;>rfl,zE⟩
   have cL:¬(200:Int)<(o.length:Int)+1:=zE
   simp[h18,h7,h6,eL,Ek,Qk,mJ,hc,<- hR,hb,cL,ho];exact⟨by rintro row (⟨a,_,rfl⟩|rfl)<;>rfl,zE⟩
open Go Go.Abs
def Rg(p:Pl):Pl:={p with sh:=p.sh.take 10,aM:=p.aM.take 20,bks:=p.bks.take 10,cls:=p.cls.take 20,ens:=p.ens.take 12,ln:=if 1500<p.ln then 1500 else p.ln}
def kY{α:Type}(l:List α)(n:Nat):l.take (if(n:Int)<(l.length:Int)then(n:Int)else(l.length:Int)).toNat=l.take n:=by
 split
 ·simp
 rw[zzat zd,zzat zE]
def yg{a:Nat}(n:Nat):(if(n:Int)<(a:Int)then(n:Int)else(a:Int))<=a:=by split<;>omega
def yh{a:Nat}(n:Nat):0<=(if(n:Int)<(a:Int)then(n:Int)else(a:Int)):=by split<;>omega
def Lu(p:Pl):Pure Tryz.prog aD 14 [.agg (Qa p)] (.agg (Qa (Rg p))):=by
 have t1:=kY (p.sh.map Qf) 10;have t2:=kY (p.aM.map Qj) 20;have t3:=kY (p.bks.map Xl) 10;have t4:=kY (p.cls.map Qg) 20;have t5:=kY (p.ens.map Qd) 12;simp only[zzbv]at t1 t2 t3 t4 t5;have a1:=yg (a:=p.sh.length) 10;have a2:=yg (a:=p.aM.length) 20;have a3:=yg (a:=p.bks.length) 10;have a4:=yg (a:=p.cls.length) 20;have a5:=yg (a:=p.ens.length) 12;have b1:=yh (a:=p.sh.length) 10;have b2:=yh (a:=p.aM.length) 20;have b3:=yh (a:=p.bks.length) 10;have b4:=yh (a:=p.cls.length) 20;have b5:=yh (a:=p.ens.length) 12;simp at a1 a2 a3 a4 a5 b1 b2 b3 b4 b5 t1 t2 t3 t4 t5;refine Qp ajK (fun _ _ _=>.junk) zd ?_;simp[aoJ,aoK,Qa,Rg,t1,t2,t3,t4,t5,a1,a2,a3,a4,a5,b1,b2,b3,b4,b5];exact⟨by rintro row a b _ rfl;rfl,fun _ _=>rfl,fun _ _=>rfl,fun _ _=>rfl,fun _ _=>rfl⟩
open Go Go.Abs
def GX(g:Pg)(f:Int)(q:Pl)(d:Int)(er:P2):P2:=[.ep (Qa q++[I d]) 0,.ep (Qm g++[I f,.junk]) 0,.ep er 0]
def Qdp(g:Pg)(f:Int)(q:Pl)(d:Int)(a0 a1 a2:AV)(fr:Int)(r:P2)(item region:Int)(h1:q.cls.length<=1000000)(h2:q.sh.length<=1000000000)(h3:q.aM.length<=1000000000):
  Pure Tryz.prog aD 161 ([I item,I region]++GX g f q d (a0::a1::a2::I fr::r)) (.bool (Xd q item region f fr)):=by
 have k:=Qbh q item region f fr h1 h2 h3;simp only[Qa]at k;refine Qp acI (fun _ _ _=>.bool (Xd q item region f fr)) (by simp[GX]) ?_;simp[ahb,ahc,GX,Qa,Qm];exact k
def Br(g:Pg)(f:Int)(o:Od)(q:Pl)(d:Int)(e:bC):Option Int:=
 if o.ki=1/\o.en=e.id then some (nV g e.id+d-f)
 else if o.ki=2/\o.en=e.id then none
 else if o.ki=4/\Xd q e.it 0 f (Wp f e).fr=false then none
 else some (Wp f e).fr
def tc(q:Pl)(f:Int):UV:=fun _ k l=>if k=161 then(match l with
 |[.int _ it,.int _ re,_,_,.ep (_::_::_::.int _ F::_) 0]=>.bool (Xd q it re f F)
 |_=>.junk)else .gd false .junk
def jS(q:Pl)(f:Int)(id F:Int)(l:List Sp):List Sp:=l.filter fun a=>Xd q a.2 a.1 f F
def amI(ml:Pa)(o:List Sp)(v:AV)(ls:Pa):Prop:=(o=[]/\v=.sl .nil []/\ls=ml)\/(o≠[]/\v=.sl (.own ml.length 2) (o.map Qf)/\ls=ml++[o.length])
def atj(mb:T5)(ml:Pa)(ms:Nat->LS)(mn:Nat)(r0 r1 r2 pre:P2)(al:List Sp)(A:List Sp->List Sp)(s:Nat->AV)(m:AM):Prop:=
 ∃(j:Nat)(bx:T5)(ls:Pa)(v:AV),s 106=I j/\j<=al.length/\amI ml (A (al.take j)) v ls/\m=⟨mb++(r0::r1::r2::nW::(pre++[v])::bx),ls,ms,mn⟩
def p7(q:Pl)(f:Int)(it F:Int)(n:Nat):Int:=Ul (fun r=>Xd q it r f F) n
def aff(b:Nat->Bool)(i:Nat)(h:i<8):IntKind.i64.wrap ((((Ul b i%2 ^ IntKind.i64.bits).toNat|||(IntKind.i64.wrap (2 ^ min i IntKind.i64.bits)%2 ^ IntKind.i64.bits).toNat:Nat)):Int)=Ul b i+2 ^ i:=by
 have gI:=DC b i;obtain⟨x,hx⟩:∃x:Nat,Ul b i=(x:Int):=⟨(Ul b i).toNat,zE⟩
 have hx2:x<2 ^ i:=by
  have h2:=gI.2;rw[hx]at h2
  exact_mod_cast h2
 rw[hx];exact ZK i h x hx2
def Lv:SC:=(⟨_,by cbv⟩:J4 [1,1,1,1,1,1] Ab).1
def ZL:SC:=(⟨_,fun _=>by cbv⟩:Fm [1,1,1,1,1,1] Ab).1 Lv
theorem GY:Ab=ZL:=rfl
def yj(Y:YT)(mb:T5)(ml:Pa)(ms:Nat->LS)(mn:Nat)(g:Pg)(f:Int)(mid:Nat)(R1:P2)(q:Pl)(V:AV)(rt:Rt)(d:Int)(e:bC)(F:Int)(E0:QQ)(x5 x6:AV)(hV:mH mb V q.ens)(aX:Dx rt)(hq:Bl q)(IJ:0<=q.rg/\q.rg<=8)(K:So)
  (h3:Abs.look E0 3=.ptr mb.length 0)(h5:Abs.look E0 5=.ptr (mb.length+2) 0)(h6:Abs.look E0 6=.ptr (mb.length+3) 0)(h8:Abs.look E0 8=.ptr (mb.length+4) 0)(pG:Abs.look E0 11=.fn 161 [] [.ptr (mb.length+2) 0,.ptr mb.length 0,.ptr (mb.length+4) 0])
  (h1:∀ex ls v,amI ml (jS q f e.id F ((Xb e.id q.ens).getD yd).al) v ls->K (.aS [.agg [I e.id,I e.it,I f,I F,I (e.i+(f-e.st)),I (p7 q f e.it F q.rg.toNat),v],.bool true]) ⟨mb++ex,ls,ms,mn⟩):
  vc Tryz.prog aD (tc q f) Y Lv ⟨Vw 124 E0,⟨mb++[Qr g f mid,R1,Xr q V (.sl rt (q.cls.map Qg)) d,nW,[I e.id,I e.it,I f,I F,I (e.i+(f-e.st)),x5,x6]],ml,ms,mn⟩⟩ (wD Tryz.prog aD (tc q f) Eo K):=by
 obtain⟨q1,q2,q3,q4,q5,q6⟩:=hq;have hc:=hV.cell;have gz:=fun ex ml d=>hV.bz ex ml ms mn d;simp[Lv,h5,h8,Qr,Qm,Qa,Xr,nW];refine Qi I2 (fun s m=>∃i:Nat,s 80=I i/\(i:Int)<=q.rg/\m=⟨mb++[Qr g f mid,R1,Xr q V (.sl rt (q.cls.map Qg)) d,nW,[I e.id,I e.it,I f,I F,I (e.i+(f-e.st)),I (p7 q f e.it F i),.sl .nil []]],ml,ms,mn⟩) (fun s _=>(q.rg-numOf (s 80)).toNat) ?_ ?_
 ·exact⟨0,zd,by simp;omega,by simp[Qr,Qm,Qa,Xr,nW,p7,Ul]⟩
 rintro s m ⟨i,h80,hi,rfl⟩;by_cases ai:(i:Int)<q.rg
 ·have hw:=bP i zE;have kc:=Qdp g f q d (I e.id) (I e.it) (I f) F [I (e.i+(f-e.st)),I (p7 q f e.it F i),.sl .nil []] e.it i q5 zE zE;simp only[GX,Qa,Qm,zzae,zzai]at kc;simp[h8,pG,h80,I2,ai,hw,Qr,Qm,Qa,Xr,nW,tc,gz,aX _ _ _];have hor:=aff (fun r=>Xd q e.it r f F) i zE;refine⟨kc,?_⟩;have dM:p7 q f e.it F (i+1)=p7 q f e.it F i+if Xd q e.it (i:Int) f F=true then 2 ^ i else 0:=rfl;split
  ·rename_i ha;rw[if_pos ha]at dM;refine⟨aQ,⟨i+1,zd,zE,by rw[dM];exact hor⟩,zE⟩
  rename_i ha;rw[if_neg ha]at dM;refine⟨aQ,⟨i+1,zd,zE,by rw[dM];simp⟩,zE⟩
 have kn:=fun ex K hK=>On Y ⟨mb++ex,ml,ms,mn⟩ q V rt e.id (hV.ext ex) zE q6 K hK;simp only[Jg]at kn;simp[h5,h8,h80,I2,ai,Qr,Qm,Qa,Xr,nW,tc];refine kn _ _ ?_;rw[GW];generalize rtE (Xb e.id q.ens)=r7;generalize(Xb e.id q.ens).isSome=b7;obtain⟨E,hE⟩:∃E,(Xb e.id q.ens).getD yd=E:=⟨_,rfl⟩;rw[hE]
 have hEl:E.al.length<=8796093022208:=by
  rw[<- hE];cases hf:Xb e.id q.ens with
  |none=>simp[yd]
  |some x=>exact q6 x (Qbv hf).1
 have hiq:i=q.rg.toNat:=zE
 rw[hE]at h1;simp[Eo];refine Qi BR (atj mb ml ms mn (Qr g f mid) R1 (Xr q V (.sl rt (q.cls.map Qg)) d) [I e.id,I e.it,I f,I F,I (e.i+(f-e.st)),I (p7 q f e.it F i)] E.al (jS q f e.id F)) (fun s _=>E.al.length-(numOf (s 106)).toNat) ?_ ?_
 ·exact⟨0,_,ml,.sl .nil [],zd,zE,.inl ⟨by simp[jS],rfl,rfl⟩,by simp[Qr,Qm,Qa,Xr,nW];rfl⟩
 rintro s2 m ⟨j,bx,ls,v,h106,hj,hO,rfl⟩;rcases zzaa j E.al.length with JU|hgj
 ·obtain⟨a,ha⟩:=aV JU;have ah:=Zv ha;have atk:(j:Int)<(E.al.length:Int):=zE
  have hw:=bP j zE
  have bA:jS q f e.id F (E.al.take (j+1))=jS q f e.id F (E.al.take j)++if Xd q a.2 a.1 f F=true then[a]else[]:=by
   unfold jS;rw[zzb,ha,zzdg];congr 1;by_cases hh:Xd q a.2 a.1 f F=true<;>simp[hh]
  have zF:(jS q f e.id F (E.al.take j)).length<=j:=by
   refine zzbd (zzce _ _) ?_;simp;omega
  generalize jS q f e.id F (E.al.take j)=oL at hO bA zF;obtain⟨rfl,rfl,rfl⟩|⟨ho,rfl,rfl⟩:=hO
  ·have kc:=Qdp g f q d (I e.id) (I e.it) (I f) F [I (e.i+(f-e.st)),I (p7 q f e.it F i),.sl .nil []] a.2 a.1 q5 zE zE;simp only[GX,Qa,Qm,zzae,zzai]at kc;simp[h8,pG,h106,BR,atk,ah,hw,Qr,Qm,Qa,Xr,nW,tc,gz,aX _ _ _];refine⟨kc,?_⟩;split
   ·rename_i hh;rw[if_pos hh]at bA;refine⟨aQ,⟨j+1,bx++[[I a.1,I a.2]],ls++[1],.sl (.own ls.length 2) [Qf a],zd,zE,.inr ⟨by rw[bA];simp,by rw[bA];rfl,by rw[bA];rfl⟩,by simp[nW,Qf]⟩,zE⟩
   rename_i hh;rw[if_neg hh]at bA;refine⟨aQ,⟨j+1,bx++[[I a.1,I a.2]],ls,.sl .nil [],zd,zE,.inl ⟨by rw[bA];rfl,rfl,rfl⟩,by simp[nW]⟩,zE⟩
  have kc:=Qdp g f q d (I e.id) (I e.it) (I f) F [I (e.i+(f-e.st)),I (p7 q f e.it F i),.sl .ro (oL.map Qf)] a.2 a.1 q5 zE zE;simp only[GX,Qa,Qm,zzae,zzai]at kc;simp[h8,pG,h106,BR,atk,ah,hw,Qr,Qm,Qa,Xr,nW,tc,gz,aX _ _ _];refine⟨kc,?_⟩
  have Ss:∀row:P2,((∃x y,(x,y)∈oL/\Qf (x,y)=row)\/row=Qf a)->row.length=2:=by
   rintro row (⟨x,y,_,rfl⟩|rfl)<;>rfl
  split
  ·rename_i hh;rw[if_pos hh]at bA;refine⟨⟨Ss,zE⟩,aQ,⟨j+1,bx++[[I a.1,I a.2]],ml++[oL.length+1],.sl (.own ml.length 2) ((oL++[a]).map Qf),zd,zE,.inr ⟨by rw[bA];simp,by rw[bA],by rw[bA];simp⟩,by simp[nW,Qf]⟩,zE⟩
  rename_i hh;rw[if_neg hh,zzau]at bA;refine⟨aQ,⟨j+1,bx++[[I a.1,I a.2]],ml++[oL.length],.sl (.own ml.length 2) (oL.map Qf),zd,zE,.inr ⟨by rw[bA];exact ho,by rw[bA],by rw[bA]⟩,by simp[nW]⟩,zE⟩
 obtain rfl:j=E.al.length:=zE
 rw[zzbz]at hO;have bL:Qx v=true:=by rcases hO with⟨_,rfl,_⟩|⟨_,rfl,_⟩<;>rfl
 have h1:=fun ex=>h1 ex ls v hO;rw[<- hiq]at h1;simp[h6,h8,h106,BR,Qr,Qm,Qa,Xr,nW,bL];exact h1 _
def afg(Y:YT)(m:AM)(g:Pg)(f:Int)(mid:Nat)(b:QR)(o:Od)(q:Pl)(V:AV)(rt:Rt)(d:Int)(hV:mH m.boxes V q.ens)(aX:Dx rt)(h:lT g f)(hb:fL m.boxes mid b)(hq:Bl q)(hd:0<=d/\d<=1000000000)(IJ:0<=q.rg/\q.rg<=8)(K:So)
  (h1:∀e F,Yz g f b=some e->Br g f o q d e=some F->F≠0->∀ex ls v,amI m.lens (jS q f e.id F ((Xb e.id q.ens).getD yd).al) v ls->K (.aS [.agg [I e.id,I e.it,I f,I F,I (e.i+(f-e.st)),I (p7 q f e.it F q.rg.toNat),v],.bool true]) {m with boxes:=m.boxes++ex,lens:=ls})
  (h0:(Yz g f b).bind (Br g f o q d)=none\/(Yz g f b).bind (Br g f o q d)=some 0->∀ex,K (.aS [.agg nW,.bool false]) {m with boxes:=m.boxes++ex}):
  aB Tryz.prog aD Y 106 [.agg (Qr g f mid),.agg (Qq o),.agg (Xr q V (.sl rt (q.cls.map Qg)) d)] m K:=by
 obtain⟨mb,ml,ms,mn⟩:=m;obtain⟨q1,q2,q3,q4,q5,q6⟩:=hq;have hc:=hV.cell;have hB:∀ex,fL (mb++ex) mid b:=fun ex=>⟨by have:=hb.1;simp at this |-;omega,hb.ext ex⟩;have kp:=fun ex K hK=>ajd Y ⟨mb++ex,ml,ms,mn⟩ g f mid b h (hB ex) K hK;simp only[Qr,Qm,Qa,zzae,zzai]at kp;have gz:=fun ex ml d=>hV.bz ex ml ms mn d;cases hp:Yz g f b with
 |none=>
  have h0:=h0 (by rw[hp];exact .inl rfl);refine Xn MI (fun _ f _=>.gd false .junk) zd ?_;simp[GY,ZL,Eo,Qr,Qm,Qa,Qq,Qd,Qg,Qk,Xr,hc];refine kp _ _ ?_;simp[Ur,hp];simp[nW]at h0;exact h0 _
 |some e=>
  refine Xn MI (tc q f) zd ?_;simp[GY,ZL,Eo,Qr,Qm,Qa,Qq,Qd,Qg,Qk,Xr,hc,tc];refine kp _ _ ?_;have IK:=Dv h e.id;have hfs:=h.2.2.1;unfold nT at hfs;by_cases dA:o.ki=1
  ·by_cases aL:o.en=e.id
   ·have w1:IntKind.i64.wrap (nV g e.id+d)=nV g e.id+d:=by rw[Ql]<;>omega
    have w2:IntKind.i64.wrap (nV g e.id+d-f)=nV g e.id+d-f:=by rw[Ql]<;>omega
    obtain⟨F,hF⟩:∃F,nV g e.id+d-f=F:=⟨_,rfl⟩;have wF:IntKind.i64.wrap F=F:=by rw[<- hF];exact w2
    have w0:IntKind.i64.wrap 0=0:=by decide
    have sd:(Yz g f b).bind (Br g f o q d)=some F:=by rw[hp];simp[Br,dA,aL,hF]
    by_cases p8:F=0
    ·have h0:=h0 (by rw[sd,p8];exact .inr rfl);simp[Ur,hp,Qe,Wp,dA,aL,w1,w0,hF,p8];simp[nW]at h0;exact h0 _
    simp[Ur,hp,Qe,Wp,dA,aL,w1,wF,hF,p8];refine yj Y mb ml ms mn g f mid _ q V rt d e F _ _ _ hV aX ⟨q1,q2,q3,q4,q5,q6⟩ IJ K ?_ ?_ ?_ ?_ ?_ (h1 e F hp (by simpa[hp]using sd) p8)<;>simp
   have w0:True:=trivial;obtain⟨F,hF⟩:∃F,e.fr-(f-e.st)=F:=⟨_,rfl⟩;have sd:(Yz g f b).bind (Br g f o q d)=some F:=by rw[hp];simp[Br,Wp,hF,dA,aL]
   by_cases p8:F=0
   ·have h0:=h0 (by rw[sd,p8];exact .inr rfl);simp[Ur,hp,Qe,Wp,dA,aL,hF,p8];simp[nW]at h0;exact h0 _
   simp[Ur,hp,Qe,Wp,dA,aL,hF,p8];refine yj Y mb ml ms mn g f mid _ q V rt d e F _ _ _ hV aX ⟨q1,q2,q3,q4,q5,q6⟩ IJ K ?_ ?_ ?_ ?_ ?_ (h1 e F hp (by simpa[hp]using sd) p8)<;>simp
  by_cases ef:o.ki=2
  ·by_cases aL:o.en=e.id
   ·have w0:True:=trivial;have h0:=h0 (by rw[hp];simp[Br,ef,aL]);simp[Ur,hp,Qe,Wp,ef,aL];simp[nW]at h0;exact h0 _
   have w0:True:=trivial;obtain⟨F,hF⟩:∃F,e.fr-(f-e.st)=F:=⟨_,rfl⟩;have sd:(Yz g f b).bind (Br g f o q d)=some F:=by rw[hp];simp[Br,Wp,hF,ef,aL]
   by_cases p8:F=0
   ·have h0:=h0 (by rw[sd,p8];exact .inr rfl);simp[Ur,hp,Qe,Wp,ef,aL,hF,p8];simp[nW]at h0;exact h0 _
   simp[Ur,hp,Qe,Wp,ef,aL,hF,p8];refine yj Y mb ml ms mn g f mid _ q V rt d e F _ _ _ hV aX ⟨q1,q2,q3,q4,q5,q6⟩ IJ K ?_ ?_ ?_ ?_ ?_ (h1 e F hp (by simpa[hp]using sd) p8)<;>simp
  by_cases IC:o.ki=4
  ·cases ZM:Xd q e.it 0 f (e.fr-(f-e.st))with
   |false=>
    have h0:=h0 (by rw[hp];simp[Br,Wp,IC,ZM]);have kc0:=Qdp g f q d (I e.id) (I e.it) (I f) (e.fr-(f-e.st)) [I (e.i+(f-e.st)),I e.re,.sl .ro (e.al.map Qf)] e.it 0 q5 zE zE;simp only[GX,Qa,Qm,zzae,zzai]at kc0;rw[ZM]at kc0;simp[Ur,hp,Qe,Wp,IC,gz,aX _ _ _,ZM];simp[nW]at h0;exact⟨kc0,h0 _⟩
   |true=>
    obtain⟨F,hF⟩:∃F,e.fr-(f-e.st)=F:=⟨_,rfl⟩;rw[hF]at ZM;have sd:(Yz g f b).bind (Br g f o q d)=some F:=by rw[hp];simp[Br,Wp,hF,IC,ZM]
    have kc0:=Qdp g f q d (I e.id) (I e.it) (I f) F [I (e.i+(f-e.st)),I e.re,.sl .ro (e.al.map Qf)] e.it 0 q5 zE zE;simp only[GX,Qa,Qm,zzae,zzai]at kc0;rw[ZM]at kc0;by_cases p8:F=0
    ·have h0:=h0 (by rw[sd,p8];exact .inr rfl);rw[p8]at ZM kc0;simp[Ur,hp,Qe,Wp,IC,gz,aX _ _ _,hF,ZM,p8];simp[nW]at h0;exact⟨kc0,h0 _⟩
    simp[Ur,hp,Qe,Wp,IC,gz,aX _ _ _,hF,ZM,p8];refine⟨kc0,?_⟩;refine yj Y mb ml ms mn g f mid _ q V rt d e F _ _ _ hV aX ⟨q1,q2,q3,q4,q5,q6⟩ IJ K ?_ ?_ ?_ ?_ ?_ (h1 e F hp (by simpa[hp]using sd) p8)<;>simp
  have w0:True:=trivial;obtain⟨F,hF⟩:∃F,e.fr-(f-e.st)=F:=⟨_,rfl⟩;have sd:(Yz g f b).bind (Br g f o q d)=some F:=by rw[hp];simp[Br,Wp,hF,dA,ef,IC]
  by_cases p8:F=0
  ·have h0:=h0 (by rw[sd,p8];exact .inr rfl);simp[Ur,hp,Qe,Wp,dA,ef,IC,hF,p8];simp[nW]at h0;exact h0 _
  simp[Ur,hp,Qe,Wp,dA,ef,IC,hF,p8];refine yj Y mb ml ms mn g f mid _ q V rt d e F _ _ _ hV aX ⟨q1,q2,q3,q4,q5,q6⟩ IJ K ?_ ?_ ?_ ?_ ?_ (h1 e F hp (by simpa[hp]using sd) p8)<;>simp
end
