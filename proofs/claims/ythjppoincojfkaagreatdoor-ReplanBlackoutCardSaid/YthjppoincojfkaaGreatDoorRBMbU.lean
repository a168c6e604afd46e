import Derived.Test.YthjppoincojfkaaGreatDoorRBMbN
set_option linter.all false
set_option maxRecDepth 100000
set_option maxHeartbeats 64000000
namespace Go.Proofs.YthjppoincojfkaaGreatDoor
noncomputable section
open Go Go.Abs
def zX(x:Int):Pi->Nat->Int
 |[],_=> -1
 |a::r,i=>if x=a then i else zX x r (i+1)
def GN(x:Int):∀(L:Pi)(i:Nat),(0<=zX x L i)=(x∈L)
 |[],i=>by simp[zX]
 |a::r,i=>by
  unfold zX;by_cases h:x=a
  ·rw[if_pos h];simp[h]
  rw[if_neg h,GN x r (i+1)];simp[h]
def ZG(L:Pi)(x:Int)(hl:L.length<=1000000000):Pure Tryz.prog aD 162 [.sl .ro (L.map Xb),I x] (I (zX x L 0)):=by
 refine Qp acu (fun _ _ _=>.junk) zd ?_;simp[agT];refine Qk BZ (fun f m=>∃i:Nat,f 8=I i/\i<=L.length/\zX x (L.drop i) i=zX x L 0/\m=⟨[],[],fun _=>.gone,0⟩) (fun f _=>L.length-(numOf (f 8)).toNat) ?_ ?_
 ·exact⟨0,zd,zE,zd,rfl⟩
 rintro f m ⟨i,f8,hi,hr,rfl⟩;rcases zzaa i L.length with ai|bn
 ·obtain⟨a,ha⟩:=aV ai;have ah:Qj (L.map Xb) i=[I a]:=Qu (by simp[ha,Xb]);have aa:(i:Int)<(L.length:Int):=zE
  have hw:=bO i zE;have hd:L.drop i=a::L.drop (i+1):=by rw[zzah ai,(zza.1 ha).2]
  rw[hd,zX]at hr;by_cases hP:x=a
  ·rw[if_pos hP]at hr;simp[f8,BZ,TL,aa,ah,hP];rw[<- hP];exact hr
  rw[if_neg hP]at hr;simp[f8,BZ,aa,ah,hP,hw];refine⟨aQ,⟨i+1,zd,zE,hr⟩,zE⟩
 obtain rfl:i=L.length:=zE
 rw[zzbx,zX]at hr;simp[f8,BZ,TL];exact hr
def jU(L:Pi)(x:Int)(hl:L.length<=1000000000):Pure Tryz.prog aD 107 [.sl .ro (L.map Xb),I x] (.bool (decide (x∈L))):=by
 have k:=ZG L x hl;refine Qp abI (fun _ _ _=>I (zX x L 0)) zd ?_;simp[age,agf];refine⟨k,?_⟩;simp[<- GN x L 0]
def Dy(e:bF)(id:Int):Pure Tryz.prog aD 152 [.agg (Qe e),.ep [I id] 0] (.bool (decide (e.id=id))):=by
 refine Qp acm (fun _ _ _=>.junk) zd ?_;simp[agP,agQ,Qe];rw[zzcy];simp
def Ll(g:Pg)(id:Int):Bool:=(g.ev.find? (fun e=>decide (e.id=id))).isSome
def Dz(L:List bF)(id:Int)(hl:L.length<=1000000000):Pure Tryz.prog aD 151 [.sl .ro (L.map Qe),.fn 152 [] [.ep [I id] 0]] (.bool (L.find? (fun e=>decide (e.id=id))).isSome):=by
 have k:=yb L (fun e=>decide (e.id=id)) 152 [] [.ep [I id] 0] hl (fun _=>rfl) (fun _=>zd) (fun e _=>Dy e id) (fun _ _ xs=>match xs with|.agg (.int _ n::_)::_=>.bool (decide (n=id))|_=>.junk) (fun _ e _=>rfl);refine Qp ack (fun _ _ _=>I (Uo (fun e=>decide (e.id=id)) L 0)) zd ?_;cases hf:L.find? (fun e=>decide (e.id=id))with
 |none=>
  rw[Qdc hf]at k |-
  simp[TG,TH];exact k
 |some e=>
  obtain⟨n,g1,_,_⟩:=Wj (i:=0) hf;rw[g1,zzbs]at k |-
  simp[TG,TH];exact k
def pY(g:Pg)(o:Od):Bool:=!Ll g o.nw.id&&(decide (Jd g o.nw.id<0)&&!decide (o.nw.id∈g.dr))
def Ln(Y:YT)(m:AM)(g:Pg)(f:Int)(mid:Nat)(o:Od)(q:Pl)(V:AV)(rt:Rt)(d:Int)(hV:mG m.boxes V q.ens)(h:lQ g f)(hd:g.dr.length<=1000000000):
  aB Tryz.prog aD Y 94 [.agg (Qr g f mid),.agg (Qq o),.agg (Xr q V (.sl rt (q.cls.map Qi)) d)] m (fun r m'=>m'=m/\r=.bool (pY g o)):=by
 obtain⟨mb,ml,ms,mn⟩:=m;have hc:=hV.cell;have k:=fun ex K hK=>Ld Y ⟨mb++ex,ml,ms,mn⟩ g f mid o.nw.id h K hK;simp only[Qr,Qg,Qa,zzae,zzai]at k;have k1:=Dz g.ev o.nw.id h.1;have k2:=jU g.dr o.nw.id hd;refine aB.read (Xn akA (fun _ f _=>if f=151 then .bool (Ll g o.nw.id)else if f=107 then .bool (decide (o.nw.id∈g.dr))else .gd false .junk) zd ?_);cases hh:Ll g o.nw.id with
 |true=>
  unfold Ll at hh;rw[hh]at k1;simp[aky,akz,Qr,Qg,Qa,Qq,Qd,Qi,Qm,Xr,hc,pY,Ll,hh];exact⟨k1,nS⟩
 |false=>
  unfold Ll at hh;rw[hh]at k1;simp[aky,akz,Qr,Qg,Qa,Qq,Qd,Qi,Qm,Xr,hc,pY,Ll,hh];refine⟨k1,k _ _ ?_⟩;by_cases hp:Jd g o.nw.id<0
  ·simp[hp];exact⟨k2,nS⟩
  simp[hp];exact nS
open Go Go.Abs
def yj:En:=⟨0,0,0,0,0,0,[]⟩
def Qcf(g:Pg)(f:Int)(b:QR)(o:Od)(q:Pl)(d:Int):Bool:=
 if Du g f b o.en=true then false
 else if o.en∈g.dr then false
 else if d<1 then false
 else match Xg ((Za o.en q.ens).getD yj).it q.aM with
  |none=>false
  |some x=>if x.ki≠4 then false
   else match Bn g f b o.en with
    |none=>true
    |some st=>if q.ln-d<st then false else if st+d-f=0 then true else Xk q ((Za o.en q.ens).getD yj).it 0 f (st+d-f)
def GO(g:Pg)(F:Int)(b:QR)(o:Od)(q:Pl)(d:Int):UV:=fun _ f _=>if f=107 then .bool (decide (o.en∈g.dr))else if f=18 then .bool (Xk q ((Za o.en q.ens).getD yj).it 0 F ((Bn g F b o.en).getD 0+d-F))else .gd false .junk
def Rg(Y:YT)(m:AM)(q:Pl)(V:AV)(rt:Rt)(id:Int)(hc:Qx V=true)(hl:q.aM.length<=1000000000):
  aB Tryz.prog aD Y 17 [.agg (Je q V (.sl rt (q.cls.map Qi))),I id] m (fun r m'=>m'=m/\r=Xp (Xg id q.aM)):=by
 obtain⟨mb,ml,ms,mn⟩:=m;have h:=yl q.aM id hl;refine aB.read (Xn SH (fun _ f l=>if f=36 then Xp (Xg id q.aM)else .junk) zd ?_);cases hf:Xg id q.aM with
 |none=>
  rw[hf]at h;simp[SF,SG,Je,hc,Xp];exact⟨h,nS⟩
 |some x=>
  rw[hf]at h;simp[SF,SG,Je,hc,Xp,Qh];exact⟨h,nS⟩
def amo(Y:YT)(m:AM)(q:Pl)(V:AV)(rt:Rt)(id:Int)(hc:Qx V=true)(hl:q.aM.length<=1000000000)(K:So)(hK:K (Xp (Xg id q.aM)) m):
  aB Tryz.prog aD Y 17 [.agg (Je q V (.sl rt (q.cls.map Qi))),I id] m K:=
 aB.mono (Rg Y m q V rt id hc hl) (by rintro r m' ⟨rfl,rfl⟩;exact hK)
def rtE:Option En->Rt
 |none=>.nil
 |some _=>.ro
def GP(o:Option En):Wx o=.aS [.agg [I (o.getD yj).id,I (o.getD yj).it,I (o.getD yj).fr,I (o.getD yj).ea,I (o.getD yj).la,I (o.getD yj).bo,.sl (rtE o) ((o.getD yj).al.map Qf)],.bool o.isSome]:=by
 cases o<;>rfl
def Lo(Y:YT)(m:AM)(g:Pg)(f:Int)(mid:Nat)(b:QR)(o:Od)(q:Pl)(V:AV)(rt:Rt)(d:Int)(hV:mG m.boxes V q.ens)(aX:Dx rt)(h:lQ g f)(hb:fQ m.boxes mid b)(fk:g.dr.length<=1000000000)(hq:Bj q)(dG:0<=q.ln/\q.ln<=1000000)(hd:sW d):
  aB Tryz.prog aD Y 90 [.agg (Qr g f mid),.agg (Qq o),.agg (Xr q V (.sl rt (q.cls.map Qi)) d)] m (fun r m'=>m'=m/\r=.bool (Qcf g f b o q d)):=by
 obtain⟨mb,ml,ms,mn⟩:=m;obtain⟨q1,q2,q3,q4,q5,q6⟩:=hq;have hc:=hV.cell;have hB:∀ex,fQ (mb++ex) mid b:=fun ex=>⟨by have:=hb.1;simp at this |-;omega,hb.ext ex⟩;have ke:=fun ex K hK=>as3 Y ⟨mb++ex,ml,ms,mn⟩ g f mid b o.en h (hB ex) K hK;have ki:=fun ex K hK=>amm Y ⟨mb++ex,ml,ms,mn⟩ g f mid b o.en h (hB ex) K hK;have kn:=fun ex K hK=>Oe Y ⟨mb++ex,ml,ms,mn⟩ q V rt o.en (hV.ext ex) zE q6 K hK;simp only[Qr,Qg,Qa,Je,zzae,zzai]at ke ki kn;have k2:=jU g.dr o.en fk;have gE:=fun ex d=>hV.bz ex ml ms mn d;refine aB.read (Xn aks (GO g f b o q d) zd ?_);cases he:Du g f b o.en with
 |true=>
  simp[Td,Te,Qr,Qg,Qa,Qq,Qd,Qi,Qm,Xr,hc,Qcf,he,GO];refine ke _ _ ?_;simp[he];exact nS
 |false=>
  by_cases hm:o.en∈g.dr
  ·simp[Td,Te,Qr,Qg,Qa,Qq,Qd,Qi,Qm,Xr,hc,Qcf,he,hm,GO];refine ke _ _ ?_;simp[he,hm]at k2 |-
   exact⟨k2,nS⟩
  by_cases hd1:d<1
  ·simp[Td,Te,Qr,Qg,Qa,Qq,Qd,Qi,Qm,Xr,hc,Qcf,he,hm,hd1,GO];refine ke _ _ ?_;simp[he,hm,hd1]at k2 |-
   exact⟨k2,nS⟩
  simp[Td,Te,Qr,Qg,Qa,Qq,Qd,Qi,Qm,Xr,hc,Qcf,he,hm,hd1,GO];refine ke _ _ ?_;simp[he,hm,hd1]at k2 |-
  refine⟨k2,kn _ _ ?_⟩;obtain⟨e,hE⟩:∃e,(Za o.en q.ens).getD yj=e:=⟨_,rfl⟩;have kt:=fun ex K hK=>amo Y ⟨mb++ex,ml,ms,mn⟩ q V rt e.it hc zE K hK;simp only[Je]at kt;rw[GP];generalize rtE (Za o.en q.ens)=r7;generalize(Za o.en q.ens).isSome=b7;rw[hE];obtain⟨X,hX⟩:∃X,Xg e.it q.aM=X:=⟨_,rfl⟩;have w0:IntKind.i64.wrap 0=0:=by decide
  simp;refine kt _ _ ?_;cases X with
  |none=>
   simp[hX,Xp];exact .bool _
  |some x=>
   by_cases eM:x.ki=4
   ·have y8:=Qeq q e.it 0 f ((Bn g f b o.en).getD 0+d-f) q5 zE zE;simp only[Qa]at y8
    have ei:∀st,Bn g f b o.en=some st->0<=st/\st<=1000000:=fun st hh=>by
     unfold Bn at hh;split at hh
     ·cases hh
     split at hh
     ·cases hh;exact Dv h _
     cases hh
    have hfs:=h.2.2.1;unfold nR at hfs;unfold sW at hd;simp[hX,Xp,Qh,eM];refine ki _ _ ?_;cases hi:Bn g f b o.en with
    |none=>
     simp[Q6];exact .bool _
    |some st=>
     have fT:=ei st hi;have w1:IntKind.i64.wrap (q.ln-d)=q.ln-d:=by rw[Ql]<;>omega
     rw[hi]at y8;by_cases lH:q.ln-d<st
     ·simp[Q6,w1,lH];exact .bool _
     have w2:IntKind.i64.wrap (st+d)=st+d:=by rw[Ql]<;>omega
     have w3:IntKind.i64.wrap (st+d-f)=st+d-f:=by rw[Ql]<;>omega
     by_cases hz:st+d-f=0
     ·simp[Q6,w1,lH,w2,hz,w0];exact .bool _
     simp[Q6,w1,lH,w2,w3,hz,gE,aX _ _ _];exact⟨Nm y8,.bool _⟩
   simp[hX,Xp,Qh,eM];exact .bool _
open Go Go.Abs
def Xo(f:Int):List bF->QR->QR
 |[],b=>b
 |e::r,b=>Xo f r (if e.st<f then Vh e.id true b else b)
def D6:P2:=[I 0,I 0,I 0,I 0,.sl .nil [],I 0,I 0,I 0,I 0,.sl .nil [],.sl .nil [],.sl .nil [],.sl .nil [],.sl .nil [],.sl .nil [],I 0,.sl .nil [],I 0,I 0,.nilv false]
def rG(k:Int)(v:Bool):∀l:QR,(Vh k v l).length<=l.length+1
 |[]=>by simp[Vh]
 |x::r=>by
  unfold Vh;split
  ·simp
  have:=rG k v r;simp;omega
open Go Go.Abs
def gT(c:Cue):Bool->List Cue->List Cue
 |p,[]=>if p=true then[c]else[]
 |p,x::r=>if x.id=c.id then gT c p r else if p=true/\c.id<x.id then c::x::gT c false r else x::gT c p r
def axC(o:List Cue)(v:AV)(ls:Pa):Prop:=(o=[]/\v=.sl .nil []/\ls=[])\/(o≠[]/\v=.sl (.own 0 5) (o.map Qm)/\ls=[o.length])
def mH(c:Cue)(l:List Cue):AV:=
 if iy c=true then
  (if 200<(gT c (!decide (c.to=0)) l).length then .aS [.sl .nil [],I 150]
  else .aS [.sl (if gT c (!decide (c.to=0)) l=[]then .nil else .ro) ((gT c (!decide (c.to=0)) l).map Qm),I 0])
 else .aS [.sl .nil [],I 150]
def as7(c:Cue)(l:List Cue)(f:Nat->AV)(m:AM):Prop:=
 ∃(i:Nat)(p:Bool)(o:List Cue)(bx:T5)(ls:Pa),f 18=I i/\f 7=.bool p/\i<=l.length/\o++gT c p (l.drop i)=gT c (!decide (c.to=0)) l/\axC o (f 6) ls/\o.length<=2*i/\
  m=⟨Qm c::bx,ls,fun _=>.gone,0⟩
def Br(l:List Cue)(c:Cue)(hl:l.length<=1000000):Pure Tryz.prog aD 42 [.sl .ro (l.map Qm),.agg (Qm c)] (mH c l):=by
 have cv:=sS c;refine Qp ajJ (fun _ f _=>if f=49 then .bool (iy c)else .junk) zd ?_;cases hc:iy c with
 |false=>
  rw[hc]at cv;simp[abl,Eb,Qm,mH,hc];exact cv
 |true=>
  rw[hc]at cv;simp[abl,Qm];refine⟨cv,?_⟩;refine Qk eO (as7 c l) (fun f _=>l.length-(numOf (f 18)).toNat) ?_ ?_
  ·refine⟨0,!decide (c.to=0),[],[],[],zd,?_,zE,zd,.inl ⟨rfl,zd,rfl⟩,zd,by simp[Qm]⟩;simp;try(rw[zzcy];simp)
  rintro f m ⟨i,p,o,bx,ls,h18,h7,hi,hR,hO,FI,rfl⟩;rcases zzaa i l.length with ai|bn
  ·obtain⟨x,hx⟩:=aV ai;have ah:Qj (l.map Qm) i=Qm x:=Qu (by simp[hx]);have aa:(i:Int)<(l.length:Int):=zE
   have hw:=bO i zE;have hd:l.drop i=x::l.drop (i+1):=by rw[zzah ai,(zza.1 hx).2]
   rw[hd,gT]at hR;by_cases aL:x.id=c.id
   ·rw[if_pos aL]at hR;simp[h18,h7,eO,aa,ah,hw,Qm,aL];refine⟨aQ,⟨i+1,p,o,bx++[Qm x],ls,zd,zd,zE,hR,Nm hO,zE,by simp[Qm,aL]⟩,zE⟩
   rw[if_neg aL]at hR
   have Sk:∀(z:List Cue)(row:P2),((∃a,a∈z/\Qm a=row)\/row=Qm c\/row=Qm x)->row.length=5:=by
    rintro z row (⟨a,_,rfl⟩|rfl|rfl)<;>rfl
   by_cases hp:p=true/\c.id<x.id
   ·rw[if_pos hp]at hR;obtain⟨rfl,hp⟩:=hp;obtain⟨rfl,h6,rfl⟩|⟨ho,h6,rfl⟩:=hO
    ·simp[h18,h7,h6,eO,aa,ah,hw,Qm,aL,hp];refine⟨aQ,⟨i+1,false,[c,x],bx++[Qm x],[2],zd,zd,zE,Nm hR,.inr ⟨zd,by simp[Qm],rfl⟩,by simp;omega,by simp[Qm]⟩,zE⟩
    simp[h18,h7,h6,eO,aa,ah,hw,Qm,aL,hp];refine⟨⟨by rintro row (⟨a,_,rfl⟩|rfl)<;>rfl,zE⟩,⟨by rintro row (⟨a,_,rfl⟩|rfl|rfl)<;>rfl,zE⟩,ag ?_,⟨i+1,false,o++[c,x],bx++[Qm x],[o.length+2],zd,zd,zE,Nm hR,.inr ⟨zd,by simp[Qm],zd⟩,by simp;omega,by simp[Qm]⟩,zE⟩;repeat(first|exact Qb _ _|refine Qc _ rfl ?_)
   rw[if_neg hp]at hR;obtain⟨rfl,h6,rfl⟩|⟨ho,h6,rfl⟩:=hO
   ·cases p with
    |false=>
     simp[h18,h7,h6,eO,aa,ah,hw,Qm,aL];refine⟨aQ,⟨i+1,false,[x],bx++[Qm x],[1],zd,zd,zE,Nm hR,.inr ⟨zd,by simp[Qm],rfl⟩,by simp;omega,by simp[Qm]⟩,zE⟩
    |true=>
     have U9:¬c.id<x.id:=fun h=>hp ⟨rfl,h⟩;simp[h18,h7,h6,eO,aa,ah,hw,Qm,aL,U9];refine⟨aQ,⟨i+1,true,[x],bx++[Qm x],[1],zd,zd,zE,Nm hR,.inr ⟨zd,by simp[Qm],rfl⟩,by simp;omega,by simp[Qm]⟩,zE⟩
   cases p with
   |false=>
    simp[h18,h7,h6,eO,aa,ah,hw,Qm,aL];refine⟨⟨by rintro row (⟨a,_,rfl⟩|rfl)<;>rfl,zE⟩,ag ?_,⟨i+1,false,o++[x],bx++[Qm x],[o.length+1],zd,zd,zE,Nm hR,.inr ⟨zd,by simp[Qm],zd⟩,by simp;omega,by simp[Qm]⟩,zE⟩;repeat(first|exact Qb _ _|refine Qc _ rfl ?_)
   |true=>
    have U9:¬c.id<x.id:=fun h=>hp ⟨rfl,h⟩;simp[h18,h7,h6,eO,aa,ah,hw,Qm,aL,U9];refine⟨⟨by rintro row (⟨a,_,rfl⟩|rfl)<;>rfl,zE⟩,ag ?_,⟨i+1,true,o++[x],bx++[Qm x],[o.length+1],zd,zd,zE,Nm hR,.inr ⟨zd,by simp[Qm],zd⟩,by simp;omega,by simp[Qm]⟩,zE⟩;repeat(first|exact Qb _ _|refine Qc _ rfl ?_)
  obtain rfl:i=l.length:=zE
  rw[zzbx,gT]at hR;obtain⟨rfl,h6,rfl⟩|⟨ho,h6,rfl⟩:=hO
  ·cases p with
   |false=>
    simp at hR;simp[h18,h7,h6,eO,Eb,Qm,mH,hc,hR]
   |true=>
    simp at hR;simp[h18,h7,h6,eO,Eb,Qm,mH,hc,<- hR]
  cases p with
  |false=>
   simp at hR;by_cases hb:200<o.length
   ·have cM:(200:Int)<(o.length:Int):=zE
    simp[h18,h7,h6,eO,Eb,Qm,mH,hc,<- hR,hb,cM]
   have cM:¬(200:Int)<(o.length:Int):=zE
   simp[h18,h7,h6,eO,Eb,Qm,mH,hc,<- hR,hb,cM,ho]
  |true=>
   simp at hR;have aH:(o++[c]).length=o.length+1:=zd
   by_cases hb:200<o.length+1
   ·have cM:(200:Int)<(o.length:Int)+1:=zE
    simp[h18,h7,h6,eO,Eb,Qm,mH,hc,<- hR,hb,cM];exact⟨by rintro row (⟨a,_,rfl⟩|rfl)<;>rfl,zE⟩
   have cM:¬(200:Int)<(o.length:Int)+1:=zE
   simp[h18,h7,h6,eO,Eb,Qm,mH,hc,<- hR,hb,cM,ho];exact⟨by rintro row (⟨a,_,rfl⟩|rfl)<;>rfl,zE⟩
open Go Go.Abs
def Rh(p:Pl):Pl:={p with sh:=p.sh.take 10,aM:=p.aM.take 20,bks:=p.bks.take 10,cls:=p.cls.take 20,ens:=p.ens.take 12,ln:=if 1500<p.ln then 1500 else p.ln}
def Qdx{α:Type}(l:List α)(n:Nat):l.take (if(n:Int)<(l.length:Int)then(n:Int)else(l.length:Int)).toNat=l.take n:=by
 split
 ·simp
 rw[zzas zd,zzas zE]
def sY{a:Nat}(n:Nat):(if(n:Int)<(a:Int)then(n:Int)else(a:Int))<=a:=by split<;>omega
def sZ{a:Nat}(n:Nat):0<=(if(n:Int)<(a:Int)then(n:Int)else(a:Int)):=by split<;>omega
def Lp(p:Pl):Pure Tryz.prog aD 14 [.agg (Qa p)] (.agg (Qa (Rh p))):=by
 have t1:=Qdx (p.sh.map Qf) 10;have t2:=Qdx (p.aM.map Qh) 20;have t3:=Qdx (p.bks.map Xj) 10;have t4:=Qdx (p.cls.map Qi) 20;have t5:=Qdx (p.ens.map Qd) 12;simp only[zzbt]at t1 t2 t3 t4 t5;have a1:=sY (a:=p.sh.length) 10;have a2:=sY (a:=p.aM.length) 20;have a3:=sY (a:=p.bks.length) 10;have a4:=sY (a:=p.cls.length) 20;have a5:=sY (a:=p.ens.length) 12;have b1:=sZ (a:=p.sh.length) 10;have b2:=sZ (a:=p.aM.length) 20;have b3:=sZ (a:=p.bks.length) 10;have b4:=sZ (a:=p.cls.length) 20;have b5:=sZ (a:=p.ens.length) 12;simp at a1 a2 a3 a4 a5 b1 b2 b3 b4 b5 t1 t2 t3 t4 t5;refine Qp ajo (fun _ _ _=>.junk) zd ?_;simp[aop,aoq,Qa,Rh,t1,t2,t3,t4,t5,a1,a2,a3,a4,a5,b1,b2,b3,b4,b5];exact⟨by rintro row a b _ rfl;rfl,fun _ _=>rfl,fun _ _=>rfl,fun _ _=>rfl,fun _ _=>rfl⟩
open Go Go.Abs
def GQ(g:Pg)(f:Int)(q:Pl)(d:Int)(er:P2):P2:=[.ep (Qa q++[I d]) 0,.ep (Qg g++[I f,.junk]) 0,.ep er 0]
def Qdm(g:Pg)(f:Int)(q:Pl)(d:Int)(a0 a1 a2:AV)(fr:Int)(r:P2)(item region:Int)(h1:q.cls.length<=1000000)(h2:q.sh.length<=1000000000)(h3:q.aM.length<=1000000000):
  Pure Tryz.prog aD 161 ([I item,I region]++GQ g f q d (a0::a1::a2::I fr::r)) (.bool (Xk q item region f fr)):=by
 have k:=Qeq q item region f fr h1 h2 h3;simp only[Qa]at k;refine Qp acs (fun _ _ _=>.bool (Xk q item region f fr)) (by simp[GQ]) ?_;simp[agR,agS,GQ,Qa,Qg];exact k
def DA(g:Pg)(f:Int)(o:Od)(q:Pl)(d:Int)(e:bF):Option Int:=
 if o.ki=1/\o.en=e.id then some (rC g e.id+d-f)
 else if o.ki=2/\o.en=e.id then none
 else if o.ki=4/\Xk q e.it 0 f (sX f e).fr=false then none
 else some (sX f e).fr
def s5(q:Pl)(f:Int):UV:=fun _ k l=>if k=161 then(match l with
 |[.int _ it,.int _ re,_,_,.ep (_::_::_::.int _ F::_) 0]=>.bool (Xk q it re f F)
 |_=>.junk)else .gd false .junk
def jV(q:Pl)(f:Int)(id F:Int)(l:List Sp):List Sp:=l.filter fun a=>Xk q a.2 a.1 f F
def amq(ml:Pa)(o:List Sp)(v:AV)(ls:Pa):Prop:=(o=[]/\v=.sl .nil []/\ls=ml)\/(o≠[]/\v=.sl (.own ml.length 2) (o.map Qf)/\ls=ml++[o.length])
def as8(mb:T5)(ml:Pa)(ms:Nat->LS)(mn:Nat)(r0 r1 r2 pre:P2)(al:List Sp)(A:List Sp->List Sp)(s:Nat->AV)(m:AM):Prop:=
 ∃(j:Nat)(bx:T5)(ls:Pa)(v:AV),s 106=I j/\j<=al.length/\amq ml (A (al.take j)) v ls/\m=⟨mb++(r0::r1::r2::nT::(pre++[v])::bx),ls,ms,mn⟩
def pZ(q:Pl)(f:Int)(it F:Int)(n:Nat):Int:=Ug (fun r=>Xk q it r f F) n
def ae0(b:Nat->Bool)(i:Nat)(h:i<8):IntKind.i64.wrap ((((Ug b i%2 ^ IntKind.i64.bits).toNat|||(IntKind.i64.wrap (2 ^ min i IntKind.i64.bits)%2 ^ IntKind.i64.bits).toNat:Nat)):Int)=Ug b i+2 ^ i:=by
 have gL:=DB b i;obtain⟨x,hx⟩:∃x:Nat,Ug b i=(x:Int):=⟨(Ug b i).toNat,zE⟩
 have hx2:x<2 ^ i:=by
  have h2:=gL.2;rw[hx]at h2
  exact_mod_cast h2
 rw[hx];exact ZH i h x hx2
def Lq:SC:=(⟨_,by cbv⟩:JT [1,1,1,1,1,1] Ab).1
def ZI:SC:=(⟨_,fun _=>by cbv⟩:Fe [1,1,1,1,1,1] Ab).1 Lq
theorem GR:Ab=ZI:=rfl
def ym(Y:YT)(mb:T5)(ml:Pa)(ms:Nat->LS)(mn:Nat)(g:Pg)(f:Int)(mid:Nat)(R1:P2)(q:Pl)(V:AV)(rt:Rt)(d:Int)(e:bF)(F:Int)(E0:QQ)(x5 x6:AV)(hV:mG mb V q.ens)(aX:Dx rt)(hq:Bj q)(KQ:0<=q.rg/\q.rg<=8)(K:So)
  (h3:Abs.look E0 3=.ptr mb.length 0)(h5:Abs.look E0 5=.ptr (mb.length+2) 0)(h6:Abs.look E0 6=.ptr (mb.length+3) 0)(h8:Abs.look E0 8=.ptr (mb.length+4) 0)(pq:Abs.look E0 11=.fn 161 [] [.ptr (mb.length+2) 0,.ptr mb.length 0,.ptr (mb.length+4) 0])
  (h1:∀ex ls v,amq ml (jV q f e.id F ((Za e.id q.ens).getD yj).al) v ls->K (.aS [.agg [I e.id,I e.it,I f,I F,I (e.i+(f-e.st)),I (pZ q f e.it F q.rg.toNat),v],.bool true]) ⟨mb++ex,ls,ms,mn⟩):
  vc Tryz.prog aD (s5 q f) Y Lq ⟨Vw 124 E0,⟨mb++[Qr g f mid,R1,Xr q V (.sl rt (q.cls.map Qi)) d,nT,[I e.id,I e.it,I f,I F,I (e.i+(f-e.st)),x5,x6]],ml,ms,mn⟩⟩ (wG Tryz.prog aD (s5 q f) Ef K):=by
 obtain⟨q1,q2,q3,q4,q5,q6⟩:=hq;have hc:=hV.cell;have gE:=fun ex ml d=>hV.bz ex ml ms mn d;simp[Lq,h5,h8,Qr,Qg,Qa,Xr,nT];refine Qk IN (fun s m=>∃i:Nat,s 80=I i/\(i:Int)<=q.rg/\m=⟨mb++[Qr g f mid,R1,Xr q V (.sl rt (q.cls.map Qi)) d,nT,[I e.id,I e.it,I f,I F,I (e.i+(f-e.st)),I (pZ q f e.it F i),.sl .nil []]],ml,ms,mn⟩) (fun s _=>(q.rg-numOf (s 80)).toNat) ?_ ?_
 ·exact⟨0,zd,by simp;omega,by simp[Qr,Qg,Qa,Xr,nT,pZ,Ug]⟩
 rintro s m ⟨i,h80,hi,rfl⟩;by_cases ai:(i:Int)<q.rg
 ·have hw:=bO i zE;have kc:=Qdm g f q d (I e.id) (I e.it) (I f) F [I (e.i+(f-e.st)),I (pZ q f e.it F i),.sl .nil []] e.it i q5 zE zE;simp only[GQ,Qa,Qg,zzae,zzai]at kc;simp[h8,pq,h80,IN,ai,hw,Qr,Qg,Qa,Xr,nT,s5,gE,aX _ _ _];have hor:=ae0 (fun r=>Xk q e.it r f F) i zE;refine⟨kc,?_⟩;have dO:pZ q f e.it F (i+1)=pZ q f e.it F i+if Xk q e.it (i:Int) f F=true then 2 ^ i else 0:=rfl;split
  ·rename_i ha;rw[if_pos ha]at dO;refine⟨aQ,⟨i+1,zd,zE,by rw[dO];exact hor⟩,zE⟩
  rename_i ha;rw[if_neg ha]at dO;refine⟨aQ,⟨i+1,zd,zE,by rw[dO];simp⟩,zE⟩
 have kn:=fun ex K hK=>Oe Y ⟨mb++ex,ml,ms,mn⟩ q V rt e.id (hV.ext ex) zE q6 K hK;simp only[Je]at kn;simp[h5,h8,h80,IN,ai,Qr,Qg,Qa,Xr,nT,s5];refine kn _ _ ?_;rw[GP];generalize rtE (Za e.id q.ens)=r7;generalize(Za e.id q.ens).isSome=b7;obtain⟨E,hE⟩:∃E,(Za e.id q.ens).getD yj=E:=⟨_,rfl⟩;rw[hE]
 have hEl:E.al.length<=8796093022208:=by
  rw[<- hE];cases hf:Za e.id q.ens with
  |none=>simp[yj]
  |some x=>exact q6 x (jK hf).1
 have hiq:i=q.rg.toNat:=zE
 rw[hE]at h1;simp[Ef];refine Qk BO (as8 mb ml ms mn (Qr g f mid) R1 (Xr q V (.sl rt (q.cls.map Qi)) d) [I e.id,I e.it,I f,I F,I (e.i+(f-e.st)),I (pZ q f e.it F i)] E.al (jV q f e.id F)) (fun s _=>E.al.length-(numOf (s 106)).toNat) ?_ ?_
 ·exact⟨0,_,ml,.sl .nil [],zd,zE,.inl ⟨by simp[jV],rfl,rfl⟩,by simp[Qr,Qg,Qa,Xr,nT];rfl⟩
 rintro s2 m ⟨j,bx,ls,v,h106,hj,hO,rfl⟩;rcases zzaa j E.al.length with JK|hgj
 ·obtain⟨a,ha⟩:=aV JK;have ah:=Zv ha;have as9:(j:Int)<(E.al.length:Int):=zE
  have hw:=bO j zE
  have bA:jV q f e.id F (E.al.take (j+1))=jV q f e.id F (E.al.take j)++if Xk q a.2 a.1 f F=true then[a]else[]:=by
   unfold jV;rw[zzax,ha,zzdb];congr 1;by_cases hh:Xk q a.2 a.1 f F=true<;>simp[hh]
  have FI:(jV q f e.id F (E.al.take j)).length<=j:=by
   refine zzbb (zzcb _ _) ?_;simp;omega
  generalize jV q f e.id F (E.al.take j)=oL at hO bA FI;obtain⟨rfl,rfl,rfl⟩|⟨ho,rfl,rfl⟩:=hO
  ·have kc:=Qdm g f q d (I e.id) (I e.it) (I f) F [I (e.i+(f-e.st)),I (pZ q f e.it F i),.sl .nil []] a.2 a.1 q5 zE zE;simp only[GQ,Qa,Qg,zzae,zzai]at kc;simp[h8,pq,h106,BO,as9,ah,hw,Qr,Qg,Qa,Xr,nT,s5,gE,aX _ _ _];refine⟨kc,?_⟩;split
   ·rename_i hh;rw[if_pos hh]at bA;refine⟨aQ,⟨j+1,bx++[[I a.1,I a.2]],ls++[1],.sl (.own ls.length 2) [Qf a],zd,zE,.inr ⟨by rw[bA];simp,by rw[bA];rfl,by rw[bA];rfl⟩,by simp[nT,Qf]⟩,zE⟩
   rename_i hh;rw[if_neg hh]at bA;refine⟨aQ,⟨j+1,bx++[[I a.1,I a.2]],ls,.sl .nil [],zd,zE,.inl ⟨by rw[bA];rfl,rfl,rfl⟩,by simp[nT]⟩,zE⟩
  have kc:=Qdm g f q d (I e.id) (I e.it) (I f) F [I (e.i+(f-e.st)),I (pZ q f e.it F i),.sl .ro (oL.map Qf)] a.2 a.1 q5 zE zE;simp only[GQ,Qa,Qg,zzae,zzai]at kc;simp[h8,pq,h106,BO,as9,ah,hw,Qr,Qg,Qa,Xr,nT,s5,gE,aX _ _ _];refine⟨kc,?_⟩
  have Sk:∀row:P2,((∃x y,(x,y)∈oL/\Qf (x,y)=row)\/row=Qf a)->row.length=2:=by
   rintro row (⟨x,y,_,rfl⟩|rfl)<;>rfl
  split
  ·rename_i hh;rw[if_pos hh]at bA;refine⟨⟨Sk,zE⟩,aQ,⟨j+1,bx++[[I a.1,I a.2]],ml++[oL.length+1],.sl (.own ml.length 2) ((oL++[a]).map Qf),zd,zE,.inr ⟨by rw[bA];simp,by rw[bA],by rw[bA];simp⟩,by simp[nT,Qf]⟩,zE⟩
  rename_i hh;rw[if_neg hh,zzat]at bA;refine⟨aQ,⟨j+1,bx++[[I a.1,I a.2]],ml++[oL.length],.sl (.own ml.length 2) (oL.map Qf),zd,zE,.inr ⟨by rw[bA];exact ho,by rw[bA],by rw[bA]⟩,by simp[nT]⟩,zE⟩
 obtain rfl:j=E.al.length:=zE
 rw[zzbw]at hO;have bL:Qx v=true:=by rcases hO with⟨_,rfl,_⟩|⟨_,rfl,_⟩<;>rfl
 have h1:=fun ex=>h1 ex ls v hO;rw[<- hiq]at h1;simp[h6,h8,h106,BO,Qr,Qg,Qa,Xr,nT,bL];exact h1 _
def ae1(Y:YT)(m:AM)(g:Pg)(f:Int)(mid:Nat)(b:QR)(o:Od)(q:Pl)(V:AV)(rt:Rt)(d:Int)(hV:mG m.boxes V q.ens)(aX:Dx rt)(h:lQ g f)(hb:fQ m.boxes mid b)(hq:Bj q)(hd:0<=d/\d<=1000000000)(KQ:0<=q.rg/\q.rg<=8)(K:So)
  (h1:∀e F,Ji g f b=some e->DA g f o q d e=some F->F≠0->∀ex ls v,amq m.lens (jV q f e.id F ((Za e.id q.ens).getD yj).al) v ls->K (.aS [.agg [I e.id,I e.it,I f,I F,I (e.i+(f-e.st)),I (pZ q f e.it F q.rg.toNat),v],.bool true]) {m with boxes:=m.boxes++ex,lens:=ls})
  (h0:(Ji g f b).bind (DA g f o q d)=none\/(Ji g f b).bind (DA g f o q d)=some 0->∀ex,K (.aS [.agg nT,.bool false]) {m with boxes:=m.boxes++ex}):
  aB Tryz.prog aD Y 106 [.agg (Qr g f mid),.agg (Qq o),.agg (Xr q V (.sl rt (q.cls.map Qi)) d)] m K:=by
 obtain⟨mb,ml,ms,mn⟩:=m;obtain⟨q1,q2,q3,q4,q5,q6⟩:=hq;have hc:=hV.cell;have hB:∀ex,fQ (mb++ex) mid b:=fun ex=>⟨by have:=hb.1;simp at this |-;omega,hb.ext ex⟩;have kp:=fun ex K hK=>aiU Y ⟨mb++ex,ml,ms,mn⟩ g f mid b h (hB ex) K hK;simp only[Qr,Qg,Qa,zzae,zzai]at kp;have gE:=fun ex ml d=>hV.bz ex ml ms mn d;cases hp:Ji g f b with
 |none=>
  have h0:=h0 (by rw[hp];exact .inl rfl);refine Xn Mx (fun _ f _=>.gd false .junk) zd ?_;simp[GR,ZI,Ef,Qr,Qg,Qa,Qq,Qd,Qi,Qm,Xr,hc];refine kp _ _ ?_;simp[Ul,hp];simp[nT]at h0;exact h0 _
 |some e=>
  refine Xn Mx (s5 q f) zd ?_;simp[GR,ZI,Ef,Qr,Qg,Qa,Qq,Qd,Qi,Qm,Xr,hc,s5];refine kp _ _ ?_;have IA:=Dv h e.id;have hfs:=h.2.2.1;unfold nR at hfs;by_cases dB:o.ki=1
  ·by_cases aL:o.en=e.id
   ·have w1:IntKind.i64.wrap (rC g e.id+d)=rC g e.id+d:=by rw[Ql]<;>omega
    have w2:IntKind.i64.wrap (rC g e.id+d-f)=rC g e.id+d-f:=by rw[Ql]<;>omega
    obtain⟨F,hF⟩:∃F,rC g e.id+d-f=F:=⟨_,rfl⟩;have wF:IntKind.i64.wrap F=F:=by rw[<- hF];exact w2
    have w0:IntKind.i64.wrap 0=0:=by decide
    have r8:(Ji g f b).bind (DA g f o q d)=some F:=by rw[hp];simp[DA,dB,aL,hF]
    by_cases qm:F=0
    ·have h0:=h0 (by rw[r8,qm];exact .inr rfl);simp[Ul,hp,Qe,sX,dB,aL,w1,w0,hF,qm];simp[nT]at h0;exact h0 _
    simp[Ul,hp,Qe,sX,dB,aL,w1,wF,hF,qm];refine ym Y mb ml ms mn g f mid _ q V rt d e F _ _ _ hV aX ⟨q1,q2,q3,q4,q5,q6⟩ KQ K ?_ ?_ ?_ ?_ ?_ (h1 e F hp (by simpa[hp]using r8) qm)<;>simp
   have w0:True:=trivial;obtain⟨F,hF⟩:∃F,e.fr-(f-e.st)=F:=⟨_,rfl⟩;have r8:(Ji g f b).bind (DA g f o q d)=some F:=by rw[hp];simp[DA,sX,hF,dB,aL]
   by_cases qm:F=0
   ·have h0:=h0 (by rw[r8,qm];exact .inr rfl);simp[Ul,hp,Qe,sX,dB,aL,hF,qm];simp[nT]at h0;exact h0 _
   simp[Ul,hp,Qe,sX,dB,aL,hF,qm];refine ym Y mb ml ms mn g f mid _ q V rt d e F _ _ _ hV aX ⟨q1,q2,q3,q4,q5,q6⟩ KQ K ?_ ?_ ?_ ?_ ?_ (h1 e F hp (by simpa[hp]using r8) qm)<;>simp
  by_cases ef:o.ki=2
  ·by_cases aL:o.en=e.id
   ·have w0:True:=trivial;have h0:=h0 (by rw[hp];simp[DA,ef,aL]);simp[Ul,hp,Qe,sX,ef,aL];simp[nT]at h0;exact h0 _
   have w0:True:=trivial;obtain⟨F,hF⟩:∃F,e.fr-(f-e.st)=F:=⟨_,rfl⟩;have r8:(Ji g f b).bind (DA g f o q d)=some F:=by rw[hp];simp[DA,sX,hF,ef,aL]
   by_cases qm:F=0
   ·have h0:=h0 (by rw[r8,qm];exact .inr rfl);simp[Ul,hp,Qe,sX,ef,aL,hF,qm];simp[nT]at h0;exact h0 _
   simp[Ul,hp,Qe,sX,ef,aL,hF,qm];refine ym Y mb ml ms mn g f mid _ q V rt d e F _ _ _ hV aX ⟨q1,q2,q3,q4,q5,q6⟩ KQ K ?_ ?_ ?_ ?_ ?_ (h1 e F hp (by simpa[hp]using r8) qm)<;>simp
  by_cases NU:o.ki=4
  ·cases ha0:Xk q e.it 0 f (e.fr-(f-e.st))with
   |false=>
    have h0:=h0 (by rw[hp];simp[DA,sX,NU,ha0]);have kc0:=Qdm g f q d (I e.id) (I e.it) (I f) (e.fr-(f-e.st)) [I (e.i+(f-e.st)),I e.re,.sl .ro (e.al.map Qf)] e.it 0 q5 zE zE;simp only[GQ,Qa,Qg,zzae,zzai]at kc0;rw[ha0]at kc0;simp[Ul,hp,Qe,sX,NU,gE,aX _ _ _,ha0];simp[nT]at h0;exact⟨kc0,h0 _⟩
   |true=>
    obtain⟨F,hF⟩:∃F,e.fr-(f-e.st)=F:=⟨_,rfl⟩;rw[hF]at ha0;have r8:(Ji g f b).bind (DA g f o q d)=some F:=by rw[hp];simp[DA,sX,hF,NU,ha0]
    have kc0:=Qdm g f q d (I e.id) (I e.it) (I f) F [I (e.i+(f-e.st)),I e.re,.sl .ro (e.al.map Qf)] e.it 0 q5 zE zE;simp only[GQ,Qa,Qg,zzae,zzai]at kc0;rw[ha0]at kc0;by_cases qm:F=0
    ·have h0:=h0 (by rw[r8,qm];exact .inr rfl);rw[qm]at ha0 kc0;simp[Ul,hp,Qe,sX,NU,gE,aX _ _ _,hF,ha0,qm];simp[nT]at h0;exact⟨kc0,h0 _⟩
    simp[Ul,hp,Qe,sX,NU,gE,aX _ _ _,hF,ha0,qm];refine⟨kc0,?_⟩;refine ym Y mb ml ms mn g f mid _ q V rt d e F _ _ _ hV aX ⟨q1,q2,q3,q4,q5,q6⟩ KQ K ?_ ?_ ?_ ?_ ?_ (h1 e F hp (by simpa[hp]using r8) qm)<;>simp
  have w0:True:=trivial;obtain⟨F,hF⟩:∃F,e.fr-(f-e.st)=F:=⟨_,rfl⟩;have r8:(Ji g f b).bind (DA g f o q d)=some F:=by rw[hp];simp[DA,sX,hF,dB,ef,NU]
  by_cases qm:F=0
  ·have h0:=h0 (by rw[r8,qm];exact .inr rfl);simp[Ul,hp,Qe,sX,dB,ef,NU,hF,qm];simp[nT]at h0;exact h0 _
  simp[Ul,hp,Qe,sX,dB,ef,NU,hF,qm];refine ym Y mb ml ms mn g f mid _ q V rt d e F _ _ _ hV aX ⟨q1,q2,q3,q4,q5,q6⟩ KQ K ?_ ?_ ?_ ?_ ?_ (h1 e F hp (by simpa[hp]using r8) qm)<;>simp
end
