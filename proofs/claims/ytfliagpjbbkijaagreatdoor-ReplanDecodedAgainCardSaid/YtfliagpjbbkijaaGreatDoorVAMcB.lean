import Derived.Test.YtfliagpjbbkijaaGreatDoorVAMbN
import Derived.Lib.JoinLaws
import Derived.Lib.Overlaps
set_option linter.all false
set_option maxRecDepth 100000
set_option maxHeartbeats 64000000
namespace Go.Proofs.YtfliagpjbbkijaaGreatDoor
noncomputable section
open Go Go.Abs
def Ai(x:Int):P2->Nat->Int
 |[],_=> -1
 |a::r,i=>if x=a then i else Ai x r (i+1)
def Ht(x:Int):∀(L:P2)(i:Nat),(0<=Ai x L i)=(x∈L)
 |[],i=>by simp[Ai]
 |a::r,i=>by
  unfold Ai;by_cases h:x=a
  ·rw[if_pos h];simp[h]
  rw[if_neg h,Ht x r (i+1)];simp[h]
def ZY(L:P2)(x:Int)(hl:L.length<=1000000000):Pure Tryz.prog aD 167 [.sl .ro (L.map Xa),I x] (I (Ai x L 0)):=by
 refine Qn acW (fun _ _ _=>.junk) zd ?_;simp[ahK];refine Qj CF (fun f m=>∃i:Nat,f 8=I i/\i<=L.length/\Ai x (L.drop i) i=Ai x L 0/\m=⟨[],[],fun _=>.gone,0⟩) (fun f _=>L.length-(numOf (f 8)).toNat) ?_ ?_
 ·exact⟨0,zd,zE,zd,rfl⟩
 rintro f m ⟨i,f8,hi,hr,rfl⟩;rcases zzab i L.length with aa|bu
 ·obtain⟨a,ha⟩:=aY aa;have ai:Qg (L.map Xa) i=[I a]:=Qv (by simp[ha,Xa]);have ah:(i:Int)<(L.length:Int):=zE
  have hw:=bR i zE;have hd:L.drop i=a::L.drop (i+1):=by rw[zzaf aa,(zza.1 ha).2]
  rw[hd,Ai]at hr;by_cases hP:x=a
  ·rw[if_pos hP]at hr;simp[f8,CF,TX,ah,ai,hP];rw[<- hP];exact hr
  rw[if_neg hP]at hr;simp[f8,CF,ah,ai,hP,hw];refine⟨aR,⟨i+1,zd,zE,hr⟩,zE⟩
 obtain rfl:i=L.length:=zE
 rw[zzbx,Ai]at hr;simp[f8,CF,TX];exact hr
def jP(L:P2)(x:Int)(hl:L.length<=1000000000):Pure Tryz.prog aD 110 [.sl .ro (L.map Xa),I x] (.bool (decide (x∈L))):=by
 have k:=ZY L x hl;refine Qn ab8 (fun _ _ _=>I (Ai x L 0)) zd ?_;simp[ag2,ag3];refine⟨k,?_⟩;simp[<- Ht x L 0]
def DZ(e:bJ)(id:Int):Pure Tryz.prog aD 164 [.agg (Qf e),.ep [I id] 0] (.bool (decide (e.id=id))):=by
 refine Qn acU (fun _ _ _=>.junk) zd ?_;simp[ahG,ahH,Qf];rw[zzcs];simp
def L5(g:Pg)(id:Int):Bool:=(g.ev.find? (fun e=>decide (e.id=id))).isSome
def D0(L:List bJ)(id:Int)(hl:L.length<=1000000000):Pure Tryz.prog aD 163 [.sl .ro (L.map Qf),.fn 164 [] [.ep [I id] 0]] (.bool (L.find? (fun e=>decide (e.id=id))).isSome):=by
 have k:=yj L (fun e=>decide (e.id=id)) 164 [] [.ep [I id] 0] hl (fun _=>rfl) (fun _=>zd) (fun e _=>DZ e id) (fun _ _ xs=>match xs with|.agg (.int _ n::_)::_=>.bool (decide (n=id))|_=>.junk) (fun _ e _=>rfl);refine Qn acT (fun _ _ _=>I (Ur (fun e=>decide (e.id=id)) L 0)) zd ?_;cases hf:L.find? (fun e=>decide (e.id=id))with
 |none=>
  rw[Qcz hf]at k |-
  simp[TV,TW];exact k
 |some e=>
  obtain⟨n,g1,_,_⟩:=Ky (i:=0) hf;rw[g1,zzbm]at k |-
  simp[TV,TW];exact k
def qh(g:Pg)(o:Od):Bool:=!L5 g o.nw.id&&(decide (Ja g o.nw.id<0)&&!decide (o.nw.id∈g.dr))
def L6(Y:YT)(m:AM)(g:Pg)(f:Int)(mid:Nat)(o:Od)(q:Pl)(V:AV)(rt:Rt)(d:Int)(hV:mG m.boxes V q.ens)(h:lR g f)(hd:g.dr.length<=1000000000):
  aA Tryz.prog aD Y 107 [.agg (Qq g f mid),.agg (Qu o),.agg (Xo q V (.sl rt (q.cls.map Qh)) d)] m (fun r m'=>m'=m/\r=.bool (qh g o)):=by
 obtain⟨mb,ml,ms,mn⟩:=m;have hc:=hV.cell;have k:=fun ex K hK=>LV Y ⟨mb++ex,ml,ms,mn⟩ g f mid o.nw.id h K hK;simp only[Qq,Qo,Qa,zzae,zzaj]at k;have k1:=D0 g.ev o.nw.id h.1;have k2:=jP g.dr o.nw.id hd;refine aA.read (Xh ab6 (fun _ f _=>if f=163 then .bool (L5 g o.nw.id)else if f=110 then .bool (decide (o.nw.id∈g.dr))else .gd false .junk) zd ?_);cases hh:L5 g o.nw.id with
 |true=>
  unfold L5 at hh;rw[hh]at k1;simp[TD,TE,Qq,Qo,Qa,Qu,Qd,Qh,Ql,Xo,hc,qh,L5,hh];exact⟨k1,nU⟩
 |false=>
  unfold L5 at hh;rw[hh]at k1;simp[TD,TE,Qq,Qo,Qa,Qu,Qd,Qh,Ql,Xo,hc,qh,L5,hh];refine⟨k1,k _ _ ?_⟩;by_cases hp:Ja g o.nw.id<0
  ·simp[hp];exact⟨k2,nU⟩
  simp[hp];exact nU
end
end Go.Proofs.YtfliagpjbbkijaaGreatDoor
namespace Go.Proofs.YtfliagpjbbkijaaGreatDoor
noncomputable section
open Go Go.Abs
def yt:En:=⟨0,0,0,0,0,0,[]⟩
def Qbw(g:Pg)(f:Int)(b:QP)(o:Od)(q:Pl)(d:Int):Bool:=
 if DT g f b o.en=true then false
 else if o.en∈g.dr then false
 else if d<1 then false
 else match Xg ((Zf o.en q.ens).getD yt).it q.aO with
  |none=>false
  |some x=>if x.ki≠4 then false
   else match BO g f b o.en with
    |none=>true
    |some st=>if q.ln-d<st then false else if st+d-f=0 then true else Xx q ((Zf o.en q.ens).getD yt).it 0 f (st+d-f)
def Hu(g:Pg)(F:Int)(b:QP)(o:Od)(q:Pl)(d:Int):X1:=fun _ f _=>if f=110 then .bool (decide (o.en∈g.dr))else if f=151 then .bool (Xx q ((Zf o.en q.ens).getD yt).it 0 F ((BO g F b o.en).getD 0+d-F))else .gd false .junk
def RH(Y:YT)(m:AM)(q:Pl)(V:AV)(rt:Rt)(id:Int)(hc:Qw V=true)(hl:q.aO.length<=1000000000):
  aA Tryz.prog aD Y 147 [.agg (Jb q V (.sl rt (q.cls.map Qh))),I id] m (fun r m'=>m'=m/\r=Zq (Xg id q.aO)):=by
 obtain⟨mb,ml,ms,mn⟩:=m;have h:=xD q.aO id hl;refine aA.read (Xh Ng (fun _ f l=>if f=191 then Zq (Xg id q.aO)else .junk) zd ?_);cases hf:Xg id q.aO with
 |none=>
  rw[hf]at h;simp[EV,EW,Jb,hc,Zq];exact⟨h,nU⟩
 |some x=>
  rw[hf]at h;simp[EV,EW,Jb,hc,Zq,Qm];exact⟨h,nU⟩
def amB(Y:YT)(m:AM)(q:Pl)(V:AV)(rt:Rt)(id:Int)(hc:Qw V=true)(hl:q.aO.length<=1000000000)(K:UV)(hK:K (Zq (Xg id q.aO)) m):
  aA Tryz.prog aD Y 147 [.agg (Jb q V (.sl rt (q.cls.map Qh))),I id] m K:=
 aA.mono (RH Y m q V rt id hc hl) (by rintro r m' ⟨rfl,rfl⟩;exact hK)
def rtE:Option En->Rt
 |none=>.nil
 |some _=>.ro
def Hv(o:Option En):Ws o=.aQ [.agg [I (o.getD yt).id,I (o.getD yt).it,I (o.getD yt).fr,I (o.getD yt).ea,I (o.getD yt).la,I (o.getD yt).bo,.sl (rtE o) ((o.getD yt).al.map Qe)],.bool o.isSome]:=by
 cases o<;>rfl
def L7(Y:YT)(m:AM)(g:Pg)(f:Int)(mid:Nat)(b:QP)(o:Od)(q:Pl)(V:AV)(rt:Rt)(d:Int)(hV:mG m.boxes V q.ens)(bk:DX rt)(h:lR g f)(hb:gm m.boxes mid b)(eY:g.dr.length<=1000000000)(hq:BI q)(ei:0<=q.ln/\q.ln<=1000000)(hd:th d):
  aA Tryz.prog aD Y 103 [.agg (Qq g f mid),.agg (Qu o),.agg (Xo q V (.sl rt (q.cls.map Qh)) d)] m (fun r m'=>m'=m/\r=.bool (Qbw g f b o q d)):=by
 obtain⟨mb,ml,ms,mn⟩:=m;obtain⟨q1,q2,q3,q4,q5,q6⟩:=hq;have hc:=hV.cell;have hB:∀ex,gm (mb++ex) mid b:=fun ex=>⟨by have:=hb.1;simp at this |-;omega,hb.ext ex⟩;have ke:=fun ex K hK=>asL Y ⟨mb++ex,ml,ms,mn⟩ g f mid b o.en h (hB ex) K hK;have ki:=fun ex K hK=>amz Y ⟨mb++ex,ml,ms,mn⟩ g f mid b o.en h (hB ex) K hK;have kn:=fun ex K hK=>OH Y ⟨mb++ex,ml,ms,mn⟩ q V rt o.en (hV.ext ex) zE q6 K hK;simp only[Qq,Qo,Qa,Jb,zzae,zzaj]at ke ki kn;have k2:=jP g.dr o.en eY;have gK:=fun ex d=>hV.bE ex ml ms mn d;refine aA.read (Xh ab4 (Hu g f b o q d) zd ?_);cases he:DT g f b o.en with
 |true=>
  simp[EL,EM,Qq,Qo,Qa,Qu,Qd,Qh,Ql,Xo,hc,Qbw,he,Hu];refine ke _ _ ?_;simp[he];exact nU
 |false=>
  by_cases hm:o.en∈g.dr
  ·simp[EL,EM,Qq,Qo,Qa,Qu,Qd,Qh,Ql,Xo,hc,Qbw,he,hm,Hu];refine ke _ _ ?_;simp[he,hm]at k2 |-
   exact⟨k2,nU⟩
  by_cases hd1:d<1
  ·simp[EL,EM,Qq,Qo,Qa,Qu,Qd,Qh,Ql,Xo,hc,Qbw,he,hm,hd1,Hu];refine ke _ _ ?_;simp[he,hm,hd1]at k2 |-
   exact⟨k2,nU⟩
  simp[EL,EM,Qq,Qo,Qa,Qu,Qd,Qh,Ql,Xo,hc,Qbw,he,hm,hd1,Hu];refine ke _ _ ?_;simp[he,hm,hd1]at k2 |-
  refine⟨k2,kn _ _ ?_⟩;obtain⟨e,hE⟩:∃e,(Zf o.en q.ens).getD yt=e:=⟨_,rfl⟩;have kt:=fun ex K hK=>amB Y ⟨mb++ex,ml,ms,mn⟩ q V rt e.it hc zE K hK;simp only[Jb]at kt;rw[Hv];generalize rtE (Zf o.en q.ens)=r7;generalize(Zf o.en q.ens).isSome=b7;rw[hE];obtain⟨X,hX⟩:∃X,Xg e.it q.aO=X:=⟨_,rfl⟩;have w0:IntKind.i64.wrap 0=0:=by decide
  simp;refine kt _ _ ?_;cases X with
  |none=>
   simp[hX,Zq];exact .bool _
  |some x=>
   by_cases fM:x.ki=4
   ·have LD:=Qee q e.it 0 f ((BO g f b o.en).getD 0+d-f) q5 zE zE;simp only[Qa]at LD
    have sU:∀st,BO g f b o.en=some st->0<=st/\st<=1000000:=fun st hh=>by
     unfold BO at hh;split at hh
     ·cases hh
     split at hh
     ·cases hh;exact DU h _
     cases hh
    have hfs:=h.2.2.1;unfold nT at hfs;unfold th at hd;simp[hX,Zq,Qm,fM];refine ki _ _ ?_;cases hi:BO g f b o.en with
    |none=>
     simp[RA];exact .bool _
    |some st=>
     have fO:=sU st hi;have w1:IntKind.i64.wrap (q.ln-d)=q.ln-d:=by rw[Qi]<;>omega
     rw[hi]at LD;by_cases o6:q.ln-d<st
     ·simp[RA,w1,o6];exact .bool _
     have w2:IntKind.i64.wrap (st+d)=st+d:=by rw[Qi]<;>omega
     have w3:IntKind.i64.wrap (st+d-f)=st+d-f:=by rw[Qi]<;>omega
     by_cases hz:st+d-f=0
     ·simp[RA,w1,o6,w2,hz,w0];exact .bool _
     simp[RA,w1,o6,w2,w3,hz,gK,bk _ _ _];exact⟨Pi LD,.bool _⟩
   simp[hX,Zq,Qm,fM];exact .bool _
def Xw(f:Int):List bJ->QP->QP
 |[],b=>b
 |e::r,b=>Xw f r (if e.st<f then Vi e.id true b else b)
def ED:PQ:=[I 0,I 0,I 0,I 0,.sl .nil [],I 0,I 0,I 0,I 0,.sl .nil [],.sl .nil [],.sl .nil [],.sl .nil [],.sl .nil [],.sl .nil [],I 0,.sl .nil [],I 0,I 0,.nilv false]
def rS(k:Int)(v:Bool):∀l:QP,(Vi k v l).length<=l.length+1
 |[]=>by simp[Vi]
 |x::r=>by
  unfold Vi;split
  ·simp
  have:=rS k v r;simp;omega
def ir(c:Cue):Bool->List Cue->List Cue
 |p,[]=>if p=true then[c]else[]
 |p,x::r=>if x.id=c.id then ir c p r else if p=true/\c.id<x.id then c::x::ir c false r else x::ir c p r
def axW(o:List Cue)(v:AV)(ls:P1):Prop:=(o=[]/\v=.sl .nil []/\ls=[])\/(o≠[]/\v=.sl (.own 0 5) (o.map Ql)/\ls=[o.length])
def mH(c:Cue)(l:List Cue):AV:=
 if BL c=true then
  (if 200<(ir c (!decide (c.to=0)) l).length then .aQ [.sl .nil [],I 150]
  else .aQ [.sl (if ir c (!decide (c.to=0)) l=[]then .nil else .ro) ((ir c (!decide (c.to=0)) l).map Ql),I 0])
 else .aQ [.sl .nil [],I 150]
def asP(c:Cue)(l:List Cue)(f:Nat->AV)(m:AM):Prop:=
 ∃(i:Nat)(p:Bool)(o:List Cue)(bx:X2)(ls:P1),f 18=I i/\f 7=.bool p/\i<=l.length/\o++ir c p (l.drop i)=ir c (!decide (c.to=0)) l/\axW o (f 6) ls/\o.length<=2*i/\
  m=⟨Ql c::bx,ls,fun _=>.gone,0⟩
def BR(l:List Cue)(c:Cue)(hl:l.length<=1000000):Pure Tryz.prog aD 54 [.sl .ro (l.map Ql),.agg (Ql c)] (mH c l):=by
 have cv:=tf c;refine Qn akB (fun _ f _=>if f=32 then .bool (BL c)else .junk) zd ?_;cases hc:BL c with
 |false=>
  rw[hc]at cv;simp[abS,EG,Ql,mH,hc];exact cv
 |true=>
  rw[hc]at cv;simp[abS,Ql];refine⟨cv,?_⟩;refine Qj fA (asP c l) (fun f _=>l.length-(numOf (f 18)).toNat) ?_ ?_
  ·refine⟨0,!decide (c.to=0),[],[],[],zd,?_,zE,zd,.inl ⟨rfl,zd,rfl⟩,zd,by simp[Ql]⟩;simp;try(rw[zzcs];simp)
  rintro f m ⟨i,p,o,bx,ls,h18,h7,hi,hR,hO,hol,rfl⟩;rcases zzab i l.length with aa|bu
  ·obtain⟨x,hx⟩:=aY aa;have ai:Qg (l.map Ql) i=Ql x:=Qv (by simp[hx]);have ah:(i:Int)<(l.length:Int):=zE
   have hw:=bR i zE;have hd:l.drop i=x::l.drop (i+1):=by rw[zzaf aa,(zza.1 hx).2]
   rw[hd,ir]at hR;by_cases aM:x.id=c.id
   ·rw[if_pos aM]at hR;simp[h18,h7,fA,ah,ai,hw,Ql,aM];refine⟨aR,⟨i+1,p,o,bx++[Ql x],ls,zd,zd,zE,hR,Pi hO,zE,by simp[Ql,aM]⟩,zE⟩
   rw[if_neg aM]at hR
   have SV:∀(z:List Cue)(row:PQ),((∃a,a∈z/\Ql a=row)\/row=Ql c\/row=Ql x)->row.length=5:=by
    rintro z row (⟨a,_,rfl⟩|rfl|rfl)<;>rfl
   by_cases hp:p=true/\c.id<x.id
   ·rw[if_pos hp]at hR;obtain⟨rfl,hp⟩:=hp;obtain⟨rfl,h6,rfl⟩|⟨ho,h6,rfl⟩:=hO
    ·simp[h18,h7,h6,fA,ah,ai,hw,Ql,aM,hp];refine⟨aR,⟨i+1,false,[c,x],bx++[Ql x],[2],zd,zd,zE,Pi hR,.inr ⟨zd,by simp[Ql],rfl⟩,by simp;omega,by simp[Ql]⟩,zE⟩
    simp[h18,h7,h6,fA,ah,ai,hw,Ql,aM,hp];refine⟨⟨by rintro row (⟨a,_,rfl⟩|rfl)<;>rfl,zE⟩,⟨by rintro row (⟨a,_,rfl⟩|rfl|rfl)<;>rfl,zE⟩,ag ?_,⟨i+1,false,o++[c,x],bx++[Ql x],[o.length+2],zd,zd,zE,Pi hR,.inr ⟨zd,by simp[Ql],zd⟩,by simp;omega,by simp[Ql]⟩,zE⟩;repeat(first|exact Qb _ _|refine Qc _ rfl ?_)
   rw[if_neg hp]at hR;obtain⟨rfl,h6,rfl⟩|⟨ho,h6,rfl⟩:=hO
   ·cases p with
    |false=>
     simp[h18,h7,h6,fA,ah,ai,hw,Ql,aM];refine⟨aR,⟨i+1,false,[x],bx++[Ql x],[1],zd,zd,zE,Pi hR,.inr ⟨zd,by simp[Ql],rfl⟩,by simp;omega,by simp[Ql]⟩,zE⟩
    |true=>
     have VU:¬c.id<x.id:=fun h=>hp ⟨rfl,h⟩;simp[h18,h7,h6,fA,ah,ai,hw,Ql,aM,VU];refine⟨aR,⟨i+1,true,[x],bx++[Ql x],[1],zd,zd,zE,Pi hR,.inr ⟨zd,by simp[Ql],rfl⟩,by simp;omega,by simp[Ql]⟩,zE⟩
   cases p with
   |false=>
    simp[h18,h7,h6,fA,ah,ai,hw,Ql,aM];refine⟨⟨by rintro row (⟨a,_,rfl⟩|rfl)<;>rfl,zE⟩,ag ?_,⟨i+1,false,o++[x],bx++[Ql x],[o.length+1],zd,zd,zE,Pi hR,.inr ⟨zd,by simp[Ql],zd⟩,by simp;omega,by simp[Ql]⟩,zE⟩;repeat(first|exact Qb _ _|refine Qc _ rfl ?_)
   |true=>
    have VU:¬c.id<x.id:=fun h=>hp ⟨rfl,h⟩;simp[h18,h7,h6,fA,ah,ai,hw,Ql,aM,VU];refine⟨⟨by rintro row (⟨a,_,rfl⟩|rfl)<;>rfl,zE⟩,ag ?_,⟨i+1,true,o++[x],bx++[Ql x],[o.length+1],zd,zd,zE,Pi hR,.inr ⟨zd,by simp[Ql],zd⟩,by simp;omega,by simp[Ql]⟩,zE⟩;repeat(first|exact Qb _ _|refine Qc _ rfl ?_)
  obtain rfl:i=l.length:=zE
  rw[zzbx,ir]at hR;obtain⟨rfl,h6,rfl⟩|⟨ho,h6,rfl⟩:=hO
  ·cases p with
   |false=>
    simp at hR;simp[h18,h7,h6,fA,EG,Ql,mH,hc,hR]
   |true=>
    simp at hR;simp[h18,h7,h6,fA,EG,Ql,mH,hc,<- hR]
  cases p with
  |false=>
   simp at hR;by_cases hb:200<o.length
   ·have cA:(200:Int)<(o.length:Int):=zE
    simp[h18,h7,h6,fA,EG,Ql,mH,hc,<- hR,hb,cA]
   have cA:¬(200:Int)<(o.length:Int):=zE
   simp[h18,h7,h6,fA,EG,Ql,mH,hc,<- hR,hb,cA,ho]
  |true=>
   simp at hR;have aH:(o++[c]).length=o.length+1:=zd
   by_cases hb:200<o.length+1
   ·have cA:(200:Int)<(o.length:Int)+1:=zE
    simp[h18,h7,h6,fA,EG,Ql,mH,hc,<- hR,hb,cA];exact⟨by rintro row (⟨a,_,rfl⟩|rfl)<;>rfl,zE⟩
   have cA:¬(200:Int)<(o.length:Int)+1:=zE
   simp[h18,h7,h6,fA,EG,Ql,mH,hc,<- hR,hb,cA,ho];exact⟨by rintro row (⟨a,_,rfl⟩|rfl)<;>rfl,zE⟩
def afu{α:Type}(l:List α)(n:Nat):l.take (if(n:Int)<(l.length:Int)then(n:Int)else(l.length:Int)).toNat=l.take n:=by
 split
 ·simp
 rw[zzal zd,zzal zE]
def ZZ{a:Nat}(n:Nat):(if(n:Int)<(a:Int)then(n:Int)else(a:Int))<=a:=by split<;>omega
def Z2{a:Nat}(n:Nat):0<=(if(n:Int)<(a:Int)then(n:Int)else(a:Int)):=by split<;>omega
def Hw(g:Pg)(f:Int)(q:Pl)(d:Int)(er:PQ):PQ:=[.ep (Qa q++[I d]) 0,.ep (Qo g++[I f,.junk]) 0,.ep er 0]
def Qde(g:Pg)(f:Int)(q:Pl)(d:Int)(a0 a1 a2:AV)(fr:Int)(r:PQ)(item region:Int)(h1:q.cls.length<=1000000)(h2:q.sh.length<=1000000000)(h3:q.aO.length<=1000000000):
  Pure Tryz.prog aD 166 ([I item,I region]++Hw g f q d (a0::a1::a2::I fr::r)) (.bool (Xx q item region f fr)):=by
 have k:=Qee q item region f fr h1 h2 h3;simp only[Qa]at k;refine Qn acV (fun _ _ _=>.bool (Xx q item region f fr)) (by simp[Hw]) ?_;simp[ahI,ahJ,Hw,Qa,Qo];exact k
def iH(g:Pg)(f:Int)(o:Od)(q:Pl)(d:Int)(e:bJ):Option Int:=
 if o.ki=1/\o.en=e.id then some (rP g e.id+d-f)
 else if o.ki=2/\o.en=e.id then none
 else if o.ki=4/\Xx q e.it 0 f (uW f e).fr=false then none
 else some (uW f e).fr
def tj(q:Pl)(f:Int):X1:=fun _ k l=>if k=166 then(match l with
 |[.int _ it,.int _ re,_,_,.ep (_::_::_::.int _ F::_) 0]=>.bool (Xx q it re f F)
 |_=>.junk)else .gd false .junk
def jQ(q:Pl)(f:Int)(id F:Int)(l:List Sp):List Sp:=l.filter fun a=>Xx q a.2 a.1 f F
def amC(ml:P1)(o:List Sp)(v:AV)(ls:P1):Prop:=(o=[]/\v=.sl .nil []/\ls=ml)\/(o≠[]/\v=.sl (.own ml.length 2) (o.map Qe)/\ls=ml++[o.length])
def asQ(mb:X2)(ml:P1)(ms:Nat->LS)(mn:Nat)(r0 r1 r2 pre:PQ)(al:List Sp)(A:List Sp->List Sp)(s:Nat->AV)(m:AM):Prop:=
 ∃(j:Nat)(bx:X2)(ls:P1)(v:AV),s 106=I j/\j<=al.length/\amC ml (A (al.take j)) v ls/\m=⟨mb++(r0::r1::r2::nV::(pre++[v])::bx),ls,ms,mn⟩
def rT(q:Pl)(f:Int)(it F:Int)(n:Nat):Int:=Uq (fun r=>Xx q it r f F) n
def afv(b:Nat->Bool)(i:Nat)(h:i<8):IntKind.i64.wrap ((((Uq b i%2 ^ IntKind.i64.bits).toNat|||(IntKind.i64.wrap (2 ^ min i IntKind.i64.bits)%2 ^ IntKind.i64.bits).toNat:Nat)):Int)=Uq b i+2 ^ i:=by
 have gV:=DD b i;obtain⟨x,hx⟩:∃x:Nat,Uq b i=(x:Int):=⟨(Uq b i).toNat,zE⟩
 have hx2:x<2 ^ i:=by
  have h2:=gV.2;rw[hx]at h2
  exact_mod_cast h2
 rw[hx];exact X8 i h x hx2
def L8:SC:=(⟨_,by cbv⟩:KM [1,1,1,1,1,1] Ay).1
def Z3:SC:=(⟨_,fun _=>by cbv⟩:FO [1,1,1,1,1,1] Ay).1 L8
theorem Hy:Ay=Z3:=rfl
def yu(Y:YT)(mb:X2)(ml:P1)(ms:Nat->LS)(mn:Nat)(g:Pg)(f:Int)(mid:Nat)(R1:PQ)(q:Pl)(V:AV)(rt:Rt)(d:Int)(e:bJ)(F:Int)(E0:R0)(x5 x6:AV)(hV:mG mb V q.ens)(bk:DX rt)(hq:BI q)(Oj:0<=q.rg/\q.rg<=8)(K:UV)
  (h3:Abs.look E0 3=.ptr mb.length 0)(h5:Abs.look E0 5=.ptr (mb.length+2) 0)(h6:Abs.look E0 6=.ptr (mb.length+3) 0)(h8:Abs.look E0 8=.ptr (mb.length+4) 0)(pL:Abs.look E0 11=.fn 166 [] [.ptr (mb.length+2) 0,.ptr mb.length 0,.ptr (mb.length+4) 0])
  (h1:∀ex ls v,amC ml (jQ q f e.id F ((Zf e.id q.ens).getD yt).al) v ls->K (.aQ [.agg [I e.id,I e.it,I f,I F,I (e.i+(f-e.st)),I (rT q f e.it F q.rg.toNat),v],.bool true]) ⟨mb++ex,ls,ms,mn⟩):
  vc Tryz.prog aD (tj q f) Y L8 ⟨Zr 124 E0,⟨mb++[Qq g f mid,R1,Xo q V (.sl rt (q.cls.map Qh)) d,nV,[I e.id,I e.it,I f,I F,I (e.i+(f-e.st)),x5,x6]],ml,ms,mn⟩⟩ (wM Tryz.prog aD (tj q f) EN K):=by
 obtain⟨q1,q2,q3,q4,q5,q6⟩:=hq;have hc:=hV.cell;have gK:=fun ex ml d=>hV.bE ex ml ms mn d;simp[L8,h5,h8,Qq,Qo,Qa,Xo,nV];refine Qj JG (fun s m=>∃i:Nat,s 80=I i/\(i:Int)<=q.rg/\m=⟨mb++[Qq g f mid,R1,Xo q V (.sl rt (q.cls.map Qh)) d,nV,[I e.id,I e.it,I f,I F,I (e.i+(f-e.st)),I (rT q f e.it F i),.sl .nil []]],ml,ms,mn⟩) (fun s _=>(q.rg-numOf (s 80)).toNat) ?_ ?_
 ·exact⟨0,zd,by simp;omega,by simp[Qq,Qo,Qa,Xo,nV,rT,Uq]⟩
 rintro s m ⟨i,h80,hi,rfl⟩;by_cases aa:(i:Int)<q.rg
 ·have hw:=bR i zE;have kc:=Qde g f q d (I e.id) (I e.it) (I f) F [I (e.i+(f-e.st)),I (rT q f e.it F i),.sl .nil []] e.it i q5 zE zE;simp only[Hw,Qa,Qo,zzae,zzaj]at kc;simp[h8,pL,h80,JG,aa,hw,Qq,Qo,Qa,Xo,nV,tj,gK,bk _ _ _];have hor:=afv (fun r=>Xx q e.it r f F) i zE;refine⟨kc,?_⟩;have dR:rT q f e.it F (i+1)=rT q f e.it F i+if Xx q e.it (i:Int) f F=true then 2 ^ i else 0:=rfl;split
  ·rename_i ha;rw[if_pos ha]at dR;refine⟨aR,⟨i+1,zd,zE,by rw[dR];exact hor⟩,zE⟩
  rename_i ha;rw[if_neg ha]at dR;refine⟨aR,⟨i+1,zd,zE,by rw[dR];simp⟩,zE⟩
 have kn:=fun ex K hK=>OH Y ⟨mb++ex,ml,ms,mn⟩ q V rt e.id (hV.ext ex) zE q6 K hK;simp only[Jb]at kn;simp[h5,h8,h80,JG,aa,Qq,Qo,Qa,Xo,nV,tj];refine kn _ _ ?_;rw[Hv];generalize rtE (Zf e.id q.ens)=r7;generalize(Zf e.id q.ens).isSome=b7;obtain⟨E,hE⟩:∃E,(Zf e.id q.ens).getD yt=E:=⟨_,rfl⟩;rw[hE]
 have hEl:E.al.length<=8796093022208:=by
  rw[<- hE];cases hf:Zf e.id q.ens with
  |none=>simp[yt]
  |some x=>exact q6 x (jJ hf).1
 have hiq:i=q.rg.toNat:=zE
 rw[hE]at h1;simp[EN];refine Qj Cp (asQ mb ml ms mn (Qq g f mid) R1 (Xo q V (.sl rt (q.cls.map Qh)) d) [I e.id,I e.it,I f,I F,I (e.i+(f-e.st)),I (rT q f e.it F i)] E.al (jQ q f e.id F)) (fun s _=>E.al.length-(numOf (s 106)).toNat) ?_ ?_
 ·exact⟨0,_,ml,.sl .nil [],zd,zE,.inl ⟨by simp[jQ],rfl,rfl⟩,by simp[Qq,Qo,Qa,Xo,nV];rfl⟩
 rintro s2 m ⟨j,bx,ls,v,h106,hj,hO,rfl⟩;rcases zzab j E.al.length with QJ|hgj
 ·obtain⟨a,ha⟩:=aY QJ;have ai:=Zv ha;have asR:(j:Int)<(E.al.length:Int):=zE
  have hw:=bR j zE
  have bB:jQ q f e.id F (E.al.take (j+1))=jQ q f e.id F (E.al.take j)++if Xx q a.2 a.1 f F=true then[a]else[]:=by
   unfold jQ;rw[zzax,ha,zzdh];congr 1;by_cases hh:Xx q a.2 a.1 f F=true<;>simp[hh]
  have hol:(jQ q f e.id F (E.al.take j)).length<=j:=by
   refine zzb (zzca _ _) ?_;simp;omega
  generalize jQ q f e.id F (E.al.take j)=oL at hO bB hol;obtain⟨rfl,rfl,rfl⟩|⟨ho,rfl,rfl⟩:=hO
  ·have kc:=Qde g f q d (I e.id) (I e.it) (I f) F [I (e.i+(f-e.st)),I (rT q f e.it F i),.sl .nil []] a.2 a.1 q5 zE zE;simp only[Hw,Qa,Qo,zzae,zzaj]at kc;simp[h8,pL,h106,Cp,asR,ai,hw,Qq,Qo,Qa,Xo,nV,tj,gK,bk _ _ _];refine⟨kc,?_⟩;split
   ·rename_i hh;rw[if_pos hh]at bB;refine⟨aR,⟨j+1,bx++[[I a.1,I a.2]],ls++[1],.sl (.own ls.length 2) [Qe a],zd,zE,.inr ⟨by rw[bB];simp,by rw[bB];rfl,by rw[bB];rfl⟩,by simp[nV,Qe]⟩,zE⟩
   rename_i hh;rw[if_neg hh]at bB;refine⟨aR,⟨j+1,bx++[[I a.1,I a.2]],ls,.sl .nil [],zd,zE,.inl ⟨by rw[bB];rfl,rfl,rfl⟩,by simp[nV]⟩,zE⟩
  have kc:=Qde g f q d (I e.id) (I e.it) (I f) F [I (e.i+(f-e.st)),I (rT q f e.it F i),.sl .ro (oL.map Qe)] a.2 a.1 q5 zE zE;simp only[Hw,Qa,Qo,zzae,zzaj]at kc;simp[h8,pL,h106,Cp,asR,ai,hw,Qq,Qo,Qa,Xo,nV,tj,gK,bk _ _ _];refine⟨kc,?_⟩
  have SV:∀row:PQ,((∃x y,(x,y)∈oL/\Qe (x,y)=row)\/row=Qe a)->row.length=2:=by
   rintro row (⟨x,y,_,rfl⟩|rfl)<;>rfl
  split
  ·rename_i hh;rw[if_pos hh]at bB;refine⟨⟨SV,zE⟩,aR,⟨j+1,bx++[[I a.1,I a.2]],ml++[oL.length+1],.sl (.own ml.length 2) ((oL++[a]).map Qe),zd,zE,.inr ⟨by rw[bB];simp,by rw[bB],by rw[bB];simp⟩,by simp[nV,Qe]⟩,zE⟩
  rename_i hh;rw[if_neg hh,zzas]at bB;refine⟨aR,⟨j+1,bx++[[I a.1,I a.2]],ml++[oL.length],.sl (.own ml.length 2) (oL.map Qe),zd,zE,.inr ⟨by rw[bB];exact ho,by rw[bB],by rw[bB]⟩,by simp[nV]⟩,zE⟩
 obtain rfl:j=E.al.length:=zE
 rw[zzbs]at hO;have bO:Qw v=true:=by rcases hO with⟨_,rfl,_⟩|⟨_,rfl,_⟩<;>rfl
 have h1:=fun ex=>h1 ex ls v hO;rw[<- hiq]at h1;simp[h6,h8,h106,Cp,Qq,Qo,Qa,Xo,nV,bO];exact h1 _
def afw(Y:YT)(m:AM)(g:Pg)(f:Int)(mid:Nat)(b:QP)(o:Od)(q:Pl)(V:AV)(rt:Rt)(d:Int)(hV:mG m.boxes V q.ens)(bk:DX rt)(h:lR g f)(hb:gm m.boxes mid b)(hq:BI q)(hd:0<=d/\d<=1000000000)(Oj:0<=q.rg/\q.rg<=8)(K:UV)
  (h1:∀e F,Jf g f b=some e->iH g f o q d e=some F->F≠0->∀ex ls v,amC m.lens (jQ q f e.id F ((Zf e.id q.ens).getD yt).al) v ls->K (.aQ [.agg [I e.id,I e.it,I f,I F,I (e.i+(f-e.st)),I (rT q f e.it F q.rg.toNat),v],.bool true]) {m with boxes:=m.boxes++ex,lens:=ls})
  (h0:(Jf g f b).bind (iH g f o q d)=none\/(Jf g f b).bind (iH g f o q d)=some 0->∀ex,K (.aQ [.agg nV,.bool false]) {m with boxes:=m.boxes++ex}):
  aA Tryz.prog aD Y 109 [.agg (Qq g f mid),.agg (Qu o),.agg (Xo q V (.sl rt (q.cls.map Qh)) d)] m K:=by
 obtain⟨mb,ml,ms,mn⟩:=m;obtain⟨q1,q2,q3,q4,q5,q6⟩:=hq;have hc:=hV.cell;have hB:∀ex,gm (mb++ex) mid b:=fun ex=>⟨by have:=hb.1;simp at this |-;omega,hb.ext ex⟩;have kp:=fun ex K hK=>ajq Y ⟨mb++ex,ml,ms,mn⟩ g f mid b h (hB ex) K hK;simp only[Qq,Qo,Qa,zzae,zzaj]at kp;have gK:=fun ex ml d=>hV.bE ex ml ms mn d;cases hp:Jf g f b with
 |none=>
  have h0:=h0 (by rw[hp];exact .inl rfl);refine Xh M4 (fun _ f _=>.gd false .junk) zd ?_;simp[Hy,Z3,EN,Qq,Qo,Qa,Qu,Qd,Qh,Ql,Xo,hc];refine kp _ _ ?_;simp[Um,hp];simp[nV]at h0;exact h0 _
 |some e=>
  refine Xh M4 (tj q f) zd ?_;simp[Hy,Z3,EN,Qq,Qo,Qa,Qu,Qd,Qh,Ql,Xo,hc,tj];refine kp _ _ ?_;have IV:=DU h e.id;have hfs:=h.2.2.1;unfold nT at hfs;by_cases dF:o.ki=1
  ·by_cases aM:o.en=e.id
   ·have w1:IntKind.i64.wrap (rP g e.id+d)=rP g e.id+d:=by rw[Qi]<;>omega
    have w2:IntKind.i64.wrap (rP g e.id+d-f)=rP g e.id+d-f:=by rw[Qi]<;>omega
    obtain⟨F,hF⟩:∃F,rP g e.id+d-f=F:=⟨_,rfl⟩;have wF:IntKind.i64.wrap F=F:=by rw[<- hF];exact w2
    have w0:IntKind.i64.wrap 0=0:=by decide
    have sH:(Jf g f b).bind (iH g f o q d)=some F:=by rw[hp];simp[iH,dF,aM,hF]
    by_cases dW:F=0
    ·have h0:=h0 (by rw[sH,dW];exact .inr rfl);simp[Um,hp,Qf,uW,dF,aM,w1,w0,hF,dW];simp[nV]at h0;exact h0 _
    simp[Um,hp,Qf,uW,dF,aM,w1,wF,hF,dW];refine yu Y mb ml ms mn g f mid _ q V rt d e F _ _ _ hV bk ⟨q1,q2,q3,q4,q5,q6⟩ Oj K ?_ ?_ ?_ ?_ ?_ (h1 e F hp (by simpa[hp]using sH) dW)<;>simp
   have w0:True:=trivial;obtain⟨F,hF⟩:∃F,e.fr-(f-e.st)=F:=⟨_,rfl⟩;have sH:(Jf g f b).bind (iH g f o q d)=some F:=by rw[hp];simp[iH,uW,hF,dF,aM]
   by_cases dW:F=0
   ·have h0:=h0 (by rw[sH,dW];exact .inr rfl);simp[Um,hp,Qf,uW,dF,aM,hF,dW];simp[nV]at h0;exact h0 _
   simp[Um,hp,Qf,uW,dF,aM,hF,dW];refine yu Y mb ml ms mn g f mid _ q V rt d e F _ _ _ hV bk ⟨q1,q2,q3,q4,q5,q6⟩ Oj K ?_ ?_ ?_ ?_ ?_ (h1 e F hp (by simpa[hp]using sH) dW)<;>simp
  by_cases ey:o.ki=2
  ·by_cases aM:o.en=e.id
   ·have w0:True:=trivial;have h0:=h0 (by rw[hp];simp[iH,ey,aM]);simp[Um,hp,Qf,uW,ey,aM];simp[nV]at h0;exact h0 _
   have w0:True:=trivial;obtain⟨F,hF⟩:∃F,e.fr-(f-e.st)=F:=⟨_,rfl⟩;have sH:(Jf g f b).bind (iH g f o q d)=some F:=by rw[hp];simp[iH,uW,hF,ey,aM]
   by_cases dW:F=0
   ·have h0:=h0 (by rw[sH,dW];exact .inr rfl);simp[Um,hp,Qf,uW,ey,aM,hF,dW];simp[nV]at h0;exact h0 _
   simp[Um,hp,Qf,uW,ey,aM,hF,dW];refine yu Y mb ml ms mn g f mid _ q V rt d e F _ _ _ hV bk ⟨q1,q2,q3,q4,q5,q6⟩ Oj K ?_ ?_ ?_ ?_ ?_ (h1 e F hp (by simpa[hp]using sH) dW)<;>simp
  by_cases DA:o.ki=4
  ·cases ha0:Xx q e.it 0 f (e.fr-(f-e.st))with
   |false=>
    have h0:=h0 (by rw[hp];simp[iH,uW,DA,ha0]);have kc0:=Qde g f q d (I e.id) (I e.it) (I f) (e.fr-(f-e.st)) [I (e.i+(f-e.st)),I e.re,.sl .ro (e.al.map Qe)] e.it 0 q5 zE zE;simp only[Hw,Qa,Qo,zzae,zzaj]at kc0;rw[ha0]at kc0;simp[Um,hp,Qf,uW,DA,gK,bk _ _ _,ha0];simp[nV]at h0;exact⟨kc0,h0 _⟩
   |true=>
    obtain⟨F,hF⟩:∃F,e.fr-(f-e.st)=F:=⟨_,rfl⟩;rw[hF]at ha0;have sH:(Jf g f b).bind (iH g f o q d)=some F:=by rw[hp];simp[iH,uW,hF,DA,ha0]
    have kc0:=Qde g f q d (I e.id) (I e.it) (I f) F [I (e.i+(f-e.st)),I e.re,.sl .ro (e.al.map Qe)] e.it 0 q5 zE zE;simp only[Hw,Qa,Qo,zzae,zzaj]at kc0;rw[ha0]at kc0;by_cases dW:F=0
    ·have h0:=h0 (by rw[sH,dW];exact .inr rfl);rw[dW]at ha0 kc0;simp[Um,hp,Qf,uW,DA,gK,bk _ _ _,hF,ha0,dW];simp[nV]at h0;exact⟨kc0,h0 _⟩
    simp[Um,hp,Qf,uW,DA,gK,bk _ _ _,hF,ha0,dW];refine⟨kc0,?_⟩;refine yu Y mb ml ms mn g f mid _ q V rt d e F _ _ _ hV bk ⟨q1,q2,q3,q4,q5,q6⟩ Oj K ?_ ?_ ?_ ?_ ?_ (h1 e F hp (by simpa[hp]using sH) dW)<;>simp
  have w0:True:=trivial;obtain⟨F,hF⟩:∃F,e.fr-(f-e.st)=F:=⟨_,rfl⟩;have sH:(Jf g f b).bind (iH g f o q d)=some F:=by rw[hp];simp[iH,uW,hF,dF,ey,DA]
  by_cases dW:F=0
  ·have h0:=h0 (by rw[sH,dW];exact .inr rfl);simp[Um,hp,Qf,uW,dF,ey,DA,hF,dW];simp[nV]at h0;exact h0 _
  simp[Um,hp,Qf,uW,dF,ey,DA,hF,dW];refine yu Y mb ml ms mn g f mid _ q V rt d e F _ _ _ hV bk ⟨q1,q2,q3,q4,q5,q6⟩ Oj K ?_ ?_ ?_ ?_ ?_ (h1 e F hp (by simpa[hp]using sH) dW)<;>simp
def Z4(Y:YT)(m:AM)(g:Pg)(f:Int)(mid kk:Nat)(b:QP)(e:En)(hk:kk<m.boxes.length)(hr:Qg m.boxes kk=Qq g f mid)(hb:gm m.boxes mid b):
  aA Tryz.prog aD Y 161 [.agg (Qd e),.ptr kk 0] m (fun r m'=>m'=m/\r=.bool !(zy b e.id)):=by
 obtain⟨mb,ml,ms,mn⟩:=m;have hR:∀ex,Qg (mb++ex) mid=[.aL 0 (bF .bool b)]:=hb.ext;have hM:∀ex,Qg (mb++ex) kk=Qq g f mid:=fun ex=>by rw[Qk hk];exact hr
 simp only[Qq,Qo,Qa,zzae,zzaj]at hM;refine aA.read (Xh acS (fun _ _ _=>.junk) zd ?_);rcases Xu AV.bool e.id b 0 with⟨b1,b2,_⟩|⟨u,u',b1,b2,_⟩
 ·simp[TR,TS,Qd,hM,hR,zy,b1,b2];exact nU
 cases u<;>simp[TR,TS,Qd,hM,hR,zy,b1,b2]<;>exact nU
def asS(Y:YT)(m:AM)(g:Pg)(f:Int)(mid kk:Nat)(b:QP)(e:En)(hk:kk<m.boxes.length)(hr:Qg m.boxes kk=Qq g f mid)(hb:gm m.boxes mid b)(K:UV)(hK:K (.bool !(zy b e.id)) m):
  aA Tryz.prog aD Y 161 [.agg (Qd e),.ptr kk 0] m K:=
 aA.mono (Z4 Y m g f mid kk b e hk hr hb) (by rintro r m' ⟨rfl,rfl⟩;exact hK)
def L9(Y:YT)(m:AM)(g:Pg)(f:Int)(mid kk:Nat)(b:QP)(k:Nat)(L:List En)(z:PQ)(hl:L.length<=1000000000)(hk:kk<m.boxes.length)(hr:Qg m.boxes kk=Qq g f mid)(hb:gm m.boxes mid b)(hV:k<m.boxes.length)(hrV:Qg m.boxes k=eU L++z):
  aA Tryz.prog aD Y 160 [.bs k 0 L.length 7,.fn 161 [] [.ptr kk 0]] m (fun r m'=>m'=m/\r=I (Ur (fun e:En=>!(zy b e.id)) L 0)):=by
 obtain⟨mb,ml,ms,mn⟩:=m;have aH:=Ux L;have k1:=fun e K hK=>asS Y ⟨mb,ml,ms,mn⟩ g f mid kk b e hk hr hb K hK;refine aA.read (Xh CD (fun _ _ _=>.gd false .junk) zd ?_);simp[Ni];refine Qj fF (fun s m=>∃i:Nat,s 8=I i/\i<=L.length/\Ur (fun e:En=>!(zy b e.id)) (L.drop i) i=Ur (fun e:En=>!(zy b e.id)) L 0/\m=⟨mb,ml,ms,mn⟩) (fun s _=>L.length-(numOf (s 8)).toNat) ?_ ?_
 ·exact⟨0,zd,zE,zd,rfl⟩
 rintro s m ⟨i,f8,hi,hidx,rfl⟩;rcases zzab i L.length with aa|bu
 ·obtain⟨x,hx⟩:=aY aa;have hg:=DV hx;simp only at hrV
  have ai:(Qg mb k).drop (i*7)=I x.id::I x.it::I x.fr::I x.ea::I x.la::I x.bo::.sl .ro (x.al.map Qe)::(eU (L.drop (i+1))++z):=by
   rw[hrV,zzdt (by rw[Ux];omega),hg];rfl
  have ah:(i:Int)<(L.length:Int):=zE
  have hw:=bR i zE;have hd:L.drop i=x::L.drop (i+1):=by rw[zzaf aa,(zza.1 hx).2]
  have kx:=k1 x;simp only[Qd]at kx;rw[hd,Ur]at hidx;cases hP:zy b x.id with
  |false=>
   rw[if_pos (by simp[hP])]at hidx;simp[f8,fF,ah,ai];refine kx _ ?_;simp[hP,AL,hidx];exact nU
  |true=>
   rw[if_neg (by simp[hP])]at hidx;simp[f8,fF,ah,ai];refine kx _ ?_;simp[hP,hw];refine⟨aR,⟨i+1,zd,zE,hidx⟩,zE⟩
 obtain rfl:i=L.length:=zE
 rw[zzbx,Ur]at hidx;simp[f8,fF,AL,<- hidx];exact nU
open Go.RowKit Go.Lib
def RI{P:Program}(w:World)(dT sT ty elem:TypeId)(i:TypeInfo)(b o Ma afx:Nat)(a:Addr)(Mb afy:Nat)(cs:PH)
  (hu:P.underlying dT=some (.slice elem))(hi:P.info? elem=some i)(hn:cs.length=Nat.min Mb Ma*i.size)
  (axX:∀j v,cs[j]?=some v->w.cell? (a.add j)=some v)(hc:∀j,j<cs.length->(w.cell? ⟨b,o+j,none⟩).isSome=true)(hf:∀j,j<cs.length->w.frozen? ⟨b,o+j,none⟩=false)(h1:∀v∈cs,v.oneCell'=true):
  (Builtin.copy_ #[dT,sT] ty #[.slice (some ⟨b,o,none⟩) Ma afx,.slice (some a) Mb afy]).run P w=.ok (goInt (Nat.min Mb Ma)) (w.setCells b o cs):=by
 have hl:=run_loadCells_list (P:=P) w a cs axX;have cc:=run_storeCells_cells (P:=P) b o cs 0 w (Pi hc) (Pi hf) h1;simp only[zzcl]at cc;simp[Builtin.copy_,run_underlying hu,Builtin.lenOf,Builtin.firstCells,sizeOf,typeInfo,hi,<- hn,hl,cc]
def lq{P:Program}(w:World)(dT sT ty elem:TypeId)(i:TypeInfo)(b o Ma afx b2 o2 Mb afy k:Nat)(hu:P.underlying dT=some (.slice elem))(hi:P.info? elem=some i)
  {arr RJ:PP}{e e2:TypeId}(hb:w.heap[b]?=some (.cells arr e (0,0)))(fO:w.heap[b2]?=some (.cells RJ e2 (0,0)))(hk:Nat.min Mb Ma=k)
  (h1:o+k*i.size<=arr.size)(h2:o2+k*i.size<=RJ.size)(ho:∀v∈RJ.toList,v.oneCell'=true):
  (Builtin.copy_ #[dT,sT] ty #[.slice (some ⟨b,o,none⟩) Ma afx,.slice (some ⟨b2,o2,none⟩) Mb afy]).run P w=.ok (goInt k) (w.setCells b o ((RJ.toList.drop o2).take (k*i.size))):=by
 have aH:((RJ.toList.drop o2).take (k*i.size)).length=k*i.size:=by rw[zzaq,zzcb,zzbj];omega
 have:=RI (P:=P) w dT sT ty elem i b o Ma afx ⟨b2,o2,none⟩ Mb afy ((RJ.toList.drop o2).take (k*i.size)) hu hi (by rw[aH,hk])
  (
   fun j v hj=>by
   rw[Go.Abs.bq];show w.cell? ⟨b2,o2+j,none⟩=_;rw[aN fO];rw[zzbk]at hj;split at hj
   ·rw[zzbo]at hj;simpa using hj
   cases hj)
  (fun j hj=>by rw[aN hb,zzag zE];rfl) (fun j hj=>Zo hb)
  (fun v hv=>ho v (zzdd (zzce hv)))
 rw[hk]at this;exact this
def qi{P:Program}(w:World){ops:Array Oper}{rest:List Oper}{o:Oper}{a:Act}{Q:QR}(VH:o.guard=none)(d s:Operand)(t t':TypeId)
  (ho:o.op=.call {callee:=.builtin .copy,args:=#[d,s],argTypes:=#[t,t']})(v u:Value)(hd:a.eval d=v)(hs:a.eval s=u){v':Value}{w':World}
  (hr:(Builtin.copy_ #[t,t'] o.type #[v,u]).run P w=.ok v' w')(h:wpList P ops Q rest (a.put o.dst v') w'):wpList P ops Q (o::rest) a w:=
 wpList_plain VH fun _ hK=>by
  unfold Oper.wp execOp;simp only[ho,resolve,invoke,builtin,Sem.run_bind,Sem.run_pure,Result.andThen_ok,List.map_toArray,zzay,zzcu,hd,hs,hr];exact hK _ _ h
def yw{P:Program}{ops:Array Oper}{o:Oper}{a:Act}{w:World}{K:Act->World->Prop}{Q:QR}{E:Prop}
  (hg:o.guard=none)(d x:Operand)(dT sT:TypeId)(eC:o.op=Op.call {callee:=Callee.builtin Builtin.copy,args:=#[d,x],argTypes:=#[dT,sT]})
  (v u:Value)(hd:a.eval d=v)(hx:a.eval x=u){v':Value}{w':World}(hr:(Builtin.copy_ #[dT,sT] o.type #[v,u]).run P w=.ok v' w')(hK:K (a.put o.dst v') w'):
  if Region.wanted o (yielded ops a.tmps)=true then Oper.wp P o a w K Q else E:=by
 have hw:Region.wanted o (yielded ops a.tmps)=true:=by simp[Region.wanted,hg]
 rw[if_pos hw];unfold Oper.wp;simp[execOp,eC,resolve,invoke,builtin,hd,hx,hr,Result.andThen];exact hK
def Hz{w:World}{b:Nat}{arr:PP}{te:TypeId}{f:Nat×Nat}(h:w.heap[b]?=some (.cells arr te f)):w.shape? b=some (te,arr.size):=by
 simp[World.shape?,h]
def RK(b n c i vb vc:Nat)(arr uY:PP)(te tv:TypeId)(w:World)(hi:i<n)(cI:n+1<=c)(hn:n+1<=1000000000)(SX:vb≠b)
  (hb:w.heap[b]?=some (.cells arr te (0,0)))(hv:w.heap[vb]?=some (.cells uY tv (0,0)))(hs:c*7<=arr.size)(hsv:7<=uY.size)(ho:∀v∈arr.toList,v.oneCell'=true)(hov:∀v∈uY.toList,v.oneCell'=true):
  Calls Tryz.prog 162 #[.slice (some ⟨b,0,none⟩) n c,.int .i64 i,.slice (some ⟨vb,0,none⟩) 1 vc] w fun e w'=>
   e=.returned (.slice (some ⟨b,0,none⟩) (n+1) c)/\w'=(w.drew.setCells b ((i+1)*7) ((arr.toList.drop (i*7)).take ((n-i)*7))).setCells b (i*7) (uY.toList.take 7):=by
 obtain⟨i36,D1,dU⟩:∃x,Tryz.prog.info? 24=some x/\x.size=7:=⟨_,rfl,rfl⟩;have lM:=Hz hv;have hsb:=Hz hb;have EC:w.frozen? ⟨vb,0,none⟩=false:=Zo hv;have hfe:w.frozen? ⟨vb,uY.size,none⟩=false:=Zo hv
 have axY:∀lb cb,(callFunc 196 #[.slice (some ⟨vb,0,none⟩) 1 vc,.slice (some ⟨b,(i+1)*7,none⟩) lb cb]).run Tryz.prog w=.ok (.value (.bool false)) w:=fun lb cb=>by
  rw[run_callFunc_extern Tryz.func196 (by kernel_rfl) (by kernel_rfl) (by kernel_rfl) (e:=Extern.SlicesOverlaps.overlaps #[50,50] #[4]) (by kernel_rfl),
   Lib.run_overlaps_apart w 50 4 24 Tryz.underlying50 7 (fun w=>by simp[Go.sizeOf,typeInfo,D1,dU]) ⟨vb,0,none⟩ ⟨b,(i+1)*7,none⟩ 1 vc lb cb SX tv te uY.size arr.size lM hsb zE EC hfe]
  rfl
 have iL:IntKind.i64.wrap ((i:Int)+1)=(i:Int)+1:=by rw[IntKind.wrap_i64];omega
 have hz2:¬((i:Int)=(n:Int)):=zE
 have fE:IntKind.i64.wrap ((n:Int)+1)=(n:Int)+1:=by rw[IntKind.wrap_i64];omega
 have htn:((i:Int)+1).toNat=i+1:=zE
 have alZ:((n:Int)+1).toNat=n+1:=zE
 have di:(0:Int)<=(i:Int)+1:=zE
 have fO:¬(c=i+1):=zE
 have Og:(i:Int)<=(n:Int)+1:=zE
 have hb4:¬(c=i):=zE
 have PL:(n+1)*7<=c*7:=zzbb _ cI;have sU:w.drew.heap[b]?=some (.cells arr te (0,0)):=hb
 have asT:∀ty dc sc,(Builtin.copy_ #[50,50] ty #[.slice (some ⟨b,(i+1)*7,none⟩) (n-i) dc,.slice (some ⟨b,i*7,none⟩) (n+1-i) sc]).run Tryz.prog w.drew=
   .ok (goInt (n-i:Nat)) (w.drew.setCells b ((i+1)*7) ((arr.toList.drop (i*7)).take ((n-i)*7))):=fun ty dc sc=>by
  have:=lq (P:=Tryz.prog) w.drew 50 50 ty 24 i36 b ((i+1)*7) (n-i) dc b (i*7) (n+1-i) sc (n-i) Tryz.underlying50 D1 sU sU (by simp only[zzhb];split<;>omega) (by rw[dU];omega) (by rw[dU];omega) ho;rw[dU]at this;exact this
 obtain⟨W1,Q6⟩:∃W1,W1=w.drew.setCells b ((i+1)*7) ((arr.toList.drop (i*7)).take ((n-i)*7)):=⟨_,rfl⟩;have hb5:W1.heap[b]?=some (.cells (Ww arr ((i+1)*7) ((arr.toList.drop (i*7)).take ((n-i)*7))) te (0,0)):=by rw[Q6];exact Qz b _ _ w.drew arr te _ sU
 have hv5:W1.heap[vb]?=some (.cells uY tv (0,0)):=by rw[Q6,Qx b _ _ w.drew vb SX];exact hv
 have axZ:∀ty dc,(Builtin.copy_ #[50,50] ty #[.slice (some ⟨b,i*7,none⟩) (n+1-i) dc,.slice (some ⟨vb,0,none⟩) 1 vc]).run Tryz.prog W1=.ok (goInt (1:Nat)) (W1.setCells b (i*7) (uY.toList.take 7)):=fun ty dc=>by
  have:=lq (P:=Tryz.prog) W1 50 50 ty 24 i36 b (i*7) (n+1-i) dc vb 0 1 vc 1 Tryz.underlying50 D1 hb5 hv5 (by simp only[zzhb];split<;>omega) (by rw[dU,Vb];omega) (by rw[dU];omega) hov;rw[dU,zzd,zzdl]at this;exact this
 rw[<- Q6]at asT |-
 clear D1 dU Q6;have bU:i<=n:=zE
 have mixed:Tryz.prog.follows Departure.mixedOrders=true:=by kernel_rfl
 go_enter Tryz.func162,Tryz.ntmps162
 go_wp2_with (simp only[axY])
 go_region_law_o (refine yw rfl _ _ 50 50 rfl _ _ (by simp[Act.eval,Act.put]) (by simp[Act.eval,Act.put]) (asT _ _ _) ?_)
 go_wp2_with (at_builtin;refine qi _ rfl _ _ 50 50 rfl _ _ rfl rfl (axZ _ _) ?_)
 go_ret
 exact⟨rfl,rfl⟩
def afz{n c:Nat}(h:c<n)(hn:n<=1000000000):Builtin.nextslicecap n c*72<=281474976710656:=by
 have:=J1 h;omega
def Z5(b n c i vb vc:Nat)(arr uY:PP)(te tv:TypeId)(w:World)(hi:i<n)(hnc:n<=c)(cI:c<n+1)(vT:n+1<=1000000000)(SX:vb≠b)
  (hb:w.heap[b]?=some (.cells arr te (0,0)))(hv:w.heap[vb]?=some (.cells uY tv (0,0)))(hs:c*7<=arr.size)(hsv:7<=uY.size)(ho:∀v∈arr.toList,v.oneCell'=true)(hov:∀v∈uY.toList,v.oneCell'=true):
  Calls Tryz.prog 162 #[.slice (some ⟨b,0,none⟩) n c,.int .i64 i,.slice (some ⟨vb,0,none⟩) 1 vc] w fun e w'=>
   ∃(G:Nat)(nX:PP)(zs:PH),n+1<=G/\e=.returned (.slice (some ⟨w.heap.size,0,none⟩) (n+1) G)/\nX.toList=arr.toList.take (i*7)++zs/\(n+1-i)*7<=zs.length/\G*7<=nX.size/\(∀v∈zs,v.oneCell'=true)/\
    w'=(((w.drew.alloc (.cells nX 24)).setCells w.heap.size (i*7) (uY.toList.take 7)).drew).setCells w.heap.size ((i+1)*7) ((arr.toList.drop (i*7)).take ((n-i)*7)):=by
 obtain⟨i36,z36,D1,dU,ax0,asU,Ba,hzo⟩:∃x z,Tryz.prog.info? 24=some x/\x.size=7/\x.zero=some z/\x.bytes=72/\z.cells.size=7/\∀u∈z.cells,u.oneCell'=true:=⟨_,_,rfl,rfl,rfl,rfl,rfl,by decide⟩;have hz2:¬((i:Int)=(n:Int)):=zE
 have hz3:(c:Int)<(n:Int)+1:=zE
 have hbw:b<w.heap.size:=aS hb;have hvw:vb<w.heap.size:=aS hv;have hkk:(n:Int)+1-(i:Int)=((n+1-i:Nat):Int):=zE
 have qW:i+(n+1-i)=n+1:=zE
 have PL:n*7<=c*7:=zzbb _ hnc;have iI:(arr.toList.take (i*7)).length=i*7:=by rw[zzaq,zzbj];omega
 have oV:(Builtin.firstCells i36.size i (.slice (some ⟨b,0,none⟩) i c)).run Tryz.prog w.drew=.ok (arr.toList.take (i*7)).toArray w.drew:=by
  rw[dU];refine run_firstCells_some w.drew 7 i ⟨b,0,none⟩ i c _ iI (fun j v hj=>?_);rw[Go.Abs.bq];show w.cell? _=_;rw[aN hb];rw[zzbk]at hj;split at hj
  ·simpa using hj
  cases hj
 have hrz:∀ty,(Builtin.append_ #[50,3] ty #[.slice (some ⟨b,0,none⟩) i c,.int .i64 ((n:Int)+1-(i:Int))]).run Tryz.prog w=
   .ok (.slice (some ⟨w.heap.size,0,none⟩) (n+1) (grownCap w (n+1) c 24)) (w.drew.alloc (.cells ((arr.toList.take (i*7)).toArray++Builtin.zeroCells z36.cells (n+1-i)++Builtin.zeroCells z36.cells (grownCap w (n+1) c 24-(n+1))) 24)):=fun ty=>by
  have h:=Lib.run_append_grow_zeros w 50 3 ty 24 i36 z36 .i64 .i64 Tryz.underlying50 Tryz.underlying3 D1 ax0 (some ⟨b,0,none⟩) i c (arr.toList.take (i*7)) oV (n+1-i) zE zE zE zE (by rw[asU];omega) (by rw[asU,qW];exact afz cI vT);rw[qW]at h;rw[hkk];exact h
 obtain⟨G,hG⟩:∃G,G=grownCap w (n+1) c 24:=⟨_,rfl⟩;have hGn:n+1<=G:=by rw[hG];exact grownCap_ge w _ _ _
 have azl:G<=9223372036854775807:=by
  have:=grownCap_le_maxLen w (n+1) c 24 (by unfold maxLen;omega);rw[<- hG]at this;unfold maxLen at this;omega
 rw[<- hG]at hrz;obtain⟨nX,HA⟩:∃nX:PP,nX=(arr.toList.take (i*7)).toArray++Builtin.zeroCells z36.cells (n+1-i)++Builtin.zeroCells z36.cells (G-(n+1)):=⟨_,rfl⟩;rw[<- HA]at hrz;have hRs:nX.size=i*7+(n+1-i)*7+(G-(n+1))*7:=by rw[HA];simp only[zzep,zzeo,iI,size_zeroCells,Ba]
 have hRt:nX.toList=arr.toList.take (i*7)++((Builtin.zeroCells z36.cells (n+1-i)).toList++(Builtin.zeroCells z36.cells (G-(n+1))).toList):=by rw[HA];simp
 have hRo:∀v∈(Builtin.zeroCells z36.cells (n+1-i)).toList++(Builtin.zeroCells z36.cells (G-(n+1))).toList,v.oneCell'=true:=fun v hv=>by
  rcases zzap.1 hv with hv|hv
  ·exact Wh hzo _ v hv
  exact Wh hzo _ v hv
 have hRl:(n+1-i)*7<=((Builtin.zeroCells z36.cells (n+1-i)).toList++(Builtin.zeroCells z36.cells (G-(n+1))).toList).length:=by
  simp only[zzah,zzbj,size_zeroCells,Ba];omega
 obtain⟨zs,CV⟩:∃zs,zs=(Builtin.zeroCells z36.cells (n+1-i)).toList++(Builtin.zeroCells z36.cells (G-(n+1))).toList:=⟨_,rfl⟩;rw[<- CV]at hRt hRo hRl;have hGR:G*7<=nX.size:=by rw[hRs];omega
 clear HA CV oV hG;obtain⟨W1,Q6⟩:∃W1,W1=w.drew.alloc (.cells nX 24):=⟨_,rfl⟩;have hN1:W1.heap[w.heap.size]?=some (.cells nX 24 (0,0)):=by rw[Q6];exact Ye w _
 have hO1:∀x,x<w.heap.size->W1.heap[x]?=w.heap[x]?:=fun x hx=>by rw[Q6];exact Below.heap_alloc w.drew _ x hx
 have di:=(hO1 b hbw).trans hb;have hv1:=(hO1 vb hvw).trans hv
 have ax1:∀ty dc,(Builtin.copy_ #[50,50] ty #[.slice (some ⟨w.heap.size,i*7,none⟩) (n+1-i) dc,.slice (some ⟨vb,0,none⟩) 1 vc]).run Tryz.prog W1=.ok (goInt (1:Nat)) (W1.setCells w.heap.size (i*7) (uY.toList.take 7)):=fun ty dc=>by
  have:=lq (P:=Tryz.prog) W1 50 50 ty 24 i36 w.heap.size (i*7) (n+1-i) dc vb 0 1 vc 1 Tryz.underlying50 D1 hN1 hv1 (by simp only[zzhb];split<;>omega) (by rw[dU];omega) (by rw[dU];omega) hov;rw[dU,zzd,zzdl]at this;exact this
 obtain⟨W2,uL⟩:∃W2,W2=(W1.setCells w.heap.size (i*7) (uY.toList.take 7)).drew:=⟨_,rfl⟩;have hN2:W2.heap[w.heap.size]?=some (.cells (Ww nX (i*7) (uY.toList.take 7)) 24 (0,0)):=by rw[uL];exact Qz _ _ _ W1 nX 24 _ hN1
 have fO:W2.heap[b]?=some (.cells arr te (0,0)):=by
  rw[uL];exact(Qx w.heap.size _ _ W1 b zE).trans di
 have asV:∀ty dc sc,(Builtin.copy_ #[50,50] ty #[.slice (some ⟨w.heap.size,(i+1)*7,none⟩) (n-i) dc,.slice (some ⟨b,i*7,none⟩) (n-i) sc]).run Tryz.prog W2=
   .ok (goInt (n-i:Nat)) (W2.setCells w.heap.size ((i+1)*7) ((arr.toList.drop (i*7)).take ((n-i)*7))):=fun ty dc sc=>by
  have:=lq (P:=Tryz.prog) W2 50 50 ty 24 i36 w.heap.size ((i+1)*7) (n-i) dc b (i*7) (n-i) sc (n-i) Tryz.underlying50 D1 hN2 fO (by simp only[zzhb];split<;>omega) (by rw[dU,Vb];omega) (by rw[dU];omega) ho;rw[dU]at this;exact this
 have ud:((((w.drew.alloc (.cells nX 24)).setCells w.heap.size (i*7) (uY.toList.take 7)).drew).setCells w.heap.size ((i+1)*7) ((arr.toList.drop (i*7)).take ((n-i)*7)))=
   W2.setCells w.heap.size ((i+1)*7) ((arr.toList.drop (i*7)).take ((n-i)*7)):=by rw[uL,Q6]
 have ax2:∀ty,(Builtin.append_ #[50,3] ty #[.slice (some ⟨b,0,none⟩) i c,.int .i64 ((n:Int)+1-(i:Int))]).run Tryz.prog w=.ok (.slice (some ⟨w.heap.size,0,none⟩) (n+1) G) W1:=by rw[Q6];exact hrz
 have ax3:W2=(W1.setCells w.heap.size (i*7) (uY.toList.take 7)).drew:=uL;have iL:IntKind.i64.wrap ((i:Int)+1)=(i:Int)+1:=by rw[IntKind.wrap_i64];omega
 have fE:IntKind.i64.wrap ((n:Int)+1)=(n:Int)+1:=by rw[IntKind.wrap_i64];omega
 have S0:IntKind.i64.wrap ((n:Int)+1-(i:Int))=(n:Int)+1-(i:Int):=by rw[IntKind.wrap_i64];omega
 have htn:((i:Int)+1).toNat=i+1:=zE
 have azm:(0:Int)<=(i:Int)+1:=zE
 have Og:(i:Int)<=(n:Int)+1:=zE
 have bU:i<=n:=zE
 have hci:¬(c=i):=zE
 have hGi:¬(G=i):=zE
 have azn:¬(G=i+1):=zE
 have mixed:Tryz.prog.follows Departure.mixedOrders=true:=by kernel_rfl
 suffices hgoal:Calls Tryz.prog 162 #[.slice (some ⟨b,0,none⟩) n c,.int .i64 i,.slice (some ⟨vb,0,none⟩) 1 vc] w fun e w'=>e=.returned (.slice (some ⟨w.heap.size,0,none⟩) (n+1) G)/\w'=((W1.setCells w.heap.size (i*7) (uY.toList.take 7)).drew).setCells w.heap.size ((i+1)*7) ((arr.toList.drop (i*7)).take ((n-i)*7))from
  hgoal.mono fun e w'⟨h1,h2⟩=>⟨G,nX,zs,hGn,h1,hRt,hRl,hGR,hRo,by rw[h2,Q6]⟩
 rw[uL]at asV;clear D1 dU hrz Q6 uL ax3 ud hkk qW hRt hRl hGR hRo hRs hN1 hN2 hO1 di hv1 fO
 go_enter Tryz.func162,Tryz.ntmps162
 go_wp2_with (first
  |(at_builtin;refine Lib.wpList_append_run _ rfl _ _ _ _ rfl _ _ rfl rfl _ _ (ax2 _) ?_)
  |(at_builtin;refine qi _ rfl _ _ 50 50 rfl _ _ rfl rfl (ax1 _ _) ?_))
 go_region_law_o (refine yw rfl _ _ 50 50 rfl _ _ (by simp[Act.eval,Act.put]) (by simp[Act.eval,Act.put]) (asV _ _ _) ?_)
 go_wp2
 go_ret
 exact⟨rfl,rfl⟩
def OJ(y:AV):∀(xs l:PQ)(n:Nat),setA (y::l) (n+1) xs=y::setA l n xs
 |[],_,_=>rfl
 |x::xs,l,n=>by rw[setA,setA,zzdz,OJ y xs]
def lu(pre X Y:PQ)(n:Nat)(k:Nat)(h:pre.length=n):setA (pre++X) (n+k) Y=pre++setA X k Y:=by
 subst h;induction pre with
 |nil=>simp
 |cons a r ih=>rw[zzae,zzav,show r.length+1+k=r.length+k+1 by omega,OJ,ih];rfl
section
variable {N:Nat} {w0:fc} {an:Nat->Nat->Prop} {γ:G} {w:World} {m:AM}
def ajr(m:AM){id:Nat}(aM:id<m.boxes.length)(cells:PQ):({m with boxes:=m.boxes.set id []++[cells]}:AM).B=fun i=>if i=m.boxes.length then some cells else if i=id then some []else m.B i:=by
 have e1:=SR {m with boxes:=m.boxes.set id []} cells;rw[lX m id aM]at e1;simpa using e1
def ajs{A C:PQ}{arr:PP}(q3:cp w γ (A++C) arr.toList):ak w γ C ((arr.toList.drop A.length).take C.length):=by
 have h:=q3.1;simp only[zzah,zzbj]at h;refine⟨by simp only[zzaq,zzcb,zzbj];omega,fun k c v g1 g2=>?_⟩;have hk:=(zza.1 g1).1;rw[zzbk,if_pos hk,zzbo]at g2;refine q3.2 (A.length+k) c v ?_ g2;rw[zzat zE,zzdv];exact g1
def RL(hm:aq N w0 an γ w m.B m.L){id b:Nat}{A C V:PQ}(aM:m.boxes[id]?=some (A++C))(aJ:A++C≠[])(hb:γ.β id=some b){arr:PP}{te:TypeId}(hh:w.heap[b]?=some (.cells arr te (0,0)))
  {vs:PH}(hV:ak w γ V vs)(hvo:∀v∈vs,v.oneCell'=true)(hsz:A.length+V.length+C.length<=arr.size):
  Ev w γ ((w.drew.setCells b (A.length+V.length) ((arr.toList.drop A.length).take C.length)).setCells b A.length vs) (γ.box m.boxes.length b)/\
  aq N w0 an (γ.box m.boxes.length b) ((w.drew.setCells b (A.length+V.length) ((arr.toList.drop A.length).take C.length)).setCells b A.length vs) ({m with boxes:=m.boxes.set id []++[A++(V++C)]}:AM).B m.L:=by
 have aa:id<m.boxes.length:=(zza.1 aM).1;have hB:m.B id=some (A++C):=aM;obtain⟨bN,e',q2,q3,q4⟩:=hm.box id _ b hB hb;rw[hh]at q2;cases q2;have cQ:m.B m.boxes.length=none:=by simp[AM.B]
 have hD:=ajs q3;have hDl:=hD.1;have hh':w.drew.heap[b]?=some (.cells arr te (0,0)):=hh;have gI:∀v∈(arr.toList.drop A.length).take C.length,v.oneCell'=true:=fun v hv=>q4 v (zzdd (zzce hv));generalize(arr.toList.drop A.length).take C.length=D at*
 have hr:cp w γ (A++(List.replicate V.length .junk++C)) (Ww arr (A.length+V.length) D).toList:=by
  refine⟨by simp only[zzah,zze,zzbj,Vb];omega,fun k c v g1 g2=>?_⟩;rw[zzbw,wj]at g2;rcases zzab k A.length with h1|h1
  ·rw[zzak h1]at g1;rw[if_neg zE]at g2;exact q3.2 k c v (by rw[zzak h1];exact g1) (by rw[zzbw];exact g2)
  rw[zzat h1]at g1;rcases zzab (k-A.length) V.length with h2|h2
  ·rw[zzak (Pi h2),zzck,if_pos h2]at g1;cases g1;exact .junk _
  rw[zzat (Pi h2),zze]at g1;have h3:=(zza.1 g1).1;rw[if_pos zE]at g2;refine hD.2 _ c v g1 ?_;rw[<- g2];congr 1;omega
 obtain⟨e1,m1⟩:=hm.drew.share (id':=m.boxes.length) (new:=A++(List.replicate V.length .junk++C)) hb hB aJ cQ hh' (p:=A.length+V.length) (vs:=D) (hr.mono (Ev.drew w γ)) q4 gI;have di:(γ.box m.boxes.length b).β m.boxes.length=some b:=by simp[G.box]
 have hh1:=Qz b D (A.length+V.length) w.drew arr te _ hh';have lG:=(hr.mono (Ev.drew w γ)).mono e1;have hV1:=(hV.mono (Ev.drew w γ)).mono e1
 have RM:A++(List.replicate V.length AV.junk++C)≠[]:=by
  intro h;simp only[zzhc]at h;exact aJ (by simp[h.1,h.2.2])
 have m2:=m1.store (id:=m.boxes.length) zd di hh1 lG (Wp D _ arr q4 gI) (o:=A.length) hV1 hvo RM;refine⟨((Ev.drew w γ).trans e1).trans (m1.cH di A.length vs),?_⟩;rw[ajr m aa]
 have lM:setA (A++(List.replicate V.length AV.junk++C)) A.length V=A++(V++C):=by
  have:=lu A (List.replicate V.length AV.junk++C) V A.length 0 rfl;rw[zzcl,jj V (List.replicate V.length AV.junk) C zd]at this;exact this
 rw[lM]at m2;refine(congrArg (fun B=>aq N w0 an _ _ B m.L) (funext fun i=>?_)).mp m2;by_cases hi:i=m.boxes.length<;>simp[hi]
def afA(hm:aq N w0 an γ w m.B m.L){id b:Nat}{A C V:PQ}(aM:m.boxes[id]?=some (A++C))(hb:γ.β id=some b){arr:PP}{te te2:TypeId}(hh:w.heap[b]?=some (.cells arr te (0,0)))
  {vs zs:PH}(hV:ak w γ V vs)(hvo:∀v∈vs,v.oneCell'=true){nX:PP}(HA:nX.toList=arr.toList.take A.length++zs)(CV:V.length+C.length<=zs.length)(hzo:∀v∈zs,v.oneCell'=true)(aJ:A++(V++C)≠[]):
  Ev w γ ((((w.drew.alloc (.cells nX te2)).setCells w.heap.size A.length vs).drew).setCells w.heap.size (A.length+V.length) ((arr.toList.drop A.length).take C.length)) (γ.box m.boxes.length w.heap.size)/\
  aq N w0 an (γ.box m.boxes.length w.heap.size) ((((w.drew.alloc (.cells nX te2)).setCells w.heap.size A.length vs).drew).setCells w.heap.size (A.length+V.length) ((arr.toList.drop A.length).take C.length)) ({m with boxes:=m.boxes.set id []++[A++(V++C)]}:AM).B m.L:=by
 have aa:id<m.boxes.length:=(zza.1 aM).1;have hB:m.B id=some (A++C):=aM;obtain⟨bN,e',q2,q3,q4⟩:=hm.box id _ b hB hb;rw[hh]at q2;cases q2;have hq:=q3.1;simp only[zzah,zzbj]at hq;have cQ:m.B m.boxes.length=none:=by simp[AM.B]
 have hD:=ajs q3;have hDl:=hD.1;have gI:∀v∈(arr.toList.drop A.length).take C.length,v.oneCell'=true:=fun v hv=>q4 v (zzdd (zzce hv));generalize(arr.toList.drop A.length).take C.length=D at*
 have hmk:=(hm.kill hb).drew
 have fW:(fun i=>if i=id then some []else m.B i) m.boxes.length=none:=by
  have:m.boxes.length≠id:=zE
  simp only[if_neg this];exact cQ
 have ay4:nX.size=A.length+zs.length:=by
  have:=congrArg List.length HA;simp only[zzbj,zzah,zzaq]at this;omega
 have hP:cp w γ (A++(List.replicate V.length .junk++List.replicate C.length .junk)) nX.toList:=by
  refine⟨by simp only[zzah,zze,zzbj];omega,fun k c v g1 g2=>?_⟩;rcases zzab k A.length with h1|h1
  ·rw[zzak h1]at g1;rw[HA,zzak (by simp only[zzaq,zzbj];omega),zzbk,if_pos h1]at g2;exact q3.2 k c v (by rw[zzak h1];exact g1) g2
  rw[zzat h1]at g1;rw[List.replicate_append_replicate,zzck]at g1;split at g1
  ·cases g1;exact .junk _
  cases g1
 have hRo:∀v∈nX.toList,v.oneCell'=true:=fun v hv=>by
  rw[HA]at hv;rcases zzap.1 hv with hv|hv
  ·exact q4 v (zzce hv)
  exact hzo v hv
 have e1:=hmk.dB _ fW (.cells nX te2);have m1:=hmk.fH _ fW (e:=te2) (arr:=nX) (hP.mono (Ev.drew w γ)) hRo;have Z6:w.drew.heap.size=w.heap.size:=rfl;rw[Z6]at e1 m1;have di:(γ.box m.boxes.length w.heap.size).β m.boxes.length=some w.heap.size:=by simp[G.box]
 have hh1:(w.drew.alloc (.cells nX te2)).heap[w.heap.size]?=some (.cells nX te2 (0,0)):=Ye w _;have hP1:=(hP.mono (Ev.drew w γ)).mono e1;have hV1:=(hV.mono (Ev.drew w γ)).mono e1;have hD1:=(hD.mono (Ev.drew w γ)).mono e1
 have hX:A++(List.replicate V.length AV.junk++List.replicate C.length AV.junk)≠[]:=by
  intro hX;apply aJ;have h:=congrArg List.length hX;simp only[zzah,zze,zzcd]at h;apply zzbc;simp only[zzah];omega
 have m2:=m1.store (id:=m.boxes.length) zd di hh1 hP1 hRo (o:=A.length) hV1 hvo hX;have e2:=m1.cH di A.length vs
 have lM:setA (A++(List.replicate V.length AV.junk++List.replicate C.length AV.junk)) A.length V=A++(V++List.replicate C.length AV.junk):=by
  have:=lu A (List.replicate V.length AV.junk++List.replicate C.length AV.junk) V A.length 0 rfl;rw[zzcl,jj V (List.replicate V.length AV.junk) _ zd]at this;exact this
 have hh2:=Qz w.heap.size vs A.length _ nX te2 _ hh1;have m3:=m2.drew
 have hX2:setA (A++(List.replicate V.length AV.junk++List.replicate C.length AV.junk)) A.length V≠[]:=by
  intro h;have h:=congrArg List.length h;rw[oJ]at h;exact hX (zzbc h)
 have hP2:=((cp.setA (o:=A.length) hV1 hP1).mono e2).mono (Ev.drew _ _);have hD2:=(hD1.mono e2).mono (Ev.drew _ _);have m4:=m3.store (id:=m.boxes.length) zd di hh2 hP2 (Wp vs _ nX hRo hvo) (o:=A.length+V.length) hD2 gI hX2;have e4:=m3.cH di (A.length+V.length) D;refine⟨((((Ev.drew w γ).trans e1).trans e2).trans (Ev.drew _ _)).trans e4,?_⟩;rw[ajr m aa]
 have hsb:setA (A++(V++List.replicate C.length AV.junk)) (A.length+V.length) C=A++(V++C):=by
  rw[lu A (V++List.replicate C.length AV.junk) C A.length V.length rfl];have:=lu V (List.replicate C.length AV.junk) C V.length 0 rfl;rw[zzcl]at this;rw[this];have:=jj C (List.replicate C.length AV.junk) [] zd;simp only[zzas]at this;rw[this]
 rw[lM,hsb]at m4;refine(congrArg (fun B=>aq N w0 an _ _ B m.L) (funext fun i=>?_)).mp m4;by_cases hi:i=m.boxes.length<;>simp[hi]
end
def HB:bw Tryz.prog 162:=by
 first|exact CE.bw|(unfold bw;decide)|kernel_rfl
def RN(Y:YT)(m:AM)(id gU i n:Nat)(A C V:PQ)(aM:m.boxes[id]?=some (A++C))(fW:m.boxes[gU]?=some V)(aJ:gU≠id)(hV:V.length=7)(hA:A.length=i*7)(hC:C.length=(n-i)*7)
  (hi:i<n)(hn:n+1<=1000000000)(K:UV)(hK:K (.bs m.boxes.length 0 (n+1) 7) {m with boxes:=m.boxes.set id []++[A++(V++C)]}):aA Tryz.prog aD Y 162 [.bs id 0 n 7,I i,.bs gU 0 1 7] m K:=by
 refine aA.gh HB fun N w0 an γ w vs hm hl hr=>?_
 obtain⟨v1,r1,rfl,g1,lG⟩:∃v1 r1,vs=v1::r1/\au w γ (.bs id 0 n 7) v1/\ak w γ [I i,.bs gU 0 1 7] r1:=by
  cases vs with
  |nil=>have:=hr.1;simp at this
  |cons v r=>exact⟨v,r,rfl,hr.2 0 _ _ rfl rfl,⟨by have:=hr.1;simp at this |-;omega,fun k c u h1 h2=>hr.2 (k+1) c u (Pi h1) (Pi h2)⟩⟩
 obtain⟨v2,r2,rfl,g2,gX⟩:∃v2 r2,r1=v2::r2/\au w γ (I i) v2/\ak w γ [.bs gU 0 1 7] r2:=by
  cases r1 with
  |nil=>have:=lG.1;simp at this
  |cons v r=>exact⟨v,r,rfl,lG.2 0 _ _ rfl rfl,⟨by have:=lG.1;simp at this |-;omega,fun k c u h1 h2=>lG.2 (k+1) c u (Pi h1) (Pi h2)⟩⟩
 obtain⟨v3,rfl,g3⟩:=Yl gX;cases g2;obtain⟨b,cap,arr,te,hβ,rfl,gr,hh,hs⟩:=g1.dg;obtain⟨vb,asW,uY,tv,hβv,rfl,hlv,hhv,hsv⟩:=g3.dg;have hB:m.B id=some (A++C):=aM;have tQ:m.B gU=some V:=fW
 have ajt:A++C≠[]:=by
  intro h;have:=congrArg List.length h;simp only[zzah,hA,hC,zzcd]at this;omega
 have asX:V≠[]:=by rintro rfl;simp at hV
 have SX:vb≠b:=by
  rintro rfl;rcases hm.inj _ _ _ hβ hβv with h|h|h
  ·rw[hB]at h;exact ajt (Option.some.inj h)
  ·rw[tQ]at h;exact asX (Option.some.inj h)
  exact aJ h.symm
 obtain⟨bN,zm,q2,q3,q4⟩:=hm.box id _ b hB hβ;rw[hh]at q2;cases q2;obtain⟨azo,tv',p2,p3,p4⟩:=hm.box gU _ vb tQ hβv;rw[hhv]at p2;cases p2;have hvl:=p3.1;simp only[zzbj,hV]at hvl
 have hVr:ak w γ V (uY.toList.take 7):=by
  refine⟨by simp only[zzaq,zzbj,hV];omega,fun k c v g1 g2=>?_⟩;have hk:=(zza.1 g1).1;rw[zzbk,if_pos zE]at g2;exact p3.2 k c v g1 g2
 have hvo:∀v∈uY.toList.take 7,v.oneCell'=true:=fun v hv=>p4 v (zzce hv);have hi7:(i+1)*7=A.length+V.length:=by rw[hA,hV];omega
 simp only[zzbm]at hs;by_cases cI:n+1<=cap
 ·have gi:=RK b n cap i vb asW arr uY te tv w hi cI hn SX hh hhv hs hvl q4 p4;have PL:(n+1)*7<=cap*7:=zzbb _ cI;rw[hi7,<- hA,<- hC]at gi;obtain⟨e1,m1⟩:=RL hm aM ajt hβ hh hVr hvo (by rw[hA,hC,hV];omega);refine gi.mono ?_;rintro e w' ⟨rfl,rfl⟩;have hh':w.drew.heap[b]?=some (.cells arr te (0,0)):=hh;refine⟨_,_,.bs m.boxes.length 0 (n+1) 7,_,rfl,e1.cL,m1,hl.mono' e1 rfl,.bs (by simp[G.box]) cI (Qz b _ _ _ _ te _ (Qz b _ _ _ arr te _ hh')) (by rw[Vb,Vb];omega),hK⟩
 have gi:=Z5 b n cap i vb asW arr uY te tv w hi gr zE hn SX hh hhv hs hvl q4 p4;refine gi.mono ?_;rintro e w' ⟨Gc,nX,zs,hG,rfl,hR,hz,hGR,hzo,rfl⟩;rw[<- hA]at hR;obtain⟨e1,m1⟩:=afA (te2:=24) hm aM hβ hh hVr hvo hR (by rw[hC,hV];omega) hzo (by simp[asX]);rw[hi7,<- hA,<- hC];refine⟨_,_,.bs m.boxes.length 0 (n+1) 7,_,rfl,e1.cL,m1,hl.mono' e1 rfl,.bs (by simp[G.box]) hG (Qz _ _ _ _ _ 24 _ (Qz _ _ _ (w.drew.alloc (.cells nX 24)) nX 24 _ (Ye w _))) (by rw[Vb,Vb];omega),hK⟩
def Ju{B:X2}{id:Nat}{c:PQ}(h:id<B.length)(hr:Qg B id=c):B[id]?=some c:=by
 rw[Je h,hr]
def afB(Y:YT)(m:AM)(id gU n:Nat)(A V:PQ)(aM:m.boxes[id]?=some A)(fW:m.boxes[gU]?=some V)(hA:A.length=n*7)(hn:0<n)(hn9:n<=1000000000)(hV:V.length=7)(okV:Zl V=true)
  (K:UV)(hK:K (.bs m.boxes.length 0 (n+1) 7) {m with boxes:=m.boxes.set id []++[A++V]}):aA Tryz.prog aD Y 162 [.bs id 0 n 7,I n,.bs gU 0 1 7] m K:=by
 obtain⟨mb,ml,ms,mn⟩:=m;have r1:=Qv aM;have r2:=Qv fW;have l1:=(zza.1 aM).1;have l2:=(zza.1 fW).1;simp only at r1 r2 l1 l2 hK;have aJ:¬A=[]:=by rintro rfl;simp at hA;omega
 refine Xh CE (fun _ _ _=>.junk) zd ?_;simp[TT,TU,r1,r2,l1,l2,hA,hV,aJ];refine⟨zE,?_⟩;rw[zzal zE,zzal zE];exact hK
def afC(Y:YT)(m:AM)(k:Nat)(row:PQ)(ai:row.length=7)(hk:m.lens[k]?=some 0)(K:UV)(hK:K (.sl (.own k 7) [row]) {m with lens:=m.lens.set k 1}):
  aA Tryz.prog aD Y 162 [.sl (.own k 7) [],I 0,.sl .full [row]] m K:=by
 obtain⟨mb,ml,ms,mn⟩:=m;refine Xh CE (fun _ _ _=>.junk) zd ?_;simp[TT,TU,ai];exact⟨hk,hK⟩
def Z7(Y:YT)(m:AM)(K:UV)(hK:K (.sl (.own m.lens.length 7) []) {m with lens:=m.lens++[0]}):aA Tryz.prog aD Y 89 [.sl .ro []] m K:=by
 refine Xh JF (fun _ _ _=>.junk) zd ?_;simp[abZ,ab0];exact hK
def Z8(p:Pl):X1:=fun d f l=>if f=89 then .gd false .junk else Kb p d f l
def Z9(Y:YT)(m:AM)(p:Pl)(h:BI p)(hn:p.ens=[])(K:UV)
  (hK:∀c0 c1,K (.agg (Un p (.sl (.own m.lens.length 7) []))) {m with boxes:=m.boxes++[c0,c1],lens:=m.lens++[0]}):aA Tryz.prog aD Y 50 [.agg (Qa p)] m K:=by
 obtain⟨mb,ml,ms,mn⟩:=m;obtain⟨h1,h2,h3,h4,h5,h6⟩:=h;have k1:=p9 p.sh zE;have k2:=qb p.aO zE;have k4:=qc p.bks zE;have k5:=DN p.cls zE;refine Xh vi (Z8 p) zd ?_;simp[Jx,Qa,Z8,Kb,hn];refine⟨k1,k2,Z7 _ _ _ ?_⟩;simp;refine Qj eM (fun f m=>f 22=I 0/\m=⟨mb++[[I p.ch,I p.nu,I p.de,I p.of,.sl .ro (p.sh.map Qe),I p.ep,I p.rg,I p.ln,I p.fi,.sl .ro (p.aO.map Qm),.sl (.own ml.length 7) [],.sl .ro (p.bks.map Xk),.sl .ro (p.cls.map Qh)],[I 0,I 0,I 0,I 0,.sl .nil [],I 0,I 0,I 0,I 0,.sl .nil [],.sl .nil [],.sl .nil [],.sl .nil []]],ml++[0],ms,mn⟩) (fun f _=>0) ?_ ?_
 ·exact⟨zd,zd⟩
 rintro f m ⟨f22,rfl⟩;simp[f22,eM,JA,Z8,Kb];refine⟨k4,k5,?_⟩;simp[Un]at hK;exact hK _ _
def D2(f:Int)(o:Od):En:={o.nw with ea:=if o.nw.ea<f then f else o.nw.ea}
def afD(g:Pg)(b:QP):Int:=Ur (fun e:En=>!(zy b e.id)) g.p.ens 0
def RP(g:Pg)(b:QP):Nat:=if afD g b<0 then g.p.ens.length else(afD g b).toNat
def nY(g:Pg)(f:Int)(b:QP)(o:Od):Pl:={g.p with ens:=g.p.ens.take (RP g b)++D2 f o::g.p.ens.drop (RP g b)}
def afE{α:Type}(P:α->Bool)(L:List α)(i:Nat):Ur P L i= -1\/∃k:Nat,k<L.length/\Ur P L i=((i+k:Nat):Int):=by
 cases h:L.find? P with
 |none=>exact .inl (Qcz h)
 |some a=>
  obtain⟨k,h1,h2,_⟩:=Ky (i:=i) h;exact .inr ⟨k,(zza.1 h2).1,h1⟩
def afF(Y:YT)(m:AM)(rt:Rt)(kk:Nat)(K:UV)(hK:K (I (-1)) m):aA Tryz.prog aD Y 160 [.sl rt [],.fn 161 [] [.ptr kk 0]] m K:=by
 obtain⟨mb,ml,ms,mn⟩:=m;refine aA.mono (aA.read (K:=fun r=>r=I (-1)) (Xh CD (fun _ _ _=>.gd false .junk) zd ?_)) (by rintro r m' ⟨rfl,rfl⟩;exact hK);simp[Ni];refine Qj fF (fun s m=>s 8=I 0/\m=⟨mb,ml,ms,mn⟩) (fun s _=>0) ?_ ?_
 ·exact⟨zd,rfl⟩
 rintro s m ⟨f8,rfl⟩;simp[f8,fF,AL];exact nU
def aju:X1:=fun _ f l=>if f=90 then l.headD .junk else if f=999999 then .aL 0 []else .gd false .junk
def aaa:X1:=fun _ f l=>if f=90 then l.headD .junk else if f=999999 then .junk else .gd false .junk
def Mc(Y:YT)(m:AM)(g:Pg)(f:Int)(mid:Nat)(b:QP)(o:Od)(hp:BI g.p)(hb:gm m.boxes mid b)(ho:o.nw.al.length<=8796093022208)(K:UV)
  (hK:∀ex V ls,mG (m.boxes++ex) V (nY g f b o).ens->Hr m.boxes.length V->K (.aQ [.agg (Xo (nY g f b o) V (.sl .ro (g.p.cls.map Qh)) 0),.bool true]) {m with boxes:=m.boxes++ex,lens:=m.lens++ls}):
  aA Tryz.prog aD Y 106 [.agg (Qq g f mid),.agg (Qu o)] m K:=by
 obtain⟨mb,ml,ms,mn⟩:=m;have hoe:=Wj o.nw ho;simp only[Qd]at hoe;have hB:∀ex,gm (mb++ex) mid b:=fun ex=>⟨by have:=hb.1;simp at this |-;omega,hb.ext ex⟩;by_cases aJ:g.p.ens=[]
 ·have kO:=fun ex K hK=>Z9 Y ⟨mb++ex,ml,ms,mn⟩ g.p hp aJ K hK;simp only[Qa]at kO;have hx:(nY g f b o).ens=[D2 f o]:=by simp[nY,aJ]
  refine Xh M3 aaa zd ?_;simp[TB,TC,Qq,Qo,Qa,Qu,Qd,Qh,Ql,aaa];refine kO _ _ fun c0 c1=>?_;simp[Un];refine afF _ _ _ _ _ ?_;simp;refine⟨hoe,afC _ _ ml.length _ rfl zd _ ?_⟩;simp;exact hK _ (.sl (.own ml.length 7) [Qd (D2 f o)]) [1] (.inl ⟨_,by rw[hx];rfl,DX.own _ _⟩) (Hr.sl _ _ _)
 have kO:=fun ex K hK=>yl Y ⟨mb++ex,ml,ms,mn⟩ g.p hp aJ K hK;simp only[Qa]at kO;refine Xh M3 aju zd ?_;simp[TB,TC,Qq,Qo,Qa,Qu,Qd,Qh,Ql,aju];refine kO _ _ fun c0 c1 bx=>?_;simp[Un,zzan];have hl9:g.p.ens.length<=1000000:=hp.2.2.1;refine aA.mono (L9 _ _ g f mid mb.length b (mb.length+5) g.p.ens [] zE zd (by simp[Qq,Qo,Qa]) (hB _) zd (by simp[eU])) ?_;rintro r m' ⟨rfl,rfl⟩;have iW:0<g.p.ens.length:=zzdf.2 aJ;rcases afE (fun e:En=>!(zy b e.id)) g.p.ens 0 with hI|⟨k,hk,hI⟩
 ·have hJ:RP g b=g.p.ens.length:=by unfold RP afD;rw[hI,if_pos zE]
  have hP:(nY g f b o).ens=g.p.ens++[D2 f o]:=by simp[nY,hJ]
  rw[hI];simp[zzan];refine⟨hoe,afB _ _ _ _ _ (eU g.p.ens) (Qd (D2 f o)) (Ju zd (by simp[eU])) (Ju zd (by simp[D2,Qd])) (Ux _) iW zE rfl rfl _ ?_⟩;simp[zzan];have h3:=fun ex k h1 h2 h4=>hK ex (.bs k 0 (g.p.ens.length+1) 7) [] (.inr ⟨k,[],by rw[hP];simp,h1,h2,rfl⟩) (Hr.bs h4);simp only[zzas]at h3;exact h3 _ (mb.length+(bx.length+9)) zd (by simp[hP,qf,Qd]) zd
 have hJ:RP g b=k:=by unfold RP afD;rw[hI,if_neg zE];omega
 have lI:Ur (fun e:En=>!(zy b e.id)) g.p.ens 0=(k:Int):=by rw[hI];omega
 have Ez:¬(k:Int)<0:=zE
 have hP:(nY g f b o).ens=g.p.ens.take k++D2 f o::g.p.ens.drop k:=by simp[nY,hJ]
 rw[lI];simp[zzan,Ez];refine⟨hoe,RN _ _ _ _ _ _ (eU (g.p.ens.take k)) (eU (g.p.ens.drop k)) (Qd (D2 f o)) (Ju zd (by rw[<- qf,zzdq];simp[eU])) (Ju zd (by simp[D2,Qd])) zE rfl (by rw[Ux,zzaq];omega) (by rw[Ux,zzcb]) hk zE _ ?_⟩;simp[zzan];have h3:=fun ex k h1 h2 h4=>hK ex (.bs k 0 (g.p.ens.length+1) 7) [] (.inr ⟨k,[],by rw[hP];simp;omega,h1,h2,rfl⟩) (Hr.bs h4);simp only[zzas]at h3;exact h3 _ (mb.length+(bx.length+9)) zd (by simp[hP,qf,Qd]) zd
def Me(f:Int)(e:bJ):bJ:={e with fr:=if f-e.st<e.fr then f-e.st else e.fr}
def Yh(f:Int):List bJ->List bJ
 |[]=>[]
 |e::r=>if f<=e.st then Yh f r else Me f e::Yh f r
def yx(f:Int):∀(l r:List bJ),Yh f (l++r)=Yh f l++Yh f r
 |[],_=>rfl
 |e::l,r=>by
  simp only[zzae,Yh,yx f l r];split<;>rfl
def Qdj(f:Int):∀(l:List bJ),(Yh f l).length<=l.length
 |[]=>zzaa _
 |e::l=>by
  have:=Qdj f l;simp only[Yh];split<;>simp<;>omega
def ajv(ml:P1)(o:List bJ)(v:AV)(ls:P1):Prop:=(o=[]/\v=.sl .nil []/\ls=ml)\/(o≠[]/\v=.sl (.own ml.length 7) (o.map Qf)/\ls=ml++[o.length])
def asY(l:List bJ)(F:Int)(mb:X2)(ml:P1)(ms:Nat->LS)(mn:Nat)(g:Nat->AV)(m:AM):Prop:=
 ∃(i:Nat)(bx:X2)(ls:P1),i<=l.length/\g 11=I i/\m=⟨mb++bx,ls,ms,mn⟩/\ajv ml (Yh F (l.take i)) (g 5) ls
def aab:X1:=fun _ g l=>if g=60 then l.headD .junk else .junk
def yy(Y:YT)(m:AM)(l:List bJ)(f:Int)(hl:l.length<=1000000)(hs:∀e∈l,Ki e)(hf:0<=f/\f<=1000000)(K:UV)
  (hK:∀ex v ls,ajv m.lens (Yh f l) v ls->K v {m with boxes:=m.boxes++ex,lens:=ls}):aA Tryz.prog aD Y 108 [.sl .ro (l.map Qf),I f] m K:=by
 obtain⟨mb,ml,ms,mn⟩:=m;refine Xh ab7 aab zd ?_;simp[TF,ag1];refine Qj vk (asY l f mb ml ms mn) (fun g _=>l.length-(numOf (g 11)).toNat) ?_ ?_
 ·exact⟨0,[],ml,zE,zd,zd,.inl ⟨by simp[Yh],zd,rfl⟩⟩
 rintro g m ⟨i,bx,ls,hi,pL,rfl,bk⟩;rcases zzab i l.length with aa|bu
 ·obtain⟨a,ha⟩:=aY aa;have ai:Qg (l.map Qf) i=Qf a:=Qv (by simp[ha]);have hw:=bR i zE;have bB:l.take (i+1)=l.take i++[a]:=by rw[zzax,ha];rfl
  have ah:(i:Int)<(l.length:Int):=zE
  obtain⟨⟨a1,a2⟩,⟨a3,a4⟩,a5,a6⟩:=hs a (zzac ha);have eW:=Qdj f (l.take i);have azp:(Yh f (l.take i)).length<=1000000:=by simp at eW;omega
  by_cases h1:f<=a.st
  ·have hb:Yh f (l.take (i+1))=Yh f (l.take i):=by rw[bB,yx];simp[Yh,h1]
   simp[pL,ai,aa,Qf,h1,hw,vk];refine⟨aR,⟨i+1,_,ls,zE,zd,rfl,?_⟩,zE⟩
   ·rw[hb];exact bk
  have hb:Yh f (l.take (i+1))=Yh f (l.take i)++[Me f a]:=by rw[bB,yx];simp[Yh,h1]
  have wf1:=wu f zE zE;have wf2:=wu a.st zE zE;have wf3:=wu a.fr zE zE;have wf4:=wu (f-a.st) zE zE;have wf5:IntKind.i64.wrap (f-a.st)=f-a.st:=by rw[Qi]<;>omega
  have oU:=Qcf a.al a6;obtain⟨fr',amD⟩:∃fr',fr'=if f-a.st<a.fr then f-a.st else a.fr:=⟨_,rfl⟩;have SV:Qf (Me f a)=[I a.id,I a.it,I a.st,I fr',I a.i,I a.re,.sl .ro (a.al.map Qe)]:=by rw[amD];rfl
  have sH:(0<a.fr/\f-a.st<a.fr/\fr'=f-a.st)\/(0<a.fr/\¬f-a.st<a.fr/\fr'=a.fr)\/(¬0<a.fr/\fr'=a.fr):=by
   rw[amD];by_cases h0:0<a.fr
   ·by_cases hc:f-a.st<a.fr
    ·exact .inl ⟨h0,hc,by simp[hc]⟩
    exact .inr (.inl ⟨h0,hc,by simp[hc]⟩)
   exact .inr (.inr ⟨h0,by rw[if_neg zE]⟩)
  have wk:(Yh f (l.take (i+1))).length=(Yh f (l.take i)).length+1:=by rw[hb];simp
  have RM:Yh f (l.take (i+1))≠[]:=by rw[hb];simp
  have fin:(Yh f (l.take (i+1))).map Qf=(Yh f (l.take i)).map Qf++[[I a.id,I a.it,I a.st,I fr',I a.i,I a.re,.sl .ro (a.al.map Qe)]]:=by rw[hb,zzch,<- SV];rfl
  clear amD SV;have X4:=bk;clear bk;obtain⟨e0,h5,rfl⟩|⟨e0,h5,rfl⟩:=X4
  ·rw[e0]at fin wk;obtain⟨h0,hc,rfl⟩|⟨h0,hc,rfl⟩|⟨h0,rfl⟩:=sH
   all_goals
    simp[Qf,aab,vk, *];refine⟨aR,⟨i+1,_,_,zE,zd,rfl,.inr ⟨RM,?_,?_⟩⟩,zE⟩
    ·simp[fin]
    rw[wk];rfl
  obtain⟨h0,hc,rfl⟩|⟨h0,hc,rfl⟩|⟨h0,rfl⟩:=sH
  all_goals
   simp[Qf,aab,vk, *];refine⟨⟨by rintro row (⟨x,_,rfl⟩|rfl)<;>rfl,zE⟩,ag ?_,⟨i+1,_,_,zE,zd,rfl,.inr ⟨RM,?_,?_⟩⟩,zE⟩
   ·repeat(first|exact Qb _ _|refine Qc _ rfl ?_)
   ·simp[fin]
   rw[wk]
 have hbf:l.take i=l:=zzal bu;rw[hbf]at bk;simp[pL,zzbn.2 bu,vk];exact hK _ _ _ bk
def yz(n a b:Int)(ha:0<=a/\a<=1000000000)(hb:0<=b/\b<=1000000000):Pure Tryz.prog aD 170 [I n,I a,I b] (.bool (decide (n=a+b))):=by
 have hw:IntKind.i64.wrap (a+b)=a+b:=by rw[Qi]<;>omega
 have h1:¬a<0:=zE
 have h2:¬b<0:=zE
 have h3:¬a+b<0:=zE
 refine Qn acZ (fun _ _ _=>.junk) zd ?_;by_cases h:n=a+b<;>simp[ahM,ahN,hw,h1,h2,h3,h]
def RQ(e:bJ):Ad:=⟨e.it,0,e.st,e.fr⟩
def rU(n:Int):List Ad->List Ad
 |[]=>[]
 |[a]=>[{a with fs:=a.fs+n}]
 |a::b::r=>a::rU n (b::r)
def HC(n:Int)(a:Ad):∀l:List Ad,rU n (l++[a])=l++[{a with fs:=a.fs+n}]
 |[]=>rfl
 |[x]=>rfl
 |x::y::r=>by have:=HC n a (y::r);simp only[zzae]at this |-;rw[rU,this]
def yA(x e:bJ):Prop:=x.id=e.id/\e.st=x.st+x.fr/\e.i=x.i+x.fr
instance (x e:bJ):Decidable (yA x e):=by unfold yA;infer_instance
def Yv(x:Option bJ)(e:bJ)(out:List Ad):List Ad:=
 if e.id=0 then out else match x with
 |none=>out++[RQ e]
 |some x=>if yA x e then rU e.fr out else out++[RQ e]
def uh:Option bJ->List bJ->List Ad->List Ad
 |_,[],out=>out
 |x,e::r,out=>uh (some e) r (Yv x e out)
def RR(l:List bJ)(f:Int):List Ad:=uh none (Yh f l) []
def BS(e:bJ):∀(l:List bJ)(x:Option bJ)(out:List Ad),uh x (l++[e]) out=Yv (match l.getLast? with|some y=>some y|none=>x) e (uh x l out)
 |[],_,_=>rfl
 |[a],_,_=>rfl
 |a::b::r,x,out=>by
  have:=BS e (b::r) (some a) (Yv x a out);simp only[zzae]at this |-
  rw[uh,this,List.getLast?_cons_cons];congr 1
def afG{n:Int}:∀{l:List Ad},l≠[]->rU n l≠[]
 |[],h=>absurd rfl h
 |[a],_=>by simp[rU]
 |a::b::r,_=>by simp[rU]
def rV{B:List bJ}{i:Nat}{e:bJ}(h:B[i]?=some e):uh none (B.take (i+1)) []=Yv (if i=0 then none else B[i-1]?) e (uh none (B.take i) []):=by
 have aa:=(zza.1 h).1;rw[zzax,h];show uh none (B.take i++[e]) []=_;rw[BS];congr 1;cases i with
 |zero=>rfl
 |succ i=>
  have hx:B[i]?=some B[i]:=zzad zE;rw[zzax,hx,Option.toList_some,List.getLast?_concat,if_neg zE,zzgg,hx]
def OK{B:List bJ}:∀{i:Nat}{e:bJ},B[i]?=some e->e.id≠0->uh none (B.take (i+1)) []≠[]
 |0,e,h,h0=>by rw[rV h,if_pos rfl];simp[Yv,h0]
 |i+1,e,h,h0=>by
  rw[rV h,if_neg zE,zzgg];have aa:=(zza.1 h).1;obtain⟨x,hx⟩:∃x,B[i]?=some x:=⟨_,zzad zE⟩;rw[hx];unfold Yv;rw[if_neg h0];simp only;split
  ·rename_i hj;exact afG (OK hx (by rw[hj.1];exact h0))
  simp
def nZ(f:Int)(hf:f<=1000000):∀(l:List bJ),(∀e∈l,Ki e)->∀e∈Yh f l,Ki e
 |[],_,e,h=>by cases h
 |a::r,hs,e,h=>by
  have ih:=nZ f hf r fun e he=>hs e (by simp[he]);rw[Yh]at h;split at h
  ·exact ih e h
  rename_i cc;rcases zzao.1 h with rfl|h
  ·obtain⟨⟨a1,a2⟩,⟨a3,a4⟩,a5,a6⟩:=hs a zd;refine⟨⟨a1,a2⟩,?_,a5,a6⟩;simp only[Me];split<;>omega
  exact ih e h
def FsB(n:Int)(out:List Ad):Prop:=∀a∈out,0<=a.fs/\a.fs<=n
def FsB.inc{n k:Int}(hk:0<=k/\k<=1000000):∀{l:List Ad},FsB n l->FsB (n+1000000) (rU k l)
 |[],_,a,h=>by cases h
 |[x],hl,a,h=>by
  have:=hl x zd;simp only[rU,zzcp]at h;subst h;simp only;omega
 |x::y::r,hl,a,h=>by
  rw[rU]at h;rcases zzao.1 h with rfl|h
  ·have:=hl a zd;omega
  exact FsB.inc hk (l:=y::r) (fun b hb=>hl b (by simp[hb])) a h
def FsB.step{n:Int}{x:Option bJ}{e:bJ}{out:List Ad}(h:FsB n out)(hn:0<=n)(he:Ki e):FsB (n+1000000) (Yv x e out):=by
 obtain⟨_,h3,_⟩:=he;have hw:FsB (n+1000000) out:=fun a ha=>by have:=h a ha;omega
 have hp:FsB (n+1000000) (out++[RQ e]):=fun a ha=>by
  rcases zzap.1 ha with ha|ha
  ·exact hw a ha
  simp only[zzcp]at ha;subst ha;simp only[RQ];omega
 unfold Yv;split
 ·exact hw
 cases x with
 |none=>exact hp
 |some x=>
  simp only;split
  ·exact h.inc h3
  exact hp
def HD(B:List bJ)(x:Option bJ)(out:List Ad):(uh x B out).length<=out.length+B.length:=by
 induction B generalizing x out with
 |nil=>simp[uh]
 |cons e r ih=>
  rw[uh];have h1:=ih (some e) (Yv x e out)
  have h2:(Yv x e out).length<=out.length+1:=by
   have hi:∀(k:Int)(l:List Ad),(rU k l).length=l.length:=by
    intro k l;induction l with
    |nil=>rfl
    |cons a r ih=>cases r with
     |nil=>rfl
     |cons b r=>rw[rU,zzav,ih];rfl
   unfold Yv;split
   ·omega
   cases x with
   |none=>simp
   |some x=>
    simp only;split
    · rw[hi];omega
    simp
  simp only[zzav];omega
def tq(l:List Ad):PQ:=(l.map Vj).flatten
def uZ:∀l,(tq l).length=l.length*4
 |[]=>rfl
 |a::r=>by have:=uZ r;simp only[tq,zzay,zzci,zzah]at this |-;rw[this];simp[Vj];omega
def afH(a b:List Ad):tq (a++b)=tq a++tq b:=by simp[tq]
def amE(l:List Ad):Zl (tq l)=true:=kY (fun _=>rfl) l
def RS{bx:X2}{k:Nat}{c:PQ}(h:k<bx.length)(ex:X2):Qg (bx.set k c++ex) k=c:=
 Qv (by rw[zzak (Pi h)];simp[h])
def rX(bx:X2)(k:Nat)(c p q r:PQ):Qg (bx.set k c++[p,q,r]) (bx.length+2)=r:=
 Qv (by rw[zzat zd];simp)
def RT(l:List Ad):aW 4 l.length (tq l)=l.map Vj:=by
 have:=Qbj (sz:=4) (rows:=l.map Vj) (kZ (f:=Vj) (fun _=>rfl) l);rw[zzbu]at this;exact this
def OL(bx:X2)(o:List Ad)(v:AV):Prop:=(o=[]/\v=.sl .nil [])\/(o≠[]/\∃k,v=.bs k 0 o.length 4/\k<bx.length/\Qg bx k=tq o)
def asZ(B:List bJ)(ls:P1)(g:Nat->AV)(m:AM):Prop:=
 ∃(i:Nat)(bx:X2),g 15=I i/\i<=B.length/\m=⟨bx,ls,fun _=>.gone,0⟩/\OL bx (uh none (B.take i) []) (g 5)/\FsB (i*1000000) (uh none (B.take i) [])
def mJ:X1:=fun d f l=>if f=108 then .gd false .junk else if f=170 then(match l with|[.int _ n,.int _ a,.int _ b]=>.bool (decide (n=a+b))|_=>.junk)else if f=999999 then(if d=73 then .junk else .aL 0 [])else .junk
def OL.ext{bx:X2}{o:List Ad}{v:AV}(h:OL bx o v)(ex:X2):OL (bx++ex) o v:=by
 obtain h|⟨h0,k,h1,h2,h3⟩:=h
 ·exact .inl h
 exact .inr ⟨h0,k,h1,by simp;omega,by rw[Qk h2,h3]⟩
def Mf(l:List bJ)(f:Int)(hl:l.length<=1000000)(hs:∀e∈l,Ki e)(hf:0<=f/\f<=1000000):Pure Tryz.prog aD 112 [.sl .ro (l.map Qf),I f] (.sl .ro ((RR l f).map Vj)):=by
 have hsB:=nZ f hf.2 l hs;have hlB:(Yh f l).length<=1000000:=by have:=Qdj f l;omega
 have:Pure Tryz.prog aD 112 [.sl .ro (l.map Qf),I f] (.sl (if RR l f=[]then .nil else .ro) ((RR l f).map Vj)):=by
  refine Qn acd mJ zd ?_;simp[TG,ag4,mJ];refine yy _ _ l f hl hs hf _ fun ex v ls hO=>?_
  obtain⟨rt,rfl⟩:∃rt,v=.sl rt ((Yh f l).map Qf):=by
   obtain⟨e,rfl,_⟩|⟨e,rfl,_⟩:=hO
   ·exact⟨.nil,by rw[e];rfl⟩
   exact⟨_,rfl⟩
  clear hO;unfold RR;generalize Yh f l=B at*
  simp;refine Qj dX (asZ B ls) (fun g _=>B.length-(numOf (g 15)).toNat) ?_ ?_
  ·exact⟨0,ex,zd,zE,zd,.inl ⟨by simp[uh],zd⟩,fun a h=>by simp[uh]at h⟩
  rintro g m ⟨i,bx,sP,hi,rfl,hO,hF⟩;rcases zzab i B.length with aa|bu
  ·obtain⟨a,ha⟩:=aY aa;have ai:Qg (B.map Qf) i=Qf a:=Qv (by simp[ha]);have hw:=bR i zE;have ah:(i:Int)<(B.length:Int):=zE
   have lM:=hsB a (zzac ha);have bB:=rV ha;have mA:=hF.step (x:=if i=0 then none else B[i-1]?) (e:=a) zE lM;rw[<- bB]at mA;obtain⟨⟨a1,a2⟩,⟨a3,a4⟩,⟨a5,a6⟩,a7⟩:=lM;by_cases h0:a.id=0
   ·simp[sP,ai,aa,Qf,h0,dX,hw];refine⟨aR,⟨i+1,_,zd,zE,rfl,?_,?_⟩,zE⟩
    ·simp[Yv,h0]at bB;rw[bB];simpa using hO.ext _
    have:((i+1:Nat):Int)*1000000=(i:Int)*1000000+1000000:=zE
    rw[this];exact mA
   cases i with
   |zero=>
    have e1:uh none (B.take 1) []=[RQ a]:=by rw[bB];simp[Yv,h0,uh]
    have hO0:g 5=.sl .nil []:=by
     obtain⟨_,h⟩|⟨h,_⟩:=hO
     ·exact h
     exact absurd (by simp[uh]) h
    have iL:IntKind.i64.wrap 1=1:=by rw[Qi]<;>omega
    simp at sP;simp[sP,ai,aa,Qf,h0,dX,iL,hO0,mJ];refine⟨aR,⟨1,_,zd,zE,rfl,.inr ⟨by rw[e1];simp,bx.length+1,by simp[e1],zd,?_⟩,?_⟩,zE⟩
    ·simp[e1,tq,Vj,RQ]
    simpa using mA
   |succ i=>
    have ax4:i<B.length:=zE
    obtain⟨x,hx⟩:=aY ax4;have yB:Qg (B.map Qf) i=Qf x:=Qv (by simp[hx]);obtain⟨⟨x1,x2⟩,⟨x3,x4⟩,⟨x5,x6⟩,x7⟩:=hsB x (zzac hx);have k1:=yz a.st x.st x.fr zE zE;have k2:=yz a.i x.i x.fr zE zE;have S0:IntKind.i64.wrap (i:Int)=i:=by rw[Qi]<;>omega
    have yC:(i:Int)<(B.length:Int):=zE
    have iW:(0:Int)<(i:Int)+1:=zE
    rw[if_neg zE,zzgg,hx]at bB;have aJ:=OK hx;have gL:((i+1+1:Nat):Int)*1000000=((i+1:Nat):Int)*1000000+1000000:=zE
    have hol:=HD (B.take (i+1)) none [];have amF:¬yA x a->uh none (B.take (i+1+1)) []=uh none (B.take (i+1)) []++[RQ a]:=fun h=>by rw[bB];simp[Yv,h0,h]
    have yD:yA x a->uh none (B.take (i+1+1)) []=rU a.fr (uh none (B.take (i+1)) []):=fun h=>by rw[bB];simp[Yv,h0,h]
    rw[<- gL]at mA;clear bB;generalize uh none (B.take (i+1)) []=out at*
    generalize dx:uh none (B.take (i+1+1)) []=out' at*
    simp at sP aa ah hw hol;have arS:out.length<=1000000:=zE
    by_cases hj:yA x a
    ·have e1:=yD hj;obtain⟨j1,j2,j3⟩:=hj;have aJ:=aJ (by rw[j1];exact h0)
     obtain⟨O,z,rfl⟩:∃O z,out=O++[z]:=by
      rcases zzhk out with e|⟨O,z,e⟩
      ·exact absurd e aJ
      exact⟨O,z,by rw[e,zzhl]⟩
     have hOl:(tq O).length=O.length*4:=uZ O;have hz:=hF z zd;have hwz:IntKind.i64.wrap (z.fs+a.fr)=z.fs+a.fr:=by rw[Qi]<;>omega
     have HE:∀X:PQ,(tq O++X).drop (O.length*4+3)=X.drop 3:=fun X=>BQ _ _ _ _ hOl;have hs3:∀X Y:PQ,setA (tq O++X) (O.length*4+3) Y=tq O++setA X 3 Y:=fun X Y=>BP _ _ _ _ _ hOl;obtain⟨e,_⟩|⟨_,k,h5,hk,hr⟩:=hO
     ·exact absurd e aJ
     have hR:∀ex,Qg (bx++ex) k=tq O++[I z.it,I z.re,I z.fr,I z.fs]:=fun ex=>by rw[Qk hk,hr,afH];rfl
     rw[HC]at e1;rw[zzah,zzhi]at h5;have hwo:IntKind.i64.wrap (O.length:Int)=O.length:=by simp at arS;rw[Qi]<;>omega
     have sM:k<bx.length+1:=zE
     have aac:k<bx.length+(1+1):=zE
     have ax5:k<bx.length+2:=zE
     simp[sP,ai,ah,Qf,h0,dX,hw,yB,yC,iW,S0,mJ,j1,j2,j3,h5,hR,hwo,HE,hs3,hOl,hwz,hk,aac];refine⟨zE,by rw[j2]at k1;simpa using k1,by rw[j3]at k2;simpa using k2,zE,aR,⟨i+1+1,_,zd,zE,rfl,.inr ⟨by rw[dx,e1];simp,k,by rw[dx,e1];simp,by simp;omega,?_⟩,by rw[dx];exact mA⟩,zE⟩
     ·rw[dx,e1,RS hk];simp[tq,Vj]
    have e1:=amF hj
    have jc:¬x.id=a.id\/(x.id=a.id/\¬a.st=x.st+x.fr)\/(x.id=a.id/\a.st=x.st+x.fr/\¬a.i=x.i+x.fr):=by
     unfold yA at hj;by_cases j1:x.id=a.id
     ·by_cases j2:a.st=x.st+x.fr
      ·exact .inr (.inr ⟨j1,j2,fun j3=>hj ⟨j1,j2,j3⟩⟩)
      exact .inr (.inl ⟨j1,j2⟩)
     exact .inl j1
    obtain⟨rfl,h5⟩|⟨RM,k,h5,hk,hr⟩:=hO
    ·obtain j1|⟨j1,j2⟩|⟨j1,j2,j3⟩:=jc
     ·simp[sP,ai,ah,Qf,h0,dX,hw,yB,yC,iW,S0,mJ,j1,h5];refine⟨zE,aR,⟨i+1+1,_,zd,zE,rfl,.inr ⟨by rw[dx,e1];simp,bx.length+2,by rw[dx,e1];simp,zd,?_⟩,by rw[dx];exact mA⟩,zE⟩
      ·rw[dx,e1];simp[tq,Vj,RQ]
     ·simp[sP,ai,ah,Qf,h0,dX,hw,yB,yC,iW,S0,mJ,j1,j2,h5];refine⟨zE,by simpa[j2]using k1,aR,⟨i+1+1,_,zd,zE,rfl,.inr ⟨by rw[dx,e1];simp,bx.length+2,by rw[dx,e1];simp,zd,?_⟩,by rw[dx];exact mA⟩,zE⟩
      ·rw[dx,e1];simp[tq,Vj,RQ]
     simp[sP,ai,ah,Qf,h0,dX,hw,yB,yC,iW,S0,mJ,j1,j2,j3,h5];refine⟨zE,by rw[j2]at k1;simpa using k1,by simpa[j3]using k2,aR,⟨i+1+1,_,zd,zE,rfl,.inr ⟨by rw[dx,e1];simp,bx.length+2,by rw[dx,e1];simp,zd,?_⟩,by rw[dx];exact mA⟩,zE⟩
     ·rw[dx,e1];simp[tq,Vj,RQ,j2]
    have hR:∀ex,Qg (bx++ex) k=tq out:=fun ex=>by rw[Qk hk,hr]
    have sM:k<bx.length+1:=zE
    have aac:k<bx.length+(1+1):=zE
    have ax5:k<bx.length+2:=zE
    have hlo:=uZ out;have amG:¬tq out=[]:=by intro h;rw[h]at hlo;exact RM (zzbc (by simp at hlo;omega))
    have ZO:List.take (out.length*4) (tq out)=tq out:=zzal zE;obtain j1|⟨j1,j2⟩|⟨j1,j2,j3⟩:=jc
    ·simp[sP,ai,ah,Qf,h0,dX,hw,yB,yC,iW,S0,mJ,j1,h5,hR,hk,aac,hlo,amG,ZO];refine⟨zE,zE,aR,⟨i+1+1,_,zd,zE,rfl,.inr ⟨by rw[dx,e1];simp,bx.length+2,by rw[dx,e1];simp,zd,?_⟩,by rw[dx];exact mA⟩,zE⟩
     ·rw[dx,e1,rX];simp[tq,Vj,RQ]
    ·simp[sP,ai,ah,Qf,h0,dX,hw,yB,yC,iW,S0,mJ,j1,j2,h5,hR,hk,aac,hlo,amG,ZO];refine⟨zE,by simpa[j2]using k1,zE,aR,⟨i+1+1,_,zd,zE,rfl,.inr ⟨by rw[dx,e1];simp,bx.length+2,by rw[dx,e1];simp,zd,?_⟩,by rw[dx];exact mA⟩,zE⟩
     ·rw[dx,e1,rX];simp[tq,Vj,RQ]
    simp[sP,ai,ah,Qf,h0,dX,hw,yB,yC,iW,S0,mJ,j1,j2,j3,h5,hR,hk,aac,hlo,amG,ZO];refine⟨zE,by rw[j2]at k1;simpa using k1,by simpa[j3]using k2,zE,aR,⟨i+1+1,_,zd,zE,rfl,.inr ⟨by rw[dx,e1];simp,bx.length+2,by rw[dx,e1];simp,zd,?_⟩,by rw[dx];exact mA⟩,zE⟩
    ·rw[dx,e1,rX];simp[tq,Vj,RQ,j2]
  obtain rfl:i=B.length:=zE
  rw[zzbs]at hO;obtain⟨e,h5⟩|⟨e,k,h5,hk,hr⟩:=hO
  ·simp[sP,dX,h5,e]
  simp[sP,dX,h5,e];rw[hr,Vd _ _ (amE _),uZ,if_pos (zzaa _),RT]
 exact Zx this (Wk.sl _ _)
end
