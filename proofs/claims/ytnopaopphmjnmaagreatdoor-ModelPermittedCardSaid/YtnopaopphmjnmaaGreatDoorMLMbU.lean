import Derived.Test.YtnopaopphmjnmaaGreatDoorMLMbN
set_option linter.all false
set_option maxRecDepth 100000
set_option maxHeartbeats 64000000
namespace Go.Proofs.YtnopaopphmjnmaaGreatDoor
noncomputable section
open Go Go.Abs
def zU(x:Int):List Int->Nat->Int
 |[],_=> -1
 |a::r,i=>if x=a then i else zU x r (i+1)
def GZ(x:Int):∀(L:List Int)(i:Nat),(0<=zU x L i)=(x∈L)
 |[],i=>by simp[zU]
 |a::r,i=>by
  unfold zU;by_cases h:x=a
  ·rw[if_pos h];simp[h]
  rw[if_neg h,GZ x r (i+1)];simp[h]
def Z9(L:List Int)(x:Int)(hl:L.length<=1000000000):Pure Tryz.prog az 226 [.sl .ro (L.map Qy),I x] (I (zU x L 0)):=by
 refine Qn adB (fun _ _ _=>.junk) (by simp) ?_;simp[ain];refine Qi Cf (fun f m=>∃i:Nat,f 8=I i/\i<=L.length/\zU x (L.drop i) i=zU x L 0/\m=⟨[],[],fun _=>.gone,0⟩) (fun f _=>L.length-(numOf (f 8)).toNat) ?_ ?_
 ·exact⟨0,by simp,by omega,by simp,rfl⟩
 rintro f m ⟨i,f8,hi,hr,rfl⟩;rcases zzaa i L.length with ai|bu
 ·obtain⟨a,ha⟩:=aS ai;have ah:Qh (L.map Qy) i=[I a]:=Qs (by simp[ha,Qy]);have aa:(i:Int)<(L.length:Int):=by omega
  have hw:=bJ i (by omega);have hd:L.drop i=a::L.drop (i+1):=by rw[zzaf ai,(zza.1 ha).2]
  rw[hd,zU]at hr;by_cases hP:x=a
  ·rw[if_pos hP]at hr;simp[f8,Cf,U3,aa,ah,hP];rw[<- hP];exact hr
  rw[if_neg hP]at hr;simp[f8,Cf,aa,ah,hP,hw];refine⟨aO,⟨i+1,by simp,by omega,hr⟩,by omega⟩
 obtain rfl:i=L.length:=by omega
 rw[zzbo,zU]at hr;simp[f8,Cf,U3];exact hr
def jU(L:List Int)(x:Int)(hl:L.length<=1000000000):Pure Tryz.prog az 157 [.sl .ro (L.map Qy),I x] (.bool (decide (x∈L))):=by
 have k:=Z9 L x hl;refine Qn acO (fun _ _ _=>I (zU x L 0)) (by simp) ?_;simp[ahP,ahQ];refine⟨k,?_⟩;simp[<- GZ x L 0]
def DB(e:bD)(id:Int):Pure Tryz.prog az 222 [.agg (Qf e),.ep [I id] 0] (.bool (decide (e.id=id))):=by
 refine Qn adz (fun _ _ _=>.junk) (by simp) ?_;simp[aij,aik,Qf];rw[zzbt];simp
def LG(g:Pg)(id:Int):Bool:=(g.ev.find? (fun e=>decide (e.id=id))).isSome
def DC(L:List bD)(id:Int)(hl:L.length<=1000000000):Pure Tryz.prog az 221 [.sl .ro (L.map Qf),.fn 222 [] [.ep [I id] 0]] (.bool (L.find? (fun e=>decide (e.id=id))).isSome):=by
 have k:=yg L (fun e=>decide (e.id=id)) 222 [] [.ep [I id] 0] hl (fun _=>rfl) (fun _=>by simp) (fun e _=>DB e id) (fun _ _ xs=>match xs with|.agg (.int _ n::_)::_=>.bool (decide (n=id))|_=>.junk) (fun _ e _=>rfl);refine Qn ady (fun _ _ _=>I (Ur (fun e=>decide (e.id=id)) L 0)) (by simp) ?_;cases hf:L.find? (fun e=>decide (e.id=id))with
 |none=>
  rw[Qda hf]at k |-
  simp[U1,U2];exact k
 |some e=>
  obtain⟨n,g1,_,_⟩:=Kz (i:=0) hf;rw[g1,zzbv]at k |-
  simp[U1,U2];exact k
def p9(g:Pg)(o:Od):Bool:=!LG g o.nw.id&&(decide (Jc g o.nw.id<0)&&!decide (o.nw.id∈g.dr))
def LH(Y:YT)(m:AM)(g:Pg)(f:Int)(mid:Nat)(o:Od)(q:Pl)(V:AV)(rt:Rt)(d:Int)(hV:mW m.boxes V q.ens)(h:lY g f)(hd:g.dr.length<=1000000000):
  an Tryz.prog az Y 142 [.agg (Qu g f mid),.agg (Qq o),.agg (Xq q V (.sl rt (q.cls.map Qg)) d)] m (fun r m'=>m'=m/\r=.bool (p9 g o)):=by
 obtain⟨mb,ml,ms,mn⟩:=m;have hc:=hV.cell;have k:=fun ex K hK=>Lx Y ⟨mb++ex,ml,ms,mn⟩ g f mid o.nw.id h K hK;simp only[Qu,Qo,Qb,zzae,zzai]at k;have k1:=DC g.ev o.nw.id h.1;have k2:=jU g.dr o.nw.id hd;refine an.read (Xe acJ (fun _ f _=>if f=221 then .bool (LG g o.nw.id)else if f=157 then .bool (decide (o.nw.id∈g.dr))else .gd false .junk) (by simp) ?_);cases hh:LG g o.nw.id with
 |true=>
  unfold LG at hh;rw[hh]at k1;simp[UB,UC,Qu,Qo,Qb,Qq,Qd,Qg,Qj,Xq,hc,p9,LG,hh];exact⟨k1,iI⟩
 |false=>
  unfold LG at hh;rw[hh]at k1;simp[UB,UC,Qu,Qo,Qb,Qq,Qd,Qg,Qj,Xq,hc,p9,LG,hh];refine⟨k1,k _ _ ?_⟩;by_cases hp:Jc g o.nw.id<0
  ·simp[hp];exact⟨k2,iI⟩
  simp[hp];exact iI
open Go Go.Abs
def yp:En:=⟨0,0,0,0,0,0,[]⟩
def Qbz(g:Pg)(f:Int)(b:List (Int×Bool))(o:Od)(q:Pl)(d:Int):Bool:=
 if Dw g f b o.en=true then false
 else if o.en∈g.dr then false
 else if d<1 then false
 else match Xh ((Ze o.en q.ens).getD yp).it q.aL with
  |none=>false
  |some x=>if x.ki≠4 then false
   else match Br g f b o.en with
    |none=>true
    |some st=>if q.ln-d<st then false else if st+d-f=0 then true else Xo q ((Ze o.en q.ens).getD yp).it 0 f (st+d-f)
def G1(g:Pg)(F:Int)(b:List (Int×Bool))(o:Od)(q:Pl)(d:Int):Nat->FuncId->List AV->AV:=fun _ f _=>if f=157 then .bool (decide (o.en∈g.dr))else if f=30 then .bool (Xo q ((Ze o.en q.ens).getD yp).it 0 F ((Br g F b o.en).getD 0+d-F))else .gd false .junk
def RZ(Y:YT)(m:AM)(q:Pl)(V:AV)(rt:Rt)(id:Int)(hc:Qv V=true)(hl:q.aL.length<=1000000000):
  an Tryz.prog az Y 29 [.agg (Jd q V (.sl rt (q.cls.map Qg))),I id] m (fun r m'=>m'=m/\r=Zh (Xh id q.aL)):=by
 obtain⟨mb,ml,ms,mn⟩:=m;have h:=xw q.aL id hl;refine an.read (Xe TH (fun _ f l=>if f=55 then Zh (Xh id q.aL)else .junk) (by simp) ?_);cases hf:Xh id q.aL with
 |none=>
  rw[hf]at h;simp[TF,TG,Jd,hc,Zh];exact⟨h,iI⟩
 |some x=>
  rw[hf]at h;simp[TF,TG,Jd,hc,Zh,Qm];exact⟨h,iI⟩
def ana(Y:YT)(m:AM)(q:Pl)(V:AV)(rt:Rt)(id:Int)(hc:Qv V=true)(hl:q.aL.length<=1000000000)(K:AV->AM->Prop)(hK:K (Zh (Xh id q.aL)) m):
  an Tryz.prog az Y 29 [.agg (Jd q V (.sl rt (q.cls.map Qg))),I id] m K:=
 an.mono (RZ Y m q V rt id hc hl) (by rintro r m' ⟨rfl,rfl⟩;exact hK)
def rtE:Option En->Rt
 |none=>.nil
 |some _=>.ro
def G2(o:Option En):Wz o=.aW [.agg [I (o.getD yp).id,I (o.getD yp).it,I (o.getD yp).fr,I (o.getD yp).ea,I (o.getD yp).la,I (o.getD yp).bo,.sl (rtE o) ((o.getD yp).al.map Qe)],.bool o.isSome]:=by
 cases o<;>rfl
def LI(Y:YT)(m:AM)(g:Pg)(f:Int)(mid:Nat)(b:List (Int×Bool))(o:Od)(q:Pl)(V:AV)(rt:Rt)(d:Int)(hV:mW m.boxes V q.ens)(aR:Dz rt)(h:lY g f)(hb:gj m.boxes mid b)(dX:g.dr.length<=1000000000)(hq:Bo q)(dg:0<=q.ln/\q.ln<=1000000)(hd:sW d):
  an Tryz.prog az Y 138 [.agg (Qu g f mid),.agg (Qq o),.agg (Xq q V (.sl rt (q.cls.map Qg)) d)] m (fun r m'=>m'=m/\r=.bool (Qbz g f b o q d)):=by
 obtain⟨mb,ml,ms,mn⟩:=m;obtain⟨q1,q2,q3,q4,q5,q6⟩:=hq;have hc:=hV.cell;have hB:∀ex,gj (mb++ex) mid b:=fun ex=>⟨by have:=hb.1;simp at this |-;omega,hb.ext ex⟩;have ke:=fun ex K hK=>asO Y ⟨mb++ex,ml,ms,mn⟩ g f mid b o.en h (hB ex) K hK;have ki:=fun ex K hK=>am8 Y ⟨mb++ex,ml,ms,mn⟩ g f mid b o.en h (hB ex) K hK;have kn:=fun ex K hK=>OK Y ⟨mb++ex,ml,ms,mn⟩ q V rt o.en (hV.ext ex) (by omega) q6 K hK;simp only[Qu,Qo,Qb,Jd,zzae,zzai]at ke ki kn;have k2:=jU g.dr o.en dX;have fH:=fun ex d=>hV.bF ex ml ms mn d;refine an.read (Xe acH (G1 g f b o q d) (by simp) ?_);cases he:Dw g f b o.en with
 |true=>
  simp[Eu,Ew,Qu,Qo,Qb,Qq,Qd,Qg,Qj,Xq,hc,Qbz,he,G1];refine ke _ _ ?_;simp[he];exact iI
 |false=>
  by_cases hm:o.en∈g.dr
  ·simp[Eu,Ew,Qu,Qo,Qb,Qq,Qd,Qg,Qj,Xq,hc,Qbz,he,hm,G1];refine ke _ _ ?_;simp[he,hm]at k2 |-
   exact⟨k2,iI⟩
  by_cases hd1:d<1
  ·simp[Eu,Ew,Qu,Qo,Qb,Qq,Qd,Qg,Qj,Xq,hc,Qbz,he,hm,hd1,G1];refine ke _ _ ?_;simp[he,hm,hd1]at k2 |-
   exact⟨k2,iI⟩
  simp[Eu,Ew,Qu,Qo,Qb,Qq,Qd,Qg,Qj,Xq,hc,Qbz,he,hm,hd1,G1];refine ke _ _ ?_;simp[he,hm,hd1]at k2 |-
  refine⟨k2,kn _ _ ?_⟩;obtain⟨e,hE⟩:∃e,(Ze o.en q.ens).getD yp=e:=⟨_,rfl⟩;have kt:=fun ex K hK=>ana Y ⟨mb++ex,ml,ms,mn⟩ q V rt e.it hc (by omega) K hK;simp only[Jd]at kt;rw[G2];generalize rtE (Ze o.en q.ens)=r7;generalize(Ze o.en q.ens).isSome=b7;rw[hE];obtain⟨X,hX⟩:∃X,Xh e.it q.aL=X:=⟨_,rfl⟩;have w0:IntKind.i64.wrap 0=0:=by decide
  simp;refine kt _ _ ?_;cases X with
  |none=>
   simp[hX,Zh];exact .bool _
  |some x=>
   by_cases fR:x.ki=4
   ·have zK:=Qbe q e.it 0 f ((Br g f b o.en).getD 0+d-f) q5 (by omega) (by omega);simp only[Qb]at zK
    have sE:∀st,Br g f b o.en=some st->0<=st/\st<=1000000:=fun st hh=>by
     unfold Br at hh;split at hh
     ·cases hh
     split at hh
     ·cases hh;exact Dx h _
     cases hh
    have Tm:=h.2.2.1;unfold ob at Tm;unfold sW at hd;simp[hX,Zh,Qm,fR];refine ki _ _ ?_;cases hi:Br g f b o.en with
    |none=>
     simp[RR];exact .bool _
    |some st=>
     have mM:=sE st hi;have w1:IntKind.i64.wrap (q.ln-d)=q.ln-d:=by rw[Qk]<;>omega
     rw[hi]at zK;by_cases tJ:q.ln-d<st
     ·simp[RR,w1,tJ];exact .bool _
     have w2:IntKind.i64.wrap (st+d)=st+d:=by rw[Qk]<;>omega
     have w3:IntKind.i64.wrap (st+d-f)=st+d-f:=by rw[Qk]<;>omega
     by_cases hz:st+d-f=0
     ·simp[RR,w1,tJ,w2,hz,w0];exact .bool _
     simp[RR,w1,tJ,w2,w3,hz,fH,aR _ _ _];exact⟨by simpa using zK,.bool _⟩
   simp[hX,Zh,Qm,fR];exact .bool _
open Go Go.Abs
def Yg(f:Int):List bD->List (Int×Bool)->List (Int×Bool)
 |[],b=>b
 |e::r,b=>Yg f r (if e.st<f then Zq e.id true b else b)
def moZ:List AV:=[I 0,I 0,I 0,I 0,.sl .nil [],I 0,I 0,I 0,I 0,.sl .nil [],.sl .nil [],.sl .nil [],.sl .nil [],.sl .nil [],.sl .nil [],I 0,.sl .nil [],I 0,I 0,.nilv false]
def Bu(k:Int)(v:Bool):∀l:List (Int×Bool),(Zq k v l).length<=l.length+1
 |[]=>by simp[Zq]
 |x::r=>by
  unfold Zq;split
  ·simp
  have:=Bu k v r;simp;omega
open Go Go.Abs
def gY(c:Cue):Bool->List Cue->List Cue
 |p,[]=>if p=true then[c]else[]
 |p,x::r=>if x.id=c.id then gY c p r else if p=true/\c.id<x.id then c::x::gY c false r else x::gY c p r
def axb(o:List Cue)(v:AV)(ls:List Nat):Prop:=(o=[]/\v=.sl .nil []/\ls=[])\/(o≠[]/\v=.sl (.own 0 5) (o.map Qj)/\ls=[o.length])
def mX(c:Cue)(l:List Cue):AV:=
 if sS c=true then
  (if 200<(gY c (!decide (c.to=0)) l).length then .aW [.sl .nil [],I 150]
  else .aW [.sl (if gY c (!decide (c.to=0)) l=[]then .nil else .ro) ((gY c (!decide (c.to=0)) l).map Qj),I 0])
 else .aW [.sl .nil [],I 150]
def asS(c:Cue)(l:List Cue)(f:Nat->AV)(m:AM):Prop:=
 ∃(i:Nat)(p:Bool)(o:List Cue)(bx:List (List AV))(ls:List Nat),f 18=I i/\f 7=.bool p/\i<=l.length/\o++gY c p (l.drop i)=gY c (!decide (c.to=0)) l/\axb o (f 6) ls/\o.length<=2*i/\
  m=⟨Qj c::bx,ls,fun _=>.gone,0⟩
def R2(l:List Cue)(c:Cue)(hl:l.length<=1000000):Pure Tryz.prog az 69 [.sl .ro (l.map Qj),.agg (Qj c)] (mX c l):=by
 have cv:=sU c;refine Qn ali (fun _ f _=>if f=84 then .bool (sS c)else .junk) (by simp) ?_;cases hc:sS c with
 |false=>
  rw[hc]at cv;simp[abU,Ek,Qj,mX,hc];exact cv
 |true=>
  rw[hc]at cv;simp[abU,Qj];refine⟨cv,?_⟩;refine Qi eW (asS c l) (fun f _=>l.length-(numOf (f 18)).toNat) ?_ ?_
  ·refine⟨0,!decide (c.to=0),[],[],[],by simp,?_,by omega,by simp,.inl ⟨rfl,by simp,rfl⟩,by simp,by simp[Qj]⟩;simp;try(rw[zzbt];simp)
  rintro f m ⟨i,p,o,bx,ls,h18,h7,hi,hR,hO,Oc,rfl⟩;rcases zzaa i l.length with ai|bu
  ·obtain⟨x,hx⟩:=aS ai;have ah:Qh (l.map Qj) i=Qj x:=Qs (by simp[hx]);have aa:(i:Int)<(l.length:Int):=by omega
   have hw:=bJ i (by omega);have hd:l.drop i=x::l.drop (i+1):=by rw[zzaf ai,(zza.1 hx).2]
   rw[hd,gY]at hR;by_cases aN:x.id=c.id
   ·rw[if_pos aN]at hR;simp[h18,h7,eW,aa,ah,hw,Qj,aN];refine⟨aO,⟨i+1,p,o,bx++[Qj x],ls,by simp,by simp,by omega,hR,by simpa using hO,by omega,by simp[Qj,aN]⟩,by omega⟩
   rw[if_neg aN]at hR
   have Tn:∀(z:List Cue)(row:List AV),((∃a,a∈z/\Qj a=row)\/row=Qj c\/row=Qj x)->row.length=5:=by
    rintro z row (⟨a,_,rfl⟩|rfl|rfl)<;>rfl
   by_cases hp:p=true/\c.id<x.id
   ·rw[if_pos hp]at hR;obtain⟨rfl,hp⟩:=hp;obtain⟨rfl,h6,rfl⟩|⟨ho,h6,rfl⟩:=hO
    ·simp[h18,h7,h6,eW,aa,ah,hw,Qj,aN,hp];refine⟨aO,⟨i+1,false,[c,x],bx++[Qj x],[2],by simp,by simp,by omega,by simpa using hR,.inr ⟨by simp,by simp[Qj],rfl⟩,by simp;omega,by simp[Qj]⟩,by omega⟩
    simp[h18,h7,h6,eW,aa,ah,hw,Qj,aN,hp];refine⟨⟨by rintro row (⟨a,_,rfl⟩|rfl)<;>rfl,by omega⟩,⟨by rintro row (⟨a,_,rfl⟩|rfl|rfl)<;>rfl,by omega⟩,ag ?_,⟨i+1,false,o++[c,x],bx++[Qj x],[o.length+2],by simp,by simp,by omega,by simpa using hR,.inr ⟨by simp,by simp[Qj],by simp⟩,by simp;omega,by simp[Qj]⟩,by omega⟩;repeat(first|exact Qc _ _|refine Qa _ rfl ?_)
   rw[if_neg hp]at hR;obtain⟨rfl,h6,rfl⟩|⟨ho,h6,rfl⟩:=hO
   ·cases p with
    |false=>
     simp[h18,h7,h6,eW,aa,ah,hw,Qj,aN];refine⟨aO,⟨i+1,false,[x],bx++[Qj x],[1],by simp,by simp,by omega,by simpa using hR,.inr ⟨by simp,by simp[Qj],rfl⟩,by simp;omega,by simp[Qj]⟩,by omega⟩
    |true=>
     have WK:¬c.id<x.id:=fun h=>hp ⟨rfl,h⟩;simp[h18,h7,h6,eW,aa,ah,hw,Qj,aN,WK];refine⟨aO,⟨i+1,true,[x],bx++[Qj x],[1],by simp,by simp,by omega,by simpa using hR,.inr ⟨by simp,by simp[Qj],rfl⟩,by simp;omega,by simp[Qj]⟩,by omega⟩
   cases p with
   |false=>
    simp[h18,h7,h6,eW,aa,ah,hw,Qj,aN];refine⟨⟨by rintro row (⟨a,_,rfl⟩|rfl)<;>rfl,by omega⟩,ag ?_,⟨i+1,false,o++[x],bx++[Qj x],[o.length+1],by simp,by simp,by omega,by simpa using hR,.inr ⟨by simp,by simp[Qj],by simp⟩,by simp;omega,by simp[Qj]⟩,by omega⟩;repeat(first|exact Qc _ _|refine Qa _ rfl ?_)
   |true=>
    have WK:¬c.id<x.id:=fun h=>hp ⟨rfl,h⟩;simp[h18,h7,h6,eW,aa,ah,hw,Qj,aN,WK];refine⟨⟨by rintro row (⟨a,_,rfl⟩|rfl)<;>rfl,by omega⟩,ag ?_,⟨i+1,true,o++[x],bx++[Qj x],[o.length+1],by simp,by simp,by omega,by simpa using hR,.inr ⟨by simp,by simp[Qj],by simp⟩,by simp;omega,by simp[Qj]⟩,by omega⟩;repeat(first|exact Qc _ _|refine Qa _ rfl ?_)
  obtain rfl:i=l.length:=by omega
  rw[zzbo,gY]at hR;obtain⟨rfl,h6,rfl⟩|⟨ho,h6,rfl⟩:=hO
  ·cases p with
   |false=>
    simp at hR;simp[h18,h7,h6,eW,Ek,Qj,mX,hc,hR]
   |true=>
    simp at hR;simp[h18,h7,h6,eW,Ek,Qj,mX,hc,<- hR]
  cases p with
  |false=>
   simp at hR;by_cases hb:200<o.length
   ·have cH:(200:Int)<(o.length:Int):=by omega
    simp[h18,h7,h6,eW,Ek,Qj,mX,hc,<- hR,hb,cH]
   have cH:¬(200:Int)<(o.length:Int):=by omega
   simp[h18,h7,h6,eW,Ek,Qj,mX,hc,<- hR,hb,cH,ho]
  |true=>
   simp at hR;have aH:(o++[c]).length=o.length+1:=by simp
   by_cases hb:200<o.length+1
   ·have cH:(200:Int)<(o.length:Int)+1:=by omega
    simp[h18,h7,h6,eW,Ek,Qj,mX,hc,<- hR,hb,cH];exact⟨by rintro row (⟨a,_,rfl⟩|rfl)<;>rfl,by omega⟩
   have cH:¬(200:Int)<(o.length:Int)+1:=by omega
   simp[h18,h7,h6,eW,Ek,Qj,mX,hc,<- hR,hb,cH,ho];exact⟨by rintro row (⟨a,_,rfl⟩|rfl)<;>rfl,by omega⟩
open Go Go.Abs
def R3(p:Pl):Pl:={p with sh:=p.sh.take 10,aL:=p.aL.take 20,bks:=p.bks.take 8,cls:=p.cls.take 20,ens:=p.ens.take 10,ln:=if 600<p.ln then 600 else p.ln}
def lE{α:Type}(l:List α)(n:Nat):l.take (if(n:Int)<(l.length:Int)then(n:Int)else(l.length:Int)).toNat=l.take n:=by
 split
 ·simp
 rw[zzap (by simp),zzap (by omega)]
def yq{a:Nat}(n:Nat):(if(n:Int)<(a:Int)then(n:Int)else(a:Int))<=a:=by split<;>omega
def yt{a:Nat}(n:Nat):0<=(if(n:Int)<(a:Int)then(n:Int)else(a:Int)):=by split<;>omega
def LJ(p:Pl):Pure Tryz.prog az 28 [.agg (Qb p)] (.agg (Qb (R3 p))):=by
 have t1:=lE (p.sh.map Qe) 10;have t2:=lE (p.aL.map Qm) 20;have t3:=lE (p.bks.map Xg) 8;have t4:=lE (p.cls.map Qg) 20;have t5:=lE (p.ens.map Qd) 10;simp only[zzbg]at t1 t2 t3 t4 t5;have a1:=yq (a:=p.sh.length) 10;have a2:=yq (a:=p.aL.length) 20;have a3:=yq (a:=p.bks.length) 8;have a4:=yq (a:=p.cls.length) 20;have a5:=yq (a:=p.ens.length) 10;have b1:=yt (a:=p.sh.length) 10;have b2:=yt (a:=p.aL.length) 20;have b3:=yt (a:=p.bks.length) 8;have b4:=yt (a:=p.cls.length) 20;have b5:=yt (a:=p.ens.length) 10;simp at a1 a2 a3 a4 a5 b1 b2 b3 b4 b5 t1 t2 t3 t4 t5;refine Qn akK (fun _ _ _=>.junk) (by simp) ?_;simp[aoQ,aoR,Qb,R3,t1,t2,t3,t4,t5,a1,a2,a3,a4,a5,b1,b2,b3,b4,b5];exact⟨by rintro row a b _ rfl;rfl,fun _ _=>rfl,fun _ _=>rfl,fun _ _=>rfl,fun _ _=>rfl⟩
open Go Go.Abs
open Go Go.Abs
def G3(g:Pg)(f:Int)(q:Pl)(d:Int)(er:List AV):List AV:=[.ep (Qb q++[I d]) 0,.ep (Qo g++[I f,.junk]) 0,.ep er 0]
def Qdg(g:Pg)(f:Int)(q:Pl)(d:Int)(a0 a1 a2:AV)(fr:Int)(r:List AV)(item region:Int)(h1:q.cls.length<=1000000)(h2:q.sh.length<=1000000000)(h3:q.aL.length<=1000000000):
  Pure Tryz.prog az 225 ([I item,I region]++G3 g f q d (a0::a1::a2::I fr::r)) (.bool (Xo q item region f fr)):=by
 have k:=Qbe q item region f fr h1 h2 h3;simp only[Qb]at k;refine Qn adA (fun _ _ _=>.bool (Xo q item region f fr)) (by simp[G3]) ?_;simp[ail,aim,G3,Qb,Qo];exact k
def iF(g:Pg)(f:Int)(o:Od)(q:Pl)(d:Int)(e:bD):Option Int:=
 if o.ki=1/\o.en=e.id then some (rI g e.id+d-f)
 else if o.ki=2/\o.en=e.id then none
 else if o.ki=4/\Xo q e.it 0 f (uO f e).fr=false then none
 else some (uO f e).fr
def sX(q:Pl)(f:Int):Nat->FuncId->List AV->AV:=fun _ k l=>if k=225 then(match l with
 |[.int _ it,.int _ re,_,_,.ep (_::_::_::.int _ F::_) 0]=>.bool (Xo q it re f F)
 |_=>.junk)else .gd false .junk
def jV(q:Pl)(f:Int)(id F:Int)(l:List Sp):List Sp:=l.filter fun a=>Xo q a.2 a.1 f F
def anb(ml:List Nat)(o:List Sp)(v:AV)(ls:List Nat):Prop:=(o=[]/\v=.sl .nil []/\ls=ml)\/(o≠[]/\v=.sl (.own ml.length 2) (o.map Qe)/\ls=ml++[o.length])
def asT(mb:List (List AV))(ml:List Nat)(ms:Nat->LS)(mn:Nat)(r0 r1 r2 pre:List AV)(al:List Sp)(A:List Sp->List Sp)(s:Nat->AV)(m:AM):Prop:=
 ∃(j:Nat)(bx:List (List AV))(ls:List Nat)(v:AV),s 106=I j/\j<=al.length/\anb ml (A (al.take j)) v ls/\m=⟨mb++(r0::r1::r2::oc::(pre++[v])::bx),ls,ms,mn⟩
def qb(q:Pl)(f:Int)(it F:Int)(n:Nat):Int:=Uk (fun r=>Xo q it r f F) n
def afU(b:Nat->Bool)(i:Nat)(h:i<8):IntKind.i64.wrap ((((Uk b i%2 ^ IntKind.i64.bits).toNat|||(IntKind.i64.wrap (2 ^ min i IntKind.i64.bits)%2 ^ IntKind.i64.bits).toNat:Nat)):Int)=Uk b i+2 ^ i:=by
 have gE:=C9 b i;obtain⟨x,hx⟩:∃x:Nat,Uk b i=(x:Int):=⟨(Uk b i).toNat,by omega⟩
 have hx2:x<2 ^ i:=by
  have h2:=gE.2;rw[hx]at h2
  exact_mod_cast h2
 rw[hx];exact YR i h x hx2
def LK:SC:=(⟨_,by cbv⟩:tM [1,1,1,1,1,1] Ae).1
def aaa:SC:=(⟨_,fun _=>by cbv⟩:uw [1,1,1,1,1,1] Ae).1 LK
theorem G4:Ae=aaa:=rfl
def yu(Y:YT)(mb:List (List AV))(ml:List Nat)(ms:Nat->LS)(mn:Nat)(g:Pg)(f:Int)(mid:Nat)(R1:List AV)(q:Pl)(V:AV)(rt:Rt)(d:Int)(e:bD)(F:Int)(E0:List (Nat×AV))(x5 x6:AV)(hV:mW mb V q.ens)(aR:Dz rt)(hq:Bo q)(Ld:0<=q.rg/\q.rg<=8)(K:AV->AM->Prop)
  (h3:Abs.look E0 3=.ptr mb.length 0)(h5:Abs.look E0 5=.ptr (mb.length+2) 0)(h6:Abs.look E0 6=.ptr (mb.length+3) 0)(h8:Abs.look E0 8=.ptr (mb.length+4) 0)(kY:Abs.look E0 11=.fn 225 [] [.ptr (mb.length+2) 0,.ptr mb.length 0,.ptr (mb.length+4) 0])
  (h1:∀ex ls v,anb ml (jV q f e.id F ((Ze e.id q.ens).getD yp).al) v ls->K (.aW [.agg [I e.id,I e.it,I f,I F,I (e.i+(f-e.st)),I (qb q f e.it F q.rg.toNat),v],.bool true]) ⟨mb++ex,ls,ms,mn⟩):
  vc Tryz.prog az (sX q f) Y LK ⟨Zf 124 E0,⟨mb++[Qu g f mid,R1,Xq q V (.sl rt (q.cls.map Qg)) d,oc,[I e.id,I e.it,I f,I F,I (e.i+(f-e.st)),x5,x6]],ml,ms,mn⟩⟩ (wJ Tryz.prog az (sX q f) Ex K):=by
 obtain⟨q1,q2,q3,q4,q5,q6⟩:=hq;have hc:=hV.cell;have fH:=fun ex ml d=>hV.bF ex ml ms mn d;simp[LK,h5,h8,Qu,Qo,Qb,Xq,oc];refine Qi JE (fun s m=>∃i:Nat,s 80=I i/\(i:Int)<=q.rg/\m=⟨mb++[Qu g f mid,R1,Xq q V (.sl rt (q.cls.map Qg)) d,oc,[I e.id,I e.it,I f,I F,I (e.i+(f-e.st)),I (qb q f e.it F i),.sl .nil []]],ml,ms,mn⟩) (fun s _=>(q.rg-numOf (s 80)).toNat) ?_ ?_
 ·exact⟨0,by simp,by simp;omega,by simp[Qu,Qo,Qb,Xq,oc,qb,Uk]⟩
 rintro s m ⟨i,h80,hi,rfl⟩;by_cases ai:(i:Int)<q.rg
 ·have hw:=bJ i (by omega);have kc:=Qdg g f q d (I e.id) (I e.it) (I f) F [I (e.i+(f-e.st)),I (qb q f e.it F i),.sl .nil []] e.it i q5 (by omega) (by omega);simp only[G3,Qb,Qo,zzae,zzai]at kc;simp[h8,kY,h80,JE,ai,hw,Qu,Qo,Qb,Xq,oc,sX,fH,aR _ _ _];have hor:=afU (fun r=>Xo q e.it r f F) i (by omega);refine⟨kc,?_⟩;have dJ:qb q f e.it F (i+1)=qb q f e.it F i+if Xo q e.it (i:Int) f F=true then 2 ^ i else 0:=rfl;split
  ·rename_i ha;rw[if_pos ha]at dJ;refine⟨aO,⟨i+1,by simp,by omega,by rw[dJ];exact hor⟩,by omega⟩
  rename_i ha;rw[if_neg ha]at dJ;refine⟨aO,⟨i+1,by simp,by omega,by rw[dJ];simp⟩,by omega⟩
 have kn:=fun ex K hK=>OK Y ⟨mb++ex,ml,ms,mn⟩ q V rt e.id (hV.ext ex) (by omega) q6 K hK;simp only[Jd]at kn;simp[h5,h8,h80,JE,ai,Qu,Qo,Qb,Xq,oc,sX];refine kn _ _ ?_;rw[G2];generalize rtE (Ze e.id q.ens)=r7;generalize(Ze e.id q.ens).isSome=b7;obtain⟨E,hE⟩:∃E,(Ze e.id q.ens).getD yp=E:=⟨_,rfl⟩;rw[hE]
 have hEl:E.al.length<=8796093022208:=by
  rw[<- hE];cases hf:Ze e.id q.ens with
  |none=>simp[yp]
  |some x=>exact q6 x (jJ hf).1
 have hiq:i=q.rg.toNat:=by omega
 rw[hE]at h1;simp[Ex];refine Qi BT (asT mb ml ms mn (Qu g f mid) R1 (Xq q V (.sl rt (q.cls.map Qg)) d) [I e.id,I e.it,I f,I F,I (e.i+(f-e.st)),I (qb q f e.it F i)] E.al (jV q f e.id F)) (fun s _=>E.al.length-(numOf (s 106)).toNat) ?_ ?_
 ·exact⟨0,_,ml,.sl .nil [],by simp,by omega,.inl ⟨by simp[jV],rfl,rfl⟩,by simp[Qu,Qo,Qb,Xq,oc];rfl⟩
 rintro s2 m ⟨j,bx,ls,v,h106,hj,hO,rfl⟩;rcases zzaa j E.al.length with QV|hgj
 ·obtain⟨a,ha⟩:=aS QV;have ah:=Zc ha;have asU:(j:Int)<(E.al.length:Int):=by omega
  have hw:=bJ j (by omega)
  have bB:jV q f e.id F (E.al.take (j+1))=jV q f e.id F (E.al.take j)++if Xo q a.2 a.1 f F=true then[a]else[]:=by
   unfold jV;rw[zzas,ha,zzcu];congr 1;by_cases hh:Xo q a.2 a.1 f F=true<;>simp[hh]
  have Oc:(jV q f e.id F (E.al.take j)).length<=j:=by
   refine zzbn (zzbr _ _) ?_;simp;omega
  generalize jV q f e.id F (E.al.take j)=oL at hO bB Oc;obtain⟨rfl,rfl,rfl⟩|⟨ho,rfl,rfl⟩:=hO
  ·have kc:=Qdg g f q d (I e.id) (I e.it) (I f) F [I (e.i+(f-e.st)),I (qb q f e.it F i),.sl .nil []] a.2 a.1 q5 (by omega) (by omega);simp only[G3,Qb,Qo,zzae,zzai]at kc;simp[h8,kY,h106,BT,asU,ah,hw,Qu,Qo,Qb,Xq,oc,sX,fH,aR _ _ _];refine⟨kc,?_⟩;split
   ·rename_i hh;rw[if_pos hh]at bB;refine⟨aO,⟨j+1,bx++[[I a.1,I a.2]],ls++[1],.sl (.own ls.length 2) [Qe a],by simp,by omega,.inr ⟨by rw[bB];simp,by rw[bB];rfl,by rw[bB];rfl⟩,by simp[oc,Qe]⟩,by omega⟩
   rename_i hh;rw[if_neg hh]at bB;refine⟨aO,⟨j+1,bx++[[I a.1,I a.2]],ls,.sl .nil [],by simp,by omega,.inl ⟨by rw[bB];rfl,rfl,rfl⟩,by simp[oc]⟩,by omega⟩
  have kc:=Qdg g f q d (I e.id) (I e.it) (I f) F [I (e.i+(f-e.st)),I (qb q f e.it F i),.sl .ro (oL.map Qe)] a.2 a.1 q5 (by omega) (by omega);simp only[G3,Qb,Qo,zzae,zzai]at kc;simp[h8,kY,h106,BT,asU,ah,hw,Qu,Qo,Qb,Xq,oc,sX,fH,aR _ _ _];refine⟨kc,?_⟩
  have Tn:∀row:List AV,((∃x y,(x,y)∈oL/\Qe (x,y)=row)\/row=Qe a)->row.length=2:=by
   rintro row (⟨x,y,_,rfl⟩|rfl)<;>rfl
  split
  ·rename_i hh;rw[if_pos hh]at bB;refine⟨⟨Tn,by omega⟩,aO,⟨j+1,bx++[[I a.1,I a.2]],ml++[oL.length+1],.sl (.own ml.length 2) ((oL++[a]).map Qe),by simp,by omega,.inr ⟨by rw[bB];simp,by rw[bB],by rw[bB];simp⟩,by simp[oc,Qe]⟩,by omega⟩
  rename_i hh;rw[if_neg hh,zzau]at bB;refine⟨aO,⟨j+1,bx++[[I a.1,I a.2]],ml++[oL.length],.sl (.own ml.length 2) (oL.map Qe),by simp,by omega,.inr ⟨by rw[bB];exact ho,by rw[bB],by rw[bB]⟩,by simp[oc]⟩,by omega⟩
 obtain rfl:j=E.al.length:=by omega
 rw[zzbs]at hO;have bL:Qv v=true:=by rcases hO with⟨_,rfl,_⟩|⟨_,rfl,_⟩<;>rfl
 have h1:=fun ex=>h1 ex ls v hO;rw[<- hiq]at h1;simp[h6,h8,h106,BT,Qu,Qo,Qb,Xq,oc,bL];exact h1 _
def afV(Y:YT)(m:AM)(g:Pg)(f:Int)(mid:Nat)(b:List (Int×Bool))(o:Od)(q:Pl)(V:AV)(rt:Rt)(d:Int)(hV:mW m.boxes V q.ens)(aR:Dz rt)(h:lY g f)(hb:gj m.boxes mid b)(hq:Bo q)(hd:0<=d/\d<=1000000000)(Ld:0<=q.rg/\q.rg<=8)(K:AV->AM->Prop)
  (h1:∀e F,Jj g f b=some e->iF g f o q d e=some F->F≠0->∀ex ls v,anb m.lens (jV q f e.id F ((Ze e.id q.ens).getD yp).al) v ls->K (.aW [.agg [I e.id,I e.it,I f,I F,I (e.i+(f-e.st)),I (qb q f e.it F q.rg.toNat),v],.bool true]) {m with boxes:=m.boxes++ex,lens:=ls})
  (h0:(Jj g f b).bind (iF g f o q d)=none\/(Jj g f b).bind (iF g f o q d)=some 0->∀ex,K (.aW [.agg oc,.bool false]) {m with boxes:=m.boxes++ex}):
  an Tryz.prog az Y 156 [.agg (Qu g f mid),.agg (Qq o),.agg (Xq q V (.sl rt (q.cls.map Qg)) d)] m K:=by
 obtain⟨mb,ml,ms,mn⟩:=m;obtain⟨q1,q2,q3,q4,q5,q6⟩:=hq;have hc:=hV.cell;have hB:∀ex,gj (mb++ex) mid b:=fun ex=>⟨by have:=hb.1;simp at this |-;omega,hb.ext ex⟩;have kp:=fun ex K hK=>aj5 Y ⟨mb++ex,ml,ms,mn⟩ g f mid b h (hB ex) K hK;simp only[Qu,Qo,Qb,zzae,zzai]at kp;have fH:=fun ex ml d=>hV.bF ex ml ms mn d;cases hp:Jj g f b with
 |none=>
  have h0:=h0 (by rw[hp];exact .inl rfl);refine Xe M9 (fun _ f _=>.gd false .junk) (by simp) ?_;simp[G4,aaa,Ex,Qu,Qo,Qb,Qq,Qd,Qg,Qj,Xq,hc];refine kp _ _ ?_;simp[Un,hp];simp[oc]at h0;exact h0 _
 |some e=>
  refine Xe M9 (sX q f) (by simp) ?_;simp[G4,aaa,Ex,Qu,Qo,Qb,Qq,Qd,Qg,Qj,Xq,hc,sX];refine kp _ _ ?_;have IF:=Dx h e.id;have Tm:=h.2.2.1;unfold ob at Tm;by_cases cV:o.ki=1
  ·by_cases aN:o.en=e.id
   ·have w1:IntKind.i64.wrap (rI g e.id+d)=rI g e.id+d:=by rw[Qk]<;>omega
    have w2:IntKind.i64.wrap (rI g e.id+d-f)=rI g e.id+d-f:=by rw[Qk]<;>omega
    obtain⟨F,hF⟩:∃F,rI g e.id+d-f=F:=⟨_,rfl⟩;have wF:IntKind.i64.wrap F=F:=by rw[<- hF];exact w2
    have w0:IntKind.i64.wrap 0=0:=by decide
    have ue:(Jj g f b).bind (iF g f o q d)=some F:=by rw[hp];simp[iF,cV,aN,hF]
    by_cases qu:F=0
    ·have h0:=h0 (by rw[ue,qu];exact .inr rfl);simp[Un,hp,Qf,uO,cV,aN,w1,w0,hF,qu];simp[oc]at h0;exact h0 _
    simp[Un,hp,Qf,uO,cV,aN,w1,wF,hF,qu];refine yu Y mb ml ms mn g f mid _ q V rt d e F _ _ _ hV aR ⟨q1,q2,q3,q4,q5,q6⟩ Ld K ?_ ?_ ?_ ?_ ?_ (h1 e F hp (by simpa[hp]using ue) qu)<;>simp
   have w0:True:=trivial;obtain⟨F,hF⟩:∃F,e.fr-(f-e.st)=F:=⟨_,rfl⟩;have ue:(Jj g f b).bind (iF g f o q d)=some F:=by rw[hp];simp[iF,uO,hF,cV,aN]
   by_cases qu:F=0
   ·have h0:=h0 (by rw[ue,qu];exact .inr rfl);simp[Un,hp,Qf,uO,cV,aN,hF,qu];simp[oc]at h0;exact h0 _
   simp[Un,hp,Qf,uO,cV,aN,hF,qu];refine yu Y mb ml ms mn g f mid _ q V rt d e F _ _ _ hV aR ⟨q1,q2,q3,q4,q5,q6⟩ Ld K ?_ ?_ ?_ ?_ ?_ (h1 e F hp (by simpa[hp]using ue) qu)<;>simp
  by_cases dw:o.ki=2
  ·by_cases aN:o.en=e.id
   ·have w0:True:=trivial;have h0:=h0 (by rw[hp];simp[iF,dw,aN]);simp[Un,hp,Qf,uO,dw,aN];simp[oc]at h0;exact h0 _
   have w0:True:=trivial;obtain⟨F,hF⟩:∃F,e.fr-(f-e.st)=F:=⟨_,rfl⟩;have ue:(Jj g f b).bind (iF g f o q d)=some F:=by rw[hp];simp[iF,uO,hF,dw,aN]
   by_cases qu:F=0
   ·have h0:=h0 (by rw[ue,qu];exact .inr rfl);simp[Un,hp,Qf,uO,dw,aN,hF,qu];simp[oc]at h0;exact h0 _
   simp[Un,hp,Qf,uO,dw,aN,hF,qu];refine yu Y mb ml ms mn g f mid _ q V rt d e F _ _ _ hV aR ⟨q1,q2,q3,q4,q5,q6⟩ Ld K ?_ ?_ ?_ ?_ ?_ (h1 e F hp (by simpa[hp]using ue) qu)<;>simp
  by_cases Og:o.ki=4
  ·cases ha0:Xo q e.it 0 f (e.fr-(f-e.st))with
   |false=>
    have h0:=h0 (by rw[hp];simp[iF,uO,Og,ha0]);have kc0:=Qdg g f q d (I e.id) (I e.it) (I f) (e.fr-(f-e.st)) [I (e.i+(f-e.st)),I e.re,.sl .ro (e.al.map Qe)] e.it 0 q5 (by omega) (by omega);simp only[G3,Qb,Qo,zzae,zzai]at kc0;rw[ha0]at kc0;simp[Un,hp,Qf,uO,Og,fH,aR _ _ _,ha0];simp[oc]at h0;exact⟨kc0,h0 _⟩
   |true=>
    obtain⟨F,hF⟩:∃F,e.fr-(f-e.st)=F:=⟨_,rfl⟩;rw[hF]at ha0;have ue:(Jj g f b).bind (iF g f o q d)=some F:=by rw[hp];simp[iF,uO,hF,Og,ha0]
    have kc0:=Qdg g f q d (I e.id) (I e.it) (I f) F [I (e.i+(f-e.st)),I e.re,.sl .ro (e.al.map Qe)] e.it 0 q5 (by omega) (by omega);simp only[G3,Qb,Qo,zzae,zzai]at kc0;rw[ha0]at kc0;by_cases qu:F=0
    ·have h0:=h0 (by rw[ue,qu];exact .inr rfl);rw[qu]at ha0 kc0;simp[Un,hp,Qf,uO,Og,fH,aR _ _ _,hF,ha0,qu];simp[oc]at h0;exact⟨kc0,h0 _⟩
    simp[Un,hp,Qf,uO,Og,fH,aR _ _ _,hF,ha0,qu];refine⟨kc0,?_⟩;refine yu Y mb ml ms mn g f mid _ q V rt d e F _ _ _ hV aR ⟨q1,q2,q3,q4,q5,q6⟩ Ld K ?_ ?_ ?_ ?_ ?_ (h1 e F hp (by simpa[hp]using ue) qu)<;>simp
  have w0:True:=trivial;obtain⟨F,hF⟩:∃F,e.fr-(f-e.st)=F:=⟨_,rfl⟩;have ue:(Jj g f b).bind (iF g f o q d)=some F:=by rw[hp];simp[iF,uO,hF,cV,dw,Og]
  by_cases qu:F=0
  ·have h0:=h0 (by rw[ue,qu];exact .inr rfl);simp[Un,hp,Qf,uO,cV,dw,Og,hF,qu];simp[oc]at h0;exact h0 _
  simp[Un,hp,Qf,uO,cV,dw,Og,hF,qu];refine yu Y mb ml ms mn g f mid _ q V rt d e F _ _ _ hV aR ⟨q1,q2,q3,q4,q5,q6⟩ Ld K ?_ ?_ ?_ ?_ ?_ (h1 e F hp (by simpa[hp]using ue) qu)<;>simp
end
end Go.Proofs.YtnopaopphmjnmaaGreatDoor
