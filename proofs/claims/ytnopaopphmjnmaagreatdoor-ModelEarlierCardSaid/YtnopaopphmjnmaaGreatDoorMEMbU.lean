import Derived.Test.YtnopaopphmjnmaaGreatDoorMEMbN
set_option linter.all false
set_option maxRecDepth 100000
set_option maxHeartbeats 64000000
namespace Go.Proofs.YtnopaopphmjnmaaGreatDoor
noncomputable section
open Go Go.Abs
def zX(x:Int):List Int->Nat->Int
 |[],_=> -1
 |a::r,i=>if x=a then i else zX x r (i+1)
def He(x:Int):∀(L:List Int)(i:Nat),(0<=zX x L i)=(x∈L)
 |[],i=>by simp[zX]
 |a::r,i=>by
  unfold zX;by_cases h:x=a
  ·rw[if_pos h];simp[h]
  rw[if_neg h,He x r (i+1)];simp[h]
def Z3(L:List Int)(x:Int)(hl:L.length<=1000000000):Pure Tryz.prog az 226 [.sl .ro (L.map Qy),I x] (I (zX x L 0)):=by
 refine Qn adD (fun _ _ _=>.junk) (by simp) ?_;simp[ail];refine Qj Ch (fun f m=>∃i:Nat,f 8=I i/\i<=L.length/\zX x (L.drop i) i=zX x L 0/\m=⟨[],[],fun _=>.gone,0⟩) (fun f _=>L.length-(numOf (f 8)).toNat) ?_ ?_
 ·exact⟨0,by simp,by omega,by simp,rfl⟩
 rintro f m ⟨i,f8,hi,hr,rfl⟩;rcases zzaa i L.length with ai|bu
 ·obtain⟨a,ha⟩:=aR ai;have ah:Qh (L.map Qy) i=[I a]:=Qs (by simp[ha,Qy]);have aa:(i:Int)<(L.length:Int):=by omega
  have hw:=bK i (by omega);have hd:L.drop i=a::L.drop (i+1):=by rw[zzaf ai,(zza.1 ha).2]
  rw[hd,zX]at hr;by_cases hP:x=a
  ·rw[if_pos hP]at hr;simp[f8,Ch,U1,aa,ah,hP];rw[<- hP];exact hr
  rw[if_neg hP]at hr;simp[f8,Ch,aa,ah,hP,hw];refine⟨aO,⟨i+1,by simp,by omega,hr⟩,by omega⟩
 obtain rfl:i=L.length:=by omega
 rw[zzbo,zX]at hr;simp[f8,Ch,U1];exact hr
def j7(L:List Int)(x:Int)(hl:L.length<=1000000000):Pure Tryz.prog az 157 [.sl .ro (L.map Qy),I x] (.bool (decide (x∈L))):=by
 have k:=Z3 L x hl;refine Qn acQ (fun _ _ _=>I (zX x L 0)) (by simp) ?_;simp[ahN,ahO];refine⟨k,?_⟩;simp[<- He x L 0]
def DB(e:bE)(id:Int):Pure Tryz.prog az 222 [.agg (Qf e),.ep [I id] 0] (.bool (decide (e.id=id))):=by
 refine Qn adB (fun _ _ _=>.junk) (by simp) ?_;simp[aih,aii,Qf];rw[zzbt];simp
def LW(g:Pg)(id:Int):Bool:=(g.ev.find? (fun e=>decide (e.id=id))).isSome
def DC(L:List bE)(id:Int)(hl:L.length<=1000000000):Pure Tryz.prog az 221 [.sl .ro (L.map Qf),.fn 222 [] [.ep [I id] 0]] (.bool (L.find? (fun e=>decide (e.id=id))).isSome):=by
 have k:=yl L (fun e=>decide (e.id=id)) 222 [] [.ep [I id] 0] hl (fun _=>rfl) (fun _=>by simp) (fun e _=>DB e id) (fun _ _ xs=>match xs with|.agg (.int _ n::_)::_=>.bool (decide (n=id))|_=>.junk) (fun _ e _=>rfl);refine Qn adA (fun _ _ _=>I (Ux (fun e=>decide (e.id=id)) L 0)) (by simp) ?_;cases hf:L.find? (fun e=>decide (e.id=id))with
 |none=>
  rw[Qdm hf]at k |-
  simp[UZ,U0];exact k
 |some e=>
  obtain⟨n,g1,_,_⟩:=Wi (i:=0) hf;rw[g1,zzbu]at k |-
  simp[UZ,U0];exact k
def qb(g:Pg)(o:Od):Bool:=!LW g o.nw.id&&(decide (Ji g o.nw.id<0)&&!decide (o.nw.id∈g.dr))
def LX(Y:YT)(m:AM)(g:Pg)(f:Int)(mid:Nat)(o:Od)(q:Pl)(V:AV)(rt:Rt)(d:Int)(hV:mY m.boxes V q.ens)(h:mq g f)(hd:g.dr.length<=1000000000):
  an Tryz.prog az Y 142 [.agg (Qu g f mid),.agg (Qq o),.agg (Xp q V (.sl rt (q.cls.map Qg)) d)] m (fun r m'=>m'=m/\r=.bool (qb g o)):=by
 obtain⟨mb,ml,ms,mn⟩:=m;have hc:=hV.cell;have k:=fun ex K hK=>LO Y ⟨mb++ex,ml,ms,mn⟩ g f mid o.nw.id h K hK;simp only[Qu,Qo,Qc,zzae,zzaj]at k;have k1:=DC g.ev o.nw.id h.1;have k2:=j7 g.dr o.nw.id hd;refine an.read (Xe acL (fun _ f _=>if f=221 then .bool (LW g o.nw.id)else if f=157 then .bool (decide (o.nw.id∈g.dr))else .gd false .junk) (by simp) ?_);cases hh:LW g o.nw.id with
 |true=>
  unfold LW at hh;rw[hh]at k1;simp[Up,UA,Qu,Qo,Qc,Qq,Qd,Qg,Qi,Xp,hc,qb,LW,hh];exact⟨k1,lJ⟩
 |false=>
  unfold LW at hh;rw[hh]at k1;simp[Up,UA,Qu,Qo,Qc,Qq,Qd,Qg,Qi,Xp,hc,qb,LW,hh];refine⟨k1,k _ _ ?_⟩;by_cases hp:Ji g o.nw.id<0
  ·simp[hp];exact⟨k2,lJ⟩
  simp[hp];exact lJ
open Go Go.Abs
def yu:En:=⟨0,0,0,0,0,0,[]⟩
def Qcg(g:Pg)(f:Int)(b:List (Int×Bool))(o:Od)(q:Pl)(d:Int):Bool:=
 if Dw g f b o.en=true then false
 else if o.en∈g.dr then false
 else if d<1 then false
 else match Xj ((Zf o.en q.ens).getD yu).it q.aM with
  |none=>false
  |some x=>if x.ki≠4 then false
   else match Bq g f b o.en with
    |none=>true
    |some st=>if q.ln-d<st then false else if st+d-f=0 then true else Xz q ((Zf o.en q.ens).getD yu).it 0 f (st+d-f)
def Hf(g:Pg)(F:Int)(b:List (Int×Bool))(o:Od)(q:Pl)(d:Int):Nat->FuncId->List AV->AV:=fun _ f _=>if f=157 then .bool (decide (o.en∈g.dr))else if f=30 then .bool (Xz q ((Zf o.en q.ens).getD yu).it 0 F ((Bq g F b o.en).getD 0+d-F))else .gd false .junk
def R4(Y:YT)(m:AM)(q:Pl)(V:AV)(rt:Rt)(id:Int)(hc:Qv V=true)(hl:q.aM.length<=1000000000):
  an Tryz.prog az Y 29 [.agg (Jj q V (.sl rt (q.cls.map Qg))),I id] m (fun r m'=>m'=m/\r=Zq (Xj id q.aM)):=by
 obtain⟨mb,ml,ms,mn⟩:=m;have h:=yw q.aM id hl;refine an.read (Xe TF (fun _ f l=>if f=55 then Zq (Xj id q.aM)else .junk) (by simp) ?_);cases hf:Xj id q.aM with
 |none=>
  rw[hf]at h;simp[TD,TE,Jj,hc,Zq];exact⟨h,lJ⟩
 |some x=>
  rw[hf]at h;simp[TD,TE,Jj,hc,Zq,Qm];exact⟨h,lJ⟩
def ane(Y:YT)(m:AM)(q:Pl)(V:AV)(rt:Rt)(id:Int)(hc:Qv V=true)(hl:q.aM.length<=1000000000)(K:AV->AM->Prop)(hK:K (Zq (Xj id q.aM)) m):
  an Tryz.prog az Y 29 [.agg (Jj q V (.sl rt (q.cls.map Qg))),I id] m K:=
 an.mono (R4 Y m q V rt id hc hl) (by rintro r m' ⟨rfl,rfl⟩;exact hK)
def rtE:Option En->Rt
 |none=>.nil
 |some _=>.ro
def Hg(o:Option En):sK o=.aW [.agg [I (o.getD yu).id,I (o.getD yu).it,I (o.getD yu).fr,I (o.getD yu).ea,I (o.getD yu).la,I (o.getD yu).bo,.sl (rtE o) ((o.getD yu).al.map Qe)],.bool o.isSome]:=by
 cases o<;>rfl
def LY(Y:YT)(m:AM)(g:Pg)(f:Int)(mid:Nat)(b:List (Int×Bool))(o:Od)(q:Pl)(V:AV)(rt:Rt)(d:Int)(hV:mY m.boxes V q.ens)(aS:Dz rt)(h:mq g f)(hb:gz m.boxes mid b)(ei:g.dr.length<=1000000000)(hq:Bn q)(cS:0<=q.ln/\q.ln<=1000000)(hd:sZ d):
  an Tryz.prog az Y 138 [.agg (Qu g f mid),.agg (Qq o),.agg (Xp q V (.sl rt (q.cls.map Qg)) d)] m (fun r m'=>m'=m/\r=.bool (Qcg g f b o q d)):=by
 obtain⟨mb,ml,ms,mn⟩:=m;obtain⟨q1,q2,q3,q4,q5,q6⟩:=hq;have hc:=hV.cell;have hB:∀ex,gz (mb++ex) mid b:=fun ex=>⟨by have:=hb.1;simp at this |-;omega,hb.ext ex⟩;have ke:=fun ex K hK=>asU Y ⟨mb++ex,ml,ms,mn⟩ g f mid b o.en h (hB ex) K hK;have ki:=fun ex K hK=>anb Y ⟨mb++ex,ml,ms,mn⟩ g f mid b o.en h (hB ex) K hK;have kn:=fun ex K hK=>OY Y ⟨mb++ex,ml,ms,mn⟩ q V rt o.en (hV.ext ex) (by omega) q6 K hK;simp only[Qu,Qo,Qc,Jj,zzae,zzaj]at ke ki kn;have k2:=j7 g.dr o.en ei;have fO:=fun ex d=>hV.bF ex ml ms mn d;refine an.read (Xe acJ (Hf g f b o q d) (by simp) ?_);cases he:Dw g f b o.en with
 |true=>
  simp[Ez,EA,Qu,Qo,Qc,Qq,Qd,Qg,Qi,Xp,hc,Qcg,he,Hf];refine ke _ _ ?_;simp[he];exact lJ
 |false=>
  by_cases hm:o.en∈g.dr
  ·simp[Ez,EA,Qu,Qo,Qc,Qq,Qd,Qg,Qi,Xp,hc,Qcg,he,hm,Hf];refine ke _ _ ?_;simp[he,hm]at k2 |-
   exact⟨k2,lJ⟩
  by_cases hd1:d<1
  ·simp[Ez,EA,Qu,Qo,Qc,Qq,Qd,Qg,Qi,Xp,hc,Qcg,he,hm,hd1,Hf];refine ke _ _ ?_;simp[he,hm,hd1]at k2 |-
   exact⟨k2,lJ⟩
  simp[Ez,EA,Qu,Qo,Qc,Qq,Qd,Qg,Qi,Xp,hc,Qcg,he,hm,hd1,Hf];refine ke _ _ ?_;simp[he,hm,hd1]at k2 |-
  refine⟨k2,kn _ _ ?_⟩;obtain⟨e,hE⟩:∃e,(Zf o.en q.ens).getD yu=e:=⟨_,rfl⟩;have kt:=fun ex K hK=>ane Y ⟨mb++ex,ml,ms,mn⟩ q V rt e.it hc (by omega) K hK;simp only[Jj]at kt;rw[Hg];generalize rtE (Zf o.en q.ens)=r7;generalize(Zf o.en q.ens).isSome=b7;rw[hE];obtain⟨X,hX⟩:∃X,Xj e.it q.aM=X:=⟨_,rfl⟩;have w0:IntKind.i64.wrap 0=0:=by decide
  simp;refine kt _ _ ?_;cases X with
  |none=>
   simp[hX,Zq];exact .bool _
  |some x=>
   by_cases fH:x.ki=4
   ·have Le:=Qeq q e.it 0 f ((Bq g f b o.en).getD 0+d-f) q5 (by omega) (by omega);simp only[Qc]at Le
    have sF:∀st,Bq g f b o.en=some st->0<=st/\st<=1000000:=fun st hh=>by
     unfold Bq at hh;split at hh
     ·cases hh
     split at hh
     ·cases hh;exact Dx h _
     cases hh
    have Ti:=h.2.2.1;unfold og at Ti;unfold sZ at hd;simp[hX,Zq,Qm,fH];refine ki _ _ ?_;cases hi:Bq g f b o.en with
    |none=>
     simp[RU];exact .bool _
    |some st=>
     have mP:=sF st hi;have w1:IntKind.i64.wrap (q.ln-d)=q.ln-d:=by rw[Qk]<;>omega
     rw[hi]at Le;by_cases tQ:q.ln-d<st
     ·simp[RU,w1,tQ];exact .bool _
     have w2:IntKind.i64.wrap (st+d)=st+d:=by rw[Qk]<;>omega
     have w3:IntKind.i64.wrap (st+d-f)=st+d-f:=by rw[Qk]<;>omega
     by_cases hz:st+d-f=0
     ·simp[RU,w1,tQ,w2,hz,w0];exact .bool _
     simp[RU,w1,tQ,w2,w3,hz,fO,aS _ _ _];exact⟨by simpa using Le,.bool _⟩
   simp[hX,Zq,Qm,fH];exact .bool _
open Go Go.Abs
def Yl(f:Int):List bE->List (Int×Bool)->List (Int×Bool)
 |[],b=>b
 |e::r,b=>Yl f r (if e.st<f then Vb e.id true b else b)
def moZ:List AV:=[I 0,I 0,I 0,I 0,.sl .nil [],I 0,I 0,I 0,I 0,.sl .nil [],.sl .nil [],.sl .nil [],.sl .nil [],.sl .nil [],.sl .nil [],I 0,.sl .nil [],I 0,I 0,.nilv false]
def Bt(k:Int)(v:Bool):∀l:List (Int×Bool),(Vb k v l).length<=l.length+1
 |[]=>by simp[Vb]
 |x::r=>by
  unfold Vb;split
  ·simp
  have:=Bt k v r;simp;omega
open Go Go.Abs
def ij(c:Cue):Bool->List Cue->List Cue
 |p,[]=>if p=true then[c]else[]
 |p,x::r=>if x.id=c.id then ij c p r else if p=true/\c.id<x.id then c::x::ij c false r else x::ij c p r
def axg(o:List Cue)(v:AV)(ls:List Nat):Prop:=(o=[]/\v=.sl .nil []/\ls=[])\/(o≠[]/\v=.sl (.own 0 5) (o.map Qi)/\ls=[o.length])
def mZ(c:Cue)(l:List Cue):AV:=
 if sW c=true then
  (if 200<(ij c (!decide (c.to=0)) l).length then .aW [.sl .nil [],I 150]
  else .aW [.sl (if ij c (!decide (c.to=0)) l=[]then .nil else .ro) ((ij c (!decide (c.to=0)) l).map Qi),I 0])
 else .aW [.sl .nil [],I 150]
def asY(c:Cue)(l:List Cue)(f:Nat->AV)(m:AM):Prop:=
 ∃(i:Nat)(p:Bool)(o:List Cue)(bx:List (List AV))(ls:List Nat),f 18=I i/\f 7=.bool p/\i<=l.length/\o++ij c p (l.drop i)=ij c (!decide (c.to=0)) l/\axg o (f 6) ls/\o.length<=2*i/\
  m=⟨Qi c::bx,ls,fun _=>.gone,0⟩
def R5(l:List Cue)(c:Cue)(hl:l.length<=1000000):Pure Tryz.prog az 69 [.sl .ro (l.map Qi),.agg (Qi c)] (mZ c l):=by
 have cv:=sX c;refine Qn ali (fun _ f _=>if f=84 then .bool (sW c)else .junk) (by simp) ?_;cases hc:sW c with
 |false=>
  rw[hc]at cv;simp[abW,Ep,Qi,mZ,hc];exact cv
 |true=>
  rw[hc]at cv;simp[abW,Qi];refine⟨cv,?_⟩;refine Qj fe (asY c l) (fun f _=>l.length-(numOf (f 18)).toNat) ?_ ?_
  ·refine⟨0,!decide (c.to=0),[],[],[],by simp,?_,by omega,by simp,.inl ⟨rfl,by simp,rfl⟩,by simp,by simp[Qi]⟩;simp;try(rw[zzbt];simp)
  rintro f m ⟨i,p,o,bx,ls,h18,h7,hi,hR,hO,Oq,rfl⟩;rcases zzaa i l.length with ai|bu
  ·obtain⟨x,hx⟩:=aR ai;have ah:Qh (l.map Qi) i=Qi x:=Qs (by simp[hx]);have aa:(i:Int)<(l.length:Int):=by omega
   have hw:=bK i (by omega);have hd:l.drop i=x::l.drop (i+1):=by rw[zzaf ai,(zza.1 hx).2]
   rw[hd,ij]at hR;by_cases aN:x.id=c.id
   ·rw[if_pos aN]at hR;simp[h18,h7,fe,aa,ah,hw,Qi,aN];refine⟨aO,⟨i+1,p,o,bx++[Qi x],ls,by simp,by simp,by omega,hR,by simpa using hO,by omega,by simp[Qi,aN]⟩,by omega⟩
   rw[if_neg aN]at hR
   have Tj:∀(z:List Cue)(row:List AV),((∃a,a∈z/\Qi a=row)\/row=Qi c\/row=Qi x)->row.length=5:=by
    rintro z row (⟨a,_,rfl⟩|rfl|rfl)<;>rfl
   by_cases hp:p=true/\c.id<x.id
   ·rw[if_pos hp]at hR;obtain⟨rfl,hp⟩:=hp;obtain⟨rfl,h6,rfl⟩|⟨ho,h6,rfl⟩:=hO
    ·simp[h18,h7,h6,fe,aa,ah,hw,Qi,aN,hp];refine⟨aO,⟨i+1,false,[c,x],bx++[Qi x],[2],by simp,by simp,by omega,by simpa using hR,.inr ⟨by simp,by simp[Qi],rfl⟩,by simp;omega,by simp[Qi]⟩,by omega⟩
    simp[h18,h7,h6,fe,aa,ah,hw,Qi,aN,hp];refine⟨⟨by rintro row (⟨a,_,rfl⟩|rfl)<;>rfl,by omega⟩,⟨by rintro row (⟨a,_,rfl⟩|rfl|rfl)<;>rfl,by omega⟩,ag ?_,⟨i+1,false,o++[c,x],bx++[Qi x],[o.length+2],by simp,by simp,by omega,by simpa using hR,.inr ⟨by simp,by simp[Qi],by simp⟩,by simp;omega,by simp[Qi]⟩,by omega⟩;repeat(first|exact Qb _ _|refine Qa _ rfl ?_)
   rw[if_neg hp]at hR;obtain⟨rfl,h6,rfl⟩|⟨ho,h6,rfl⟩:=hO
   ·cases p with
    |false=>
     simp[h18,h7,h6,fe,aa,ah,hw,Qi,aN];refine⟨aO,⟨i+1,false,[x],bx++[Qi x],[1],by simp,by simp,by omega,by simpa using hR,.inr ⟨by simp,by simp[Qi],rfl⟩,by simp;omega,by simp[Qi]⟩,by omega⟩
    |true=>
     have WI:¬c.id<x.id:=fun h=>hp ⟨rfl,h⟩;simp[h18,h7,h6,fe,aa,ah,hw,Qi,aN,WI];refine⟨aO,⟨i+1,true,[x],bx++[Qi x],[1],by simp,by simp,by omega,by simpa using hR,.inr ⟨by simp,by simp[Qi],rfl⟩,by simp;omega,by simp[Qi]⟩,by omega⟩
   cases p with
   |false=>
    simp[h18,h7,h6,fe,aa,ah,hw,Qi,aN];refine⟨⟨by rintro row (⟨a,_,rfl⟩|rfl)<;>rfl,by omega⟩,ag ?_,⟨i+1,false,o++[x],bx++[Qi x],[o.length+1],by simp,by simp,by omega,by simpa using hR,.inr ⟨by simp,by simp[Qi],by simp⟩,by simp;omega,by simp[Qi]⟩,by omega⟩;repeat(first|exact Qb _ _|refine Qa _ rfl ?_)
   |true=>
    have WI:¬c.id<x.id:=fun h=>hp ⟨rfl,h⟩;simp[h18,h7,h6,fe,aa,ah,hw,Qi,aN,WI];refine⟨⟨by rintro row (⟨a,_,rfl⟩|rfl)<;>rfl,by omega⟩,ag ?_,⟨i+1,true,o++[x],bx++[Qi x],[o.length+1],by simp,by simp,by omega,by simpa using hR,.inr ⟨by simp,by simp[Qi],by simp⟩,by simp;omega,by simp[Qi]⟩,by omega⟩;repeat(first|exact Qb _ _|refine Qa _ rfl ?_)
  obtain rfl:i=l.length:=by omega
  rw[zzbo,ij]at hR;obtain⟨rfl,h6,rfl⟩|⟨ho,h6,rfl⟩:=hO
  ·cases p with
   |false=>
    simp at hR;simp[h18,h7,h6,fe,Ep,Qi,mZ,hc,hR]
   |true=>
    simp at hR;simp[h18,h7,h6,fe,Ep,Qi,mZ,hc,<- hR]
  cases p with
  |false=>
   simp at hR;by_cases hb:200<o.length
   ·have cL:(200:Int)<(o.length:Int):=by omega
    simp[h18,h7,h6,fe,Ep,Qi,mZ,hc,<- hR,hb,cL]
   have cL:¬(200:Int)<(o.length:Int):=by omega
   simp[h18,h7,h6,fe,Ep,Qi,mZ,hc,<- hR,hb,cL,ho]
  |true=>
   simp at hR;have aH:(o++[c]).length=o.length+1:=by simp
   by_cases hb:200<o.length+1
   ·have cL:(200:Int)<(o.length:Int)+1:=by omega
    simp[h18,h7,h6,fe,Ep,Qi,mZ,hc,<- hR,hb,cL];exact⟨by rintro row (⟨a,_,rfl⟩|rfl)<;>rfl,by omega⟩
   have cL:¬(200:Int)<(o.length:Int)+1:=by omega
   simp[h18,h7,h6,fe,Ep,Qi,mZ,hc,<- hR,hb,cL,ho];exact⟨by rintro row (⟨a,_,rfl⟩|rfl)<;>rfl,by omega⟩
open Go Go.Abs
def R6(p:Pl):Pl:={p with sh:=p.sh.take 10,aM:=p.aM.take 20,bks:=p.bks.take 8,cls:=p.cls.take 20,ens:=p.ens.take 10,ln:=if 600<p.ln then 600 else p.ln}
def Qdz{α:Type}(l:List α)(n:Nat):l.take (if(n:Int)<(l.length:Int)then(n:Int)else(l.length:Int)).toNat=l.take n:=by
 split
 ·simp
 rw[zzap (by simp),zzap (by omega)]
def s5{a:Nat}(n:Nat):(if(n:Int)<(a:Int)then(n:Int)else(a:Int))<=a:=by split<;>omega
def tc{a:Nat}(n:Nat):0<=(if(n:Int)<(a:Int)then(n:Int)else(a:Int)):=by split<;>omega
def LZ(p:Pl):Pure Tryz.prog az 28 [.agg (Qc p)] (.agg (Qc (R6 p))):=by
 have t1:=Qdz (p.sh.map Qe) 10;have t2:=Qdz (p.aM.map Qm) 20;have t3:=Qdz (p.bks.map Xh) 8;have t4:=Qdz (p.cls.map Qg) 20;have t5:=Qdz (p.ens.map Qd) 10;simp only[zzbf]at t1 t2 t3 t4 t5;have a1:=s5 (a:=p.sh.length) 10;have a2:=s5 (a:=p.aM.length) 20;have a3:=s5 (a:=p.bks.length) 8;have a4:=s5 (a:=p.cls.length) 20;have a5:=s5 (a:=p.ens.length) 10;have b1:=tc (a:=p.sh.length) 10;have b2:=tc (a:=p.aM.length) 20;have b3:=tc (a:=p.bks.length) 8;have b4:=tc (a:=p.cls.length) 20;have b5:=tc (a:=p.ens.length) 10;simp at a1 a2 a3 a4 a5 b1 b2 b3 b4 b5 t1 t2 t3 t4 t5;refine Qn akK (fun _ _ _=>.junk) (by simp) ?_;simp[aoX,aoY,Qc,R6,t1,t2,t3,t4,t5,a1,a2,a3,a4,a5,b1,b2,b3,b4,b5];exact⟨by rintro row a b _ rfl;rfl,fun _ _=>rfl,fun _ _=>rfl,fun _ _=>rfl,fun _ _=>rfl⟩
open Go Go.Abs
open Go Go.Abs
def Hh(g:Pg)(f:Int)(q:Pl)(d:Int)(er:List AV):List AV:=[.ep (Qc q++[I d]) 0,.ep (Qo g++[I f,.junk]) 0,.ep er 0]
def Qds(g:Pg)(f:Int)(q:Pl)(d:Int)(a0 a1 a2:AV)(fr:Int)(r:List AV)(item region:Int)(h1:q.cls.length<=1000000)(h2:q.sh.length<=1000000000)(h3:q.aM.length<=1000000000):
  Pure Tryz.prog az 225 ([I item,I region]++Hh g f q d (a0::a1::a2::I fr::r)) (.bool (Xz q item region f fr)):=by
 have k:=Qeq q item region f fr h1 h2 h3;simp only[Qc]at k;refine Qn adC (fun _ _ _=>.bool (Xz q item region f fr)) (by simp[Hh]) ?_;simp[aij,aik,Hh,Qc,Qo];exact k
def iI(g:Pg)(f:Int)(o:Od)(q:Pl)(d:Int)(e:bE):Option Int:=
 if o.ki=1/\o.en=e.id then some (rJ g e.id+d-f)
 else if o.ki=2/\o.en=e.id then none
 else if o.ki=4/\Xz q e.it 0 f (uU f e).fr=false then none
 else some (uU f e).fr
def td(q:Pl)(f:Int):Nat->FuncId->List AV->AV:=fun _ k l=>if k=225 then(match l with
 |[.int _ it,.int _ re,_,_,.ep (_::_::_::.int _ F::_) 0]=>.bool (Xz q it re f F)
 |_=>.junk)else .gd false .junk
def j8(q:Pl)(f:Int)(id F:Int)(l:List Sp):List Sp:=l.filter fun a=>Xz q a.2 a.1 f F
def anf(ml:List Nat)(o:List Sp)(v:AV)(ls:List Nat):Prop:=(o=[]/\v=.sl .nil []/\ls=ml)\/(o≠[]/\v=.sl (.own ml.length 2) (o.map Qe)/\ls=ml++[o.length])
def asZ(mb:List (List AV))(ml:List Nat)(ms:Nat->LS)(mn:Nat)(r0 r1 r2 pre:List AV)(al:List Sp)(A:List Sp->List Sp)(s:Nat->AV)(m:AM):Prop:=
 ∃(j:Nat)(bx:List (List AV))(ls:List Nat)(v:AV),s 106=I j/\j<=al.length/\anf ml (A (al.take j)) v ls/\m=⟨mb++(r0::r1::r2::oh::(pre++[v])::bx),ls,ms,mn⟩
def rN(q:Pl)(f:Int)(it F:Int)(n:Nat):Int:=Uw (fun r=>Xz q it r f F) n
def afT(b:Nat->Bool)(i:Nat)(h:i<8):IntKind.i64.wrap ((((Uw b i%2 ^ IntKind.i64.bits).toNat|||(IntKind.i64.wrap (2 ^ min i IntKind.i64.bits)%2 ^ IntKind.i64.bits).toNat:Nat)):Int)=Uw b i+2 ^ i:=by
 have eD:=DD b i;obtain⟨x,hx⟩:∃x:Nat,Uw b i=(x:Int):=⟨(Uw b i).toNat,by omega⟩
 have hx2:x<2 ^ i:=by
  have h2:=eD.2;rw[hx]at h2
  exact_mod_cast h2
 rw[hx];exact Z4 i h x hx2
def L3:SC:=(⟨_,by cbv⟩:tW [1,1,1,1,1,1] Ag).1
def Z5:SC:=(⟨_,fun _=>by cbv⟩:uE [1,1,1,1,1,1] Ag).1 L3
theorem Hi:Ag=Z5:=rfl
def yx(Y:YT)(mb:List (List AV))(ml:List Nat)(ms:Nat->LS)(mn:Nat)(g:Pg)(f:Int)(mid:Nat)(R1:List AV)(q:Pl)(V:AV)(rt:Rt)(d:Int)(e:bE)(F:Int)(E0:List (Nat×AV))(x5 x6:AV)(hV:mY mb V q.ens)(aS:Dz rt)(hq:Bn q)(OB:0<=q.rg/\q.rg<=8)(K:AV->AM->Prop)
  (h3:Abs.look E0 3=.ptr mb.length 0)(h5:Abs.look E0 5=.ptr (mb.length+2) 0)(h6:Abs.look E0 6=.ptr (mb.length+3) 0)(h8:Abs.look E0 8=.ptr (mb.length+4) 0)(pq:Abs.look E0 11=.fn 225 [] [.ptr (mb.length+2) 0,.ptr mb.length 0,.ptr (mb.length+4) 0])
  (h1:∀ex ls v,anf ml (j8 q f e.id F ((Zf e.id q.ens).getD yu).al) v ls->K (.aW [.agg [I e.id,I e.it,I f,I F,I (e.i+(f-e.st)),I (rN q f e.it F q.rg.toNat),v],.bool true]) ⟨mb++ex,ls,ms,mn⟩):
  vc Tryz.prog az (td q f) Y L3 ⟨Ze 124 E0,⟨mb++[Qu g f mid,R1,Xp q V (.sl rt (q.cls.map Qg)) d,oh,[I e.id,I e.it,I f,I F,I (e.i+(f-e.st)),x5,x6]],ml,ms,mn⟩⟩ (wN Tryz.prog az (td q f) EB K):=by
 obtain⟨q1,q2,q3,q4,q5,q6⟩:=hq;have hc:=hV.cell;have fO:=fun ex ml d=>hV.bF ex ml ms mn d;simp[L3,h5,h8,Qu,Qo,Qc,Xp,oh];refine Qj JM (fun s m=>∃i:Nat,s 80=I i/\(i:Int)<=q.rg/\m=⟨mb++[Qu g f mid,R1,Xp q V (.sl rt (q.cls.map Qg)) d,oh,[I e.id,I e.it,I f,I F,I (e.i+(f-e.st)),I (rN q f e.it F i),.sl .nil []]],ml,ms,mn⟩) (fun s _=>(q.rg-numOf (s 80)).toNat) ?_ ?_
 ·exact⟨0,by simp,by simp;omega,by simp[Qu,Qo,Qc,Xp,oh,rN,Uw]⟩
 rintro s m ⟨i,h80,hi,rfl⟩;by_cases ai:(i:Int)<q.rg
 ·have hw:=bK i (by omega);have kc:=Qds g f q d (I e.id) (I e.it) (I f) F [I (e.i+(f-e.st)),I (rN q f e.it F i),.sl .nil []] e.it i q5 (by omega) (by omega);simp only[Hh,Qc,Qo,zzae,zzaj]at kc;simp[h8,pq,h80,JM,ai,hw,Qu,Qo,Qc,Xp,oh,td,fO,aS _ _ _];have hor:=afT (fun r=>Xz q e.it r f F) i (by omega);refine⟨kc,?_⟩;have dM:rN q f e.it F (i+1)=rN q f e.it F i+if Xz q e.it (i:Int) f F=true then 2 ^ i else 0:=rfl;split
  ·rename_i ha;rw[if_pos ha]at dM;refine⟨aO,⟨i+1,by simp,by omega,by rw[dM];exact hor⟩,by omega⟩
  rename_i ha;rw[if_neg ha]at dM;refine⟨aO,⟨i+1,by simp,by omega,by rw[dM];simp⟩,by omega⟩
 have kn:=fun ex K hK=>OY Y ⟨mb++ex,ml,ms,mn⟩ q V rt e.id (hV.ext ex) (by omega) q6 K hK;simp only[Jj]at kn;simp[h5,h8,h80,JM,ai,Qu,Qo,Qc,Xp,oh,td];refine kn _ _ ?_;rw[Hg];generalize rtE (Zf e.id q.ens)=r7;generalize(Zf e.id q.ens).isSome=b7;obtain⟨E,hE⟩:∃E,(Zf e.id q.ens).getD yu=E:=⟨_,rfl⟩;rw[hE]
 have hEl:E.al.length<=8796093022208:=by
  rw[<- hE];cases hf:Zf e.id q.ens with
  |none=>simp[yu]
  |some x=>exact q6 x (jR hf).1
 have hiq:i=q.rg.toNat:=by omega
 rw[hE]at h1;simp[EB];refine Qj BW (asZ mb ml ms mn (Qu g f mid) R1 (Xp q V (.sl rt (q.cls.map Qg)) d) [I e.id,I e.it,I f,I F,I (e.i+(f-e.st)),I (rN q f e.it F i)] E.al (j8 q f e.id F)) (fun s _=>E.al.length-(numOf (s 106)).toNat) ?_ ?_
 ·exact⟨0,_,ml,.sl .nil [],by simp,by omega,.inl ⟨by simp[j8],rfl,rfl⟩,by simp[Qu,Qo,Qc,Xp,oh];rfl⟩
 rintro s2 m ⟨j,bx,ls,v,h106,hj,hO,rfl⟩;rcases zzaa j E.al.length with KF|hgj
 ·obtain⟨a,ha⟩:=aR KF;have ah:=Zc ha;have as0:(j:Int)<(E.al.length:Int):=by omega
  have hw:=bK j (by omega)
  have bB:j8 q f e.id F (E.al.take (j+1))=j8 q f e.id F (E.al.take j)++if Xz q a.2 a.1 f F=true then[a]else[]:=by
   unfold j8;rw[zzas,ha,zzcr];congr 1;by_cases hh:Xz q a.2 a.1 f F=true<;>simp[hh]
  have Oq:(j8 q f e.id F (E.al.take j)).length<=j:=by
   refine zzbn (zzbr _ _) ?_;simp;omega
  generalize j8 q f e.id F (E.al.take j)=oL at hO bB Oq;obtain⟨rfl,rfl,rfl⟩|⟨ho,rfl,rfl⟩:=hO
  ·have kc:=Qds g f q d (I e.id) (I e.it) (I f) F [I (e.i+(f-e.st)),I (rN q f e.it F i),.sl .nil []] a.2 a.1 q5 (by omega) (by omega);simp only[Hh,Qc,Qo,zzae,zzaj]at kc;simp[h8,pq,h106,BW,as0,ah,hw,Qu,Qo,Qc,Xp,oh,td,fO,aS _ _ _];refine⟨kc,?_⟩;split
   ·rename_i hh;rw[if_pos hh]at bB;refine⟨aO,⟨j+1,bx++[[I a.1,I a.2]],ls++[1],.sl (.own ls.length 2) [Qe a],by simp,by omega,.inr ⟨by rw[bB];simp,by rw[bB];rfl,by rw[bB];rfl⟩,by simp[oh,Qe]⟩,by omega⟩
   rename_i hh;rw[if_neg hh]at bB;refine⟨aO,⟨j+1,bx++[[I a.1,I a.2]],ls,.sl .nil [],by simp,by omega,.inl ⟨by rw[bB];rfl,rfl,rfl⟩,by simp[oh]⟩,by omega⟩
  have kc:=Qds g f q d (I e.id) (I e.it) (I f) F [I (e.i+(f-e.st)),I (rN q f e.it F i),.sl .ro (oL.map Qe)] a.2 a.1 q5 (by omega) (by omega);simp only[Hh,Qc,Qo,zzae,zzaj]at kc;simp[h8,pq,h106,BW,as0,ah,hw,Qu,Qo,Qc,Xp,oh,td,fO,aS _ _ _];refine⟨kc,?_⟩
  have Tj:∀row:List AV,((∃x y,(x,y)∈oL/\Qe (x,y)=row)\/row=Qe a)->row.length=2:=by
   rintro row (⟨x,y,_,rfl⟩|rfl)<;>rfl
  split
  ·rename_i hh;rw[if_pos hh]at bB;refine⟨⟨Tj,by omega⟩,aO,⟨j+1,bx++[[I a.1,I a.2]],ml++[oL.length+1],.sl (.own ml.length 2) ((oL++[a]).map Qe),by simp,by omega,.inr ⟨by rw[bB];simp,by rw[bB],by rw[bB];simp⟩,by simp[oh,Qe]⟩,by omega⟩
  rename_i hh;rw[if_neg hh,zzat]at bB;refine⟨aO,⟨j+1,bx++[[I a.1,I a.2]],ml++[oL.length],.sl (.own ml.length 2) (oL.map Qe),by simp,by omega,.inr ⟨by rw[bB];exact ho,by rw[bB],by rw[bB]⟩,by simp[oh]⟩,by omega⟩
 obtain rfl:j=E.al.length:=by omega
 rw[zzbs]at hO;have bM:Qv v=true:=by rcases hO with⟨_,rfl,_⟩|⟨_,rfl,_⟩<;>rfl
 have h1:=fun ex=>h1 ex ls v hO;rw[<- hiq]at h1;simp[h6,h8,h106,BW,Qu,Qo,Qc,Xp,oh,bM];exact h1 _
def afU(Y:YT)(m:AM)(g:Pg)(f:Int)(mid:Nat)(b:List (Int×Bool))(o:Od)(q:Pl)(V:AV)(rt:Rt)(d:Int)(hV:mY m.boxes V q.ens)(aS:Dz rt)(h:mq g f)(hb:gz m.boxes mid b)(hq:Bn q)(hd:0<=d/\d<=1000000000)(OB:0<=q.rg/\q.rg<=8)(K:AV->AM->Prop)
  (h1:∀e F,Jo g f b=some e->iI g f o q d e=some F->F≠0->∀ex ls v,anf m.lens (j8 q f e.id F ((Zf e.id q.ens).getD yu).al) v ls->K (.aW [.agg [I e.id,I e.it,I f,I F,I (e.i+(f-e.st)),I (rN q f e.it F q.rg.toNat),v],.bool true]) {m with boxes:=m.boxes++ex,lens:=ls})
  (h0:(Jo g f b).bind (iI g f o q d)=none\/(Jo g f b).bind (iI g f o q d)=some 0->∀ex,K (.aW [.agg oh,.bool false]) {m with boxes:=m.boxes++ex}):
  an Tryz.prog az Y 156 [.agg (Qu g f mid),.agg (Qq o),.agg (Xp q V (.sl rt (q.cls.map Qg)) d)] m K:=by
 obtain⟨mb,ml,ms,mn⟩:=m;obtain⟨q1,q2,q3,q4,q5,q6⟩:=hq;have hc:=hV.cell;have hB:∀ex,gz (mb++ex) mid b:=fun ex=>⟨by have:=hb.1;simp at this |-;omega,hb.ext ex⟩;have kp:=fun ex K hK=>aj2 Y ⟨mb++ex,ml,ms,mn⟩ g f mid b h (hB ex) K hK;simp only[Qu,Qo,Qc,zzae,zzaj]at kp;have fO:=fun ex ml d=>hV.bF ex ml ms mn d;cases hp:Jo g f b with
 |none=>
  have h0:=h0 (by rw[hp];exact .inl rfl);refine Xe No (fun _ f _=>.gd false .junk) (by simp) ?_;simp[Hi,Z5,EB,Qu,Qo,Qc,Qq,Qd,Qg,Qi,Xp,hc];refine kp _ _ ?_;simp[Ut,hp];simp[oh]at h0;exact h0 _
 |some e=>
  refine Xe No (td q f) (by simp) ?_;simp[Hi,Z5,EB,Qu,Qo,Qc,Qq,Qd,Qg,Qi,Xp,hc,td];refine kp _ _ ?_;have IS:=Dx h e.id;have Ti:=h.2.2.1;unfold og at Ti;by_cases cQ:o.ki=1
  ·by_cases aN:o.en=e.id
   ·have w1:IntKind.i64.wrap (rJ g e.id+d)=rJ g e.id+d:=by rw[Qk]<;>omega
    have w2:IntKind.i64.wrap (rJ g e.id+d-f)=rJ g e.id+d-f:=by rw[Qk]<;>omega
    obtain⟨F,hF⟩:∃F,rJ g e.id+d-f=F:=⟨_,rfl⟩;have wF:IntKind.i64.wrap F=F:=by rw[<- hF];exact w2
    have w0:IntKind.i64.wrap 0=0:=by decide
    have uv:(Jo g f b).bind (iI g f o q d)=some F:=by rw[hp];simp[iI,cQ,aN,hF]
    by_cases qz:F=0
    ·have h0:=h0 (by rw[uv,qz];exact .inr rfl);simp[Ut,hp,Qf,uU,cQ,aN,w1,w0,hF,qz];simp[oh]at h0;exact h0 _
    simp[Ut,hp,Qf,uU,cQ,aN,w1,wF,hF,qz];refine yx Y mb ml ms mn g f mid _ q V rt d e F _ _ _ hV aS ⟨q1,q2,q3,q4,q5,q6⟩ OB K ?_ ?_ ?_ ?_ ?_ (h1 e F hp (by simpa[hp]using uv) qz)<;>simp
   have w0:True:=trivial;obtain⟨F,hF⟩:∃F,e.fr-(f-e.st)=F:=⟨_,rfl⟩;have uv:(Jo g f b).bind (iI g f o q d)=some F:=by rw[hp];simp[iI,uU,hF,cQ,aN]
   by_cases qz:F=0
   ·have h0:=h0 (by rw[uv,qz];exact .inr rfl);simp[Ut,hp,Qf,uU,cQ,aN,hF,qz];simp[oh]at h0;exact h0 _
   simp[Ut,hp,Qf,uU,cQ,aN,hF,qz];refine yx Y mb ml ms mn g f mid _ q V rt d e F _ _ _ hV aS ⟨q1,q2,q3,q4,q5,q6⟩ OB K ?_ ?_ ?_ ?_ ?_ (h1 e F hp (by simpa[hp]using uv) qz)<;>simp
  by_cases cV:o.ki=2
  ·by_cases aN:o.en=e.id
   ·have w0:True:=trivial;have h0:=h0 (by rw[hp];simp[iI,cV,aN]);simp[Ut,hp,Qf,uU,cV,aN];simp[oh]at h0;exact h0 _
   have w0:True:=trivial;obtain⟨F,hF⟩:∃F,e.fr-(f-e.st)=F:=⟨_,rfl⟩;have uv:(Jo g f b).bind (iI g f o q d)=some F:=by rw[hp];simp[iI,uU,hF,cV,aN]
   by_cases qz:F=0
   ·have h0:=h0 (by rw[uv,qz];exact .inr rfl);simp[Ut,hp,Qf,uU,cV,aN,hF,qz];simp[oh]at h0;exact h0 _
   simp[Ut,hp,Qf,uU,cV,aN,hF,qz];refine yx Y mb ml ms mn g f mid _ q V rt d e F _ _ _ hV aS ⟨q1,q2,q3,q4,q5,q6⟩ OB K ?_ ?_ ?_ ?_ ?_ (h1 e F hp (by simpa[hp]using uv) qz)<;>simp
  by_cases Ov:o.ki=4
  ·cases ha0:Xz q e.it 0 f (e.fr-(f-e.st))with
   |false=>
    have h0:=h0 (by rw[hp];simp[iI,uU,Ov,ha0]);have kc0:=Qds g f q d (I e.id) (I e.it) (I f) (e.fr-(f-e.st)) [I (e.i+(f-e.st)),I e.re,.sl .ro (e.al.map Qe)] e.it 0 q5 (by omega) (by omega);simp only[Hh,Qc,Qo,zzae,zzaj]at kc0;rw[ha0]at kc0;simp[Ut,hp,Qf,uU,Ov,fO,aS _ _ _,ha0];simp[oh]at h0;exact⟨kc0,h0 _⟩
   |true=>
    obtain⟨F,hF⟩:∃F,e.fr-(f-e.st)=F:=⟨_,rfl⟩;rw[hF]at ha0;have uv:(Jo g f b).bind (iI g f o q d)=some F:=by rw[hp];simp[iI,uU,hF,Ov,ha0]
    have kc0:=Qds g f q d (I e.id) (I e.it) (I f) F [I (e.i+(f-e.st)),I e.re,.sl .ro (e.al.map Qe)] e.it 0 q5 (by omega) (by omega);simp only[Hh,Qc,Qo,zzae,zzaj]at kc0;rw[ha0]at kc0;by_cases qz:F=0
    ·have h0:=h0 (by rw[uv,qz];exact .inr rfl);rw[qz]at ha0 kc0;simp[Ut,hp,Qf,uU,Ov,fO,aS _ _ _,hF,ha0,qz];simp[oh]at h0;exact⟨kc0,h0 _⟩
    simp[Ut,hp,Qf,uU,Ov,fO,aS _ _ _,hF,ha0,qz];refine⟨kc0,?_⟩;refine yx Y mb ml ms mn g f mid _ q V rt d e F _ _ _ hV aS ⟨q1,q2,q3,q4,q5,q6⟩ OB K ?_ ?_ ?_ ?_ ?_ (h1 e F hp (by simpa[hp]using uv) qz)<;>simp
  have w0:True:=trivial;obtain⟨F,hF⟩:∃F,e.fr-(f-e.st)=F:=⟨_,rfl⟩;have uv:(Jo g f b).bind (iI g f o q d)=some F:=by rw[hp];simp[iI,uU,hF,cQ,cV,Ov]
  by_cases qz:F=0
  ·have h0:=h0 (by rw[uv,qz];exact .inr rfl);simp[Ut,hp,Qf,uU,cQ,cV,Ov,hF,qz];simp[oh]at h0;exact h0 _
  simp[Ut,hp,Qf,uU,cQ,cV,Ov,hF,qz];refine yx Y mb ml ms mn g f mid _ q V rt d e F _ _ _ hV aS ⟨q1,q2,q3,q4,q5,q6⟩ OB K ?_ ?_ ?_ ?_ ?_ (h1 e F hp (by simpa[hp]using uv) qz)<;>simp
end
end Go.Proofs.YtnopaopphmjnmaaGreatDoor
