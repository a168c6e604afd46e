import Derived.Test.YtnopaopphmjnmaaGreatDoorMQMbN
set_option linter.all false
set_option maxRecDepth 100000
set_option maxHeartbeats 64000000
namespace Go.Proofs.YtnopaopphmjnmaaGreatDoor
noncomputable section
open Go Go.Abs
def Al(x:Int):List Int->Nat->Int
 |[],_=> -1
 |a::r,i=>if x=a then i else Al x r (i+1)
def HK(x:Int):∀(L:List Int)(i:Nat),(0<=Al x L i)=(x∈L)
 |[],i=>by simp[Al]
 |a::r,i=>by
  unfold Al;by_cases h:x=a
  ·rw[if_pos h];simp[h]
  rw[if_neg h,HK x r (i+1)];simp[h]
def aaI(L:List Int)(x:Int)(hl:L.length<=1000000000):Pure Tryz.prog aA 226 [.sl .ro (L.map Qy),I x] (I (Al x L 0)):=by
 refine Qo aeg (fun _ _ _=>.junk) zd ?_;simp[ai2];refine Qk CG (fun f m=>∃i:Nat,f 8=I i/\i<=L.length/\Al x (L.drop i) i=Al x L 0/\m=⟨[],[],fun _=>.gone,0⟩) (fun f _=>L.length-(numOf (f 8)).toNat) ?_ ?_
 ·exact⟨0,zd,zE,zd,rfl⟩
 rintro f m ⟨i,f8,hi,hr,rfl⟩;rcases zzaa i L.length with ai|bz
 ·obtain⟨a,ha⟩:=aU ai;have ah:Qh (L.map Qy) i=[I a]:=Qt (by simp[ha,Qy]);have aa:(i:Int)<(L.length:Int):=zE
  have hw:=bM i zE;have hd:L.drop i=a::L.drop (i+1):=by rw[zzaf ai,(zza.1 ha).2]
  rw[hd,Al]at hr;by_cases hP:x=a
  ·rw[if_pos hP]at hr;simp[f8,CG,Wg,aa,ah,hP];rw[<- hP];exact hr
  rw[if_neg hP]at hr;simp[f8,CG,aa,ah,hP,hw];refine⟨aP,⟨i+1,zd,zE,hr⟩,zE⟩
 obtain rfl:i=L.length:=zE
 rw[zzbn,Al]at hr;simp[f8,CG,Wg];exact hr
def j9(L:List Int)(x:Int)(hl:L.length<=1000000000):Pure Tryz.prog aA 157 [.sl .ro (L.map Qy),I x] (.bool (decide (x∈L))):=by
 have k:=aaI L x hl;refine Qo adt (fun _ _ _=>I (Al x L 0)) zd ?_;simp[aiv,aiw];refine⟨k,?_⟩;simp[<- HK x L 0]
def D2(e:bE)(id:Int):Pure Tryz.prog aA 222 [.agg (Qe e),.ep [I id] 0] (.bool (decide (e.id=id))):=by
 refine Qo aee (fun _ _ _=>.junk) zd ?_;simp[aiY,aiZ,Qe];rw[zzbv];simp
def Mv(g:Pg)(id:Int):Bool:=(g.ev.find? (fun e=>decide (e.id=id))).isSome
def D3(L:List bE)(id:Int)(hl:L.length<=1000000000):Pure Tryz.prog aA 221 [.sl .ro (L.map Qe),.fn 222 [] [.ep [I id] 0]] (.bool (L.find? (fun e=>decide (e.id=id))).isSome):=by
 have k:=yB L (fun e=>decide (e.id=id)) 222 [] [.ep [I id] 0] hl (fun _=>rfl) (fun _=>zd) (fun e _=>D2 e id) (fun _ _ xs=>match xs with|.agg (.int _ n::_)::_=>.bool (decide (n=id))|_=>.junk) (fun _ e _=>rfl);refine Qo aed (fun _ _ _=>I (Ux (fun e=>decide (e.id=id)) L 0)) zd ?_;cases hf:L.find? (fun e=>decide (e.id=id))with
 |none=>
  rw[Qdk hf]at k |-
  simp[Wc,Wf];exact k
 |some e=>
  obtain⟨n,g1,_,_⟩:=Wm (i:=0) hf;rw[g1,zzbw]at k |-
  simp[Wc,Wf];exact k
def qo(g:Pg)(o:Od):Bool:=!Mv g o.nw.id&&(decide (Jj g o.nw.id<0)&&!decide (o.nw.id∈g.dr))
def Mw(Y:YT)(m:AM)(g:Pg)(f:Int)(mid:Nat)(o:Od)(q:Pl)(V:AV)(rt:Rt)(d:Int)(hV:nc m.boxes V q.ens)(h:mg g f)(hd:g.dr.length<=1000000000):
  an Tryz.prog aA Y 142 [.agg (Qr g f mid),.agg (Qp o),.agg (Xr q V (.sl rt (q.cls.map Qg)) d)] m (fun r m'=>m'=m/\r=.bool (qo g o)):=by
 obtain⟨mb,ml,ms,mn⟩:=m;have hc:=hV.cell;have k:=fun ex K hK=>Mp Y ⟨mb++ex,ml,ms,mn⟩ g f mid o.nw.id h K hK;simp only[Qr,Qm,Qa,zzad,zzah]at k;have k1:=D3 g.ev o.nw.id h.1;have k2:=j9 g.dr o.nw.id hd;refine an.read (Xd ado (fun _ f _=>if f=221 then .bool (Mv g o.nw.id)else if f=157 then .bool (decide (o.nw.id∈g.dr))else .gd false .junk) zd ?_);cases hh:Mv g o.nw.id with
 |true=>
  unfold Mv at hh;rw[hh]at k1;simp[VJ,VK,Qr,Qm,Qa,Qp,Qd,Qg,Qi,Xr,hc,qo,Mv,hh];exact⟨k1,lK⟩
 |false=>
  unfold Mv at hh;rw[hh]at k1;simp[VJ,VK,Qr,Qm,Qa,Qp,Qd,Qg,Qi,Xr,hc,qo,Mv,hh];refine⟨k1,k _ _ ?_⟩;by_cases hp:Jj g o.nw.id<0
  ·simp[hp];exact⟨k2,lK⟩
  simp[hp];exact lK
open Go Go.Abs
def yH:En:=⟨0,0,0,0,0,0,[]⟩
def Qch(g:Pg)(f:Int)(b:List (Int×Bool))(o:Od)(q:Pl)(d:Int):Bool:=
 if DY g f b o.en=true then false
 else if o.en∈g.dr then false
 else if d<1 then false
 else match Xh ((Zh o.en q.ens).getD yH).it q.aN with
  |none=>false
  |some x=>if x.ki≠4 then false
   else match BM g f b o.en with
    |none=>true
    |some st=>if q.ln-d<st then false else if st+d-f=0 then true else Xt q ((Zh o.en q.ens).getD yH).it 0 f (st+d-f)
def HL(g:Pg)(F:Int)(b:List (Int×Bool))(o:Od)(q:Pl)(d:Int):Nat->FuncId->List AV->AV:=fun _ f _=>if f=157 then .bool (decide (o.en∈g.dr))else if f=30 then .bool (Xt q ((Zh o.en q.ens).getD yH).it 0 F ((BM g F b o.en).getD 0+d-F))else .gd false .junk
def SM(Y:YT)(m:AM)(q:Pl)(V:AV)(rt:Rt)(id:Int)(hc:Qw V=true)(hl:q.aN.length<=1000000000):
  an Tryz.prog aA Y 29 [.agg (Jk q V (.sl rt (q.cls.map Qg))),I id] m (fun r m'=>m'=m/\r=Zk (Xh id q.aN)):=by
 obtain⟨mb,ml,ms,mn⟩:=m;have h:=yI q.aN id hl;refine an.read (Xd UP (fun _ f l=>if f=55 then Zk (Xh id q.aN)else .junk) zd ?_);cases hf:Xh id q.aN with
 |none=>
  rw[hf]at h;simp[UN,UO,Jk,hc,Zk];exact⟨h,lK⟩
 |some x=>
  rw[hf]at h;simp[UN,UO,Jk,hc,Zk,Qn];exact⟨h,lK⟩
def an4(Y:YT)(m:AM)(q:Pl)(V:AV)(rt:Rt)(id:Int)(hc:Qw V=true)(hl:q.aN.length<=1000000000)(K:AV->AM->Prop)(hK:K (Zk (Xh id q.aN)) m):
  an Tryz.prog aA Y 29 [.agg (Jk q V (.sl rt (q.cls.map Qg))),I id] m K:=
 an.mono (SM Y m q V rt id hc hl) (by rintro r m' ⟨rfl,rfl⟩;exact hK)
def rtE:Option En->Rt
 |none=>.nil
 |some _=>.ro
def HM(o:Option En):sX o=.aZ [.agg [I (o.getD yH).id,I (o.getD yH).it,I (o.getD yH).fr,I (o.getD yH).ea,I (o.getD yH).la,I (o.getD yH).bo,.sl (rtE o) ((o.getD yH).al.map Qf)],.bool o.isSome]:=by
 cases o<;>rfl
def Mx(Y:YT)(m:AM)(g:Pg)(f:Int)(mid:Nat)(b:List (Int×Bool))(o:Od)(q:Pl)(V:AV)(rt:Rt)(d:Int)(hV:nc m.boxes V q.ens)(aT:D1 rt)(h:mg g f)(hb:gz m.boxes mid b)(ew:g.dr.length<=1000000000)(hq:BJ q)(dy:0<=q.ln/\q.ln<=1000000)(hd:tC d):
  an Tryz.prog aA Y 138 [.agg (Qr g f mid),.agg (Qp o),.agg (Xr q V (.sl rt (q.cls.map Qg)) d)] m (fun r m'=>m'=m/\r=.bool (Qch g f b o q d)):=by
 obtain⟨mb,ml,ms,mn⟩:=m;obtain⟨q1,q2,q3,q4,q5,q6⟩:=hq;have hc:=hV.cell;have hB:∀ex,gz (mb++ex) mid b:=fun ex=>⟨by have:=hb.1;simp at this |-;omega,hb.ext ex⟩;have ke:=fun ex K hK=>atW Y ⟨mb++ex,ml,ms,mn⟩ g f mid b o.en h (hB ex) K hK;have ki:=fun ex K hK=>an2 Y ⟨mb++ex,ml,ms,mn⟩ g f mid b o.en h (hB ex) K hK;have kn:=fun ex K hK=>Py Y ⟨mb++ex,ml,ms,mn⟩ q V rt o.en (hV.ext ex) zE q6 K hK;simp only[Qr,Qm,Qa,Jk,zzad,zzah]at ke ki kn;have k2:=j9 g.dr o.en ew;have fS:=fun ex d=>hV.bJ ex ml ms mn d;refine an.read (Xd adm (HL g f b o q d) zd ?_);cases he:DY g f b o.en with
 |true=>
  simp[E8,E9,Qr,Qm,Qa,Qp,Qd,Qg,Qi,Xr,hc,Qch,he,HL];refine ke _ _ ?_;simp[he];exact lK
 |false=>
  by_cases hm:o.en∈g.dr
  ·simp[E8,E9,Qr,Qm,Qa,Qp,Qd,Qg,Qi,Xr,hc,Qch,he,hm,HL];refine ke _ _ ?_;simp[he,hm]at k2 |-
   exact⟨k2,lK⟩
  by_cases hd1:d<1
  ·simp[E8,E9,Qr,Qm,Qa,Qp,Qd,Qg,Qi,Xr,hc,Qch,he,hm,hd1,HL];refine ke _ _ ?_;simp[he,hm,hd1]at k2 |-
   exact⟨k2,lK⟩
  simp[E8,E9,Qr,Qm,Qa,Qp,Qd,Qg,Qi,Xr,hc,Qch,he,hm,hd1,HL];refine ke _ _ ?_;simp[he,hm,hd1]at k2 |-
  refine⟨k2,kn _ _ ?_⟩;obtain⟨e,hE⟩:∃e,(Zh o.en q.ens).getD yH=e:=⟨_,rfl⟩;have kt:=fun ex K hK=>an4 Y ⟨mb++ex,ml,ms,mn⟩ q V rt e.it hc zE K hK;simp only[Jk]at kt;rw[HM];generalize rtE (Zh o.en q.ens)=r7;generalize(Zh o.en q.ens).isSome=b7;rw[hE];obtain⟨X,hX⟩:∃X,Xh e.it q.aN=X:=⟨_,rfl⟩;have w0:IntKind.i64.wrap 0=0:=by decide
  simp;refine kt _ _ ?_;cases X with
  |none=>
   simp[hX,Zk];exact .bool _
  |some x=>
   by_cases fP:x.ki=4
   ·have LR:=Qer q e.it 0 f ((BM g f b o.en).getD 0+d-f) q5 zE zE;simp only[Qa]at LR
    have sP:∀st,BM g f b o.en=some st->0<=st/\st<=1000000:=fun st hh=>by
     unfold BM at hh;split at hh
     ·cases hh
     split at hh
     ·cases hh;exact DZ h _
     cases hh
    have zW:=h.2.2.1;unfold om at zW;unfold tC at hd;simp[hX,Zk,Qn,fP];refine ki _ _ ?_;cases hi:BM g f b o.en with
    |none=>
     simp[SF];exact .bool _
    |some st=>
     have mQ:=sP st hi;have w1:IntKind.i64.wrap (q.ln-d)=q.ln-d:=by rw[Qj]<;>omega
     rw[hi]at LR;by_cases pe:q.ln-d<st
     ·simp[SF,w1,pe];exact .bool _
     have w2:IntKind.i64.wrap (st+d)=st+d:=by rw[Qj]<;>omega
     have w3:IntKind.i64.wrap (st+d-f)=st+d-f:=by rw[Qj]<;>omega
     by_cases hz:st+d-f=0
     ·simp[SF,w1,pe,w2,hz,w0];exact .bool _
     simp[SF,w1,pe,w2,w3,hz,fS,aT _ _ _];exact⟨by simpa using LR,.bool _⟩
   simp[hX,Zk,Qn,fP];exact .bool _
open Go Go.Abs
def Vb(f:Int):List bE->List (Int×Bool)->List (Int×Bool)
 |[],b=>b
 |e::r,b=>Vb f r (if e.st<f then Zr e.id true b else b)
def EN:List AV:=[I 0,I 0,I 0,I 0,.sl .nil [],I 0,I 0,I 0,I 0,.sl .nil [],.sl .nil [],.sl .nil [],.sl .nil [],.sl .nil [],.sl .nil [],I 0,.sl .nil [],I 0,I 0,.nilv false]
def r6(k:Int)(v:Bool):∀l:List (Int×Bool),(Zr k v l).length<=l.length+1
 |[]=>by simp[Zr]
 |x::r=>by
  unfold Zr;split
  ·simp
  have:=r6 k v r;simp;omega
open Go Go.Abs
def iq(c:Cue):Bool->List Cue->List Cue
 |p,[]=>if p=true then[c]else[]
 |p,x::r=>if x.id=c.id then iq c p r else if p=true/\c.id<x.id then c::x::iq c false r else x::iq c p r
def ayv(o:List Cue)(v:AV)(ls:List Nat):Prop:=(o=[]/\v=.sl .nil []/\ls=[])\/(o≠[]/\v=.sl (.own 0 5) (o.map Qi)/\ls=[o.length])
def ng(c:Cue)(l:List Cue):AV:=
 if tj c=true then
  (if 200<(iq c (!decide (c.to=0)) l).length then .aZ [.sl .nil [],I 150]
  else .aZ [.sl (if iq c (!decide (c.to=0)) l=[]then .nil else .ro) ((iq c (!decide (c.to=0)) l).map Qi),I 0])
 else .aZ [.sl .nil [],I 150]
def at1(c:Cue)(l:List Cue)(f:Nat->AV)(m:AM):Prop:=
 ∃(i:Nat)(p:Bool)(o:List Cue)(bx:List (List AV))(ls:List Nat),f 18=I i/\f 7=.bool p/\i<=l.length/\o++iq c p (l.drop i)=iq c (!decide (c.to=0)) l/\ayv o (f 6) ls/\o.length<=2*i/\
  m=⟨Qi c::bx,ls,fun _=>.gone,0⟩
def BP(l:List Cue)(c:Cue)(hl:l.length<=1000000):Pure Tryz.prog aA 69 [.sl .ro (l.map Qi),.agg (Qi c)] (ng c l):=by
 have cv:=tq c;refine Qo amb (fun _ f _=>if f=84 then .bool (tj c)else .junk) zd ?_;cases hc:tj c with
 |false=>
  rw[hc]at cv;simp[acD,EY,Qi,ng,hc];exact cv
 |true=>
  rw[hc]at cv;simp[acD,Qi];refine⟨cv,?_⟩;refine Qk fu (at1 c l) (fun f _=>l.length-(numOf (f 18)).toNat) ?_ ?_
  ·refine⟨0,!decide (c.to=0),[],[],[],zd,?_,zE,zd,.inl ⟨rfl,zd,rfl⟩,zd,by simp[Qi]⟩;simp;try(rw[zzbv];simp)
  rintro f m ⟨i,p,o,bx,ls,h18,h7,hi,hR,hO,O1,rfl⟩;rcases zzaa i l.length with ai|bz
  ·obtain⟨x,hx⟩:=aU ai;have ah:Qh (l.map Qi) i=Qi x:=Qt (by simp[hx]);have aa:(i:Int)<(l.length:Int):=zE
   have hw:=bM i zE;have hd:l.drop i=x::l.drop (i+1):=by rw[zzaf ai,(zza.1 hx).2]
   rw[hd,iq]at hR;by_cases aK:x.id=c.id
   ·rw[if_pos aK]at hR;simp[h18,h7,fu,aa,ah,hw,Qi,aK];refine⟨aP,⟨i+1,p,o,bx++[Qi x],ls,zd,zd,zE,hR,by simpa using hO,zE,by simp[Qi,aK]⟩,zE⟩
   rw[if_neg aK]at hR
   have T6:∀(z:List Cue)(row:List AV),((∃a,a∈z/\Qi a=row)\/row=Qi c\/row=Qi x)->row.length=5:=by
    rintro z row (⟨a,_,rfl⟩|rfl|rfl)<;>rfl
   by_cases hp:p=true/\c.id<x.id
   ·rw[if_pos hp]at hR;obtain⟨rfl,hp⟩:=hp;obtain⟨rfl,h6,rfl⟩|⟨ho,h6,rfl⟩:=hO
    ·simp[h18,h7,h6,fu,aa,ah,hw,Qi,aK,hp];refine⟨aP,⟨i+1,false,[c,x],bx++[Qi x],[2],zd,zd,zE,by simpa using hR,.inr ⟨zd,by simp[Qi],rfl⟩,by simp;omega,by simp[Qi]⟩,zE⟩
    simp[h18,h7,h6,fu,aa,ah,hw,Qi,aK,hp];refine⟨⟨by rintro row (⟨a,_,rfl⟩|rfl)<;>rfl,zE⟩,⟨by rintro row (⟨a,_,rfl⟩|rfl|rfl)<;>rfl,zE⟩,ag ?_,⟨i+1,false,o++[c,x],bx++[Qi x],[o.length+2],zd,zd,zE,by simpa using hR,.inr ⟨zd,by simp[Qi],zd⟩,by simp;omega,by simp[Qi]⟩,zE⟩;repeat(first|exact Qc _ _|refine Qb _ rfl ?_)
   rw[if_neg hp]at hR;obtain⟨rfl,h6,rfl⟩|⟨ho,h6,rfl⟩:=hO
   ·cases p with
    |false=>
     simp[h18,h7,h6,fu,aa,ah,hw,Qi,aK];refine⟨aP,⟨i+1,false,[x],bx++[Qi x],[1],zd,zd,zE,by simpa using hR,.inr ⟨zd,by simp[Qi],rfl⟩,by simp;omega,by simp[Qi]⟩,zE⟩
    |true=>
     have XT:¬c.id<x.id:=fun h=>hp ⟨rfl,h⟩;simp[h18,h7,h6,fu,aa,ah,hw,Qi,aK,XT];refine⟨aP,⟨i+1,true,[x],bx++[Qi x],[1],zd,zd,zE,by simpa using hR,.inr ⟨zd,by simp[Qi],rfl⟩,by simp;omega,by simp[Qi]⟩,zE⟩
   cases p with
   |false=>
    simp[h18,h7,h6,fu,aa,ah,hw,Qi,aK];refine⟨⟨by rintro row (⟨a,_,rfl⟩|rfl)<;>rfl,zE⟩,ag ?_,⟨i+1,false,o++[x],bx++[Qi x],[o.length+1],zd,zd,zE,by simpa using hR,.inr ⟨zd,by simp[Qi],zd⟩,by simp;omega,by simp[Qi]⟩,zE⟩;repeat(first|exact Qc _ _|refine Qb _ rfl ?_)
   |true=>
    have XT:¬c.id<x.id:=fun h=>hp ⟨rfl,h⟩;simp[h18,h7,h6,fu,aa,ah,hw,Qi,aK,XT];refine⟨⟨by rintro row (⟨a,_,rfl⟩|rfl)<;>rfl,zE⟩,ag ?_,⟨i+1,true,o++[x],bx++[Qi x],[o.length+1],zd,zd,zE,by simpa using hR,.inr ⟨zd,by simp[Qi],zd⟩,by simp;omega,by simp[Qi]⟩,zE⟩;repeat(first|exact Qc _ _|refine Qb _ rfl ?_)
  obtain rfl:i=l.length:=zE
  rw[zzbn,iq]at hR;obtain⟨rfl,h6,rfl⟩|⟨ho,h6,rfl⟩:=hO
  ·cases p with
   |false=>
    simp at hR;simp[h18,h7,h6,fu,EY,Qi,ng,hc,hR]
   |true=>
    simp at hR;simp[h18,h7,h6,fu,EY,Qi,ng,hc,<- hR]
  cases p with
  |false=>
   simp at hR;by_cases hb:200<o.length
   ·have cO:(200:Int)<(o.length:Int):=zE
    simp[h18,h7,h6,fu,EY,Qi,ng,hc,<- hR,hb,cO]
   have cO:¬(200:Int)<(o.length:Int):=zE
   simp[h18,h7,h6,fu,EY,Qi,ng,hc,<- hR,hb,cO,ho]
  |true=>
   simp at hR;have aH:(o++[c]).length=o.length+1:=zd
   by_cases hb:200<o.length+1
   ·have cO:(200:Int)<(o.length:Int)+1:=zE
    simp[h18,h7,h6,fu,EY,Qi,ng,hc,<- hR,hb,cO];exact⟨by rintro row (⟨a,_,rfl⟩|rfl)<;>rfl,zE⟩
   have cO:¬(200:Int)<(o.length:Int)+1:=zE
   simp[h18,h7,h6,fu,EY,Qi,ng,hc,<- hR,hb,cO,ho];exact⟨by rintro row (⟨a,_,rfl⟩|rfl)<;>rfl,zE⟩
open Go Go.Abs
def SN(p:Pl):Pl:={p with sh:=p.sh.take 10,aN:=p.aN.take 20,bks:=p.bks.take 8,cls:=p.cls.take 20,ens:=p.ens.take 10,ln:=if 600<p.ln then 600 else p.ln}
def Qdy{α:Type}(l:List α)(n:Nat):l.take (if(n:Int)<(l.length:Int)then(n:Int)else(l.length:Int)).toNat=l.take n:=by
 split
 ·simp
 rw[zzap zd,zzap zE]
def tD{a:Nat}(n:Nat):(if(n:Int)<(a:Int)then(n:Int)else(a:Int))<=a:=by split<;>omega
def tE{a:Nat}(n:Nat):0<=(if(n:Int)<(a:Int)then(n:Int)else(a:Int)):=by split<;>omega
def My(p:Pl):Pure Tryz.prog aA 28 [.agg (Qa p)] (.agg (Qa (SN p))):=by
 have t1:=Qdy (p.sh.map Qf) 10;have t2:=Qdy (p.aN.map Qn) 20;have t3:=Qdy (p.bks.map Xg) 8;have t4:=Qdy (p.cls.map Qg) 20;have t5:=Qdy (p.ens.map Qd) 10;simp only[zzbj]at t1 t2 t3 t4 t5;have a1:=tD (a:=p.sh.length) 10;have a2:=tD (a:=p.aN.length) 20;have a3:=tD (a:=p.bks.length) 8;have a4:=tD (a:=p.cls.length) 20;have a5:=tD (a:=p.ens.length) 10;have b1:=tE (a:=p.sh.length) 10;have b2:=tE (a:=p.aN.length) 20;have b3:=tE (a:=p.bks.length) 8;have b4:=tE (a:=p.cls.length) 20;have b5:=tE (a:=p.ens.length) 10;simp at a1 a2 a3 a4 a5 b1 b2 b3 b4 b5 t1 t2 t3 t4 t5;refine Qo alz (fun _ _ _=>.junk) zd ?_;simp[apQ,apR,Qa,SN,t1,t2,t3,t4,t5,a1,a2,a3,a4,a5,b1,b2,b3,b4,b5];exact⟨by rintro row a b _ rfl;rfl,fun _ _=>rfl,fun _ _=>rfl,fun _ _=>rfl,fun _ _=>rfl⟩
open Go Go.Abs
open Go Go.Abs
def HN(g:Pg)(f:Int)(q:Pl)(d:Int)(er:List AV):List AV:=[.ep (Qa q++[I d]) 0,.ep (Qm g++[I f,.junk]) 0,.ep er 0]
def Qdp(g:Pg)(f:Int)(q:Pl)(d:Int)(a0 a1 a2:AV)(fr:Int)(r:List AV)(item region:Int)(h1:q.cls.length<=1000000)(h2:q.sh.length<=1000000000)(h3:q.aN.length<=1000000000):
  Pure Tryz.prog aA 225 ([I item,I region]++HN g f q d (a0::a1::a2::I fr::r)) (.bool (Xt q item region f fr)):=by
 have k:=Qer q item region f fr h1 h2 h3;simp only[Qa]at k;refine Qo aef (fun _ _ _=>.bool (Xt q item region f fr)) (by simp[HN]) ?_;simp[ai0,ai1,HN,Qa,Qm];exact k
def iM(g:Pg)(f:Int)(o:Od)(q:Pl)(d:Int)(e:bE):Option Int:=
 if o.ki=1/\o.en=e.id then some (rX g e.id+d-f)
 else if o.ki=2/\o.en=e.id then none
 else if o.ki=4/\Xt q e.it 0 f (vg f e).fr=false then none
 else some (vg f e).fr
def tF(q:Pl)(f:Int):Nat->FuncId->List AV->AV:=fun _ k l=>if k=225 then(match l with
 |[.int _ it,.int _ re,_,_,.ep (_::_::_::.int _ F::_) 0]=>.bool (Xt q it re f F)
 |_=>.junk)else .gd false .junk
def kj(q:Pl)(f:Int)(id F:Int)(l:List Sp):List Sp:=l.filter fun a=>Xt q a.2 a.1 f F
def an5(ml:List Nat)(o:List Sp)(v:AV)(ls:List Nat):Prop:=(o=[]/\v=.sl .nil []/\ls=ml)\/(o≠[]/\v=.sl (.own ml.length 2) (o.map Qf)/\ls=ml++[o.length])
def at2(mb:List (List AV))(ml:List Nat)(ms:Nat->LS)(mn:Nat)(r0 r1 r2 pre:List AV)(al:List Sp)(A:List Sp->List Sp)(s:Nat->AV)(m:AM):Prop:=
 ∃(j:Nat)(bx:List (List AV))(ls:List Nat)(v:AV),s 106=I j/\j<=al.length/\an5 ml (A (al.take j)) v ls/\m=⟨mb++(r0::r1::r2::oo::(pre++[v])::bx),ls,ms,mn⟩
def qp(q:Pl)(f:Int)(it F:Int)(n:Nat):Int:=Un (fun r=>Xt q it r f F) n
def agx(b:Nat->Bool)(i:Nat)(h:i<8):IntKind.i64.wrap ((((Un b i%2 ^ IntKind.i64.bits).toNat|||(IntKind.i64.wrap (2 ^ min i IntKind.i64.bits)%2 ^ IntKind.i64.bits).toNat:Nat)):Int)=Un b i+2 ^ i:=by
 have fI:=D4 b i;obtain⟨x,hx⟩:∃x:Nat,Un b i=(x:Int):=⟨(Un b i).toNat,zE⟩
 have hx2:x<2 ^ i:=by
  have h2:=fI.2;rw[hx]at h2
  exact_mod_cast h2
 rw[hx];exact aaJ i h x hx2
def Mz:SC:=(⟨_,by cbv⟩:uf [1,1,1,1,1,1] AD).1
def aaK:SC:=(⟨_,fun _=>by cbv⟩:Kq [1,1,1,1,1,1] AD).1 Mz
theorem HO:AD=aaK:=rfl
def yJ(Y:YT)(mb:List (List AV))(ml:List Nat)(ms:Nat->LS)(mn:Nat)(g:Pg)(f:Int)(mid:Nat)(R1:List AV)(q:Pl)(V:AV)(rt:Rt)(d:Int)(e:bE)(F:Int)(E0:List (Nat×AV))(x5 x6:AV)(hV:nc mb V q.ens)(aT:D1 rt)(hq:BJ q)(EL:0<=q.rg/\q.rg<=8)(K:AV->AM->Prop)
  (h3:Abs.look E0 3=.ptr mb.length 0)(h5:Abs.look E0 5=.ptr (mb.length+2) 0)(h6:Abs.look E0 6=.ptr (mb.length+3) 0)(h8:Abs.look E0 8=.ptr (mb.length+4) 0)(pO:Abs.look E0 11=.fn 225 [] [.ptr (mb.length+2) 0,.ptr mb.length 0,.ptr (mb.length+4) 0])
  (h1:∀ex ls v,an5 ml (kj q f e.id F ((Zh e.id q.ens).getD yH).al) v ls->K (.aZ [.agg [I e.id,I e.it,I f,I F,I (e.i+(f-e.st)),I (qp q f e.it F q.rg.toNat),v],.bool true]) ⟨mb++ex,ls,ms,mn⟩):
  vc Tryz.prog aA (tF q f) Y Mz ⟨Xv 124 E0,⟨mb++[Qr g f mid,R1,Xr q V (.sl rt (q.cls.map Qg)) d,oo,[I e.id,I e.it,I f,I F,I (e.i+(f-e.st)),x5,x6]],ml,ms,mn⟩⟩ (w9 Tryz.prog aA (tF q f) Fa K):=by
 obtain⟨q1,q2,q3,q4,q5,q6⟩:=hq;have hc:=hV.cell;have fS:=fun ex ml d=>hV.bJ ex ml ms mn d;simp[Mz,h5,h8,Qr,Qm,Qa,Xr,oo];refine Qk KL (fun s m=>∃i:Nat,s 80=I i/\(i:Int)<=q.rg/\m=⟨mb++[Qr g f mid,R1,Xr q V (.sl rt (q.cls.map Qg)) d,oo,[I e.id,I e.it,I f,I F,I (e.i+(f-e.st)),I (qp q f e.it F i),.sl .nil []]],ml,ms,mn⟩) (fun s _=>(q.rg-numOf (s 80)).toNat) ?_ ?_
 ·exact⟨0,zd,by simp;omega,by simp[Qr,Qm,Qa,Xr,oo,qp,Un]⟩
 rintro s m ⟨i,h80,hi,rfl⟩;by_cases ai:(i:Int)<q.rg
 ·have hw:=bM i zE;have kc:=Qdp g f q d (I e.id) (I e.it) (I f) F [I (e.i+(f-e.st)),I (qp q f e.it F i),.sl .nil []] e.it i q5 zE zE;simp only[HN,Qa,Qm,zzad,zzah]at kc;simp[h8,pO,h80,KL,ai,hw,Qr,Qm,Qa,Xr,oo,tF,fS,aT _ _ _];have hor:=agx (fun r=>Xt q e.it r f F) i zE;refine⟨kc,?_⟩;have dX:qp q f e.it F (i+1)=qp q f e.it F i+if Xt q e.it (i:Int) f F=true then 2 ^ i else 0:=rfl;split
  ·rename_i ha;rw[if_pos ha]at dX;refine⟨aP,⟨i+1,zd,zE,by rw[dX];exact hor⟩,zE⟩
  rename_i ha;rw[if_neg ha]at dX;refine⟨aP,⟨i+1,zd,zE,by rw[dX];simp⟩,zE⟩
 have kn:=fun ex K hK=>Py Y ⟨mb++ex,ml,ms,mn⟩ q V rt e.id (hV.ext ex) zE q6 K hK;simp only[Jk]at kn;simp[h5,h8,h80,KL,ai,Qr,Qm,Qa,Xr,oo,tF];refine kn _ _ ?_;rw[HM];generalize rtE (Zh e.id q.ens)=r7;generalize(Zh e.id q.ens).isSome=b7;obtain⟨E,hE⟩:∃E,(Zh e.id q.ens).getD yH=E:=⟨_,rfl⟩;rw[hE]
 have hEl:E.al.length<=8796093022208:=by
  rw[<- hE];cases hf:Zh e.id q.ens with
  |none=>simp[yH]
  |some x=>exact q6 x (jT hf).1
 have hiq:i=q.rg.toNat:=zE
 rw[hE]at h1;simp[Fa];refine Qk Cs (at2 mb ml ms mn (Qr g f mid) R1 (Xr q V (.sl rt (q.cls.map Qg)) d) [I e.id,I e.it,I f,I F,I (e.i+(f-e.st)),I (qp q f e.it F i)] E.al (kj q f e.id F)) (fun s _=>E.al.length-(numOf (s 106)).toNat) ?_ ?_
 ·exact⟨0,_,ml,.sl .nil [],zd,zE,.inl ⟨by simp[kj],rfl,rfl⟩,by simp[Qr,Qm,Qa,Xr,oo];rfl⟩
 rintro s2 m ⟨j,bx,ls,v,h106,hj,hO,rfl⟩;rcases zzaa j E.al.length with RK|hgj
 ·obtain⟨a,ha⟩:=aU RK;have ah:=Zf ha;have at3:(j:Int)<(E.al.length:Int):=zE
  have hw:=bM j zE
  have bC:kj q f e.id F (E.al.take (j+1))=kj q f e.id F (E.al.take j)++if Xt q a.2 a.1 f F=true then[a]else[]:=by
   unfold kj;rw[zzas,ha,zzct];congr 1;by_cases hh:Xt q a.2 a.1 f F=true<;>simp[hh]
  have O1:(kj q f e.id F (E.al.take j)).length<=j:=by
   refine zzbg (zzbs _ _) ?_;simp;omega
  generalize kj q f e.id F (E.al.take j)=oL at hO bC O1;obtain⟨rfl,rfl,rfl⟩|⟨ho,rfl,rfl⟩:=hO
  ·have kc:=Qdp g f q d (I e.id) (I e.it) (I f) F [I (e.i+(f-e.st)),I (qp q f e.it F i),.sl .nil []] a.2 a.1 q5 zE zE;simp only[HN,Qa,Qm,zzad,zzah]at kc;simp[h8,pO,h106,Cs,at3,ah,hw,Qr,Qm,Qa,Xr,oo,tF,fS,aT _ _ _];refine⟨kc,?_⟩;split
   ·rename_i hh;rw[if_pos hh]at bC;refine⟨aP,⟨j+1,bx++[[I a.1,I a.2]],ls++[1],.sl (.own ls.length 2) [Qf a],zd,zE,.inr ⟨by rw[bC];simp,by rw[bC];rfl,by rw[bC];rfl⟩,by simp[oo,Qf]⟩,zE⟩
   rename_i hh;rw[if_neg hh]at bC;refine⟨aP,⟨j+1,bx++[[I a.1,I a.2]],ls,.sl .nil [],zd,zE,.inl ⟨by rw[bC];rfl,rfl,rfl⟩,by simp[oo]⟩,zE⟩
  have kc:=Qdp g f q d (I e.id) (I e.it) (I f) F [I (e.i+(f-e.st)),I (qp q f e.it F i),.sl .ro (oL.map Qf)] a.2 a.1 q5 zE zE;simp only[HN,Qa,Qm,zzad,zzah]at kc;simp[h8,pO,h106,Cs,at3,ah,hw,Qr,Qm,Qa,Xr,oo,tF,fS,aT _ _ _];refine⟨kc,?_⟩
  have T6:∀row:List AV,((∃x y,(x,y)∈oL/\Qf (x,y)=row)\/row=Qf a)->row.length=2:=by
   rintro row (⟨x,y,_,rfl⟩|rfl)<;>rfl
  split
  ·rename_i hh;rw[if_pos hh]at bC;refine⟨⟨T6,zE⟩,aP,⟨j+1,bx++[[I a.1,I a.2]],ml++[oL.length+1],.sl (.own ml.length 2) ((oL++[a]).map Qf),zd,zE,.inr ⟨by rw[bC];simp,by rw[bC],by rw[bC];simp⟩,by simp[oo,Qf]⟩,zE⟩
  rename_i hh;rw[if_neg hh,zzau]at bC;refine⟨aP,⟨j+1,bx++[[I a.1,I a.2]],ml++[oL.length],.sl (.own ml.length 2) (oL.map Qf),zd,zE,.inr ⟨by rw[bC];exact ho,by rw[bC],by rw[bC]⟩,by simp[oo]⟩,zE⟩
 obtain rfl:j=E.al.length:=zE
 rw[zzbu]at hO;have bO:Qw v=true:=by rcases hO with⟨_,rfl,_⟩|⟨_,rfl,_⟩<;>rfl
 have h1:=fun ex=>h1 ex ls v hO;rw[<- hiq]at h1;simp[h6,h8,h106,Cs,Qr,Qm,Qa,Xr,oo,bO];exact h1 _
def agy(Y:YT)(m:AM)(g:Pg)(f:Int)(mid:Nat)(b:List (Int×Bool))(o:Od)(q:Pl)(V:AV)(rt:Rt)(d:Int)(hV:nc m.boxes V q.ens)(aT:D1 rt)(h:mg g f)(hb:gz m.boxes mid b)(hq:BJ q)(hd:0<=d/\d<=1000000000)(EL:0<=q.rg/\q.rg<=8)(K:AV->AM->Prop)
  (h1:∀e F,Jp g f b=some e->iM g f o q d e=some F->F≠0->∀ex ls v,an5 m.lens (kj q f e.id F ((Zh e.id q.ens).getD yH).al) v ls->K (.aZ [.agg [I e.id,I e.it,I f,I F,I (e.i+(f-e.st)),I (qp q f e.it F q.rg.toNat),v],.bool true]) {m with boxes:=m.boxes++ex,lens:=ls})
  (h0:(Jp g f b).bind (iM g f o q d)=none\/(Jp g f b).bind (iM g f o q d)=some 0->∀ex,K (.aZ [.agg oo,.bool false]) {m with boxes:=m.boxes++ex}):
  an Tryz.prog aA Y 156 [.agg (Qr g f mid),.agg (Qp o),.agg (Xr q V (.sl rt (q.cls.map Qg)) d)] m K:=by
 obtain⟨mb,ml,ms,mn⟩:=m;obtain⟨q1,q2,q3,q4,q5,q6⟩:=hq;have hc:=hV.cell;have hB:∀ex,gz (mb++ex) mid b:=fun ex=>⟨by have:=hb.1;simp at this |-;omega,hb.ext ex⟩;have kp:=fun ex K hK=>akN Y ⟨mb++ex,ml,ms,mn⟩ g f mid b h (hB ex) K hK;simp only[Qr,Qm,Qa,zzad,zzah]at kp;have fS:=fun ex ml d=>hV.bJ ex ml ms mn d;cases hp:Jp g f b with
 |none=>
  have h0:=h0 (by rw[hp];exact .inl rfl);refine Xd NT (fun _ f _=>.gd false .junk) zd ?_;simp[HO,aaK,Fa,Qr,Qm,Qa,Qp,Qd,Qg,Qi,Xr,hc];refine kp _ _ ?_;simp[Ut,hp];simp[oo]at h0;exact h0 _
 |some e=>
  refine Xd NT (tF q f) zd ?_;simp[HO,aaK,Fa,Qr,Qm,Qa,Qp,Qd,Qg,Qi,Xr,hc,tF];refine kp _ _ ?_;have BF:=DZ h e.id;have zW:=h.2.2.1;unfold om at zW;by_cases dw:o.ki=1
  ·by_cases aK:o.en=e.id
   ·have w1:IntKind.i64.wrap (rX g e.id+d)=rX g e.id+d:=by rw[Qj]<;>omega
    have w2:IntKind.i64.wrap (rX g e.id+d-f)=rX g e.id+d-f:=by rw[Qj]<;>omega
    obtain⟨F,hF⟩:∃F,rX g e.id+d-f=F:=⟨_,rfl⟩;have wF:IntKind.i64.wrap F=F:=by rw[<- hF];exact w2
    have w0:IntKind.i64.wrap 0=0:=by decide
    have sD:(Jp g f b).bind (iM g f o q d)=some F:=by rw[hp];simp[iM,dw,aK,hF]
    by_cases qH:F=0
    ·have h0:=h0 (by rw[sD,qH];exact .inr rfl);simp[Ut,hp,Qe,vg,dw,aK,w1,w0,hF,qH];simp[oo]at h0;exact h0 _
    simp[Ut,hp,Qe,vg,dw,aK,w1,wF,hF,qH];refine yJ Y mb ml ms mn g f mid _ q V rt d e F _ _ _ hV aT ⟨q1,q2,q3,q4,q5,q6⟩ EL K ?_ ?_ ?_ ?_ ?_ (h1 e F hp (by simpa[hp]using sD) qH)<;>simp
   have w0:True:=trivial;obtain⟨F,hF⟩:∃F,e.fr-(f-e.st)=F:=⟨_,rfl⟩;have sD:(Jp g f b).bind (iM g f o q d)=some F:=by rw[hp];simp[iM,vg,hF,dw,aK]
   by_cases qH:F=0
   ·have h0:=h0 (by rw[sD,qH];exact .inr rfl);simp[Ut,hp,Qe,vg,dw,aK,hF,qH];simp[oo]at h0;exact h0 _
   simp[Ut,hp,Qe,vg,dw,aK,hF,qH];refine yJ Y mb ml ms mn g f mid _ q V rt d e F _ _ _ hV aT ⟨q1,q2,q3,q4,q5,q6⟩ EL K ?_ ?_ ?_ ?_ ?_ (h1 e F hp (by simpa[hp]using sD) qH)<;>simp
  by_cases dD:o.ki=2
  ·by_cases aK:o.en=e.id
   ·have w0:True:=trivial;have h0:=h0 (by rw[hp];simp[iM,dD,aK]);simp[Ut,hp,Qe,vg,dD,aK];simp[oo]at h0;exact h0 _
   have w0:True:=trivial;obtain⟨F,hF⟩:∃F,e.fr-(f-e.st)=F:=⟨_,rfl⟩;have sD:(Jp g f b).bind (iM g f o q d)=some F:=by rw[hp];simp[iM,vg,hF,dD,aK]
   by_cases qH:F=0
   ·have h0:=h0 (by rw[sD,qH];exact .inr rfl);simp[Ut,hp,Qe,vg,dD,aK,hF,qH];simp[oo]at h0;exact h0 _
   simp[Ut,hp,Qe,vg,dD,aK,hF,qH];refine yJ Y mb ml ms mn g f mid _ q V rt d e F _ _ _ hV aT ⟨q1,q2,q3,q4,q5,q6⟩ EL K ?_ ?_ ?_ ?_ ?_ (h1 e F hp (by simpa[hp]using sD) qH)<;>simp
  by_cases O4:o.ki=4
  ·cases ha0:Xt q e.it 0 f (e.fr-(f-e.st))with
   |false=>
    have h0:=h0 (by rw[hp];simp[iM,vg,O4,ha0]);have kc0:=Qdp g f q d (I e.id) (I e.it) (I f) (e.fr-(f-e.st)) [I (e.i+(f-e.st)),I e.re,.sl .ro (e.al.map Qf)] e.it 0 q5 zE zE;simp only[HN,Qa,Qm,zzad,zzah]at kc0;rw[ha0]at kc0;simp[Ut,hp,Qe,vg,O4,fS,aT _ _ _,ha0];simp[oo]at h0;exact⟨kc0,h0 _⟩
   |true=>
    obtain⟨F,hF⟩:∃F,e.fr-(f-e.st)=F:=⟨_,rfl⟩;rw[hF]at ha0;have sD:(Jp g f b).bind (iM g f o q d)=some F:=by rw[hp];simp[iM,vg,hF,O4,ha0]
    have kc0:=Qdp g f q d (I e.id) (I e.it) (I f) F [I (e.i+(f-e.st)),I e.re,.sl .ro (e.al.map Qf)] e.it 0 q5 zE zE;simp only[HN,Qa,Qm,zzad,zzah]at kc0;rw[ha0]at kc0;by_cases qH:F=0
    ·have h0:=h0 (by rw[sD,qH];exact .inr rfl);rw[qH]at ha0 kc0;simp[Ut,hp,Qe,vg,O4,fS,aT _ _ _,hF,ha0,qH];simp[oo]at h0;exact⟨kc0,h0 _⟩
    simp[Ut,hp,Qe,vg,O4,fS,aT _ _ _,hF,ha0,qH];refine⟨kc0,?_⟩;refine yJ Y mb ml ms mn g f mid _ q V rt d e F _ _ _ hV aT ⟨q1,q2,q3,q4,q5,q6⟩ EL K ?_ ?_ ?_ ?_ ?_ (h1 e F hp (by simpa[hp]using sD) qH)<;>simp
  have w0:True:=trivial;obtain⟨F,hF⟩:∃F,e.fr-(f-e.st)=F:=⟨_,rfl⟩;have sD:(Jp g f b).bind (iM g f o q d)=some F:=by rw[hp];simp[iM,vg,hF,dw,dD,O4]
  by_cases qH:F=0
  ·have h0:=h0 (by rw[sD,qH];exact .inr rfl);simp[Ut,hp,Qe,vg,dw,dD,O4,hF,qH];simp[oo]at h0;exact h0 _
  simp[Ut,hp,Qe,vg,dw,dD,O4,hF,qH];refine yJ Y mb ml ms mn g f mid _ q V rt d e F _ _ _ hV aT ⟨q1,q2,q3,q4,q5,q6⟩ EL K ?_ ?_ ?_ ?_ ?_ (h1 e F hp (by simpa[hp]using sD) qH)<;>simp
end
