import Derived.Test.YthjppoincojfkaaGreatDoorRPMbF
set_option linter.all false
set_option maxRecDepth 100000
set_option maxHeartbeats 64000000
namespace Go.Proofs.YthjppoincojfkaaGreatDoor
open Go Go.Abs
def Us(p:Pl)(V:AV):P2:=[I p.ch,I p.nu,I p.de,I p.of,.sl .ro (p.sh.map Qf),I p.ep,I p.rg,I p.ln,I p.fi,.sl .ro (p.aM.map Qj),V,.sl .ro (p.bks.map Xl),.sl .ro (p.cls.map Qg)]
def ajc(p:Pl)(mb:T5)(ml:Pa)(ms:Nat->LS)(mn:Nat)(m0:P2)(f:Nat->AV)(m:AM):Prop:=∃(i:Nat)(bx:T5),f 22=I i/\i<=p.ens.length/\m=⟨mb++(Us p (.bs (mb.length+2) 0 p.ens.length 7)::m0::(p.ens.map Qd).flatten::bx),ml,ms,mn⟩
def x9(Y:YT)(m:AM)(p:Pl)(h:Bl p)(hn:p.ens≠[])(K:So)
  (hK:∀c0 c1 bx,K (.agg (Us p (.bs (m.boxes.length+2) 0 p.ens.length 7))) {m with boxes:=m.boxes++(c0::c1::(p.ens.map Qd).flatten::bx)}):aB Tryz.prog aD Y 66 [.agg (Qa p)] m K:=by
 obtain⟨mb,ml,ms,mn⟩:=m;obtain⟨h1,h2,h3,h4,h5,h6⟩:=h;have k1:=pV p.sh zE;have k2:=pW p.aM zE;have k4:=pX p.bks zE;have k5:=Dm p.cls zE;have hsz:=kV (f:=Qd) (sz:=7) (fun _=>rfl) p.ens;refine Xn u6 (Ko p) zd ?_;have aO:p.ens.map Qd≠[]:=by simpa using hn
 simp[IY,Qa,Ko,hn];refine⟨k1,k2,xV _ _ hsz (by simpa using by omega) aO _ _ ?_⟩;simp;obtain⟨F,hF⟩:∃F,(p.ens.map Qd).flatten=F:=⟨_,rfl⟩;have hFl:F.length=p.ens.length*7:=by rw[<- hF,jM hsz];simp
 have bU:Zm F=true:=by rw[<- hF];exact kU (fun _=>rfl) _
 have hmp:∀m,F.map (bz m 4)=F:=fun m=>Va m 3 bU;rw[hF]at hK |-
 refine Qi ey (ajc p mb ml ms mn [I 0,I 0,I 0,I 0,.sl .nil [],I 0,I 0,I 0,I 0,.sl .nil [],.sl .nil [],.sl .nil [],.sl .nil []]) (fun f _=>p.ens.length-(numOf (f 22)).toNat) ?_ ?_
 ·exact⟨0,[],zd,zE,by rw[hF];simp[Us]⟩
 rintro f m ⟨i,bx,f22,hi,rfl⟩;rw[hF];rcases zzaa i p.ens.length with ai|bq
 ·obtain⟨e,he⟩:=aV ai;have aa:(i:Int)<(p.ens.length:Int):=zE
  have hw:=bP i zE;obtain⟨⟨r,hd⟩,bY⟩:=uL hsz (i:=i) (row:=Qd e) (by simp[he]);rw[hF]at hd bY;simp only[Qd,zzae,zzai]at hd bY;have GD:=Wv e (h6 e (zzad he));simp only[Qd]at GD;simp[-setA,jK,jL,f22,ey,aa,hd,bY,hFl,hw,Ko,Us];refine⟨GD,zE,aQ,⟨i+1,bx++[[I e.id,I e.it,I e.fr,I e.ea,I e.la,I e.bo,.sl .ro (e.al.map Qf)]],zd,zE,by rw[hF];simp[Us]⟩,zE⟩
 obtain rfl:i=p.ens.length:=zE
 simp[f22,ey,IZ,Ko,Us];simp[Us]at hK;exact⟨k4,k5,hK _ _ _⟩
open Go Go.Abs
def lT(g:Pg)(f:Int):Prop:=g.ev.length<=1000000000/\(∀e∈g.ev,Kz e)/\nT f/\g.p.ens.length<=1000000000
def Ll(Y:YT)(m:AM)(g:Pg)(f:Int)(mid:Nat)(id:Int)(h:lT g f)(K:So)(hK:K (I (Yi g id)) m):aB Tryz.prog aD Y 141 [.agg (Qr g f mid),I id] m K:=
 aB.mono (Q5 Y m g f mid id h.2.2.2) (by rintro r m' ⟨rfl,rfl⟩;exact hK)
def ajd(Y:YT)(m:AM)(g:Pg)(f:Int)(mid:Nat)(b:QR)(h:lT g f)(hb:fL m.boxes mid b)(K:So)(hK:K (Ur g f b) m):aB Tryz.prog aD Y 160 [.agg (Qr g f mid)] m K:=
 aB.mono (ZE Y m g f mid b h.1 h.2.1 h.2.2.1 hb) (by rintro r m' ⟨rfl,rfl⟩;exact hK)
def zb(g:Pg)(f:Int)(b:QR)(id:Int):Option Int:=match Yz g f b with
 |none=>none
 |some e=>if e.id=id then some (nV g e.id)else none
def Q6(o:Option Int):AV:=.aS [I (o.getD 0),.bool o.isSome]
def afa(Y:YT)(m:AM)(g:Pg)(f:Int)(mid:Nat)(b:QR)(id:Int)(h:lT g f)(hb:fL m.boxes mid b):
  aB Tryz.prog aD Y 143 [.agg (Qr g f mid),I id] m (fun r m'=>m'=m/\r=Q6 (zb g f b id)):=by
 obtain⟨mb,ml,ms,mn⟩:=m;have hB:∀ex,fL (mb++ex) mid b:=fun ex=>⟨by have:=hb.1;simp at this |-;omega,hb.ext ex⟩;have k:=fun ex K hK=>ajd Y ⟨mb++ex,ml,ms,mn⟩ g f mid b h (hB ex) K hK;simp only[Qr,Qm,Qa,zzae,zzai]at k;refine aB.read (Xn acu (fun _ _ _=>.gd false .junk) zd ?_);simp[ag3,ag4,Qr,Qm,Qa];refine k _ _ ?_;cases hp:Yz g f b with
 |none=>
  simp[Ur,hp,zb,Q6];exact nU
 |some e=>
  by_cases hi:e.id=id
  ·simp[Ur,hp,zb,Q6,Qe,Wp,hi];exact nU
  simp[Ur,hp,zb,Q6,Qe,Wp,hi];exact nU
def amF(Y:YT)(m:AM)(g:Pg)(f:Int)(mid:Nat)(b:QR)(id:Int)(h:lT g f)(hb:fL m.boxes mid b)(K:So)(hK:K (Q6 (zb g f b id)) m):aB Tryz.prog aD Y 143 [.agg (Qr g f mid),I id] m K:=
 aB.mono (afa Y m g f mid b id h hb) (by rintro r m' ⟨rfl,rfl⟩;exact hK)
def Dt(g:Pg)(f:Int)(b:QR)(id:Int):Bool:=oA b id&&!(zb g f b id).isSome
def afb(Y:YT)(m:AM)(g:Pg)(f:Int)(mid:Nat)(b:QR)(id:Int)(h:lT g f)(hb:fL m.boxes mid b):
  aB Tryz.prog aD Y 145 [.agg (Qr g f mid),I id] m (fun r m'=>m'=m/\r=.bool (Dt g f b id)):=by
 obtain⟨mb,ml,ms,mn⟩:=m;have hB:∀ex,fL (mb++ex) mid b:=fun ex=>⟨by have:=hb.1;simp at this |-;omega,hb.ext ex⟩;have hR:∀ex,Qh (mb++ex) mid=[.aJ 0 (bG .bool b)]:=hb.ext;have k:=fun ex K hK=>amF Y ⟨mb++ex,ml,ms,mn⟩ g f mid b id h (hB ex) K hK;simp only[Qr,Qm,Qa,zzae,zzai]at k;refine aB.read (Xn acw (fun _ _ _=>.gd false .junk) zd ?_);simp[ag5,ag6,Qr,Qm,Qa];refine k _ _ ?_;rcases Xw AV.bool id b 0 with⟨b1,b2,_⟩|⟨u,u',b1,b2,_⟩
 ·simp[Q6,Dt,oA,b1,b2,hR];exact nU
 cases u<;>simp[Q6,Dt,oA,b1,b2,hR]<;>exact nU
def ate(Y:YT)(m:AM)(g:Pg)(f:Int)(mid:Nat)(b:QR)(id:Int)(h:lT g f)(hb:fL m.boxes mid b)(K:So)(hK:K (.bool (Dt g f b id)) m):aB Tryz.prog aD Y 145 [.agg (Qr g f mid),I id] m K:=
 aB.mono (afb Y m g f mid b id h hb) (by rintro r m' ⟨rfl,rfl⟩;exact hK)
open Go Go.Abs
def Yd(n:Int):Int:=max (-9223372036854775808) (min 9223372036854775807 n)
def Q7(a b:Int)(ha:s5 a)(hb:s5 b):Pure Tryz.prog aD 142 [I a,I b] (I (Yd (a+b))):=by
 refine Qp acs (fun _ _ _=>.junk) zd ?_;unfold s5 at ha hb;by_cases c1:0<b
 ·have w1:IntKind.i64.wrap (9223372036854775807-b)=9223372036854775807-b:=by rw[Ql]<;>omega
  have c2:¬b<0:=zE
  by_cases d1:9223372036854775807-b<a
  ·have:Yd (a+b)=9223372036854775807:=by unfold Yd;omega
   simp[Af,Ag,c1,d1,w1,this]
  have w:IntKind.i64.wrap (a+b)=a+b:=by rw[Ql]<;>omega
  have:Yd (a+b)=a+b:=by unfold Yd;omega
  simp[Af,Ag,c1,c2,d1,w,w1,this]
 by_cases c2:b<0
 ·have w2:IntKind.i64.wrap (-9223372036854775808-b)= -9223372036854775808-b:=by rw[Ql]<;>omega
  by_cases d1:a< -9223372036854775808-b
  ·have:Yd (a+b)= -9223372036854775808:=by unfold Yd;omega
   simp[Af,Ag,c1,c2,d1,w2,this]
  have w:IntKind.i64.wrap (a+b)=a+b:=by rw[Ql]<;>omega
  have:Yd (a+b)=a+b:=by unfold Yd;omega
  simp[Af,Ag,c1,c2,d1,w,w2,this]
 have w:IntKind.i64.wrap (a+b)=a+b:=by rw[Ql]<;>omega
 have:Yd (a+b)=a+b:=by unfold Yd;omega
 simp[Af,Ag,c1,c2,w,this]
def Qel(a b:Int)(ha:s5 a)(hb:s5 b):Pure Tryz.prog aD 144 [I a,I b] (I (Yd (a-b))):=by
 refine Qp acv (fun _ _ _=>.junk) zd ?_;unfold s5 at ha hb;by_cases c1:b<0
 ·have w1:IntKind.i64.wrap (9223372036854775807+b)=9223372036854775807+b:=by rw[Ql]<;>omega
  have c2:¬0<b:=zE
  by_cases d1:9223372036854775807+b<a
  ·have:Yd (a-b)=9223372036854775807:=by unfold Yd;omega
   simp[Ah,Ai,c1,d1,w1,this]
  have w:IntKind.i64.wrap (a-b)=a-b:=by rw[Ql]<;>omega
  have:Yd (a-b)=a-b:=by unfold Yd;omega
  simp[Ah,Ai,c1,c2,d1,w,w1,this]
 by_cases c2:0<b
 ·have w2:IntKind.i64.wrap (-9223372036854775808+b)= -9223372036854775808+b:=by rw[Ql]<;>omega
  by_cases d1:a< -9223372036854775808+b
  ·have:Yd (a-b)= -9223372036854775808:=by unfold Yd;omega
   simp[Ah,Ai,c1,c2,d1,w2,this]
  have w:IntKind.i64.wrap (a-b)=a-b:=by rw[Ql]<;>omega
  have:Yd (a-b)=a-b:=by unfold Yd;omega
  simp[Ah,Ai,c1,c2,d1,w,w2,this]
 have w:IntKind.i64.wrap (a-b)=a-b:=by rw[Ql]<;>omega
 have:Yd (a-b)=a-b:=by unfold Yd;omega
 simp[Ah,Ai,c1,c2,w,this]
def atf:P2->AV
 |[.int _ x,.int _ y]=>I (Yd (x-y))
 |_=>.junk
def Qdz(n:Int):s5 (Yd n):=by unfold s5 Yd;omega
def Ln:∀{ens:List En}{i:Nat}{e:En},ens[i]?=some e->∃pre r:P2,pre.length=i*7/\(ens.map Qd).flatten=pre++(Qd e++r)/\∀e',((ens.set i e').map Qd).flatten=pre++(Qd e'++r)
 |[],i,e,h=>by simp at h
 |a::r,0,e,h=>by
  simp at h;subst h;exact⟨[],(r.map Qd).flatten,rfl,zd,fun e'=>zd⟩
 |a::r,i+1,e,h=>by
  obtain⟨pre,s,h1,h2,h3⟩:=Ln (ens:=r) (i:=i) (e:=e) (Nm h);exact⟨Qd a++pre,s,by simp[Qd,h1];omega,by simp[h2],fun e'=>by have:=h3 e';simp only[zzdq,zzbb,zzcj,this,zzav]⟩
def Bo(pre X Y:P2)(n:Nat)(k:Nat)(h:pre.length=n):setA (pre++X) (n+k) Y=pre++setA X k Y:=by
 subst h;induction pre with
 |nil=>simp
 |cons a r ih=>rw[zzae,zzaz,show r.length+1+k=r.length+k+1 by omega,xU,ih];rfl
def Bp(pre X:P2)(n:Nat)(k:Nat)(h:pre.length=n):(pre++X).drop (n+k)=X.drop k:=by
 subst h;simp[List.drop_append]
def Xr(p:Pl)(V W:AV)(d:Int):P2:=[I p.ch,I p.nu,I p.de,I p.of,.sl .ro (p.sh.map Qf),I p.ep,I p.rg,I p.ln,I p.fi,.sl .ro (p.aM.map Qj),V,.sl .ro (p.bks.map Xl),W,I d]
def uO:P2:=[I 0,I 0,I 0,I 0,.sl .nil [],I 0,I 0,I 0,I 0,.sl .nil [],.sl .nil [],.sl .nil [],.sl .nil [],I 0]
def tX(g:Pg)(f:Int)(b:QR)(o:Od)(e:En):Int:=match zb g f b o.en with
 |none=>Yd (e.fr+o.n)
 |some st=>if Yd (e.fr+o.n)<Yd (f-st)then Yd (f-st)else Yd (e.fr+o.n)
def Du(g:Pg)(f:Int)(b:QR)(o:Od)(e:En):En:={e with fr:=tX g f b o e,la:=if Yd (g.p.ln-tX g f b o e)<e.la then Yd (g.p.ln-tX g f b o e)else e.la}
def lU(g:Pg)(f:Int)(b:QR)(o:Od):Option (Pl×Int):=match g.p.ens[(Yi g o.en).toNat]? with
 |none=>none
 |some e=>if Yi g o.en<0 then none else some ({g.p with ens:=g.p.ens.set (Yi g o.en).toNat (Du g f b o e)},tX g f b o e)
def Dv{g:Pg}{f:Int}(h:lT g f)(id:Int):0<=nV g id/\nV g id<=1000000:=by
 unfold nV;cases hf:g.ev.find? (fun e=>decide (e.id=id))with
 |none=>simp
 |some e=>exact(h.2.1 e (zzds hf)).1
def afc(Y:YT)(m:AM)(g:Pg)(f:Int)(mid:Nat)(b:QR)(o:Od)(h:lT g f)(hp:Bl g.p)(hb:fL m.boxes mid b)(hn:s5 o.n)(dD:s5 g.p.ln)(hes:∀e∈g.p.ens,s5 e.fr)(K:So)
  (h0:lU g f b o=none->∀ex,K (.aS [.agg uO,.bool false]) {m with boxes:=m.boxes++ex})
  (h1:∀q d,lU g f b o=some (q,d)->∀ex k,m.boxes.length<=k->k<(m.boxes++ex).length->Qh (m.boxes++ex) k=(q.ens.map Qd).flatten->K (.aS [.agg (Xr q (.bs k 0 q.ens.length 7) (.sl .ro (q.cls.map Qg)) d),.bool true]) {m with boxes:=m.boxes++ex}):
  aB Tryz.prog aD Y 89 [.agg (Qr g f mid),.agg (Qq o)] m K:=by
 obtain⟨mb,ml,ms,mn⟩:=m;have hB:∀ex,fL (mb++ex) mid b:=fun ex=>⟨by have:=hb.1;simp at this |-;omega,hb.ext ex⟩;have kp:=fun ex K hK=>Ll Y ⟨mb++ex,ml,ms,mn⟩ g f mid o.en h K hK;have ki:=fun ex K hK=>amF Y ⟨mb++ex,ml,ms,mn⟩ g f mid b o.en h (hB ex) K hK;simp only[Qr,Qm,Qa,zzae,zzai]at kp ki;cases hf:g.p.ens.find? (fun e=>decide (e.id=o.en))with
 |none=>
  have sg:Yi g o.en= -1:=Qbj hf
  have hx:lU g f b o=none:=by
   unfold lU;rw[sg];split
   ·rfl
   simp
  refine Xn Tj (fun _ _ _=>.gd false .junk) zd ?_;simp[akM,akN,Qr,Qm,Qa,Qq,Qd,Qg,Qk];refine kp _ _ ?_;simp[sg];have:=h0 hx;simp[uO]at this;exact this _
 |some e=>
  obtain⟨n,g1,g2,g3⟩:=Ke (i:=0) hf;have sg:Yi g o.en=(n:Int):=by unfold Yi;rw[g1];omega
  have ai:n<g.p.ens.length:=(zza.1 g2).1;have aO:g.p.ens≠[]:=by rintro e0;rw[e0]at ai;simp at ai
  have vJ:¬(n:Int)<0:=zE
  have bZ:(n:Int)<(g.p.ens.length:Int):=zE
  have hx:lU g f b o=some ({g.p with ens:=g.p.ens.set n (Du g f b o e)},tX g f b o e):=by
   unfold lU;rw[sg];simp[g2,vJ]
  obtain⟨pre,r,q1,q2,q3⟩:=Ln g2;have hd:=fun X k=>Bp pre X (n*7) k q1;have bY:=fun X Y k=>Bo pre X Y (n*7) k q1;have h1:=h1 _ _ hx;rw[q3]at h1;have kO:=fun ex K hK=>x9 Y ⟨mb++ex,ml,ms,mn⟩ g.p hp aO K hK;simp only[Qa]at kO;rw[q2]at kO;have axY:=Q7 e.fr o.n (hes e (zzad g2)) hn;refine Xn Tj (fun _ f l=>if f=142 then I (Yd (e.fr+o.n))else if f=144 then atf l else .gd false .junk) zd ?_;simp[akM,akN,Qr,Qm,Qa,Qq,Qd,Qg,Qk];refine kp _ _ ?_;simp[sg,vJ];refine kO _ _ fun c0 c1 bx=>?_;have y8:min 1 (pre.length+(r.length+7)-(n*7+2))=1:=zE
  have hm4:min 1 (pre.length+(r.length+7)-(n*7+4))=1:=zE
  simp[-setA,jK,jL,Us,bZ,Qd,zzan,hd,y8,atf];refine⟨axY,ki _ _ ?_⟩;have hL:=fun V=>Qel g.p.ln (Yd V) dD (Qdz V);cases hi:zb g f b o.en with
  |none=>
   simp[-setA,jK,xU,jL,Q6,zzan,hd,bY,hm4];have hx2:tX g f b o e=Yd (e.fr+o.n):=by simp only[tX,hi]
   simp only[hx2,Du,zzch,Qd,zzae,zzai]at h1;refine⟨zE,hL _,zE,?_⟩;exact h1 _ (mb.length+5) zd zd zd
  |some st=>
   have atg:zb g f b o.en=some st->0<=st/\st<=1000000:=fun hh=>by
    unfold zb at hh;split at hh
    ·cases hh
    split at hh
    ·cases hh;exact Dv h _
    cases hh
   have hsb:=atg hi;have hfs:=h.2.2.1;have kd:=Qel f st (by unfold nT at hfs;unfold s5;omega) (by unfold s5;omega);simp[-setA,jK,xU,jL,Q6,zzan,hd,bY,hm4];have hx2:tX g f b o e=if Yd (e.fr+o.n)<Yd (f-st)then Yd (f-st)else Yd (e.fr+o.n):=by simp only[tX,hi]
   simp only[hx2,Du,zzch,Qd,zzae,zzai]at h1;refine⟨kd,zE,?_,zE,?_⟩
   ·have:=hL (max (Yd (e.fr+o.n)) (Yd (f-st)));split
    ·exact Qel _ _ dD (Qdz _)
    exact Qel _ _ dD (Qdz _)
   exact h1 _ (mb.length+5) zd zd zd
open Go Go.Abs
def eE(l:List En):P2:=(l.map Qd).flatten
@[simp] theorem av7:eE []=[]:=rfl
@[simp] theorem ath(e:En)(l:List En):eE (e::l)=I e.id::I e.it::I e.fr::I e.ea::I e.la::I e.bo::.sl .ro (e.al.map Qf)::eE l:=rfl
def Jb:∀l,(eE l).length=l.length*7
 |[]=>rfl
 |s::r=>by simp[Jb r];omega
def p6:∀a b,eE (a++b)=eE a++eE b
 |[],_=>rfl
 |s::r,b=>by simp[p6 r b]
def GM:∀(l:List En)(i:Nat),(eE l).drop (i*7)=eE (l.drop i)
 |[],i=>zd
 |s::r,0=>zd
 |s::r,i+1=>by rw[show(i+1)*7=i*7+1+1+1+1+1+1+1 by omega];simp[GM r i]
def Dw{l:List En}{i:Nat}{s:En}(h:l[i]?=some s):(eE l).drop (i*7)=I s.id::I s.it::I s.fr::I s.ea::I s.la::I s.bo::.sl .ro (s.al.map Qf)::eE (l.drop (i+1)):=by
 rw[GM];have ai:=(zza.1 h).1;rw[zzag ai,(zza.1 h).2];rfl
def afd(l:List En)(i:Nat)(s:En)(h:i<l.length):setA (eE l) (i*7) [I s.id,I s.it,I s.fr,I s.ea,I s.la,I s.bo,.sl .ro (s.al.map Qf)]=eE (l.set i s):=by
 obtain⟨pre,r,h1,h2,h3⟩:=Ln (ens:=l) (i:=i) (zzaf h);unfold eE;rw[h2,h3,<- h1];exact GB pre _ r _ rfl
def Lo(l:List En):Zm (eE l)=true:=kU (fun _=>rfl) l
def Q8(l:List En):aY 7 l.length (eE l)=l.map Qd:=by
 have:=Qbw (kV (f:=Qd) (sz:=7) (fun _=>rfl) l);simpa[eE]using this
def rC(row:P2):∀n,(bF n row).length=n*row.length
 |0=>by simp[bF]
 |n+1=>by simp[bF,rC row n,zzbq];omega
def nW:P2:=[I 0,I 0,I 0,I 0,I 0,I 0,.sl .nil []]
def GN:∀n,Zm (bF n nW)=true
 |0=>rfl
 |n+1=>by have:=GN n;unfold Zm at this |-;rw[bF,zzfd,this];rfl
def jP(x:Int)(e:En):Bool:=decide (e.id=x)
def ya(e:En)(a0 a1 a2 a3:AV)(x:Int)(r:P2):Pure Tryz.prog aD 147 [.agg (Qd e),.ep (a0::a1::a2::a3::I x::r) 0] (.bool (jP x e)):=by
 refine Qp acz (fun _ _ _=>.junk) zd ?_;simp[ag7,ag8,Qd,jP];rw[zzcy];simp
def afe{x:Int}{l:List En}(h:Uf (jP x) l 0= -1):l.filter (fun e=>!jP x e)=l:=by
 cases hf:l.find? (jP x)with
 |some a=>obtain⟨k,h1,_⟩:=Ke (i:=0) hf;rw[h1]at h;omega
 |none=>
  rw[List.find?_eq_none]at hf;rw[zzfx];intro a ha;simpa using hf a ha
def Om{x:Int}:∀{l:List En}{i:Nat},Uf (jP x) l i≠ -1->∃k:Nat,Uf (jP x) l i=((i+k:Nat):Int)/\k<l.length/\(l.take (k+1)).filter (fun e=>!jP x e)=l.take k
 |[],_,h=>absurd rfl h
 |s::r,i,h=>by
  simp only[Uf]at h |-
  split
  ·rename_i hs;exact⟨0,rfl,zd,by simp[hs]⟩
  rename_i hs;rw[if_neg hs]at h;obtain⟨k,h1,h2,h3⟩:=Om h;exact⟨k+1,by rw[h1];congr 1;omega,Nm h2,by simp only[zzel,zzea];simp[hs,h3]⟩
def yb(k:Int)(x:Int):UV:=fun _ f l=>if f=148 then I k else match l with
 |.agg (.int _ n::_)::_=>.bool (decide (n=x))
 |_=>.junk
def ZF(Y:YT)(l:List En)(hl:l.length<=1000000000)(B:T5)(L:Pa)(st:Nat->LS)(n id:Nat)(aL:id<B.length)(aO:l≠[])(hB:Qh B id=eE l)
  (kk:Nat)(a0 a1 a2 a3:AV)(x:Int)(r:P2)(hkk:kk<B.length)(eO:kk≠id)(hk:Qh B kk=a0::a1::a2::a3::I x::r)(bU:Zm (a0::a1::a2::a3::I x::r)=true)(K:So)
  (hK:∀(B':T5)(z:P2),bB (·=id) B B'->Qh B' id=eE (l.filter fun e=>!jP x e)++z->(l.filter fun e=>!jP x e).length*7+z.length=l.length*7->Zm z=true->K (.bs id 0 (l.filter fun e=>!jP x e).length 7) ⟨B',L,st,n⟩):
  aB Tryz.prog aD Y 146 [.bs id 0 l.length 7,.fn 147 [] [.ptr kk 0]] ⟨B,L,st,n⟩ K:=by
 have Lp:=GK l (jP x) 147 [] [.ep (a0::a1::a2::a3::I x::r) 0] hl (fun _=>rfl) (fun _=>zd) (fun e _=>ya e a0 a1 a2 a3 x r) (yb 0 x) (fun _ e _=>by simp[yb,Qd,jP]);have gz:=Va ⟨B,L,st,n⟩ 4 (Lo l);have gX:=Q8 l;have aH:=Jb l
 have hkc:∀B' d,Qh B' kk=Qh B kk->bz ⟨B',L,st,n⟩ (d+2) (.ptr kk 0)=.ep (a0::a1::a2::a3::I x::r) 0:=fun B' d h=>by
  rw[oW,Yb,h,hk,Va _ _ bU]
 refine Xn acy (yb (Uf (jP x) l 0) x) zd ?_;by_cases dA:Uf (jP x) l 0= -1
 ·have hf:=afe dA;rw[dA]at Lp;have:=hK B [] (bB.refl _ _) (by rw[hf];simpa using hB) (by rw[hf];simp) rfl;rw[hf]at this;have hc:=fun d=>hkc B d rfl;simp[-oW,MV,TI,yb,dA,hB,gz,gX,aH,hc];exact⟨Lp,this⟩
 obtain⟨k,W4,ef,Bh⟩:=Om dA;rw[zzbs]at W4;have Eb:¬(k:Int)= -1:=zE
 have KD:=bP k zE;rw[W4]at Lp;have hc:=fun d=>hkc B d rfl;simp[-oW,MV,TI,yb,W4,Eb,hB,gz,gX,aH,KD,hc];refine⟨Lp,?_⟩
 refine Qi BY (fun f m=>∃(i j:Nat)(B':T5)(L':List En),f 5=I i/\f 6=I j/\i<j/\j<=l.length/\m=⟨B',L,st,n⟩/\bB (·=id) B B'/\Qh B' id=eE L'/\L'.length=l.length/\L'.take i=(l.take j).filter (fun e=>!jP x e)/\L'.drop j=l.drop j)
  (fun f m=>l.length-(numOf (f 6)).toNat) ?_ ?_
 ·exact⟨k,k+1,B,l,zd,zd,zE,zE,rfl,bB.refl _ _,hB,rfl,Bh.symm,rfl⟩
 rintro f m ⟨i,j,B',L',h5,h6,eF,hj,rfl,nE,eP,tN,ht,hd⟩;have cH:id<B'.length:=zzba aL nE.1;have axZ:kk<B'.length:=zzba hkk nE.1;have jm:=Jb L';have hkB:Qh B' kk=Qh B kk:=nE.2 kk hkk eO;have fk:∀ex d,bz ⟨B'++ex,L,st,n⟩ (d+2) (.ptr kk 0)=.ep (a0::a1::a2::a3::I x::r) 0:=fun ex d=>hkc _ d (by rw[Qn axZ,hkB]);rcases zzaa j l.length with ai|bq
 ·obtain⟨s,hs⟩:=aV ai
  have dK:L'[j]?=some s:=by
   have:=congrArg (fun x=>x[0]?) hd;simpa[hs]using this
  have hg:=Dw dK;have dH:(j:Int)<(l.length:Int):=zE
  have aa:(i:Int)<(l.length:Int):=zE
  have wN:i<l.length:=zE
  have tU:=bP j zE;have XK:=bP i zE;have hp:=ya s a0 a1 a2 a3 x r;simp only[Qd]at hp;have bR:=afd L' i s zE;have gV:∀x,Qh (B'++x) id=eE L':=fun x=>by rw[Qn cH,eP]
  have lN:∀x v,(B'++x).set id v=B'.set id v++x:=fun x v=>Yk v cH
  have bA:(l.take (j+1)).filter (fun e=>!jP x e)=(l.take j).filter (fun e=>!jP x e)++[s].filter (fun e=>!jP x e):=by
   rw[zzb,hs,zzdg];rfl
  have hdj:L'.drop (j+1)=l.drop (j+1):=by
   have:=congrArg (List.drop 1) hd;simpa[zze,zzfe]using this
  by_cases he:s.id=x
  ·have GO:jP x s=true:=by simp[jP,he]
   rw[GO]at hp;simp[-setA,jK,jL,-oW,fk,h5,h6,dH,eP,gV,hg,BY,yb,he,tU];rw[he]at hp;refine⟨hp,aQ,⟨i,rfl,j+1,zd,zE,zE,nE.app _,?_⟩,zE⟩
   ·refine⟨L',rfl,tN,?_,hdj⟩;rw[bA,ht];simp[GO]
  have GO:jP x s=false:=by simp[jP,he]
  rw[GO]at hp;simp[-setA,jK,jL,-oW,fk,h5,h6,dH,aa,eP,gV,lN,hg,BY,yb,he,tU,XK,bR,jm,tN];refine⟨hp,⟨zE,zE⟩,aQ,⟨i+1,zd,j+1,zd,zE,zE,(nE.set (.inl rfl) _).app _,?_⟩,zE⟩
  ·refine⟨L'.set i s,by rw[Qn (Nm cH),Yg _ cH],Nm tN,?_,?_⟩
   ·rw[bA,<- ht,zzb,zzbg zE,zzfv zE];simp[GO]
   rw[zzfw zE];exact hdj
 obtain rfl:j=l.length:=zE
 rw[zzbz]at ht;have fh:(l.filter (fun e=>!jP x e)).length=i:=by rw[<- ht,zzaq];omega
 have N1:¬((l.length:Nat):Int)<(l.length:Int):=zE
 have bO:(i:Int)<=(l.length:Int):=zE
 have aa:(i:Int)<(l.length:Int):=zE
 have wN:i<l.length:=eF
 have fG:eE L'≠[]:=by
  intro h;have:=congrArg List.length h;rw[jm,tN]at this;simp at this;omega
 have qu:setA (eE L') (i*7) (bF (l.length-i) [I 0,I 0,I 0,I 0,I 0,I 0,.sl .nil []])=eE (l.filter (fun e=>!jP x e))++bF (l.length-i) nW:=by
  have e1:L'=L'.take i++L'.drop i:=zd
  conv=>lhs;rw[e1]
  rw[p6,<- ht];have e2:(eE (L'.take i)).length=i*7:=by rw[Jb,zzaq];congr 1;omega
  rw[<- e2];exact pn _ _ _ (by rw[rC,Jb];simp;omega)
 simp[-setA,h5,h6,N1,eP,aa,bO,BY,cH,fG,jm,tN,qu];refine⟨zE,?_⟩;have:=hK (B'.set id (eE (l.filter (fun e=>!jP x e))++bF (l.length-i) nW)) (bF (l.length-i) nW) (nE.set (.inl rfl) _) (Yg _ cH) (by rw[rC,fh];simp[nW];omega) (GN _);rw[fh]at this;exact this
open Go Go.Abs
def bB.form{id:Nat}{B B':T5}(h:bB (·=id) B B')(aL:id<B.length):B'=B.set id (Qh B' id)++B'.drop B.length:=by
 have hl:=h.1;apply zzcz;intro j;rcases zzaa j B.length with hj|hj
 ·rw[zzaj (Nm hj),Jj (B:=B') zE];by_cases Aq:j=id
  ·subst Aq;rw[zzbg aL]
  rw[zzbn zE,Jj hj,h.2 j hj Aq]
 rw[zzao (Nm hj),zzch,zzbl];congr 1;omega
def Q9(Y:YT)(l:List En)(hl:l.length<=1000000000)(B:T5)(L:Pa)(st:Nat->LS)(n id:Nat)(aL:id<B.length)(aO:l≠[])(hB:Qh B id=eE l)
  (kk:Nat)(a0 a1 a2 a3:AV)(x:Int)(r:P2)(hkk:kk<B.length)(eO:kk≠id)(hk:Qh B kk=a0::a1::a2::a3::I x::r)(bU:Zm (a0::a1::a2::a3::I x::r)=true)(K:So)
  (hK:∀(ex:T5)(z:P2),Zm z=true->K (.bs id 0 (l.filter fun e=>!jP x e).length 7) ⟨B.set id (eE (l.filter fun e=>!jP x e)++z)++ex,L,st,n⟩):
  aB Tryz.prog aD Y 146 [.bs id 0 l.length 7,.fn 147 [] [.ptr kk 0]] ⟨B,L,st,n⟩ K:=
 ZF Y l hl B L st n id aL aO hB kk a0 a1 a2 a3 x r hkk eO hk bU K fun B' z h1 h2 _ h4=>by
  have:=bB.form h1 aL;rw[h2]at this;rw[this];exact hK _ z h4
def rE(g:Pg)(o:Od):Option Pl:=if Yi g o.en<0 then none else some {g.p with ens:=g.p.ens.filter fun e=>!jP o.en e}
def ZG(Y:YT)(m:AM)(g:Pg)(f:Int)(mid:Nat)(o:Od)(h:lT g f)(hp:Bl g.p)(K:So)
  (h0:rE g o=none->∀ex,K (.aS [.agg uO,.bool false]) {m with boxes:=m.boxes++ex})
  (h1:∀q,rE g o=some q->∀ex k z,m.boxes.length<=k->k<(m.boxes++ex).length->Qh (m.boxes++ex) k=eE q.ens++z->Zm z=true->K (.aS [.agg (Xr q (.bs k 0 q.ens.length 7) (.sl .ro (q.cls.map Qg)) 0),.bool true]) {m with boxes:=m.boxes++ex}):
  aB Tryz.prog aD Y 91 [.agg (Qr g f mid),.agg (Qq o)] m K:=by
 obtain⟨mb,ml,ms,mn⟩:=m;have kp:=fun ex K hK=>Ll Y ⟨mb++ex,ml,ms,mn⟩ g f mid o.en h K hK;simp only[Qr,Qm,Qa,zzae,zzai]at kp;by_cases Cz:Yi g o.en<0
 ·have hx:rE g o=none:=by unfold rE;rw[if_pos Cz]
  refine Xn Tm (fun _ _ _=>.gd false .junk) zd ?_;simp[akP,akQ,Qr,Qm,Qa,Qq,Qd,Qg,Qk];refine kp _ _ ?_;simp[Cz];have:=h0 hx;simp[uO]at this;exact this _
 have hx:rE g o=some {g.p with ens:=g.p.ens.filter fun e=>!jP o.en e}:=by unfold rE;rw[if_neg Cz]
 have aO:g.p.ens≠[]:=by
  intro e;unfold Yi at Cz;rw[e]at Cz;simp[Uf]at Cz
 have h1:=h1 _ hx;have kO:=fun ex K hK=>x9 Y ⟨mb++ex,ml,ms,mn⟩ g.p hp aO K hK;simp only[Qa]at kO;have kD:=fun B id aL hB kk a0 a1 a2 a3 r hkk eO hk bU=>Q9 Y g.p.ens h.2.2.2 B ml ms mn id aL aO hB kk a0 a1 a2 a3 o.en r hkk eO hk bU;refine Xn Tm (fun _ _ _=>.gd false .junk) zd ?_;simp[akP,akQ,Qr,Qm,Qa,Qq,Qd,Qg,Qk];refine kp _ _ ?_;simp[Cz];refine kO _ _ fun c0 c1 bx=>?_;simp[Us,zzan];refine kD _ _ zd ?_ (mb.length+1) (I o.sq) (I o.ch) (I o.fr) (I o.ki) _ zd zE (by simp;rfl) ?_ _ ?_
 ·simp[eE]
 ·simp[Zm,Fu]
 intro ex z hz;simp[zzan];refine⟨zE,?_⟩;exact h1 _ (mb.length+5) z zd zd zd hz
open Go Go.Abs
def GP(Y:YT)(l:List Cl)(h:l.length<=1000000000)(m:AM)(K:So)(hK:K (.sl (.own m.lens.length 8) (l.map Qg)) {m with lens:=m.lens++[l.length]}):aB Tryz.prog aD Y 121 [.sl .ro (l.map Qg)] m K:=by
 refine Xn MN (fun _ _ _=>.junk) zd ?_;simp[Tz,TA];exact⟨⟨fun _ _=>rfl,zE⟩,hK⟩
def Jg(p:Pl)(V W:AV):P2:=[I p.ch,I p.nu,I p.de,I p.of,.sl .ro (p.sh.map Qf),I p.ep,I p.rg,I p.ln,I p.fi,.sl .ro (p.aM.map Qj),V,.sl .ro (p.bks.map Xl),W]
def yc(p:Pl):UV:=fun d f l=>if f=121 then .gd false .junk else Ko p d f l
def ZH(Y:YT)(m:AM)(p:Pl)(h:Bl p)(hn:p.ens≠[])(K:So)
  (hK:∀c0 c1 bx,K (.agg (Jg p (.bs (m.boxes.length+2) 0 p.ens.length 7) (.sl (.own m.lens.length 8) (p.cls.map Qg)))) {m with boxes:=m.boxes++(c0::c1::(p.ens.map Qd).flatten::bx),lens:=m.lens++[p.cls.length]}):aB Tryz.prog aD Y 66 [.agg (Qa p)] m K:=by
 obtain⟨mb,ml,ms,mn⟩:=m;obtain⟨h1,h2,h3,h4,h5,h6⟩:=h;have k1:=pV p.sh zE;have k2:=pW p.aM zE;have k4:=pX p.bks zE;have hsz:=kV (f:=Qd) (sz:=7) (fun _=>rfl) p.ens;refine Xn u6 (yc p) zd ?_;have aO:p.ens.map Qd≠[]:=by simpa using hn
 simp[IY,Qa,yc,Ko,hn];refine⟨k1,k2,xV _ _ hsz (by simpa using by omega) aO _ _ ?_⟩;simp;obtain⟨F,hF⟩:∃F,(p.ens.map Qd).flatten=F:=⟨_,rfl⟩;have hFl:F.length=p.ens.length*7:=by rw[<- hF,jM hsz];simp
 have bU:Zm F=true:=by rw[<- hF];exact kU (fun _=>rfl) _
 have hmp:∀m,F.map (bz m 4)=F:=fun m=>Va m 3 bU;rw[hF]at hK |-
 refine Qi ey (ajc p mb ml ms mn [I 0,I 0,I 0,I 0,.sl .nil [],I 0,I 0,I 0,I 0,.sl .nil [],.sl .nil [],.sl .nil [],.sl .nil []]) (fun f _=>p.ens.length-(numOf (f 22)).toNat) ?_ ?_
 ·exact⟨0,[],zd,zE,by rw[hF];simp[Us]⟩
 rintro f m ⟨i,bx,f22,hi,rfl⟩;rw[hF];rcases zzaa i p.ens.length with ai|bq
 ·obtain⟨e,he⟩:=aV ai;have aa:(i:Int)<(p.ens.length:Int):=zE
  have hw:=bP i zE;obtain⟨⟨r,hd⟩,bY⟩:=uL hsz (i:=i) (row:=Qd e) (by simp[he]);rw[hF]at hd bY;simp only[Qd,zzae,zzai]at hd bY;have GD:=Wv e (h6 e (zzad he));simp only[Qd]at GD;simp[-setA,jK,jL,f22,ey,aa,hd,bY,hFl,hw,yc,Ko,Us];refine⟨GD,zE,aQ,⟨i+1,bx++[[I e.id,I e.it,I e.fr,I e.ea,I e.la,I e.bo,.sl .ro (e.al.map Qf)]],zd,zE,by rw[hF];simp[Us]⟩,zE⟩
 obtain rfl:i=p.ens.length:=zE
 simp[f22,ey,IZ,yc,Ko,Us];simp[Jg]at hK;refine⟨k4,GP _ _ zE _ _ ?_⟩;simp;exact hK _ _ _
def Ra(Y:YT)(m:AM)(p:Pl)(h:Bl p)(hn:p.ens=[])(K:So)
  (hK:∀c0 c1,K (.agg (Jg p (.sl .ro []) (.sl (.own m.lens.length 8) (p.cls.map Qg)))) {m with boxes:=m.boxes++[c0,c1],lens:=m.lens++[p.cls.length]}):aB Tryz.prog aD Y 66 [.agg (Qa p)] m K:=by
 obtain⟨mb,ml,ms,mn⟩:=m;obtain⟨h1,h2,h3,h4,h5,h6⟩:=h;have k1:=pV p.sh zE;have k2:=pW p.aM zE;have k4:=pX p.bks zE;have k3:=GC;refine Xn u6 (yc p) zd ?_;simp[IY,Qa,yc,Ko,hn];refine⟨k1,k2,k3,?_⟩;refine Qi ey (fun f m=>f 22=I 0/\m=⟨mb++[[I p.ch,I p.nu,I p.de,I p.of,.sl .ro (p.sh.map Qf),I p.ep,I p.rg,I p.ln,I p.fi,.sl .ro (p.aM.map Qj),.sl .ro [],.sl .ro (p.bks.map Xl),.sl .ro (p.cls.map Qg)],[I 0,I 0,I 0,I 0,.sl .nil [],I 0,I 0,I 0,I 0,.sl .nil [],.sl .nil [],.sl .nil [],.sl .nil []]],ml,ms,mn⟩) (fun f _=>0) ?_ ?_
 ·exact⟨zd,zd⟩
 rintro f m ⟨f22,rfl⟩;simp[f22,ey,IZ,yc,Ko];refine⟨k4,GP _ _ zE _ _ ?_⟩;simp;simp[Jg]at hK;exact hK _ _
def Dx(rt:Rt):Prop:=∀m d x,bz m (d+1) (.sl rt x)=.sl .ro x
def Dx.ro:Dx .ro:=fun _ _ _=>rfl
def Dx.own(k s:Nat):Dx (.own k s):=fun _ _ _=>rfl
def mH(bx:T5)(V:AV)(l:List En):Prop:=(∃rt,V=.sl rt (l.map Qd)/\Dx rt)\/∃k z,V=.bs k 0 l.length 7/\k<bx.length/\Qh bx k=eE l++z/\Zm z=true
def GQ(n:Nat)(V:AV):Prop:=∀k o l s,V=.bs k o l s->n<=k
def GQ.sl(n:Nat)(rt:Rt)(rows:T5):GQ n (.sl rt rows):=fun _ _ _ _ h=>by cases h
def GQ.bs{n k o l s:Nat}(h:n<=k):GQ n (.bs k o l s):=fun _ _ _ _ e=>by cases e;exact h
def Dy(g:Pg)(o:Od):Pl:={g.p with cls:=g.p.cls++[o.cl]}
def ZI(Y:YT)(m:AM)(g:Pg)(f:Int)(mid:Nat)(o:Od)(hp:Bl g.p)(K:So)
  (h1:∀ex V,mH (m.boxes++ex) V g.p.ens->GQ m.boxes.length V->K (.aS [.agg (Xr (Dy g o) V (.sl (.own m.lens.length 8) ((Dy g o).cls.map Qg)) 0),.bool true]) {m with boxes:=m.boxes++ex,lens:=m.lens++[g.p.cls.length+1]}):
  aB Tryz.prog aD Y 87 [.agg (Qr g f mid),.agg (Qq o)] m K:=by
 obtain⟨mb,ml,ms,mn⟩:=m;have hc:=hp.2.2.2.2.1
 have ah:∀row:P2,((∃a,a∈g.p.cls/\Qg a=row)\/row=Qg o.cl)->row.length=8:=by
  rintro row (⟨a,_,rfl⟩|rfl)<;>rfl
 simp only[Dy,Xr,zzci,zzbb,zzcs]at h1;by_cases aO:g.p.ens=[]
 ·have kO:=fun ex K hK=>Ra Y ⟨mb++ex,ml,ms,mn⟩ g.p hp aO K hK;simp only[Qa]at kO;refine Xn Ti (fun _ _ l=>.gd false .junk) zd ?_;simp[akJ,akK,Qr,Qm,Qa,Qq,Qd,Qg,Qk];refine kO _ _ fun c0 c1=>?_;simp[Jg];refine⟨⟨ah,zE⟩,?_⟩;exact h1 _ _ (.inl ⟨.ro,by rw[aO];rfl,Dx.ro⟩) (GQ.sl _ _ _)
 have kO:=fun ex K hK=>ZH Y ⟨mb++ex,ml,ms,mn⟩ g.p hp aO K hK;simp only[Qa]at kO;refine Xn Ti (fun _ _ l=>.gd false .junk) zd ?_;simp[akJ,akK,Qr,Qm,Qa,Qq,Qd,Qg,Qk];refine kO _ _ fun c0 c1 bx=>?_;simp[Jg,zzan];refine⟨⟨ah,zE⟩,?_⟩;exact h1 _ _ (.inr ⟨mb.length+5,[],rfl,zd,by simp[eE],rfl⟩) (GQ.bs zd)
open Go Go.Abs
def mH.ext{bx:T5}{V:AV}{l:List En}(h:mH bx V l)(ex:T5):mH (bx++ex) V l:=by
 obtain h|⟨k,z,h1,h2,h3,h4⟩:=h
 ·exact .inl h
 exact .inr ⟨k,z,h1,by simp;omega,by rw[Qn h2,h3],h4⟩
def Rb(Y:YT)(m:AM)(V:AV)(L:List En)(id:Int)(hV:mH m.boxes V L)(hl:L.length<=1000000000):aB Tryz.prog aD Y 62 [V,I id,.fn 63 [] []] m (fun r m'=>m'=m/\r=sM (Xb id L)):=by
 obtain⟨mb,ml,ms,mn⟩:=m;refine aB.read ?_;obtain⟨rt,rfl,aX⟩|⟨k,z,rfl,hk,hB,hz⟩:=hV
 ·refine Xn IW (fun _ f l=>if f=63 then(match l with|[.agg (c::_)]=>c|_=>.junk)else .junk) zd ?_;simp[abF];refine Qi gG (fun f m=>∃(i:Nat)(bx:T5),f 13=I i/\i<=L.length/\Xb id (L.drop i)=Xb id L/\m=⟨mb++([I 0,I 0,I 0,I 0,I 0,I 0,.sl .nil []]::bx),ml,ms,mn⟩) (fun f _=>L.length-(numOf (f 13)).toNat) ?_ ?_
  ·exact⟨0,[],zd,zE,rfl,rfl⟩
  rintro f m ⟨i,bx,eR,hi,hf,rfl⟩;rcases zzaa i L.length with ai|bq
  ·obtain⟨x,hx⟩:=aV ai;have ah:Qh (L.map Qd) i=Qd x:=Qu (by simp[hx]);have aa:(i:Int)<(L.length:Int):=zE
   have hw:=bP i zE;have hd:L.drop i=x::L.drop (i+1):=by rw[zzag ai,(zza.1 hx).2]
   have Co:=nX x;rw[hd,Xb]at hf;by_cases aL:x.id=id
   ·rw[if_pos aL]at hf;simp[eR,aa,ah,Qd,aL,gG,IV,<- hf,sM];refine⟨by simpa[Qd,aL]using Co,nU⟩
   rw[if_neg aL]at hf;simp[eR,aa,ah,Qd,aL,gG,hw];refine⟨Co,aQ,⟨i+1,zd,zE,hf⟩,zE⟩
  rw[zzal bq]at hf;have bO:¬(i:Int)<(L.length:Int):=zE
  simp[eR,bO,gG,IV,<- hf,sM,Xb];exact nU
 have hR:∀ex,Qh (mb++ex) k=eE L++z:=fun ex=>by rw[Qn hk];exact hB
 refine Xn IW (fun _ f l=>if f=63 then(match l with|[.agg (c::_)]=>c|_=>.junk)else .junk) zd ?_;simp[abF];refine Qi gG (fun f m=>∃(i:Nat)(bx:T5),f 13=I i/\i<=L.length/\Xb id (L.drop i)=Xb id L/\m=⟨mb++([I 0,I 0,I 0,I 0,I 0,I 0,.sl .nil []]::bx),ml,ms,mn⟩) (fun f _=>L.length-(numOf (f 13)).toNat) ?_ ?_
 ·exact⟨0,[],zd,zE,rfl,rfl⟩
 rintro f m ⟨i,bx,eR,hi,hf,rfl⟩;rcases zzaa i L.length with ai|bq
 ·obtain⟨x,hx⟩:=aV ai;have hg:=Dw hx
  have ah:∀ex,(Qh (mb++ex) k).drop (i*7)=I x.id::I x.it::I x.fr::I x.ea::I x.la::I x.bo::.sl .ro (x.al.map Qf)::(eE (L.drop (i+1))++z):=fun ex=>by
   rw[hR,zzdx (by rw[Jb];omega),hg];rfl
  have aa:(i:Int)<(L.length:Int):=zE
  have hw:=bP i zE;have hd:L.drop i=x::L.drop (i+1):=by rw[zzag ai,(zza.1 hx).2]
  have Co:=nX x;rw[hd,Xb]at hf;by_cases aL:x.id=id
  ·rw[if_pos aL]at hf;simp[eR,aa,ah,Qd,aL,gG,IV,<- hf,sM];refine⟨by simpa[Qd,aL]using Co,nU⟩
  rw[if_neg aL]at hf;simp[eR,aa,ah,aL,gG,hw];refine⟨Co,aQ,⟨i+1,zd,zE,hf⟩,zE⟩
 rw[zzal bq]at hf;have bO:¬(i:Int)<(L.length:Int):=zE
 simp[eR,bO,gG,IV,<- hf,sM,Xb];exact nU
def amG(Y:YT)(m:AM)(V:AV)(L:List En)(id:Int)(hV:mH m.boxes V L)(hl:L.length<=1000000000)(K:So)(hK:K (sM (Xb id L)) m):aB Tryz.prog aD Y 62 [V,I id,.fn 63 [] []] m K:=
 aB.mono (Rb Y m V L id hV hl) (by rintro r m' ⟨rfl,rfl⟩;exact hK)
open Go Go.Abs
def nY:∀(l:List En)(z:P2),aY 7 l.length (eE l++z)=l.map Qd
 |[],z=>rfl
 |e::r,z=>by
  have:=nY r z;simp[Qd,this]
def mH.bz{bx:T5}{V:AV}{l:List En}(h:mH bx V l)(ex:T5)(ml:Pa)(ms:Nat->LS)(mn:Nat)(d:Nat):Abs.bz ⟨bx++ex,ml,ms,mn⟩ (d+2) V=.sl .ro (l.map Qd):=by
 obtain⟨rt,rfl,aX⟩|⟨k,z,rfl,hk,hB,hz⟩:=h
 ·exact aX _ _ _
 have bU:Zm (eE l++z)=true:=by have:=Lo l;unfold Zm at this hz |-;rw[zzfd,this,hz];rfl
 rw[WA,Yb,Qn hk,hB,Va _ _ bU,if_pos (by rw[zzak,Jb];omega),zzd,nY]
def mH.cell{bx:T5}{V:AV}{l:List En}(h:mH bx V l):Qx V=true:=by
 rcases h with⟨rt,rfl,aX⟩|⟨k,z,rfl,hk,hB,hz⟩<;>rfl
def Lq(Y:YT)(m:AM)(q:Pl)(V:AV)(rt:Rt)(id:Int)(hV:mH m.boxes V q.ens)(hl:q.ens.length<=1000000000)(ha:∀e∈q.ens,e.al.length<=8796093022208):
  aB Tryz.prog aD Y 29 [.agg (Jg q V (.sl rt (q.cls.map Qg))),I id] m (fun r m'=>m'=m/\r=sM (Xb id q.ens)):=by
 obtain⟨mb,ml,ms,mn⟩:=m;have hc:=hV.cell;have kf:=fun ex K hK=>amG Y ⟨mb++ex,ml,ms,mn⟩ V q.ens id (hV.ext ex) hl K hK;refine aB.read (Xn SS (fun _ f l=>if f=62 then .gd false .junk else l.headD .junk) zd ?_);simp[abu,abv,Jg,hc];refine kf _ _ ?_;cases hf:Xb id q.ens with
 |none=>
  simp[sM];exact⟨jQ,nU⟩
 |some x=>
  have hx:x∈q.ens:=by
   have:∀l:List En,Xb id l=some x->x∈l:=by
    intro l;induction l with
    |nil=>intro h;cases h
    |cons y r ih=>
     intro h;simp only[Xb]at h;split at h
     ·cases h;simp
     simp[ih h]
   exact this _ hf
  have qu:=Qcn x.al (ha x hx);simp[sM,Qd];exact⟨qu,nU⟩
def On(Y:YT)(m:AM)(q:Pl)(V:AV)(rt:Rt)(id:Int)(hV:mH m.boxes V q.ens)(hl:q.ens.length<=1000000000)(ha:∀e∈q.ens,e.al.length<=8796093022208)(K:So)(hK:K (sM (Xb id q.ens)) m):
  aB Tryz.prog aD Y 29 [.agg (Jg q V (.sl rt (q.cls.map Qg))),I id] m K:=
 aB.mono (Lq Y m q V rt id hV hl ha) (by rintro r m' ⟨rfl,rfl⟩;exact hK)
def Lr(Y:YT)(m:AM)(g:Pg)(f:Int)(mid:Nat)(o:Od)(q:Pl)(V:AV)(rt:Rt)(d:Int)(hV:mH m.boxes V q.ens):
  aB Tryz.prog aD Y 88 [.agg (Qr g f mid),.agg (Qq o),.agg (Xr q V (.sl rt (q.cls.map Qg)) d)] m (fun r m'=>m'=m/\r=.bool true):=by
 obtain⟨mb,ml,ms,mn⟩:=m;have hc:=hV.cell;refine aB.read (Xn akL (fun _ _ _=>.junk) zd ?_);simp[apv,apw,Qr,Qm,Qa,Qq,Qd,Qg,Qk,Xr,hc];exact nU
def GR(Y:YT)(m:AM)(g:Pg)(f:Int)(mid:Nat)(b:QR)(o:Od)(q:Pl)(V:AV)(rt:Rt)(d:Int)(hV:mH m.boxes V q.ens)(h:lT g f)(hb:fL m.boxes mid b):
  aB Tryz.prog aD Y 92 [.agg (Qr g f mid),.agg (Qq o),.agg (Xr q V (.sl rt (q.cls.map Qg)) d)] m (fun r m'=>m'=m/\r=.bool !(Dt g f b o.en)):=by
 obtain⟨mb,ml,ms,mn⟩:=m;have hc:=hV.cell;have hB:∀ex,fL (mb++ex) mid b:=fun ex=>⟨by have:=hb.1;simp at this |-;omega,hb.ext ex⟩;have k:=fun ex K hK=>ate Y ⟨mb++ex,ml,ms,mn⟩ g f mid b o.en h (hB ex) K hK;simp only[Qr,Qm,Qa,zzae,zzai]at k;refine aB.read (Xn akR (fun _ _ _=>.gd false .junk) zd ?_);simp[apx,apy,Qr,Qm,Qa,Qq,Qd,Qg,Qk,Xr,hc];refine k _ _ ?_;simp;exact nU
