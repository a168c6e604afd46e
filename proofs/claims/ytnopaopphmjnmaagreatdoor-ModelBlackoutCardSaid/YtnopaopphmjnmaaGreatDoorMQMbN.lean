import Derived.Test.YtnopaopphmjnmaaGreatDoorMQMbF
set_option linter.all false
set_option maxRecDepth 100000
set_option maxHeartbeats 64000000
namespace Go.Proofs.YtnopaopphmjnmaaGreatDoor
open Go Go.Abs
def Uu(p:Pl)(V:AV):List AV:=[I p.ch,I p.nu,I p.de,I p.of,.sl .ro (p.sh.map Qf),I p.ep,I p.rg,I p.ln,I p.fi,.sl .ro (p.aN.map Qn),V,.sl .ro (p.bks.map Xg),.sl .ro (p.cls.map Qg)]
def akM(p:Pl)(mb:List (List AV))(ml:List Nat)(ms:Nat->LS)(mn:Nat)(m0:List AV)(f:Nat->AV)(m:AM):Prop:=∃(i:Nat)(bx:List (List AV)),f 22=I i/\i<=p.ens.length/\m=⟨mb++(Uu p (.bs (mb.length+2) 0 p.ens.length 7)::m0::(p.ens.map Qd).flatten::bx),ml,ms,mn⟩
def yC(Y:YT)(m:AM)(p:Pl)(h:BJ p)(hn:p.ens≠[])(K:AV->AM->Prop)
  (hK:∀c0 c1 bx,K (.agg (Uu p (.bs (m.boxes.length+2) 0 p.ens.length 7))) {m with boxes:=m.boxes++(c0::c1::(p.ens.map Qd).flatten::bx)}):an Tryz.prog aA Y 61 [.agg (Qa p)] m K:=by
 obtain⟨mb,ml,ms,mn⟩:=m;obtain⟨h1,h2,h3,h4,h5,h6⟩:=h;have k1:=qf p.sh zE;have k2:=qg p.aN zE;have k4:=qh p.bks zE;have k5:=DU p.cls zE;have hsz:=Qbb (f:=Qd) (sz:=7) (fun _=>rfl) p.ens;refine Xd vu (Kr p) zd ?_;have aM:p.ens.map Qd≠[]:=by simpa using hn
 simp[J8,Qa,Kr,hn];refine⟨k1,k2,yu _ _ hsz (by simpa using by omega) aM _ _ ?_⟩;simp;obtain⟨F,hF⟩:∃F,(p.ens.map Qd).flatten=F:=⟨_,rfl⟩;have J1:F.length=p.ens.length*7:=by rw[<- hF,Qae hsz];simp
 have bZ:Zj F=true:=by rw[<- hF];exact fD (fun _=>rfl) _
 have Aj:∀m,F.map (bJ m 4)=F:=fun m=>Zp m 3 bZ;rw[hF]at hK |-
 refine Qk eN (akM p mb ml ms mn [I 0,I 0,I 0,I 0,.sl .nil [],I 0,I 0,I 0,I 0,.sl .nil [],.sl .nil [],.sl .nil [],.sl .nil []]) (fun f _=>p.ens.length-(numOf (f 22)).toNat) ?_ ?_
 ·exact⟨0,[],zd,zE,by rw[hF];simp[Uu]⟩
 rintro f m ⟨i,bx,f22,hi,rfl⟩;rw[hF];rcases zzaa i p.ens.length with ai|bz
 ·obtain⟨e,he⟩:=aU ai;have aa:(i:Int)<(p.ens.length:Int):=zE
  have hw:=bM i zE;obtain⟨⟨r,hd⟩,ct⟩:=lG hsz (i:=i) (row:=Qd e) (by simp[he]);rw[hF]at hd ct;simp only[Qd,zzad,zzah]at hd ct;have Hs:=Wv e (h6 e (zzac he));simp only[Qd]at Hs;simp[-setA,j4,j5,f22,eN,aa,hd,ct,J1,hw,Kr,Uu];refine⟨Hs,zE,aP,⟨i+1,bx++[[I e.id,I e.it,I e.fr,I e.ea,I e.la,I e.bo,.sl .ro (e.al.map Qf)]],zd,zE,by rw[hF];simp[Uu]⟩,zE⟩
 obtain rfl:i=p.ens.length:=zE
 simp[f22,eN,J9,Kr,Uu];simp[Uu]at hK;exact⟨k4,k5,hK _ _ _⟩
open Go Go.Abs
def mg(g:Pg)(f:Int):Prop:=g.ev.length<=1000000000/\(∀e∈g.ev,Ul e)/\om f/\g.p.ens.length<=1000000000
def Mp(Y:YT)(m:AM)(g:Pg)(f:Int)(mid:Nat)(id:Int)(h:mg g f)(K:AV->AM->Prop)(hK:K (I (Jj g id)) m):an Tryz.prog aA Y 211 [.agg (Qr g f mid),I id] m K:=
 an.mono (SE Y m g f mid id h.2.2.2) (by rintro r m' ⟨rfl,rfl⟩;exact hK)
def akN(Y:YT)(m:AM)(g:Pg)(f:Int)(mid:Nat)(b:List (Int×Bool))(h:mg g f)(hb:gz m.boxes mid b)(K:AV->AM->Prop)(hK:K (Ut g f b) m):an Tryz.prog aA Y 224 [.agg (Qr g f mid)] m K:=
 an.mono (aaD Y m g f mid b h.1 h.2.1 h.2.2.1 hb) (by rintro r m' ⟨rfl,rfl⟩;exact hK)
def BM(g:Pg)(f:Int)(b:List (Int×Bool))(id:Int):Option Int:=match Jp g f b with
 |none=>none
 |some e=>if e.id=id then some (rX g e.id)else none
def SF(o:Option Int):AV:=.aZ [I (o.getD 0),.bool o.isSome]
def agr(Y:YT)(m:AM)(g:Pg)(f:Int)(mid:Nat)(b:List (Int×Bool))(id:Int)(h:mg g f)(hb:gz m.boxes mid b):
  an Tryz.prog aA Y 213 [.agg (Qr g f mid),I id] m (fun r m'=>m'=m/\r=SF (BM g f b id)):=by
 obtain⟨mb,ml,ms,mn⟩:=m;have hB:∀ex,gz (mb++ex) mid b:=fun ex=>⟨by have:=hb.1;simp at this |-;omega,hb.ext ex⟩;have k:=fun ex K hK=>akN Y ⟨mb++ex,ml,ms,mn⟩ g f mid b h (hB ex) K hK;simp only[Qr,Qm,Qa,zzad,zzah]at k;refine an.read (Xd ad7 (fun _ _ _=>.gd false .junk) zd ?_);simp[aiS,aiT,Qr,Qm,Qa];refine k _ _ ?_;cases hp:Jp g f b with
 |none=>
  simp[Ut,hp,BM,SF];exact lK
 |some e=>
  by_cases hi:e.id=id
  ·simp[Ut,hp,BM,SF,Qe,vg,hi];exact lK
  simp[Ut,hp,BM,SF,Qe,vg,hi];exact lK
def an2(Y:YT)(m:AM)(g:Pg)(f:Int)(mid:Nat)(b:List (Int×Bool))(id:Int)(h:mg g f)(hb:gz m.boxes mid b)(K:AV->AM->Prop)(hK:K (SF (BM g f b id)) m):an Tryz.prog aA Y 213 [.agg (Qr g f mid),I id] m K:=
 an.mono (agr Y m g f mid b id h hb) (by rintro r m' ⟨rfl,rfl⟩;exact hK)
def DY(g:Pg)(f:Int)(b:List (Int×Bool))(id:Int):Bool:=zB b id&&!(BM g f b id).isSome
def agt(Y:YT)(m:AM)(g:Pg)(f:Int)(mid:Nat)(b:List (Int×Bool))(id:Int)(h:mg g f)(hb:gz m.boxes mid b):
  an Tryz.prog aA Y 215 [.agg (Qr g f mid),I id] m (fun r m'=>m'=m/\r=.bool (DY g f b id)):=by
 obtain⟨mb,ml,ms,mn⟩:=m;have hB:∀ex,gz (mb++ex) mid b:=fun ex=>⟨by have:=hb.1;simp at this |-;omega,hb.ext ex⟩;have hR:∀ex,Qh (mb++ex) mid=[.aL 0 (bH .bool b)]:=hb.ext;have k:=fun ex K hK=>an2 Y ⟨mb++ex,ml,ms,mn⟩ g f mid b id h (hB ex) K hK;simp only[Qr,Qm,Qa,zzad,zzah]at k;refine an.read (Xd ad9 (fun _ _ _=>.gd false .junk) zd ?_);simp[aiU,aiV,Qr,Qm,Qa];refine k _ _ ?_;rcases Xq AV.bool id b 0 with⟨b1,b2,_⟩|⟨u,u',b1,b2,_⟩
 ·simp[SF,DY,zB,b1,b2,hR];exact lK
 cases u<;>simp[SF,DY,zB,b1,b2,hR]<;>exact lK
def atW(Y:YT)(m:AM)(g:Pg)(f:Int)(mid:Nat)(b:List (Int×Bool))(id:Int)(h:mg g f)(hb:gz m.boxes mid b)(K:AV->AM->Prop)(hK:K (.bool (DY g f b id)) m):an Tryz.prog aA Y 215 [.agg (Qr g f mid),I id] m K:=
 an.mono (agt Y m g f mid b id h hb) (by rintro r m' ⟨rfl,rfl⟩;exact hK)
open Go Go.Abs
def Vx(n:Int):Int:=max (-9223372036854775808) (min 9223372036854775807 n)
def SG(a b:Int)(ha:tC a)(hb:tC b):Pure Tryz.prog aA 212 [I a,I b] (I (Vx (a+b))):=by
 refine Qo ad6 (fun _ _ _=>.junk) zd ?_;unfold tC at ha hb;by_cases c1:0<b
 ·have w1:IntKind.i64.wrap (9223372036854775807-b)=9223372036854775807-b:=by rw[Qj]<;>omega
  have c2:¬b<0:=zE
  by_cases d1:9223372036854775807-b<a
  ·have:Vx (a+b)=9223372036854775807:=by unfold Vx;omega
   simp[AI,AJ,c1,d1,w1,this]
  have w:IntKind.i64.wrap (a+b)=a+b:=by rw[Qj]<;>omega
  have:Vx (a+b)=a+b:=by unfold Vx;omega
  simp[AI,AJ,c1,c2,d1,w,w1,this]
 by_cases c2:b<0
 ·have w2:IntKind.i64.wrap (-9223372036854775808-b)= -9223372036854775808-b:=by rw[Qj]<;>omega
  by_cases d1:a< -9223372036854775808-b
  ·have:Vx (a+b)= -9223372036854775808:=by unfold Vx;omega
   simp[AI,AJ,c1,c2,d1,w2,this]
  have w:IntKind.i64.wrap (a+b)=a+b:=by rw[Qj]<;>omega
  have:Vx (a+b)=a+b:=by unfold Vx;omega
  simp[AI,AJ,c1,c2,d1,w,w2,this]
 have w:IntKind.i64.wrap (a+b)=a+b:=by rw[Qj]<;>omega
 have:Vx (a+b)=a+b:=by unfold Vx;omega
 simp[AI,AJ,c1,c2,w,this]
def Qeo(a b:Int)(ha:tC a)(hb:tC b):Pure Tryz.prog aA 214 [I a,I b] (I (Vx (a-b))):=by
 refine Qo ad8 (fun _ _ _=>.junk) zd ?_;unfold tC at ha hb;by_cases c1:b<0
 ·have w1:IntKind.i64.wrap (9223372036854775807+b)=9223372036854775807+b:=by rw[Qj]<;>omega
  have c2:¬0<b:=zE
  by_cases d1:9223372036854775807+b<a
  ·have:Vx (a-b)=9223372036854775807:=by unfold Vx;omega
   simp[AK,AL,c1,d1,w1,this]
  have w:IntKind.i64.wrap (a-b)=a-b:=by rw[Qj]<;>omega
  have:Vx (a-b)=a-b:=by unfold Vx;omega
  simp[AK,AL,c1,c2,d1,w,w1,this]
 by_cases c2:0<b
 ·have w2:IntKind.i64.wrap (-9223372036854775808+b)= -9223372036854775808+b:=by rw[Qj]<;>omega
  by_cases d1:a< -9223372036854775808+b
  ·have:Vx (a-b)= -9223372036854775808:=by unfold Vx;omega
   simp[AK,AL,c1,c2,d1,w2,this]
  have w:IntKind.i64.wrap (a-b)=a-b:=by rw[Qj]<;>omega
  have:Vx (a-b)=a-b:=by unfold Vx;omega
  simp[AK,AL,c1,c2,d1,w,w2,this]
 have w:IntKind.i64.wrap (a-b)=a-b:=by rw[Qj]<;>omega
 have:Vx (a-b)=a-b:=by unfold Vx;omega
 simp[AK,AL,c1,c2,w,this]
def atX:List AV->AV
 |[.int _ x,.int _ y]=>I (Vx (x-y))
 |_=>.junk
def Qea(n:Int):tC (Vx n):=by unfold tC Vx;omega
def Mq:∀{ens:List En}{i:Nat}{e:En},ens[i]?=some e->∃pre r:List AV,pre.length=i*7/\(ens.map Qd).flatten=pre++(Qd e++r)/\∀e',((ens.set i e').map Qd).flatten=pre++(Qd e'++r)
 |[],i,e,h=>by simp at h
 |a::r,0,e,h=>by
  simp at h;subst h;exact⟨[],(r.map Qd).flatten,rfl,zd,fun e'=>zd⟩
 |a::r,i+1,e,h=>by
  obtain⟨pre,s,h1,h2,h3⟩:=Mq (ens:=r) (i:=i) (e:=e) (by simpa using h);exact⟨Qd a++pre,s,by simp[Qd,h1];omega,by simp[h2],fun e'=>by have:=h3 e';simp only[zzdz,zzay,zzcl,this,zzb]⟩
def BN(pre X Y:List AV)(n:Nat)(k:Nat)(h:pre.length=n):setA (pre++X) (n+k) Y=pre++setA X k Y:=by
 subst h;induction pre with
 |nil=>simp
 |cons a r ih=>rw[zzad,zzbe,show r.length+1+k=r.length+k+1 by omega,yt,ih];rfl
def BO(pre X:List AV)(n:Nat)(k:Nat)(h:pre.length=n):(pre++X).drop (n+k)=X.drop k:=by
 subst h;simp[List.drop_append]
def Xr(p:Pl)(V W:AV)(d:Int):List AV:=[I p.ch,I p.nu,I p.de,I p.of,.sl .ro (p.sh.map Qf),I p.ep,I p.rg,I p.ln,I p.fi,.sl .ro (p.aN.map Qn),V,.sl .ro (p.bks.map Xg),W,I d]
def vh:List AV:=[I 0,I 0,I 0,I 0,.sl .nil [],I 0,I 0,I 0,I 0,.sl .nil [],.sl .nil [],.sl .nil [],.sl .nil [],I 0]
def uA(g:Pg)(f:Int)(b:List (Int×Bool))(o:Od)(e:En):Int:=match BM g f b o.en with
 |none=>Vx (e.fr+o.n)
 |some st=>if Vx (e.fr+o.n)<Vx (f-st)then Vx (f-st)else Vx (e.fr+o.n)
def SH(g:Pg)(f:Int)(b:List (Int×Bool))(o:Od)(e:En):En:={e with fr:=uA g f b o e,la:=if Vx (g.p.ln-uA g f b o e)<e.la then Vx (g.p.ln-uA g f b o e)else e.la}
def rY(g:Pg)(f:Int)(b:List (Int×Bool))(o:Od):Option (Pl×Int):=match g.p.ens[(Jj g o.en).toNat]? with
 |none=>none
 |some e=>if Jj g o.en<0 then none else some ({g.p with ens:=g.p.ens.set (Jj g o.en).toNat (SH g f b o e)},uA g f b o e)
def DZ{g:Pg}{f:Int}(h:mg g f)(id:Int):0<=rX g id/\rX g id<=1000000:=by
 unfold rX;cases hf:g.ev.find? (fun e=>decide (e.id=id))with
 |none=>simp
 |some e=>exact(h.2.1 e (zzee hf)).1
def agu(Y:YT)(m:AM)(g:Pg)(f:Int)(mid:Nat)(b:List (Int×Bool))(o:Od)(h:mg g f)(hp:BJ g.p)(hb:gz m.boxes mid b)(hn:tC o.n)(dy:tC g.p.ln)(hes:∀e∈g.p.ens,tC e.fr)(K:AV->AM->Prop)
  (h0:rY g f b o=none->∀ex,K (.aZ [.agg vh,.bool false]) {m with boxes:=m.boxes++ex})
  (h1:∀q d,rY g f b o=some (q,d)->∀ex k,m.boxes.length<=k->k<(m.boxes++ex).length->Qh (m.boxes++ex) k=(q.ens.map Qd).flatten->K (.aZ [.agg (Xr q (.bs k 0 q.ens.length 7) (.sl .ro (q.cls.map Qg)) d),.bool true]) {m with boxes:=m.boxes++ex}):
  an Tryz.prog aA Y 137 [.agg (Qr g f mid),.agg (Qp o)] m K:=by
 obtain⟨mb,ml,ms,mn⟩:=m;have hB:∀ex,gz (mb++ex) mid b:=fun ex=>⟨by have:=hb.1;simp at this |-;omega,hb.ext ex⟩;have kp:=fun ex K hK=>Mp Y ⟨mb++ex,ml,ms,mn⟩ g f mid o.en h K hK;have ki:=fun ex K hK=>an2 Y ⟨mb++ex,ml,ms,mn⟩ g f mid b o.en h (hB ex) K hK;simp only[Qr,Qm,Qa,zzad,zzah]at kp ki;cases hf:g.p.ens.find? (fun e=>decide (e.id=o.en))with
 |none=>
  have gM:Jj g o.en= -1:=Qdk hf
  have hx:rY g f b o=none:=by
   unfold rY;rw[gM];split
   ·rfl
   simp
  refine Xd NP (fun _ _ _=>.gd false .junk) zd ?_;simp[VD,VE,Qr,Qm,Qa,Qp,Qd,Qg,Qi];refine kp _ _ ?_;simp[gM];have:=h0 hx;simp[vh]at this;exact this _
 |some e=>
  obtain⟨n,g1,g2,g3⟩:=Wm (i:=0) hf;have gM:Jj g o.en=(n:Int):=by unfold Jj;rw[g1];omega
  have ai:n<g.p.ens.length:=(zza.1 g2).1;have aM:g.p.ens≠[]:=by rintro e0;rw[e0]at ai;simp at ai
  have A0:¬(n:Int)<0:=zE
  have ck:(n:Int)<(g.p.ens.length:Int):=zE
  have hx:rY g f b o=some ({g.p with ens:=g.p.ens.set n (SH g f b o e)},uA g f b o e):=by
   unfold rY;rw[gM];simp[g2,A0]
  obtain⟨pre,r,q1,q2,q3⟩:=Mq g2;have hd:=fun X k=>BO pre X (n*7) k q1;have ct:=fun X Y k=>BN pre X Y (n*7) k q1;have h1:=h1 _ _ hx;rw[q3]at h1;have kO:=fun ex K hK=>yC Y ⟨mb++ex,ml,ms,mn⟩ g.p hp aM K hK;simp only[Qa]at kO;rw[q2]at kO;have ayt:=SG e.fr o.n (hes e (zzac g2)) hn;refine Xd NP (fun _ f l=>if f=212 then I (Vx (e.fr+o.n))else if f=214 then atX l else .gd false .junk) zd ?_;simp[VD,VE,Qr,Qm,Qa,Qp,Qd,Qg,Qi];refine kp _ _ ?_;simp[gM,A0];refine kO _ _ fun c0 c1 bx=>?_;have zo:min 1 (pre.length+(r.length+7)-(n*7+2))=1:=zE
  have hm4:min 1 (pre.length+(r.length+7)-(n*7+4))=1:=zE
  simp[-setA,j4,j5,Uu,ck,Qd,zzao,hd,zo,atX];refine⟨ayt,ki _ _ ?_⟩;have hL:=fun V=>Qeo g.p.ln (Vx V) dy (Qea V);cases hi:BM g f b o.en with
  |none=>
   simp[-setA,j4,yt,j5,SF,zzao,hd,ct,hm4];have hx2:uA g f b o e=Vx (e.fr+o.n):=by simp only[uA,hi]
   simp only[hx2,SH,zzck,Qd,zzad,zzah]at h1;refine⟨zE,hL _,zE,?_⟩;exact h1 _ (mb.length+5) zd zd zd
  |some st=>
   have atY:BM g f b o.en=some st->0<=st/\st<=1000000:=fun hh=>by
    unfold BM at hh;split at hh
    ·cases hh
    split at hh
    ·cases hh;exact DZ h _
    cases hh
   have T3:=atY hi;have zW:=h.2.2.1;have kd:=Qeo f st (by unfold om at zW;unfold tC;omega) (by unfold tC;omega);simp[-setA,j4,yt,j5,SF,zzao,hd,ct,hm4];have hx2:uA g f b o e=if Vx (e.fr+o.n)<Vx (f-st)then Vx (f-st)else Vx (e.fr+o.n):=by simp only[uA,hi]
   simp only[hx2,SH,zzck,Qd,zzad,zzah]at h1;refine⟨kd,zE,?_,zE,?_⟩
   ·have:=hL (max (Vx (e.fr+o.n)) (Vx (f-st)));split
    ·exact Qeo _ _ dy (Qea _)
    exact Qeo _ _ dy (Qea _)
   exact h1 _ (mb.length+5) zd zd zd
open Go Go.Abs
def eY(l:List En):List AV:=(l.map Qd).flatten
@[simp] theorem aw1:eY []=[]:=rfl
@[simp] theorem atZ(e:En)(l:List En):eY (e::l)=I e.id::I e.it::I e.fr::I e.ea::I e.la::I e.bo::.sl .ro (e.al.map Qf)::eY l:=rfl
def Jg:∀l,(eY l).length=l.length*7
 |[]=>rfl
 |s::r=>by simp[Jg r];omega
def qn:∀a b,eY (a++b)=eY a++eY b
 |[],_=>rfl
 |s::r,b=>by simp[qn r b]
def HE:∀(l:List En)(i:Nat),(eY l).drop (i*7)=eY (l.drop i)
 |[],i=>zd
 |s::r,0=>zd
 |s::r,i+1=>by rw[show(i+1)*7=i*7+1+1+1+1+1+1+1 by omega];simp[HE r i]
def D0{l:List En}{i:Nat}{s:En}(h:l[i]?=some s):(eY l).drop (i*7)=I s.id::I s.it::I s.fr::I s.ea::I s.la::I s.bo::.sl .ro (s.al.map Qf)::eY (l.drop (i+1)):=by
 rw[HE];have ai:=(zza.1 h).1;rw[zzaf ai,(zza.1 h).2];rfl
def agv(l:List En)(i:Nat)(s:En)(h:i<l.length):setA (eY l) (i*7) [I s.id,I s.it,I s.fr,I s.ea,I s.la,I s.bo,.sl .ro (s.al.map Qf)]=eY (l.set i s):=by
 obtain⟨pre,r,h1,h2,h3⟩:=Mq (ens:=l) (i:=i) (zzae h);unfold eY;rw[h2,h3,<- h1];exact Hq pre _ r _ rfl
def Mr(l:List En):Zj (eY l)=true:=fD (fun _=>rfl) l
def SI(l:List En):bh 7 l.length (eY l)=l.map Qd:=by
 have:=Ju (Qbb (f:=Qd) (sz:=7) (fun _=>rfl) l);simpa[eY]using this
def rZ(row:List AV):∀n,(bK n row).length=n*row.length
 |0=>by simp[bK]
 |n+1=>by simp[bK,rZ row n,zzbr];omega
def oo:List AV:=[I 0,I 0,I 0,I 0,I 0,I 0,.sl .nil []]
def HF:∀n,Zj (bK n oo)=true
 |0=>rfl
 |n+1=>by have:=HF n;unfold Zj at this |-;rw[bK,zzfk,this];rfl
def mZ(x:Int)(e:En):Bool:=decide (e.id=x)
def yD(e:En)(a0 a1 a2 a3:AV)(x:Int)(r:List AV):Pure Tryz.prog aA 217 [.agg (Qd e),.ep (a0::a1::a2::a3::I x::r) 0] (.bool (mZ x e)):=by
 refine Qo aeb (fun _ _ _=>.junk) zd ?_;simp[aiW,aiX,Qd,mZ];rw[zzbv];simp
def agw{x:Int}{l:List En}(h:Ux (mZ x) l 0= -1):l.filter (fun e=>!mZ x e)=l:=by
 cases hf:l.find? (mZ x)with
 |some a=>obtain⟨k,h1,_⟩:=Wm (i:=0) hf;rw[h1]at h;omega
 |none=>
  rw[List.find?_eq_none]at hf;rw[zzel];intro a ha;simpa using hf a ha
def Px{x:Int}:∀{l:List En}{i:Nat},Ux (mZ x) l i≠ -1->∃k:Nat,Ux (mZ x) l i=((i+k:Nat):Int)/\k<l.length/\(l.take (k+1)).filter (fun e=>!mZ x e)=l.take k
 |[],_,h=>absurd rfl h
 |s::r,i,h=>by
  simp only[Ux]at h |-
  split
  ·rename_i hs;exact⟨0,rfl,zd,by simp[hs]⟩
  rename_i hs;rw[if_neg hs]at h;obtain⟨k,h1,h2,h3⟩:=Px h;exact⟨k+1,by rw[h1];congr 1;omega,by simpa using h2,by simp only[zzem,zzei];simp[hs,h3]⟩
def yE(k:Int)(x:Int):Nat->FuncId->List AV->AV:=fun _ f l=>if f=218 then I k else match l with
 |.agg (.int _ n::_)::_=>.bool (decide (n=x))
 |_=>.junk
def aaE(Y:YT)(l:List En)(hl:l.length<=1000000000)(B:List (List AV))(L:List Nat)(st:Nat->LS)(n id:Nat)(aK:id<B.length)(aM:l≠[])(hB:Qh B id=eY l)
  (kk:Nat)(a0 a1 a2 a3:AV)(x:Int)(r:List AV)(hkk:kk<B.length)(fP:kk≠id)(hk:Qh B kk=a0::a1::a2::a3::I x::r)(bZ:Zj (a0::a1::a2::a3::I x::r)=true)(K:AV->AM->Prop)
  (hK:∀(B':List (List AV))(z:List AV),bw (·=id) B B'->Qh B' id=eY (l.filter fun e=>!mZ x e)++z->(l.filter fun e=>!mZ x e).length*7+z.length=l.length*7->Zj z=true->K (.bs id 0 (l.filter fun e=>!mZ x e).length 7) ⟨B',L,st,n⟩):
  an Tryz.prog aA Y 216 [.bs id 0 l.length 7,.fn 217 [] [.ptr kk 0]] ⟨B,L,st,n⟩ K:=by
 have Ms:=HC l (mZ x) 217 [] [.ep (a0::a1::a2::a3::I x::r) 0] hl (fun _=>rfl) (fun _=>zd) (fun e _=>yD e a0 a1 a2 a3 x r) (yE 0 x) (fun _ e _=>by simp[yE,Qd,mZ]);have fS:=Zp ⟨B,L,st,n⟩ 4 (Mr l);have fQ:=SI l;have aH:=Jg l
 have hkc:∀B' d,Qh B' kk=Qh B kk->bJ ⟨B',L,st,n⟩ (d+2) (.ptr kk 0)=.ep (a0::a1::a2::a3::I x::r) 0:=fun B' d h=>by
  rw[pH,Vp,h,hk,Zp _ _ bZ]
 refine Xd aea (yE (Ux (mZ x) l 0) x) zd ?_;by_cases dw:Ux (mZ x) l 0= -1
 ·have hf:=agw dw;rw[dw]at Ms;have:=hK B [] (bw.refl _ _) (by rw[hf];simpa using hB) (by rw[hf];simp) rfl;rw[hf]at this;have hc:=fun d=>hkc B d rfl;simp[-pH,N9,V6,yE,dw,hB,fS,fQ,aH,hc];exact⟨Ms,this⟩
 obtain⟨k,Y5,dD,Bw⟩:=Px dw;rw[zzbw]at Y5;have EG:¬(k:Int)= -1:=zE
 have Y6:=bM k zE;rw[Y5]at Ms;have hc:=fun d=>hkc B d rfl;simp[-pH,N9,V6,yE,Y5,EG,hB,fS,fQ,aH,Y6,hc];refine⟨Ms,?_⟩
 refine Qk CD (fun f m=>∃(i j:Nat)(B':List (List AV))(L':List En),f 5=I i/\f 6=I j/\i<j/\j<=l.length/\m=⟨B',L,st,n⟩/\bw (·=id) B B'/\Qh B' id=eY L'/\L'.length=l.length/\L'.take i=(l.take j).filter (fun e=>!mZ x e)/\L'.drop j=l.drop j)
  (fun f m=>l.length-(numOf (f 6)).toNat) ?_ ?_
 ·exact⟨k,k+1,B,l,zd,zd,zE,zE,rfl,bw.refl _ _,hB,rfl,Bw.symm,rfl⟩
 rintro f m ⟨i,j,B',L',h5,h6,eE,hj,rfl,eU,qD,ug,ht,hd⟩;have cL:id<B'.length:=zzaz aK eU.1;have ayu:kk<B'.length:=zzaz hkk eU.1;have jP:=Jg L';have hkB:Qh B' kk=Qh B kk:=eU.2 kk hkk fP;have fN:∀ex d,bJ ⟨B'++ex,L,st,n⟩ (d+2) (.ptr kk 0)=.ep (a0::a1::a2::a3::I x::r) 0:=fun ex d=>hkc _ d (by rw[Ql ayu,hkB]);rcases zzaa j l.length with ai|bz
 ·obtain⟨s,hs⟩:=aU ai
  have iQ:L'[j]?=some s:=by
   have:=congrArg (fun x=>x[0]?) hd;simpa[hs]using this
  have hg:=D0 iQ;have eV:(j:Int)<(l.length:Int):=zE
  have aa:(i:Int)<(l.length:Int):=zE
  have xk:i<l.length:=zE
  have xP:=bM j zE;have LH:=bM i zE;have hp:=yD s a0 a1 a2 a3 x r;simp only[Qd]at hp;have bY:=agv L' i s zE;have iE:∀x,Qh (B'++x) id=eY L':=fun x=>by rw[Ql cL,qD]
  have lY:∀x v,(B'++x).set id v=B'.set id v++x:=fun x v=>Ym v cL
  have bC:(l.take (j+1)).filter (fun e=>!mZ x e)=(l.take j).filter (fun e=>!mZ x e)++[s].filter (fun e=>!mZ x e):=by
   rw[zzas,hs,zzct];rfl
  have hdj:L'.drop (j+1)=l.drop (j+1):=by
   have:=congrArg (List.drop 1) hd;simpa[zzdx,zzfl]using this
  by_cases he:s.id=x
  ·have HG:mZ x s=true:=by simp[mZ,he]
   rw[HG]at hp;simp[-setA,j4,j5,-pH,fN,h5,h6,eV,qD,iE,hg,CD,yE,he,xP];rw[he]at hp;refine⟨hp,aP,⟨i,rfl,j+1,zd,zE,zE,eU.app _,?_⟩,zE⟩
   ·refine⟨L',rfl,ug,?_,hdj⟩;rw[bC,ht];simp[HG]
  have HG:mZ x s=false:=by simp[mZ,he]
  rw[HG]at hp;simp[-setA,j4,j5,-pH,fN,h5,h6,eV,aa,qD,iE,lY,hg,CD,yE,he,xP,LH,bY,jP,ug];refine⟨hp,⟨zE,zE⟩,aP,⟨i+1,zd,j+1,zd,zE,zE,(eU.set (.inl rfl) _).app _,?_⟩,zE⟩
  ·refine⟨L'.set i s,by rw[Ql (by simpa using cL),Vs _ cL],by simpa using ug,?_,?_⟩
   ·rw[bC,<- ht,zzas,zzba zE,zzgd zE];simp[HG]
   rw[zzge zE];exact hdj
 obtain rfl:j=l.length:=zE
 rw[zzbu]at ht;have eG:(l.filter (fun e=>!mZ x e)).length=i:=by rw[<- ht,zzaq];omega
 have O5:¬((l.length:Nat):Int)<(l.length:Int):=zE
 have bL:(i:Int)<=(l.length:Int):=zE
 have aa:(i:Int)<(l.length:Int):=zE
 have xk:i<l.length:=eE
 have eF:eY L'≠[]:=by
  intro h;have:=congrArg List.length h;rw[jP,ug]at this;simp at this;omega
 have oF:setA (eY L') (i*7) (bK (l.length-i) [I 0,I 0,I 0,I 0,I 0,I 0,.sl .nil []])=eY (l.filter (fun e=>!mZ x e))++bK (l.length-i) oo:=by
  have e1:L'=L'.take i++L'.drop i:=zd
  conv=>lhs;rw[e1]
  rw[qn,<- ht];have e2:(eY (L'.take i)).length=i*7:=by rw[Jg,zzaq];congr 1;omega
  rw[<- e2];exact pJ _ _ _ (by rw[rZ,Jg];simp;omega)
 simp[-setA,h5,h6,O5,qD,aa,bL,CD,cL,eF,jP,ug,oF];refine⟨zE,?_⟩;have:=hK (B'.set id (eY (l.filter (fun e=>!mZ x e))++bK (l.length-i) oo)) (bK (l.length-i) oo) (eU.set (.inl rfl) _) (Vs _ cL) (by rw[rZ,eG];simp[oo];omega) (HF _);rw[eG]at this;exact this
open Go Go.Abs
def bw.form{id:Nat}{B B':List (List AV)}(h:bw (·=id) B B')(aK:id<B.length):B'=B.set id (Qh B' id)++B'.drop B.length:=by
 have hl:=h.1;apply zzcm;intro j;rcases zzaa j B.length with hj|hj
 ·rw[zzag (by simpa using hj),Ug (B:=B') zE];by_cases AT:j=id
  ·subst AT;rw[zzba aK]
  rw[zzbf zE,Ug hj,h.2 j hj AT]
 rw[zzal (by simpa using hj),zzck,zzbm];congr 1;omega
def SJ(Y:YT)(l:List En)(hl:l.length<=1000000000)(B:List (List AV))(L:List Nat)(st:Nat->LS)(n id:Nat)(aK:id<B.length)(aM:l≠[])(hB:Qh B id=eY l)
  (kk:Nat)(a0 a1 a2 a3:AV)(x:Int)(r:List AV)(hkk:kk<B.length)(fP:kk≠id)(hk:Qh B kk=a0::a1::a2::a3::I x::r)(bZ:Zj (a0::a1::a2::a3::I x::r)=true)(K:AV->AM->Prop)
  (hK:∀(ex:List (List AV))(z:List AV),Zj z=true->K (.bs id 0 (l.filter fun e=>!mZ x e).length 7) ⟨B.set id (eY (l.filter fun e=>!mZ x e)++z)++ex,L,st,n⟩):
  an Tryz.prog aA Y 216 [.bs id 0 l.length 7,.fn 217 [] [.ptr kk 0]] ⟨B,L,st,n⟩ K:=
 aaE Y l hl B L st n id aK aM hB kk a0 a1 a2 a3 x r hkk fP hk bZ K fun B' z h1 h2 _ h4=>by
  have:=bw.form h1 aK;rw[h2]at this;rw[this];exact hK _ z h4
def yF(g:Pg)(o:Od):Option Pl:=if Jj g o.en<0 then none else some {g.p with ens:=g.p.ens.filter fun e=>!mZ o.en e}
def aaF(Y:YT)(m:AM)(g:Pg)(f:Int)(mid:Nat)(o:Od)(h:mg g f)(hp:BJ g.p)(K:AV->AM->Prop)
  (h0:yF g o=none->∀ex,K (.aZ [.agg vh,.bool false]) {m with boxes:=m.boxes++ex})
  (h1:∀q,yF g o=some q->∀ex k z,m.boxes.length<=k->k<(m.boxes++ex).length->Qh (m.boxes++ex) k=eY q.ens++z->Zj z=true->K (.aZ [.agg (Xr q (.bs k 0 q.ens.length 7) (.sl .ro (q.cls.map Qg)) 0),.bool true]) {m with boxes:=m.boxes++ex}):
  an Tryz.prog aA Y 139 [.agg (Qr g f mid),.agg (Qp o)] m K:=by
 obtain⟨mb,ml,ms,mn⟩:=m;have kp:=fun ex K hK=>Mp Y ⟨mb++ex,ml,ms,mn⟩ g f mid o.en h K hK;simp only[Qr,Qm,Qa,zzad,zzah]at kp;by_cases C2:Jj g o.en<0
 ·have hx:yF g o=none:=by unfold yF;rw[if_pos C2]
  refine Xd NQ (fun _ _ _=>.gd false .junk) zd ?_;simp[VF,VG,Qr,Qm,Qa,Qp,Qd,Qg,Qi];refine kp _ _ ?_;simp[C2];have:=h0 hx;simp[vh]at this;exact this _
 have hx:yF g o=some {g.p with ens:=g.p.ens.filter fun e=>!mZ o.en e}:=by unfold yF;rw[if_neg C2]
 have aM:g.p.ens≠[]:=by
  intro e;unfold Jj at C2;rw[e]at C2;simp[Ux]at C2
 have h1:=h1 _ hx;have kO:=fun ex K hK=>yC Y ⟨mb++ex,ml,ms,mn⟩ g.p hp aM K hK;simp only[Qa]at kO;have kD:=fun B id aK hB kk a0 a1 a2 a3 r hkk fP hk bZ=>SJ Y g.p.ens h.2.2.2 B ml ms mn id aK aM hB kk a0 a1 a2 a3 o.en r hkk fP hk bZ;refine Xd NQ (fun _ _ _=>.gd false .junk) zd ?_;simp[VF,VG,Qr,Qm,Qa,Qp,Qd,Qg,Qi];refine kp _ _ ?_;simp[C2];refine kO _ _ fun c0 c1 bx=>?_;simp[Uu,zzao];refine kD _ _ zd ?_ (mb.length+1) (I o.sq) (I o.ch) (I o.fr) (I o.ki) _ zd zE (by simp;rfl) ?_ _ ?_
 ·simp[eY]
 ·simp[Zj,Gd]
 intro ex z hz;simp[zzao];refine⟨zE,?_⟩;exact h1 _ (mb.length+5) z zd zd zd hz
open Go Go.Abs
def HH(Y:YT)(l:List Cl)(h:l.length<=1000000000)(m:AM)(K:AV->AM->Prop)(hK:K (.sl (.own m.lens.length 8) (l.map Qg)) {m with lens:=m.lens++[l.length]}):an Tryz.prog aA Y 129 [.sl .ro (l.map Qg)] m K:=by
 refine Xd NK (fun _ _ _=>.junk) zd ?_;simp[U8,U9];exact⟨⟨fun _ _=>rfl,zE⟩,hK⟩
def Jk(p:Pl)(V W:AV):List AV:=[I p.ch,I p.nu,I p.de,I p.of,.sl .ro (p.sh.map Qf),I p.ep,I p.rg,I p.ln,I p.fi,.sl .ro (p.aN.map Qn),V,.sl .ro (p.bks.map Xg),W]
def yG(p:Pl):Nat->FuncId->List AV->AV:=fun d f l=>if f=129 then .gd false .junk else Kr p d f l
def aaG(Y:YT)(m:AM)(p:Pl)(h:BJ p)(hn:p.ens≠[])(K:AV->AM->Prop)
  (hK:∀c0 c1 bx,K (.agg (Jk p (.bs (m.boxes.length+2) 0 p.ens.length 7) (.sl (.own m.lens.length 8) (p.cls.map Qg)))) {m with boxes:=m.boxes++(c0::c1::(p.ens.map Qd).flatten::bx),lens:=m.lens++[p.cls.length]}):an Tryz.prog aA Y 61 [.agg (Qa p)] m K:=by
 obtain⟨mb,ml,ms,mn⟩:=m;obtain⟨h1,h2,h3,h4,h5,h6⟩:=h;have k1:=qf p.sh zE;have k2:=qg p.aN zE;have k4:=qh p.bks zE;have hsz:=Qbb (f:=Qd) (sz:=7) (fun _=>rfl) p.ens;refine Xd vu (yG p) zd ?_;have aM:p.ens.map Qd≠[]:=by simpa using hn
 simp[J8,Qa,yG,Kr,hn];refine⟨k1,k2,yu _ _ hsz (by simpa using by omega) aM _ _ ?_⟩;simp;obtain⟨F,hF⟩:∃F,(p.ens.map Qd).flatten=F:=⟨_,rfl⟩;have J1:F.length=p.ens.length*7:=by rw[<- hF,Qae hsz];simp
 have bZ:Zj F=true:=by rw[<- hF];exact fD (fun _=>rfl) _
 have Aj:∀m,F.map (bJ m 4)=F:=fun m=>Zp m 3 bZ;rw[hF]at hK |-
 refine Qk eN (akM p mb ml ms mn [I 0,I 0,I 0,I 0,.sl .nil [],I 0,I 0,I 0,I 0,.sl .nil [],.sl .nil [],.sl .nil [],.sl .nil []]) (fun f _=>p.ens.length-(numOf (f 22)).toNat) ?_ ?_
 ·exact⟨0,[],zd,zE,by rw[hF];simp[Uu]⟩
 rintro f m ⟨i,bx,f22,hi,rfl⟩;rw[hF];rcases zzaa i p.ens.length with ai|bz
 ·obtain⟨e,he⟩:=aU ai;have aa:(i:Int)<(p.ens.length:Int):=zE
  have hw:=bM i zE;obtain⟨⟨r,hd⟩,ct⟩:=lG hsz (i:=i) (row:=Qd e) (by simp[he]);rw[hF]at hd ct;simp only[Qd,zzad,zzah]at hd ct;have Hs:=Wv e (h6 e (zzac he));simp only[Qd]at Hs;simp[-setA,j4,j5,f22,eN,aa,hd,ct,J1,hw,yG,Kr,Uu];refine⟨Hs,zE,aP,⟨i+1,bx++[[I e.id,I e.it,I e.fr,I e.ea,I e.la,I e.bo,.sl .ro (e.al.map Qf)]],zd,zE,by rw[hF];simp[Uu]⟩,zE⟩
 obtain rfl:i=p.ens.length:=zE
 simp[f22,eN,J9,yG,Kr,Uu];simp[Jk]at hK;refine⟨k4,HH _ _ zE _ _ ?_⟩;simp;exact hK _ _ _
def SK(Y:YT)(m:AM)(p:Pl)(h:BJ p)(hn:p.ens=[])(K:AV->AM->Prop)
  (hK:∀c0 c1,K (.agg (Jk p (.sl .ro []) (.sl (.own m.lens.length 8) (p.cls.map Qg)))) {m with boxes:=m.boxes++[c0,c1],lens:=m.lens++[p.cls.length]}):an Tryz.prog aA Y 61 [.agg (Qa p)] m K:=by
 obtain⟨mb,ml,ms,mn⟩:=m;obtain⟨h1,h2,h3,h4,h5,h6⟩:=h;have k1:=qf p.sh zE;have k2:=qg p.aN zE;have k4:=qh p.bks zE;have k3:=Hr;refine Xd vu (yG p) zd ?_;simp[J8,Qa,yG,Kr,hn];refine⟨k1,k2,k3,?_⟩;refine Qk eN (fun f m=>f 22=I 0/\m=⟨mb++[[I p.ch,I p.nu,I p.de,I p.of,.sl .ro (p.sh.map Qf),I p.ep,I p.rg,I p.ln,I p.fi,.sl .ro (p.aN.map Qn),.sl .ro [],.sl .ro (p.bks.map Xg),.sl .ro (p.cls.map Qg)],[I 0,I 0,I 0,I 0,.sl .nil [],I 0,I 0,I 0,I 0,.sl .nil [],.sl .nil [],.sl .nil [],.sl .nil []]],ml,ms,mn⟩) (fun f _=>0) ?_ ?_
 ·exact⟨zd,zd⟩
 rintro f m ⟨f22,rfl⟩;simp[f22,eN,J9,yG,Kr];refine⟨k4,HH _ _ zE _ _ ?_⟩;simp;simp[Jk]at hK;exact hK _ _
def D1(rt:Rt):Prop:=∀m d x,bJ m (d+1) (.sl rt x)=.sl .ro x
def D1.ro:D1 .ro:=fun _ _ _=>rfl
def D1.own(k s:Nat):D1 (.own k s):=fun _ _ _=>rfl
def nc(bx:List (List AV))(V:AV)(l:List En):Prop:=(∃rt,V=.sl rt (l.map Qd)/\D1 rt)\/∃k z,V=.bs k 0 l.length 7/\k<bx.length/\Qh bx k=eY l++z/\Zj z=true
def HI(n:Nat)(V:AV):Prop:=∀k o l s,V=.bs k o l s->n<=k
def HI.sl(n:Nat)(rt:Rt)(rows:List (List AV)):HI n (.sl rt rows):=fun _ _ _ _ h=>by cases h
def HI.bs{n k o l s:Nat}(h:n<=k):HI n (.bs k o l s):=fun _ _ _ _ e=>by cases e;exact h
def Ak(g:Pg)(o:Od):Pl:={g.p with cls:=g.p.cls++[o.cl]}
def aaH(Y:YT)(m:AM)(g:Pg)(f:Int)(mid:Nat)(o:Od)(hp:BJ g.p)(K:AV->AM->Prop)
  (h1:∀ex V,nc (m.boxes++ex) V g.p.ens->HI m.boxes.length V->K (.aZ [.agg (Xr (Ak g o) V (.sl (.own m.lens.length 8) ((Ak g o).cls.map Qg)) 0),.bool true]) {m with boxes:=m.boxes++ex,lens:=m.lens++[g.p.cls.length+1]}):
  an Tryz.prog aA Y 135 [.agg (Qr g f mid),.agg (Qp o)] m K:=by
 obtain⟨mb,ml,ms,mn⟩:=m;have hc:=hp.2.2.2.2.1
 have ah:∀row:List AV,((∃a,a∈g.p.cls/\Qg a=row)\/row=Qg o.cl)->row.length=8:=by
  rintro row (⟨a,_,rfl⟩|rfl)<;>rfl
 simp only[Ak,Xr,zzca,zzay,zzcc]at h1;by_cases aM:g.p.ens=[]
 ·have kO:=fun ex K hK=>SK Y ⟨mb++ex,ml,ms,mn⟩ g.p hp aM K hK;simp only[Qa]at kO;refine Xd NO (fun _ _ l=>.gd false .junk) zd ?_;simp[VB,VC,Qr,Qm,Qa,Qp,Qd,Qg,Qi];refine kO _ _ fun c0 c1=>?_;simp[Jk];refine⟨⟨ah,zE⟩,?_⟩;exact h1 _ _ (.inl ⟨.ro,by rw[aM];rfl,D1.ro⟩) (HI.sl _ _ _)
 have kO:=fun ex K hK=>aaG Y ⟨mb++ex,ml,ms,mn⟩ g.p hp aM K hK;simp only[Qa]at kO;refine Xd NO (fun _ _ l=>.gd false .junk) zd ?_;simp[VB,VC,Qr,Qm,Qa,Qp,Qd,Qg,Qi];refine kO _ _ fun c0 c1 bx=>?_;simp[Jk,zzao];refine⟨⟨ah,zE⟩,?_⟩;exact h1 _ _ (.inr ⟨mb.length+5,[],rfl,zd,by simp[eY],rfl⟩) (HI.bs zd)
open Go Go.Abs
def nc.ext{bx:List (List AV)}{V:AV}{l:List En}(h:nc bx V l)(ex:List (List AV)):nc (bx++ex) V l:=by
 obtain h|⟨k,z,h1,h2,h3,h4⟩:=h
 ·exact .inl h
 exact .inr ⟨k,z,h1,by simp;omega,by rw[Ql h2,h3],h4⟩
def SL(Y:YT)(m:AM)(V:AV)(L:List En)(id:Int)(hV:nc m.boxes V L)(hl:L.length<=1000000000):an Tryz.prog aA Y 203 [V,I id,.fn 204 [] []] m (fun r m'=>m'=m/\r=sX (Zh id L)):=by
 obtain⟨mb,ml,ms,mn⟩:=m;refine an.read ?_;obtain⟨rt,rfl,aT⟩|⟨k,z,rfl,hk,hB,hz⟩:=hV
 ·refine Xd CA (fun _ f l=>if f=204 then(match l with|[.agg (c::_)]=>c|_=>.junk)else .junk) zd ?_;simp[N7];refine Qk ei (fun f m=>∃(i:Nat)(bx:List (List AV)),f 13=I i/\i<=L.length/\Zh id (L.drop i)=Zh id L/\m=⟨mb++([I 0,I 0,I 0,I 0,I 0,I 0,.sl .nil []]::bx),ml,ms,mn⟩) (fun f _=>L.length-(numOf (f 13)).toNat) ?_ ?_
  ·exact⟨0,[],zd,zE,rfl,rfl⟩
  rintro f m ⟨i,bx,xH,hi,hf,rfl⟩;rcases zzaa i L.length with ai|bz
  ·obtain⟨x,hx⟩:=aU ai;have ah:Qh (L.map Qd) i=Qd x:=Qt (by simp[hx]);have aa:(i:Int)<(L.length:Int):=zE
   have hw:=bM i zE;have hd:L.drop i=x::L.drop (i+1):=by rw[zzaf ai,(zza.1 hx).2]
   have zI:=oq x;rw[hd,Zh]at hf;by_cases aK:x.id=id
   ·rw[if_pos aK]at hf;simp[xH,aa,ah,Qd,aK,ei,vN,<- hf,sX];refine⟨by simpa[Qd,aK]using zI,lK⟩
   rw[if_neg aK]at hf;simp[xH,aa,ah,Qd,aK,ei,hw];refine⟨zI,aP,⟨i+1,zd,zE,hf⟩,zE⟩
  rw[zzan bz]at hf;have bL:¬(i:Int)<(L.length:Int):=zE
  simp[xH,bL,ei,vN,<- hf,sX,Zh];exact lK
 have hR:∀ex,Qh (mb++ex) k=eY L++z:=fun ex=>by rw[Ql hk];exact hB
 refine Xd CA (fun _ f l=>if f=204 then(match l with|[.agg (c::_)]=>c|_=>.junk)else .junk) zd ?_;simp[N7];refine Qk ei (fun f m=>∃(i:Nat)(bx:List (List AV)),f 13=I i/\i<=L.length/\Zh id (L.drop i)=Zh id L/\m=⟨mb++([I 0,I 0,I 0,I 0,I 0,I 0,.sl .nil []]::bx),ml,ms,mn⟩) (fun f _=>L.length-(numOf (f 13)).toNat) ?_ ?_
 ·exact⟨0,[],zd,zE,rfl,rfl⟩
 rintro f m ⟨i,bx,xH,hi,hf,rfl⟩;rcases zzaa i L.length with ai|bz
 ·obtain⟨x,hx⟩:=aU ai;have hg:=D0 hx
  have ah:∀ex,(Qh (mb++ex) k).drop (i*7)=I x.id::I x.it::I x.fr::I x.ea::I x.la::I x.bo::.sl .ro (x.al.map Qf)::(eY (L.drop (i+1))++z):=fun ex=>by
   rw[hR,zzdv (by rw[Jg];omega),hg];rfl
  have aa:(i:Int)<(L.length:Int):=zE
  have hw:=bM i zE;have hd:L.drop i=x::L.drop (i+1):=by rw[zzaf ai,(zza.1 hx).2]
  have zI:=oq x;rw[hd,Zh]at hf;by_cases aK:x.id=id
  ·rw[if_pos aK]at hf;simp[xH,aa,ah,Qd,aK,ei,vN,<- hf,sX];refine⟨by simpa[Qd,aK]using zI,lK⟩
  rw[if_neg aK]at hf;simp[xH,aa,ah,aK,ei,hw];refine⟨zI,aP,⟨i+1,zd,zE,hf⟩,zE⟩
 rw[zzan bz]at hf;have bL:¬(i:Int)<(L.length:Int):=zE
 simp[xH,bL,ei,vN,<- hf,sX,Zh];exact lK
def an3(Y:YT)(m:AM)(V:AV)(L:List En)(id:Int)(hV:nc m.boxes V L)(hl:L.length<=1000000000)(K:AV->AM->Prop)(hK:K (sX (Zh id L)) m):an Tryz.prog aA Y 203 [V,I id,.fn 204 [] []] m K:=
 an.mono (SL Y m V L id hV hl) (by rintro r m' ⟨rfl,rfl⟩;exact hK)
open Go Go.Abs
def ot:∀(l:List En)(z:List AV),bh 7 l.length (eY l++z)=l.map Qd
 |[],z=>rfl
 |e::r,z=>by
  have:=ot r z;simp[Qd,this]
def nc.bJ{bx:List (List AV)}{V:AV}{l:List En}(h:nc bx V l)(ex:List (List AV))(ml:List Nat)(ms:Nat->LS)(mn:Nat)(d:Nat):Abs.bJ ⟨bx++ex,ml,ms,mn⟩ (d+2) V=.sl .ro (l.map Qd):=by
 obtain⟨rt,rfl,aT⟩|⟨k,z,rfl,hk,hB,hz⟩:=h
 ·exact aT _ _ _
 have bZ:Zj (eY l++z)=true:=by have:=Mr l;unfold Zj at this hz |-;rw[zzfk,this,hz];rfl
 rw[YU,Vp,Ql hk,hB,Zp _ _ bZ,if_pos (by rw[zzai,Jg];omega),zzde,ot]
def nc.cell{bx:List (List AV)}{V:AV}{l:List En}(h:nc bx V l):Qw V=true:=by
 rcases h with⟨rt,rfl,aT⟩|⟨k,z,rfl,hk,hB,hz⟩<;>rfl
def Mt(Y:YT)(m:AM)(q:Pl)(V:AV)(rt:Rt)(id:Int)(hV:nc m.boxes V q.ens)(hl:q.ens.length<=1000000000)(ha:∀e∈q.ens,e.al.length<=8796093022208):
  an Tryz.prog aA Y 130 [.agg (Jk q V (.sl rt (q.cls.map Qg))),I id] m (fun r m'=>m'=m/\r=sX (Zh id q.ens)):=by
 obtain⟨mb,ml,ms,mn⟩:=m;have hc:=hV.cell;have kf:=fun ex K hK=>an3 Y ⟨mb++ex,ml,ms,mn⟩ V q.ens id (hV.ext ex) hl K hK;refine an.read (Xd NN (fun _ f l=>if f=203 then .gd false .junk else l.headD .junk) zd ?_);simp[NL,NM,Jk,hc];refine kf _ _ ?_;cases hf:Zh id q.ens with
 |none=>
  simp[sX];exact⟨j8,lK⟩
 |some x=>
  have hx:x∈q.ens:=by
   have:∀l:List En,Zh id l=some x->x∈l:=by
    intro l;induction l with
    |nil=>intro h;cases h
    |cons y r ih=>
     intro h;simp only[Zh]at h;split at h
     ·cases h;simp
     simp[ih h]
   exact this _ hf
  have oF:=Uz x.al (ha x hx);simp[sX,Qd];exact⟨oF,lK⟩
def Py(Y:YT)(m:AM)(q:Pl)(V:AV)(rt:Rt)(id:Int)(hV:nc m.boxes V q.ens)(hl:q.ens.length<=1000000000)(ha:∀e∈q.ens,e.al.length<=8796093022208)(K:AV->AM->Prop)(hK:K (sX (Zh id q.ens)) m):
  an Tryz.prog aA Y 130 [.agg (Jk q V (.sl rt (q.cls.map Qg))),I id] m K:=
 an.mono (Mt Y m q V rt id hV hl ha) (by rintro r m' ⟨rfl,rfl⟩;exact hK)
def Mu(Y:YT)(m:AM)(g:Pg)(f:Int)(mid:Nat)(o:Od)(q:Pl)(V:AV)(rt:Rt)(d:Int)(hV:nc m.boxes V q.ens):
  an Tryz.prog aA Y 136 [.agg (Qr g f mid),.agg (Qp o),.agg (Xr q V (.sl rt (q.cls.map Qg)) d)] m (fun r m'=>m'=m/\r=.bool true):=by
 obtain⟨mb,ml,ms,mn⟩:=m;have hc:=hV.cell;refine an.read (Xd adl (fun _ _ _=>.junk) zd ?_);simp[aik,ail,Qr,Qm,Qa,Qp,Qd,Qg,Qi,Xr,hc];exact lK
def HJ(Y:YT)(m:AM)(g:Pg)(f:Int)(mid:Nat)(b:List (Int×Bool))(o:Od)(q:Pl)(V:AV)(rt:Rt)(d:Int)(hV:nc m.boxes V q.ens)(h:mg g f)(hb:gz m.boxes mid b):
  an Tryz.prog aA Y 140 [.agg (Qr g f mid),.agg (Qp o),.agg (Xr q V (.sl rt (q.cls.map Qg)) d)] m (fun r m'=>m'=m/\r=.bool !(DY g f b o.en)):=by
 obtain⟨mb,ml,ms,mn⟩:=m;have hc:=hV.cell;have hB:∀ex,gz (mb++ex) mid b:=fun ex=>⟨by have:=hb.1;simp at this |-;omega,hb.ext ex⟩;have k:=fun ex K hK=>atW Y ⟨mb++ex,ml,ms,mn⟩ g f mid b o.en h (hB ex) K hK;simp only[Qr,Qm,Qa,zzad,zzah]at k;refine an.read (Xd adn (fun _ _ _=>.gd false .junk) zd ?_);simp[aim,ain,Qr,Qm,Qa,Qp,Qd,Qg,Qi,Xr,hc];refine k _ _ ?_;simp;exact lK
