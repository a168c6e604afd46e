import Derived.Test.YthjppoincojfkaaGreatDoorRBMbF
set_option linter.all false
set_option maxRecDepth 100000
set_option maxHeartbeats 64000000
namespace Go.Proofs.YthjppoincojfkaaGreatDoor
open Go Go.Abs
def Um(p:Pl)(V:AV):P2:=[I p.ch,I p.nu,I p.de,I p.of,.sl .ro (p.sh.map Qf),I p.ep,I p.rg,I p.ln,I p.fi,.sl .ro (p.aM.map Qh),V,.sl .ro (p.bks.map Xj),.sl .ro (p.cls.map Qi)]
def aiT(p:Pl)(mb:T5)(ml:Pa)(ms:Nat->LS)(mn:Nat)(m0:P2)(f:Nat->AV)(m:AM):Prop:=∃(i:Nat)(bx:T5),f 22=I i/\i<=p.ens.length/\m=⟨mb++(Um p (.bs (mb.length+2) 0 p.ens.length 7)::m0::(p.ens.map Qd).flatten::bx),ml,ms,mn⟩
def yc(Y:YT)(m:AM)(p:Pl)(h:Bj p)(hn:p.ens≠[])(K:So)
  (hK:∀c0 c1 bx,K (.agg (Um p (.bs (m.boxes.length+2) 0 p.ens.length 7))) {m with boxes:=m.boxes++(c0::c1::(p.ens.map Qd).flatten::bx)}):aB Tryz.prog aD Y 66 [.agg (Qa p)] m K:=by
 obtain⟨mb,ml,ms,mn⟩:=m;obtain⟨h1,h2,h3,h4,h5,h6⟩:=h;have k1:=pS p.sh zE;have k2:=pT p.aM zE;have k4:=pU p.bks zE;have k5:=Dn p.cls zE;have hsz:=kX (f:=Qd) (sz:=7) (fun _=>rfl) p.ens;refine Xn u6 (Kl p) zd ?_;have aN:p.ens.map Qd≠[]:=by simpa using hn
 simp[IK,Qa,Kl,hn];refine⟨k1,k2,xY _ _ hsz (by simpa using by omega) aN _ _ ?_⟩;simp;obtain⟨F,hF⟩:∃F,(p.ens.map Qd).flatten=F:=⟨_,rfl⟩;have hFl:F.length=p.ens.length*7:=by rw[<- hF,jQ hsz];simp
 have bU:Zl F=true:=by rw[<- hF];exact kW (fun _=>rfl) _
 have hmp:∀m,F.map (bz m 4)=F:=fun m=>Va m 3 bU;rw[hF]at hK |-
 refine Qk ez (aiT p mb ml ms mn [I 0,I 0,I 0,I 0,.sl .nil [],I 0,I 0,I 0,I 0,.sl .nil [],.sl .nil [],.sl .nil [],.sl .nil []]) (fun f _=>p.ens.length-(numOf (f 22)).toNat) ?_ ?_
 ·exact⟨0,[],zd,zE,by rw[hF];simp[Um]⟩
 rintro f m ⟨i,bx,f22,hi,rfl⟩;rw[hF];rcases zzaa i p.ens.length with ai|bn
 ·obtain⟨e,he⟩:=aV ai;have aa:(i:Int)<(p.ens.length:Int):=zE
  have hw:=bO i zE;obtain⟨⟨r,hd⟩,bY⟩:=uN hsz (i:=i) (row:=Qd e) (by simp[he]);rw[hF]at hd bY;simp only[Qd,zzae,zzai]at hd bY;have Gy:=Wp e (h6 e (zzad he));simp only[Qd]at Gy;simp[-setA,jO,jP,f22,ez,aa,hd,bY,hFl,hw,Kl,Um];refine⟨Gy,zE,aQ,⟨i+1,bx++[[I e.id,I e.it,I e.fr,I e.ea,I e.la,I e.bo,.sl .ro (e.al.map Qf)]],zd,zE,by rw[hF];simp[Um]⟩,zE⟩
 obtain rfl:i=p.ens.length:=zE
 simp[f22,ez,IL,Kl,Um];simp[Um]at hK;exact⟨k4,k5,hK _ _ _⟩
open Go Go.Abs
def lQ(g:Pg)(f:Int):Prop:=g.ev.length<=1000000000/\(∀e∈g.ev,Kt e)/\nR f/\g.p.ens.length<=1000000000
def Ld(Y:YT)(m:AM)(g:Pg)(f:Int)(mid:Nat)(id:Int)(h:lQ g f)(K:So)(hK:K (I (Jd g id)) m):aB Tryz.prog aD Y 141 [.agg (Qr g f mid),I id] m K:=
 aB.mono (Q5 Y m g f mid id h.2.2.2) (by rintro r m' ⟨rfl,rfl⟩;exact hK)
def aiU(Y:YT)(m:AM)(g:Pg)(f:Int)(mid:Nat)(b:QR)(h:lQ g f)(hb:fQ m.boxes mid b)(K:So)(hK:K (Ul g f b) m):aB Tryz.prog aD Y 160 [.agg (Qr g f mid)] m K:=
 aB.mono (ZB Y m g f mid b h.1 h.2.1 h.2.2.1 hb) (by rintro r m' ⟨rfl,rfl⟩;exact hK)
def Bn(g:Pg)(f:Int)(b:QR)(id:Int):Option Int:=match Ji g f b with
 |none=>none
 |some e=>if e.id=id then some (rC g e.id)else none
def Q6(o:Option Int):AV:=.aS [I (o.getD 0),.bool o.isSome]
def aeV(Y:YT)(m:AM)(g:Pg)(f:Int)(mid:Nat)(b:QR)(id:Int)(h:lQ g f)(hb:fQ m.boxes mid b):
  aB Tryz.prog aD Y 143 [.agg (Qr g f mid),I id] m (fun r m'=>m'=m/\r=Q6 (Bn g f b id)):=by
 obtain⟨mb,ml,ms,mn⟩:=m;have hB:∀ex,fQ (mb++ex) mid b:=fun ex=>⟨by have:=hb.1;simp at this |-;omega,hb.ext ex⟩;have k:=fun ex K hK=>aiU Y ⟨mb++ex,ml,ms,mn⟩ g f mid b h (hB ex) K hK;simp only[Qr,Qg,Qa,zzae,zzai]at k;refine aB.read (Xn ace (fun _ _ _=>.gd false .junk) zd ?_);simp[agJ,agK,Qr,Qg,Qa];refine k _ _ ?_;cases hp:Ji g f b with
 |none=>
  simp[Ul,hp,Bn,Q6];exact nS
 |some e=>
  by_cases hi:e.id=id
  ·simp[Ul,hp,Bn,Q6,Qe,sX,hi];exact nS
  simp[Ul,hp,Bn,Q6,Qe,sX,hi];exact nS
def amm(Y:YT)(m:AM)(g:Pg)(f:Int)(mid:Nat)(b:QR)(id:Int)(h:lQ g f)(hb:fQ m.boxes mid b)(K:So)(hK:K (Q6 (Bn g f b id)) m):aB Tryz.prog aD Y 143 [.agg (Qr g f mid),I id] m K:=
 aB.mono (aeV Y m g f mid b id h hb) (by rintro r m' ⟨rfl,rfl⟩;exact hK)
def Du(g:Pg)(f:Int)(b:QR)(id:Int):Bool:=za b id&&!(Bn g f b id).isSome
def aeW(Y:YT)(m:AM)(g:Pg)(f:Int)(mid:Nat)(b:QR)(id:Int)(h:lQ g f)(hb:fQ m.boxes mid b):
  aB Tryz.prog aD Y 145 [.agg (Qr g f mid),I id] m (fun r m'=>m'=m/\r=.bool (Du g f b id)):=by
 obtain⟨mb,ml,ms,mn⟩:=m;have hB:∀ex,fQ (mb++ex) mid b:=fun ex=>⟨by have:=hb.1;simp at this |-;omega,hb.ext ex⟩;have hR:∀ex,Qj (mb++ex) mid=[.aJ 0 (bG .bool b)]:=hb.ext;have k:=fun ex K hK=>amm Y ⟨mb++ex,ml,ms,mn⟩ g f mid b id h (hB ex) K hK;simp only[Qr,Qg,Qa,zzae,zzai]at k;refine aB.read (Xn acg (fun _ _ _=>.gd false .junk) zd ?_);simp[agL,agM,Qr,Qg,Qa];refine k _ _ ?_;rcases Xy AV.bool id b 0 with⟨b1,b2,_⟩|⟨u,u',b1,b2,_⟩
 ·simp[Q6,Du,za,b1,b2,hR];exact nS
 cases u<;>simp[Q6,Du,za,b1,b2,hR]<;>exact nS
def as3(Y:YT)(m:AM)(g:Pg)(f:Int)(mid:Nat)(b:QR)(id:Int)(h:lQ g f)(hb:fQ m.boxes mid b)(K:So)(hK:K (.bool (Du g f b id)) m):aB Tryz.prog aD Y 145 [.agg (Qr g f mid),I id] m K:=
 aB.mono (aeW Y m g f mid b id h hb) (by rintro r m' ⟨rfl,rfl⟩;exact hK)
open Go Go.Abs
def Yd(n:Int):Int:=max (-9223372036854775808) (min 9223372036854775807 n)
def Q7(a b:Int)(ha:sW a)(hb:sW b):Pure Tryz.prog aD 142 [I a,I b] (I (Yd (a+b))):=by
 refine Qp acd (fun _ _ _=>.junk) zd ?_;unfold sW at ha hb;by_cases c1:0<b
 ·have w1:IntKind.i64.wrap (9223372036854775807-b)=9223372036854775807-b:=by rw[Ql]<;>omega
  have c2:¬b<0:=zE
  by_cases d1:9223372036854775807-b<a
  ·have:Yd (a+b)=9223372036854775807:=by unfold Yd;omega
   simp[Af,Ag,c1,d1,w1,this]
  have w:IntKind.i64.wrap (a+b)=a+b:=by rw[Ql]<;>omega
  have:Yd (a+b)=a+b:=by unfold Yd;omega
  simp[Af,Ag,c1,c2,d1,w,w1,this]
 by_cases c2:b<0
 ·have w2:IntKind.i64.wrap (-9223372036854775808-b)= -9223372036854775808-b:=by rw[Ql]<;>omega
  by_cases d1:a< -9223372036854775808-b
  ·have:Yd (a+b)= -9223372036854775808:=by unfold Yd;omega
   simp[Af,Ag,c1,c2,d1,w2,this]
  have w:IntKind.i64.wrap (a+b)=a+b:=by rw[Ql]<;>omega
  have:Yd (a+b)=a+b:=by unfold Yd;omega
  simp[Af,Ag,c1,c2,d1,w,w2,this]
 have w:IntKind.i64.wrap (a+b)=a+b:=by rw[Ql]<;>omega
 have:Yd (a+b)=a+b:=by unfold Yd;omega
 simp[Af,Ag,c1,c2,w,this]
def Qel(a b:Int)(ha:sW a)(hb:sW b):Pure Tryz.prog aD 144 [I a,I b] (I (Yd (a-b))):=by
 refine Qp acf (fun _ _ _=>.junk) zd ?_;unfold sW at ha hb;by_cases c1:b<0
 ·have w1:IntKind.i64.wrap (9223372036854775807+b)=9223372036854775807+b:=by rw[Ql]<;>omega
  have c2:¬0<b:=zE
  by_cases d1:9223372036854775807+b<a
  ·have:Yd (a-b)=9223372036854775807:=by unfold Yd;omega
   simp[Ah,Ai,c1,d1,w1,this]
  have w:IntKind.i64.wrap (a-b)=a-b:=by rw[Ql]<;>omega
  have:Yd (a-b)=a-b:=by unfold Yd;omega
  simp[Ah,Ai,c1,c2,d1,w,w1,this]
 by_cases c2:0<b
 ·have w2:IntKind.i64.wrap (-9223372036854775808+b)= -9223372036854775808+b:=by rw[Ql]<;>omega
  by_cases d1:a< -9223372036854775808+b
  ·have:Yd (a-b)= -9223372036854775808:=by unfold Yd;omega
   simp[Ah,Ai,c1,c2,d1,w2,this]
  have w:IntKind.i64.wrap (a-b)=a-b:=by rw[Ql]<;>omega
  have:Yd (a-b)=a-b:=by unfold Yd;omega
  simp[Ah,Ai,c1,c2,d1,w,w2,this]
 have w:IntKind.i64.wrap (a-b)=a-b:=by rw[Ql]<;>omega
 have:Yd (a-b)=a-b:=by unfold Yd;omega
 simp[Ah,Ai,c1,c2,w,this]
def as4:P2->AV
 |[.int _ x,.int _ y]=>I (Yd (x-y))
 |_=>.junk
def Qdz(n:Int):sW (Yd n):=by unfold sW Yd;omega
def Le:∀{ens:List En}{i:Nat}{e:En},ens[i]?=some e->∃pre r:P2,pre.length=i*7/\(ens.map Qd).flatten=pre++(Qd e++r)/\∀e',((ens.set i e').map Qd).flatten=pre++(Qd e'++r)
 |[],i,e,h=>by simp at h
 |a::r,0,e,h=>by
  simp at h;subst h;exact⟨[],(r.map Qd).flatten,rfl,zd,fun e'=>zd⟩
 |a::r,i+1,e,h=>by
  obtain⟨pre,s,h1,h2,h3⟩:=Le (ens:=r) (i:=i) (e:=e) (Nm h);exact⟨Qd a++pre,s,by simp[Qd,h1];omega,by simp[h2],fun e'=>by have:=h3 e';simp only[zzdx,zzaz,zzci,this,zzbe]⟩
def Bo(pre X Y:P2)(n:Nat)(k:Nat)(h:pre.length=n):setA (pre++X) (n+k) Y=pre++setA X k Y:=by
 subst h;induction pre with
 |nil=>simp
 |cons a r ih=>rw[zzae,zzbg,show r.length+1+k=r.length+k+1 by omega,xX,ih];rfl
def Bp(pre X:P2)(n:Nat)(k:Nat)(h:pre.length=n):(pre++X).drop (n+k)=X.drop k:=by
 subst h;simp[List.drop_append]
def Xr(p:Pl)(V W:AV)(d:Int):P2:=[I p.ch,I p.nu,I p.de,I p.of,.sl .ro (p.sh.map Qf),I p.ep,I p.rg,I p.ln,I p.fi,.sl .ro (p.aM.map Qh),V,.sl .ro (p.bks.map Xj),W,I d]
def uQ:P2:=[I 0,I 0,I 0,I 0,.sl .nil [],I 0,I 0,I 0,I 0,.sl .nil [],.sl .nil [],.sl .nil [],.sl .nil [],I 0]
def ue(g:Pg)(f:Int)(b:QR)(o:Od)(e:En):Int:=match Bn g f b o.en with
 |none=>Yd (e.fr+o.n)
 |some st=>if Yd (e.fr+o.n)<Yd (f-st)then Yd (f-st)else Yd (e.fr+o.n)
def Q8(g:Pg)(f:Int)(b:QR)(o:Od)(e:En):En:={e with fr:=ue g f b o e,la:=if Yd (g.p.ln-ue g f b o e)<e.la then Yd (g.p.ln-ue g f b o e)else e.la}
def rE(g:Pg)(f:Int)(b:QR)(o:Od):Option (Pl×Int):=match g.p.ens[(Jd g o.en).toNat]? with
 |none=>none
 |some e=>if Jd g o.en<0 then none else some ({g.p with ens:=g.p.ens.set (Jd g o.en).toNat (Q8 g f b o e)},ue g f b o e)
def Dv{g:Pg}{f:Int}(h:lQ g f)(id:Int):0<=rC g id/\rC g id<=1000000:=by
 unfold rC;cases hf:g.ev.find? (fun e=>decide (e.id=id))with
 |none=>simp
 |some e=>exact(h.2.1 e (zzec hf)).1
def aeX(Y:YT)(m:AM)(g:Pg)(f:Int)(mid:Nat)(b:QR)(o:Od)(h:lQ g f)(hp:Bj g.p)(hb:fQ m.boxes mid b)(hn:sW o.n)(dG:sW g.p.ln)(hes:∀e∈g.p.ens,sW e.fr)(K:So)
  (h0:rE g f b o=none->∀ex,K (.aS [.agg uQ,.bool false]) {m with boxes:=m.boxes++ex})
  (h1:∀q d,rE g f b o=some (q,d)->∀ex k,m.boxes.length<=k->k<(m.boxes++ex).length->Qj (m.boxes++ex) k=(q.ens.map Qd).flatten->K (.aS [.agg (Xr q (.bs k 0 q.ens.length 7) (.sl .ro (q.cls.map Qi)) d),.bool true]) {m with boxes:=m.boxes++ex}):
  aB Tryz.prog aD Y 89 [.agg (Qr g f mid),.agg (Qq o)] m K:=by
 obtain⟨mb,ml,ms,mn⟩:=m;have hB:∀ex,fQ (mb++ex) mid b:=fun ex=>⟨by have:=hb.1;simp at this |-;omega,hb.ext ex⟩;have kp:=fun ex K hK=>Ld Y ⟨mb++ex,ml,ms,mn⟩ g f mid o.en h K hK;have ki:=fun ex K hK=>amm Y ⟨mb++ex,ml,ms,mn⟩ g f mid b o.en h (hB ex) K hK;simp only[Qr,Qg,Qa,zzae,zzai]at kp ki;cases hf:g.p.ens.find? (fun e=>decide (e.id=o.en))with
 |none=>
  have uk:Jd g o.en= -1:=Qdc hf
  have hx:rE g f b o=none:=by
   unfold rE;rw[uk];split
   ·rfl
   simp
  refine Xn Tc (fun _ _ _=>.gd false .junk) zd ?_;simp[akq,akr,Qr,Qg,Qa,Qq,Qd,Qi,Qm];refine kp _ _ ?_;simp[uk];have:=h0 hx;simp[uQ]at this;exact this _
 |some e=>
  obtain⟨n,g1,g2,g3⟩:=Wj (i:=0) hf;have uk:Jd g o.en=(n:Int):=by unfold Jd;rw[g1];omega
  have ai:n<g.p.ens.length:=(zza.1 g2).1;have aN:g.p.ens≠[]:=by rintro e0;rw[e0]at ai;simp at ai
  have Ay:¬(n:Int)<0:=zE
  have bZ:(n:Int)<(g.p.ens.length:Int):=zE
  have hx:rE g f b o=some ({g.p with ens:=g.p.ens.set n (Q8 g f b o e)},ue g f b o e):=by
   unfold rE;rw[uk];simp[g2,Ay]
  obtain⟨pre,r,q1,q2,q3⟩:=Le g2;have hd:=fun X k=>Bp pre X (n*7) k q1;have bY:=fun X Y k=>Bo pre X Y (n*7) k q1;have h1:=h1 _ _ hx;rw[q3]at h1;have kO:=fun ex K hK=>yc Y ⟨mb++ex,ml,ms,mn⟩ g.p hp aN K hK;simp only[Qa]at kO;rw[q2]at kO;have axA:=Q7 e.fr o.n (hes e (zzad g2)) hn;refine Xn Tc (fun _ f l=>if f=142 then I (Yd (e.fr+o.n))else if f=144 then as4 l else .gd false .junk) zd ?_;simp[akq,akr,Qr,Qg,Qa,Qq,Qd,Qi,Qm];refine kp _ _ ?_;simp[uk,Ay];refine kO _ _ fun c0 c1 bx=>?_;have y6:min 1 (pre.length+(r.length+7)-(n*7+2))=1:=zE
  have hm4:min 1 (pre.length+(r.length+7)-(n*7+4))=1:=zE
  simp[-setA,jO,jP,Um,bZ,Qd,zzan,hd,y6,as4];refine⟨axA,ki _ _ ?_⟩;have hL:=fun V=>Qel g.p.ln (Yd V) dG (Qdz V);cases hi:Bn g f b o.en with
  |none=>
   simp[-setA,jO,xX,jP,Q6,zzan,hd,bY,hm4];have hx2:ue g f b o e=Yd (e.fr+o.n):=by simp only[ue,hi]
   simp only[hx2,Q8,zzcg,Qd,zzae,zzai]at h1;refine⟨zE,hL _,zE,?_⟩;exact h1 _ (mb.length+5) zd zd zd
  |some st=>
   have as5:Bn g f b o.en=some st->0<=st/\st<=1000000:=fun hh=>by
    unfold Bn at hh;split at hh
    ·cases hh
    split at hh
    ·cases hh;exact Dv h _
    cases hh
   have hsb:=as5 hi;have hfs:=h.2.2.1;have kd:=Qel f st (by unfold nR at hfs;unfold sW;omega) (by unfold sW;omega);simp[-setA,jO,xX,jP,Q6,zzan,hd,bY,hm4];have hx2:ue g f b o e=if Yd (e.fr+o.n)<Yd (f-st)then Yd (f-st)else Yd (e.fr+o.n):=by simp only[ue,hi]
   simp only[hx2,Q8,zzcg,Qd,zzae,zzai]at h1;refine⟨kd,zE,?_,zE,?_⟩
   ·have:=hL (max (Yd (e.fr+o.n)) (Yd (f-st)));split
    ·exact Qel _ _ dG (Qdz _)
    exact Qel _ _ dG (Qdz _)
   exact h1 _ (mb.length+5) zd zd zd
open Go Go.Abs
def eG(l:List En):P2:=(l.map Qd).flatten
@[simp] theorem avJ:eG []=[]:=rfl
@[simp] theorem as6(e:En)(l:List En):eG (e::l)=I e.id::I e.it::I e.fr::I e.ea::I e.la::I e.bo::.sl .ro (e.al.map Qf)::eG l:=rfl
def Uy:∀l,(eG l).length=l.length*7
 |[]=>rfl
 |s::r=>by simp[Uy r];omega
def pX:∀a b,eG (a++b)=eG a++eG b
 |[],_=>rfl
 |s::r,b=>by simp[pX r b]
def GH:∀(l:List En)(i:Nat),(eG l).drop (i*7)=eG (l.drop i)
 |[],i=>zd
 |s::r,0=>zd
 |s::r,i+1=>by rw[show(i+1)*7=i*7+1+1+1+1+1+1+1 by omega];simp[GH r i]
def Dw{l:List En}{i:Nat}{s:En}(h:l[i]?=some s):(eG l).drop (i*7)=I s.id::I s.it::I s.fr::I s.ea::I s.la::I s.bo::.sl .ro (s.al.map Qf)::eG (l.drop (i+1)):=by
 rw[GH];have ai:=(zza.1 h).1;rw[zzah ai,(zza.1 h).2];rfl
def aeY(l:List En)(i:Nat)(s:En)(h:i<l.length):setA (eG l) (i*7) [I s.id,I s.it,I s.fr,I s.ea,I s.la,I s.bo,.sl .ro (s.al.map Qf)]=eG (l.set i s):=by
 obtain⟨pre,r,h1,h2,h3⟩:=Le (ens:=l) (i:=i) (zzaf h);unfold eG;rw[h2,h3,<- h1];exact Gw pre _ r _ rfl
def Lg(l:List En):Zl (eG l)=true:=kW (fun _=>rfl) l
def Q9(l:List En):aY 7 l.length (eG l)=l.map Qd:=by
 have:=Qbq (kX (f:=Qd) (sz:=7) (fun _=>rfl) l);simpa[eG]using this
def rF(row:P2):∀n,(bE n row).length=n*row.length
 |0=>by simp[bE]
 |n+1=>by simp[bE,rF row n,zzbq];omega
def nT:P2:=[I 0,I 0,I 0,I 0,I 0,I 0,.sl .nil []]
def GI:∀n,Zl (bE n nT)=true
 |0=>rfl
 |n+1=>by have:=GI n;unfold Zl at this |-;rw[bE,zzff,this];rfl
def mF(x:Int)(e:En):Bool:=decide (e.id=x)
def yd(e:En)(a0 a1 a2 a3:AV)(x:Int)(r:P2):Pure Tryz.prog aD 147 [.agg (Qd e),.ep (a0::a1::a2::a3::I x::r) 0] (.bool (mF x e)):=by
 refine Qp aci (fun _ _ _=>.junk) zd ?_;simp[agN,agO,Qd,mF];rw[zzcy];simp
def aeZ{x:Int}{l:List En}(h:Uo (mF x) l 0= -1):l.filter (fun e=>!mF x e)=l:=by
 cases hf:l.find? (mF x)with
 |some a=>obtain⟨k,h1,_⟩:=Wj (i:=0) hf;rw[h1]at h;omega
 |none=>
  rw[List.find?_eq_none]at hf;rw[zzfw];intro a ha;simpa using hf a ha
def Oc{x:Int}:∀{l:List En}{i:Nat},Uo (mF x) l i≠ -1->∃k:Nat,Uo (mF x) l i=((i+k:Nat):Int)/\k<l.length/\(l.take (k+1)).filter (fun e=>!mF x e)=l.take k
 |[],_,h=>absurd rfl h
 |s::r,i,h=>by
  simp only[Uo]at h |-
  split
  ·rename_i hs;exact⟨0,rfl,zd,by simp[hs]⟩
  rename_i hs;rw[if_neg hs]at h;obtain⟨k,h1,h2,h3⟩:=Oc h;exact⟨k+1,by rw[h1];congr 1;omega,Nm h2,by simp only[zzel,zzeg];simp[hs,h3]⟩
def yf(k:Int)(x:Int):UV:=fun _ f l=>if f=148 then I k else match l with
 |.agg (.int _ n::_)::_=>.bool (decide (n=x))
 |_=>.junk
def ZC(Y:YT)(l:List En)(hl:l.length<=1000000000)(B:T5)(L:Pa)(st:Nat->LS)(n id:Nat)(aL:id<B.length)(aN:l≠[])(hB:Qj B id=eG l)
  (kk:Nat)(a0 a1 a2 a3:AV)(x:Int)(r:P2)(hkk:kk<B.length)(eM:kk≠id)(hk:Qj B kk=a0::a1::a2::a3::I x::r)(bU:Zl (a0::a1::a2::a3::I x::r)=true)(K:So)
  (hK:∀(B':T5)(z:P2),bB (·=id) B B'->Qj B' id=eG (l.filter fun e=>!mF x e)++z->(l.filter fun e=>!mF x e).length*7+z.length=l.length*7->Zl z=true->K (.bs id 0 (l.filter fun e=>!mF x e).length 7) ⟨B',L,st,n⟩):
  aB Tryz.prog aD Y 146 [.bs id 0 l.length 7,.fn 147 [] [.ptr kk 0]] ⟨B,L,st,n⟩ K:=by
 have Lh:=GF l (mF x) 147 [] [.ep (a0::a1::a2::a3::I x::r) 0] hl (fun _=>rfl) (fun _=>zd) (fun e _=>yd e a0 a1 a2 a3 x r) (yf 0 x) (fun _ e _=>by simp[yf,Qd,mF]);have gE:=Va ⟨B,L,st,n⟩ 4 (Lg l);have ic:=Q9 l;have aH:=Uy l
 have hkc:∀B' d,Qj B' kk=Qj B kk->bz ⟨B',L,st,n⟩ (d+2) (.ptr kk 0)=.ep (a0::a1::a2::a3::I x::r) 0:=fun B' d h=>by
  rw[oR,Ya,h,hk,Va _ _ bU]
 refine Xn ach (yf (Uo (mF x) l 0) x) zd ?_;by_cases dB:Uo (mF x) l 0= -1
 ·have hf:=aeZ dB;rw[dB]at Lh;have:=hK B [] (bB.refl _ _) (by rw[hf];simpa using hB) (by rw[hf];simp) rfl;rw[hf]at this;have hc:=fun d=>hkc B d rfl;simp[-oR,MK,TB,yf,dB,hB,gE,ic,aH,hc];exact⟨Lh,this⟩
 obtain⟨k,WZ,ef,Bb⟩:=Oc dB;rw[zzbs]at WZ;have D2:¬(k:Int)= -1:=zE
 have W4:=bO k zE;rw[WZ]at Lh;have hc:=fun d=>hkc B d rfl;simp[-oR,MK,TB,yf,WZ,D2,hB,gE,ic,aH,W4,hc];refine⟨Lh,?_⟩
 refine Qk BV (fun f m=>∃(i j:Nat)(B':T5)(L':List En),f 5=I i/\f 6=I j/\i<j/\j<=l.length/\m=⟨B',L,st,n⟩/\bB (·=id) B B'/\Qj B' id=eG L'/\L'.length=l.length/\L'.take i=(l.take j).filter (fun e=>!mF x e)/\L'.drop j=l.drop j)
  (fun f m=>l.length-(numOf (f 6)).toNat) ?_ ?_
 ·exact⟨k,k+1,B,l,zd,zd,zE,zE,rfl,bB.refl _ _,hB,rfl,Bb.symm,rfl⟩
 rintro f m ⟨i,j,B',L',h5,h6,eH,hj,rfl,nB,eP,tP,ht,hd⟩;have cI:id<B'.length:=zzay aL nB.1;have axB:kk<B'.length:=zzay hkk nB.1;have jv:=Uy L';have hkB:Qj B' kk=Qj B kk:=nB.2 kk hkk eM;have fC:∀ex d,bz ⟨B'++ex,L,st,n⟩ (d+2) (.ptr kk 0)=.ep (a0::a1::a2::a3::I x::r) 0:=fun ex d=>hkc _ d (by rw[Qn axB,hkB]);rcases zzaa j l.length with ai|bn
 ·obtain⟨s,hs⟩:=aV ai
  have dK:L'[j]?=some s:=by
   have:=congrArg (fun x=>x[0]?) hd;simpa[hs]using this
  have hg:=Dw dK;have eF:(j:Int)<(l.length:Int):=zE
  have aa:(i:Int)<(l.length:Int):=zE
  have wR:i<l.length:=zE
  have rf:=bO j zE;have XO:=bO i zE;have hp:=yd s a0 a1 a2 a3 x r;simp only[Qd]at hp;have bR:=aeY L' i s zE;have gY:∀x,Qj (B'++x) id=eG L':=fun x=>by rw[Qn cI,eP]
  have lM:∀x v,(B'++x).set id v=B'.set id v++x:=fun x v=>Yk v cI
  have bA:(l.take (j+1)).filter (fun e=>!mF x e)=(l.take j).filter (fun e=>!mF x e)++[s].filter (fun e=>!mF x e):=by
   rw[zzax,hs,zzdb];rfl
  have hdj:L'.drop (j+1)=l.drop (j+1):=by
   have:=congrArg (List.drop 1) hd;simpa[zzdw,zzfg]using this
  by_cases he:s.id=x
  ·have GJ:mF x s=true:=by simp[mF,he]
   rw[GJ]at hp;simp[-setA,jO,jP,-oR,fC,h5,h6,eF,eP,gY,hg,BV,yf,he,rf];rw[he]at hp;refine⟨hp,aQ,⟨i,rfl,j+1,zd,zE,zE,nB.app _,?_⟩,zE⟩
   ·refine⟨L',rfl,tP,?_,hdj⟩;rw[bA,ht];simp[GJ]
  have GJ:mF x s=false:=by simp[mF,he]
  rw[GJ]at hp;simp[-setA,jO,jP,-oR,fC,h5,h6,eF,aa,eP,gY,lM,hg,BV,yf,he,rf,XO,bR,jv,tP];refine⟨hp,⟨zE,zE⟩,aQ,⟨i+1,zd,j+1,zd,zE,zE,(nB.set (.inl rfl) _).app _,?_⟩,zE⟩
  ·refine⟨L'.set i s,by rw[Qn (Nm cI),Yg _ cI],Nm tP,?_,?_⟩
   ·rw[bA,<- ht,zzax,zzbf zE,zzfu zE];simp[GJ]
   rw[zzfv zE];exact hdj
 obtain rfl:j=l.length:=zE
 rw[zzbw]at ht;have fB:(l.filter (fun e=>!mF x e)).length=i:=by rw[<- ht,zzap];omega
 have NV:¬((l.length:Nat):Int)<(l.length:Int):=zE
 have bP:(i:Int)<=(l.length:Int):=zE
 have aa:(i:Int)<(l.length:Int):=zE
 have wR:i<l.length:=eH
 have fI:eG L'≠[]:=by
  intro h;have:=congrArg List.length h;rw[jv,tP]at this;simp at this;omega
 have qj:setA (eG L') (i*7) (bE (l.length-i) [I 0,I 0,I 0,I 0,I 0,I 0,.sl .nil []])=eG (l.filter (fun e=>!mF x e))++bE (l.length-i) nT:=by
  have e1:L'=L'.take i++L'.drop i:=zd
  conv=>lhs;rw[e1]
  rw[pX,<- ht];have e2:(eG (L'.take i)).length=i*7:=by rw[Uy,zzap];congr 1;omega
  rw[<- e2];exact o6 _ _ _ (by rw[rF,Uy];simp;omega)
 simp[-setA,h5,h6,NV,eP,aa,bP,BV,cI,fI,jv,tP,qj];refine⟨zE,?_⟩;have:=hK (B'.set id (eG (l.filter (fun e=>!mF x e))++bE (l.length-i) nT)) (bE (l.length-i) nT) (nB.set (.inl rfl) _) (Yg _ cI) (by rw[rF,fB];simp[nT];omega) (GI _);rw[fB]at this;exact this
open Go Go.Abs
def bB.form{id:Nat}{B B':T5}(h:bB (·=id) B B')(aL:id<B.length):B'=B.set id (Qj B' id)++B'.drop B.length:=by
 have hl:=h.1;apply zzcz;intro j;rcases zzaa j B.length with hj|hj
 ·rw[zzaj (Nm hj),Jh (B:=B') zE];by_cases Ar:j=id
  ·subst Ar;rw[zzbf aL]
  rw[zzbn zE,Jh hj,h.2 j hj Ar]
 rw[zzao (Nm hj),zzcg,zzbl];congr 1;omega
def Ra(Y:YT)(l:List En)(hl:l.length<=1000000000)(B:T5)(L:Pa)(st:Nat->LS)(n id:Nat)(aL:id<B.length)(aN:l≠[])(hB:Qj B id=eG l)
  (kk:Nat)(a0 a1 a2 a3:AV)(x:Int)(r:P2)(hkk:kk<B.length)(eM:kk≠id)(hk:Qj B kk=a0::a1::a2::a3::I x::r)(bU:Zl (a0::a1::a2::a3::I x::r)=true)(K:So)
  (hK:∀(ex:T5)(z:P2),Zl z=true->K (.bs id 0 (l.filter fun e=>!mF x e).length 7) ⟨B.set id (eG (l.filter fun e=>!mF x e)++z)++ex,L,st,n⟩):
  aB Tryz.prog aD Y 146 [.bs id 0 l.length 7,.fn 147 [] [.ptr kk 0]] ⟨B,L,st,n⟩ K:=
 ZC Y l hl B L st n id aL aN hB kk a0 a1 a2 a3 x r hkk eM hk bU K fun B' z h1 h2 _ h4=>by
  have:=bB.form h1 aL;rw[h2]at this;rw[this];exact hK _ z h4
def yg(g:Pg)(o:Od):Option Pl:=if Jd g o.en<0 then none else some {g.p with ens:=g.p.ens.filter fun e=>!mF o.en e}
def ZD(Y:YT)(m:AM)(g:Pg)(f:Int)(mid:Nat)(o:Od)(h:lQ g f)(hp:Bj g.p)(K:So)
  (h0:yg g o=none->∀ex,K (.aS [.agg uQ,.bool false]) {m with boxes:=m.boxes++ex})
  (h1:∀q,yg g o=some q->∀ex k z,m.boxes.length<=k->k<(m.boxes++ex).length->Qj (m.boxes++ex) k=eG q.ens++z->Zl z=true->K (.aS [.agg (Xr q (.bs k 0 q.ens.length 7) (.sl .ro (q.cls.map Qi)) 0),.bool true]) {m with boxes:=m.boxes++ex}):
  aB Tryz.prog aD Y 91 [.agg (Qr g f mid),.agg (Qq o)] m K:=by
 obtain⟨mb,ml,ms,mn⟩:=m;have kp:=fun ex K hK=>Ld Y ⟨mb++ex,ml,ms,mn⟩ g f mid o.en h K hK;simp only[Qr,Qg,Qa,zzae,zzai]at kp;by_cases Cv:Jd g o.en<0
 ·have hx:yg g o=none:=by unfold yg;rw[if_pos Cv]
  refine Xn Tf (fun _ _ _=>.gd false .junk) zd ?_;simp[akt,aku,Qr,Qg,Qa,Qq,Qd,Qi,Qm];refine kp _ _ ?_;simp[Cv];have:=h0 hx;simp[uQ]at this;exact this _
 have hx:yg g o=some {g.p with ens:=g.p.ens.filter fun e=>!mF o.en e}:=by unfold yg;rw[if_neg Cv]
 have aN:g.p.ens≠[]:=by
  intro e;unfold Jd at Cv;rw[e]at Cv;simp[Uo]at Cv
 have h1:=h1 _ hx;have kO:=fun ex K hK=>yc Y ⟨mb++ex,ml,ms,mn⟩ g.p hp aN K hK;simp only[Qa]at kO;have kD:=fun B id aL hB kk a0 a1 a2 a3 r hkk eM hk bU=>Ra Y g.p.ens h.2.2.2 B ml ms mn id aL aN hB kk a0 a1 a2 a3 o.en r hkk eM hk bU;refine Xn Tf (fun _ _ _=>.gd false .junk) zd ?_;simp[akt,aku,Qr,Qg,Qa,Qq,Qd,Qi,Qm];refine kp _ _ ?_;simp[Cv];refine kO _ _ fun c0 c1 bx=>?_;simp[Um,zzan];refine kD _ _ zd ?_ (mb.length+1) (I o.sq) (I o.ch) (I o.fr) (I o.ki) _ zd zE (by simp;rfl) ?_ _ ?_
 ·simp[eG]
 ·simp[Zl,Fk]
 intro ex z hz;simp[zzan];refine⟨zE,?_⟩;exact h1 _ (mb.length+5) z zd zd zd hz
open Go Go.Abs
def GK(Y:YT)(l:List Cl)(h:l.length<=1000000000)(m:AM)(K:So)(hK:K (.sl (.own m.lens.length 8) (l.map Qi)) {m with lens:=m.lens++[l.length]}):aB Tryz.prog aD Y 121 [.sl .ro (l.map Qi)] m K:=by
 refine Xn MC (fun _ _ _=>.junk) zd ?_;simp[Ts,Tt];exact⟨⟨fun _ _=>rfl,zE⟩,hK⟩
def Je(p:Pl)(V W:AV):P2:=[I p.ch,I p.nu,I p.de,I p.of,.sl .ro (p.sh.map Qf),I p.ep,I p.rg,I p.ln,I p.fi,.sl .ro (p.aM.map Qh),V,.sl .ro (p.bks.map Xj),W]
def yh(p:Pl):UV:=fun d f l=>if f=121 then .gd false .junk else Kl p d f l
def ZE(Y:YT)(m:AM)(p:Pl)(h:Bj p)(hn:p.ens≠[])(K:So)
  (hK:∀c0 c1 bx,K (.agg (Je p (.bs (m.boxes.length+2) 0 p.ens.length 7) (.sl (.own m.lens.length 8) (p.cls.map Qi)))) {m with boxes:=m.boxes++(c0::c1::(p.ens.map Qd).flatten::bx),lens:=m.lens++[p.cls.length]}):aB Tryz.prog aD Y 66 [.agg (Qa p)] m K:=by
 obtain⟨mb,ml,ms,mn⟩:=m;obtain⟨h1,h2,h3,h4,h5,h6⟩:=h;have k1:=pS p.sh zE;have k2:=pT p.aM zE;have k4:=pU p.bks zE;have hsz:=kX (f:=Qd) (sz:=7) (fun _=>rfl) p.ens;refine Xn u6 (yh p) zd ?_;have aN:p.ens.map Qd≠[]:=by simpa using hn
 simp[IK,Qa,yh,Kl,hn];refine⟨k1,k2,xY _ _ hsz (by simpa using by omega) aN _ _ ?_⟩;simp;obtain⟨F,hF⟩:∃F,(p.ens.map Qd).flatten=F:=⟨_,rfl⟩;have hFl:F.length=p.ens.length*7:=by rw[<- hF,jQ hsz];simp
 have bU:Zl F=true:=by rw[<- hF];exact kW (fun _=>rfl) _
 have hmp:∀m,F.map (bz m 4)=F:=fun m=>Va m 3 bU;rw[hF]at hK |-
 refine Qk ez (aiT p mb ml ms mn [I 0,I 0,I 0,I 0,.sl .nil [],I 0,I 0,I 0,I 0,.sl .nil [],.sl .nil [],.sl .nil [],.sl .nil []]) (fun f _=>p.ens.length-(numOf (f 22)).toNat) ?_ ?_
 ·exact⟨0,[],zd,zE,by rw[hF];simp[Um]⟩
 rintro f m ⟨i,bx,f22,hi,rfl⟩;rw[hF];rcases zzaa i p.ens.length with ai|bn
 ·obtain⟨e,he⟩:=aV ai;have aa:(i:Int)<(p.ens.length:Int):=zE
  have hw:=bO i zE;obtain⟨⟨r,hd⟩,bY⟩:=uN hsz (i:=i) (row:=Qd e) (by simp[he]);rw[hF]at hd bY;simp only[Qd,zzae,zzai]at hd bY;have Gy:=Wp e (h6 e (zzad he));simp only[Qd]at Gy;simp[-setA,jO,jP,f22,ez,aa,hd,bY,hFl,hw,yh,Kl,Um];refine⟨Gy,zE,aQ,⟨i+1,bx++[[I e.id,I e.it,I e.fr,I e.ea,I e.la,I e.bo,.sl .ro (e.al.map Qf)]],zd,zE,by rw[hF];simp[Um]⟩,zE⟩
 obtain rfl:i=p.ens.length:=zE
 simp[f22,ez,IL,yh,Kl,Um];simp[Je]at hK;refine⟨k4,GK _ _ zE _ _ ?_⟩;simp;exact hK _ _ _
def Rb(Y:YT)(m:AM)(p:Pl)(h:Bj p)(hn:p.ens=[])(K:So)
  (hK:∀c0 c1,K (.agg (Je p (.sl .ro []) (.sl (.own m.lens.length 8) (p.cls.map Qi)))) {m with boxes:=m.boxes++[c0,c1],lens:=m.lens++[p.cls.length]}):aB Tryz.prog aD Y 66 [.agg (Qa p)] m K:=by
 obtain⟨mb,ml,ms,mn⟩:=m;obtain⟨h1,h2,h3,h4,h5,h6⟩:=h;have k1:=pS p.sh zE;have k2:=pT p.aM zE;have k4:=pU p.bks zE;have k3:=Gx;refine Xn u6 (yh p) zd ?_;simp[IK,Qa,yh,Kl,hn];refine⟨k1,k2,k3,?_⟩;refine Qk ez (fun f m=>f 22=I 0/\m=⟨mb++[[I p.ch,I p.nu,I p.de,I p.of,.sl .ro (p.sh.map Qf),I p.ep,I p.rg,I p.ln,I p.fi,.sl .ro (p.aM.map Qh),.sl .ro [],.sl .ro (p.bks.map Xj),.sl .ro (p.cls.map Qi)],[I 0,I 0,I 0,I 0,.sl .nil [],I 0,I 0,I 0,I 0,.sl .nil [],.sl .nil [],.sl .nil [],.sl .nil []]],ml,ms,mn⟩) (fun f _=>0) ?_ ?_
 ·exact⟨zd,zd⟩
 rintro f m ⟨f22,rfl⟩;simp[f22,ez,IL,yh,Kl];refine⟨k4,GK _ _ zE _ _ ?_⟩;simp;simp[Je]at hK;exact hK _ _
def Dx(rt:Rt):Prop:=∀m d x,bz m (d+1) (.sl rt x)=.sl .ro x
def Dx.ro:Dx .ro:=fun _ _ _=>rfl
def Dx.own(k s:Nat):Dx (.own k s):=fun _ _ _=>rfl
def mG(bx:T5)(V:AV)(l:List En):Prop:=(∃rt,V=.sl rt (l.map Qd)/\Dx rt)\/∃k z,V=.bs k 0 l.length 7/\k<bx.length/\Qj bx k=eG l++z/\Zl z=true
def GL(n:Nat)(V:AV):Prop:=∀k o l s,V=.bs k o l s->n<=k
def GL.sl(n:Nat)(rt:Rt)(rows:T5):GL n (.sl rt rows):=fun _ _ _ _ h=>by cases h
def GL.bs{n k o l s:Nat}(h:n<=k):GL n (.bs k o l s):=fun _ _ _ _ e=>by cases e;exact h
def Bq(g:Pg)(o:Od):Pl:={g.p with cls:=g.p.cls++[o.cl]}
def ZF(Y:YT)(m:AM)(g:Pg)(f:Int)(mid:Nat)(o:Od)(hp:Bj g.p)(K:So)
  (h1:∀ex V,mG (m.boxes++ex) V g.p.ens->GL m.boxes.length V->K (.aS [.agg (Xr (Bq g o) V (.sl (.own m.lens.length 8) ((Bq g o).cls.map Qi)) 0),.bool true]) {m with boxes:=m.boxes++ex,lens:=m.lens++[g.p.cls.length+1]}):
  aB Tryz.prog aD Y 87 [.agg (Qr g f mid),.agg (Qq o)] m K:=by
 obtain⟨mb,ml,ms,mn⟩:=m;have hc:=hp.2.2.2.2.1
 have ah:∀row:P2,((∃a,a∈g.p.cls/\Qi a=row)\/row=Qi o.cl)->row.length=8:=by
  rintro row (⟨a,_,rfl⟩|rfl)<;>rfl
 simp only[Bq,Xr,zzch,zzaz,zzcr]at h1;by_cases aN:g.p.ens=[]
 ·have kO:=fun ex K hK=>Rb Y ⟨mb++ex,ml,ms,mn⟩ g.p hp aN K hK;simp only[Qa]at kO;refine Xn Tb (fun _ _ l=>.gd false .junk) zd ?_;simp[akn,ako,Qr,Qg,Qa,Qq,Qd,Qi,Qm];refine kO _ _ fun c0 c1=>?_;simp[Je];refine⟨⟨ah,zE⟩,?_⟩;exact h1 _ _ (.inl ⟨.ro,by rw[aN];rfl,Dx.ro⟩) (GL.sl _ _ _)
 have kO:=fun ex K hK=>ZE Y ⟨mb++ex,ml,ms,mn⟩ g.p hp aN K hK;simp only[Qa]at kO;refine Xn Tb (fun _ _ l=>.gd false .junk) zd ?_;simp[akn,ako,Qr,Qg,Qa,Qq,Qd,Qi,Qm];refine kO _ _ fun c0 c1 bx=>?_;simp[Je,zzan];refine⟨⟨ah,zE⟩,?_⟩;exact h1 _ _ (.inr ⟨mb.length+5,[],rfl,zd,by simp[eG],rfl⟩) (GL.bs zd)
open Go Go.Abs
def mG.ext{bx:T5}{V:AV}{l:List En}(h:mG bx V l)(ex:T5):mG (bx++ex) V l:=by
 obtain h|⟨k,z,h1,h2,h3,h4⟩:=h
 ·exact .inl h
 exact .inr ⟨k,z,h1,by simp;omega,by rw[Qn h2,h3],h4⟩
def Rf(Y:YT)(m:AM)(V:AV)(L:List En)(id:Int)(hV:mG m.boxes V L)(hl:L.length<=1000000000):aB Tryz.prog aD Y 62 [V,I id,.fn 63 [] []] m (fun r m'=>m'=m/\r=Wx (Za id L)):=by
 obtain⟨mb,ml,ms,mn⟩:=m;refine aB.read ?_;obtain⟨rt,rfl,aX⟩|⟨k,z,rfl,hk,hB,hz⟩:=hV
 ·refine Xn II (fun _ f l=>if f=63 then(match l with|[.agg (c::_)]=>c|_=>.junk)else .junk) zd ?_;simp[abq];refine Qk gJ (fun f m=>∃(i:Nat)(bx:T5),f 13=I i/\i<=L.length/\Za id (L.drop i)=Za id L/\m=⟨mb++([I 0,I 0,I 0,I 0,I 0,I 0,.sl .nil []]::bx),ml,ms,mn⟩) (fun f _=>L.length-(numOf (f 13)).toNat) ?_ ?_
  ·exact⟨0,[],zd,zE,rfl,rfl⟩
  rintro f m ⟨i,bx,eU,hi,hf,rfl⟩;rcases zzaa i L.length with ai|bn
  ·obtain⟨x,hx⟩:=aV ai;have ah:Qj (L.map Qd) i=Qd x:=Qu (by simp[hx]);have aa:(i:Int)<(L.length:Int):=zE
   have hw:=bO i zE;have hd:L.drop i=x::L.drop (i+1):=by rw[zzah ai,(zza.1 hx).2]
   have Ck:=nU x;rw[hd,Za]at hf;by_cases aL:x.id=id
   ·rw[if_pos aL]at hf;simp[eU,aa,ah,Qd,aL,gJ,IG,<- hf,Wx];refine⟨by simpa[Qd,aL]using Ck,nS⟩
   rw[if_neg aL]at hf;simp[eU,aa,ah,Qd,aL,gJ,hw];refine⟨Ck,aQ,⟨i+1,zd,zE,hf⟩,zE⟩
  rw[zzal bn]at hf;have bP:¬(i:Int)<(L.length:Int):=zE
  simp[eU,bP,gJ,IG,<- hf,Wx,Za];exact nS
 have hR:∀ex,Qj (mb++ex) k=eG L++z:=fun ex=>by rw[Qn hk];exact hB
 refine Xn II (fun _ f l=>if f=63 then(match l with|[.agg (c::_)]=>c|_=>.junk)else .junk) zd ?_;simp[abq];refine Qk gJ (fun f m=>∃(i:Nat)(bx:T5),f 13=I i/\i<=L.length/\Za id (L.drop i)=Za id L/\m=⟨mb++([I 0,I 0,I 0,I 0,I 0,I 0,.sl .nil []]::bx),ml,ms,mn⟩) (fun f _=>L.length-(numOf (f 13)).toNat) ?_ ?_
 ·exact⟨0,[],zd,zE,rfl,rfl⟩
 rintro f m ⟨i,bx,eU,hi,hf,rfl⟩;rcases zzaa i L.length with ai|bn
 ·obtain⟨x,hx⟩:=aV ai;have hg:=Dw hx
  have ah:∀ex,(Qj (mb++ex) k).drop (i*7)=I x.id::I x.it::I x.fr::I x.ea::I x.la::I x.bo::.sl .ro (x.al.map Qf)::(eG (L.drop (i+1))++z):=fun ex=>by
   rw[hR,zzdu (by rw[Uy];omega),hg];rfl
  have aa:(i:Int)<(L.length:Int):=zE
  have hw:=bO i zE;have hd:L.drop i=x::L.drop (i+1):=by rw[zzah ai,(zza.1 hx).2]
  have Ck:=nU x;rw[hd,Za]at hf;by_cases aL:x.id=id
  ·rw[if_pos aL]at hf;simp[eU,aa,ah,Qd,aL,gJ,IG,<- hf,Wx];refine⟨by simpa[Qd,aL]using Ck,nS⟩
  rw[if_neg aL]at hf;simp[eU,aa,ah,aL,gJ,hw];refine⟨Ck,aQ,⟨i+1,zd,zE,hf⟩,zE⟩
 rw[zzal bn]at hf;have bP:¬(i:Int)<(L.length:Int):=zE
 simp[eU,bP,gJ,IG,<- hf,Wx,Za];exact nS
def amn(Y:YT)(m:AM)(V:AV)(L:List En)(id:Int)(hV:mG m.boxes V L)(hl:L.length<=1000000000)(K:So)(hK:K (Wx (Za id L)) m):aB Tryz.prog aD Y 62 [V,I id,.fn 63 [] []] m K:=
 aB.mono (Rf Y m V L id hV hl) (by rintro r m' ⟨rfl,rfl⟩;exact hK)
open Go Go.Abs
def nV:∀(l:List En)(z:P2),aY 7 l.length (eG l++z)=l.map Qd
 |[],z=>rfl
 |e::r,z=>by
  have:=nV r z;simp[Qd,this]
def mG.bz{bx:T5}{V:AV}{l:List En}(h:mG bx V l)(ex:T5)(ml:Pa)(ms:Nat->LS)(mn:Nat)(d:Nat):Abs.bz ⟨bx++ex,ml,ms,mn⟩ (d+2) V=.sl .ro (l.map Qd):=by
 obtain⟨rt,rfl,aX⟩|⟨k,z,rfl,hk,hB,hz⟩:=h
 ·exact aX _ _ _
 have bU:Zl (eG l++z)=true:=by have:=Lg l;unfold Zl at this hz |-;rw[zzff,this,hz];rfl
 rw[Wf,Ya,Qn hk,hB,Va _ _ bU,if_pos (by rw[zzak,Uy];omega),zzd,nV]
def mG.cell{bx:T5}{V:AV}{l:List En}(h:mG bx V l):Qx V=true:=by
 rcases h with⟨rt,rfl,aX⟩|⟨k,z,rfl,hk,hB,hz⟩<;>rfl
def Li(Y:YT)(m:AM)(q:Pl)(V:AV)(rt:Rt)(id:Int)(hV:mG m.boxes V q.ens)(hl:q.ens.length<=1000000000)(ha:∀e∈q.ens,e.al.length<=8796093022208):
  aB Tryz.prog aD Y 29 [.agg (Je q V (.sl rt (q.cls.map Qi))),I id] m (fun r m'=>m'=m/\r=Wx (Za id q.ens)):=by
 obtain⟨mb,ml,ms,mn⟩:=m;have hc:=hV.cell;have kf:=fun ex K hK=>amn Y ⟨mb++ex,ml,ms,mn⟩ V q.ens id (hV.ext ex) hl K hK;refine aB.read (Xn SK (fun _ f l=>if f=62 then .gd false .junk else l.headD .junk) zd ?_);simp[abf,abg,Je,hc];refine kf _ _ ?_;cases hf:Za id q.ens with
 |none=>
  simp[Wx];exact⟨jT,nS⟩
 |some x=>
  have hx:x∈q.ens:=by
   have:∀l:List En,Za id l=some x->x∈l:=by
    intro l;induction l with
    |nil=>intro h;cases h
    |cons y r ih=>
     intro h;simp only[Za]at h;split at h
     ·cases h;simp
     simp[ih h]
   exact this _ hf
  have qj:=Qcl x.al (ha x hx);simp[Wx,Qd];exact⟨qj,nS⟩
def Oe(Y:YT)(m:AM)(q:Pl)(V:AV)(rt:Rt)(id:Int)(hV:mG m.boxes V q.ens)(hl:q.ens.length<=1000000000)(ha:∀e∈q.ens,e.al.length<=8796093022208)(K:So)(hK:K (Wx (Za id q.ens)) m):
  aB Tryz.prog aD Y 29 [.agg (Je q V (.sl rt (q.cls.map Qi))),I id] m K:=
 aB.mono (Li Y m q V rt id hV hl ha) (by rintro r m' ⟨rfl,rfl⟩;exact hK)
def Lj(Y:YT)(m:AM)(g:Pg)(f:Int)(mid:Nat)(o:Od)(q:Pl)(V:AV)(rt:Rt)(d:Int)(hV:mG m.boxes V q.ens):
  aB Tryz.prog aD Y 88 [.agg (Qr g f mid),.agg (Qq o),.agg (Xr q V (.sl rt (q.cls.map Qi)) d)] m (fun r m'=>m'=m/\r=.bool true):=by
 obtain⟨mb,ml,ms,mn⟩:=m;have hc:=hV.cell;refine aB.read (Xn akp (fun _ _ _=>.junk) zd ?_);simp[apa,apb,Qr,Qg,Qa,Qq,Qd,Qi,Qm,Xr,hc];exact nS
def GM(Y:YT)(m:AM)(g:Pg)(f:Int)(mid:Nat)(b:QR)(o:Od)(q:Pl)(V:AV)(rt:Rt)(d:Int)(hV:mG m.boxes V q.ens)(h:lQ g f)(hb:fQ m.boxes mid b):
  aB Tryz.prog aD Y 92 [.agg (Qr g f mid),.agg (Qq o),.agg (Xr q V (.sl rt (q.cls.map Qi)) d)] m (fun r m'=>m'=m/\r=.bool !(Du g f b o.en)):=by
 obtain⟨mb,ml,ms,mn⟩:=m;have hc:=hV.cell;have hB:∀ex,fQ (mb++ex) mid b:=fun ex=>⟨by have:=hb.1;simp at this |-;omega,hb.ext ex⟩;have k:=fun ex K hK=>as3 Y ⟨mb++ex,ml,ms,mn⟩ g f mid b o.en h (hB ex) K hK;simp only[Qr,Qg,Qa,zzae,zzai]at k;refine aB.read (Xn akv (fun _ _ _=>.gd false .junk) zd ?_);simp[apc,apd,Qr,Qg,Qa,Qq,Qd,Qi,Qm,Xr,hc];refine k _ _ ?_;simp;exact nS
