import Derived.Test.YthjppoincojfkaaGreatDoorRAMbF
set_option linter.all false
set_option maxRecDepth 100000
set_option maxHeartbeats 64000000
namespace Go.Proofs.YthjppoincojfkaaGreatDoor
open Go Go.Abs
def Ur(p:Pl)(V:AV):P2:=[I p.ch,I p.nu,I p.de,I p.of,.sl .ro (p.sh.map Qe),I p.ep,I p.rg,I p.ln,I p.fi,.sl .ro (p.aN.map Qm),V,.sl .ro (p.bks.map Xj),.sl .ro (p.cls.map Qg)]
def aiO(p:Pl)(mb:T5)(ml:Pa)(ms:Nat->LS)(mn:Nat)(m0:P2)(f:Nat->AV)(m:AM):Prop:=∃(i:Nat)(bx:T5),f 22=I i/\i<=p.ens.length/\m=⟨mb++(Ur p (.bs (mb.length+2) 0 p.ens.length 7)::m0::(p.ens.map Qd).flatten::bx),ml,ms,mn⟩
def yp(Y:YT)(m:AM)(p:Pl)(h:Bs p)(hn:p.ens≠[])(K:So)
  (hK:∀c0 c1 bx,K (.agg (Ur p (.bs (m.boxes.length+2) 0 p.ens.length 7))) {m with boxes:=m.boxes++(c0::c1::(p.ens.map Qd).flatten::bx)}):aB Tryz.prog aD Y 66 [.agg (Qa p)] m K:=by
 obtain⟨mb,ml,ms,mn⟩:=m;obtain⟨h1,h2,h3,h4,h5,h6⟩:=h;have k1:=pV p.sh zE;have k2:=pW p.aN zE;have k4:=pX p.bks zE;have k5:=Dt p.cls zE;have hsz:=kX (f:=Qd) (sz:=7) (fun _=>rfl) p.ens;refine Xn vl (Kk p) zd ?_;have aO:p.ens.map Qd≠[]:=by simpa using hn
 simp[IQ,Qa,Kk,hn];refine⟨k1,k2,yg _ _ hsz (by simpa using by omega) aO _ _ ?_⟩;simp;obtain⟨F,hF⟩:∃F,(p.ens.map Qd).flatten=F:=⟨_,rfl⟩;have hFl:F.length=p.ens.length*7:=by rw[<- hF,jT hsz];simp
 have bU:Zm F=true:=by rw[<- hF];exact kW (fun _=>rfl) _
 have hmp:∀m,F.map (bz m 4)=F:=fun m=>Ve m 3 bU;rw[hF]at hK |-
 refine Qk ew (aiO p mb ml ms mn [I 0,I 0,I 0,I 0,.sl .nil [],I 0,I 0,I 0,I 0,.sl .nil [],.sl .nil [],.sl .nil [],.sl .nil []]) (fun f _=>p.ens.length-(numOf (f 22)).toNat) ?_ ?_
 ·exact⟨0,[],zd,zE,by rw[hF];simp[Ur]⟩
 rintro f m ⟨i,bx,f22,hi,rfl⟩;rw[hF];rcases zzaa i p.ens.length with ai|bn
 ·obtain⟨e,he⟩:=aV ai;have aa:(i:Int)<(p.ens.length:Int):=zE
  have hw:=bO i zE;obtain⟨⟨r,hd⟩,bZ⟩:=uV hsz (i:=i) (row:=Qd e) (by simp[he]);rw[hF]at hd bZ;simp only[Qd,zzad,zzai]at hd bZ;have GL:=Wq e (h6 e (zzae he));simp only[Qd]at GL;simp[-setA,jR,jS,f22,ew,aa,hd,bZ,hFl,hw,Kk,Ur];refine⟨GL,zE,aQ,⟨i+1,bx++[[I e.id,I e.it,I e.fr,I e.ea,I e.la,I e.bo,.sl .ro (e.al.map Qe)]],zd,zE,by rw[hF];simp[Ur]⟩,zE⟩
 obtain rfl:i=p.ens.length:=zE
 simp[f22,ew,IS,Kk,Ur];simp[Ur]at hK;exact⟨k4,k5,hK _ _ _⟩
open Go Go.Abs
def lQ(g:Pg)(f:Int):Prop:=g.ev.length<=1000000000/\(∀e∈g.ev,Jw e)/\nT f/\g.p.ens.length<=1000000000
def Lo(Y:YT)(m:AM)(g:Pg)(f:Int)(mid:Nat)(id:Int)(h:lQ g f)(K:So)(hK:K (I (Je g id)) m):aB Tryz.prog aD Y 141 [.agg (Qr g f mid),I id] m K:=
 aB.mono (Q7 Y m g f mid id h.2.2.2) (by rintro r m' ⟨rfl,rfl⟩;exact hK)
def aiP(Y:YT)(m:AM)(g:Pg)(f:Int)(mid:Nat)(b:QR)(h:lQ g f)(hb:fS m.boxes mid b)(K:So)(hK:K (Uq g f b) m):aB Tryz.prog aD Y 160 [.agg (Qr g f mid)] m K:=
 aB.mono (ZI Y m g f mid b h.1 h.2.1 h.2.2.1 hb) (by rintro r m' ⟨rfl,rfl⟩;exact hK)
def Bv(g:Pg)(f:Int)(b:QR)(id:Int):Option Int:=match Jk g f b with
 |none=>none
 |some e=>if e.id=id then some (rJ g e.id)else none
def Q8(o:Option Int):AV:=.aS [I (o.getD 0),.bool o.isSome]
def aeX(Y:YT)(m:AM)(g:Pg)(f:Int)(mid:Nat)(b:QR)(id:Int)(h:lQ g f)(hb:fS m.boxes mid b):
  aB Tryz.prog aD Y 143 [.agg (Qr g f mid),I id] m (fun r m'=>m'=m/\r=Q8 (Bv g f b id)):=by
 obtain⟨mb,ml,ms,mn⟩:=m;have hB:∀ex,fS (mb++ex) mid b:=fun ex=>⟨by have:=hb.1;simp at this |-;omega,hb.ext ex⟩;have k:=fun ex K hK=>aiP Y ⟨mb++ex,ml,ms,mn⟩ g f mid b h (hB ex) K hK;simp only[Qr,Qh,Qa,zzad,zzai]at k;refine aB.read (Xn ab7 (fun _ _ _=>.gd false .junk) zd ?_);simp[agF,agG,Qr,Qh,Qa];refine k _ _ ?_;cases hp:Jk g f b with
 |none=>
  simp[Uq,hp,Bv,Q8];exact nU
 |some e=>
  by_cases hi:e.id=id
  ·simp[Uq,hp,Bv,Q8,Qf,uX,hi];exact nU
  simp[Uq,hp,Bv,Q8,Qf,uX,hi];exact nU
def amo(Y:YT)(m:AM)(g:Pg)(f:Int)(mid:Nat)(b:QR)(id:Int)(h:lQ g f)(hb:fS m.boxes mid b)(K:So)(hK:K (Q8 (Bv g f b id)) m):aB Tryz.prog aD Y 143 [.agg (Qr g f mid),I id] m K:=
 aB.mono (aeX Y m g f mid b id h hb) (by rintro r m' ⟨rfl,rfl⟩;exact hK)
def DA(g:Pg)(f:Int)(b:QR)(id:Int):Bool:=zi b id&&!(Bv g f b id).isSome
def aeY(Y:YT)(m:AM)(g:Pg)(f:Int)(mid:Nat)(b:QR)(id:Int)(h:lQ g f)(hb:fS m.boxes mid b):
  aB Tryz.prog aD Y 145 [.agg (Qr g f mid),I id] m (fun r m'=>m'=m/\r=.bool (DA g f b id)):=by
 obtain⟨mb,ml,ms,mn⟩:=m;have hB:∀ex,fS (mb++ex) mid b:=fun ex=>⟨by have:=hb.1;simp at this |-;omega,hb.ext ex⟩;have hR:∀ex,Qj (mb++ex) mid=[.aJ 0 (bG .bool b)]:=hb.ext;have k:=fun ex K hK=>amo Y ⟨mb++ex,ml,ms,mn⟩ g f mid b id h (hB ex) K hK;simp only[Qr,Qh,Qa,zzad,zzai]at k;refine aB.read (Xn ab9 (fun _ _ _=>.gd false .junk) zd ?_);simp[agH,agI,Qr,Qh,Qa];refine k _ _ ?_;rcases Xx AV.bool id b 0 with⟨b1,b2,_⟩|⟨u,u',b1,b2,_⟩
 ·simp[Q8,DA,zi,b1,b2,hR];exact nU
 cases u<;>simp[Q8,DA,zi,b1,b2,hR]<;>exact nU
def asY(Y:YT)(m:AM)(g:Pg)(f:Int)(mid:Nat)(b:QR)(id:Int)(h:lQ g f)(hb:fS m.boxes mid b)(K:So)(hK:K (.bool (DA g f b id)) m):aB Tryz.prog aD Y 145 [.agg (Qr g f mid),I id] m K:=
 aB.mono (aeY Y m g f mid b id h hb) (by rintro r m' ⟨rfl,rfl⟩;exact hK)
open Go Go.Abs
def Ye(n:Int):Int:=max (-9223372036854775808) (min 9223372036854775807 n)
def Q9(a b:Int)(ha:tg a)(hb:tg b):Pure Tryz.prog aD 142 [I a,I b] (I (Ye (a+b))):=by
 refine Qo ab6 (fun _ _ _=>.junk) zd ?_;unfold tg at ha hb;by_cases c1:0<b
 ·have w1:IntKind.i64.wrap (9223372036854775807-b)=9223372036854775807-b:=by rw[Ql]<;>omega
  have c2:¬b<0:=zE
  by_cases d1:9223372036854775807-b<a
  ·have:Ye (a+b)=9223372036854775807:=by unfold Ye;omega
   simp[Ai,Aj,c1,d1,w1,this]
  have w:IntKind.i64.wrap (a+b)=a+b:=by rw[Ql]<;>omega
  have:Ye (a+b)=a+b:=by unfold Ye;omega
  simp[Ai,Aj,c1,c2,d1,w,w1,this]
 by_cases c2:b<0
 ·have w2:IntKind.i64.wrap (-9223372036854775808-b)= -9223372036854775808-b:=by rw[Ql]<;>omega
  by_cases d1:a< -9223372036854775808-b
  ·have:Ye (a+b)= -9223372036854775808:=by unfold Ye;omega
   simp[Ai,Aj,c1,c2,d1,w2,this]
  have w:IntKind.i64.wrap (a+b)=a+b:=by rw[Ql]<;>omega
  have:Ye (a+b)=a+b:=by unfold Ye;omega
  simp[Ai,Aj,c1,c2,d1,w,w2,this]
 have w:IntKind.i64.wrap (a+b)=a+b:=by rw[Ql]<;>omega
 have:Ye (a+b)=a+b:=by unfold Ye;omega
 simp[Ai,Aj,c1,c2,w,this]
def Qeo(a b:Int)(ha:tg a)(hb:tg b):Pure Tryz.prog aD 144 [I a,I b] (I (Ye (a-b))):=by
 refine Qo ab8 (fun _ _ _=>.junk) zd ?_;unfold tg at ha hb;by_cases c1:b<0
 ·have w1:IntKind.i64.wrap (9223372036854775807+b)=9223372036854775807+b:=by rw[Ql]<;>omega
  have c2:¬0<b:=zE
  by_cases d1:9223372036854775807+b<a
  ·have:Ye (a-b)=9223372036854775807:=by unfold Ye;omega
   simp[Ak,Al,c1,d1,w1,this]
  have w:IntKind.i64.wrap (a-b)=a-b:=by rw[Ql]<;>omega
  have:Ye (a-b)=a-b:=by unfold Ye;omega
  simp[Ak,Al,c1,c2,d1,w,w1,this]
 by_cases c2:0<b
 ·have w2:IntKind.i64.wrap (-9223372036854775808+b)= -9223372036854775808+b:=by rw[Ql]<;>omega
  by_cases d1:a< -9223372036854775808+b
  ·have:Ye (a-b)= -9223372036854775808:=by unfold Ye;omega
   simp[Ak,Al,c1,c2,d1,w2,this]
  have w:IntKind.i64.wrap (a-b)=a-b:=by rw[Ql]<;>omega
  have:Ye (a-b)=a-b:=by unfold Ye;omega
  simp[Ak,Al,c1,c2,d1,w,w2,this]
 have w:IntKind.i64.wrap (a-b)=a-b:=by rw[Ql]<;>omega
 have:Ye (a-b)=a-b:=by unfold Ye;omega
 simp[Ak,Al,c1,c2,w,this]
def asZ:P2->AV
 |[.int _ x,.int _ y]=>I (Ye (x-y))
 |_=>.junk
def Qeb(n:Int):tg (Ye n):=by unfold tg Ye;omega
def Lp:∀{ens:List En}{i:Nat}{e:En},ens[i]?=some e->∃pre r:P2,pre.length=i*7/\(ens.map Qd).flatten=pre++(Qd e++r)/\∀e',((ens.set i e').map Qd).flatten=pre++(Qd e'++r)
 |[],i,e,h=>by simp at h
 |a::r,0,e,h=>by
  simp at h;subst h;exact⟨[],(r.map Qd).flatten,rfl,zd,fun e'=>zd⟩
 |a::r,i+1,e,h=>by
  obtain⟨pre,s,h1,h2,h3⟩:=Lp (ens:=r) (i:=i) (e:=e) (Nm h);exact⟨Qd a++pre,s,by simp[Qd,h1];omega,by simp[h2],fun e'=>by have:=h3 e';simp only[zzdx,zzaz,zzch,this,zzbe]⟩
def Bw(pre X Y:P2)(n:Nat)(k:Nat)(h:pre.length=n):setA (pre++X) (n+k) Y=pre++setA X k Y:=by
 subst h;induction pre with
 |nil=>simp
 |cons a r ih=>rw[zzad,zzbd,show r.length+1+k=r.length+k+1 by omega,yf,ih];rfl
def Bx(pre X:P2)(n:Nat)(k:Nat)(h:pre.length=n):(pre++X).drop (n+k)=X.drop k:=by
 subst h;simp[List.drop_append]
def Xt(p:Pl)(V W:AV)(d:Int):P2:=[I p.ch,I p.nu,I p.de,I p.of,.sl .ro (p.sh.map Qe),I p.ep,I p.rg,I p.ln,I p.fi,.sl .ro (p.aN.map Qm),V,.sl .ro (p.bks.map Xj),W,I d]
def uY:P2:=[I 0,I 0,I 0,I 0,.sl .nil [],I 0,I 0,I 0,I 0,.sl .nil [],.sl .nil [],.sl .nil [],.sl .nil [],I 0]
def uj(g:Pg)(f:Int)(b:QR)(o:Od)(e:En):Int:=match Bv g f b o.en with
 |none=>Ye (e.fr+o.n)
 |some st=>if Ye (e.fr+o.n)<Ye (f-st)then Ye (f-st)else Ye (e.fr+o.n)
def Ra(g:Pg)(f:Int)(b:QR)(o:Od)(e:En):En:={e with fr:=uj g f b o e,la:=if Ye (g.p.ln-uj g f b o e)<e.la then Ye (g.p.ln-uj g f b o e)else e.la}
def rK(g:Pg)(f:Int)(b:QR)(o:Od):Option (Pl×Int):=match g.p.ens[(Je g o.en).toNat]? with
 |none=>none
 |some e=>if Je g o.en<0 then none else some ({g.p with ens:=g.p.ens.set (Je g o.en).toNat (Ra g f b o e)},uj g f b o e)
def DB{g:Pg}{f:Int}(h:lQ g f)(id:Int):0<=rJ g id/\rJ g id<=1000000:=by
 unfold rJ;cases hf:g.ev.find? (fun e=>decide (e.id=id))with
 |none=>simp
 |some e=>exact(h.2.1 e (zzea hf)).1
def aeZ(Y:YT)(m:AM)(g:Pg)(f:Int)(mid:Nat)(b:QR)(o:Od)(h:lQ g f)(hp:Bs g.p)(hb:fS m.boxes mid b)(hn:tg o.n)(dG:tg g.p.ln)(hes:∀e∈g.p.ens,tg e.fr)(K:So)
  (h0:rK g f b o=none->∀ex,K (.aS [.agg uY,.bool false]) {m with boxes:=m.boxes++ex})
  (h1:∀q d,rK g f b o=some (q,d)->∀ex k,m.boxes.length<=k->k<(m.boxes++ex).length->Qj (m.boxes++ex) k=(q.ens.map Qd).flatten->K (.aS [.agg (Xt q (.bs k 0 q.ens.length 7) (.sl .ro (q.cls.map Qg)) d),.bool true]) {m with boxes:=m.boxes++ex}):
  aB Tryz.prog aD Y 89 [.agg (Qr g f mid),.agg (Qq o)] m K:=by
 obtain⟨mb,ml,ms,mn⟩:=m;have hB:∀ex,fS (mb++ex) mid b:=fun ex=>⟨by have:=hb.1;simp at this |-;omega,hb.ext ex⟩;have kp:=fun ex K hK=>Lo Y ⟨mb++ex,ml,ms,mn⟩ g f mid o.en h K hK;have ki:=fun ex K hK=>amo Y ⟨mb++ex,ml,ms,mn⟩ g f mid b o.en h (hB ex) K hK;simp only[Qr,Qh,Qa,zzad,zzai]at kp ki;cases hf:g.p.ens.find? (fun e=>decide (e.id=o.en))with
 |none=>
  have uu:Je g o.en= -1:=Qde hf
  have hx:rK g f b o=none:=by
   unfold rK;rw[uu];split
   ·rfl
   simp
  refine Xn Tc (fun _ _ _=>.gd false .junk) zd ?_;simp[akr,aks,Qr,Qh,Qa,Qq,Qd,Qg,Qi];refine kp _ _ ?_;simp[uu];have:=h0 hx;simp[uY]at this;exact this _
 |some e=>
  obtain⟨n,g1,g2,g3⟩:=Wj (i:=0) hf;have uu:Je g o.en=(n:Int):=by unfold Je;rw[g1];omega
  have ai:n<g.p.ens.length:=(zza.1 g2).1;have aO:g.p.ens≠[]:=by rintro e0;rw[e0]at ai;simp at ai
  have AB:¬(n:Int)<0:=zE
  have b9:(n:Int)<(g.p.ens.length:Int):=zE
  have hx:rK g f b o=some ({g.p with ens:=g.p.ens.set n (Ra g f b o e)},uj g f b o e):=by
   unfold rK;rw[uu];simp[g2,AB]
  obtain⟨pre,r,q1,q2,q3⟩:=Lp g2;have hd:=fun X k=>Bx pre X (n*7) k q1;have bZ:=fun X Y k=>Bw pre X Y (n*7) k q1;have h1:=h1 _ _ hx;rw[q3]at h1;have kO:=fun ex K hK=>yp Y ⟨mb++ex,ml,ms,mn⟩ g.p hp aO K hK;simp only[Qa]at kO;rw[q2]at kO;have axA:=Q9 e.fr o.n (hes e (zzae g2)) hn;refine Xn Tc (fun _ f l=>if f=142 then I (Ye (e.fr+o.n))else if f=144 then asZ l else .gd false .junk) zd ?_;simp[akr,aks,Qr,Qh,Qa,Qq,Qd,Qg,Qi];refine kp _ _ ?_;simp[uu,AB];refine kO _ _ fun c0 c1 bx=>?_;have zg:min 1 (pre.length+(r.length+7)-(n*7+2))=1:=zE
  have hm4:min 1 (pre.length+(r.length+7)-(n*7+4))=1:=zE
  simp[-setA,jR,jS,Ur,b9,Qd,zzan,hd,zg,asZ];refine⟨axA,ki _ _ ?_⟩;have hL:=fun V=>Qeo g.p.ln (Ye V) dG (Qeb V);cases hi:Bv g f b o.en with
  |none=>
   simp[-setA,jR,yf,jS,Q8,zzan,hd,bZ,hm4];have hx2:uj g f b o e=Ye (e.fr+o.n):=by simp only[uj,hi]
   simp only[hx2,Ra,zzcf,Qd,zzad,zzai]at h1;refine⟨zE,hL _,zE,?_⟩;exact h1 _ (mb.length+5) zd zd zd
  |some st=>
   have as0:Bv g f b o.en=some st->0<=st/\st<=1000000:=fun hh=>by
    unfold Bv at hh;split at hh
    ·cases hh
    split at hh
    ·cases hh;exact DB h _
    cases hh
   have hsb:=as0 hi;have hfs:=h.2.2.1;have kd:=Qeo f st (by unfold nT at hfs;unfold tg;omega) (by unfold tg;omega);simp[-setA,jR,yf,jS,Q8,zzan,hd,bZ,hm4];have hx2:uj g f b o e=if Ye (e.fr+o.n)<Ye (f-st)then Ye (f-st)else Ye (e.fr+o.n):=by simp only[uj,hi]
   simp only[hx2,Ra,zzcf,Qd,zzad,zzai]at h1;refine⟨kd,zE,?_,zE,?_⟩
   ·have:=hL (max (Ye (e.fr+o.n)) (Ye (f-st)));split
    ·exact Qeo _ _ dG (Qeb _)
    exact Qeo _ _ dG (Qeb _)
   exact h1 _ (mb.length+5) zd zd zd
open Go Go.Abs
def eF(l:List En):P2:=(l.map Qd).flatten
@[simp] theorem avG:eF []=[]:=rfl
@[simp] theorem as1(e:En)(l:List En):eF (e::l)=I e.id::I e.it::I e.fr::I e.ea::I e.la::I e.bo::.sl .ro (e.al.map Qe)::eF l:=rfl
def Jb:∀l,(eF l).length=l.length*7
 |[]=>rfl
 |s::r=>by simp[Jb r];omega
def p6:∀a b,eF (a++b)=eF a++eF b
 |[],_=>rfl
 |s::r,b=>by simp[p6 r b]
def GW:∀(l:List En)(i:Nat),(eF l).drop (i*7)=eF (l.drop i)
 |[],i=>zd
 |s::r,0=>zd
 |s::r,i+1=>by rw[show(i+1)*7=i*7+1+1+1+1+1+1+1 by omega];simp[GW r i]
def DC{l:List En}{i:Nat}{s:En}(h:l[i]?=some s):(eF l).drop (i*7)=I s.id::I s.it::I s.fr::I s.ea::I s.la::I s.bo::.sl .ro (s.al.map Qe)::eF (l.drop (i+1)):=by
 rw[GW];have ai:=(zza.1 h).1;rw[zzag ai,(zza.1 h).2];rfl
def ae0(l:List En)(i:Nat)(s:En)(h:i<l.length):setA (eF l) (i*7) [I s.id,I s.it,I s.fr,I s.ea,I s.la,I s.bo,.sl .ro (s.al.map Qe)]=eF (l.set i s):=by
 obtain⟨pre,r,h1,h2,h3⟩:=Lp (ens:=l) (i:=i) (zzaf h);unfold eF;rw[h2,h3,<- h1];exact GJ pre _ r _ rfl
def Lq(l:List En):Zm (eF l)=true:=kW (fun _=>rfl) l
def Rb(l:List En):aY 7 l.length (eF l)=l.map Qd:=by
 have:=Qbu (kX (f:=Qd) (sz:=7) (fun _=>rfl) l);simpa[eF]using this
def rM(row:P2):∀n,(bF n row).length=n*row.length
 |0=>by simp[bF]
 |n+1=>by simp[bF,rM row n,zzbq];omega
def nV:P2:=[I 0,I 0,I 0,I 0,I 0,I 0,.sl .nil []]
def GX:∀n,Zm (bF n nV)=true
 |0=>rfl
 |n+1=>by have:=GX n;unfold Zm at this |-;rw[bF,zzf,this];rfl
def mG(x:Int)(e:En):Bool:=decide (e.id=x)
def yq(e:En)(a0 a1 a2 a3:AV)(x:Int)(r:P2):Pure Tryz.prog aD 147 [.agg (Qd e),.ep (a0::a1::a2::a3::I x::r) 0] (.bool (mG x e)):=by
 refine Qo ace (fun _ _ _=>.junk) zd ?_;simp[agJ,agK,Qd,mG];rw[zzcz];simp
def ae1{x:Int}{l:List En}(h:Uu (mG x) l 0= -1):l.filter (fun e=>!mG x e)=l:=by
 cases hf:l.find? (mG x)with
 |some a=>obtain⟨k,h1,_⟩:=Wj (i:=0) hf;rw[h1]at h;omega
 |none=>
  rw[List.find?_eq_none]at hf;rw[zzfv];intro a ha;simpa using hf a ha
def Oh{x:Int}:∀{l:List En}{i:Nat},Uu (mG x) l i≠ -1->∃k:Nat,Uu (mG x) l i=((i+k:Nat):Int)/\k<l.length/\(l.take (k+1)).filter (fun e=>!mG x e)=l.take k
 |[],_,h=>absurd rfl h
 |s::r,i,h=>by
  simp only[Uu]at h |-
  split
  ·rename_i hs;exact⟨0,rfl,zd,by simp[hs]⟩
  rename_i hs;rw[if_neg hs]at h;obtain⟨k,h1,h2,h3⟩:=Oh h;exact⟨k+1,by rw[h1];congr 1;omega,Nm h2,by simp only[zzej,zzee];simp[hs,h3]⟩
def yt(k:Int)(x:Int):UV:=fun _ f l=>if f=148 then I k else match l with
 |.agg (.int _ n::_)::_=>.bool (decide (n=x))
 |_=>.junk
def ZJ(Y:YT)(l:List En)(hl:l.length<=1000000000)(B:T5)(L:Pa)(st:Nat->LS)(n id:Nat)(aL:id<B.length)(aO:l≠[])(hB:Qj B id=eF l)
  (kk:Nat)(a0 a1 a2 a3:AV)(x:Int)(r:P2)(hkk:kk<B.length)(fq:kk≠id)(hk:Qj B kk=a0::a1::a2::a3::I x::r)(bU:Zm (a0::a1::a2::a3::I x::r)=true)(K:So)
  (hK:∀(B':T5)(z:P2),bB (·=id) B B'->Qj B' id=eF (l.filter fun e=>!mG x e)++z->(l.filter fun e=>!mG x e).length*7+z.length=l.length*7->Zm z=true->K (.bs id 0 (l.filter fun e=>!mG x e).length 7) ⟨B',L,st,n⟩):
  aB Tryz.prog aD Y 146 [.bs id 0 l.length 7,.fn 147 [] [.ptr kk 0]] ⟨B,L,st,n⟩ K:=by
 have Lr:=GU l (mG x) 147 [] [.ep (a0::a1::a2::a3::I x::r) 0] hl (fun _=>rfl) (fun _=>zd) (fun e _=>yq e a0 a1 a2 a3 x r) (yt 0 x) (fun _ e _=>by simp[yt,Qd,mG]);have gF:=Ve ⟨B,L,st,n⟩ 4 (Lq l);have fE:=Rb l;have aH:=Jb l
 have hkc:∀B' d,Qj B' kk=Qj B kk->bz ⟨B',L,st,n⟩ (d+2) (.ptr kk 0)=.ep (a0::a1::a2::a3::I x::r) 0:=fun B' d h=>by
  rw[oV,Yd,h,hk,Ve _ _ bU]
 refine Xn acd (yt (Uu (mG x) l 0) x) zd ?_;by_cases dD:Uu (mG x) l 0= -1
 ·have hf:=ae1 dD;rw[dD]at Lr;have:=hK B [] (bB.refl _ _) (by rw[hf];simpa using hB) (by rw[hf];simp) rfl;rw[hf]at this;have hc:=fun d=>hkc B d rfl;simp[-oV,ML,TB,yt,dD,hB,gF,fE,aH,hc];exact⟨Lr,this⟩
 obtain⟨k,WY,ee,Bh⟩:=Oh dD;rw[zzbs]at WY;have D8:¬(k:Int)= -1:=zE
 have P5:=bO k zE;rw[WY]at Lr;have hc:=fun d=>hkc B d rfl;simp[-oV,ML,TB,yt,WY,D8,hB,gF,fE,aH,P5,hc];refine⟨Lr,?_⟩
 refine Qk B5 (fun f m=>∃(i j:Nat)(B':T5)(L':List En),f 5=I i/\f 6=I j/\i<j/\j<=l.length/\m=⟨B',L,st,n⟩/\bB (·=id) B B'/\Qj B' id=eF L'/\L'.length=l.length/\L'.take i=(l.take j).filter (fun e=>!mG x e)/\L'.drop j=l.drop j)
  (fun f m=>l.length-(numOf (f 6)).toNat) ?_ ?_
 ·exact⟨k,k+1,B,l,zd,zd,zE,zE,rfl,bB.refl _ _,hB,rfl,Bh.symm,rfl⟩
 rintro f m ⟨i,j,B',L',h5,h6,eH,hj,rfl,nE,eP,tV,ht,hd⟩;have cK:id<B'.length:=zzay aL nE.1;have axB:kk<B'.length:=zzay hkk nE.1;have jy:=Jb L';have hkB:Qj B' kk=Qj B kk:=nE.2 kk hkk fq;have fD:∀ex d,bz ⟨B'++ex,L,st,n⟩ (d+2) (.ptr kk 0)=.ep (a0::a1::a2::a3::I x::r) 0:=fun ex d=>hkc _ d (by rw[Qn axB,hkB]);rcases zzaa j l.length with ai|bn
 ·obtain⟨s,hs⟩:=aV ai
  have dK:L'[j]?=some s:=by
   have:=congrArg (fun x=>x[0]?) hd;simpa[hs]using this
  have hg:=DC dK;have eE:(j:Int)<(l.length:Int):=zE
  have aa:(i:Int)<(l.length:Int):=zE
  have xb:i<l.length:=zE
  have xI:=bO j zE;have XM:=bO i zE;have hp:=yq s a0 a1 a2 a3 x r;simp only[Qd]at hp;have bS:=ae0 L' i s zE;have ic:∀x,Qj (B'++x) id=eF L':=fun x=>by rw[Qn cK,eP]
  have lK:∀x v,(B'++x).set id v=B'.set id v++x:=fun x v=>Ym v cK
  have bA:(l.take (j+1)).filter (fun e=>!mG x e)=(l.take j).filter (fun e=>!mG x e)++[s].filter (fun e=>!mG x e):=by
   rw[zzax,hs,zzdi];rfl
  have hdj:L'.drop (j+1)=l.drop (j+1):=by
   have:=congrArg (List.drop 1) hd;simpa[zzdw,zzfb]using this
  by_cases he:s.id=x
  ·have GY:mG x s=true:=by simp[mG,he]
   rw[GY]at hp;simp[-setA,jR,jS,-oV,fD,h5,h6,eE,eP,ic,hg,B5,yt,he,xI];rw[he]at hp;refine⟨hp,aQ,⟨i,rfl,j+1,zd,zE,zE,nE.app _,?_⟩,zE⟩
   ·refine⟨L',rfl,tV,?_,hdj⟩;rw[bA,ht];simp[GY]
  have GY:mG x s=false:=by simp[mG,he]
  rw[GY]at hp;simp[-setA,jR,jS,-oV,fD,h5,h6,eE,aa,eP,ic,lK,hg,B5,yt,he,xI,XM,bS,jy,tV];refine⟨hp,⟨zE,zE⟩,aQ,⟨i+1,zd,j+1,zd,zE,zE,(nE.set (.inl rfl) _).app _,?_⟩,zE⟩
  ·refine⟨L'.set i s,by rw[Qn (Nm cK),Yi _ cK],Nm tV,?_,?_⟩
   ·rw[bA,<- ht,zzax,zzbf zE,zzft zE];simp[GY]
   rw[zzfu zE];exact hdj
 obtain rfl:j=l.length:=zE
 rw[zzbx]at ht;have fM:(l.filter (fun e=>!mG x e)).length=i:=by rw[<- ht,zzaq];omega
 have NU:¬((l.length:Nat):Int)<(l.length:Int):=zE
 have bQ:(i:Int)<=(l.length:Int):=zE
 have aa:(i:Int)<(l.length:Int):=zE
 have xb:i<l.length:=eH
 have fJ:eF L'≠[]:=by
  intro h;have:=congrArg List.length h;rw[jy,tV]at this;simp at this;omega
 have qu:setA (eF L') (i*7) (bF (l.length-i) [I 0,I 0,I 0,I 0,I 0,I 0,.sl .nil []])=eF (l.filter (fun e=>!mG x e))++bF (l.length-i) nV:=by
  have e1:L'=L'.take i++L'.drop i:=zd
  conv=>lhs;rw[e1]
  rw[p6,<- ht];have e2:(eF (L'.take i)).length=i*7:=by rw[Jb,zzaq];congr 1;omega
  rw[<- e2];exact o9 _ _ _ (by rw[rM,Jb];simp;omega)
 simp[-setA,h5,h6,NU,eP,aa,bQ,B5,cK,fJ,jy,tV,qu];refine⟨zE,?_⟩;have:=hK (B'.set id (eF (l.filter (fun e=>!mG x e))++bF (l.length-i) nV)) (bF (l.length-i) nV) (nE.set (.inl rfl) _) (Yi _ cK) (by rw[rM,fM];simp[nV];omega) (GX _);rw[fM]at this;exact this
open Go Go.Abs
def bB.form{id:Nat}{B B':T5}(h:bB (·=id) B B')(aL:id<B.length):B'=B.set id (Qj B' id)++B'.drop B.length:=by
 have hl:=h.1;apply zzda;intro j;rcases zzaa j B.length with hj|hj
 ·rw[zzaj (Nm hj),Jj (B:=B') zE];by_cases Av:j=id
  ·subst Av;rw[zzbf aL]
  rw[zzbn zE,Jj hj,h.2 j hj Av]
 rw[zzap (Nm hj),zzcf,zzbl];congr 1;omega
def Rf(Y:YT)(l:List En)(hl:l.length<=1000000000)(B:T5)(L:Pa)(st:Nat->LS)(n id:Nat)(aL:id<B.length)(aO:l≠[])(hB:Qj B id=eF l)
  (kk:Nat)(a0 a1 a2 a3:AV)(x:Int)(r:P2)(hkk:kk<B.length)(fq:kk≠id)(hk:Qj B kk=a0::a1::a2::a3::I x::r)(bU:Zm (a0::a1::a2::a3::I x::r)=true)(K:So)
  (hK:∀(ex:T5)(z:P2),Zm z=true->K (.bs id 0 (l.filter fun e=>!mG x e).length 7) ⟨B.set id (eF (l.filter fun e=>!mG x e)++z)++ex,L,st,n⟩):
  aB Tryz.prog aD Y 146 [.bs id 0 l.length 7,.fn 147 [] [.ptr kk 0]] ⟨B,L,st,n⟩ K:=
 ZJ Y l hl B L st n id aL aO hB kk a0 a1 a2 a3 x r hkk fq hk bU K fun B' z h1 h2 _ h4=>by
  have:=bB.form h1 aL;rw[h2]at this;rw[this];exact hK _ z h4
def yu(g:Pg)(o:Od):Option Pl:=if Je g o.en<0 then none else some {g.p with ens:=g.p.ens.filter fun e=>!mG o.en e}
def ZK(Y:YT)(m:AM)(g:Pg)(f:Int)(mid:Nat)(o:Od)(h:lQ g f)(hp:Bs g.p)(K:So)
  (h0:yu g o=none->∀ex,K (.aS [.agg uY,.bool false]) {m with boxes:=m.boxes++ex})
  (h1:∀q,yu g o=some q->∀ex k z,m.boxes.length<=k->k<(m.boxes++ex).length->Qj (m.boxes++ex) k=eF q.ens++z->Zm z=true->K (.aS [.agg (Xt q (.bs k 0 q.ens.length 7) (.sl .ro (q.cls.map Qg)) 0),.bool true]) {m with boxes:=m.boxes++ex}):
  aB Tryz.prog aD Y 91 [.agg (Qr g f mid),.agg (Qq o)] m K:=by
 obtain⟨mb,ml,ms,mn⟩:=m;have kp:=fun ex K hK=>Lo Y ⟨mb++ex,ml,ms,mn⟩ g f mid o.en h K hK;simp only[Qr,Qh,Qa,zzad,zzai]at kp;by_cases CA:Je g o.en<0
 ·have hx:yu g o=none:=by unfold yu;rw[if_pos CA]
  refine Xn Tf (fun _ _ _=>.gd false .junk) zd ?_;simp[aku,akv,Qr,Qh,Qa,Qq,Qd,Qg,Qi];refine kp _ _ ?_;simp[CA];have:=h0 hx;simp[uY]at this;exact this _
 have hx:yu g o=some {g.p with ens:=g.p.ens.filter fun e=>!mG o.en e}:=by unfold yu;rw[if_neg CA]
 have aO:g.p.ens≠[]:=by
  intro e;unfold Je at CA;rw[e]at CA;simp[Uu]at CA
 have h1:=h1 _ hx;have kO:=fun ex K hK=>yp Y ⟨mb++ex,ml,ms,mn⟩ g.p hp aO K hK;simp only[Qa]at kO;have kD:=fun B id aL hB kk a0 a1 a2 a3 r hkk fq hk bU=>Rf Y g.p.ens h.2.2.2 B ml ms mn id aL aO hB kk a0 a1 a2 a3 o.en r hkk fq hk bU;refine Xn Tf (fun _ _ _=>.gd false .junk) zd ?_;simp[aku,akv,Qr,Qh,Qa,Qq,Qd,Qg,Qi];refine kp _ _ ?_;simp[CA];refine kO _ _ fun c0 c1 bx=>?_;simp[Ur,zzan];refine kD _ _ zd ?_ (mb.length+1) (I o.sq) (I o.ch) (I o.fr) (I o.ki) _ zd zE (by simp;rfl) ?_ _ ?_
 ·simp[eF]
 ·simp[Zm,Ft]
 intro ex z hz;simp[zzan];refine⟨zE,?_⟩;exact h1 _ (mb.length+5) z zd zd zd hz
open Go Go.Abs
def GZ(Y:YT)(l:List Cl)(h:l.length<=1000000000)(m:AM)(K:So)(hK:K (.sl (.own m.lens.length 8) (l.map Qg)) {m with lens:=m.lens++[l.length]}):aB Tryz.prog aD Y 121 [.sl .ro (l.map Qg)] m K:=by
 refine Xn MD (fun _ _ _=>.junk) zd ?_;simp[Ts,Tt];exact⟨⟨fun _ _=>rfl,zE⟩,hK⟩
def Jf(p:Pl)(V W:AV):P2:=[I p.ch,I p.nu,I p.de,I p.of,.sl .ro (p.sh.map Qe),I p.ep,I p.rg,I p.ln,I p.fi,.sl .ro (p.aN.map Qm),V,.sl .ro (p.bks.map Xj),W]
def yw(p:Pl):UV:=fun d f l=>if f=121 then .gd false .junk else Kk p d f l
def ZL(Y:YT)(m:AM)(p:Pl)(h:Bs p)(hn:p.ens≠[])(K:So)
  (hK:∀c0 c1 bx,K (.agg (Jf p (.bs (m.boxes.length+2) 0 p.ens.length 7) (.sl (.own m.lens.length 8) (p.cls.map Qg)))) {m with boxes:=m.boxes++(c0::c1::(p.ens.map Qd).flatten::bx),lens:=m.lens++[p.cls.length]}):aB Tryz.prog aD Y 66 [.agg (Qa p)] m K:=by
 obtain⟨mb,ml,ms,mn⟩:=m;obtain⟨h1,h2,h3,h4,h5,h6⟩:=h;have k1:=pV p.sh zE;have k2:=pW p.aN zE;have k4:=pX p.bks zE;have hsz:=kX (f:=Qd) (sz:=7) (fun _=>rfl) p.ens;refine Xn vl (yw p) zd ?_;have aO:p.ens.map Qd≠[]:=by simpa using hn
 simp[IQ,Qa,yw,Kk,hn];refine⟨k1,k2,yg _ _ hsz (by simpa using by omega) aO _ _ ?_⟩;simp;obtain⟨F,hF⟩:∃F,(p.ens.map Qd).flatten=F:=⟨_,rfl⟩;have hFl:F.length=p.ens.length*7:=by rw[<- hF,jT hsz];simp
 have bU:Zm F=true:=by rw[<- hF];exact kW (fun _=>rfl) _
 have hmp:∀m,F.map (bz m 4)=F:=fun m=>Ve m 3 bU;rw[hF]at hK |-
 refine Qk ew (aiO p mb ml ms mn [I 0,I 0,I 0,I 0,.sl .nil [],I 0,I 0,I 0,I 0,.sl .nil [],.sl .nil [],.sl .nil [],.sl .nil []]) (fun f _=>p.ens.length-(numOf (f 22)).toNat) ?_ ?_
 ·exact⟨0,[],zd,zE,by rw[hF];simp[Ur]⟩
 rintro f m ⟨i,bx,f22,hi,rfl⟩;rw[hF];rcases zzaa i p.ens.length with ai|bn
 ·obtain⟨e,he⟩:=aV ai;have aa:(i:Int)<(p.ens.length:Int):=zE
  have hw:=bO i zE;obtain⟨⟨r,hd⟩,bZ⟩:=uV hsz (i:=i) (row:=Qd e) (by simp[he]);rw[hF]at hd bZ;simp only[Qd,zzad,zzai]at hd bZ;have GL:=Wq e (h6 e (zzae he));simp only[Qd]at GL;simp[-setA,jR,jS,f22,ew,aa,hd,bZ,hFl,hw,yw,Kk,Ur];refine⟨GL,zE,aQ,⟨i+1,bx++[[I e.id,I e.it,I e.fr,I e.ea,I e.la,I e.bo,.sl .ro (e.al.map Qe)]],zd,zE,by rw[hF];simp[Ur]⟩,zE⟩
 obtain rfl:i=p.ens.length:=zE
 simp[f22,ew,IS,yw,Kk,Ur];simp[Jf]at hK;refine⟨k4,GZ _ _ zE _ _ ?_⟩;simp;exact hK _ _ _
def Rg(Y:YT)(m:AM)(p:Pl)(h:Bs p)(hn:p.ens=[])(K:So)
  (hK:∀c0 c1,K (.agg (Jf p (.sl .ro []) (.sl (.own m.lens.length 8) (p.cls.map Qg)))) {m with boxes:=m.boxes++[c0,c1],lens:=m.lens++[p.cls.length]}):aB Tryz.prog aD Y 66 [.agg (Qa p)] m K:=by
 obtain⟨mb,ml,ms,mn⟩:=m;obtain⟨h1,h2,h3,h4,h5,h6⟩:=h;have k1:=pV p.sh zE;have k2:=pW p.aN zE;have k4:=pX p.bks zE;have k3:=GK;refine Xn vl (yw p) zd ?_;simp[IQ,Qa,yw,Kk,hn];refine⟨k1,k2,k3,?_⟩;refine Qk ew (fun f m=>f 22=I 0/\m=⟨mb++[[I p.ch,I p.nu,I p.de,I p.of,.sl .ro (p.sh.map Qe),I p.ep,I p.rg,I p.ln,I p.fi,.sl .ro (p.aN.map Qm),.sl .ro [],.sl .ro (p.bks.map Xj),.sl .ro (p.cls.map Qg)],[I 0,I 0,I 0,I 0,.sl .nil [],I 0,I 0,I 0,I 0,.sl .nil [],.sl .nil [],.sl .nil [],.sl .nil []]],ml,ms,mn⟩) (fun f _=>0) ?_ ?_
 ·exact⟨zd,zd⟩
 rintro f m ⟨f22,rfl⟩;simp[f22,ew,IS,yw,Kk];refine⟨k4,GZ _ _ zE _ _ ?_⟩;simp;simp[Jf]at hK;exact hK _ _
def DD(rt:Rt):Prop:=∀m d x,bz m (d+1) (.sl rt x)=.sl .ro x
def DD.ro:DD .ro:=fun _ _ _=>rfl
def DD.own(k s:Nat):DD (.own k s):=fun _ _ _=>rfl
def mH(bx:T5)(V:AV)(l:List En):Prop:=(∃rt,V=.sl rt (l.map Qd)/\DD rt)\/∃k z,V=.bs k 0 l.length 7/\k<bx.length/\Qj bx k=eF l++z/\Zm z=true
def G1(n:Nat)(V:AV):Prop:=∀k o l s,V=.bs k o l s->n<=k
def G1.sl(n:Nat)(rt:Rt)(rows:T5):G1 n (.sl rt rows):=fun _ _ _ _ h=>by cases h
def G1.bs{n k o l s:Nat}(h:n<=k):G1 n (.bs k o l s):=fun _ _ _ _ e=>by cases e;exact h
def DE(g:Pg)(o:Od):Pl:={g.p with cls:=g.p.cls++[o.cl]}
def ZM(Y:YT)(m:AM)(g:Pg)(f:Int)(mid:Nat)(o:Od)(hp:Bs g.p)(K:So)
  (h1:∀ex V,mH (m.boxes++ex) V g.p.ens->G1 m.boxes.length V->K (.aS [.agg (Xt (DE g o) V (.sl (.own m.lens.length 8) ((DE g o).cls.map Qg)) 0),.bool true]) {m with boxes:=m.boxes++ex,lens:=m.lens++[g.p.cls.length+1]}):
  aB Tryz.prog aD Y 87 [.agg (Qr g f mid),.agg (Qq o)] m K:=by
 obtain⟨mb,ml,ms,mn⟩:=m;have hc:=hp.2.2.2.2.1
 have ah:∀row:P2,((∃a,a∈g.p.cls/\Qg a=row)\/row=Qg o.cl)->row.length=8:=by
  rintro row (⟨a,_,rfl⟩|rfl)<;>rfl
 simp only[DE,Xt,zzcg,zzaz,zzcv]at h1;by_cases aO:g.p.ens=[]
 ·have kO:=fun ex K hK=>Rg Y ⟨mb++ex,ml,ms,mn⟩ g.p hp aO K hK;simp only[Qa]at kO;refine Xn Tb (fun _ _ l=>.gd false .junk) zd ?_;simp[ako,akp,Qr,Qh,Qa,Qq,Qd,Qg,Qi];refine kO _ _ fun c0 c1=>?_;simp[Jf];refine⟨⟨ah,zE⟩,?_⟩;exact h1 _ _ (.inl ⟨.ro,by rw[aO];rfl,DD.ro⟩) (G1.sl _ _ _)
 have kO:=fun ex K hK=>ZL Y ⟨mb++ex,ml,ms,mn⟩ g.p hp aO K hK;simp only[Qa]at kO;refine Xn Tb (fun _ _ l=>.gd false .junk) zd ?_;simp[ako,akp,Qr,Qh,Qa,Qq,Qd,Qg,Qi];refine kO _ _ fun c0 c1 bx=>?_;simp[Jf,zzan];refine⟨⟨ah,zE⟩,?_⟩;exact h1 _ _ (.inr ⟨mb.length+5,[],rfl,zd,by simp[eF],rfl⟩) (G1.bs zd)
open Go Go.Abs
def mH.ext{bx:T5}{V:AV}{l:List En}(h:mH bx V l)(ex:T5):mH (bx++ex) V l:=by
 obtain h|⟨k,z,h1,h2,h3,h4⟩:=h
 ·exact .inl h
 exact .inr ⟨k,z,h1,by simp;omega,by rw[Qn h2,h3],h4⟩
def Rh(Y:YT)(m:AM)(V:AV)(L:List En)(id:Int)(hV:mH m.boxes V L)(hl:L.length<=1000000000):aB Tryz.prog aD Y 62 [V,I id,.fn 63 [] []] m (fun r m'=>m'=m/\r=Wz (Zh id L)):=by
 obtain⟨mb,ml,ms,mn⟩:=m;refine aB.read ?_;obtain⟨rt,rfl,aX⟩|⟨k,z,rfl,hk,hB,hz⟩:=hV
 ·refine Xn IN (fun _ f l=>if f=63 then(match l with|[.agg (c::_)]=>c|_=>.junk)else .junk) zd ?_;simp[abm];refine Qk gL (fun f m=>∃(i:Nat)(bx:T5),f 13=I i/\i<=L.length/\Zh id (L.drop i)=Zh id L/\m=⟨mb++([I 0,I 0,I 0,I 0,I 0,I 0,.sl .nil []]::bx),ml,ms,mn⟩) (fun f _=>L.length-(numOf (f 13)).toNat) ?_ ?_
  ·exact⟨0,[],zd,zE,rfl,rfl⟩
  rintro f m ⟨i,bx,eU,hi,hf,rfl⟩;rcases zzaa i L.length with ai|bn
  ·obtain⟨x,hx⟩:=aV ai;have ah:Qj (L.map Qd) i=Qd x:=Qu (by simp[hx]);have aa:(i:Int)<(L.length:Int):=zE
   have hw:=bO i zE;have hd:L.drop i=x::L.drop (i+1):=by rw[zzag ai,(zza.1 hx).2]
   have Cq:=nN x;rw[hd,Zh]at hf;by_cases aL:x.id=id
   ·rw[if_pos aL]at hf;simp[eU,aa,ah,Qd,aL,gL,IM,<- hf,Wz];refine⟨by simpa[Qd,aL]using Cq,nU⟩
   rw[if_neg aL]at hf;simp[eU,aa,ah,Qd,aL,gL,hw];refine⟨Cq,aQ,⟨i+1,zd,zE,hf⟩,zE⟩
  rw[zzal bn]at hf;have bQ:¬(i:Int)<(L.length:Int):=zE
  simp[eU,bQ,gL,IM,<- hf,Wz,Zh];exact nU
 have hR:∀ex,Qj (mb++ex) k=eF L++z:=fun ex=>by rw[Qn hk];exact hB
 refine Xn IN (fun _ f l=>if f=63 then(match l with|[.agg (c::_)]=>c|_=>.junk)else .junk) zd ?_;simp[abm];refine Qk gL (fun f m=>∃(i:Nat)(bx:T5),f 13=I i/\i<=L.length/\Zh id (L.drop i)=Zh id L/\m=⟨mb++([I 0,I 0,I 0,I 0,I 0,I 0,.sl .nil []]::bx),ml,ms,mn⟩) (fun f _=>L.length-(numOf (f 13)).toNat) ?_ ?_
 ·exact⟨0,[],zd,zE,rfl,rfl⟩
 rintro f m ⟨i,bx,eU,hi,hf,rfl⟩;rcases zzaa i L.length with ai|bn
 ·obtain⟨x,hx⟩:=aV ai;have hg:=DC hx
  have ah:∀ex,(Qj (mb++ex) k).drop (i*7)=I x.id::I x.it::I x.fr::I x.ea::I x.la::I x.bo::.sl .ro (x.al.map Qe)::(eF (L.drop (i+1))++z):=fun ex=>by
   rw[hR,zzdt (by rw[Jb];omega),hg];rfl
  have aa:(i:Int)<(L.length:Int):=zE
  have hw:=bO i zE;have hd:L.drop i=x::L.drop (i+1):=by rw[zzag ai,(zza.1 hx).2]
  have Cq:=nN x;rw[hd,Zh]at hf;by_cases aL:x.id=id
  ·rw[if_pos aL]at hf;simp[eU,aa,ah,Qd,aL,gL,IM,<- hf,Wz];refine⟨by simpa[Qd,aL]using Cq,nU⟩
  rw[if_neg aL]at hf;simp[eU,aa,ah,aL,gL,hw];refine⟨Cq,aQ,⟨i+1,zd,zE,hf⟩,zE⟩
 rw[zzal bn]at hf;have bQ:¬(i:Int)<(L.length:Int):=zE
 simp[eU,bQ,gL,IM,<- hf,Wz,Zh];exact nU
def amq(Y:YT)(m:AM)(V:AV)(L:List En)(id:Int)(hV:mH m.boxes V L)(hl:L.length<=1000000000)(K:So)(hK:K (Wz (Zh id L)) m):aB Tryz.prog aD Y 62 [V,I id,.fn 63 [] []] m K:=
 aB.mono (Rh Y m V L id hV hl) (by rintro r m' ⟨rfl,rfl⟩;exact hK)
open Go Go.Abs
def nW:∀(l:List En)(z:P2),aY 7 l.length (eF l++z)=l.map Qd
 |[],z=>rfl
 |e::r,z=>by
  have:=nW r z;simp[Qd,this]
def mH.bz{bx:T5}{V:AV}{l:List En}(h:mH bx V l)(ex:T5)(ml:Pa)(ms:Nat->LS)(mn:Nat)(d:Nat):Abs.bz ⟨bx++ex,ml,ms,mn⟩ (d+2) V=.sl .ro (l.map Qd):=by
 obtain⟨rt,rfl,aX⟩|⟨k,z,rfl,hk,hB,hz⟩:=h
 ·exact aX _ _ _
 have bU:Zm (eF l++z)=true:=by have:=Lq l;unfold Zm at this hz |-;rw[zzf,this,hz];rfl
 rw[Wc,Yd,Qn hk,hB,Ve _ _ bU,if_pos (by rw[zzak,Jb];omega),zzdb,nW]
def mH.cell{bx:T5}{V:AV}{l:List En}(h:mH bx V l):Qx V=true:=by
 rcases h with⟨rt,rfl,aX⟩|⟨k,z,rfl,hk,hB,hz⟩<;>rfl
def Ls(Y:YT)(m:AM)(q:Pl)(V:AV)(rt:Rt)(id:Int)(hV:mH m.boxes V q.ens)(hl:q.ens.length<=1000000000)(ha:∀e∈q.ens,e.al.length<=8796093022208):
  aB Tryz.prog aD Y 29 [.agg (Jf q V (.sl rt (q.cls.map Qg))),I id] m (fun r m'=>m'=m/\r=Wz (Zh id q.ens)):=by
 obtain⟨mb,ml,ms,mn⟩:=m;have hc:=hV.cell;have kf:=fun ex K hK=>amq Y ⟨mb++ex,ml,ms,mn⟩ V q.ens id (hV.ext ex) hl K hK;refine aB.read (Xn SJ (fun _ f l=>if f=62 then .gd false .junk else l.headD .junk) zd ?_);simp[abb,abc,Jf,hc];refine kf _ _ ?_;cases hf:Zh id q.ens with
 |none=>
  simp[Wz];exact⟨jK,nU⟩
 |some x=>
  have hx:x∈q.ens:=by
   have:∀l:List En,Zh id l=some x->x∈l:=by
    intro l;induction l with
    |nil=>intro h;cases h
    |cons y r ih=>
     intro h;simp only[Zh]at h;split at h
     ·cases h;simp
     simp[ih h]
   exact this _ hf
  have qu:=Qcl x.al (ha x hx);simp[Wz,Qd];exact⟨qu,nU⟩
def Oi(Y:YT)(m:AM)(q:Pl)(V:AV)(rt:Rt)(id:Int)(hV:mH m.boxes V q.ens)(hl:q.ens.length<=1000000000)(ha:∀e∈q.ens,e.al.length<=8796093022208)(K:So)(hK:K (Wz (Zh id q.ens)) m):
  aB Tryz.prog aD Y 29 [.agg (Jf q V (.sl rt (q.cls.map Qg))),I id] m K:=
 aB.mono (Ls Y m q V rt id hV hl ha) (by rintro r m' ⟨rfl,rfl⟩;exact hK)
def Lt(Y:YT)(m:AM)(g:Pg)(f:Int)(mid:Nat)(o:Od)(q:Pl)(V:AV)(rt:Rt)(d:Int)(hV:mH m.boxes V q.ens):
  aB Tryz.prog aD Y 88 [.agg (Qr g f mid),.agg (Qq o),.agg (Xt q V (.sl rt (q.cls.map Qg)) d)] m (fun r m'=>m'=m/\r=.bool true):=by
 obtain⟨mb,ml,ms,mn⟩:=m;have hc:=hV.cell;refine aB.read (Xn akq (fun _ _ _=>.junk) zd ?_);simp[ao2,ao3,Qr,Qh,Qa,Qq,Qd,Qg,Qi,Xt,hc];exact nU
def G2(Y:YT)(m:AM)(g:Pg)(f:Int)(mid:Nat)(b:QR)(o:Od)(q:Pl)(V:AV)(rt:Rt)(d:Int)(hV:mH m.boxes V q.ens)(h:lQ g f)(hb:fS m.boxes mid b):
  aB Tryz.prog aD Y 92 [.agg (Qr g f mid),.agg (Qq o),.agg (Xt q V (.sl rt (q.cls.map Qg)) d)] m (fun r m'=>m'=m/\r=.bool !(DA g f b o.en)):=by
 obtain⟨mb,ml,ms,mn⟩:=m;have hc:=hV.cell;have hB:∀ex,fS (mb++ex) mid b:=fun ex=>⟨by have:=hb.1;simp at this |-;omega,hb.ext ex⟩;have k:=fun ex K hK=>asY Y ⟨mb++ex,ml,ms,mn⟩ g f mid b o.en h (hB ex) K hK;simp only[Qr,Qh,Qa,zzad,zzai]at k;refine aB.read (Xn akw (fun _ _ _=>.gd false .junk) zd ?_);simp[ao4,ao5,Qr,Qh,Qa,Qq,Qd,Qg,Qi,Xt,hc];refine k _ _ ?_;simp;exact nU
