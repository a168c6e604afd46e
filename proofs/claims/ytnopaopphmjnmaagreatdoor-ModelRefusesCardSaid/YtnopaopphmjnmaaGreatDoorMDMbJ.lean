import Derived.Test.YtnopaopphmjnmaaGreatDoorMDMbF
set_option linter.all false
set_option maxRecDepth 100000
set_option maxHeartbeats 64000000
namespace Go.Proofs.YtnopaopphmjnmaaGreatDoor
open Go Go.Abs
def Ul(p:Pl)(V:AV):List AV:=[I p.ch,I p.nu,I p.de,I p.of,.sl .ro (p.sh.map Qe),I p.ep,I p.rg,I p.ln,I p.fi,.sl .ro (p.aL.map Qm),V,.sl .ro (p.bks.map Xa),.sl .ro (p.cls.map Qg)]
def akG(p:Pl)(mb:List (List AV))(ml:List Nat)(ms:Nat->LS)(mn:Nat)(m0:List AV)(f:Nat->AV)(m:AM):Prop:=∃(i:Nat)(bx:List (List AV)),f 22=I i/\i<=p.ens.length/\m=⟨mb++(Ul p (.bs (mb.length+2) 0 p.ens.length 7)::m0::(p.ens.map Qd).flatten::bx),ml,ms,mn⟩
def xU(Y:YT)(m:AM)(p:Pl)(h:Bh p)(hn:p.ens≠[])(K:AV->AM->Prop)
  (hK:∀c0 c1 bx,K (.agg (Ul p (.bs (m.boxes.length+2) 0 p.ens.length 7))) {m with boxes:=m.boxes++(c0::c1::(p.ens.map Qd).flatten::bx)}):an Tryz.prog aq Y 61 [.agg (Qc p)] m K:=by
 obtain⟨mb,ml,ms,mn⟩:=m;obtain⟨h1,h2,h3,h4,h5,h6⟩:=h;have k1:=pN p.sh (by omega);have k2:=pO p.aL (by omega);have k4:=pP p.bks (by omega);have k5:=Di p.cls (by omega);have hsz:=Qar (f:=Qd) (sz:=7) (fun _=>rfl) p.ens;refine Xe uQ (Kc p) (by simp) ?_;have aJ:p.ens.map Qd≠[]:=by simpa using hn
 simp[IQ,Qc,Kc,hn];refine⟨k1,k2,xM _ _ hsz (by simpa using by omega) aJ _ _ ?_⟩;simp;obtain⟨F,hF⟩:∃F,(p.ens.map Qd).flatten=F:=⟨_,rfl⟩;have IJ:F.length=p.ens.length*7:=by rw[<- hF,Ww hsz];simp
 have bT:Zg F=true:=by rw[<- hF];exact fh (fun _=>rfl) _
 have zK:∀m,F.map (bF m 4)=F:=fun m=>Zk m 3 bT;rw[hF]at hK |-
 refine Qi eE (akG p mb ml ms mn [I 0,I 0,I 0,I 0,.sl .nil [],I 0,I 0,I 0,I 0,.sl .nil [],.sl .nil [],.sl .nil [],.sl .nil []]) (fun f _=>p.ens.length-(numOf (f 22)).toNat) ?_ ?_
 ·exact⟨0,[],by simp,by omega,by rw[hF];simp[Ul]⟩
 rintro f m ⟨i,bx,f22,hi,rfl⟩;rw[hF];rcases zzaa i p.ens.length with ai|bw
 ·obtain⟨e,he⟩:=aP ai;have ah:(i:Int)<(p.ens.length:Int):=by omega
  have hw:=bH i (by omega);obtain⟨⟨r,hd⟩,cc⟩:=kZ hsz (i:=i) (row:=Qd e) (by simp[he]);rw[hF]at hd cc;simp only[Qd,zzae,zzah]at hd cc;have GH:=Wj e (h6 e (zzac he));simp only[Qd]at GH;simp[-setA,jN,jO,f22,eE,ah,hd,cc,IJ,hw,Kc,Ul];refine⟨GH,by omega,aN,⟨i+1,bx++[[I e.id,I e.it,I e.fr,I e.ea,I e.la,I e.bo,.sl .ro (e.al.map Qe)]],by simp,by omega,by rw[hF];simp[Ul]⟩,by omega⟩
 obtain rfl:i=p.ens.length:=by omega
 simp[f22,eE,IS,Kc,Ul];simp[Ul]at hK;exact⟨k4,k5,hK _ _ _⟩
open Go Go.Abs
def lS(g:Pg)(f:Int):Prop:=g.ev.length<=1000000000/\(∀e∈g.ev,Uf e)/\nR f/\g.p.ens.length<=1000000000
def LM(Y:YT)(m:AM)(g:Pg)(f:Int)(mid:Nat)(id:Int)(h:lS g f)(K:AV->AM->Prop)(hK:K (I (Jb g id)) m):an Tryz.prog aq Y 211 [.agg (Qu g f mid),I id] m K:=
 an.mono (RP Y m g f mid id h.2.2.2) (by rintro r m' ⟨rfl,rfl⟩;exact hK)
def akH(Y:YT)(m:AM)(g:Pg)(f:Int)(mid:Nat)(b:List (Int×Bool))(h:lS g f)(hb:fW m.boxes mid b)(K:AV->AM->Prop)(hK:K (Uk g f b) m):an Tryz.prog aq Y 224 [.agg (Qu g f mid)] m K:=
 an.mono (aag Y m g f mid b h.1 h.2.1 h.2.2.1 hb) (by rintro r m' ⟨rfl,rfl⟩;exact hK)
def Bl(g:Pg)(f:Int)(b:List (Int×Bool))(id:Int):Option Int:=match Jh g f b with
 |none=>none
 |some e=>if e.id=id then some (rE g e.id)else none
def RQ(o:Option Int):AV:=.aU [I (o.getD 0),.bool o.isSome]
def agb(Y:YT)(m:AM)(g:Pg)(f:Int)(mid:Nat)(b:List (Int×Bool))(id:Int)(h:lS g f)(hb:fW m.boxes mid b):
  an Tryz.prog aq Y 213 [.agg (Qu g f mid),I id] m (fun r m'=>m'=m/\r=RQ (Bl g f b id)):=by
 obtain⟨mb,ml,ms,mn⟩:=m;have hB:∀ex,fW (mb++ex) mid b:=fun ex=>⟨by have:=hb.1;simp at this |-;omega,hb.ext ex⟩;have k:=fun ex K hK=>akH Y ⟨mb++ex,ml,ms,mn⟩ g f mid b h (hB ex) K hK;simp only[Qu,Qo,Qc,zzae,zzah]at k;refine an.read (Xe adO (fun _ _ _=>.gd false .junk) (by simp) ?_);simp[aiL,aiM,Qu,Qo,Qc];refine k _ _ ?_;cases hp:Jh g f b with
 |none=>
  simp[Uk,hp,Bl,RQ];exact lq
 |some e=>
  by_cases hi:e.id=id
  ·simp[Uk,hp,Bl,RQ,Qf,uE,hi];exact lq
  simp[Uk,hp,Bl,RQ,Qf,uE,hi];exact lq
def anX(Y:YT)(m:AM)(g:Pg)(f:Int)(mid:Nat)(b:List (Int×Bool))(id:Int)(h:lS g f)(hb:fW m.boxes mid b)(K:AV->AM->Prop)(hK:K (RQ (Bl g f b id)) m):an Tryz.prog aq Y 213 [.agg (Qu g f mid),I id] m K:=
 an.mono (agb Y m g f mid b id h hb) (by rintro r m' ⟨rfl,rfl⟩;exact hK)
def Dm(g:Pg)(f:Int)(b:List (Int×Bool))(id:Int):Bool:=yZ b id&&!(Bl g f b id).isSome
def agc(Y:YT)(m:AM)(g:Pg)(f:Int)(mid:Nat)(b:List (Int×Bool))(id:Int)(h:lS g f)(hb:fW m.boxes mid b):
  an Tryz.prog aq Y 215 [.agg (Qu g f mid),I id] m (fun r m'=>m'=m/\r=.bool (Dm g f b id)):=by
 obtain⟨mb,ml,ms,mn⟩:=m;have hB:∀ex,fW (mb++ex) mid b:=fun ex=>⟨by have:=hb.1;simp at this |-;omega,hb.ext ex⟩;have hR:∀ex,Qh (mb++ex) mid=[.aK 0 (bI .bool b)]:=hb.ext;have k:=fun ex K hK=>anX Y ⟨mb++ex,ml,ms,mn⟩ g f mid b id h (hB ex) K hK;simp only[Qu,Qo,Qc,zzae,zzah]at k;refine an.read (Xe adQ (fun _ _ _=>.gd false .junk) (by simp) ?_);simp[aiN,aiO,Qu,Qo,Qc];refine k _ _ ?_;rcases Xp AV.bool id b 0 with⟨b1,b2,_⟩|⟨u,u',b1,b2,_⟩
 ·simp[RQ,Dm,yZ,b1,b2,hR];exact lq
 cases u<;>simp[RQ,Dm,yZ,b1,b2,hR]<;>exact lq
def atK(Y:YT)(m:AM)(g:Pg)(f:Int)(mid:Nat)(b:List (Int×Bool))(id:Int)(h:lS g f)(hb:fW m.boxes mid b)(K:AV->AM->Prop)(hK:K (.bool (Dm g f b id)) m):an Tryz.prog aq Y 215 [.agg (Qu g f mid),I id] m K:=
 an.mono (agc Y m g f mid b id h hb) (by rintro r m' ⟨rfl,rfl⟩;exact hK)
open Go Go.Abs
def Vt(n:Int):Int:=max (-9223372036854775808) (min 9223372036854775807 n)
def RR(a b:Int)(ha:sR a)(hb:sR b):Pure Tryz.prog aq 212 [I a,I b] (I (Vt (a+b))):=by
 refine Qn adN (fun _ _ _=>.junk) (by simp) ?_;unfold sR at ha hb;by_cases c1:0<b
 ·have w1:IntKind.i64.wrap (9223372036854775807-b)=9223372036854775807-b:=by rw[Qk]<;>omega
  have c2:¬b<0:=by omega
  by_cases d1:9223372036854775807-b<a
  ·have:Vt (a+b)=9223372036854775807:=by unfold Vt;omega
   simp[z8,Aa,c1,d1,w1,this]
  have w:IntKind.i64.wrap (a+b)=a+b:=by rw[Qk]<;>omega
  have:Vt (a+b)=a+b:=by unfold Vt;omega
  simp[z8,Aa,c1,c2,d1,w,w1,this]
 by_cases c2:b<0
 ·have w2:IntKind.i64.wrap (-9223372036854775808-b)= -9223372036854775808-b:=by rw[Qk]<;>omega
  by_cases d1:a< -9223372036854775808-b
  ·have:Vt (a+b)= -9223372036854775808:=by unfold Vt;omega
   simp[z8,Aa,c1,c2,d1,w2,this]
  have w:IntKind.i64.wrap (a+b)=a+b:=by rw[Qk]<;>omega
  have:Vt (a+b)=a+b:=by unfold Vt;omega
  simp[z8,Aa,c1,c2,d1,w,w2,this]
 have w:IntKind.i64.wrap (a+b)=a+b:=by rw[Qk]<;>omega
 have:Vt (a+b)=a+b:=by unfold Vt;omega
 simp[z8,Aa,c1,c2,w,this]
def Qdv(a b:Int)(ha:sR a)(hb:sR b):Pure Tryz.prog aq 214 [I a,I b] (I (Vt (a-b))):=by
 refine Qn adP (fun _ _ _=>.junk) (by simp) ?_;unfold sR at ha hb;by_cases c1:b<0
 ·have w1:IntKind.i64.wrap (9223372036854775807+b)=9223372036854775807+b:=by rw[Qk]<;>omega
  have c2:¬0<b:=by omega
  by_cases d1:9223372036854775807+b<a
  ·have:Vt (a-b)=9223372036854775807:=by unfold Vt;omega
   simp[Ab,Ac,c1,d1,w1,this]
  have w:IntKind.i64.wrap (a-b)=a-b:=by rw[Qk]<;>omega
  have:Vt (a-b)=a-b:=by unfold Vt;omega
  simp[Ab,Ac,c1,c2,d1,w,w1,this]
 by_cases c2:0<b
 ·have w2:IntKind.i64.wrap (-9223372036854775808+b)= -9223372036854775808+b:=by rw[Qk]<;>omega
  by_cases d1:a< -9223372036854775808+b
  ·have:Vt (a-b)= -9223372036854775808:=by unfold Vt;omega
   simp[Ab,Ac,c1,c2,d1,w2,this]
  have w:IntKind.i64.wrap (a-b)=a-b:=by rw[Qk]<;>omega
  have:Vt (a-b)=a-b:=by unfold Vt;omega
  simp[Ab,Ac,c1,c2,d1,w,w2,this]
 have w:IntKind.i64.wrap (a-b)=a-b:=by rw[Qk]<;>omega
 have:Vt (a-b)=a-b:=by unfold Vt;omega
 simp[Ab,Ac,c1,c2,w,this]
def atM:List AV->AV
 |[.int _ x,.int _ y]=>I (Vt (x-y))
 |_=>.junk
def Qdj(n:Int):sR (Vt n):=by unfold sR Vt;omega
def LN:∀{ens:List En}{i:Nat}{e:En},ens[i]?=some e->∃pre r:List AV,pre.length=i*7/\(ens.map Qd).flatten=pre++(Qd e++r)/\∀e',((ens.set i e').map Qd).flatten=pre++(Qd e'++r)
 |[],i,e,h=>by simp at h
 |a::r,0,e,h=>by
  simp at h;subst h;exact⟨[],(r.map Qd).flatten,rfl,by simp,fun e'=>by simp⟩
 |a::r,i+1,e,h=>by
  obtain⟨pre,s,h1,h2,h3⟩:=LN (ens:=r) (i:=i) (e:=e) (by simpa using h);exact⟨Qd a++pre,s,by simp[Qd,h1];omega,by simp[h2],fun e'=>by have:=h3 e';simp only[zzdu,zzay,zzci,this,zzba]⟩
def Bm(pre X Y:List AV)(n:Nat)(k:Nat)(h:pre.length=n):setA (pre++X) (n+k) Y=pre++setA X k Y:=by
 subst h;induction pre with
 |nil=>simp
 |cons a r ih=>rw[zzae,zzbd,show r.length+1+k=r.length+k+1 by omega,xL,ih];rfl
def Bn(pre X:List AV)(n:Nat)(k:Nat)(h:pre.length=n):(pre++X).drop (n+k)=X.drop k:=by
 subst h;simp[List.drop_append]
def Xo(p:Pl)(V W:AV)(d:Int):List AV:=[I p.ch,I p.nu,I p.de,I p.of,.sl .ro (p.sh.map Qe),I p.ep,I p.rg,I p.ln,I p.fi,.sl .ro (p.aL.map Qm),V,.sl .ro (p.bks.map Xa),W,I d]
def uF:List AV:=[I 0,I 0,I 0,I 0,.sl .nil [],I 0,I 0,I 0,I 0,.sl .nil [],.sl .nil [],.sl .nil [],.sl .nil [],I 0]
def tX(g:Pg)(f:Int)(b:List (Int×Bool))(o:Od)(e:En):Int:=match Bl g f b o.en with
 |none=>Vt (e.fr+o.n)
 |some st=>if Vt (e.fr+o.n)<Vt (f-st)then Vt (f-st)else Vt (e.fr+o.n)
def RS(g:Pg)(f:Int)(b:List (Int×Bool))(o:Od)(e:En):En:={e with fr:=tX g f b o e,la:=if Vt (g.p.ln-tX g f b o e)<e.la then Vt (g.p.ln-tX g f b o e)else e.la}
def rF(g:Pg)(f:Int)(b:List (Int×Bool))(o:Od):Option (Pl×Int):=match g.p.ens[(Jb g o.en).toNat]? with
 |none=>none
 |some e=>if Jb g o.en<0 then none else some ({g.p with ens:=g.p.ens.set (Jb g o.en).toNat (RS g f b o e)},tX g f b o e)
def Dn{g:Pg}{f:Int}(h:lS g f)(id:Int):0<=rE g id/\rE g id<=1000000:=by
 unfold rE;cases hf:g.ev.find? (fun e=>decide (e.id=id))with
 |none=>simp
 |some e=>exact(h.2.1 e (zzea hf)).1
def agd(Y:YT)(m:AM)(g:Pg)(f:Int)(mid:Nat)(b:List (Int×Bool))(o:Od)(h:lS g f)(hp:Bh g.p)(hb:fW m.boxes mid b)(hn:sR o.n)(dx:sR g.p.ln)(hes:∀e∈g.p.ens,sR e.fr)(K:AV->AM->Prop)
  (h0:rF g f b o=none->∀ex,K (.aU [.agg uF,.bool false]) {m with boxes:=m.boxes++ex})
  (h1:∀q d,rF g f b o=some (q,d)->∀ex k,m.boxes.length<=k->k<(m.boxes++ex).length->Qh (m.boxes++ex) k=(q.ens.map Qd).flatten->K (.aU [.agg (Xo q (.bs k 0 q.ens.length 7) (.sl .ro (q.cls.map Qg)) d),.bool true]) {m with boxes:=m.boxes++ex}):
  an Tryz.prog aq Y 137 [.agg (Qu g f mid),.agg (Qp o)] m K:=by
 obtain⟨mb,ml,ms,mn⟩:=m;have hB:∀ex,fW (mb++ex) mid b:=fun ex=>⟨by have:=hb.1;simp at this |-;omega,hb.ext ex⟩;have kp:=fun ex K hK=>LM Y ⟨mb++ex,ml,ms,mn⟩ g f mid o.en h K hK;have ki:=fun ex K hK=>anX Y ⟨mb++ex,ml,ms,mn⟩ g f mid b o.en h (hB ex) K hK;simp only[Qu,Qo,Qc,zzae,zzah]at kp ki;cases hf:g.p.ens.find? (fun e=>decide (e.id=o.en))with
 |none=>
  have gC:Jb g o.en= -1:=Qcu hf
  have hx:rF g f b o=none:=by
   unfold rF;rw[gC];split
   ·rfl
   simp
  refine Xe Nb (fun _ _ _=>.gd false .junk) (by simp) ?_;simp[UB,UC,Qu,Qo,Qc,Qp,Qd,Qg,Qj];refine kp _ _ ?_;simp[gC];have:=h0 hx;simp[uF]at this;exact this _
 |some e=>
  obtain⟨n,g1,g2,g3⟩:=Kw (i:=0) hf;have gC:Jb g o.en=(n:Int):=by unfold Jb;rw[g1];omega
  have ai:n<g.p.ens.length:=(zza.1 g2).1;have aJ:g.p.ens≠[]:=by rintro e0;rw[e0]at ai;simp at ai
  have Ap:¬(n:Int)<0:=by omega
  have cW:(n:Int)<(g.p.ens.length:Int):=by omega
  have hx:rF g f b o=some ({g.p with ens:=g.p.ens.set n (RS g f b o e)},tX g f b o e):=by
   unfold rF;rw[gC];simp[g2,Ap]
  obtain⟨pre,r,q1,q2,q3⟩:=LN g2;have hd:=fun X k=>Bn pre X (n*7) k q1;have cc:=fun X Y k=>Bm pre X Y (n*7) k q1;have h1:=h1 _ _ hx;rw[q3]at h1;have kO:=fun ex K hK=>xU Y ⟨mb++ex,ml,ms,mn⟩ g.p hp aJ K hK;simp only[Qc]at kO;rw[q2]at kO;have ayc:=RR e.fr o.n (hes e (zzac g2)) hn;refine Xe Nb (fun _ f l=>if f=212 then I (Vt (e.fr+o.n))else if f=214 then atM l else .gd false .junk) (by simp) ?_;simp[UB,UC,Qu,Qo,Qc,Qp,Qd,Qg,Qj];refine kp _ _ ?_;simp[gC,Ap];refine kO _ _ fun c0 c1 bx=>?_;have AA:min 1 (pre.length+(r.length+7)-(n*7+2))=1:=by omega
  have hm4:min 1 (pre.length+(r.length+7)-(n*7+4))=1:=by omega
  simp[-setA,jN,jO,Ul,cW,Qd,zzao,hd,AA,atM];refine⟨ayc,ki _ _ ?_⟩;have hL:=fun V=>Qdv g.p.ln (Vt V) dx (Qdj V);cases hi:Bl g f b o.en with
  |none=>
   simp[-setA,jN,xL,jO,RQ,zzao,hd,cc,hm4];have hx2:tX g f b o e=Vt (e.fr+o.n):=by simp only[tX,hi]
   simp only[hx2,RS,zzcg,Qd,zzae,zzah]at h1;refine⟨by omega,hL _,by omega,?_⟩;exact h1 _ (mb.length+5) (by simp) (by simp) (by simp)
  |some st=>
   have atN:Bl g f b o.en=some st->0<=st/\st<=1000000:=fun hh=>by
    unfold Bl at hh;split at hh
    ·cases hh
    split at hh
    ·cases hh;exact Dn h _
    cases hh
   have Th:=atN hi;have hfs:=h.2.2.1;have kd:=Qdv f st (by unfold nR at hfs;unfold sR;omega) (by unfold sR;omega);simp[-setA,jN,xL,jO,RQ,zzao,hd,cc,hm4];have hx2:tX g f b o e=if Vt (e.fr+o.n)<Vt (f-st)then Vt (f-st)else Vt (e.fr+o.n):=by simp only[tX,hi]
   simp only[hx2,RS,zzcg,Qd,zzae,zzah]at h1;refine⟨kd,by omega,?_,by omega,?_⟩
   ·have:=hL (max (Vt (e.fr+o.n)) (Vt (f-st)));split
    ·exact Qdv _ _ dx (Qdj _)
    exact Qdv _ _ dx (Qdj _)
   exact h1 _ (mb.length+5) (by simp) (by simp) (by simp)
open Go Go.Abs
def eM(l:List En):List AV:=(l.map Qd).flatten
@[simp] theorem awO:eM []=[]:=rfl
@[simp] theorem atO(e:En)(l:List En):eM (e::l)=I e.id::I e.it::I e.fr::I e.ea::I e.la::I e.bo::.sl .ro (e.al.map Qe)::eM l:=rfl
def Ux:∀l,(eM l).length=l.length*7
 |[]=>rfl
 |s::r=>by simp[Ux r];omega
def pU:∀a b,eM (a++b)=eM a++eM b
 |[],_=>rfl
 |s::r,b=>by simp[pU r b]
def GW:∀(l:List En)(i:Nat),(eM l).drop (i*7)=eM (l.drop i)
 |[],i=>by simp
 |s::r,0=>by simp
 |s::r,i+1=>by rw[show(i+1)*7=i*7+1+1+1+1+1+1+1 by omega];simp[GW r i]
def Dp{l:List En}{i:Nat}{s:En}(h:l[i]?=some s):(eM l).drop (i*7)=I s.id::I s.it::I s.fr::I s.ea::I s.la::I s.bo::.sl .ro (s.al.map Qe)::eM (l.drop (i+1)):=by
 rw[GW];have ai:=(zza.1 h).1;rw[zzaf ai,(zza.1 h).2];rfl
def age(l:List En)(i:Nat)(s:En)(h:i<l.length):setA (eM l) (i*7) [I s.id,I s.it,I s.fr,I s.ea,I s.la,I s.bo,.sl .ro (s.al.map Qe)]=eM (l.set i s):=by
 obtain⟨pre,r,h1,h2,h3⟩:=LN (ens:=l) (i:=i) (zzad h);unfold eM;rw[h2,h3,<- h1];exact GF pre _ r _ rfl
def LO(l:List En):Zg (eM l)=true:=fh (fun _=>rfl) l
def RT(l:List En):aV 7 l.length (eM l)=l.map Qd:=by
 have:=Jk (Qar (f:=Qd) (sz:=7) (fun _=>rfl) l);simpa[eM]using this
def rG(row:List AV):∀n,(bG n row).length=n*row.length
 |0=>by simp[bG]
 |n+1=>by simp[bG,rG row n,zzbp];omega
def nS:List AV:=[I 0,I 0,I 0,I 0,I 0,I 0,.sl .nil []]
def GX:∀n,Zg (bG n nS)=true
 |0=>rfl
 |n+1=>by have:=GX n;unfold Zg at this |-;rw[bG,zzdy,this];rfl
def mJ(x:Int)(e:En):Bool:=decide (e.id=x)
def xV(e:En)(a0 a1 a2 a3:AV)(x:Int)(r:List AV):Pure Tryz.prog aq 217 [.agg (Qd e),.ep (a0::a1::a2::a3::I x::r) 0] (.bool (mJ x e)):=by
 refine Qn adS (fun _ _ _=>.junk) (by simp) ?_;simp[aiP,aiQ,Qd,mJ];rw[zzbh];simp
def agf{x:Int}{l:List En}(h:Uo (mJ x) l 0= -1):l.filter (fun e=>!mJ x e)=l:=by
 cases hf:l.find? (mJ x)with
 |some a=>obtain⟨k,h1,_⟩:=Kw (i:=0) hf;rw[h1]at h;omega
 |none=>
  rw[List.find?_eq_none]at hf;rw[zzfw];intro a ha;simpa using hf a ha
def OO{x:Int}:∀{l:List En}{i:Nat},Uo (mJ x) l i≠ -1->∃k:Nat,Uo (mJ x) l i=((i+k:Nat):Int)/\k<l.length/\(l.take (k+1)).filter (fun e=>!mJ x e)=l.take k
 |[],_,h=>absurd rfl h
 |s::r,i,h=>by
  simp only[Uo]at h |-
  split
  ·rename_i hs;exact⟨0,rfl,by simp,by simp[hs]⟩
  rename_i hs;rw[if_neg hs]at h;obtain⟨k,h1,h2,h3⟩:=OO h;exact⟨k+1,by rw[h1];congr 1;omega,by simpa using h2,by simp only[zzeh,zzgo];simp[hs,h3]⟩
def xW(k:Int)(x:Int):Nat->FuncId->List AV->AV:=fun _ f l=>if f=218 then I k else match l with
 |.agg (.int _ n::_)::_=>.bool (decide (n=x))
 |_=>.junk
def aah(Y:YT)(l:List En)(hl:l.length<=1000000000)(B:List (List AV))(L:List Nat)(st:Nat->LS)(n id:Nat)(aO:id<B.length)(aJ:l≠[])(hB:Qh B id=eM l)
  (kk:Nat)(a0 a1 a2 a3:AV)(x:Int)(r:List AV)(hkk:kk<B.length)(eT:kk≠id)(hk:Qh B kk=a0::a1::a2::a3::I x::r)(bT:Zg (a0::a1::a2::a3::I x::r)=true)(K:AV->AM->Prop)
  (hK:∀(B':List (List AV))(z:List AV),aZ (·=id) B B'->Qh B' id=eM (l.filter fun e=>!mJ x e)++z->(l.filter fun e=>!mJ x e).length*7+z.length=l.length*7->Zg z=true->K (.bs id 0 (l.filter fun e=>!mJ x e).length 7) ⟨B',L,st,n⟩):
  an Tryz.prog aq Y 216 [.bs id 0 l.length 7,.fn 217 [] [.ptr kk 0]] ⟨B,L,st,n⟩ K:=by
 have LP:=GU l (mJ x) 217 [] [.ep (a0::a1::a2::a3::I x::r) 0] hl (fun _=>rfl) (fun _=>by simp) (fun e _=>xV e a0 a1 a2 a3 x r) (xW 0 x) (fun _ e _=>by simp[xW,Qd,mJ]);have fG:=Zk ⟨B,L,st,n⟩ 4 (LO l);have jg:=RT l;have aI:=Ux l
 have hkc:∀B' d,Qh B' kk=Qh B kk->bF ⟨B',L,st,n⟩ (d+2) (.ptr kk 0)=.ep (a0::a1::a2::a3::I x::r) 0:=fun B' d h=>by
  rw[oP,Vl,h,hk,Zk _ _ bT]
 refine Xe adR (xW (Uo (mJ x) l 0) x) (by simp) ?_;by_cases cZ:Uo (mJ x) l 0= -1
 ·have hf:=agf cZ;rw[cZ]at LP;have:=hK B [] (aZ.refl _ _) (by rw[hf];simpa using hB) (by rw[hf];simp) rfl;rw[hf]at this;have hc:=fun d=>hkc B d rfl;simp[-oP,Nx,U5,xW,cZ,hB,fG,jg,aI,hc];exact⟨LP,this⟩
 obtain⟨k,X4,dw,A4⟩:=OO cZ;rw[zzbt]at X4;have D3:¬(k:Int)= -1:=by omega
 have Oe:=bH k (by omega);rw[X4]at LP;have hc:=fun d=>hkc B d rfl;simp[-oP,Nx,U5,xW,X4,D3,hB,fG,jg,aI,Oe,hc];refine⟨LP,?_⟩
 refine Qi B7 (fun f m=>∃(i j:Nat)(B':List (List AV))(L':List En),f 5=I i/\f 6=I j/\i<j/\j<=l.length/\m=⟨B',L,st,n⟩/\aZ (·=id) B B'/\Qh B' id=eM L'/\L'.length=l.length/\L'.take i=(l.take j).filter (fun e=>!mJ x e)/\L'.drop j=l.drop j)
  (fun f m=>l.length-(numOf (f 6)).toNat) ?_ ?_
 ·exact⟨k,k+1,B,l,by simp,by simp,by omega,by omega,rfl,aZ.refl _ _,hB,rfl,A4.symm,rfl⟩
 rintro f m ⟨i,j,B',L',h5,h6,fc,hj,rfl,eU,tI,tK,ht,hd⟩;have cE:id<B'.length:=zzbb aO eU.1;have ayd:kk<B'.length:=zzbb hkk eU.1;have jq:=Ux L';have hkB:Qh B' kk=Qh B kk:=eU.2 kk hkk eT;have fE:∀ex d,bF ⟨B'++ex,L,st,n⟩ (d+2) (.ptr kk 0)=.ep (a0::a1::a2::a3::I x::r) 0:=fun ex d=>hkc _ d (by rw[Ql ayd,hkB]);rcases zzaa j l.length with ai|bw
 ·obtain⟨s,hs⟩:=aP ai
  have iG:L'[j]?=some s:=by
   have:=congrArg (fun x=>x[0]?) hd;simpa[hs]using this
  have hg:=Dp iG;have nL:(j:Int)<(l.length:Int):=by omega
  have ah:(i:Int)<(l.length:Int):=by omega
  have FF:i<l.length:=by omega
  have w9:=bH j (by omega);have On:=bH i (by omega);have hp:=xV s a0 a1 a2 a3 x r;simp only[Qd]at hp;have bW:=age L' i s (by omega);have lI:∀x,Qh (B'++x) id=eM L':=fun x=>by rw[Ql cE,tI]
  have qn:∀x v,(B'++x).set id v=B'.set id v++x:=fun x v=>Yf v cE
  have bA:(l.take (j+1)).filter (fun e=>!mJ x e)=(l.take j).filter (fun e=>!mJ x e)++[s].filter (fun e=>!mJ x e):=by
   rw[zzar,hs,zzcr];rfl
  have hdj:L'.drop (j+1)=l.drop (j+1):=by
   have:=congrArg (List.drop 1) hd;simpa[zzdp,zzfa]using this
  by_cases he:s.id=x
  ·have GY:mJ x s=true:=by simp[mJ,he]
   rw[GY]at hp;simp[-setA,jN,jO,-oP,fE,h5,h6,nL,tI,lI,hg,B7,xW,he,w9];rw[he]at hp;refine⟨hp,aN,⟨i,rfl,j+1,by simp,by omega,by omega,eU.app _,?_⟩,by omega⟩
   ·refine⟨L',rfl,tK,?_,hdj⟩;rw[bA,ht];simp[GY]
  have GY:mJ x s=false:=by simp[mJ,he]
  rw[GY]at hp;simp[-setA,jN,jO,-oP,fE,h5,h6,nL,ah,tI,lI,qn,hg,B7,xW,he,w9,On,bW,jq,tK];refine⟨hp,⟨by omega,by omega⟩,aN,⟨i+1,by simp,j+1,by simp,by omega,by omega,(eU.set (.inl rfl) _).app _,?_⟩,by omega⟩
  ·refine⟨L'.set i s,by rw[Ql (by simpa using cE),Vn _ cE],by simpa using tK,?_,?_⟩
   ·rw[bA,<- ht,zzar,zzaz (by omega),zzfu (by omega)];simp[GY]
   rw[zzfv (by omega)];exact hdj
 obtain rfl:j=l.length:=by omega
 rw[zzbn]at ht;have gr:(l.filter (fun e=>!mJ x e)).length=i:=by rw[<- ht,zzaq];omega
 have hjn:¬((l.length:Nat):Int)<(l.length:Int):=by omega
 have bJ:(i:Int)<=(l.length:Int):=by omega
 have ah:(i:Int)<(l.length:Int):=by omega
 have FF:i<l.length:=fc
 have eu:eM L'≠[]:=by
  intro h;have:=congrArg List.length h;rw[jq,tK]at this;simp at this;omega
 have qj:setA (eM L') (i*7) (bG (l.length-i) [I 0,I 0,I 0,I 0,I 0,I 0,.sl .nil []])=eM (l.filter (fun e=>!mJ x e))++bG (l.length-i) nS:=by
  have e1:L'=L'.take i++L'.drop i:=by simp
  conv=>lhs;rw[e1]
  rw[pU,<- ht];have e2:(eM (L'.take i)).length=i*7:=by rw[Ux,zzaq];congr 1;omega
  rw[<- e2];exact oR _ _ _ (by rw[rG,Ux];simp;omega)
 simp[-setA,h5,h6,hjn,tI,ah,bJ,B7,cE,eu,jq,tK,qj];refine⟨by omega,?_⟩;have:=hK (B'.set id (eM (l.filter (fun e=>!mJ x e))++bG (l.length-i) nS)) (bG (l.length-i) nS) (eU.set (.inl rfl) _) (Vn _ cE) (by rw[rG,gr];simp[nS];omega) (GX _);rw[gr]at this;exact this
end Go.Proofs.YtnopaopphmjnmaaGreatDoor
