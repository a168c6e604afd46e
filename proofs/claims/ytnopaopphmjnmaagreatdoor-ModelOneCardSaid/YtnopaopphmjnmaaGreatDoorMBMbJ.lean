import Derived.Test.YtnopaopphmjnmaaGreatDoorMBMbF
set_option linter.all false
set_option maxRecDepth 100000
set_option maxHeartbeats 64000000
namespace Go.Proofs.YtnopaopphmjnmaaGreatDoor
open Go Go.Abs
def Um(p:Pl)(V:AV):List AV:=[I p.ch,I p.nu,I p.de,I p.of,.sl .ro (p.sh.map Qe),I p.ep,I p.rg,I p.ln,I p.fi,.sl .ro (p.aM.map Qm),V,.sl .ro (p.bks.map Xf),.sl .ro (p.cls.map Qg)]
def ajC(p:Pl)(mb:List (List AV))(ml:List Nat)(ms:Nat->LS)(mn:Nat)(m0:List AV)(f:Nat->AV)(m:AM):Prop:=∃(i:Nat)(bx:List (List AV)),f 22=I i/\i<=p.ens.length/\m=⟨mb++(Um p (.bs (mb.length+2) 0 p.ens.length 7)::m0::(p.ens.map Qd).flatten::bx),ml,ms,mn⟩
def xH(Y:YT)(m:AM)(p:Pl)(h:A3 p)(hn:p.ens≠[])(K:AV->AM->Prop)
  (hK:∀c0 c1 bx,K (.agg (Um p (.bs (m.boxes.length+2) 0 p.ens.length 7))) {m with boxes:=m.boxes++(c0::c1::(p.ens.map Qd).flatten::bx)}):an Tryz.prog az Y 61 [.agg (Qc p)] m K:=by
 obtain⟨mb,ml,ms,mn⟩:=m;obtain⟨h1,h2,h3,h4,h5,h6⟩:=h;have k1:=pE p.sh (by omega);have k2:=pF p.aM (by omega);have k4:=pG p.bks (by omega);have k5:=C1 p.cls (by omega);have hsz:=Qap (f:=Qd) (sz:=7) (fun _=>rfl) p.ens;refine Xd uC (Kc p) (by simp) ?_;have aJ:p.ens.map Qd≠[]:=by simpa using hn
 simp[IF,Qc,Kc,hn];refine⟨k1,k2,xA _ _ hsz (by simpa using by omega) aJ _ _ ?_⟩;simp;obtain⟨F,hF⟩:∃F,(p.ens.map Qd).flatten=F:=⟨_,rfl⟩;have Iz:F.length=p.ens.length*7:=by rw[<- hF,Wv hsz];simp
 have bT:Zg F=true:=by rw[<- hF];exact eV (fun _=>rfl) _
 have zu:∀m,F.map (bF m 4)=F:=fun m=>Zl m 3 bT;rw[hF]at hK |-
 refine Qj ez (ajC p mb ml ms mn [I 0,I 0,I 0,I 0,.sl .nil [],I 0,I 0,I 0,I 0,.sl .nil [],.sl .nil [],.sl .nil [],.sl .nil []]) (fun f _=>p.ens.length-(numOf (f 22)).toNat) ?_ ?_
 ·exact⟨0,[],by simp,by omega,by rw[hF];simp[Um]⟩
 rintro f m ⟨i,bx,f22,hi,rfl⟩;rw[hF];rcases zzaa i p.ens.length with ai|bB
 ·obtain⟨e,he⟩:=aR ai;have ah:(i:Int)<(p.ens.length:Int):=by omega
  have hw:=bJ i (by omega);obtain⟨⟨r,hd⟩,bU⟩:=kT hsz (i:=i) (row:=Qd e) (by simp[he]);rw[hF]at hd bU;simp only[Qd,zzae,zzai]at hd bU;have Gu:=Wi e (h6 e (zzac he));simp only[Qd]at Gu;simp[-setA,jJ,jK,f22,ez,ah,hd,bU,Iz,hw,Kc,Um];refine⟨Gu,by omega,aN,⟨i+1,bx++[[I e.id,I e.it,I e.fr,I e.ea,I e.la,I e.bo,.sl .ro (e.al.map Qe)]],by simp,by omega,by rw[hF];simp[Um]⟩,by omega⟩
 obtain rfl:i=p.ens.length:=by omega
 simp[f22,ez,IG,Kc,Um];simp[Um]at hK;exact⟨k4,k5,hK _ _ _⟩
open Go Go.Abs
def lP(g:Pg)(f:Int):Prop:=g.ev.length<=1000000000/\(∀e∈g.ev,Ue e)/\nM f/\g.p.ens.length<=1000000000
def Lo(Y:YT)(m:AM)(g:Pg)(f:Int)(mid:Nat)(id:Int)(h:lP g f)(K:AV->AM->Prop)(hK:K (I (Uz g id)) m):an Tryz.prog az Y 211 [.agg (Qu g f mid),I id] m K:=
 an.mono (Rp Y m g f mid id h.2.2.2) (by rintro r m' ⟨rfl,rfl⟩;exact hK)
def ajD(Y:YT)(m:AM)(g:Pg)(f:Int)(mid:Nat)(b:List (Int×Bool))(h:lP g f)(hb:fS m.boxes mid b)(K:AV->AM->Prop)(hK:K (Ul g f b) m):an Tryz.prog az Y 224 [.agg (Qu g f mid)] m K:=
 an.mono (ZF Y m g f mid b h.1 h.2.1 h.2.2.1 hb) (by rintro r m' ⟨rfl,rfl⟩;exact hK)
def A6(g:Pg)(f:Int)(b:List (Int×Bool))(id:Int):Option Int:=match Jg g f b with
 |none=>none
 |some e=>if e.id=id then some (qZ g e.id)else none
def Rq(o:Option Int):AV:=.aV [I (o.getD 0),.bool o.isSome]
def afr(Y:YT)(m:AM)(g:Pg)(f:Int)(mid:Nat)(b:List (Int×Bool))(id:Int)(h:lP g f)(hb:fS m.boxes mid b):
  an Tryz.prog az Y 213 [.agg (Qu g f mid),I id] m (fun r m'=>m'=m/\r=Rq (A6 g f b id)):=by
 obtain⟨mb,ml,ms,mn⟩:=m;have hB:∀ex,fS (mb++ex) mid b:=fun ex=>⟨by have:=hb.1;simp at this |-;omega,hb.ext ex⟩;have k:=fun ex K hK=>ajD Y ⟨mb++ex,ml,ms,mn⟩ g f mid b h (hB ex) K hK;simp only[Qu,Qo,Qc,zzae,zzai]at k;refine an.read (Xd ac4 (fun _ _ _=>.gd false .junk) (by simp) ?_);simp[ahL,ahM,Qu,Qo,Qc];refine k _ _ ?_;cases hp:Jg g f b with
 |none=>
  simp[Ul,hp,A6,Rq];exact kX
 |some e=>
  by_cases hi:e.id=id
  ·simp[Ul,hp,A6,Rq,Qf,uk,hi];exact kX
  simp[Ul,hp,A6,Rq,Qf,uk,hi];exact kX
def amI(Y:YT)(m:AM)(g:Pg)(f:Int)(mid:Nat)(b:List (Int×Bool))(id:Int)(h:lP g f)(hb:fS m.boxes mid b)(K:AV->AM->Prop)(hK:K (Rq (A6 g f b id)) m):an Tryz.prog az Y 213 [.agg (Qu g f mid),I id] m K:=
 an.mono (afr Y m g f mid b id h hb) (by rintro r m' ⟨rfl,rfl⟩;exact hK)
def C5(g:Pg)(f:Int)(b:List (Int×Bool))(id:Int):Bool:=yP b id&&!(A6 g f b id).isSome
def afs(Y:YT)(m:AM)(g:Pg)(f:Int)(mid:Nat)(b:List (Int×Bool))(id:Int)(h:lP g f)(hb:fS m.boxes mid b):
  an Tryz.prog az Y 215 [.agg (Qu g f mid),I id] m (fun r m'=>m'=m/\r=.bool (C5 g f b id)):=by
 obtain⟨mb,ml,ms,mn⟩:=m;have hB:∀ex,fS (mb++ex) mid b:=fun ex=>⟨by have:=hb.1;simp at this |-;omega,hb.ext ex⟩;have hR:∀ex,Qh (mb++ex) mid=[.aK 0 (bH .bool b)]:=hb.ext;have k:=fun ex K hK=>amI Y ⟨mb++ex,ml,ms,mn⟩ g f mid b id h (hB ex) K hK;simp only[Qu,Qo,Qc,zzae,zzai]at k;refine an.read (Xd ac6 (fun _ _ _=>.gd false .junk) (by simp) ?_);simp[ahN,ahO,Qu,Qo,Qc];refine k _ _ ?_;rcases Xq AV.bool id b 0 with⟨b1,b2,_⟩|⟨u,u',b1,b2,_⟩
 ·simp[Rq,C5,yP,b1,b2,hR];exact kX
 cases u<;>simp[Rq,C5,yP,b1,b2,hR]<;>exact kX
def asd(Y:YT)(m:AM)(g:Pg)(f:Int)(mid:Nat)(b:List (Int×Bool))(id:Int)(h:lP g f)(hb:fS m.boxes mid b)(K:AV->AM->Prop)(hK:K (.bool (C5 g f b id)) m):an Tryz.prog az Y 215 [.agg (Qu g f mid),I id] m K:=
 an.mono (afs Y m g f mid b id h hb) (by rintro r m' ⟨rfl,rfl⟩;exact hK)
open Go Go.Abs
def Vt(n:Int):Int:=max (-9223372036854775808) (min 9223372036854775807 n)
def Rr(a b:Int)(ha:sF a)(hb:sF b):Pure Tryz.prog az 212 [I a,I b] (I (Vt (a+b))):=by
 refine Qn ac3 (fun _ _ _=>.junk) (by simp) ?_;unfold sF at ha hb;by_cases c1:0<b
 ·have w1:IntKind.i64.wrap (9223372036854775807-b)=9223372036854775807-b:=by rw[Qi]<;>omega
  have c2:¬b<0:=by omega
  by_cases d1:9223372036854775807-b<a
  ·have:Vt (a+b)=9223372036854775807:=by unfold Vt;omega
   simp[zR,zS,c1,d1,w1,this]
  have w:IntKind.i64.wrap (a+b)=a+b:=by rw[Qi]<;>omega
  have:Vt (a+b)=a+b:=by unfold Vt;omega
  simp[zR,zS,c1,c2,d1,w,w1,this]
 by_cases c2:b<0
 ·have w2:IntKind.i64.wrap (-9223372036854775808-b)= -9223372036854775808-b:=by rw[Qi]<;>omega
  by_cases d1:a< -9223372036854775808-b
  ·have:Vt (a+b)= -9223372036854775808:=by unfold Vt;omega
   simp[zR,zS,c1,c2,d1,w2,this]
  have w:IntKind.i64.wrap (a+b)=a+b:=by rw[Qi]<;>omega
  have:Vt (a+b)=a+b:=by unfold Vt;omega
  simp[zR,zS,c1,c2,d1,w,w2,this]
 have w:IntKind.i64.wrap (a+b)=a+b:=by rw[Qi]<;>omega
 have:Vt (a+b)=a+b:=by unfold Vt;omega
 simp[zR,zS,c1,c2,w,this]
def Qdt(a b:Int)(ha:sF a)(hb:sF b):Pure Tryz.prog az 214 [I a,I b] (I (Vt (a-b))):=by
 refine Qn ac5 (fun _ _ _=>.junk) (by simp) ?_;unfold sF at ha hb;by_cases c1:b<0
 ·have w1:IntKind.i64.wrap (9223372036854775807+b)=9223372036854775807+b:=by rw[Qi]<;>omega
  have c2:¬0<b:=by omega
  by_cases d1:9223372036854775807+b<a
  ·have:Vt (a-b)=9223372036854775807:=by unfold Vt;omega
   simp[zT,zU,c1,d1,w1,this]
  have w:IntKind.i64.wrap (a-b)=a-b:=by rw[Qi]<;>omega
  have:Vt (a-b)=a-b:=by unfold Vt;omega
  simp[zT,zU,c1,c2,d1,w,w1,this]
 by_cases c2:0<b
 ·have w2:IntKind.i64.wrap (-9223372036854775808+b)= -9223372036854775808+b:=by rw[Qi]<;>omega
  by_cases d1:a< -9223372036854775808+b
  ·have:Vt (a-b)= -9223372036854775808:=by unfold Vt;omega
   simp[zT,zU,c1,c2,d1,w2,this]
  have w:IntKind.i64.wrap (a-b)=a-b:=by rw[Qi]<;>omega
  have:Vt (a-b)=a-b:=by unfold Vt;omega
  simp[zT,zU,c1,c2,d1,w,w2,this]
 have w:IntKind.i64.wrap (a-b)=a-b:=by rw[Qi]<;>omega
 have:Vt (a-b)=a-b:=by unfold Vt;omega
 simp[zT,zU,c1,c2,w,this]
def ase:List AV->AV
 |[.int _ x,.int _ y]=>I (Vt (x-y))
 |_=>.junk
def Qdh(n:Int):sF (Vt n):=by unfold sF Vt;omega
def Lp:∀{ens:List En}{i:Nat}{e:En},ens[i]?=some e->∃pre r:List AV,pre.length=i*7/\(ens.map Qd).flatten=pre++(Qd e++r)/\∀e',((ens.set i e').map Qd).flatten=pre++(Qd e'++r)
 |[],i,e,h=>by simp at h
 |a::r,0,e,h=>by
  simp at h;subst h;exact⟨[],(r.map Qd).flatten,rfl,by simp,fun e'=>by simp⟩
 |a::r,i+1,e,h=>by
  obtain⟨pre,s,h1,h2,h3⟩:=Lp (ens:=r) (i:=i) (e:=e) (by simpa using h);exact⟨Qd a++pre,s,by simp[Qd,h1];omega,by simp[h2],fun e'=>by have:=h3 e';simp only[zzdt,zzaw,zzch,this,zzbc]⟩
def A7(pre X Y:List AV)(n:Nat)(k:Nat)(h:pre.length=n):setA (pre++X) (n+k) Y=pre++setA X k Y:=by
 subst h;induction pre with
 |nil=>simp
 |cons a r ih=>rw[zzae,zzba,show r.length+1+k=r.length+k+1 by omega,xz,ih];rfl
def A8(pre X:List AV)(n:Nat)(k:Nat)(h:pre.length=n):(pre++X).drop (n+k)=X.drop k:=by
 subst h;simp[List.drop_append]
def Xp(p:Pl)(V W:AV)(d:Int):List AV:=[I p.ch,I p.nu,I p.de,I p.of,.sl .ro (p.sh.map Qe),I p.ep,I p.rg,I p.ln,I p.fi,.sl .ro (p.aM.map Qm),V,.sl .ro (p.bks.map Xf),W,I d]
def um:List AV:=[I 0,I 0,I 0,I 0,.sl .nil [],I 0,I 0,I 0,I 0,.sl .nil [],.sl .nil [],.sl .nil [],.sl .nil [],I 0]
def tJ(g:Pg)(f:Int)(b:List (Int×Bool))(o:Od)(e:En):Int:=match A6 g f b o.en with
 |none=>Vt (e.fr+o.n)
 |some st=>if Vt (e.fr+o.n)<Vt (f-st)then Vt (f-st)else Vt (e.fr+o.n)
def Ru(g:Pg)(f:Int)(b:List (Int×Bool))(o:Od)(e:En):En:={e with fr:=tJ g f b o e,la:=if Vt (g.p.ln-tJ g f b o e)<e.la then Vt (g.p.ln-tJ g f b o e)else e.la}
def rf(g:Pg)(f:Int)(b:List (Int×Bool))(o:Od):Option (Pl×Int):=match g.p.ens[(Uz g o.en).toNat]? with
 |none=>none
 |some e=>if Uz g o.en<0 then none else some ({g.p with ens:=g.p.ens.set (Uz g o.en).toNat (Ru g f b o e)},tJ g f b o e)
def C6{g:Pg}{f:Int}(h:lP g f)(id:Int):0<=qZ g id/\qZ g id<=1000000:=by
 unfold qZ;cases hf:g.ev.find? (fun e=>decide (e.id=id))with
 |none=>simp
 |some e=>exact(h.2.1 e (zzdy hf)).1
def aft(Y:YT)(m:AM)(g:Pg)(f:Int)(mid:Nat)(b:List (Int×Bool))(o:Od)(h:lP g f)(hp:A3 g.p)(hb:fS m.boxes mid b)(hn:sF o.n)(dm:sF g.p.ln)(hes:∀e∈g.p.ens,sF e.fr)(K:AV->AM->Prop)
  (h0:rf g f b o=none->∀ex,K (.aV [.agg um,.bool false]) {m with boxes:=m.boxes++ex})
  (h1:∀q d,rf g f b o=some (q,d)->∀ex k,m.boxes.length<=k->k<(m.boxes++ex).length->Qh (m.boxes++ex) k=(q.ens.map Qd).flatten->K (.aV [.agg (Xp q (.bs k 0 q.ens.length 7) (.sl .ro (q.cls.map Qg)) d),.bool true]) {m with boxes:=m.boxes++ex}):
  an Tryz.prog az Y 137 [.agg (Qu g f mid),.agg (Qq o)] m K:=by
 obtain⟨mb,ml,ms,mn⟩:=m;have hB:∀ex,fS (mb++ex) mid b:=fun ex=>⟨by have:=hb.1;simp at this |-;omega,hb.ext ex⟩;have kp:=fun ex K hK=>Lo Y ⟨mb++ex,ml,ms,mn⟩ g f mid o.en h K hK;have ki:=fun ex K hK=>amI Y ⟨mb++ex,ml,ms,mn⟩ g f mid b o.en h (hB ex) K hK;simp only[Qu,Qo,Qc,zzae,zzai]at kp ki;cases hf:g.p.ens.find? (fun e=>decide (e.id=o.en))with
 |none=>
  have gq:Uz g o.en= -1:=Qcr hf
  have hx:rf g f b o=none:=by
   unfold rf;rw[gq];split
   ·rfl
   simp
  refine Xd MN (fun _ _ _=>.gd false .junk) (by simp) ?_;simp[TF,TG,Qu,Qo,Qc,Qq,Qd,Qg,Qk];refine kp _ _ ?_;simp[gq];have:=h0 hx;simp[um]at this;exact this _
 |some e=>
  obtain⟨n,g1,g2,g3⟩:=Kv (i:=0) hf;have gq:Uz g o.en=(n:Int):=by unfold Uz;rw[g1];omega
  have ai:n<g.p.ens.length:=(zza.1 g2).1;have aJ:g.p.ens≠[]:=by rintro e0;rw[e0]at ai;simp at ai
  have Ae:¬(n:Int)<0:=by omega
  have cU:(n:Int)<(g.p.ens.length:Int):=by omega
  have hx:rf g f b o=some ({g.p with ens:=g.p.ens.set n (Ru g f b o e)},tJ g f b o e):=by
   unfold rf;rw[gq];simp[g2,Ae]
  obtain⟨pre,r,q1,q2,q3⟩:=Lp g2;have hd:=fun X k=>A8 pre X (n*7) k q1;have bU:=fun X Y k=>A7 pre X Y (n*7) k q1;have h1:=h1 _ _ hx;rw[q3]at h1;have kO:=fun ex K hK=>xH Y ⟨mb++ex,ml,ms,mn⟩ g.p hp aJ K hK;simp only[Qc]at kO;rw[q2]at kO;have awu:=Rr e.fr o.n (hes e (zzac g2)) hn;refine Xd MN (fun _ f l=>if f=212 then I (Vt (e.fr+o.n))else if f=214 then ase l else .gd false .junk) (by simp) ?_;simp[TF,TG,Qu,Qo,Qc,Qq,Qd,Qg,Qk];refine kp _ _ ?_;simp[gq,Ae];refine kO _ _ fun c0 c1 bx=>?_;have Cd:min 1 (pre.length+(r.length+7)-(n*7+2))=1:=by omega
  have hm4:min 1 (pre.length+(r.length+7)-(n*7+4))=1:=by omega
  simp[-setA,jJ,jK,Um,cU,Qd,zzao,hd,Cd,ase];refine⟨awu,ki _ _ ?_⟩;have hL:=fun V=>Qdt g.p.ln (Vt V) dm (Qdh V);cases hi:A6 g f b o.en with
  |none=>
   simp[-setA,jJ,xz,jK,Rq,zzao,hd,bU,hm4];have hx2:tJ g f b o e=Vt (e.fr+o.n):=by simp only[tJ,hi]
   simp only[hx2,Ru,zzcg,Qd,zzae,zzai]at h1;refine⟨by omega,hL _,by omega,?_⟩;exact h1 _ (mb.length+5) (by simp) (by simp) (by simp)
  |some st=>
   have asf:A6 g f b o.en=some st->0<=st/\st<=1000000:=fun hh=>by
    unfold A6 at hh;split at hh
    ·cases hh
    split at hh
    ·cases hh;exact C6 h _
    cases hh
   have SV:=asf hi;have hfs:=h.2.2.1;have kd:=Qdt f st (by unfold nM at hfs;unfold sF;omega) (by unfold sF;omega);simp[-setA,jJ,xz,jK,Rq,zzao,hd,bU,hm4];have hx2:tJ g f b o e=if Vt (e.fr+o.n)<Vt (f-st)then Vt (f-st)else Vt (e.fr+o.n):=by simp only[tJ,hi]
   simp only[hx2,Ru,zzcg,Qd,zzae,zzai]at h1;refine⟨kd,by omega,?_,by omega,?_⟩
   ·have:=hL (max (Vt (e.fr+o.n)) (Vt (f-st)));split
    ·exact Qdt _ _ dm (Qdh _)
    exact Qdt _ _ dm (Qdh _)
   exact h1 _ (mb.length+5) (by simp) (by simp) (by simp)
open Go Go.Abs
def eG(l:List En):List AV:=(l.map Qd).flatten
@[simp] theorem au8:eG []=[]:=rfl
@[simp] theorem ash(e:En)(l:List En):eG (e::l)=I e.id::I e.it::I e.fr::I e.ea::I e.la::I e.bo::.sl .ro (e.al.map Qe)::eG l:=rfl
def Ux:∀l,(eG l).length=l.length*7
 |[]=>rfl
 |s::r=>by simp[Ux r];omega
def pL:∀a b,eG (a++b)=eG a++eG b
 |[],_=>rfl
 |s::r,b=>by simp[pL r b]
def GI:∀(l:List En)(i:Nat),(eG l).drop (i*7)=eG (l.drop i)
 |[],i=>by simp
 |s::r,0=>by simp
 |s::r,i+1=>by rw[show(i+1)*7=i*7+1+1+1+1+1+1+1 by omega];simp[GI r i]
def C7{l:List En}{i:Nat}{s:En}(h:l[i]?=some s):(eG l).drop (i*7)=I s.id::I s.it::I s.fr::I s.ea::I s.la::I s.bo::.sl .ro (s.al.map Qe)::eG (l.drop (i+1)):=by
 rw[GI];have ai:=(zza.1 h).1;rw[zzaf ai,(zza.1 h).2];rfl
def afu(l:List En)(i:Nat)(s:En)(h:i<l.length):setA (eG l) (i*7) [I s.id,I s.it,I s.fr,I s.ea,I s.la,I s.bo,.sl .ro (s.al.map Qe)]=eG (l.set i s):=by
 obtain⟨pre,r,h1,h2,h3⟩:=Lp (ens:=l) (i:=i) (zzad h);unfold eG;rw[h2,h3,<- h1];exact Gs pre _ r _ rfl
def Lq(l:List En):Zg (eG l)=true:=eV (fun _=>rfl) l
def Rv(l:List En):aU 7 l.length (eG l)=l.map Qd:=by
 have:=Jl (Qap (f:=Qd) (sz:=7) (fun _=>rfl) l);simpa[eG]using this
def ri(row:List AV):∀n,(bG n row).length=n*row.length
 |0=>by simp[bG]
 |n+1=>by simp[bG,ri row n,zzbo];omega
def nN:List AV:=[I 0,I 0,I 0,I 0,I 0,I 0,.sl .nil []]
def GJ:∀n,Zg (bG n nN)=true
 |0=>rfl
 |n+1=>by have:=GJ n;unfold Zg at this |-;rw[bG,zzez,this];rfl
def mC(x:Int)(e:En):Bool:=decide (e.id=x)
def xI(e:En)(a0 a1 a2 a3:AV)(x:Int)(r:List AV):Pure Tryz.prog az 217 [.agg (Qd e),.ep (a0::a1::a2::a3::I x::r) 0] (.bool (mC x e)):=by
 refine Qn ac8 (fun _ _ _=>.junk) (by simp) ?_;simp[ahP,ahQ,Qd,mC];rw[zzbl];simp
def afv{x:Int}{l:List En}(h:Uq (mC x) l 0= -1):l.filter (fun e=>!mC x e)=l:=by
 cases hf:l.find? (mC x)with
 |some a=>obtain⟨k,h1,_⟩:=Kv (i:=0) hf;rw[h1]at h;omega
 |none=>
  rw[List.find?_eq_none]at hf;rw[zzfy];intro a ha;simpa using hf a ha
def On{x:Int}:∀{l:List En}{i:Nat},Uq (mC x) l i≠ -1->∃k:Nat,Uq (mC x) l i=((i+k:Nat):Int)/\k<l.length/\(l.take (k+1)).filter (fun e=>!mC x e)=l.take k
 |[],_,h=>absurd rfl h
 |s::r,i,h=>by
  simp only[Uq]at h |-
  split
  ·rename_i hs;exact⟨0,rfl,by simp,by simp[hs]⟩
  rename_i hs;rw[if_neg hs]at h;obtain⟨k,h1,h2,h3⟩:=On h;exact⟨k+1,by rw[h1];congr 1;omega,by simpa using h2,by simp only[zzee,zzer];simp[hs,h3]⟩
def xJ(k:Int)(x:Int):Nat->FuncId->List AV->AV:=fun _ f l=>if f=218 then I k else match l with
 |.agg (.int _ n::_)::_=>.bool (decide (n=x))
 |_=>.junk
def ZG(Y:YT)(l:List En)(hl:l.length<=1000000000)(B:List (List AV))(L:List Nat)(st:Nat->LS)(n id:Nat)(aO:id<B.length)(aJ:l≠[])(hB:Qh B id=eG l)
  (kk:Nat)(a0 a1 a2 a3:AV)(x:Int)(r:List AV)(hkk:kk<B.length)(fL:kk≠id)(hk:Qh B kk=a0::a1::a2::a3::I x::r)(bT:Zg (a0::a1::a2::a3::I x::r)=true)(K:AV->AM->Prop)
  (hK:∀(B':List (List AV))(z:List AV),aZ (·=id) B B'->Qh B' id=eG (l.filter fun e=>!mC x e)++z->(l.filter fun e=>!mC x e).length*7+z.length=l.length*7->Zg z=true->K (.bs id 0 (l.filter fun e=>!mC x e).length 7) ⟨B',L,st,n⟩):
  an Tryz.prog az Y 216 [.bs id 0 l.length 7,.fn 217 [] [.ptr kk 0]] ⟨B,L,st,n⟩ K:=by
 have Lr:=GG l (mC x) 217 [] [.ep (a0::a1::a2::a3::I x::r) 0] hl (fun _=>rfl) (fun _=>by simp) (fun e _=>xI e a0 a1 a2 a3 x r) (xJ 0 x) (fun _ e _=>by simp[xJ,Qd,mC]);have fu:=Zl ⟨B,L,st,n⟩ 4 (Lq l);have lF:=Rv l;have aH:=Ux l
 have hkc:∀B' d,Qh B' kk=Qh B kk->bF ⟨B',L,st,n⟩ (d+2) (.ptr kk 0)=.ep (a0::a1::a2::a3::I x::r) 0:=fun B' d h=>by
  rw[oG,Vn,h,hk,Zl _ _ bT]
 refine Xd ac7 (xJ (Uq (mC x) l 0) x) (by simp) ?_;by_cases cV:Uq (mC x) l 0= -1
 ·have hf:=afv cV;rw[cV]at Lr;have:=hK B [] (aZ.refl _ _) (by rw[hf];simpa using hB) (by rw[hf];simp) rfl;rw[hf]at this;have hc:=fun d=>hkc B d rfl;simp[-oG,M8,T8,xJ,cV,hB,fu,lF,aH,hc];exact⟨Lr,this⟩
 obtain⟨k,W7,di,AP⟩:=On cV;rw[zzbt]at W7;have DM:¬(k:Int)= -1:=by omega
 have XA:=bJ k (by omega);rw[W7]at Lr;have hc:=fun d=>hkc B d rfl;simp[-oG,M8,T8,xJ,W7,DM,hB,fu,lF,aH,XA,hc];refine⟨Lr,?_⟩
 refine Qj BJ (fun f m=>∃(i j:Nat)(B':List (List AV))(L':List En),f 5=I i/\f 6=I j/\i<j/\j<=l.length/\m=⟨B',L,st,n⟩/\aZ (·=id) B B'/\Qh B' id=eG L'/\L'.length=l.length/\L'.take i=(l.take j).filter (fun e=>!mC x e)/\L'.drop j=l.drop j)
  (fun f m=>l.length-(numOf (f 6)).toNat) ?_ ?_
 ·exact⟨k,k+1,B,l,by simp,by simp,by omega,by omega,rfl,aZ.refl _ _,hB,rfl,AP.symm,rfl⟩
 rintro f m ⟨i,j,B',L',h5,h6,eM,hj,rfl,fq,td,tg,ht,hd⟩;have cE:id<B'.length:=zzbb aO fq.1;have awv:kk<B'.length:=zzbb hkk fq.1;have jh:=Ux L';have hkB:Qh B' kk=Qh B kk:=fq.2 kk hkk fL;have fh:∀ex d,bF ⟨B'++ex,L,st,n⟩ (d+2) (.ptr kk 0)=.ep (a0::a1::a2::a3::I x::r) 0:=fun ex d=>hkc _ d (by rw[Ql awv,hkB]);rcases zzaa j l.length with ai|bB
 ·obtain⟨s,hs⟩:=aR ai
  have iz:L'[j]?=some s:=by
   have:=congrArg (fun x=>x[0]?) hd;simpa[hs]using this
  have hg:=C7 iz;have nG:(j:Int)<(l.length:Int):=by omega
  have ah:(i:Int)<(l.length:Int):=by omega
  have Ft:i<l.length:=by omega
  have tE:=bJ j (by omega);have NY:=bJ i (by omega);have hp:=xI s a0 a1 a2 a3 x r;simp only[Qd]at hp;have bZ:=afu L' i s (by omega);have lD:∀x,Qh (B'++x) id=eG L':=fun x=>by rw[Ql cE,td]
  have qb:∀x v,(B'++x).set id v=B'.set id v++x:=fun x v=>Yf v cE
  have bz:(l.take (j+1)).filter (fun e=>!mC x e)=(l.take j).filter (fun e=>!mC x e)++[s].filter (fun e=>!mC x e):=by
   rw[zzar,hs,zzcp];rfl
  have hdj:L'.drop (j+1)=l.drop (j+1):=by
   have:=congrArg (List.drop 1) hd;simpa[zzdo,zzfa]using this
  by_cases he:s.id=x
  ·have GK:mC x s=true:=by simp[mC,he]
   rw[GK]at hp;simp[-setA,jJ,jK,-oG,fh,h5,h6,nG,td,lD,hg,BJ,xJ,he,tE];rw[he]at hp;refine⟨hp,aN,⟨i,rfl,j+1,by simp,by omega,by omega,fq.app _,?_⟩,by omega⟩
   ·refine⟨L',rfl,tg,?_,hdj⟩;rw[bz,ht];simp[GK]
  have GK:mC x s=false:=by simp[mC,he]
  rw[GK]at hp;simp[-setA,jJ,jK,-oG,fh,h5,h6,nG,ah,td,lD,qb,hg,BJ,xJ,he,tE,NY,bZ,jh,tg];refine⟨hp,⟨by omega,by omega⟩,aN,⟨i+1,by simp,j+1,by simp,by omega,by omega,(fq.set (.inl rfl) _).app _,?_⟩,by omega⟩
  ·refine⟨L'.set i s,by rw[Ql (by simpa using cE),Vp _ cE],by simpa using tg,?_,?_⟩
   ·rw[bz,<- ht,zzar,zzaz (by omega),zzfw (by omega)];simp[GK]
   rw[zzfx (by omega)];exact hdj
 obtain rfl:j=l.length:=by omega
 rw[zzbm]at ht;have gj:(l.filter (fun e=>!mC x e)).length=i:=by rw[<- ht,zzaq];omega
 have hjn:¬((l.length:Nat):Int)<(l.length:Int):=by omega
 have bI:(i:Int)<=(l.length:Int):=by omega
 have ah:(i:Int)<(l.length:Int):=by omega
 have Ft:i<l.length:=eM
 have ei:eG L'≠[]:=by
  intro h;have:=congrArg List.length h;rw[jh,tg]at this;simp at this;omega
 have p6:setA (eG L') (i*7) (bG (l.length-i) [I 0,I 0,I 0,I 0,I 0,I 0,.sl .nil []])=eG (l.filter (fun e=>!mC x e))++bG (l.length-i) nN:=by
  have e1:L'=L'.take i++L'.drop i:=by simp
  conv=>lhs;rw[e1]
  rw[pL,<- ht];have e2:(eG (L'.take i)).length=i*7:=by rw[Ux,zzaq];congr 1;omega
  rw[<- e2];exact oI _ _ _ (by rw[ri,Ux];simp;omega)
 simp[-setA,h5,h6,hjn,td,ah,bI,BJ,cE,ei,jh,tg,p6];refine⟨by omega,?_⟩;have:=hK (B'.set id (eG (l.filter (fun e=>!mC x e))++bG (l.length-i) nN)) (bG (l.length-i) nN) (fq.set (.inl rfl) _) (Vp _ cE) (by rw[ri,gj];simp[nN];omega) (GJ _);rw[gj]at this;exact this
end Go.Proofs.YtnopaopphmjnmaaGreatDoor
