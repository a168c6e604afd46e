import Derived.Test.YtnopaopphmjnmaaGreatDoorMEMbF
set_option linter.all false
set_option maxRecDepth 100000
set_option maxHeartbeats 64000000
namespace Go.Proofs.YtnopaopphmjnmaaGreatDoor
open Go Go.Abs
def Uu(p:Pl)(V:AV):List AV:=[I p.ch,I p.nu,I p.de,I p.of,.sl .ro (p.sh.map Qe),I p.ep,I p.rg,I p.ln,I p.fi,.sl .ro (p.aM.map Qm),V,.sl .ro (p.bks.map Xh),.sl .ro (p.cls.map Qg)]
def aj1(p:Pl)(mb:List (List AV))(ml:List Nat)(ms:Nat->LS)(mn:Nat)(m0:List AV)(f:Nat->AV)(m:AM):Prop:=∃(i:Nat)(bx:List (List AV)),f 22=I i/\i<=p.ens.length/\m=⟨mb++(Uu p (.bs (mb.length+2) 0 p.ens.length 7)::m0::(p.ens.map Qd).flatten::bx),ml,ms,mn⟩
def ym(Y:YT)(m:AM)(p:Pl)(h:Bn p)(hn:p.ens≠[])(K:AV->AM->Prop)
  (hK:∀c0 c1 bx,K (.agg (Uu p (.bs (m.boxes.length+2) 0 p.ens.length 7))) {m with boxes:=m.boxes++(c0::c1::(p.ens.map Qd).flatten::bx)}):an Tryz.prog az Y 61 [.agg (Qc p)] m K:=by
 obtain⟨mb,ml,ms,mn⟩:=m;obtain⟨h1,h2,h3,h4,h5,h6⟩:=h;have k1:=pX p.sh (by omega);have k2:=pY p.aM (by omega);have k4:=pZ p.bks (by omega);have k5:=Ds p.cls (by omega);have hsz:=Qbb (f:=Qd) (sz:=7) (fun _=>rfl) p.ens;refine Xe vf (Kl p) (by simp) ?_;have aK:p.ens.map Qd≠[]:=by simpa using hn
 simp[I7,Qc,Kl,hn];refine⟨k1,k2,yc _ _ hsz (by simpa using by omega) aK _ _ ?_⟩;simp;obtain⟨F,hF⟩:∃F,(p.ens.map Qd).flatten=F:=⟨_,rfl⟩;have I1:F.length=p.ens.length*7:=by rw[<- hF,Qad hsz];simp
 have bV:Zg F=true:=by rw[<- hF];exact fu (fun _=>rfl) _
 have zW:∀m,F.map (bF m 4)=F:=fun m=>Zm m 3 bV;rw[hF]at hK |-
 refine Qj eH (aj1 p mb ml ms mn [I 0,I 0,I 0,I 0,.sl .nil [],I 0,I 0,I 0,I 0,.sl .nil [],.sl .nil [],.sl .nil [],.sl .nil []]) (fun f _=>p.ens.length-(numOf (f 22)).toNat) ?_ ?_
 ·exact⟨0,[],by simp,by omega,by rw[hF];simp[Uu]⟩
 rintro f m ⟨i,bx,f22,hi,rfl⟩;rw[hF];rcases zzaa i p.ens.length with ai|bu
 ·obtain⟨e,he⟩:=aR ai;have aa:(i:Int)<(p.ens.length:Int):=by omega
  have hw:=bK i (by omega);obtain⟨⟨r,hd⟩,cm⟩:=lF hsz (i:=i) (row:=Qd e) (by simp[he]);rw[hF]at hd cm;simp only[Qd,zzae,zzaj]at hd cm;have GO:=Wq e (h6 e (zzac he));simp only[Qd]at GO;simp[-setA,jY,jZ,f22,eH,aa,hd,cm,I1,hw,Kl,Uu];refine⟨GO,by omega,aO,⟨i+1,bx++[[I e.id,I e.it,I e.fr,I e.ea,I e.la,I e.bo,.sl .ro (e.al.map Qe)]],by simp,by omega,by rw[hF];simp[Uu]⟩,by omega⟩
 obtain rfl:i=p.ens.length:=by omega
 simp[f22,eH,I8,Kl,Uu];simp[Uu]at hK;exact⟨k4,k5,hK _ _ _⟩
open Go Go.Abs
def mq(g:Pg)(f:Int):Prop:=g.ev.length<=1000000000/\(∀e∈g.ev,Ul e)/\og f/\g.p.ens.length<=1000000000
def LO(Y:YT)(m:AM)(g:Pg)(f:Int)(mid:Nat)(id:Int)(h:mq g f)(K:AV->AM->Prop)(hK:K (I (Ji g id)) m):an Tryz.prog az Y 211 [.agg (Qu g f mid),I id] m K:=
 an.mono (RT Y m g f mid id h.2.2.2) (by rintro r m' ⟨rfl,rfl⟩;exact hK)
def aj2(Y:YT)(m:AM)(g:Pg)(f:Int)(mid:Nat)(b:List (Int×Bool))(h:mq g f)(hb:gz m.boxes mid b)(K:AV->AM->Prop)(hK:K (Ut g f b) m):an Tryz.prog az Y 224 [.agg (Qu g f mid)] m K:=
 an.mono (ZY Y m g f mid b h.1 h.2.1 h.2.2.1 hb) (by rintro r m' ⟨rfl,rfl⟩;exact hK)
def Bq(g:Pg)(f:Int)(b:List (Int×Bool))(id:Int):Option Int:=match Jo g f b with
 |none=>none
 |some e=>if e.id=id then some (rJ g e.id)else none
def RU(o:Option Int):AV:=.aW [I (o.getD 0),.bool o.isSome]
def afO(Y:YT)(m:AM)(g:Pg)(f:Int)(mid:Nat)(b:List (Int×Bool))(id:Int)(h:mq g f)(hb:gz m.boxes mid b):
  an Tryz.prog az Y 213 [.agg (Qu g f mid),I id] m (fun r m'=>m'=m/\r=RU (Bq g f b id)):=by
 obtain⟨mb,ml,ms,mn⟩:=m;have hB:∀ex,gz (mb++ex) mid b:=fun ex=>⟨by have:=hb.1;simp at this |-;omega,hb.ext ex⟩;have k:=fun ex K hK=>aj2 Y ⟨mb++ex,ml,ms,mn⟩ g f mid b h (hB ex) K hK;simp only[Qu,Qo,Qc,zzae,zzaj]at k;refine an.read (Xe adu (fun _ _ _=>.gd false .junk) (by simp) ?_);simp[aia,aib,Qu,Qo,Qc];refine k _ _ ?_;cases hp:Jo g f b with
 |none=>
  simp[Ut,hp,Bq,RU];exact lJ
 |some e=>
  by_cases hi:e.id=id
  ·simp[Ut,hp,Bq,RU,Qf,uU,hi];exact lJ
  simp[Ut,hp,Bq,RU,Qf,uU,hi];exact lJ
def anb(Y:YT)(m:AM)(g:Pg)(f:Int)(mid:Nat)(b:List (Int×Bool))(id:Int)(h:mq g f)(hb:gz m.boxes mid b)(K:AV->AM->Prop)(hK:K (RU (Bq g f b id)) m):an Tryz.prog az Y 213 [.agg (Qu g f mid),I id] m K:=
 an.mono (afO Y m g f mid b id h hb) (by rintro r m' ⟨rfl,rfl⟩;exact hK)
def Dw(g:Pg)(f:Int)(b:List (Int×Bool))(id:Int):Bool:=zi b id&&!(Bq g f b id).isSome
def afP(Y:YT)(m:AM)(g:Pg)(f:Int)(mid:Nat)(b:List (Int×Bool))(id:Int)(h:mq g f)(hb:gz m.boxes mid b):
  an Tryz.prog az Y 215 [.agg (Qu g f mid),I id] m (fun r m'=>m'=m/\r=.bool (Dw g f b id)):=by
 obtain⟨mb,ml,ms,mn⟩:=m;have hB:∀ex,gz (mb++ex) mid b:=fun ex=>⟨by have:=hb.1;simp at this |-;omega,hb.ext ex⟩;have hR:∀ex,Qh (mb++ex) mid=[.aJ 0 (bH .bool b)]:=hb.ext;have k:=fun ex K hK=>anb Y ⟨mb++ex,ml,ms,mn⟩ g f mid b id h (hB ex) K hK;simp only[Qu,Qo,Qc,zzae,zzaj]at k;refine an.read (Xe adw (fun _ _ _=>.gd false .junk) (by simp) ?_);simp[aic,aid,Qu,Qo,Qc];refine k _ _ ?_;rcases Xq AV.bool id b 0 with⟨b1,b2,_⟩|⟨u,u',b1,b2,_⟩
 ·simp[RU,Dw,zi,b1,b2,hR];exact lJ
 cases u<;>simp[RU,Dw,zi,b1,b2,hR]<;>exact lJ
def asU(Y:YT)(m:AM)(g:Pg)(f:Int)(mid:Nat)(b:List (Int×Bool))(id:Int)(h:mq g f)(hb:gz m.boxes mid b)(K:AV->AM->Prop)(hK:K (.bool (Dw g f b id)) m):an Tryz.prog az Y 215 [.agg (Qu g f mid),I id] m K:=
 an.mono (afP Y m g f mid b id h hb) (by rintro r m' ⟨rfl,rfl⟩;exact hK)
open Go Go.Abs
def Vy(n:Int):Int:=max (-9223372036854775808) (min 9223372036854775807 n)
def RW(a b:Int)(ha:sZ a)(hb:sZ b):Pure Tryz.prog az 212 [I a,I b] (I (Vy (a+b))):=by
 refine Qn adt (fun _ _ _=>.junk) (by simp) ?_;unfold sZ at ha hb;by_cases c1:0<b
 ·have w1:IntKind.i64.wrap (9223372036854775807-b)=9223372036854775807-b:=by rw[Qk]<;>omega
  have c2:¬b<0:=by omega
  by_cases d1:9223372036854775807-b<a
  ·have:Vy (a+b)=9223372036854775807:=by unfold Vy;omega
   simp[Al,Am,c1,d1,w1,this]
  have w:IntKind.i64.wrap (a+b)=a+b:=by rw[Qk]<;>omega
  have:Vy (a+b)=a+b:=by unfold Vy;omega
  simp[Al,Am,c1,c2,d1,w,w1,this]
 by_cases c2:b<0
 ·have w2:IntKind.i64.wrap (-9223372036854775808-b)= -9223372036854775808-b:=by rw[Qk]<;>omega
  by_cases d1:a< -9223372036854775808-b
  ·have:Vy (a+b)= -9223372036854775808:=by unfold Vy;omega
   simp[Al,Am,c1,c2,d1,w2,this]
  have w:IntKind.i64.wrap (a+b)=a+b:=by rw[Qk]<;>omega
  have:Vy (a+b)=a+b:=by unfold Vy;omega
  simp[Al,Am,c1,c2,d1,w,w2,this]
 have w:IntKind.i64.wrap (a+b)=a+b:=by rw[Qk]<;>omega
 have:Vy (a+b)=a+b:=by unfold Vy;omega
 simp[Al,Am,c1,c2,w,this]
def Qen(a b:Int)(ha:sZ a)(hb:sZ b):Pure Tryz.prog az 214 [I a,I b] (I (Vy (a-b))):=by
 refine Qn adv (fun _ _ _=>.junk) (by simp) ?_;unfold sZ at ha hb;by_cases c1:b<0
 ·have w1:IntKind.i64.wrap (9223372036854775807+b)=9223372036854775807+b:=by rw[Qk]<;>omega
  have c2:¬0<b:=by omega
  by_cases d1:9223372036854775807+b<a
  ·have:Vy (a-b)=9223372036854775807:=by unfold Vy;omega
   simp[An,Ao,c1,d1,w1,this]
  have w:IntKind.i64.wrap (a-b)=a-b:=by rw[Qk]<;>omega
  have:Vy (a-b)=a-b:=by unfold Vy;omega
  simp[An,Ao,c1,c2,d1,w,w1,this]
 by_cases c2:0<b
 ·have w2:IntKind.i64.wrap (-9223372036854775808+b)= -9223372036854775808+b:=by rw[Qk]<;>omega
  by_cases d1:a< -9223372036854775808+b
  ·have:Vy (a-b)= -9223372036854775808:=by unfold Vy;omega
   simp[An,Ao,c1,c2,d1,w2,this]
  have w:IntKind.i64.wrap (a-b)=a-b:=by rw[Qk]<;>omega
  have:Vy (a-b)=a-b:=by unfold Vy;omega
  simp[An,Ao,c1,c2,d1,w,w2,this]
 have w:IntKind.i64.wrap (a-b)=a-b:=by rw[Qk]<;>omega
 have:Vy (a-b)=a-b:=by unfold Vy;omega
 simp[An,Ao,c1,c2,w,this]
def asV:List AV->AV
 |[.int _ x,.int _ y]=>I (Vy (x-y))
 |_=>.junk
def Qea(n:Int):sZ (Vy n):=by unfold sZ Vy;omega
def LP:∀{ens:List En}{i:Nat}{e:En},ens[i]?=some e->∃pre r:List AV,pre.length=i*7/\(ens.map Qd).flatten=pre++(Qd e++r)/\∀e',((ens.set i e').map Qd).flatten=pre++(Qd e'++r)
 |[],i,e,h=>by simp at h
 |a::r,0,e,h=>by
  simp at h;subst h;exact⟨[],(r.map Qd).flatten,rfl,by simp,fun e'=>by simp⟩
 |a::r,i+1,e,h=>by
  obtain⟨pre,s,h1,h2,h3⟩:=LP (ens:=r) (i:=i) (e:=e) (by simpa using h);exact⟨Qd a++pre,s,by simp[Qd,h1];omega,by simp[h2],fun e'=>by have:=h3 e';simp only[zzdy,zzay,zzcj,this,zzax]⟩
def Br(pre X Y:List AV)(n:Nat)(k:Nat)(h:pre.length=n):setA (pre++X) (n+k) Y=pre++setA X k Y:=by
 subst h;induction pre with
 |nil=>simp
 |cons a r ih=>rw[zzae,zzba,show r.length+1+k=r.length+k+1 by omega,yb,ih];rfl
def Bs(pre X:List AV)(n:Nat)(k:Nat)(h:pre.length=n):(pre++X).drop (n+k)=X.drop k:=by
 subst h;simp[List.drop_append]
def Xp(p:Pl)(V W:AV)(d:Int):List AV:=[I p.ch,I p.nu,I p.de,I p.of,.sl .ro (p.sh.map Qe),I p.ep,I p.rg,I p.ln,I p.fi,.sl .ro (p.aM.map Qm),V,.sl .ro (p.bks.map Xh),W,I d]
def uV:List AV:=[I 0,I 0,I 0,I 0,.sl .nil [],I 0,I 0,I 0,I 0,.sl .nil [],.sl .nil [],.sl .nil [],.sl .nil [],I 0]
def um(g:Pg)(f:Int)(b:List (Int×Bool))(o:Od)(e:En):Int:=match Bq g f b o.en with
 |none=>Vy (e.fr+o.n)
 |some st=>if Vy (e.fr+o.n)<Vy (f-st)then Vy (f-st)else Vy (e.fr+o.n)
def RX(g:Pg)(f:Int)(b:List (Int×Bool))(o:Od)(e:En):En:={e with fr:=um g f b o e,la:=if Vy (g.p.ln-um g f b o e)<e.la then Vy (g.p.ln-um g f b o e)else e.la}
def rK(g:Pg)(f:Int)(b:List (Int×Bool))(o:Od):Option (Pl×Int):=match g.p.ens[(Ji g o.en).toNat]? with
 |none=>none
 |some e=>if Ji g o.en<0 then none else some ({g.p with ens:=g.p.ens.set (Ji g o.en).toNat (RX g f b o e)},um g f b o e)
def Dx{g:Pg}{f:Int}(h:mq g f)(id:Int):0<=rJ g id/\rJ g id<=1000000:=by
 unfold rJ;cases hf:g.ev.find? (fun e=>decide (e.id=id))with
 |none=>simp
 |some e=>exact(h.2.1 e (zzeb hf)).1
def afQ(Y:YT)(m:AM)(g:Pg)(f:Int)(mid:Nat)(b:List (Int×Bool))(o:Od)(h:mq g f)(hp:Bn g.p)(hb:gz m.boxes mid b)(hn:sZ o.n)(cS:sZ g.p.ln)(hes:∀e∈g.p.ens,sZ e.fr)(K:AV->AM->Prop)
  (h0:rK g f b o=none->∀ex,K (.aW [.agg uV,.bool false]) {m with boxes:=m.boxes++ex})
  (h1:∀q d,rK g f b o=some (q,d)->∀ex k,m.boxes.length<=k->k<(m.boxes++ex).length->Qh (m.boxes++ex) k=(q.ens.map Qd).flatten->K (.aW [.agg (Xp q (.bs k 0 q.ens.length 7) (.sl .ro (q.cls.map Qg)) d),.bool true]) {m with boxes:=m.boxes++ex}):
  an Tryz.prog az Y 137 [.agg (Qu g f mid),.agg (Qq o)] m K:=by
 obtain⟨mb,ml,ms,mn⟩:=m;have hB:∀ex,gz (mb++ex) mid b:=fun ex=>⟨by have:=hb.1;simp at this |-;omega,hb.ext ex⟩;have kp:=fun ex K hK=>LO Y ⟨mb++ex,ml,ms,mn⟩ g f mid o.en h K hK;have ki:=fun ex K hK=>anb Y ⟨mb++ex,ml,ms,mn⟩ g f mid b o.en h (hB ex) K hK;simp only[Qu,Qo,Qc,zzae,zzaj]at kp ki;cases hf:g.p.ens.find? (fun e=>decide (e.id=o.en))with
 |none=>
  have gK:Ji g o.en= -1:=Qdm hf
  have hx:rK g f b o=none:=by
   unfold rK;rw[gK];split
   ·rfl
   simp
  refine Xe Nj (fun _ _ _=>.gd false .junk) (by simp) ?_;simp[T3,T4,Qu,Qo,Qc,Qq,Qd,Qg,Qi];refine kp _ _ ?_;simp[gK];have:=h0 hx;simp[uV]at this;exact this _
 |some e=>
  obtain⟨n,g1,g2,g3⟩:=Wi (i:=0) hf;have gK:Ji g o.en=(n:Int):=by unfold Ji;rw[g1];omega
  have ai:n<g.p.ens.length:=(zza.1 g2).1;have aK:g.p.ens≠[]:=by rintro e0;rw[e0]at ai;simp at ai
  have AB:¬(n:Int)<0:=by omega
  have cB:(n:Int)<(g.p.ens.length:Int):=by omega
  have hx:rK g f b o=some ({g.p with ens:=g.p.ens.set n (RX g f b o e)},um g f b o e):=by
   unfold rK;rw[gK];simp[g2,AB]
  obtain⟨pre,r,q1,q2,q3⟩:=LP g2;have hd:=fun X k=>Bs pre X (n*7) k q1;have cm:=fun X Y k=>Br pre X Y (n*7) k q1;have h1:=h1 _ _ hx;rw[q3]at h1;have kO:=fun ex K hK=>ym Y ⟨mb++ex,ml,ms,mn⟩ g.p hp aK K hK;simp only[Qc]at kO;rw[q2]at kO;have axe:=RW e.fr o.n (hes e (zzac g2)) hn;refine Xe Nj (fun _ f l=>if f=212 then I (Vy (e.fr+o.n))else if f=214 then asV l else .gd false .junk) (by simp) ?_;simp[T3,T4,Qu,Qo,Qc,Qq,Qd,Qg,Qi];refine kp _ _ ?_;simp[gK,AB];refine kO _ _ fun c0 c1 bx=>?_;have CF:min 1 (pre.length+(r.length+7)-(n*7+2))=1:=by omega
  have hm4:min 1 (pre.length+(r.length+7)-(n*7+4))=1:=by omega
  simp[-setA,jY,jZ,Uu,cB,Qd,zzam,hd,CF,asV];refine⟨axe,ki _ _ ?_⟩;have hL:=fun V=>Qen g.p.ln (Vy V) cS (Qea V);cases hi:Bq g f b o.en with
  |none=>
   simp[-setA,jY,yb,jZ,RU,zzam,hd,cm,hm4];have hx2:um g f b o e=Vy (e.fr+o.n):=by simp only[um,hi]
   simp only[hx2,RX,zzca,Qd,zzae,zzaj]at h1;refine⟨by omega,hL _,by omega,?_⟩;exact h1 _ (mb.length+5) (by simp) (by simp) (by simp)
  |some st=>
   have asW:Bq g f b o.en=some st->0<=st/\st<=1000000:=fun hh=>by
    unfold Bq at hh;split at hh
    ·cases hh
    split at hh
    ·cases hh;exact Dx h _
    cases hh
   have Tg:=asW hi;have Ti:=h.2.2.1;have kd:=Qen f st (by unfold og at Ti;unfold sZ;omega) (by unfold sZ;omega);simp[-setA,jY,yb,jZ,RU,zzam,hd,cm,hm4];have hx2:um g f b o e=if Vy (e.fr+o.n)<Vy (f-st)then Vy (f-st)else Vy (e.fr+o.n):=by simp only[um,hi]
   simp only[hx2,RX,zzca,Qd,zzae,zzaj]at h1;refine⟨kd,by omega,?_,by omega,?_⟩
   ·have:=hL (max (Vy (e.fr+o.n)) (Vy (f-st)));split
    ·exact Qen _ _ cS (Qea _)
    exact Qen _ _ cS (Qea _)
   exact h1 _ (mb.length+5) (by simp) (by simp) (by simp)
open Go Go.Abs
def eT(l:List En):List AV:=(l.map Qd).flatten
@[simp] theorem avV:eT []=[]:=rfl
@[simp] theorem asX(e:En)(l:List En):eT (e::l)=I e.id::I e.it::I e.fr::I e.ea::I e.la::I e.bo::.sl .ro (e.al.map Qe)::eT l:=rfl
def Jg:∀l,(eT l).length=l.length*7
 |[]=>rfl
 |s::r=>by simp[Jg r];omega
def p9:∀a b,eT (a++b)=eT a++eT b
 |[],_=>rfl
 |s::r,b=>by simp[p9 r b]
def G4:∀(l:List En)(i:Nat),(eT l).drop (i*7)=eT (l.drop i)
 |[],i=>by simp
 |s::r,0=>by simp
 |s::r,i+1=>by rw[show(i+1)*7=i*7+1+1+1+1+1+1+1 by omega];simp[G4 r i]
def Dy{l:List En}{i:Nat}{s:En}(h:l[i]?=some s):(eT l).drop (i*7)=I s.id::I s.it::I s.fr::I s.ea::I s.la::I s.bo::.sl .ro (s.al.map Qe)::eT (l.drop (i+1)):=by
 rw[G4];have ai:=(zza.1 h).1;rw[zzaf ai,(zza.1 h).2];rfl
def afR(l:List En)(i:Nat)(s:En)(h:i<l.length):setA (eT l) (i*7) [I s.id,I s.it,I s.fr,I s.ea,I s.la,I s.bo,.sl .ro (s.al.map Qe)]=eT (l.set i s):=by
 obtain⟨pre,r,h1,h2,h3⟩:=LP (ens:=l) (i:=i) (zzad h);unfold eT;rw[h2,h3,<- h1];exact GM pre _ r _ rfl
def LQ(l:List En):Zg (eT l)=true:=fu (fun _=>rfl) l
def RY(l:List En):aV 7 l.length (eT l)=l.map Qd:=by
 have:=Ju (Qbb (f:=Qd) (sz:=7) (fun _=>rfl) l);simpa[eT]using this
def rM(row:List AV):∀n,(bG n row).length=n*row.length
 |0=>by simp[bG]
 |n+1=>by simp[bG,rM row n,zzbp];omega
def oh:List AV:=[I 0,I 0,I 0,I 0,I 0,I 0,.sl .nil []]
def G5:∀n,Zg (bG n oh)=true
 |0=>rfl
 |n+1=>by have:=G5 n;unfold Zg at this |-;rw[bG,zzfd,this];rfl
def mX(x:Int)(e:En):Bool:=decide (e.id=x)
def yo(e:En)(a0 a1 a2 a3:AV)(x:Int)(r:List AV):Pure Tryz.prog az 217 [.agg (Qd e),.ep (a0::a1::a2::a3::I x::r) 0] (.bool (mX x e)):=by
 refine Qn ady (fun _ _ _=>.junk) (by simp) ?_;simp[aie,aif,Qd,mX];rw[zzbt];simp
def afS{x:Int}{l:List En}(h:Ux (mX x) l 0= -1):l.filter (fun e=>!mX x e)=l:=by
 cases hf:l.find? (mX x)with
 |some a=>obtain⟨k,h1,_⟩:=Wi (i:=0) hf;rw[h1]at h;omega
 |none=>
  rw[List.find?_eq_none]at hf;rw[zzfz];intro a ha;simpa using hf a ha
def OX{x:Int}:∀{l:List En}{i:Nat},Ux (mX x) l i≠ -1->∃k:Nat,Ux (mX x) l i=((i+k:Nat):Int)/\k<l.length/\(l.take (k+1)).filter (fun e=>!mX x e)=l.take k
 |[],_,h=>absurd rfl h
 |s::r,i,h=>by
  simp only[Ux]at h |-
  split
  ·rename_i hs;exact⟨0,rfl,by simp,by simp[hs]⟩
  rename_i hs;rw[if_neg hs]at h;obtain⟨k,h1,h2,h3⟩:=OX h;exact⟨k+1,by rw[h1];congr 1;omega,by simpa using h2,by simp only[zzej,zzdw];simp[hs,h3]⟩
def yp(k:Int)(x:Int):Nat->FuncId->List AV->AV:=fun _ f l=>if f=218 then I k else match l with
 |.agg (.int _ n::_)::_=>.bool (decide (n=x))
 |_=>.junk
def ZZ(Y:YT)(l:List En)(hl:l.length<=1000000000)(B:List (List AV))(L:List Nat)(st:Nat->LS)(n id:Nat)(aN:id<B.length)(aK:l≠[])(hB:Qh B id=eT l)
  (kk:Nat)(a0 a1 a2 a3:AV)(x:Int)(r:List AV)(hkk:kk<B.length)(fH:kk≠id)(hk:Qh B kk=a0::a1::a2::a3::I x::r)(bV:Zg (a0::a1::a2::a3::I x::r)=true)(K:AV->AM->Prop)
  (hK:∀(B':List (List AV))(z:List AV),bh (·=id) B B'->Qh B' id=eT (l.filter fun e=>!mX x e)++z->(l.filter fun e=>!mX x e).length*7+z.length=l.length*7->Zg z=true->K (.bs id 0 (l.filter fun e=>!mX x e).length 7) ⟨B',L,st,n⟩):
  an Tryz.prog az Y 216 [.bs id 0 l.length 7,.fn 217 [] [.ptr kk 0]] ⟨B,L,st,n⟩ K:=by
 have LR:=G2 l (mX x) 217 [] [.ep (a0::a1::a2::a3::I x::r) 0] hl (fun _=>rfl) (fun _=>by simp) (fun e _=>yo e a0 a1 a2 a3 x r) (yp 0 x) (fun _ e _=>by simp[yp,Qd,mX]);have fO:=Zm ⟨B,L,st,n⟩ 4 (LQ l);have lX:=RY l;have aH:=Jg l
 have hkc:∀B' d,Qh B' kk=Qh B kk->bF ⟨B',L,st,n⟩ (d+2) (.ptr kk 0)=.ep (a0::a1::a2::a3::I x::r) 0:=fun B' d h=>by
  rw[oZ,Vp,h,hk,Zm _ _ bV]
 refine Xe adx (yp (Ux (mX x) l 0) x) (by simp) ?_;by_cases cQ:Ux (mX x) l 0= -1
 ·have hf:=afS cQ;rw[cQ]at LR;have:=hK B [] (bh.refl _ _) (by rw[hf];simpa using hB) (by rw[hf];simp) rfl;rw[hf]at this;have hc:=fun d=>hkc B d rfl;simp[-oZ,NF,UT,yp,cQ,hB,fO,lX,aH,hc];exact⟨LR,this⟩
 obtain⟨k,XS,cV,Ba⟩:=OX cQ;rw[zzbu]at XS;have D9:¬(k:Int)= -1:=by omega
 have XV:=bK k (by omega);rw[XS]at LR;have hc:=fun d=>hkc B d rfl;simp[-oZ,NF,UT,yp,XS,D9,hB,fO,lX,aH,XV,hc];refine⟨LR,?_⟩
 refine Qj Ce (fun f m=>∃(i j:Nat)(B':List (List AV))(L':List En),f 5=I i/\f 6=I j/\i<j/\j<=l.length/\m=⟨B',L,st,n⟩/\bh (·=id) B B'/\Qh B' id=eT L'/\L'.length=l.length/\L'.take i=(l.take j).filter (fun e=>!mX x e)/\L'.drop j=l.drop j)
  (fun f m=>l.length-(numOf (f 6)).toNat) ?_ ?_
 ·exact⟨k,k+1,B,l,by simp,by simp,by omega,by omega,rfl,bh.refl _ _,hB,rfl,Ba.symm,rfl⟩
 rintro f m ⟨i,j,B',L',h5,h6,ek,hj,rfl,fN,tT,tX,ht,hd⟩;have cG:id<B'.length:=zzbb aN fN.1;have axf:kk<B'.length:=zzbb hkk fN.1;have jM:=Jg L';have hkB:Qh B' kk=Qh B kk:=fN.2 kk hkk fH;have fL:∀ex d,bF ⟨B'++ex,L,st,n⟩ (d+2) (.ptr kk 0)=.ep (a0::a1::a2::a3::I x::r) 0:=fun ex d=>hkc _ d (by rw[Ql axf,hkB]);rcases zzaa j l.length with ai|bu
 ·obtain⟨s,hs⟩:=aR ai
  have iM:L'[j]?=some s:=by
   have:=congrArg (fun x=>x[0]?) hd;simpa[hs]using this
  have hg:=Dy iM;have eR:(j:Int)<(l.length:Int):=by omega
  have aa:(i:Int)<(l.length:Int):=by omega
  have wV:i<l.length:=by omega
  have sM:=bK j (by omega);have K5:=bK i (by omega);have hp:=yo s a0 a1 a2 a3 x r;simp only[Qd]at hp;have bU:=afR L' i s (by omega);have fq:∀x,Qh (B'++x) id=eT L':=fun x=>by rw[Ql cG,tT]
  have mg:∀x v,(B'++x).set id v=B'.set id v++x:=fun x v=>Yn v cG
  have bB:(l.take (j+1)).filter (fun e=>!mX x e)=(l.take j).filter (fun e=>!mX x e)++[s].filter (fun e=>!mX x e):=by
   rw[zzas,hs,zzcr];rfl
  have hdj:L'.drop (j+1)=l.drop (j+1):=by
   have:=congrArg (List.drop 1) hd;simpa[zzdv,zzff]using this
  by_cases he:s.id=x
  ·have G6:mX x s=true:=by simp[mX,he]
   rw[G6]at hp;simp[-setA,jY,jZ,-oZ,fL,h5,h6,eR,tT,fq,hg,Ce,yp,he,sM];rw[he]at hp;refine⟨hp,aO,⟨i,rfl,j+1,by simp,by omega,by omega,fN.app _,?_⟩,by omega⟩
   ·refine⟨L',rfl,tX,?_,hdj⟩;rw[bB,ht];simp[G6]
  have G6:mX x s=false:=by simp[mX,he]
  rw[G6]at hp;simp[-setA,jY,jZ,-oZ,fL,h5,h6,eR,aa,tT,fq,mg,hg,Ce,yp,he,sM,K5,bU,jM,tX];refine⟨hp,⟨by omega,by omega⟩,aO,⟨i+1,by simp,j+1,by simp,by omega,by omega,(fN.set (.inl rfl) _).app _,?_⟩,by omega⟩
  ·refine⟨L'.set i s,by rw[Ql (by simpa using cG),Vr _ cG],by simpa using tX,?_,?_⟩
   ·rw[bB,<- ht,zzas,zzaz (by omega),zzfx (by omega)];simp[G6]
   rw[zzfy (by omega)];exact hdj
 obtain rfl:j=l.length:=by omega
 rw[zzbs]at ht;have fK:(l.filter (fun e=>!mX x e)).length=i:=by rw[<- ht,zzaq];omega
 have Ow:¬((l.length:Nat):Int)<(l.length:Int):=by omega
 have bJ:(i:Int)<=(l.length:Int):=by omega
 have aa:(i:Int)<(l.length:Int):=by omega
 have wV:i<l.length:=ek
 have eC:eT L'≠[]:=by
  intro h;have:=congrArg List.length h;rw[jM,tX]at this;simp at this;omega
 have qt:setA (eT L') (i*7) (bG (l.length-i) [I 0,I 0,I 0,I 0,I 0,I 0,.sl .nil []])=eT (l.filter (fun e=>!mX x e))++bG (l.length-i) oh:=by
  have e1:L'=L'.take i++L'.drop i:=by simp
  conv=>lhs;rw[e1]
  rw[p9,<- ht];have e2:(eT (L'.take i)).length=i*7:=by rw[Jg,zzaq];congr 1;omega
  rw[<- e2];exact o7 _ _ _ (by rw[rM,Jg];simp;omega)
 simp[-setA,h5,h6,Ow,tT,aa,bJ,Ce,cG,eC,jM,tX,qt];refine⟨by omega,?_⟩;have:=hK (B'.set id (eT (l.filter (fun e=>!mX x e))++bG (l.length-i) oh)) (bG (l.length-i) oh) (fN.set (.inl rfl) _) (Vr _ cG) (by rw[rM,fK];simp[oh];omega) (G5 _);rw[fK]at this;exact this
end Go.Proofs.YtnopaopphmjnmaaGreatDoor
