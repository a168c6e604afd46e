import Derived.Test.YtnopaopphmjnmaaGreatDoorMLMbF
set_option linter.all false
set_option maxRecDepth 100000
set_option maxHeartbeats 64000000
namespace Go.Proofs.YtnopaopphmjnmaaGreatDoor
open Go Go.Abs
def Uo(p:Pl)(V:AV):List AV:=[I p.ch,I p.nu,I p.de,I p.of,.sl .ro (p.sh.map Qe),I p.ep,I p.rg,I p.ln,I p.fi,.sl .ro (p.aL.map Qm),V,.sl .ro (p.bks.map Xg),.sl .ro (p.cls.map Qg)]
def aj4(p:Pl)(mb:List (List AV))(ml:List Nat)(ms:Nat->LS)(mn:Nat)(m0:List AV)(f:Nat->AV)(m:AM):Prop:=∃(i:Nat)(bx:List (List AV)),f 22=I i/\i<=p.ens.length/\m=⟨mb++(Uo p (.bs (mb.length+2) 0 p.ens.length 7)::m0::(p.ens.map Qd).flatten::bx),ml,ms,mn⟩
def yh(Y:YT)(m:AM)(p:Pl)(h:Bo p)(hn:p.ens≠[])(K:AV->AM->Prop)
  (hK:∀c0 c1 bx,K (.agg (Uo p (.bs (m.boxes.length+2) 0 p.ens.length 7))) {m with boxes:=m.boxes++(c0::c1::(p.ens.map Qd).flatten::bx)}):an Tryz.prog az Y 61 [.agg (Qb p)] m K:=by
 obtain⟨mb,ml,ms,mn⟩:=m;obtain⟨h1,h2,h3,h4,h5,h6⟩:=h;have k1:=pW p.sh (by omega);have k2:=pX p.aL (by omega);have k4:=pY p.bks (by omega);have k5:=Ds p.cls (by omega);have hsz:=Qav (f:=Qd) (sz:=7) (fun _=>rfl) p.ens;refine Xe u7 (Ki p) (by simp) ?_;have aK:p.ens.map Qd≠[]:=by simpa using hn
 simp[IY,Qb,Ki,hn];refine⟨k1,k2,xZ _ _ hsz (by simpa using by omega) aK _ _ ?_⟩;simp;obtain⟨F,hF⟩:∃F,(p.ens.map Qd).flatten=F:=⟨_,rfl⟩;have IU:F.length=p.ens.length*7:=by rw[<- hF,Wy hsz];simp
 have bQ:Zg F=true:=by rw[<- hF];exact fe (fun _=>rfl) _
 have zT:∀m,F.map (bF m 4)=F:=fun m=>Zk m 3 bQ;rw[hF]at hK |-
 refine Qi ez (aj4 p mb ml ms mn [I 0,I 0,I 0,I 0,.sl .nil [],I 0,I 0,I 0,I 0,.sl .nil [],.sl .nil [],.sl .nil [],.sl .nil []]) (fun f _=>p.ens.length-(numOf (f 22)).toNat) ?_ ?_
 ·exact⟨0,[],by simp,by omega,by rw[hF];simp[Uo]⟩
 rintro f m ⟨i,bx,f22,hi,rfl⟩;rw[hF];rcases zzaa i p.ens.length with ai|bu
 ·obtain⟨e,he⟩:=aS ai;have aa:(i:Int)<(p.ens.length:Int):=by omega
  have hw:=bJ i (by omega);obtain⟨⟨r,hd⟩,cc⟩:=lz hsz (i:=i) (row:=Qd e) (by simp[he]);rw[hF]at hd cc;simp only[Qd,zzae,zzai]at hd cc;have GF:=Wm e (h6 e (zzad he));simp only[Qd]at GF;simp[-setA,jQ,jR,f22,ez,aa,hd,cc,IU,hw,Ki,Uo];refine⟨GF,by omega,aO,⟨i+1,bx++[[I e.id,I e.it,I e.fr,I e.ea,I e.la,I e.bo,.sl .ro (e.al.map Qe)]],by simp,by omega,by rw[hF];simp[Uo]⟩,by omega⟩
 obtain rfl:i=p.ens.length:=by omega
 simp[f22,ez,IZ,Ki,Uo];simp[Uo]at hK;exact⟨k4,k5,hK _ _ _⟩
open Go Go.Abs
def lY(g:Pg)(f:Int):Prop:=g.ev.length<=1000000000/\(∀e∈g.ev,Uh e)/\ob f/\g.p.ens.length<=1000000000
def Lx(Y:YT)(m:AM)(g:Pg)(f:Int)(mid:Nat)(id:Int)(h:lY g f)(K:AV->AM->Prop)(hK:K (I (Jc g id)) m):an Tryz.prog az Y 211 [.agg (Qu g f mid),I id] m K:=
 an.mono (RQ Y m g f mid id h.2.2.2) (by rintro r m' ⟨rfl,rfl⟩;exact hK)
def aj5(Y:YT)(m:AM)(g:Pg)(f:Int)(mid:Nat)(b:List (Int×Bool))(h:lY g f)(hb:gj m.boxes mid b)(K:AV->AM->Prop)(hK:K (Un g f b) m):an Tryz.prog az Y 224 [.agg (Qu g f mid)] m K:=
 an.mono (Z4 Y m g f mid b h.1 h.2.1 h.2.2.1 hb) (by rintro r m' ⟨rfl,rfl⟩;exact hK)
def Br(g:Pg)(f:Int)(b:List (Int×Bool))(id:Int):Option Int:=match Jj g f b with
 |none=>none
 |some e=>if e.id=id then some (rI g e.id)else none
def RR(o:Option Int):AV:=.aW [I (o.getD 0),.bool o.isSome]
def afP(Y:YT)(m:AM)(g:Pg)(f:Int)(mid:Nat)(b:List (Int×Bool))(id:Int)(h:lY g f)(hb:gj m.boxes mid b):
  an Tryz.prog az Y 213 [.agg (Qu g f mid),I id] m (fun r m'=>m'=m/\r=RR (Br g f b id)):=by
 obtain⟨mb,ml,ms,mn⟩:=m;have hB:∀ex,gj (mb++ex) mid b:=fun ex=>⟨by have:=hb.1;simp at this |-;omega,hb.ext ex⟩;have k:=fun ex K hK=>aj5 Y ⟨mb++ex,ml,ms,mn⟩ g f mid b h (hB ex) K hK;simp only[Qu,Qo,Qb,zzae,zzai]at k;refine an.read (Xe ads (fun _ _ _=>.gd false .junk) (by simp) ?_);simp[aic,aid,Qu,Qo,Qb];refine k _ _ ?_;cases hp:Jj g f b with
 |none=>
  simp[Un,hp,Br,RR];exact iI
 |some e=>
  by_cases hi:e.id=id
  ·simp[Un,hp,Br,RR,Qf,uO,hi];exact iI
  simp[Un,hp,Br,RR,Qf,uO,hi];exact iI
def am8(Y:YT)(m:AM)(g:Pg)(f:Int)(mid:Nat)(b:List (Int×Bool))(id:Int)(h:lY g f)(hb:gj m.boxes mid b)(K:AV->AM->Prop)(hK:K (RR (Br g f b id)) m):an Tryz.prog az Y 213 [.agg (Qu g f mid),I id] m K:=
 an.mono (afP Y m g f mid b id h hb) (by rintro r m' ⟨rfl,rfl⟩;exact hK)
def Dw(g:Pg)(f:Int)(b:List (Int×Bool))(id:Int):Bool:=ze b id&&!(Br g f b id).isSome
def afQ(Y:YT)(m:AM)(g:Pg)(f:Int)(mid:Nat)(b:List (Int×Bool))(id:Int)(h:lY g f)(hb:gj m.boxes mid b):
  an Tryz.prog az Y 215 [.agg (Qu g f mid),I id] m (fun r m'=>m'=m/\r=.bool (Dw g f b id)):=by
 obtain⟨mb,ml,ms,mn⟩:=m;have hB:∀ex,gj (mb++ex) mid b:=fun ex=>⟨by have:=hb.1;simp at this |-;omega,hb.ext ex⟩;have hR:∀ex,Qh (mb++ex) mid=[.aJ 0 (bH .bool b)]:=hb.ext;have k:=fun ex K hK=>am8 Y ⟨mb++ex,ml,ms,mn⟩ g f mid b id h (hB ex) K hK;simp only[Qu,Qo,Qb,zzae,zzai]at k;refine an.read (Xe adu (fun _ _ _=>.gd false .junk) (by simp) ?_);simp[aie,aif,Qu,Qo,Qb];refine k _ _ ?_;rcases Xr AV.bool id b 0 with⟨b1,b2,_⟩|⟨u,u',b1,b2,_⟩
 ·simp[RR,Dw,ze,b1,b2,hR];exact iI
 cases u<;>simp[RR,Dw,ze,b1,b2,hR]<;>exact iI
def asO(Y:YT)(m:AM)(g:Pg)(f:Int)(mid:Nat)(b:List (Int×Bool))(id:Int)(h:lY g f)(hb:gj m.boxes mid b)(K:AV->AM->Prop)(hK:K (.bool (Dw g f b id)) m):an Tryz.prog az Y 215 [.agg (Qu g f mid),I id] m K:=
 an.mono (afQ Y m g f mid b id h hb) (by rintro r m' ⟨rfl,rfl⟩;exact hK)
open Go Go.Abs
def Vu(n:Int):Int:=max (-9223372036854775808) (min 9223372036854775807 n)
def RS(a b:Int)(ha:sW a)(hb:sW b):Pure Tryz.prog az 212 [I a,I b] (I (Vu (a+b))):=by
 refine Qn adr (fun _ _ _=>.junk) (by simp) ?_;unfold sW at ha hb;by_cases c1:0<b
 ·have w1:IntKind.i64.wrap (9223372036854775807-b)=9223372036854775807-b:=by rw[Qk]<;>omega
  have c2:¬b<0:=by omega
  by_cases d1:9223372036854775807-b<a
  ·have:Vu (a+b)=9223372036854775807:=by unfold Vu;omega
   simp[Aj,Ak,c1,d1,w1,this]
  have w:IntKind.i64.wrap (a+b)=a+b:=by rw[Qk]<;>omega
  have:Vu (a+b)=a+b:=by unfold Vu;omega
  simp[Aj,Ak,c1,c2,d1,w,w1,this]
 by_cases c2:b<0
 ·have w2:IntKind.i64.wrap (-9223372036854775808-b)= -9223372036854775808-b:=by rw[Qk]<;>omega
  by_cases d1:a< -9223372036854775808-b
  ·have:Vu (a+b)= -9223372036854775808:=by unfold Vu;omega
   simp[Aj,Ak,c1,c2,d1,w2,this]
  have w:IntKind.i64.wrap (a+b)=a+b:=by rw[Qk]<;>omega
  have:Vu (a+b)=a+b:=by unfold Vu;omega
  simp[Aj,Ak,c1,c2,d1,w,w2,this]
 have w:IntKind.i64.wrap (a+b)=a+b:=by rw[Qk]<;>omega
 have:Vu (a+b)=a+b:=by unfold Vu;omega
 simp[Aj,Ak,c1,c2,w,this]
def Qed(a b:Int)(ha:sW a)(hb:sW b):Pure Tryz.prog az 214 [I a,I b] (I (Vu (a-b))):=by
 refine Qn adt (fun _ _ _=>.junk) (by simp) ?_;unfold sW at ha hb;by_cases c1:b<0
 ·have w1:IntKind.i64.wrap (9223372036854775807+b)=9223372036854775807+b:=by rw[Qk]<;>omega
  have c2:¬0<b:=by omega
  by_cases d1:9223372036854775807+b<a
  ·have:Vu (a-b)=9223372036854775807:=by unfold Vu;omega
   simp[Al,Am,c1,d1,w1,this]
  have w:IntKind.i64.wrap (a-b)=a-b:=by rw[Qk]<;>omega
  have:Vu (a-b)=a-b:=by unfold Vu;omega
  simp[Al,Am,c1,c2,d1,w,w1,this]
 by_cases c2:0<b
 ·have w2:IntKind.i64.wrap (-9223372036854775808+b)= -9223372036854775808+b:=by rw[Qk]<;>omega
  by_cases d1:a< -9223372036854775808+b
  ·have:Vu (a-b)= -9223372036854775808:=by unfold Vu;omega
   simp[Al,Am,c1,c2,d1,w2,this]
  have w:IntKind.i64.wrap (a-b)=a-b:=by rw[Qk]<;>omega
  have:Vu (a-b)=a-b:=by unfold Vu;omega
  simp[Al,Am,c1,c2,d1,w,w2,this]
 have w:IntKind.i64.wrap (a-b)=a-b:=by rw[Qk]<;>omega
 have:Vu (a-b)=a-b:=by unfold Vu;omega
 simp[Al,Am,c1,c2,w,this]
def asP:List AV->AV
 |[.int _ x,.int _ y]=>I (Vu (x-y))
 |_=>.junk
def Qdq(n:Int):sW (Vu n):=by unfold sW Vu;omega
def LA:∀{ens:List En}{i:Nat}{e:En},ens[i]?=some e->∃pre r:List AV,pre.length=i*7/\(ens.map Qd).flatten=pre++(Qd e++r)/\∀e',((ens.set i e').map Qd).flatten=pre++(Qd e'++r)
 |[],i,e,h=>by simp at h
 |a::r,0,e,h=>by
  simp at h;subst h;exact⟨[],(r.map Qd).flatten,rfl,by simp,fun e'=>by simp⟩
 |a::r,i+1,e,h=>by
  obtain⟨pre,s,h1,h2,h3⟩:=LA (ens:=r) (i:=i) (e:=e) (by simpa using h);exact⟨Qd a++pre,s,by simp[Qd,h1];omega,by simp[h2],fun e'=>by have:=h3 e';simp only[zzdw,zzaz,zzcl,this,zzaw]⟩
def Bs(pre X Y:List AV)(n:Nat)(k:Nat)(h:pre.length=n):setA (pre++X) (n+k) Y=pre++setA X k Y:=by
 subst h;induction pre with
 |nil=>simp
 |cons a r ih=>rw[zzae,zzbb,show r.length+1+k=r.length+k+1 by omega,xY,ih];rfl
def Bt(pre X:List AV)(n:Nat)(k:Nat)(h:pre.length=n):(pre++X).drop (n+k)=X.drop k:=by
 subst h;simp[List.drop_append]
def Xq(p:Pl)(V W:AV)(d:Int):List AV:=[I p.ch,I p.nu,I p.de,I p.of,.sl .ro (p.sh.map Qe),I p.ep,I p.rg,I p.ln,I p.fi,.sl .ro (p.aL.map Qm),V,.sl .ro (p.bks.map Xg),W,I d]
def uP:List AV:=[I 0,I 0,I 0,I 0,.sl .nil [],I 0,I 0,I 0,I 0,.sl .nil [],.sl .nil [],.sl .nil [],.sl .nil [],I 0]
def ua(g:Pg)(f:Int)(b:List (Int×Bool))(o:Od)(e:En):Int:=match Br g f b o.en with
 |none=>Vu (e.fr+o.n)
 |some st=>if Vu (e.fr+o.n)<Vu (f-st)then Vu (f-st)else Vu (e.fr+o.n)
def RT(g:Pg)(f:Int)(b:List (Int×Bool))(o:Od)(e:En):En:={e with fr:=ua g f b o e,la:=if Vu (g.p.ln-ua g f b o e)<e.la then Vu (g.p.ln-ua g f b o e)else e.la}
def rJ(g:Pg)(f:Int)(b:List (Int×Bool))(o:Od):Option (Pl×Int):=match g.p.ens[(Jc g o.en).toNat]? with
 |none=>none
 |some e=>if Jc g o.en<0 then none else some ({g.p with ens:=g.p.ens.set (Jc g o.en).toNat (RT g f b o e)},ua g f b o e)
def Dx{g:Pg}{f:Int}(h:lY g f)(id:Int):0<=rI g id/\rI g id<=1000000:=by
 unfold rI;cases hf:g.ev.find? (fun e=>decide (e.id=id))with
 |none=>simp
 |some e=>exact(h.2.1 e (zzea hf)).1
def afR(Y:YT)(m:AM)(g:Pg)(f:Int)(mid:Nat)(b:List (Int×Bool))(o:Od)(h:lY g f)(hp:Bo g.p)(hb:gj m.boxes mid b)(hn:sW o.n)(dg:sW g.p.ln)(hes:∀e∈g.p.ens,sW e.fr)(K:AV->AM->Prop)
  (h0:rJ g f b o=none->∀ex,K (.aW [.agg uP,.bool false]) {m with boxes:=m.boxes++ex})
  (h1:∀q d,rJ g f b o=some (q,d)->∀ex k,m.boxes.length<=k->k<(m.boxes++ex).length->Qh (m.boxes++ex) k=(q.ens.map Qd).flatten->K (.aW [.agg (Xq q (.bs k 0 q.ens.length 7) (.sl .ro (q.cls.map Qg)) d),.bool true]) {m with boxes:=m.boxes++ex}):
  an Tryz.prog az Y 137 [.agg (Qu g f mid),.agg (Qq o)] m K:=by
 obtain⟨mb,ml,ms,mn⟩:=m;have hB:∀ex,gj (mb++ex) mid b:=fun ex=>⟨by have:=hb.1;simp at this |-;omega,hb.ext ex⟩;have kp:=fun ex K hK=>Lx Y ⟨mb++ex,ml,ms,mn⟩ g f mid o.en h K hK;have ki:=fun ex K hK=>am8 Y ⟨mb++ex,ml,ms,mn⟩ g f mid b o.en h (hB ex) K hK;simp only[Qu,Qo,Qb,zzae,zzai]at kp ki;cases hf:g.p.ens.find? (fun e=>decide (e.id=o.en))with
 |none=>
  have gG:Jc g o.en= -1:=Qda hf
  have hx:rJ g f b o=none:=by
   unfold rJ;rw[gG];split
   ·rfl
   simp
  refine Xe M5 (fun _ _ _=>.gd false .junk) (by simp) ?_;simp[T6,T7,Qu,Qo,Qb,Qq,Qd,Qg,Qj];refine kp _ _ ?_;simp[gG];have:=h0 hx;simp[uP]at this;exact this _
 |some e=>
  obtain⟨n,g1,g2,g3⟩:=Kz (i:=0) hf;have gG:Jc g o.en=(n:Int):=by unfold Jc;rw[g1];omega
  have ai:n<g.p.ens.length:=(zza.1 g2).1;have aK:g.p.ens≠[]:=by rintro e0;rw[e0]at ai;simp at ai
  have Az:¬(n:Int)<0:=by omega
  have cK:(n:Int)<(g.p.ens.length:Int):=by omega
  have hx:rJ g f b o=some ({g.p with ens:=g.p.ens.set n (RT g f b o e)},ua g f b o e):=by
   unfold rJ;rw[gG];simp[g2,Az]
  obtain⟨pre,r,q1,q2,q3⟩:=LA g2;have hd:=fun X k=>Bt pre X (n*7) k q1;have cc:=fun X Y k=>Bs pre X Y (n*7) k q1;have h1:=h1 _ _ hx;rw[q3]at h1;have kO:=fun ex K hK=>yh Y ⟨mb++ex,ml,ms,mn⟩ g.p hp aK K hK;simp only[Qb]at kO;rw[q2]at kO;have aw9:=RS e.fr o.n (hes e (zzad g2)) hn;refine Xe M5 (fun _ f l=>if f=212 then I (Vu (e.fr+o.n))else if f=214 then asP l else .gd false .junk) (by simp) ?_;simp[T6,T7,Qu,Qo,Qb,Qq,Qd,Qg,Qj];refine kp _ _ ?_;simp[gG,Az];refine kO _ _ fun c0 c1 bx=>?_;have CB:min 1 (pre.length+(r.length+7)-(n*7+2))=1:=by omega
  have hm4:min 1 (pre.length+(r.length+7)-(n*7+4))=1:=by omega
  simp[-setA,jQ,jR,Uo,cK,Qd,zzan,hd,CB,asP];refine⟨aw9,ki _ _ ?_⟩;have hL:=fun V=>Qed g.p.ln (Vu V) dg (Qdq V);cases hi:Br g f b o.en with
  |none=>
   simp[-setA,jQ,xY,jR,RR,zzan,hd,cc,hm4];have hx2:ua g f b o e=Vu (e.fr+o.n):=by simp only[ua,hi]
   simp only[hx2,RT,zzci,Qd,zzae,zzai]at h1;refine⟨by omega,hL _,by omega,?_⟩;exact h1 _ (mb.length+5) (by simp) (by simp) (by simp)
  |some st=>
   have asQ:Br g f b o.en=some st->0<=st/\st<=1000000:=fun hh=>by
    unfold Br at hh;split at hh
    ·cases hh
    split at hh
    ·cases hh;exact Dx h _
    cases hh
   have Tl:=asQ hi;have Tm:=h.2.2.1;have kd:=Qed f st (by unfold ob at Tm;unfold sW;omega) (by unfold sW;omega);simp[-setA,jQ,xY,jR,RR,zzan,hd,cc,hm4];have hx2:ua g f b o e=if Vu (e.fr+o.n)<Vu (f-st)then Vu (f-st)else Vu (e.fr+o.n):=by simp only[ua,hi]
   simp only[hx2,RT,zzci,Qd,zzae,zzai]at h1;refine⟨kd,by omega,?_,by omega,?_⟩
   ·have:=hL (max (Vu (e.fr+o.n)) (Vu (f-st)));split
    ·exact Qed _ _ dg (Qdq _)
    exact Qed _ _ dg (Qdq _)
   exact h1 _ (mb.length+5) (by simp) (by simp) (by simp)
open Go Go.Abs
def eH(l:List En):List AV:=(l.map Qd).flatten
@[simp] theorem avO:eH []=[]:=rfl
@[simp] theorem asR(e:En)(l:List En):eH (e::l)=I e.id::I e.it::I e.fr::I e.ea::I e.la::I e.bo::.sl .ro (e.al.map Qe)::eH l:=rfl
def Uz:∀l,(eH l).length=l.length*7
 |[]=>rfl
 |s::r=>by simp[Uz r];omega
def p8:∀a b,eH (a++b)=eH a++eH b
 |[],_=>rfl
 |s::r,b=>by simp[p8 r b]
def GR:∀(l:List En)(i:Nat),(eH l).drop (i*7)=eH (l.drop i)
 |[],i=>by simp
 |s::r,0=>by simp
 |s::r,i+1=>by rw[show(i+1)*7=i*7+1+1+1+1+1+1+1 by omega];simp[GR r i]
def Dy{l:List En}{i:Nat}{s:En}(h:l[i]?=some s):(eH l).drop (i*7)=I s.id::I s.it::I s.fr::I s.ea::I s.la::I s.bo::.sl .ro (s.al.map Qe)::eH (l.drop (i+1)):=by
 rw[GR];have ai:=(zza.1 h).1;rw[zzaf ai,(zza.1 h).2];rfl
def afS(l:List En)(i:Nat)(s:En)(h:i<l.length):setA (eH l) (i*7) [I s.id,I s.it,I s.fr,I s.ea,I s.la,I s.bo,.sl .ro (s.al.map Qe)]=eH (l.set i s):=by
 obtain⟨pre,r,h1,h2,h3⟩:=LA (ens:=l) (i:=i) (zzac h);unfold eH;rw[h2,h3,<- h1];exact GC pre _ r _ rfl
def LB(l:List En):Zg (eH l)=true:=fe (fun _=>rfl) l
def RU(l:List En):aV 7 l.length (eH l)=l.map Qd:=by
 have:=Jn (Qav (f:=Qd) (sz:=7) (fun _=>rfl) l);simpa[eH]using this
def rK(row:List AV):∀n,(bG n row).length=n*row.length
 |0=>by simp[bG]
 |n+1=>by simp[bG,rK row n,zzbp];omega
def oc:List AV:=[I 0,I 0,I 0,I 0,I 0,I 0,.sl .nil []]
def GU:∀n,Zg (bG n oc)=true
 |0=>rfl
 |n+1=>by have:=GU n;unfold Zg at this |-;rw[bG,zzfd,this];rfl
def mV(x:Int)(e:En):Bool:=decide (e.id=x)
def yj(e:En)(a0 a1 a2 a3:AV)(x:Int)(r:List AV):Pure Tryz.prog az 217 [.agg (Qd e),.ep (a0::a1::a2::a3::I x::r) 0] (.bool (mV x e)):=by
 refine Qn adw (fun _ _ _=>.junk) (by simp) ?_;simp[aih,aii,Qd,mV];rw[zzbt];simp
def afT{x:Int}{l:List En}(h:Ur (mV x) l 0= -1):l.filter (fun e=>!mV x e)=l:=by
 cases hf:l.find? (mV x)with
 |some a=>obtain⟨k,h1,_⟩:=Kz (i:=0) hf;rw[h1]at h;omega
 |none=>
  rw[List.find?_eq_none]at hf;rw[zzgc];intro a ha;simpa using hf a ha
def OJ{x:Int}:∀{l:List En}{i:Nat},Ur (mV x) l i≠ -1->∃k:Nat,Ur (mV x) l i=((i+k:Nat):Int)/\k<l.length/\(l.take (k+1)).filter (fun e=>!mV x e)=l.take k
 |[],_,h=>absurd rfl h
 |s::r,i,h=>by
  simp only[Ur]at h |-
  split
  ·rename_i hs;exact⟨0,rfl,by simp,by simp[hs]⟩
  rename_i hs;rw[if_neg hs]at h;obtain⟨k,h1,h2,h3⟩:=OJ h;exact⟨k+1,by rw[h1];congr 1;omega,by simpa using h2,by simp only[zzeh,zzdu];simp[hs,h3]⟩
def yl(k:Int)(x:Int):Nat->FuncId->List AV->AV:=fun _ f l=>if f=218 then I k else match l with
 |.agg (.int _ n::_)::_=>.bool (decide (n=x))
 |_=>.junk
def Z5(Y:YT)(l:List En)(hl:l.length<=1000000000)(B:List (List AV))(L:List Nat)(st:Nat->LS)(n id:Nat)(aN:id<B.length)(aK:l≠[])(hB:Qh B id=eH l)
  (kk:Nat)(a0 a1 a2 a3:AV)(x:Int)(r:List AV)(hkk:kk<B.length)(fR:kk≠id)(hk:Qh B kk=a0::a1::a2::a3::I x::r)(bQ:Zg (a0::a1::a2::a3::I x::r)=true)(K:AV->AM->Prop)
  (hK:∀(B':List (List AV))(z:List AV),bn (·=id) B B'->Qh B' id=eH (l.filter fun e=>!mV x e)++z->(l.filter fun e=>!mV x e).length*7+z.length=l.length*7->Zg z=true->K (.bs id 0 (l.filter fun e=>!mV x e).length 7) ⟨B',L,st,n⟩):
  an Tryz.prog az Y 216 [.bs id 0 l.length 7,.fn 217 [] [.ptr kk 0]] ⟨B,L,st,n⟩ K:=by
 have LC:=GP l (mV x) 217 [] [.ep (a0::a1::a2::a3::I x::r) 0] hl (fun _=>rfl) (fun _=>by simp) (fun e _=>yj e a0 a1 a2 a3 x r) (yl 0 x) (fun _ e _=>by simp[yl,Qd,mV]);have fH:=Zk ⟨B,L,st,n⟩ 4 (LB l);have lS:=RU l;have aH:=Uz l
 have hkc:∀B' d,Qh B' kk=Qh B kk->bF ⟨B',L,st,n⟩ (d+2) (.ptr kk 0)=.ep (a0::a1::a2::a3::I x::r) 0:=fun B' d h=>by
  rw[o6,Vn,h,hk,Zk _ _ bQ]
 refine Xe adv (yl (Ur (mV x) l 0) x) (by simp) ?_;by_cases cV:Ur (mV x) l 0= -1
 ·have hf:=afT cV;rw[cV]at LC;have:=hK B [] (bn.refl _ _) (by rw[hf];simpa using hB) (by rw[hf];simp) rfl;rw[hf]at this;have hc:=fun d=>hkc B d rfl;simp[-o6,Nr,UW,yl,cV,hB,fH,lS,aH,hc];exact⟨LC,this⟩
 obtain⟨k,XU,dw,Bb⟩:=OJ cV;rw[zzbv]at XU;have D5:¬(k:Int)= -1:=by omega
 have Q3:=bJ k (by omega);rw[XU]at LC;have hc:=fun d=>hkc B d rfl;simp[-o6,Nr,UW,yl,XU,D5,hB,fH,lS,aH,Q3,hc];refine⟨LC,?_⟩
 refine Qi Cc (fun f m=>∃(i j:Nat)(B':List (List AV))(L':List En),f 5=I i/\f 6=I j/\i<j/\j<=l.length/\m=⟨B',L,st,n⟩/\bn (·=id) B B'/\Qh B' id=eH L'/\L'.length=l.length/\L'.take i=(l.take j).filter (fun e=>!mV x e)/\L'.drop j=l.drop j)
  (fun f m=>l.length-(numOf (f 6)).toNat) ?_ ?_
 ·exact⟨k,k+1,B,l,by simp,by simp,by omega,by omega,rfl,bn.refl _ _,hB,rfl,Bb.symm,rfl⟩
 rintro f m ⟨i,j,B',L',h5,h6,eM,hj,rfl,fG,tK,tN,ht,hd⟩;have cE:id<B'.length:=zzbc aN fG.1;have axa:kk<B'.length:=zzbc hkk fG.1;have jv:=Uz L';have hkB:Qh B' kk=Qh B kk:=fG.2 kk hkk fR;have fE:∀ex d,bF ⟨B'++ex,L,st,n⟩ (d+2) (.ptr kk 0)=.ep (a0::a1::a2::a3::I x::r) 0:=fun ex d=>hkc _ d (by rw[Ql axa,hkB]);rcases zzaa j l.length with ai|bu
 ·obtain⟨s,hs⟩:=aS ai
  have iH:L'[j]?=some s:=by
   have:=congrArg (fun x=>x[0]?) hd;simpa[hs]using this
  have hg:=Dy iH;have eF:(j:Int)<(l.length:Int):=by omega
  have aa:(i:Int)<(l.length:Int):=by omega
  have wP:i<l.length:=by omega
  have xz:=bJ j (by omega);have KS:=bJ i (by omega);have hp:=yj s a0 a1 a2 a3 x r;simp only[Qd]at hp;have bV:=afS L' i s (by omega);have gI:∀x,Qh (B'++x) id=eH L':=fun x=>by rw[Ql cE,tK]
  have lV:∀x v,(B'++x).set id v=B'.set id v++x:=fun x v=>Yk v cE
  have bB:(l.take (j+1)).filter (fun e=>!mV x e)=(l.take j).filter (fun e=>!mV x e)++[s].filter (fun e=>!mV x e):=by
   rw[zzas,hs,zzcu];rfl
  have hdj:L'.drop (j+1)=l.drop (j+1):=by
   have:=congrArg (List.drop 1) hd;simpa[zzds,zzff]using this
  by_cases he:s.id=x
  ·have GV:mV x s=true:=by simp[mV,he]
   rw[GV]at hp;simp[-setA,jQ,jR,-o6,fE,h5,h6,eF,tK,gI,hg,Cc,yl,he,xz];rw[he]at hp;refine⟨hp,aO,⟨i,rfl,j+1,by simp,by omega,by omega,fG.app _,?_⟩,by omega⟩
   ·refine⟨L',rfl,tN,?_,hdj⟩;rw[bB,ht];simp[GV]
  have GV:mV x s=false:=by simp[mV,he]
  rw[GV]at hp;simp[-setA,jQ,jR,-o6,fE,h5,h6,eF,aa,tK,gI,lV,hg,Cc,yl,he,xz,KS,bV,jv,tN];refine⟨hp,⟨by omega,by omega⟩,aO,⟨i+1,by simp,j+1,by simp,by omega,by omega,(fG.set (.inl rfl) _).app _,?_⟩,by omega⟩
  ·refine⟨L'.set i s,by rw[Ql (by simpa using cE),Vp _ cE],by simpa using tN,?_,?_⟩
   ·rw[bB,<- ht,zzas,zzb (by omega),zzga (by omega)];simp[GV]
   rw[zzgb (by omega)];exact hdj
 obtain rfl:j=l.length:=by omega
 rw[zzbs]at ht;have gh:(l.filter (fun e=>!mV x e)).length=i:=by rw[<- ht,zzaq];omega
 have Oh:¬((l.length:Nat):Int)<(l.length:Int):=by omega
 have bI:(i:Int)<=(l.length:Int):=by omega
 have aa:(i:Int)<(l.length:Int):=by omega
 have wP:i<l.length:=eM
 have ei:eH L'≠[]:=by
  intro h;have:=congrArg List.length h;rw[jv,tN]at this;simp at this;omega
 have qo:setA (eH L') (i*7) (bG (l.length-i) [I 0,I 0,I 0,I 0,I 0,I 0,.sl .nil []])=eH (l.filter (fun e=>!mV x e))++bG (l.length-i) oc:=by
  have e1:L'=L'.take i++L'.drop i:=by simp
  conv=>lhs;rw[e1]
  rw[p8,<- ht];have e2:(eH (L'.take i)).length=i*7:=by rw[Uz,zzaq];congr 1;omega
  rw[<- e2];exact o8 _ _ _ (by rw[rK,Uz];simp;omega)
 simp[-setA,h5,h6,Oh,tK,aa,bI,Cc,cE,ei,jv,tN,qo];refine⟨by omega,?_⟩;have:=hK (B'.set id (eH (l.filter (fun e=>!mV x e))++bG (l.length-i) oc)) (bG (l.length-i) oc) (fG.set (.inl rfl) _) (Vp _ cE) (by rw[rK,gh];simp[oc];omega) (GU _);rw[gh]at this;exact this
open Go Go.Abs
def bn.form{id:Nat}{B B':List (List AV)}(h:bn (·=id) B B')(aN:id<B.length):B'=B.set id (Qh B' id)++B'.drop B.length:=by
 have hl:=h.1;apply zzcm;intro j;rcases zzaa j B.length with hj|hj
 ·rw[zzag (by simpa using hj),Uc (B:=B') (by omega)];by_cases Ar:j=id
  ·subst Ar;rw[zzb aN]
  rw[zzbe (by omega),Uc hj,h.2 j hj Ar]
 rw[zzal (by simpa using hj),zzci,zzbk];congr 1;omega
def RW(Y:YT)(l:List En)(hl:l.length<=1000000000)(B:List (List AV))(L:List Nat)(st:Nat->LS)(n id:Nat)(aN:id<B.length)(aK:l≠[])(hB:Qh B id=eH l)
  (kk:Nat)(a0 a1 a2 a3:AV)(x:Int)(r:List AV)(hkk:kk<B.length)(fR:kk≠id)(hk:Qh B kk=a0::a1::a2::a3::I x::r)(bQ:Zg (a0::a1::a2::a3::I x::r)=true)(K:AV->AM->Prop)
  (hK:∀(ex:List (List AV))(z:List AV),Zg z=true->K (.bs id 0 (l.filter fun e=>!mV x e).length 7) ⟨B.set id (eH (l.filter fun e=>!mV x e)++z)++ex,L,st,n⟩):
  an Tryz.prog az Y 216 [.bs id 0 l.length 7,.fn 217 [] [.ptr kk 0]] ⟨B,L,st,n⟩ K:=
 Z5 Y l hl B L st n id aN aK hB kk a0 a1 a2 a3 x r hkk fR hk bQ K fun B' z h1 h2 _ h4=>by
  have:=bn.form h1 aN;rw[h2]at this;rw[this];exact hK _ z h4
def ym(g:Pg)(o:Od):Option Pl:=if Jc g o.en<0 then none else some {g.p with ens:=g.p.ens.filter fun e=>!mV o.en e}
def Z6(Y:YT)(m:AM)(g:Pg)(f:Int)(mid:Nat)(o:Od)(h:lY g f)(hp:Bo g.p)(K:AV->AM->Prop)
  (h0:ym g o=none->∀ex,K (.aW [.agg uP,.bool false]) {m with boxes:=m.boxes++ex})
  (h1:∀q,ym g o=some q->∀ex k z,m.boxes.length<=k->k<(m.boxes++ex).length->Qh (m.boxes++ex) k=eH q.ens++z->Zg z=true->K (.aW [.agg (Xq q (.bs k 0 q.ens.length 7) (.sl .ro (q.cls.map Qg)) 0),.bool true]) {m with boxes:=m.boxes++ex}):
  an Tryz.prog az Y 139 [.agg (Qu g f mid),.agg (Qq o)] m K:=by
 obtain⟨mb,ml,ms,mn⟩:=m;have kp:=fun ex K hK=>Lx Y ⟨mb++ex,ml,ms,mn⟩ g f mid o.en h K hK;simp only[Qu,Qo,Qb,zzae,zzai]at kp;by_cases CF:Jc g o.en<0
 ·have hx:ym g o=none:=by unfold ym;rw[if_pos CF]
  refine Xe M6 (fun _ _ _=>.gd false .junk) (by simp) ?_;simp[T8,T9,Qu,Qo,Qb,Qq,Qd,Qg,Qj];refine kp _ _ ?_;simp[CF];have:=h0 hx;simp[uP]at this;exact this _
 have hx:ym g o=some {g.p with ens:=g.p.ens.filter fun e=>!mV o.en e}:=by unfold ym;rw[if_neg CF]
 have aK:g.p.ens≠[]:=by
  intro e;unfold Jc at CF;rw[e]at CF;simp[Ur]at CF
 have h1:=h1 _ hx;have kO:=fun ex K hK=>yh Y ⟨mb++ex,ml,ms,mn⟩ g.p hp aK K hK;simp only[Qb]at kO;have kD:=fun B id aN hB kk a0 a1 a2 a3 r hkk fR hk bQ=>RW Y g.p.ens h.2.2.2 B ml ms mn id aN aK hB kk a0 a1 a2 a3 o.en r hkk fR hk bQ;refine Xe M6 (fun _ _ _=>.gd false .junk) (by simp) ?_;simp[T8,T9,Qu,Qo,Qb,Qq,Qd,Qg,Qj];refine kp _ _ ?_;simp[CF];refine kO _ _ fun c0 c1 bx=>?_;simp[Uo,zzan];refine kD _ _ (by simp) ?_ (mb.length+1) (I o.sq) (I o.ch) (I o.fr) (I o.ki) _ (by simp) (by omega) (by simp;rfl) ?_ _ ?_
 ·simp[eH]
 ·simp[Zg,Fv]
 intro ex z hz;simp[zzan];refine⟨by omega,?_⟩;exact h1 _ (mb.length+5) z (by simp) (by simp) (by simp) hz
open Go Go.Abs
def GW(Y:YT)(l:List Cl)(h:l.length<=1000000000)(m:AM)(K:AV->AM->Prop)(hK:K (.sl (.own m.lens.length 8) (l.map Qg)) {m with lens:=m.lens++[l.length]}):an Tryz.prog az Y 129 [.sl .ro (l.map Qg)] m K:=by
 refine Xe MY (fun _ _ _=>.junk) (by simp) ?_;simp[TY,TZ];exact⟨⟨fun _ _=>rfl,by omega⟩,hK⟩
def Jd(p:Pl)(V W:AV):List AV:=[I p.ch,I p.nu,I p.de,I p.of,.sl .ro (p.sh.map Qe),I p.ep,I p.rg,I p.ln,I p.fi,.sl .ro (p.aL.map Qm),V,.sl .ro (p.bks.map Xg),W]
def yo(p:Pl):Nat->FuncId->List AV->AV:=fun d f l=>if f=129 then .gd false .junk else Ki p d f l
def Z7(Y:YT)(m:AM)(p:Pl)(h:Bo p)(hn:p.ens≠[])(K:AV->AM->Prop)
  (hK:∀c0 c1 bx,K (.agg (Jd p (.bs (m.boxes.length+2) 0 p.ens.length 7) (.sl (.own m.lens.length 8) (p.cls.map Qg)))) {m with boxes:=m.boxes++(c0::c1::(p.ens.map Qd).flatten::bx),lens:=m.lens++[p.cls.length]}):an Tryz.prog az Y 61 [.agg (Qb p)] m K:=by
 obtain⟨mb,ml,ms,mn⟩:=m;obtain⟨h1,h2,h3,h4,h5,h6⟩:=h;have k1:=pW p.sh (by omega);have k2:=pX p.aL (by omega);have k4:=pY p.bks (by omega);have hsz:=Qav (f:=Qd) (sz:=7) (fun _=>rfl) p.ens;refine Xe u7 (yo p) (by simp) ?_;have aK:p.ens.map Qd≠[]:=by simpa using hn
 simp[IY,Qb,yo,Ki,hn];refine⟨k1,k2,xZ _ _ hsz (by simpa using by omega) aK _ _ ?_⟩;simp;obtain⟨F,hF⟩:∃F,(p.ens.map Qd).flatten=F:=⟨_,rfl⟩;have IU:F.length=p.ens.length*7:=by rw[<- hF,Wy hsz];simp
 have bQ:Zg F=true:=by rw[<- hF];exact fe (fun _=>rfl) _
 have zT:∀m,F.map (bF m 4)=F:=fun m=>Zk m 3 bQ;rw[hF]at hK |-
 refine Qi ez (aj4 p mb ml ms mn [I 0,I 0,I 0,I 0,.sl .nil [],I 0,I 0,I 0,I 0,.sl .nil [],.sl .nil [],.sl .nil [],.sl .nil []]) (fun f _=>p.ens.length-(numOf (f 22)).toNat) ?_ ?_
 ·exact⟨0,[],by simp,by omega,by rw[hF];simp[Uo]⟩
 rintro f m ⟨i,bx,f22,hi,rfl⟩;rw[hF];rcases zzaa i p.ens.length with ai|bu
 ·obtain⟨e,he⟩:=aS ai;have aa:(i:Int)<(p.ens.length:Int):=by omega
  have hw:=bJ i (by omega);obtain⟨⟨r,hd⟩,cc⟩:=lz hsz (i:=i) (row:=Qd e) (by simp[he]);rw[hF]at hd cc;simp only[Qd,zzae,zzai]at hd cc;have GF:=Wm e (h6 e (zzad he));simp only[Qd]at GF;simp[-setA,jQ,jR,f22,ez,aa,hd,cc,IU,hw,yo,Ki,Uo];refine⟨GF,by omega,aO,⟨i+1,bx++[[I e.id,I e.it,I e.fr,I e.ea,I e.la,I e.bo,.sl .ro (e.al.map Qe)]],by simp,by omega,by rw[hF];simp[Uo]⟩,by omega⟩
 obtain rfl:i=p.ens.length:=by omega
 simp[f22,ez,IZ,yo,Ki,Uo];simp[Jd]at hK;refine⟨k4,GW _ _ (by omega) _ _ ?_⟩;simp;exact hK _ _ _
def RX(Y:YT)(m:AM)(p:Pl)(h:Bo p)(hn:p.ens=[])(K:AV->AM->Prop)
  (hK:∀c0 c1,K (.agg (Jd p (.sl .ro []) (.sl (.own m.lens.length 8) (p.cls.map Qg)))) {m with boxes:=m.boxes++[c0,c1],lens:=m.lens++[p.cls.length]}):an Tryz.prog az Y 61 [.agg (Qb p)] m K:=by
 obtain⟨mb,ml,ms,mn⟩:=m;obtain⟨h1,h2,h3,h4,h5,h6⟩:=h;have k1:=pW p.sh (by omega);have k2:=pX p.aL (by omega);have k4:=pY p.bks (by omega);have k3:=GD;refine Xe u7 (yo p) (by simp) ?_;simp[IY,Qb,yo,Ki,hn];refine⟨k1,k2,k3,?_⟩;refine Qi ez (fun f m=>f 22=I 0/\m=⟨mb++[[I p.ch,I p.nu,I p.de,I p.of,.sl .ro (p.sh.map Qe),I p.ep,I p.rg,I p.ln,I p.fi,.sl .ro (p.aL.map Qm),.sl .ro [],.sl .ro (p.bks.map Xg),.sl .ro (p.cls.map Qg)],[I 0,I 0,I 0,I 0,.sl .nil [],I 0,I 0,I 0,I 0,.sl .nil [],.sl .nil [],.sl .nil [],.sl .nil []]],ml,ms,mn⟩) (fun f _=>0) ?_ ?_
 ·exact⟨by simp,by simp⟩
 rintro f m ⟨f22,rfl⟩;simp[f22,ez,IZ,yo,Ki];refine⟨k4,GW _ _ (by omega) _ _ ?_⟩;simp;simp[Jd]at hK;exact hK _ _
def Dz(rt:Rt):Prop:=∀m d x,bF m (d+1) (.sl rt x)=.sl .ro x
def Dz.ro:Dz .ro:=fun _ _ _=>rfl
def Dz.own(k s:Nat):Dz (.own k s):=fun _ _ _=>rfl
def mW(bx:List (List AV))(V:AV)(l:List En):Prop:=(∃rt,V=.sl rt (l.map Qd)/\Dz rt)\/∃k z,V=.bs k 0 l.length 7/\k<bx.length/\Qh bx k=eH l++z/\Zg z=true
def GX(n:Nat)(V:AV):Prop:=∀k o l s,V=.bs k o l s->n<=k
def GX.sl(n:Nat)(rt:Rt)(rows:List (List AV)):GX n (.sl rt rows):=fun _ _ _ _ h=>by cases h
def GX.bs{n k o l s:Nat}(h:n<=k):GX n (.bs k o l s):=fun _ _ _ _ e=>by cases e;exact h
def DA(g:Pg)(o:Od):Pl:={g.p with cls:=g.p.cls++[o.cl]}
def Z8(Y:YT)(m:AM)(g:Pg)(f:Int)(mid:Nat)(o:Od)(hp:Bo g.p)(K:AV->AM->Prop)
  (h1:∀ex V,mW (m.boxes++ex) V g.p.ens->GX m.boxes.length V->K (.aW [.agg (Xq (DA g o) V (.sl (.own m.lens.length 8) ((DA g o).cls.map Qg)) 0),.bool true]) {m with boxes:=m.boxes++ex,lens:=m.lens++[g.p.cls.length+1]}):
  an Tryz.prog az Y 135 [.agg (Qu g f mid),.agg (Qq o)] m K:=by
 obtain⟨mb,ml,ms,mn⟩:=m;have hc:=hp.2.2.2.2.1
 have ah:∀row:List AV,((∃a,a∈g.p.cls/\Qg a=row)\/row=Qg o.cl)->row.length=8:=by
  rintro row (⟨a,_,rfl⟩|rfl)<;>rfl
 simp only[DA,Xq,zzc,zzaz,zzcf]at h1;by_cases aK:g.p.ens=[]
 ·have kO:=fun ex K hK=>RX Y ⟨mb++ex,ml,ms,mn⟩ g.p hp aK K hK;simp only[Qb]at kO;refine Xe M4 (fun _ _ l=>.gd false .junk) (by simp) ?_;simp[T3,T4,Qu,Qo,Qb,Qq,Qd,Qg,Qj];refine kO _ _ fun c0 c1=>?_;simp[Jd];refine⟨⟨ah,by omega⟩,?_⟩;exact h1 _ _ (.inl ⟨.ro,by rw[aK];rfl,Dz.ro⟩) (GX.sl _ _ _)
 have kO:=fun ex K hK=>Z7 Y ⟨mb++ex,ml,ms,mn⟩ g.p hp aK K hK;simp only[Qb]at kO;refine Xe M4 (fun _ _ l=>.gd false .junk) (by simp) ?_;simp[T3,T4,Qu,Qo,Qb,Qq,Qd,Qg,Qj];refine kO _ _ fun c0 c1 bx=>?_;simp[Jd,zzan];refine⟨⟨ah,by omega⟩,?_⟩;exact h1 _ _ (.inr ⟨mb.length+5,[],rfl,by simp,by simp[eH],rfl⟩) (GX.bs (by simp))
open Go Go.Abs
def mW.ext{bx:List (List AV)}{V:AV}{l:List En}(h:mW bx V l)(ex:List (List AV)):mW (bx++ex) V l:=by
 obtain h|⟨k,z,h1,h2,h3,h4⟩:=h
 ·exact .inl h
 exact .inr ⟨k,z,h1,by simp;omega,by rw[Ql h2,h3],h4⟩
def RY(Y:YT)(m:AM)(V:AV)(L:List En)(id:Int)(hV:mW m.boxes V L)(hl:L.length<=1000000000):an Tryz.prog az Y 203 [V,I id,.fn 204 [] []] m (fun r m'=>m'=m/\r=Wz (Ze id L)):=by
 obtain⟨mb,ml,ms,mn⟩:=m;refine an.read ?_;obtain⟨rt,rfl,aR⟩|⟨k,z,rfl,hk,hB,hz⟩:=hV
 ·refine Xe B9 (fun _ f l=>if f=204 then(match l with|[.agg (c::_)]=>c|_=>.junk)else .junk) (by simp) ?_;simp[Np];refine Qi dU (fun f m=>∃(i:Nat)(bx:List (List AV)),f 13=I i/\i<=L.length/\Ze id (L.drop i)=Ze id L/\m=⟨mb++([I 0,I 0,I 0,I 0,I 0,I 0,.sl .nil []]::bx),ml,ms,mn⟩) (fun f _=>L.length-(numOf (f 13)).toNat) ?_ ?_
  ·exact⟨0,[],by simp,by omega,rfl,rfl⟩
  rintro f m ⟨i,bx,rq,hi,hf,rfl⟩;rcases zzaa i L.length with ai|bu
  ·obtain⟨x,hx⟩:=aS ai;have ah:Qh (L.map Qd) i=Qd x:=Qs (by simp[hx]);have aa:(i:Int)<(L.length:Int):=by omega
   have hw:=bJ i (by omega);have hd:L.drop i=x::L.drop (i+1):=by rw[zzaf ai,(zza.1 hx).2]
   have zk:=nP x;rw[hd,Ze]at hf;by_cases aN:x.id=id
   ·rw[if_pos aN]at hf;simp[rq,aa,ah,Qd,aN,dU,vu,<- hf,Wz];refine⟨by simpa[Qd,aN]using zk,iI⟩
   rw[if_neg aN]at hf;simp[rq,aa,ah,Qd,aN,dU,hw];refine⟨zk,aO,⟨i+1,by simp,by omega,hf⟩,by omega⟩
  rw[zzam bu]at hf;have bI:¬(i:Int)<(L.length:Int):=by omega
  simp[rq,bI,dU,vu,<- hf,Wz,Ze];exact iI
 have hR:∀ex,Qh (mb++ex) k=eH L++z:=fun ex=>by rw[Ql hk];exact hB
 refine Xe B9 (fun _ f l=>if f=204 then(match l with|[.agg (c::_)]=>c|_=>.junk)else .junk) (by simp) ?_;simp[Np];refine Qi dU (fun f m=>∃(i:Nat)(bx:List (List AV)),f 13=I i/\i<=L.length/\Ze id (L.drop i)=Ze id L/\m=⟨mb++([I 0,I 0,I 0,I 0,I 0,I 0,.sl .nil []]::bx),ml,ms,mn⟩) (fun f _=>L.length-(numOf (f 13)).toNat) ?_ ?_
 ·exact⟨0,[],by simp,by omega,rfl,rfl⟩
 rintro f m ⟨i,bx,rq,hi,hf,rfl⟩;rcases zzaa i L.length with ai|bu
 ·obtain⟨x,hx⟩:=aS ai;have hg:=Dy hx
  have ah:∀ex,(Qh (mb++ex) k).drop (i*7)=I x.id::I x.it::I x.fr::I x.ea::I x.la::I x.bo::.sl .ro (x.al.map Qe)::(eH (L.drop (i+1))++z):=fun ex=>by
   rw[hR,zzdp (by rw[Uz];omega),hg];rfl
  have aa:(i:Int)<(L.length:Int):=by omega
  have hw:=bJ i (by omega);have hd:L.drop i=x::L.drop (i+1):=by rw[zzaf ai,(zza.1 hx).2]
  have zk:=nP x;rw[hd,Ze]at hf;by_cases aN:x.id=id
  ·rw[if_pos aN]at hf;simp[rq,aa,ah,Qd,aN,dU,vu,<- hf,Wz];refine⟨by simpa[Qd,aN]using zk,iI⟩
  rw[if_neg aN]at hf;simp[rq,aa,ah,aN,dU,hw];refine⟨zk,aO,⟨i+1,by simp,by omega,hf⟩,by omega⟩
 rw[zzam bu]at hf;have bI:¬(i:Int)<(L.length:Int):=by omega
 simp[rq,bI,dU,vu,<- hf,Wz,Ze];exact iI
def am9(Y:YT)(m:AM)(V:AV)(L:List En)(id:Int)(hV:mW m.boxes V L)(hl:L.length<=1000000000)(K:AV->AM->Prop)(hK:K (Wz (Ze id L)) m):an Tryz.prog az Y 203 [V,I id,.fn 204 [] []] m K:=
 an.mono (RY Y m V L id hV hl) (by rintro r m' ⟨rfl,rfl⟩;exact hK)
open Go Go.Abs
def oe:∀(l:List En)(z:List AV),aV 7 l.length (eH l++z)=l.map Qd
 |[],z=>rfl
 |e::r,z=>by
  have:=oe r z;simp[Qd,this]
def mW.bF{bx:List (List AV)}{V:AV}{l:List En}(h:mW bx V l)(ex:List (List AV))(ml:List Nat)(ms:Nat->LS)(mn:Nat)(d:Nat):Abs.bF ⟨bx++ex,ml,ms,mn⟩ (d+2) V=.sl .ro (l.map Qd):=by
 obtain⟨rt,rfl,aR⟩|⟨k,z,rfl,hk,hB,hz⟩:=h
 ·exact aR _ _ _
 have bQ:Zg (eH l++z)=true:=by have:=LB l;unfold Zg at this hz |-;rw[zzfd,this,hz];rfl
 rw[XK,Vn,Ql hk,hB,Zk _ _ bQ,if_pos (by rw[zzah,Uz];omega),zzde,oe]
def mW.cell{bx:List (List AV)}{V:AV}{l:List En}(h:mW bx V l):Qv V=true:=by
 rcases h with⟨rt,rfl,aR⟩|⟨k,z,rfl,hk,hB,hz⟩<;>rfl
def LD(Y:YT)(m:AM)(q:Pl)(V:AV)(rt:Rt)(id:Int)(hV:mW m.boxes V q.ens)(hl:q.ens.length<=1000000000)(ha:∀e∈q.ens,e.al.length<=8796093022208):
  an Tryz.prog az Y 130 [.agg (Jd q V (.sl rt (q.cls.map Qg))),I id] m (fun r m'=>m'=m/\r=Wz (Ze id q.ens)):=by
 obtain⟨mb,ml,ms,mn⟩:=m;have hc:=hV.cell;have kf:=fun ex K hK=>am9 Y ⟨mb++ex,ml,ms,mn⟩ V q.ens id (hV.ext ex) hl K hK;refine an.read (Xe M3 (fun _ f l=>if f=203 then .gd false .junk else l.headD .junk) (by simp) ?_);simp[MZ,M1,Jd,hc];refine kf _ _ ?_;cases hf:Ze id q.ens with
 |none=>
  simp[Wz];exact⟨jI,iI⟩
 |some x=>
  have hx:x∈q.ens:=by
   have:∀l:List En,Ze id l=some x->x∈l:=by
    intro l;induction l with
    |nil=>intro h;cases h
    |cons y r ih=>
     intro h;simp only[Ze]at h;split at h
     ·cases h;simp
     simp[ih h]
   exact this _ hf
  have qo:=Ut x.al (ha x hx);simp[Wz,Qd];exact⟨qo,iI⟩
def OK(Y:YT)(m:AM)(q:Pl)(V:AV)(rt:Rt)(id:Int)(hV:mW m.boxes V q.ens)(hl:q.ens.length<=1000000000)(ha:∀e∈q.ens,e.al.length<=8796093022208)(K:AV->AM->Prop)(hK:K (Wz (Ze id q.ens)) m):
  an Tryz.prog az Y 130 [.agg (Jd q V (.sl rt (q.cls.map Qg))),I id] m K:=
 an.mono (LD Y m q V rt id hV hl ha) (by rintro r m' ⟨rfl,rfl⟩;exact hK)
def LF(Y:YT)(m:AM)(g:Pg)(f:Int)(mid:Nat)(o:Od)(q:Pl)(V:AV)(rt:Rt)(d:Int)(hV:mW m.boxes V q.ens):
  an Tryz.prog az Y 136 [.agg (Qu g f mid),.agg (Qq o),.agg (Xq q V (.sl rt (q.cls.map Qg)) d)] m (fun r m'=>m'=m/\r=.bool true):=by
 obtain⟨mb,ml,ms,mn⟩:=m;have hc:=hV.cell;refine an.read (Xe acG (fun _ _ _=>.junk) (by simp) ?_);simp[ahE,ahF,Qu,Qo,Qb,Qq,Qd,Qg,Qj,Xq,hc];exact iI
def GY(Y:YT)(m:AM)(g:Pg)(f:Int)(mid:Nat)(b:List (Int×Bool))(o:Od)(q:Pl)(V:AV)(rt:Rt)(d:Int)(hV:mW m.boxes V q.ens)(h:lY g f)(hb:gj m.boxes mid b):
  an Tryz.prog az Y 140 [.agg (Qu g f mid),.agg (Qq o),.agg (Xq q V (.sl rt (q.cls.map Qg)) d)] m (fun r m'=>m'=m/\r=.bool !(Dw g f b o.en)):=by
 obtain⟨mb,ml,ms,mn⟩:=m;have hc:=hV.cell;have hB:∀ex,gj (mb++ex) mid b:=fun ex=>⟨by have:=hb.1;simp at this |-;omega,hb.ext ex⟩;have k:=fun ex K hK=>asO Y ⟨mb++ex,ml,ms,mn⟩ g f mid b o.en h (hB ex) K hK;simp only[Qu,Qo,Qb,zzae,zzai]at k;refine an.read (Xe acI (fun _ _ _=>.gd false .junk) (by simp) ?_);simp[ahG,ahH,Qu,Qo,Qb,Qq,Qd,Qg,Qj,Xq,hc];refine k _ _ ?_;simp;exact iI
end Go.Proofs.YtnopaopphmjnmaaGreatDoor
