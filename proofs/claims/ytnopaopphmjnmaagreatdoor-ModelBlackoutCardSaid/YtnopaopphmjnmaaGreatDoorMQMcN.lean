import Derived.Test.YtnopaopphmjnmaaGreatDoorMQMcL
set_option linter.all false
set_option maxRecDepth 100000
set_option maxHeartbeats 64000000
namespace Go.Proofs.YtnopaopphmjnmaaGreatDoor
open Go Go.Abs
def tJ(o:Int×Int):List AV:=[I o.1,I 0,I o.2,I 0,I 0,I 0,I 0,I 0,I 0,I 0,I 0,I 0,.sl .nil [],I 0,I 0,I 0,I 0,I 0,I 0,I 0,I 0,I 0,I 0,I 0,I 0,.str ⟨#[]⟩]
structure Md where
 pl:List (Int×Int)
 ps:List (List Pg)
 os:List (Int×Int)
def iN(aV:List Rt)(ps:List (List Pg)):List AV:=List.zipWith (fun rt l=>AV.sl rt (l.map Qm)) aV ps
def Ie{aV:List Rt}{ps:List (List Pg)}{i:Nat}{l:List Pg}(hl:aV.length=ps.length)(h:ps[i]?=some l):∃rt,aV[i]?=some rt/\(iN aV ps)[i]?=some (.sl rt (l.map Qm)):=by
 have ai:=(zza.1 h).1;refine⟨aV[i]' zE,zzae zE,?_⟩;unfold iN;rw[zzfu,h,zzae zE]
structure gD (bx:List (List AV)) (md:Nat) (M:Md) (pid aQ:Nat) (aV:List Rt) (bI:Rt) (z:List AV):Prop where
 Fz:md<bx.length
 row:Qh bx md=[.mp pid,.bs aQ 0 M.ps.length 1,.sl bI (M.os.map tJ)]
 hpid:pid<bx.length
 map:Qh bx pid=[.aL 0 (bH (AV.int .i64) M.pl)]
 hbid:aQ<bx.length
 hps:Qh bx aQ=iN aV M.ps++z
 hrts:aV.length=M.ps.length
 ne:M.ps≠[]
 gM:∀c i,af c M.pl=some i->0<=i/\i<M.ps.length
 len:M.ps.length<=40
 los:M.os.length<=1000
 hrto:tH bI .ro\/(bI=.nil/\M.os=[])
def gD.ext{bx:List (List AV)}{md:Nat}{M:Md}{pid aQ:Nat}{aV:List Rt}{bI:Rt}{z:List AV}(h:gD bx md M pid aQ aV bI z)(ex:List (List AV)):gD (bx++ex) md M pid aQ aV bI z:=
 ⟨by have:=h.Fz;simp;omega,by rw[Ql h.Fz,h.row],by have:=h.hpid;simp;omega,by rw[Ql h.hpid,h.map],by have:=h.hbid;simp;omega,by rw[Ql h.hbid,h.hps],h.hrts,h.ne,h.gM,h.len,h.los,h.hrto⟩
def vl(Y:YT)(m:AM)(md:Nat)(M:Md)(pid aQ:Nat)(aV:List Rt)(bI:Rt)(z:List AV)(h:gD m.boxes md M pid aQ aV bI z)(K:AV->AM->Prop)(hK:K (.bool false) m):an Tryz.prog aA Y 39 [.ptr md 0] m K:=by
 obtain⟨mb,ml,ms,mn⟩:=m;have h1:=h.row;have h2:=h.Fz;have aM:¬M.ps.length=0:=fun e=>h.ne (zzav e);have eF:¬M.ps=[]:=h.ne;simp only at h1 h2;refine an.mono (an.read (K:=fun r=>r=.bool false) (Xd alG (fun _ _ _=>.junk) zd ?_)) (by rintro r m' ⟨rfl,rfl⟩;exact hK);simp[apU,apV,h1,aM];exact lK
def Wo(f:Int)(l:List (Int×Int)):Int:=((l.filter fun o=>decide (o.2<=f)).length:Nat)
def Tf(f:Int)(l:List (Int×Int))(o:Int×Int):Wo f (l++[o])=Wo f l+if o.2<=f then 1 else 0:=by
 unfold Wo;rw[zzct,zzai];by_cases h:o.2<=f<;>simp[h]
def Ec(f:Int)(l:List (Int×Int)):0<=Wo f l/\Wo f l<=l.length:=by
 unfold Wo;have:=zzbs (fun o:Int×Int=>decide (o.2<=f)) l;omega
def aup(l:List (Int×Int))(F:Int)(g:Nat->AV)(m:AM):Prop:=∃(i:Nat)(bx:List (List AV)),g 10=I i/\i<=l.length/\g 5=I (Wo F (l.take i))/\m=⟨bx,[],fun _=>.gone,0⟩
def MP(l:List (Int×Int))(f:Int)(hl:l.length<=1000000):Pure Tryz.prog aA 41 [.sl .ro (l.map tJ),I f] (I (Wo f l)):=by
 refine Qo alI (fun _ _ _=>.junk) zd ?_;simp[apW];refine Qk Nx (aup l f) (fun g _=>l.length-(numOf (g 10)).toNat) ?_ ?_
 ·exact⟨0,[],zd,zE,by simp[Wo],rfl⟩
 rintro g m ⟨i,bx,gq,hi,h5,rfl⟩;rcases zzaa i l.length with ai|bz
 ·obtain⟨a,ha⟩:=aU ai;have ah:Qh (l.map tJ) i=tJ a:=Qt (by simp[ha]);have aa:(i:Int)<(l.length:Int):=zE
  have hw:=bM i zE;have bC:l.take (i+1)=l.take i++[a]:=by rw[zzas,ha];rfl
  have hb:=Ec f (l.take i);rw[zzaq]at hb;have dP:IntKind.i64.wrap (Wo f (l.take i)+1)=Wo f (l.take i)+1:=by rw[Qj]<;>omega
  have mR:=Tf f (l.take i) a;rw[<- bC]at mR;by_cases hf:a.2<=f
  ·rw[if_pos hf]at mR;simp[gq,aa,ah,tJ,Nx,hw,hf,h5,dP];refine⟨aP,⟨i+1,_,zd,zE,by rw[mR];simp,rfl⟩,zE⟩
  rw[if_neg hf,Int.add_zero]at mR;simp[gq,aa,ah,tJ,Nx,hw,hf,h5];refine⟨aP,⟨i+1,_,zd,zE,by rw[mR];simp,rfl⟩,zE⟩
 have hbf:l.take i=l:=zzap bz;rw[hbf]at h5;have bL:¬(i:Int)<(l.length:Int):=zE
 simp[gq,bL,Nx,apX,h5]
def uE(f:Int)(l:List (Int×Int)):Int:=((l.filter fun o=>decide (o.2+8<=f)).length:Nat)
def aa9(f:Int)(l:List (Int×Int))(o:Int×Int):uE f (l++[o])=uE f l+if o.2+8<=f then 1 else 0:=by
 unfold uE;rw[zzct,zzai];by_cases h:o.2+8<=f<;>simp[h]
def MQ(f:Int)(l:List (Int×Int)):0<=uE f l/\uE f l<=l.length:=by
 unfold uE;have:=zzbs (fun o:Int×Int=>decide (o.2+8<=f)) l;omega
def auq(l:List (Int×Int))(F:Int)(mb:List (List AV))(ml:List Nat)(ms:Nat->LS)(mn:Nat)(g:Nat->AV)(m:AM):Prop:=∃(i:Nat)(bx:List (List AV)),g 16=I i/\i<=l.length/\g 6=I (uE F (l.take i))/\m=⟨mb++bx,ml,ms,mn⟩
def Ee(Y:YT)(m:AM)(md:Nat)(M:Md)(pid aQ:Nat)(aV:List Rt)(bI:Rt)(z:List AV)(f:Int)(h:gD m.boxes md M pid aQ aV bI z)(hf:∀o∈M.os,0<=o.2/\o.2<=1000000000000):
  an Tryz.prog aA Y 18 [.ptr md 0,I f] m (fun r m'=>m'=m/\r=.aZ [I (uE f M.os),I (Wo f M.os)]):=by
 obtain⟨mb,ml,ms,mn⟩:=m;have h1:=h.row;have h2:=h.Fz;have hR:∀ex,Qh (mb++ex) md=[.mp pid,.bs aQ 0 M.ps.length 1,.sl bI (M.os.map tJ)]:=fun ex=>(h.ext ex).row;have hB:∀ex,gD (mb++ex) md M pid aQ aV bI z:=fun ex=>h.ext ex;have ka:=fun ex K hK=>vl Y ⟨mb++ex,ml,ms,mn⟩ md M pid aQ aV bI z (hB ex) K hK;have ka0:=fun K hK=>vl Y ⟨mb,ml,ms,mn⟩ md M pid aQ aV bI z h K hK;have k41:=MP M.os f (by have:=h.los;omega);have JJ:=h.los;simp only at h1 h2;refine an.read (Xd alu (fun _ fn _=>if fn=41 then I (Wo f M.os)else .gd false .junk) zd ?_);simp[apM];refine ka0 _ ?_;simp[h1];refine Qk EP (auq M.os f mb ml ms mn) (fun g _=>M.os.length-(numOf (g 16)).toNat) ?_ ?_
 ·exact⟨0,[],zd,zE,by simp[uE],zd⟩
 rintro g m ⟨i,bx,Bo,hi,h6,rfl⟩;rcases zzaa i M.os.length with ai|bz
 ·obtain⟨a,ha⟩:=aU ai;have ah:Qh (M.os.map tJ) i=tJ a:=Qt (by simp[ha]);have aa:(i:Int)<(M.os.length:Int):=zE
  have hw:=bM i zE;have bC:M.os.take (i+1)=M.os.take i++[a]:=by rw[zzas,ha];rfl
  have hb:=MQ f (M.os.take i);rw[zzaq]at hb;have dP:IntKind.i64.wrap (uE f (M.os.take i)+1)=uE f (M.os.take i)+1:=by rw[Qj]<;>omega
  have DO:=hf a (zzac ha);have LO:IntKind.i64.wrap (a.2+8)=a.2+8:=by rw[Qj]<;>omega
  have mR:=aa9 f (M.os.take i) a;rw[<- bC]at mR;by_cases hff:a.2+8<=f
  ·rw[if_pos hff]at mR;simp[Bo,aa,ah,tJ,EP,hw,hff,h6,dP,LO];refine⟨aP,⟨i+1,_,zd,zE,by rw[mR];simp,rfl⟩,zE⟩
  rw[if_neg hff,Int.add_zero]at mR;simp[Bo,aa,ah,tJ,EP,hw,hff,h6,LO];refine⟨aP,⟨i+1,_,zd,zE,by rw[mR];simp,rfl⟩,zE⟩
 have hbf:M.os.take i=M.os:=zzap bz;rw[hbf]at h6;have bL:¬(i:Int)<(M.os.length:Int):=zE
 rcases h.hrto with hr|hr
 ·have A1:=fun m d x=>hr m d x;simp[Bo,bL,EP,alr,h6,hR,A1];exact⟨k41,lK⟩
 obtain⟨zq,iC⟩:=hr;subst zq;have aur:=Zo k41 (l:=[.sl .nil (M.os.map tJ),I f]) ⟨Wk.sl _ _,zt,trivial⟩;rw[iC]at aur hR h6;rw[iC]at bL;simp[Bo,EP,alr,h6,hR,iC];exact⟨by simpa using aur,lK⟩
def sg(Y:YT)(m:AM)(md:Nat)(M:Md)(pid aQ:Nat)(aV:List Rt)(bI:Rt)(z:List AV)(f:Int)(h:gD m.boxes md M pid aQ aV bI z)(hf:∀o∈M.os,0<=o.2/\o.2<=1000000000000)(K:AV->AM->Prop)
  (hK:K (.aZ [I (uE f M.os),I (Wo f M.os)]) m):an Tryz.prog aA Y 18 [.ptr md 0,I f] m K:=
 an.mono (Ee Y m md M pid aQ aV bI z f h hf) (by rintro r m' ⟨rfl,rfl⟩;exact hK)
def Yx(M:Md)(c:Int):Option (List Pg):=(af c M.pl).bind fun i=>M.ps[i.toNat]?
def Ig(Y:YT)(m:AM)(md:Nat)(M:Md)(pid aQ:Nat)(aV:List Rt)(bI:Rt)(z:List AV)(c:Int)(h:gD m.boxes md M pid aQ aV bI z)(K:AV->AM->Prop)
  (h0:Yx M c=none->K (.sl .nil []) m)(h1:∀l,Yx M c=some l->∀rt,rt∈aV->K (.sl rt (l.map Qm)) m):an Tryz.prog aA Y 43 [.ptr md 0,I c] m K:=by
 obtain⟨mb,ml,ms,mn⟩:=m;have q1:=h.row;have q2:=h.Fz;have q3:=h.map;have q4:=h.hps;have q5:=h.hbid;have ka0:=fun K hK=>vl Y ⟨mb,ml,ms,mn⟩ md M pid aQ aV bI z h K hK;simp only at q1 q2 q3 q4 q5;refine Xd alL (fun _ fn _=>.gd false .junk) zd ?_;rcases Xq (AV.int .i64) c M.pl 0 with⟨b1,b2,_⟩|⟨u,u',b1,b2,_⟩
 ·have h0:=h0 (by unfold Yx;rw[b1];rfl);simp[alJ];refine ka0 _ ?_;simp[q1,q3,b2,alK];exact h0
 obtain⟨p1,p2⟩:=h.gM c u b1;have ai:u.toNat<M.ps.length:=zE
 obtain⟨l,hl⟩:∃l,M.ps[u.toNat]?=some l:=⟨_,zzae ai⟩;obtain⟨rt,zq,iC⟩:=Ie h.hrts hl;have h1:=h1 l (by unfold Yx;rw[b1];exact hl) rt (zzac zq)
 have ew:(Qh mb aQ).drop u.toNat=.sl rt (l.map Qm)::(Qh mb aQ).drop (u.toNat+1):=by
  have hg:(Qh mb aQ)[u.toNat]?=some (.sl rt (l.map Qm)):=by
   rw[q4,zzag (zza.1 iC).1,iC]
  obtain⟨e1,e2⟩:=zza.1 hg;rw[zzaf e1,e2]
 have dy:u.toNat<(Qh mb aQ).length:=by
  rw[q4,zzai];have:=(zza.1 iC).1;omega
 simp[alJ];refine ka0 _ ?_;simp[q1,q3,b2,alK,p1,p2,ew];exact⟨zE,h1⟩
open Go Go.Abs
def dI:AV->Int
 |.int _ n=>n
 |_=>0
def dR:AV->List (List AV)
 |.sl _ r=>r
 |_=>[]
def dN(l:List AV)(i:Nat):AV:=l.getD i .junk
def dSp(l:List AV):Sp:=(dI (dN l 0),dI (dN l 1))
def dIt(l:List AV):It:=⟨dI (dN l 0),dI (dN l 1),dI (dN l 2),dI (dN l 3),dI (dN l 4)⟩
def dCl(l:List AV):Cl:=⟨dI (dN l 0),dI (dN l 1),dI (dN l 2),dI (dN l 3),dI (dN l 4),dI (dN l 5),dI (dN l 6),dI (dN l 7)⟩
def dEn(l:List AV):En:=⟨dI (dN l 0),dI (dN l 1),dI (dN l 2),dI (dN l 3),dI (dN l 4),dI (dN l 5),(dR (dN l 6)).map dSp⟩
def dBk(l:List AV):Bk:=⟨dI (dN l 0),dI (dN l 1),dI (dN l 2),dI (dN l 3),dI (dN l 4),dI (dN l 5),dI (dN l 6)⟩
def dPl(l:List AV):Pl:=⟨dI (dN l 0),dI (dN l 1),dI (dN l 2),dI (dN l 3),(dR (dN l 4)).map dSp,dI (dN l 5),dI (dN l 6),dI (dN l 7),dI (dN l 8),(dR (dN l 9)).map dIt,(dR (dN l 10)).map dEn,(dR (dN l 11)).map dBk,(dR (dN l 12)).map dCl⟩
def Qeh{α:Type}{f:α->List AV}{g:List AV->α}(h:∀a,g (f a)=a)(l:List α):(l.map f).map g=l:=by
 rw[zzcz]
 conv=>rhs;rw[<- List.map_id l]
 exact zzda fun a _=>h a
theorem Ef(s:Sp):dSp (Qf s)=s:=rfl
def PJ(e:En):dEn (Qd e)=e:=by
 show(⟨e.id,e.it,e.fr,e.ea,e.la,e.bo,(e.al.map Qf).map dSp⟩:En)=e;rw[Qeh Ef]
def Eg(p:Pl):dPl (Qa p)=p:=by
 show(⟨p.ch,p.nu,p.de,p.of,(p.sh.map Qf).map dSp,p.ep,p.rg,p.ln,p.fi,(p.aN.map Qn).map dIt,(p.ens.map Qd).map dEn,(p.bks.map Xg).map dBk,(p.cls.map Qg).map dCl⟩:Pl)=p;rw[Qeh Ef,Qeh (fun _=>rfl),Qeh PJ,Qeh (fun _=>rfl),Qeh (fun _=>rfl)]
structure agW (p:Pl):Prop where
 pl:BJ p
 ln:p.ln<=1000000
 ea:∀e∈p.ens,e.ea<=9223372036854775807
 l:∀l,J2 p=some l->l.length<=1000000/\∀s∈l,-1000000000<=s.2/\s.2<=1000000000
def An(p:Pl):AV:=.aZ [.agg (Qm (uD p)),.sl .ro ((Ic p).map Qy),I (zD p)]
def Tg(p:Pl)(h:agW p):Pure Tryz.prog aA 31 [.agg (Qa p)] (An p):=MO p h.pl h.ln h.ea h.l
def mq:Nat->List Pl->Md->Option Md
 |_,[],M=>some M
 |i,p::r,M=>if(af p.ch M.pl).isSome=true\/zD p≠0 then none else mq (i+1) r {M with pl:=Zr p.ch (i:Int) M.pl,ps:=M.ps++[[uD p]]}
def md0:Md:=⟨[],[],[]⟩
def mw(ps:List Pl):Option Md:=if ps.length<1\/40<ps.length then none else mq 0 ps md0
def BT:Nat->FuncId->List AV->AV:=fun d fn l=>if fn=31 then(match l with
 |[.agg cs]=>An (dPl cs)
 |_=>.junk)else if fn=999999 then(if d=66 then .aL 0 []else .junk)else .junk
def Ih(n:Nat):List Rt:=List.replicate n .full
def psF(ps:List (List Pg)):List AV:=ps.map fun l=>.sl .full (l.map Qm)
def Th(ps:List (List Pg)):iN (Ih ps.length) ps=psF ps:=by
 induction ps with
 |nil=>rfl
 |cons a r ih=>
  simp only[iN,Ih,psF,zzbe,zzfg,List.zipWith_cons_cons,zzay]at ih |-
  rw[ih]
def NwV(n0:Nat)(bx:List (List AV))(ps:List (List Pg))(V:AV):Prop:=(ps=[]/\V=.sl .nil [])\/(ps≠[]/\∃k,V=.bs (n0+(k+2)) 0 ps.length 1/\k<bx.length/\Qh bx k=psF ps)
def aus(ps:List Pl)(mb:List (List AV))(ml:List Nat)(ms:Nat->LS)(mn:Nat)(s:Nat->AV)(m:AM):Prop:=
 ∃(i:Nat)(M:Md)(V:AV)(bx:List (List AV)),s 25=I i/\i<=ps.length/\M.ps.length=i/\M.os=[]/\mq i (ps.drop i) M=mq 0 ps md0/\NwV mb.length bx M.ps V/\(∀c j,af c M.pl=some j->0<=j/\j<M.ps.length)/\
  m=⟨mb++([.aL 0 (bH (AV.int .i64) M.pl)]::[.mp mb.length,V,.sl .nil []]::bx),ml,ms,mn⟩
def Eh(Y:YT)(m:AM)(ps:List Pl)(hps:ps.length<=1000000)(h:∀p∈ps,agW p)(K:AV->AM->Prop)
  (h0:mw ps=none->∀ex,K (.aZ [.nilv true,I 290]) {m with boxes:=m.boxes++ex})
  (h1:∀M,mw ps=some M->∀ex md pid aQ z,m.boxes.length<=md/\m.boxes.length<=aQ->gD (m.boxes++ex) md M pid aQ (Ih M.ps.length) .nil z->K (.aZ [.ptr md 0,I 0]) {m with boxes:=m.boxes++ex}):
  an Tryz.prog aA Y 13 [.sl .ro (ps.map Qa)] m K:=by
 obtain⟨mb,ml,ms,mn⟩:=m;refine Xd alo BT zd ?_;by_cases ez:ps.length<1
 ·have h0:=fun ex=>h0 (by unfold mw;rw[if_pos (.inl ez)]) ex;have Gr:(ps.length:Int)<1:=zE
  simp[UJ,Gr,QN];have:=h0 [];simpa using this
 by_cases Bg:40<ps.length
 ·have h0:=fun ex=>h0 (by unfold mw;rw[if_pos (.inr Bg)]) ex;have Gr:¬(ps.length:Int)<1:=zE
  have aok:(40:Int)<ps.length:=zE
  simp[UJ,Gr,aok,QN];have:=h0 [];simpa using this
 have FQ:mw ps=mq 0 ps md0:=by unfold mw;rw[if_neg zE]
 rw[FQ]at h0 h1;have Gr:¬(ps.length:Int)<1:=zE
 have aok:¬(40:Int)<ps.length:=zE
 simp[UJ,Gr,aok];refine Qk AA (aus ps mb ml ms mn) (fun s _=>ps.length-(numOf (s 25)).toNat) ?_ ?_
 ·exact⟨0,md0,.sl .nil [],[],zd,zE,rfl,rfl,rfl,.inl ⟨rfl,rfl⟩,(fun c j h=>by cases h),by simp[md0]⟩
 rintro s m ⟨i,M,V,bx,h25,hi,hMi,hMo,gW,hV,gM,rfl⟩
 have hc:Qw V=true:=by
  rcases hV with⟨_,rfl⟩|⟨_,k,rfl,_⟩<;>rfl
 rcases zzaa i ps.length with ai|bz
 ·obtain⟨p,hp⟩:=aU ai;have ah:Qh (ps.map Qa) i=Qa p:=Qt (by simp[hp]);have aa:(i:Int)<(ps.length:Int):=zE
  have hw:=bM i zE;have hd:ps.drop i=p::ps.drop (i+1):=by rw[zzaf ai,(zza.1 hp).2]
  have R4:=Tg p (h p (zzac hp));have Lv:dPl [I p.ch,I p.nu,I p.de,I p.of,.sl .ro (p.sh.map Qf),I p.ep,I p.rg,I p.ln,I p.fi,.sl .ro (p.aN.map Qn),.sl .ro (p.ens.map Qd),.sl .ro (p.bks.map Xg),.sl .ro (p.cls.map Qg)]=p:=Eg p;simp only[Qa]at R4;rw[hd,mq]at gW;rcases Xq (AV.int .i64) p.ch M.pl 0 with⟨b1,b2,b3,b4⟩|⟨u,u',b1,b2,_⟩
  ·by_cases he:zD p=0
   ·rw[if_neg (by simp[b1,he])]at gW;have hb4:=b4 (i:Int);have JN:IntKind.i64.wrap ((i:Int)+1)=(i:Int)+1:=by rw[Qj]<;>omega
    have aut:∀(c j:Int),af c (Zr p.ch (i:Int) M.pl)=some j->0<=j/\j<((M.ps++[[uD p]]).length:Nat):=fun c j hc=>by
     rw[zzai,zzea];rw[Yf]at hc;split at hc
     ·cases hc;omega
     have:=gM c j hc;omega
    obtain⟨hV0,rfl⟩|⟨hV0,k,rfl,hk,hr⟩:=hV
    ·simp[h25,aa,ah,Qa,AA,BT,Lv,An,Qm,he,b2];simp only[An,Qm,Qa,zzad,zzah,he]at R4;refine⟨R4,Ze ?_⟩;simp[h25,BT,zzao,JN,hb4];refine⟨aP,⟨i+1,{M with pl:=Zr p.ch (i:Int) M.pl,ps:=M.ps++[[uD p]]},_,_,zd,zE,by simp[hMi],hMo,gW,.inr ⟨zd,bx.length+2,by simp[hV0],zd,?_⟩,aut,rfl⟩,zE⟩
     ·simp[hV0,psF,Qm,Qa]
    simp[h25,aa,ah,Qa,AA,BT,Lv,An,Qm,he,b2];simp only[An,Qm,Qa,zzad,zzah,he]at R4;refine⟨R4,Ze ?_⟩;have hR:∀ex,Qh (bx++ex) k=psF M.ps:=fun ex=>by rw[Ql hk,hr]
    have auu:(psF M.ps).length=M.ps.length:=by simp[psF]
    have aaT:¬psF M.ps=[]:=fun h=>hV0 (zzav (by rw[<- auu,h];rfl));have dD:k<bx.length+2:=zE
    have bC:(psF M.ps).take M.ps.length=psF M.ps:=zzap zE;simp[h25,zzao,hk,hR,JN,hb4,auu,aaT,dD,bC];refine⟨zE,aP,⟨i+1,{M with pl:=Zr p.ch (i:Int) M.pl,ps:=M.ps++[[uD p]]},_,_,zd,zE,by simp[hMi],hMo,gW,.inr ⟨zd,bx.length+2,zd,zd,?_⟩,aut,rfl⟩,zE⟩
    ·rw[lP];simp[psF,Qm,Qa]
   rw[if_pos (.inr he)]at gW;have h0:=h0 gW.symm;simp[h25,aa,ah,Qa,AA,BT,Lv,An,Qm,he,b2,QN];simp only[An,Qm,Qa,zzad,zzah]at R4;exact⟨R4,h0 _⟩
  rw[if_pos (.inl (by rw[b1];rfl))]at gW;have h0:=h0 gW.symm;simp[h25,aa,ah,Qa,AA,BT,Lv,An,Qm,b2,QN];simp only[An,Qm,Qa,zzad,zzah]at R4;exact⟨R4,h0 _⟩
 obtain rfl:i=ps.length:=zE
 have bL:¬(ps.length:Int)<(ps.length:Int):=zE
 rw[zzbn,mq]at gW;have hM0:M.ps≠[]:=fun h=>by rw[h]at hMi;simp at hMi;omega
 obtain⟨hV0,_⟩|⟨_,k,rfl,hk,hr⟩:=hV
 ·exact absurd hV0 hM0
 have h1:=fun ex z hB=>h1 M gW.symm ex (mb.length+1) mb.length (mb.length+(k+2)) z ⟨zd,zd⟩ hB;simp[h25,bL,AA,QN];refine h1 _ [] ⟨zd,by simp[hMo],zd,zd,by simp;omega,?_,by simp[Ih],hM0,gM,zE,by simp[hMo],.inr ⟨rfl,hMo⟩⟩;rw[Th];simp[hr]
