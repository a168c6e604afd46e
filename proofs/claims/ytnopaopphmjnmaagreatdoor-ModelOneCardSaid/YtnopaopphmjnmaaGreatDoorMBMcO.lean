import Derived.Test.YtnopaopphmjnmaaGreatDoorMBMcL
set_option linter.all false
set_option maxRecDepth 100000
set_option maxHeartbeats 64000000
namespace Go.Proofs.YtnopaopphmjnmaaGreatDoor
noncomputable section
open Go Go.Abs
def Wt(o:Int×Int):List AV:=[I o.1,I 0,I o.2,I 0,I 0,I 0,I 0,I 0,I 0,I 0,I 0,I 0,.sl .nil [],I 0,I 0,I 0,I 0,I 0,I 0,I 0,I 0,I 0,I 0,I 0,I 0,.str ⟨#[]⟩]
structure Md where
 pl:List (Int×Int)
 ps:List (List Pg)
 os:List (Int×Int)
def jV(bn:List Rt)(ps:List (List Pg)):List AV:=List.zipWith (fun rt l=>AV.sl rt (l.map Qo)) bn ps
def Hg{bn:List Rt}{ps:List (List Pg)}{i:Nat}{l:List Pg}(hl:bn.length=ps.length)(h:ps[i]?=some l):∃rt,bn[i]?=some rt/\(jV bn ps)[i]?=some (.sl rt (l.map Qo)):=by
 have ai:=(zza.1 h).1;refine⟨bn[i]'(by omega),zzad (by omega),?_⟩;unfold jV;rw[zzfm,h,zzad (by omega)]
structure iy (bx:List (List AV)) (md:Nat) (M:Md) (pid aQ:Nat) (bn:List Rt) (bO:Rt) (z:List AV):Prop where
 EC:md<bx.length
 row:Qh bx md=[.mp pid,.bs aQ 0 M.ps.length 1,.sl bO (M.os.map Wt)]
 hpid:pid<bx.length
 map:Qh bx pid=[.aK 0 (bH (AV.int .i64) M.pl)]
 hbid:aQ<bx.length
 hps:Qh bx aQ=jV bn M.ps++z
 hrts:bn.length=M.ps.length
 ne:M.ps≠[]
 gq:∀c i,af c M.pl=some i->0<=i/\i<M.ps.length
 len:M.ps.length<=40
 los:M.os.length<=1000
 hrto:sJ bO .ro\/(bO=.nil/\M.os=[])
def iy.ext{bx:List (List AV)}{md:Nat}{M:Md}{pid aQ:Nat}{bn:List Rt}{bO:Rt}{z:List AV}(h:iy bx md M pid aQ bn bO z)(ex:List (List AV)):iy (bx++ex) md M pid aQ bn bO z:=
 ⟨by have:=h.EC;simp;omega,by rw[Ql h.EC,h.row],by have:=h.hpid;simp;omega,by rw[Ql h.hpid,h.map],by have:=h.hbid;simp;omega,by rw[Ql h.hbid,h.hps],h.hrts,h.ne,h.gq,h.len,h.los,h.hrto⟩
def uv(Y:YT)(m:AM)(md:Nat)(M:Md)(pid aQ:Nat)(bn:List Rt)(bO:Rt)(z:List AV)(h:iy m.boxes md M pid aQ bn bO z)(K:AV->AM->Prop)(hK:K (.bool false) m):an Tryz.prog az Y 39 [.ptr md 0] m K:=by
 obtain⟨mb,ml,ms,mn⟩:=m;have h1:=h.row;have h2:=h.EC;have aJ:¬M.ps.length=0:=fun e=>h.ne (zzav e);have ei:¬M.ps=[]:=h.ne;simp only at h1 h2;refine an.mono (an.read (K:=fun r=>r=.bool false) (Xd ako (fun _ _ _=>.junk) (by simp) ?_)) (by rintro r m' ⟨rfl,rfl⟩;exact hK);simp[aot,aou,h1,aJ];exact kX
def Jb(f:Int)(l:List (Int×Int)):Int:=((l.filter fun o=>decide (o.2<=f)).length:Nat)
def R3(f:Int)(l:List (Int×Int))(o:Int×Int):Jb f (l++[o])=Jb f l+if o.2<=f then 1 else 0:=by
 unfold Jb;rw[zzcp,zzag];by_cases h:o.2<=f<;>simp[h]
def Dj(f:Int)(l:List (Int×Int)):0<=Jb f l/\Jb f l<=l.length:=by
 unfold Jb;have:=zzbn (fun o:Int×Int=>decide (o.2<=f)) l;omega
def asI(l:List (Int×Int))(F:Int)(g:Nat->AV)(m:AM):Prop:=∃(i:Nat)(bx:List (List AV)),g 10=I i/\i<=l.length/\g 5=I (Jb F (l.take i))/\m=⟨bx,[],fun _=>.gone,0⟩
def LR(l:List (Int×Int))(f:Int)(hl:l.length<=1000000):Pure Tryz.prog az 41 [.sl .ro (l.map Wt),I f] (I (Jb f l)):=by
 refine Qn akq (fun _ _ _=>.junk) (by simp) ?_;simp[aov];refine Qj Mv (asI l f) (fun g _=>l.length-(numOf (g 10)).toNat) ?_ ?_
 ·exact⟨0,[],by simp,by omega,by simp[Jb],rfl⟩
 rintro g m ⟨i,bx,nY,hi,h5,rfl⟩;rcases zzaa i l.length with ai|bB
 ·obtain⟨a,ha⟩:=aR ai;have aa:Qh (l.map Wt) i=Wt a:=Qs (by simp[ha]);have ah:(i:Int)<(l.length:Int):=by omega
  have hw:=bJ i (by omega);have bz:l.take (i+1)=l.take i++[a]:=by rw[zzar,ha];rfl
  have hb:=Dj f (l.take i);rw[zzaq]at hb;have ee:IntKind.i64.wrap (Jb f (l.take i)+1)=Jb f (l.take i)+1:=by rw[Qi]<;>omega
  have mq:=R3 f (l.take i) a;rw[<- bz]at mq;by_cases hf:a.2<=f
  ·rw[if_pos hf]at mq;simp[nY,ah,aa,Wt,Mv,hw,hf,h5,ee];refine⟨aN,⟨i+1,_,by simp,by omega,by rw[mq];simp,rfl⟩,by omega⟩
  rw[if_neg hf,zzgt]at mq;simp[nY,ah,aa,Wt,Mv,hw,hf,h5];refine⟨aN,⟨i+1,_,by simp,by omega,by rw[mq];simp,rfl⟩,by omega⟩
 have hbf:l.take i=l:=zzam bB;rw[hbf]at h5;have bI:¬(i:Int)<(l.length:Int):=by omega
 simp[nY,bI,Mv,aow,h5]
def nU(f:Int)(l:List (Int×Int)):Int:=((l.filter fun o=>decide (o.2+8<=f)).length:Nat)
def aac(f:Int)(l:List (Int×Int))(o:Int×Int):nU f (l++[o])=nU f l+if o.2+8<=f then 1 else 0:=by
 unfold nU;rw[zzcp,zzag];by_cases h:o.2+8<=f<;>simp[h]
def LU(f:Int)(l:List (Int×Int)):0<=nU f l/\nU f l<=l.length:=by
 unfold nU;have:=zzbn (fun o:Int×Int=>decide (o.2+8<=f)) l;omega
def asJ(l:List (Int×Int))(F:Int)(mb:List (List AV))(ml:List Nat)(ms:Nat->LS)(mn:Nat)(g:Nat->AV)(m:AM):Prop:=∃(i:Nat)(bx:List (List AV)),g 16=I i/\i<=l.length/\g 6=I (nU F (l.take i))/\m=⟨mb++bx,ml,ms,mn⟩
def Dk(Y:YT)(m:AM)(md:Nat)(M:Md)(pid aQ:Nat)(bn:List Rt)(bO:Rt)(z:List AV)(f:Int)(h:iy m.boxes md M pid aQ bn bO z)(hf:∀o∈M.os,0<=o.2/\o.2<=1000000000000):
  an Tryz.prog az Y 18 [.ptr md 0,I f] m (fun r m'=>m'=m/\r=.aV [I (nU f M.os),I (Jb f M.os)]):=by
 obtain⟨mb,ml,ms,mn⟩:=m;have h1:=h.row;have h2:=h.EC;have hR:∀ex,Qh (mb++ex) md=[.mp pid,.bs aQ 0 M.ps.length 1,.sl bO (M.os.map Wt)]:=fun ex=>(h.ext ex).row;have hB:∀ex,iy (mb++ex) md M pid aQ bn bO z:=fun ex=>h.ext ex;have ka:=fun ex K hK=>uv Y ⟨mb++ex,ml,ms,mn⟩ md M pid aQ bn bO z (hB ex) K hK;have ka0:=fun K hK=>uv Y ⟨mb,ml,ms,mn⟩ md M pid aQ bn bO z h K hK;have k41:=LR M.os f (by have:=h.los;omega);have NH:=h.los;simp only at h1 h2;refine an.read (Xd akf (fun _ fn _=>if fn=41 then I (Jb f M.os)else .gd false .junk) (by simp) ?_);simp[aol];refine ka0 _ ?_;simp[h1];refine Qj DY (asJ M.os f mb ml ms mn) (fun g _=>M.os.length-(numOf (g 16)).toNat) ?_ ?_
 ·exact⟨0,[],by simp,by omega,by simp[nU],by simp⟩
 rintro g m ⟨i,bx,CB,hi,h6,rfl⟩;rcases zzaa i M.os.length with ai|bB
 ·obtain⟨a,ha⟩:=aR ai;have aa:Qh (M.os.map Wt) i=Wt a:=Qs (by simp[ha]);have ah:(i:Int)<(M.os.length:Int):=by omega
  have hw:=bJ i (by omega);have bz:M.os.take (i+1)=M.os.take i++[a]:=by rw[zzar,ha];rfl
  have hb:=LU f (M.os.take i);rw[zzaq]at hb;have ee:IntKind.i64.wrap (nU f (M.os.take i)+1)=nU f (M.os.take i)+1:=by rw[Qi]<;>omega
  have CV:=hf a (zzac ha);have CI:IntKind.i64.wrap (a.2+8)=a.2+8:=by rw[Qi]<;>omega
  have mq:=aac f (M.os.take i) a;rw[<- bz]at mq;by_cases hff:a.2+8<=f
  ·rw[if_pos hff]at mq;simp[CB,ah,aa,Wt,DY,hw,hff,h6,ee,CI];refine⟨aN,⟨i+1,_,by simp,by omega,by rw[mq];simp,rfl⟩,by omega⟩
  rw[if_neg hff,zzgt]at mq;simp[CB,ah,aa,Wt,DY,hw,hff,h6,CI];refine⟨aN,⟨i+1,_,by simp,by omega,by rw[mq];simp,rfl⟩,by omega⟩
 have hbf:M.os.take i=M.os:=zzam bB;rw[hbf]at h6;have bI:¬(i:Int)<(M.os.length:Int):=by omega
 rcases h.hrto with hr|hr
 ·have Af:=fun m d x=>hr m d x;simp[CB,bI,DY,ake,h6,hR,Af];exact⟨k41,kX⟩
 obtain⟨yJ,gZ⟩:=hr;subst yJ;have asK:=Zk k41 (l:=[.sl .nil (M.os.map Wt),I f]) ⟨Wk.sl _ _,Wk.refl _,trivial⟩;rw[gZ]at asK hR h6;rw[gZ]at bI;simp[CB,DY,ake,h6,hR,gZ];exact⟨by simpa using asK,kX⟩
def lq(Y:YT)(m:AM)(md:Nat)(M:Md)(pid aQ:Nat)(bn:List Rt)(bO:Rt)(z:List AV)(f:Int)(h:iy m.boxes md M pid aQ bn bO z)(hf:∀o∈M.os,0<=o.2/\o.2<=1000000000000)(K:AV->AM->Prop)
  (hK:K (.aV [I (nU f M.os),I (Jb f M.os)]) m):an Tryz.prog az Y 18 [.ptr md 0,I f] m K:=
 an.mono (Dk Y m md M pid aQ bn bO z f h hf) (by rintro r m' ⟨rfl,rfl⟩;exact hK)
def gW(M:Md)(c:Int):Option (List Pg):=(af c M.pl).bind fun i=>M.ps[i.toNat]?
def Hh(Y:YT)(m:AM)(md:Nat)(M:Md)(pid aQ:Nat)(bn:List Rt)(bO:Rt)(z:List AV)(c:Int)(h:iy m.boxes md M pid aQ bn bO z)(K:AV->AM->Prop)
  (h0:gW M c=none->K (.sl .nil []) m)(h1:∀l,gW M c=some l->∀rt,rt∈bn->K (.sl rt (l.map Qo)) m):an Tryz.prog az Y 43 [.ptr md 0,I c] m K:=by
 obtain⟨mb,ml,ms,mn⟩:=m;have q1:=h.row;have q2:=h.EC;have q3:=h.map;have q4:=h.hps;have q5:=h.hbid;have ka0:=fun K hK=>uv Y ⟨mb,ml,ms,mn⟩ md M pid aQ bn bO z h K hK;simp only at q1 q2 q3 q4 q5;refine Xd akt (fun _ fn _=>.gd false .junk) (by simp) ?_;rcases Xq (AV.int .i64) c M.pl 0 with⟨b1,b2,_⟩|⟨u,u',b1,b2,_⟩
 ·have h0:=h0 (by unfold gW;rw[b1];rfl);simp[akr];refine ka0 _ ?_;simp[q1,q3,b2,aks];exact h0
 obtain⟨p1,p2⟩:=h.gq c u b1;have ai:u.toNat<M.ps.length:=by omega
 obtain⟨l,hl⟩:∃l,M.ps[u.toNat]?=some l:=⟨_,zzad ai⟩;obtain⟨rt,yJ,gZ⟩:=Hg h.hrts hl;have h1:=h1 l (by unfold gW;rw[b1];exact hl) rt (zzac yJ)
 have dX:(Qh mb aQ).drop u.toNat=.sl rt (l.map Qo)::(Qh mb aQ).drop (u.toNat+1):=by
  have hg:(Qh mb aQ)[u.toNat]?=some (.sl rt (l.map Qo)):=by
   rw[q4,zzah (zza.1 gZ).1,gZ]
  obtain⟨e1,e2⟩:=zza.1 hg;rw[zzaf e1,e2]
 have dm:u.toNat<(Qh mb aQ).length:=by
  rw[q4,zzag];have:=(zza.1 gZ).1;omega
 simp[akr];refine ka0 _ ?_;simp[q1,q3,b2,aks,p1,p2,dX];exact⟨by omega,h1⟩
open Go Go.Abs
def dI:AV->Int
 |.int _ n=>n
 |_=>0
def dR:AV->List (List AV)
 |.sl _ r=>r
 |_=>[]
def dN(l:List AV)(i:Nat):AV:=l.getD i .junk
def dSp(l:List AV):Sp:=(dI (dN l 0),dI (dN l 1))
def dIt(l:List AV):It:=⟨dI (dN l 0),dI (dN l 1),dI (dN l 2),dI (dN l 3),dI (dN l 4)⟩
def dCl(l:List AV):Cl:=⟨dI (dN l 0),dI (dN l 1),dI (dN l 2),dI (dN l 3),dI (dN l 4),dI (dN l 5),dI (dN l 6),dI (dN l 7)⟩
def dEn(l:List AV):En:=⟨dI (dN l 0),dI (dN l 1),dI (dN l 2),dI (dN l 3),dI (dN l 4),dI (dN l 5),(dR (dN l 6)).map dSp⟩
def dBk(l:List AV):Bk:=⟨dI (dN l 0),dI (dN l 1),dI (dN l 2),dI (dN l 3),dI (dN l 4),dI (dN l 5),dI (dN l 6)⟩
def dPl(l:List AV):Pl:=⟨dI (dN l 0),dI (dN l 1),dI (dN l 2),dI (dN l 3),(dR (dN l 4)).map dSp,dI (dN l 5),dI (dN l 6),dI (dN l 7),dI (dN l 8),(dR (dN l 9)).map dIt,(dR (dN l 10)).map dEn,(dR (dN l 11)).map dBk,(dR (dN l 12)).map dCl⟩
def Qdo{α:Type}{f:α->List AV}{g:List AV->α}(h:∀a,g (f a)=a)(l:List α):(l.map f).map g=l:=by
 rw[zzcs]
 conv=>rhs;rw[<- List.map_id l]
 exact zzdf fun a _=>h a
theorem Dl(s:Sp):dSp (Qe s)=s:=rfl
def OC(e:En):dEn (Qd e)=e:=by
 show(⟨e.id,e.it,e.fr,e.ea,e.la,e.bo,(e.al.map Qe).map dSp⟩:En)=e;rw[Qdo Dl]
def OD(p:Pl):dPl (Qc p)=p:=by
 show(⟨p.ch,p.nu,p.de,p.of,(p.sh.map Qe).map dSp,p.ep,p.rg,p.ln,p.fi,(p.aM.map Qm).map dIt,(p.ens.map Qd).map dEn,(p.bks.map Xf).map dBk,(p.cls.map Qg).map dCl⟩:Pl)=p;rw[Qdo Dl,Qdo (fun _=>rfl),Qdo OC,Qdo (fun _=>rfl),Qdo (fun _=>rfl)]
structure afY (p:Pl):Prop where
 pl:A3 p
 ln:p.ln<=1000000
 ea:∀e∈p.ens,e.ea<=9223372036854775807
 l:∀l,IB p=some l->l.length<=1000000/\∀s∈l,-1000000000<=s.2/\s.2<=1000000000
def zz(p:Pl):AV:=.aV [.agg (Qo (yf p)),.sl .ro ((Hf p).map Xa),I (Be p)]
def R4(p:Pl)(h:afY p):Pure Tryz.prog az 31 [.agg (Qc p)] (zz p):=LQ p h.pl h.ln h.ea h.l
def pR:Nat->List Pl->Md->Option Md
 |_,[],M=>some M
 |i,p::r,M=>if(af p.ch M.pl).isSome=true\/Be p≠0 then none else pR (i+1) r {M with pl:=Zx p.ch (i:Int) M.pl,ps:=M.ps++[[yf p]]}
def md0:Md:=⟨[],[],[]⟩
def pS(ps:List Pl):Option Md:=if ps.length<1\/40<ps.length then none else pR 0 ps md0
def Bf:Nat->FuncId->List AV->AV:=fun d fn l=>if fn=31 then(match l with
 |[.agg cs]=>zz (dPl cs)
 |_=>.junk)else if fn=999999 then(if d=66 then .aK 0 []else .junk)else .junk
def Hi(n:Nat):List Rt:=List.replicate n .full
def psF(ps:List (List Pg)):List AV:=ps.map fun l=>.sl .full (l.map Qo)
def R5(ps:List (List Pg)):jV (Hi ps.length) ps=psF ps:=by
 induction ps with
 |nil=>rfl
 |cons a r ih=>
  simp only[jV,Hi,psF,zzba,zzev,List.zipWith_cons_cons,zzaw]at ih |-
  rw[ih]
def NwV(n0:Nat)(bx:List (List AV))(ps:List (List Pg))(V:AV):Prop:=(ps=[]/\V=.sl .nil [])\/(ps≠[]/\∃k,V=.bs (n0+(k+2)) 0 ps.length 1/\k<bx.length/\Qh bx k=psF ps)
def asL(ps:List Pl)(mb:List (List AV))(ml:List Nat)(ms:Nat->LS)(mn:Nat)(s:Nat->AV)(m:AM):Prop:=
 ∃(i:Nat)(M:Md)(V:AV)(bx:List (List AV)),s 25=I i/\i<=ps.length/\M.ps.length=i/\M.os=[]/\pR i (ps.drop i) M=pR 0 ps md0/\NwV mb.length bx M.ps V/\(∀c j,af c M.pl=some j->0<=j/\j<M.ps.length)/\
  m=⟨mb++([.aK 0 (bH (AV.int .i64) M.pl)]::[.mp mb.length,V,.sl .nil []]::bx),ml,ms,mn⟩
def Dm(Y:YT)(m:AM)(ps:List Pl)(hps:ps.length<=1000000)(h:∀p∈ps,afY p)(K:AV->AM->Prop)
  (h0:pS ps=none->∀ex,K (.aV [.nilv true,I 290]) {m with boxes:=m.boxes++ex})
  (h1:∀M,pS ps=some M->∀ex md pid aQ z,m.boxes.length<=md/\m.boxes.length<=aQ->iy (m.boxes++ex) md M pid aQ (Hi M.ps.length) .nil z->K (.aV [.ptr md 0,I 0]) {m with boxes:=m.boxes++ex}):
  an Tryz.prog az Y 13 [.sl .ro (ps.map Qc)] m K:=by
 obtain⟨mb,ml,ms,mn⟩:=m;refine Xd akb Bf (by simp) ?_;by_cases dZ:ps.length<1
 ·have h0:=fun ex=>h0 (by unfold pS;rw[if_pos (.inl dZ)]) ex;have Fy:(ps.length:Int)<1:=by omega
  simp[Tb,Fy,Pd];have:=h0 [];simpa using this
 by_cases Az:40<ps.length
 ·have h0:=fun ex=>h0 (by unfold pS;rw[if_pos (.inr Az)]) ex;have Fy:¬(ps.length:Int)<1:=by omega
  have am3:(40:Int)<ps.length:=by omega
  simp[Tb,Fy,am3,Pd];have:=h0 [];simpa using this
 have EW:pS ps=pR 0 ps md0:=by unfold pS;rw[if_neg (by omega)]
 rw[EW]at h0 h1;have Fy:¬(ps.length:Int)<1:=by omega
 have am3:¬(40:Int)<ps.length:=by omega
 simp[Tb,Fy,am3];refine Qj zK (asL ps mb ml ms mn) (fun s _=>ps.length-(numOf (s 25)).toNat) ?_ ?_
 ·exact⟨0,md0,.sl .nil [],[],by simp,by omega,rfl,rfl,rfl,.inl ⟨rfl,rfl⟩,(fun c j h=>by cases h),by simp[md0]⟩
 rintro s m ⟨i,M,V,bx,h25,hi,hMi,hMo,gH,hV,gq,rfl⟩
 have hc:Qv V=true:=by
  rcases hV with⟨_,rfl⟩|⟨_,k,rfl,_⟩<;>rfl
 rcases zzaa i ps.length with ai|bB
 ·obtain⟨p,hp⟩:=aR ai;have aa:Qh (ps.map Qc) i=Qc p:=Qs (by simp[hp]);have ah:(i:Int)<(ps.length:Int):=by omega
  have hw:=bJ i (by omega);have hd:ps.drop i=p::ps.drop (i+1):=by rw[zzaf ai,(zza.1 hp).2]
  have QO:=R4 p (h p (zzac hp));have W8:dPl [I p.ch,I p.nu,I p.de,I p.of,.sl .ro (p.sh.map Qe),I p.ep,I p.rg,I p.ln,I p.fi,.sl .ro (p.aM.map Qm),.sl .ro (p.ens.map Qd),.sl .ro (p.bks.map Xf),.sl .ro (p.cls.map Qg)]=p:=OD p;simp only[Qc]at QO;rw[hd,pR]at gH;rcases Xq (AV.int .i64) p.ch M.pl 0 with⟨b1,b2,b3,b4⟩|⟨u,u',b1,b2,_⟩
  ·by_cases he:Be p=0
   ·rw[if_neg (by simp[b1,he])]at gH;have hb4:=b4 (i:Int);have Im:IntKind.i64.wrap ((i:Int)+1)=(i:Int)+1:=by rw[Qi]<;>omega
    have asM:∀(c j:Int),af c (Zx p.ch (i:Int) M.pl)=some j->0<=j/\j<((M.ps++[[yf p]]).length:Nat):=fun c j hc=>by
     rw[zzag,zzdv];rw[Uh]at hc;split at hc
     ·cases hc;omega
     have:=gq c j hc;omega
    obtain⟨hV0,rfl⟩|⟨hV0,k,rfl,hk,hr⟩:=hV
    ·simp[h25,ah,aa,Qc,zK,Bf,W8,zz,Qo,he,b2];simp only[zz,Qo,Qc,zzae,zzai,he]at QO;refine⟨QO,Za ?_⟩;simp[h25,Bf,zzao,Im,hb4];refine⟨aN,⟨i+1,{M with pl:=Zx p.ch (i:Int) M.pl,ps:=M.ps++[[yf p]]},_,_,by simp,by omega,by simp[hMi],hMo,gH,.inr ⟨by simp,bx.length+2,by simp[hV0],by simp,?_⟩,asM,rfl⟩,by omega⟩
     ·simp[hV0,psF,Qo,Qc]
    simp[h25,ah,aa,Qc,zK,Bf,W8,zz,Qo,he,b2];simp only[zz,Qo,Qc,zzae,zzai,he]at QO;refine⟨QO,Za ?_⟩;have hR:∀ex,Qh (bx++ex) k=psF M.ps:=fun ex=>by rw[Ql hk,hr]
    have asN:(psF M.ps).length=M.ps.length:=by simp[psF]
    have ZX:¬psF M.ps=[]:=fun h=>hV0 (zzav (by rw[<- asN,h];rfl));have di:k<bx.length+2:=by omega
    have bz:(psF M.ps).take M.ps.length=psF M.ps:=zzam (by omega);simp[h25,zzao,hk,hR,Im,hb4,asN,ZX,di,bz];refine⟨by omega,aN,⟨i+1,{M with pl:=Zx p.ch (i:Int) M.pl,ps:=M.ps++[[yf p]]},_,_,by simp,by omega,by simp[hMi],hMo,gH,.inr ⟨by simp,bx.length+2,by simp,by simp,?_⟩,asM,rfl⟩,by omega⟩
    ·rw[k8];simp[psF,Qo,Qc]
   rw[if_pos (.inr he)]at gH;have h0:=h0 gH.symm;simp[h25,ah,aa,Qc,zK,Bf,W8,zz,Qo,he,b2,Pd];simp only[zz,Qo,Qc,zzae,zzai]at QO;exact⟨QO,h0 _⟩
  rw[if_pos (.inl (by rw[b1];rfl))]at gH;have h0:=h0 gH.symm;simp[h25,ah,aa,Qc,zK,Bf,W8,zz,Qo,b2,Pd];simp only[zz,Qo,Qc,zzae,zzai]at QO;exact⟨QO,h0 _⟩
 obtain rfl:i=ps.length:=by omega
 have bI:¬(ps.length:Int)<(ps.length:Int):=by omega
 rw[zzbr,pR]at gH;have hM0:M.ps≠[]:=fun h=>by rw[h]at hMi;simp at hMi;omega
 obtain⟨hV0,_⟩|⟨_,k,rfl,hk,hr⟩:=hV
 ·exact absurd hV0 hM0
 have h1:=fun ex z hB=>h1 M gH.symm ex (mb.length+1) mb.length (mb.length+(k+2)) z ⟨by simp,by simp⟩ hB;simp[h25,bI,zK,Pd];refine h1 _ [] ⟨by simp,by simp[hMo],by simp,by simp,by simp;omega,?_,by simp[Hi],hM0,gq,by omega,by simp[hMo],.inr ⟨rfl,hMo⟩⟩;rw[R5];simp[hr]
open Go Go.Abs
def dx(g:Pg):Pg:={g with ev:=g.ev.map RX}
def R6(g:Pg):Qo (dx g)=Qo g:=by
 unfold Qo dx;simp only[Bc]
def dEv(l:List AV):bE:=⟨dI (dN l 0),dI (dN l 1),dI (dN l 2),dI (dN l 3),dI (dN l 4),dI (dN l 5),(dR (dN l 6)).map dSp,false⟩
def dS:AV->ByteArray
 |.str s=>s
 |_=>⟨#[]⟩
def dCu(l:List AV):Cue:=⟨dI (dN l 0),dI (dN l 1),dI (dN l 2),dI (dN l 3),dS (dN l 4)⟩
def dPg(l:List AV):Pg:=⟨dPl l,(dR (dN l 13)).map dEv,(dR (dN l 14)).map dCu,dI (dN l 15),(dR (dN l 16)).map fun r=>dI (dN r 0),dI (dN l 17)⟩
def OE(l:List bE):(l.map Qf).map dEv=l.map RX:=by
 rw[zzcs];refine zzdf fun e _=>?_;show(⟨e.id,e.it,e.st,e.fr,e.i,e.re,(e.al.map Qe).map dSp,false⟩:bE)=RX e;rw[Qdo Dl];rfl
def afZ(g:Pg):dPg (Qo g)=dx g:=by
 show(⟨dPl (Qc g.p),(g.ev.map Qf).map dEv,(g.cu.map Qk).map dCu,g.ed,(g.dr.map Xa).map (fun r=>dI (dN r 0)),g.ve⟩:Pg)=dx g;rw[OD,OE,Qdo (fun _=>rfl),Qdo (fun _=>rfl)];rfl
def Hj(g:Pg)(o:Od)(h:R2 (dx g) o):Pure Tryz.prog az 37 [.agg (Qo g),.agg (Qq o)] (.agg (Qo (Zq (dx g) o))):=by
 have:=LO (dx g) o h;rw[R6]at this;exact this
def OF:SC:=(⟨_,by cbv⟩:vO [1,1,1,1,1] IC).1
def aad:SC:=(⟨_,fun _=>by cbv⟩:vP [1] (tf [1,1,1,1] IC)).1 OF
def asO:SC:=(⟨_,fun _=>by cbv⟩:vP [1,1,1,1] IC).1 aad
theorem af0:IC=asO:=rfl
def Hl(M:Md)(o:Od):Bool:=!Zb o||(decide (o.sq≠(M.os.length:Int)+1)||(match M.os.getLast? with
 |none=>false
 |some x=>decide (o.fr<x.2)))
def Yo(o:Od)(n:Nat)(l:List Pg):List Pg:=l++(l[n]?.map fun g=>Zq (dx g) o).toList
def lR(M:Md)(o:Od):Option Md:=if Hl M o=true then none else some {M with ps:=M.ps.map (Yo o M.os.length),os:=M.os++[(o.sq,o.fr)]}
def ef(ls:List Nat)(bn:List Rt)(ps:List (List Pg)):Prop:=
 (∀(i:Nat)(rt:Rt)(l:List Pg),bn[i]?=some rt->ps[i]?=some l->rt=.full\/∃k,rt=.own k 18/\ls[k]?=some l.length)/\∀(i j k:Nat),bn[i]?=some (.own k 18)->bn[j]?=some (.own k 18)->i=j
def eH(ls:List Nat)(bn:List Rt)(bO:Rt)(n:Nat):Prop:=(bO=.nil/\n=0)\/∃k,bO=.own k 26/\ls[k]?=some n/\∀i:Nat,bn[i]?≠some (.own k 18)
def jW(o:Od)(n:Nat):Nat->FuncId->List AV->AV:=fun d fn l=>if fn=39 then .gd false .junk else if fn=40 then .bool (Zb o)else if fn=37 then(match l with
 |[.agg cs,_]=>.agg (Qo (Zq (dPg cs) o))
 |_=>.junk)else .junk
def iy.aae{B:List (List AV)}{md:Nat}{M:Md}{pid aQ:Nat}{bn:List Rt}{bO:Rt}{z:List AV}(h:iy B md M pid aQ bn bO z)(zu:md≠pid)(gi:md≠aQ)(os':List (Int×Int))(cW:Rt)(hl:os'.length<=1000)(hr:sJ cW .ro):
  iy (B.set md [.mp pid,.bs aQ 0 M.ps.length 1,.sl cW (os'.map Wt)]) md {M with os:=os'} pid aQ bn cW z:=
 ⟨by have:=h.EC;simpa using this,Vp _ h.EC,by have:=h.hpid;simpa using this,by rw[Zv _ zu];exact h.map,by have:=h.hbid;simpa using this,by rw[Zv _ gi];exact h.hps,h.hrts,h.ne,h.gq,h.len,hl,.inl hr⟩
def aZ.aaf{S:Nat->Prop}{B l B':List (List AV)}(h:aZ S (B++l) B'):aZ S B B':=
 ⟨by have:=h.1;simp at this;omega,fun j hj hs=>by rw[h.2 j (by simp;omega) hs,Ql hj]⟩
def Ho{bn:List Rt}{ps:List (List Pg)}{i:Nat}{rt:Rt}{l:List Pg}(hl:bn.length=ps.length)(hi:i<ps.length):(jV bn ps).set i (.sl rt (l.map Qo))=jV (bn.set i rt) (ps.set i l):=by
 unfold jV;apply zzci;intro j;rw[zzcv,zzfm,zzfm,zzcv,zzcv,List.length_zipWith];by_cases hj:i=j
 ·subst hj;simp[hl,hi]
 simp[hj]
def aag(Y:YT)(o:Od)(n:Nat)(E:List (Nat×AV))(B:List (List AV))(ls:List Nat)(ms:Nat->LS)(mn:Nat)(md:Nat)(M:Md)(pid aQ:Nat)(bn:List Rt)(bO:Rt)(z:List AV)(n0:Nat)(Q:Exit->AS->Prop)
  (h:iy B md M pid aQ bn bO z)(dG:eH ls bn bO M.os.length)(R7:M.os.length<=900)(eL:n0<B.length)(oO:Qh B n0=Qq o)(e0:Abs.look E 0=.ptr md 0)(e3:Abs.look E 3=.ptr n0 0)(aJ:n0≠md)
  (zu:md≠pid)(gi:md≠aQ)(hrl:∀(i k:Nat),bn[i]?=some (.own k 18)->k<ls.length)
  (hQ:∀E' B' dn cW,Abs.look E' 4=I 0->iy B' md {M with os:=M.os++[(o.sq,o.fr)]} pid aQ bn cW z->aZ (fun j=>j=md\/j=aQ) B B'->(∀(i k l:Nat),bn[i]?=some (.own k 18)->ls[k]?=some l->dn[k]?=some l)->eH dn bn cW (M.os.length+1)->Q .ret ⟨Zi 83 E',⟨B',dn,ms,mn⟩⟩):
  vc Tryz.prog az (jW o n) Y OF ⟨Zi 83 E,⟨B,ls,ms,mn⟩⟩ Q:=by
 have q1:=h.row;have q2:=h.EC;simp only[Qq,Qd,Qg,Qk,zzae,zzai]at oO;obtain⟨rfl,h0⟩|⟨k,rfl,hk,hd⟩:=dG
 ·have he:M.os=[]:=zzav h0;simp[OF];refine Za ?_;simp[e0,e3,q1,q2,oO,jW,he];have e:(M.os++[(o.sq,o.fr)]).map Wt=[Wt (o.sq,o.fr)]:=by rw[he];rfl
  have hM:=h.aae zu gi (M.os++[(o.sq,o.fr)]) (.own ls.length 26) (by simp[he]) (sJ.own _ _)
  have hD:∀i:Nat,bn[i]?≠some (.own ls.length 18):=fun i hi=>by
   have:=hrl i _ hi;omega
  have:=fun E' h4=>hQ E' _ (ls++[1]) (.own ls.length 26) h4 hM ((aZ.refl _ _).set (.inl (.inl rfl)) _) (fun i k l _ hk=>by rw[zzah (zza.1 hk).1];exact hk) (.inr ⟨_,rfl,by simp[he],hD⟩);simp only[e]at this;exact this _ (by simp)
 have qc:∀a∈M.os,(Wt a).length=26:=fun _ _=>rfl;have e:(M.os++[(o.sq,o.fr)]).map Wt=M.os.map Wt++[Wt (o.sq,o.fr)]:=by simp
 have hM:=h.aae zu gi (M.os++[(o.sq,o.fr)]) (.own k 26) (by simp;omega) (sJ.own _ _);have DQ:=(zza.1 hk).1
 have:=fun E' h4=>hQ E' _ (ls.set k (M.os.length+1)) (.own k 26) h4 hM ((aZ.refl _ _).set (.inl (.inl rfl)) _) (fun i k' l hi yU=>by
  have:k≠k':=by rintro rfl;exact hd i hi
  rw[zzbd this];exact yU) (.inr ⟨_,rfl,by simp[DQ],hd⟩)
 simp only[e]at this;simp[OF];refine Za ?_;simp[e0,e3,q1,q2,oO,hk];exact⟨⟨by rintro row (⟨a,b,_,rfl⟩|rfl)<;>rfl,by omega⟩,this _ (by simp)⟩
def ef.lt{ls:List Nat}{bn:List Rt}{ps:List (List Pg)}(h:ef ls bn ps)(hl:bn.length=ps.length):∀(i k:Nat),bn[i]?=some (.own k 18)->k<ls.length:=fun i k hi=>by
 have h1:=(zza.1 hi).1;rcases h.1 i _ _ hi (zzad (by omega))with e|⟨k',e,hk⟩
 ·cases e
 cases e;exact(zza.1 hk).1
def ef.more{ls:List Nat}{bn:List Rt}{ps:List (List Pg)}(h:ef ls bn ps)(hl:bn.length=ps.length){i:Nat}{rt:Rt}{l l':List Pg}(hi:bn[i]?=some rt)(hp:ps[i]?=some l)(ew:l'.length=l.length+1):
  (rt=.full->ef (ls++[l'.length]) (bn.set i (.own ls.length 18)) (ps.set i l'))/\∀k,rt=.own k 18->ef (ls.set k l'.length) bn (ps.set i l'):=by
 have ai:=h.lt hl;have fR:=(zza.1 hi).1;constructor
 ·rintro rfl;refine⟨fun j JH l2 hj EN=>?_,fun a b k ha hb=>?_⟩
  ·rw[zzcv]at hj EN;by_cases eM:i=j
   ·subst eM;rw[if_pos rfl,if_pos fR]at hj;rw[if_pos rfl,if_pos (by omega)]at EN;cases hj;cases EN;exact .inr ⟨_,rfl,by simp⟩
   rw[if_neg eM]at hj EN;rcases h.1 j JH l2 hj EN with e|⟨k,e,hk⟩
   ·exact .inl e
   exact .inr ⟨k,e,by rw[zzah (zza.1 hk).1];exact hk⟩
  rw[zzcv]at ha hb;by_cases e1:i=a
  ·rw[if_pos e1,if_pos fR]at ha;cases ha;by_cases e2:i=b
   ·omega
   rw[if_neg e2]at hb;exact absurd (ai b _ hb) (by omega)
  rw[if_neg e1]at ha;by_cases e2:i=b
  ·rw[if_pos e2,if_pos fR]at hb;cases hb;exact absurd (ai a _ ha) (by omega)
  rw[if_neg e2]at hb;exact h.2 a b k ha hb
 rintro k rfl;refine⟨fun j JH l2 hj EN=>?_,h.2⟩;rw[zzcv]at EN;by_cases eM:i=j
 ·subst eM;rw[hi]at hj;cases hj;simp only[if_true]at EN;split at EN
  ·cases EN;exact .inr ⟨k,rfl,by rw[zzaz (ai i k hi)]⟩
  cases EN
 rw[if_neg eM]at EN;rcases h.1 j JH l2 hj EN with e|⟨k2,e,hk⟩
 ·exact .inl e
 refine .inr ⟨k2,e,?_⟩
 have aJ:k≠k2:=by
  rintro rfl;subst e;exact eM (h.2 i j k hi hj)
 rw[zzbd aJ];exact hk
def iy.ajK{B:List (List AV)}{md:Nat}{M:Md}{pid aQ:Nat}{bn rts':List Rt}{bO:Rt}{z:List AV}(h:iy B md M pid aQ bn bO z)(hbm:aQ≠md)(hbp:aQ≠pid){ps':List (List Pg)}(hl:ps'.length=M.ps.length)(hr:rts'.length=bn.length):
  iy (B.set aQ (jV rts' ps'++z)) md {M with ps:=ps'} pid aQ rts' bO z:=
 ⟨by have:=h.EC;simpa using this,by rw[Zv _ hbm,h.row];simp[hl],by have:=h.hpid;simpa using this,by rw[Zv _ hbp];exact h.map,by have:=h.hbid;simpa using this,Vp _ h.hbid,by rw[hr,h.hrts,hl],
  fun e=>h.ne (zzav (by have:=congrArg List.length e;simp only[zzcf]at this;omega)),fun c j hc=>by have:=h.gq c j hc;simp only[hl];exact this,by simp only[hl];exact h.len,h.los,h.hrto⟩
def iy.nes{B:List (List AV)}{md:Nat}{M:Md}{pid aQ:Nat}{bn:List Rt}{bO:Rt}{z:List AV}(h:iy B md M pid aQ bn bO z):md≠pid/\md≠aQ/\aQ≠pid:=by
 have hps:∃rt l r,Qh B aQ=.sl rt l::r:=by
  rw[h.hps];have h1:=h.hrts;cases hp:M.ps with
  |nil=>exact absurd hp h.ne
  |cons a r=>cases hr:bn with
   |nil=>rw[hp,hr]at h1;simp at h1
   |cons b s=>exact⟨b,a.map Qo,jV s r++z,rfl⟩
 obtain⟨rt,l,r,hps⟩:=hps;refine⟨fun e=>?_,fun e=>?_,fun e=>?_⟩
 ·have:=h.row;rw[e,h.map]at this;simp at this
 ·have:=h.row;rw[e,hps]at this;simp at this
 rw[e,h.map]at hps;simp at hps
def iy.awR{B:List (List AV)}{md:Nat}{M:Md}{pid aQ:Nat}{bn:List Rt}{bO:Rt}{z:List AV}(h:iy B md M pid aQ bn bO z){n0:Nat}{o:Od}(ho:Qh B n0=Qq o):aQ≠n0/\md≠n0:=by
 refine⟨fun e=>?_,fun e=>?_⟩
 ·have h1:=h.hrts;rw[<- e,h.hps]at ho;cases hp:M.ps with
  |nil=>exact absurd hp h.ne
  |cons a r=>cases hr:bn with
   |nil=>rw[hp,hr]at h1;simp at h1
   |cons b s=>rw[hp,hr]at ho;simp[jV,Qq]at ho
 have:=h.row;rw[e,ho]at this;simp[Qq]at this
def eH.grow{ls:List Nat}{bn:List Rt}{bO:Rt}{n i:Nat}(h:eH ls bn bO n)(x:Nat):eH (ls++[x]) (bn.set i (.own ls.length 18)) bO n:=by
 obtain h|⟨k,h1,h2,h3⟩:=h
 ·exact .inl h
 have hk:=(zza.1 h2).1;refine .inr ⟨k,h1,by rw[zzah hk];exact h2,fun j hj=>?_⟩;rw[zzcv]at hj;by_cases e:i=j
 ·rw[if_pos e]at hj;split at hj
  ·cases hj;omega
  cases hj
 rw[if_neg e]at hj;exact h3 j hj
def eH.put{ls:List Nat}{bn:List Rt}{bO:Rt}{n i k:Nat}(h:eH ls bn bO n)(hi:bn[i]?=some (.own k 18))(x:Nat):eH (ls.set k x) bn bO n:=by
 obtain h|⟨k',h1,h2,h3⟩:=h
 ·exact .inl h
 have:k≠k':=by rintro rfl;exact h3 i hi
 exact .inr ⟨k',h1,by rw[zzbd this];exact h2,h3⟩
def af1{ps:List (List Pg)}{i:Nat}{l:List Pg}{f:List Pg->List Pg}(h:ps[i]?=some l):((ps.take i).map f++ps.drop i).set i (f l)=(ps.take (i+1)).map f++ps.drop (i+1)/\((ps.take i).map f++ps.drop i)[i]?=some l/\((ps.take i).map f++ps.drop i).length=ps.length:=by
 have ai:=(zza.1 h).1;have hd:ps.drop i=l::ps.drop (i+1):=by rw[zzaf ai,(zza.1 h).2]
 have qE:((ps.take i).map f).length=i:=by rw[zzbe,zzaq];omega
 refine⟨?_,?_,?_⟩
 ·rw[zzcq _ _ (by omega),qE,zzep,hd,List.set_cons_zero,zzar,h];simp
 ·rw[zzap (by omega),qE,zzep,hd];rfl
 rw[zzag,qE,zzcn];omega
def asP(B0:List (List AV))(M:Md)(o:Od)(md pid aQ:Nat)(bO:Rt)(z:List AV)(n0:Nat)(ms:Nat->LS)(mn:Nat)(s:Nat->AV)(m:AM):Prop:=
 ∃(i:Nat)(B:List (List AV))(ls:List Nat)(bn:List Rt),s 48=I i/\i<=M.ps.length/\m=⟨B,ls,ms,mn⟩/\
  iy B md {M with ps:=(M.ps.take i).map (Yo o M.os.length)++M.ps.drop i} pid aQ bn bO z/\ef ls bn ((M.ps.take i).map (Yo o M.os.length)++M.ps.drop i)/\eH ls bn bO M.os.length/\n0<B.length/\Qh B n0=Qq o/\aZ (fun j=>j=md\/j=aQ) B0 B
def Hp(Y:YT)(o:Od)(E:List (Nat×AV))(B:List (List AV))(ls:List Nat)(ms:Nat->LS)(mn:Nat)(md:Nat)(M:Md)(pid aQ:Nat)(bn:List Rt)(bO:Rt)(z:List AV)(n0:Nat)(Q:Exit->AS->Prop)
  (h:iy B md M pid aQ bn bO z)(hr:ef ls bn M.ps)(dG:eH ls bn bO M.os.length)(R7:M.os.length<=900)(eL:n0<B.length)(oO:Qh B n0=Qq o)
  (hn:∀l∈M.ps,l.length=M.os.length+1)(hap:∀l∈M.ps,∀g,l[M.os.length]?=some g->R2 (dx g) o)
  (e0:Abs.look E 0=.ptr md 0)(e3:Abs.look E 3=.ptr n0 0)(e5:Abs.look E 5=I M.os.length)
  (hQ:∀E' B' dn rts' cW,Abs.look E' 4=I 0->iy B' md {M with ps:=M.ps.map (Yo o M.os.length),os:=M.os++[(o.sq,o.fr)]} pid aQ rts' cW z->aZ (fun j=>j=md\/j=aQ) B B'->ef dn rts' (M.ps.map (Yo o M.os.length))->eH dn rts' cW (M.os.length+1)->Q .ret ⟨Zi 83 E',⟨B',dn,ms,mn⟩⟩):
  vc Tryz.prog az (jW o M.os.length) Y aad ⟨Zi 83 E,⟨B,ls,ms,mn⟩⟩ Q:=by
 have q1:=h.row;have q2:=h.EC;simp[aad,e0,q1];refine Qj Mu (asP B M o md pid aQ bO z n0 ms mn) (fun s _=>M.ps.length-(numOf (s 48)).toNat) ?_ ?_
 ·exact⟨0,B,ls,bn,by simp,by omega,rfl,by simpa using h,by simpa using hr,dG,eL,oO,aZ.refl _ _⟩
 rintro s m ⟨i,B,ls,bn,OG,hi,rfl,h,hr,dG,eL,oO,fq⟩;obtain⟨n1,n2,n3⟩:=h.nes;have h4:=h.awR oO;have am4:=oO;have q1:=h.row;have q2:=h.EC;have q3:=h.hps;have q4:=h.hbid;have gq:((M.ps.take i).map (Yo o M.os.length)++M.ps.drop i).length=M.ps.length:=by rw[zzag,zzbe,zzaq,zzcn];omega
 have q5:=h.len;simp only[gq]at q1 q3 q5;rcases zzaa i M.ps.length with ai|bB
 ·obtain⟨l,hl⟩:=aR ai;obtain⟨p1,p2,p3⟩:=af1 (f:=Yo o M.os.length) hl;obtain⟨rt,aT,zu⟩:=Hg h.hrts p2;have y9:=hn l (zzac hl);obtain⟨g,hg⟩:∃g,l[M.os.length]?=some g:=⟨_,zzad (by omega)⟩;have k37:=Hj g o (hap l (zzac hl) g hg);have W8:dPg [I g.p.ch,I g.p.nu,I g.p.de,I g.p.of,.sl .ro (g.p.sh.map Qe),I g.p.ep,I g.p.rg,I g.p.ln,I g.p.fi,.sl .ro (g.p.aM.map Qm),.sl .ro (g.p.ens.map Qd),.sl .ro (g.p.bks.map Xf),.sl .ro (g.p.cls.map Qg),.sl .ro (g.ev.map Qf),.sl .ro (g.cu.map Qk),I g.ed,.sl .ro (g.dr.map Xa),I g.ve]=dx g:=afZ g;have hnx:Yo o M.os.length l=l++[Zq (dx g) o]:=by unfold Yo;rw[hg];rfl
  have aa:Qh (l.map Qo) M.os.length=Qo g:=Qs (by simp[hg])
  have dX:(Qh B aQ).drop i=.sl rt (l.map Qo)::(Qh B aQ).drop (i+1):=by
   have hg2:(Qh B aQ)[i]?=some (.sl rt (l.map Qo)):=by
    rw[q3,zzah (zza.1 zu).1,zu]
   obtain⟨e1,e2⟩:=zza.1 hg2;rw[zzaf e1,e2]
  have dm:i<(Qh B aQ).length:=by
   rw[q3,zzag];exact zzbb (zza.1 zu).1 (zzgp _ _)
  have ah:(i:Int)<(M.ps.length:Int):=by omega
  have hw:=bJ i (by omega);have qc:∀a∈l,(Qo a).length=18:=fun _ _=>rfl;have hnl:M.os.length<l.length:=by omega
  have asQ:(M.os.length:Int)<(l.length:Int):=by omega
  simp only[Qq,Qd,Qg,Qk,zzae,zzai]at oO;obtain⟨r1,r2⟩:=hr.more h.hrts aT p2 (l':=Yo o M.os.length l) (by rw[hnx];simp);rcases hr.1 i rt l aT p2 with rfl|⟨k,rfl,hk⟩
  ·simp[OG,ah,Mu,dX];refine Za ?_;simp[OG,ah,q1,q4,hw,e0,e3,e5,aa,Qo,Qc,asQ,oO,jW,W8];simp only[Qo,Qc,Qq,Qd,Qg,Qk,zzae,zzai]at k37;have hM:=h.ajK (rts':=bn.set i (.own ls.length 18)) n2.symm n3 (ps':=(M.ps.take (i+1)).map (Yo o M.os.length)++M.ps.drop (i+1)) (by rw[<- p1,zzcg]) (by rw[zzcg])
   have hc:setA (Qh B aQ) i [.sl (.own ls.length 18) (l.map Qo++[Qo (Zq (dx g) o)])]=jV (bn.set i (.own ls.length 18)) ((M.ps.take (i+1)).map (Yo o M.os.length)++M.ps.drop (i+1))++z:=by
    rw[<- p1,<- Ho h.hrts (by simp only[gq];exact ai),q3,hnx];have mU:i<(jV bn ((M.ps.take i).map (Yo o M.os.length)++M.ps.drop i)).length:=(zza.1 zu).1;show(jV bn ((M.ps.take i).map (Yo o M.os.length)++M.ps.drop i)++z).set i _=_;rw[zzfr _ _ mU,zzc];rfl
   have yJ:=r1 rfl;rw[p1,hnx]at yJ;rw[<- hc]at hM;refine⟨k37,⟨?_,by omega⟩,by omega,aN,⟨i+1,_,_,bn.set i (.own ls.length 18),by simp,by omega,rfl,hM,by simpa using yJ,?_,by simp;exact eL,?_,fq.set (.inl (.inr rfl)) _⟩,by omega⟩
   ·rintro row (⟨a,_,rfl⟩|rfl)<;>rfl
   ·simpa using dG.grow _
   rw[Zv _ h4.1];exact am4
  have hM:=h.ajK (rts':=bn) n2.symm n3 (ps':=(M.ps.take (i+1)).map (Yo o M.os.length)++M.ps.drop (i+1)) (by rw[<- p1,zzcg]) rfl
  have hc:setA (Qh B aQ) i [.sl (.own k 18) (l.map Qo++[Qo (Zq (dx g) o)])]=jV bn ((M.ps.take (i+1)).map (Yo o M.os.length)++M.ps.drop (i+1))++z:=by
   have mU:i<(jV bn ((M.ps.take i).map (Yo o M.os.length)++M.ps.drop i)).length:=(zza.1 zu).1
   have yN:bn.set i (.own k 18)=bn:=by
    apply zzci;intro j;rw[zzcv];by_cases e:i=j
    ·subst e;rw[if_pos rfl,if_pos (zza.1 aT).1,aT]
    rw[if_neg e]
   have:=Ho (rt:=.own k 18) (l:=Yo o M.os.length l) h.hrts (i:=i) (by simp only[gq];exact ai);simp only[yN]at this;rw[<- p1,<- this,q3,hnx];show(jV bn ((M.ps.take i).map (Yo o M.os.length)++M.ps.drop i)++z).set i _=_;rw[zzfr _ _ mU,zzc];rfl
  have yJ:=r2 k rfl;rw[p1,hnx]at yJ;rw[<- hc]at hM;simp[OG,ah,Mu,dX];refine Za ?_;simp[OG,ah,q1,q4,hw,e0,e3,e5,aa,Qo,Qc,asQ,oO,jW,W8,hk];simp only[Qo,Qc,Qq,Qd,Qg,Qk,zzae,zzai]at k37;refine⟨k37,⟨?_,by omega⟩,by omega,aN,⟨i+1,_,_,bn,by simp,by omega,rfl,hM,by simpa using yJ,?_,by simp;exact eL,?_,fq.set (.inl (.inr rfl)) _⟩,by omega⟩
  ·rintro row (⟨a,_,rfl⟩|rfl)<;>rfl
  ·simpa using dG.put aT _
  rw[Zv _ h4.1];exact am4
 obtain rfl:i=M.ps.length:=by omega
 have bI:¬(M.ps.length:Int)<(M.ps.length:Int):=by omega
 simp only[zzbm,zzbr,zzat]at h hr;simp[OG,bI,Mu];refine aag Y o M.os.length _ B ls ms mn md _ pid aQ bn bO z n0 Q h dG R7 eL am4 (by simp[e0]) (by simp[e3]) h4.2.symm n1 n2 (hr.lt h.hrts) ?_;intro E' B' dn cW f4 hM' di mU LV
 exact hQ E' B' dn bn cW f4 hM' (fq.trans (di.mono fun j hj=>.inl hj)) ⟨fun j rt l q1 q2=>by
  rcases hr.1 j rt l q1 q2 with e|⟨k,rfl,hk⟩
  ·exact .inl e
  exact .inr ⟨k,rfl,mU j k _ q1 hk⟩,hr.2⟩ LV
def rA(Y:YT)(m:AM)(md:Nat)(M:Md)(pid aQ:Nat)(bn:List Rt)(bO:Rt)(z:List AV)(o:Od)(h:iy m.boxes md M pid aQ bn bO z)(hr:ef m.lens bn M.ps)(dG:eH m.lens bn bO M.os.length)
  (hn:∀l∈M.ps,l.length=M.os.length+1)(hap:∀l∈M.ps,∀g,l[M.os.length]?=some g->Hl M o=false->R2 (dx g) o)(ey:o.nw.al.length<=8796093022208)(R7:M.os.length<=900)(K:AV->AM->Prop)
  (h0:lR M o=none->∀ex,K (I 290) {m with boxes:=m.boxes++ex})
  (h1:∀M',lR M o=some M'->∀B' dn rts' cW,iy B' md M' pid aQ rts' cW z->aZ (fun j=>j=md\/j=aQ) m.boxes B'->ef dn rts' M'.ps->eH dn rts' cW M'.os.length->K (I 0) ⟨B',dn,m.st,m.ln⟩):
  an Tryz.prog az Y 16 [.ptr md 0,.agg (Qq o)] m K:=by
 obtain⟨mb,ml,ms,mn⟩:=m;have q1:=h.row;have q2:=h.EC;have hB:∀ex,iy (mb++ex) md M pid aQ bn bO z:=fun ex=>h.ext ex;have hR:∀ex,Qh (mb++ex) md=[.mp pid,.bs aQ 0 M.ps.length 1,.sl bO (M.os.map Wt)]:=fun ex=>(h.ext ex).row;have ka:=fun ex K hK=>uv Y ⟨mb++ex,ml,ms,mn⟩ md M pid aQ bn bO z (hB ex) K hK;have S9:=sE o ey;simp only[Qq,Qd,Qg,Qk,zzae,zzai]at S9;simp only at q1 q2;have KG:IntKind.i64.wrap ((M.os.length:Int)+1)=(M.os.length:Int)+1:=by rw[Qi]<;>omega
 cases hbad:Hl M o with
 |true=>
  have h0:=h0 (by unfold lR;rw[if_pos hbad]);refine Xd Tc (jW o M.os.length) (by simp) ?_;simp[IC,abr,Qq,Qd,Qg,Qk,jW];refine ka _ _ ?_;simp[hR];unfold Hl at hbad;cases hv:Zb o with
  |false=>
   rw[hv]at S9;simp;exact⟨by simpa using S9,h0 _⟩
  |true=>
   rw[hv]at hbad S9;by_cases hs:o.sq=(M.os.length:Int)+1
   ·cases hx:M.os.getLast? with
    |none=>rw[hx]at hbad;simp[hs]at hbad
    |some x=>
     rw[hx]at hbad;simp[hs]at hbad;have aJ:M.os≠[]:=by intro e;rw[e]at hx;simp at hx
     have eO:0<M.os.length:=zzct.2 aJ;have rY:M.os[M.os.length-1]?=some x:=by rw[<- hx,zzey]
     have aa:Qh (M.os.map Wt) (M.os.length-1)=Wt x:=Qs (by simp[rY]);have eU:IntKind.i64.wrap ((M.os.length:Int)-1)=((M.os.length-1:Nat):Int):=by rw[Qi]<;>omega
     have XL:((M.os.length-1:Nat):Int)<(M.os.length:Int):=by omega
     have amd:M.os.length-1<M.os.length:=by omega
     have hp1:(0:Int)<(M.os.length:Int):=by omega
     simp[hs,KG,eU,aa,XL,eO,Wt,hbad];rw[hs]at S9;refine⟨by simpa using S9,?_⟩;have:=h0 [Qq o];simp[Qq,Qd,Qg,Qk,hs]at this;exact this
   have SV:(o.sq !=(M.os.length:Int)+1)=true:=by simpa using hs
   simp[hs,KG,SV];exact⟨by simpa using S9,h0 _⟩
 |false=>
  have awS:lR M o=some {M with ps:=M.ps.map (Yo o M.os.length),os:=M.os++[(o.sq,o.fr)]}:=by unfold lR;rw[if_neg (by rw[hbad];decide)]
  have h1:=h1 _ awS;have hap:=fun l hl g hg=>hap l hl g hg hbad;have axu:=hbad;unfold Hl at hbad
  have hv:Zb o=true:=by cases hv:Zb o with
   |true=>rfl
   |false=>rw[hv]at hbad;simp at hbad
  rw[hv]at hbad S9;simp only[Bool.not_true,zzhj,zzeq,decide_eq_false_iff_not]at hbad;obtain⟨hs,rY⟩:=hbad;have hs:o.sq=(M.os.length:Int)+1:=by omega
  have SV:(o.sq !=(M.os.length:Int)+1)=false:=by simp[hs]
  have hd:(M.os=[])\/∃x,M.os.getLast?=some x/\¬o.fr<x.2/\0<M.os.length/\Qh (M.os.map Wt) (M.os.length-1)=Wt x:=by
   cases hx:M.os.getLast? with
   |none=>exact .inl (zzgl.1 hx)
   |some x=>
    rw[hx]at rY;have aJ:M.os≠[]:=by intro e;rw[e]at hx;simp at hx
    refine .inr ⟨x,rfl,by simpa using rY,zzct.2 aJ,Qs ?_⟩;have:M.os[M.os.length-1]?=some x:=by rw[<- hx,zzey]
    simp[this]
  refine Xd Tc (jW o M.os.length) (by simp) ?_;rw[af0];simp[asO,Qq,Qd,Qg,Qk,jW];refine ka _ _ ?_;obtain he|⟨x,_,hlx,eO,aa⟩:=hd
  ·have hM0:M.os.length=0:=by rw[he];rfl
   have hp0:¬(0:Int)<(M.os.length:Int):=by omega
   have hp1:¬0<M.os.length:=by omega
   have aJ:∀n:Nat,jW o n=jW o n:=fun _=>rfl;simp[hv,hR,hs,KG,hp1];rw[hs]at S9;refine⟨by simpa using S9,?_⟩;refine Hp Y o _ _ ml ms mn md M pid aQ bn bO z mb.length _ (hB _) hr dG R7 (by simp) (by simp[Qq,Qd,Qg,Qk,hs]) hn hap (by simp) (by simp) (by simp) ?_;intro E' B' dn rts' cW f4 hM fq Af LV;have:=h1 B' dn rts' cW hM (aZ.aaf fq) Af (by simpa using LV);simp[abr,f4];exact this
  have eU:IntKind.i64.wrap ((M.os.length:Int)-1)=((M.os.length-1:Nat):Int):=by rw[Qi]<;>omega
  have XL:((M.os.length-1:Nat):Int)<(M.os.length:Int):=by omega
  have amd:M.os.length-1<M.os.length:=by omega
  have hp1:(0:Int)<(M.os.length:Int):=by omega
  have aJ:¬M.os=[]:=by intro e;rw[e]at eO;simp at eO
  simp[hv,hR,hs,KG,eU,aa,XL,eO,Wt,hlx];rw[hs]at S9;refine⟨by simpa using S9,?_⟩;refine Hp Y o _ _ ml ms mn md M pid aQ bn bO z mb.length _ (hB _) hr dG R7 (by simp) (by simp[Qq,Qd,Qg,Qk,hs]) hn hap (by simp) (by simp) (by simp) ?_;intro E' B' dn rts' cW f4 hM fq Af LV;have:=h1 B' dn rts' cW hM (aZ.aaf fq) Af (by simpa using LV);simp[abr,f4];exact this
end
end Go.Proofs.YtnopaopphmjnmaaGreatDoor
