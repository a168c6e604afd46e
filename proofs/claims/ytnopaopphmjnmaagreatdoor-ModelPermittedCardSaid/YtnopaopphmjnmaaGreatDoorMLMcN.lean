import Derived.Test.YtnopaopphmjnmaaGreatDoorMLMcL
set_option linter.all false
set_option maxRecDepth 100000
set_option maxHeartbeats 64000000
namespace Go.Proofs.YtnopaopphmjnmaaGreatDoor
open Go Go.Abs
def Ww(o:Int×Int):List AV:=[I o.1,I 0,I o.2,I 0,I 0,I 0,I 0,I 0,I 0,I 0,I 0,I 0,.sl .nil [],I 0,I 0,I 0,I 0,I 0,I 0,I 0,I 0,I 0,I 0,I 0,I 0,.str ⟨#[]⟩]
structure Md where
 pl:List (Int×Int)
 ps:List (List Pg)
 os:List (Int×Int)
def j4(bh:List Rt)(ps:List (List Pg)):List AV:=List.zipWith (fun rt l=>AV.sl rt (l.map Qo)) bh ps
def Hs{bh:List Rt}{ps:List (List Pg)}{i:Nat}{l:List Pg}(hl:bh.length=ps.length)(h:ps[i]?=some l):∃rt,bh[i]?=some rt/\(j4 bh ps)[i]?=some (.sl rt (l.map Qo)):=by
 have ai:=(zza.1 h).1;refine⟨bh[i]'(by omega),zzac (by omega),?_⟩;unfold j4;rw[zzfr,h,zzac (by omega)]
structure gm (bx:List (List AV)) (md:Nat) (M:Md) (pid aQ:Nat) (bh:List Rt) (bO:Rt) (z:List AV):Prop where
 Iu:md<bx.length
 row:Qh bx md=[.mp pid,.bs aQ 0 M.ps.length 1,.sl bO (M.os.map Ww)]
 hpid:pid<bx.length
 map:Qh bx pid=[.aJ 0 (bH (AV.int .i64) M.pl)]
 hbid:aQ<bx.length
 hps:Qh bx aQ=j4 bh M.ps++z
 hrts:bh.length=M.ps.length
 ne:M.ps≠[]
 gG:∀c i,af c M.pl=some i->0<=i/\i<M.ps.length
 len:M.ps.length<=40
 los:M.os.length<=1000
 hrto:s5 bO .ro\/(bO=.nil/\M.os=[])
def gm.ext{bx:List (List AV)}{md:Nat}{M:Md}{pid aQ:Nat}{bh:List Rt}{bO:Rt}{z:List AV}(h:gm bx md M pid aQ bh bO z)(ex:List (List AV)):gm (bx++ex) md M pid aQ bh bO z:=
 ⟨by have:=h.Iu;simp;omega,by rw[Ql h.Iu,h.row],by have:=h.hpid;simp;omega,by rw[Ql h.hpid,h.map],by have:=h.hbid;simp;omega,by rw[Ql h.hbid,h.hps],h.hrts,h.ne,h.gG,h.len,h.los,h.hrto⟩
def uV(Y:YT)(m:AM)(md:Nat)(M:Md)(pid aQ:Nat)(bh:List Rt)(bO:Rt)(z:List AV)(h:gm m.boxes md M pid aQ bh bO z)(K:AV->AM->Prop)(hK:K (.bool false) m):an Tryz.prog az Y 39 [.ptr md 0] m K:=by
 obtain⟨mb,ml,ms,mn⟩:=m;have h1:=h.row;have h2:=h.Iu;have aK:¬M.ps.length=0:=fun e=>h.ne (zzav e);have ei:¬M.ps=[]:=h.ne;simp only at h1 h2;refine an.mono (an.read (K:=fun r=>r=.bool false) (Xe akO (fun _ _ _=>.junk) (by simp) ?_)) (by rintro r m' ⟨rfl,rfl⟩;exact hK);simp[aoU,aoV,h1,aK];exact iI
def Je(f:Int)(l:List (Int×Int)):Int:=((l.filter fun o=>decide (o.2<=f)).length:Nat)
def Sq(f:Int)(l:List (Int×Int))(o:Int×Int):Je f (l++[o])=Je f l+if o.2<=f then 1 else 0:=by
 unfold Je;rw[zzcu,zzah];by_cases h:o.2<=f<;>simp[h]
def DI(f:Int)(l:List (Int×Int)):0<=Je f l/\Je f l<=l.length:=by
 unfold Je;have:=zzbr (fun o:Int×Int=>decide (o.2<=f)) l;omega
def atd(l:List (Int×Int))(F:Int)(g:Nat->AV)(m:AM):Prop:=∃(i:Nat)(bx:List (List AV)),g 10=I i/\i<=l.length/\g 5=I (Je F (l.take i))/\m=⟨bx,[],fun _=>.gone,0⟩
def L7(l:List (Int×Int))(f:Int)(hl:l.length<=1000000):Pure Tryz.prog az 41 [.sl .ro (l.map Ww),I f] (I (Je f l)):=by
 refine Qn akQ (fun _ _ _=>.junk) (by simp) ?_;simp[aoW];refine Qi MM (atd l f) (fun g _=>l.length-(numOf (g 10)).toNat) ?_ ?_
 ·exact⟨0,[],by simp,by omega,by simp[Je],rfl⟩
 rintro g m ⟨i,bx,fU,hi,h5,rfl⟩;rcases zzaa i l.length with ai|bu
 ·obtain⟨a,ha⟩:=aS ai;have ah:Qh (l.map Ww) i=Ww a:=Qs (by simp[ha]);have aa:(i:Int)<(l.length:Int):=by omega
  have hw:=bJ i (by omega);have bB:l.take (i+1)=l.take i++[a]:=by rw[zzas,ha];rfl
  have hb:=DI f (l.take i);rw[zzaq]at hb;have ee:IntKind.i64.wrap (Je f (l.take i)+1)=Je f (l.take i)+1:=by rw[Qk]<;>omega
  have mN:=Sq f (l.take i) a;rw[<- bB]at mN;by_cases hf:a.2<=f
  ·rw[if_pos hf]at mN;simp[fU,aa,ah,Ww,MM,hw,hf,h5,ee];refine⟨aO,⟨i+1,_,by simp,by omega,by rw[mN];simp,rfl⟩,by omega⟩
  rw[if_neg hf,Int.add_zero]at mN;simp[fU,aa,ah,Ww,MM,hw,hf,h5];refine⟨aO,⟨i+1,_,by simp,by omega,by rw[mN];simp,rfl⟩,by omega⟩
 have hbf:l.take i=l:=zzap bu;rw[hbf]at h5;have bI:¬(i:Int)<(l.length:Int):=by omega
 simp[fU,bI,MM,aoX,h5]
def qv(f:Int)(l:List (Int×Int)):Int:=((l.filter fun o=>decide (o.2+8<=f)).length:Nat)
def aat(f:Int)(l:List (Int×Int))(o:Int×Int):qv f (l++[o])=qv f l+if o.2+8<=f then 1 else 0:=by
 unfold qv;rw[zzcu,zzah];by_cases h:o.2+8<=f<;>simp[h]
def L8(f:Int)(l:List (Int×Int)):0<=qv f l/\qv f l<=l.length:=by
 unfold qv;have:=zzbr (fun o:Int×Int=>decide (o.2+8<=f)) l;omega
def ate(l:List (Int×Int))(F:Int)(mb:List (List AV))(ml:List Nat)(ms:Nat->LS)(mn:Nat)(g:Nat->AV)(m:AM):Prop:=∃(i:Nat)(bx:List (List AV)),g 16=I i/\i<=l.length/\g 6=I (qv F (l.take i))/\m=⟨mb++bx,ml,ms,mn⟩
def DJ(Y:YT)(m:AM)(md:Nat)(M:Md)(pid aQ:Nat)(bh:List Rt)(bO:Rt)(z:List AV)(f:Int)(h:gm m.boxes md M pid aQ bh bO z)(hf:∀o∈M.os,0<=o.2/\o.2<=1000000000000):
  an Tryz.prog az Y 18 [.ptr md 0,I f] m (fun r m'=>m'=m/\r=.aW [I (qv f M.os),I (Je f M.os)]):=by
 obtain⟨mb,ml,ms,mn⟩:=m;have h1:=h.row;have h2:=h.Iu;have hR:∀ex,Qh (mb++ex) md=[.mp pid,.bs aQ 0 M.ps.length 1,.sl bO (M.os.map Ww)]:=fun ex=>(h.ext ex).row;have hB:∀ex,gm (mb++ex) md M pid aQ bh bO z:=fun ex=>h.ext ex;have ka:=fun ex K hK=>uV Y ⟨mb++ex,ml,ms,mn⟩ md M pid aQ bh bO z (hB ex) K hK;have ka0:=fun K hK=>uV Y ⟨mb,ml,ms,mn⟩ md M pid aQ bh bO z h K hK;have k41:=L7 M.os f (by have:=h.los;omega);have NX:=h.los;simp only at h1 h2;refine an.read (Xe akF (fun _ fn _=>if fn=41 then I (Je f M.os)else .gd false .junk) (by simp) ?_);simp[aoM];refine ka0 _ ?_;simp[h1];refine Qi Eb (ate M.os f mb ml ms mn) (fun g _=>M.os.length-(numOf (g 16)).toNat) ?_ ?_
 ·exact⟨0,[],by simp,by omega,by simp[qv],by simp⟩
 rintro g m ⟨i,bx,KR,hi,h6,rfl⟩;rcases zzaa i M.os.length with ai|bu
 ·obtain⟨a,ha⟩:=aS ai;have ah:Qh (M.os.map Ww) i=Ww a:=Qs (by simp[ha]);have aa:(i:Int)<(M.os.length:Int):=by omega
  have hw:=bJ i (by omega);have bB:M.os.take (i+1)=M.os.take i++[a]:=by rw[zzas,ha];rfl
  have hb:=L8 f (M.os.take i);rw[zzaq]at hb;have ee:IntKind.i64.wrap (qv f (M.os.take i)+1)=qv f (M.os.take i)+1:=by rw[Qk]<;>omega
  have Dl:=hf a (zzad ha);have KY:IntKind.i64.wrap (a.2+8)=a.2+8:=by rw[Qk]<;>omega
  have mN:=aat f (M.os.take i) a;rw[<- bB]at mN;by_cases hff:a.2+8<=f
  ·rw[if_pos hff]at mN;simp[KR,aa,ah,Ww,Eb,hw,hff,h6,ee,KY];refine⟨aO,⟨i+1,_,by simp,by omega,by rw[mN];simp,rfl⟩,by omega⟩
  rw[if_neg hff,Int.add_zero]at mN;simp[KR,aa,ah,Ww,Eb,hw,hff,h6,KY];refine⟨aO,⟨i+1,_,by simp,by omega,by rw[mN];simp,rfl⟩,by omega⟩
 have hbf:M.os.take i=M.os:=zzap bu;rw[hbf]at h6;have bI:¬(i:Int)<(M.os.length:Int):=by omega
 rcases h.hrto with hr|hr
 ·have AA:=fun m d x=>hr m d x;simp[KR,bI,Eb,akE,h6,hR,AA];exact⟨k41,iI⟩
 obtain⟨y6,iu⟩:=hr;subst y6;have atf:=Zt k41 (l:=[.sl .nil (M.os.map Ww),I f]) ⟨Wk.sl _ _,Wk.refl _,trivial⟩;rw[iu]at atf hR h6;rw[iu]at bI;simp[KR,Eb,akE,h6,hR,iu];exact⟨by simpa using atf,iI⟩
def rP(Y:YT)(m:AM)(md:Nat)(M:Md)(pid aQ:Nat)(bh:List Rt)(bO:Rt)(z:List AV)(f:Int)(h:gm m.boxes md M pid aQ bh bO z)(hf:∀o∈M.os,0<=o.2/\o.2<=1000000000000)(K:AV->AM->Prop)
  (hK:K (.aW [I (qv f M.os),I (Je f M.os)]) m):an Tryz.prog az Y 18 [.ptr md 0,I f] m K:=
 an.mono (DJ Y m md M pid aQ bh bO z f h hf) (by rintro r m' ⟨rfl,rfl⟩;exact hK)
def Ka(M:Md)(c:Int):Option (List Pg):=(af c M.pl).bind fun i=>M.ps[i.toNat]?
def Ht(Y:YT)(m:AM)(md:Nat)(M:Md)(pid aQ:Nat)(bh:List Rt)(bO:Rt)(z:List AV)(c:Int)(h:gm m.boxes md M pid aQ bh bO z)(K:AV->AM->Prop)
  (h0:Ka M c=none->K (.sl .nil []) m)(h1:∀l,Ka M c=some l->∀rt,rt∈bh->K (.sl rt (l.map Qo)) m):an Tryz.prog az Y 43 [.ptr md 0,I c] m K:=by
 obtain⟨mb,ml,ms,mn⟩:=m;have q1:=h.row;have q2:=h.Iu;have q3:=h.map;have q4:=h.hps;have q5:=h.hbid;have ka0:=fun K hK=>uV Y ⟨mb,ml,ms,mn⟩ md M pid aQ bh bO z h K hK;simp only at q1 q2 q3 q4 q5;refine Xe akT (fun _ fn _=>.gd false .junk) (by simp) ?_;rcases Xr (AV.int .i64) c M.pl 0 with⟨b1,b2,_⟩|⟨u,u',b1,b2,_⟩
 ·have h0:=h0 (by unfold Ka;rw[b1];rfl);simp[akR];refine ka0 _ ?_;simp[q1,q3,b2,akS];exact h0
 obtain⟨p1,p2⟩:=h.gG c u b1;have ai:u.toNat<M.ps.length:=by omega
 obtain⟨l,hl⟩:∃l,M.ps[u.toNat]?=some l:=⟨_,zzac ai⟩;obtain⟨rt,y6,iu⟩:=Hs h.hrts hl;have h1:=h1 l (by unfold Ka;rw[b1];exact hl) rt (zzad y6)
 have dX:(Qh mb aQ).drop u.toNat=.sl rt (l.map Qo)::(Qh mb aQ).drop (u.toNat+1):=by
  have hg:(Qh mb aQ)[u.toNat]?=some (.sl rt (l.map Qo)):=by
   rw[q4,zzag (zza.1 iu).1,iu]
  obtain⟨e1,e2⟩:=zza.1 hg;rw[zzaf e1,e2]
 have dg:u.toNat<(Qh mb aQ).length:=by
  rw[q4,zzah];have:=(zza.1 iu).1;omega
 simp[akR];refine ka0 _ ?_;simp[q1,q3,b2,akS,p1,p2,dX];exact⟨by omega,h1⟩
open Go Go.Abs
def dI:AV->Int
 |.int _ n=>n
 |_=>0
def dR:AV->List (List AV)
 |.sl _ r=>r
 |_=>[]
def dN(l:List AV)(i:Nat):AV:=l.getD i .junk
def dSp(l:List AV):Sp:=(dI (dN l 0),dI (dN l 1))
def dIt(l:List AV):It:=⟨dI (dN l 0),dI (dN l 1),dI (dN l 2),dI (dN l 3),dI (dN l 4)⟩
def dCl(l:List AV):Cl:=⟨dI (dN l 0),dI (dN l 1),dI (dN l 2),dI (dN l 3),dI (dN l 4),dI (dN l 5),dI (dN l 6),dI (dN l 7)⟩
def dEn(l:List AV):En:=⟨dI (dN l 0),dI (dN l 1),dI (dN l 2),dI (dN l 3),dI (dN l 4),dI (dN l 5),(dR (dN l 6)).map dSp⟩
def dBk(l:List AV):Bk:=⟨dI (dN l 0),dI (dN l 1),dI (dN l 2),dI (dN l 3),dI (dN l 4),dI (dN l 5),dI (dN l 6)⟩
def dPl(l:List AV):Pl:=⟨dI (dN l 0),dI (dN l 1),dI (dN l 2),dI (dN l 3),(dR (dN l 4)).map dSp,dI (dN l 5),dI (dN l 6),dI (dN l 7),dI (dN l 8),(dR (dN l 9)).map dIt,(dR (dN l 10)).map dEn,(dR (dN l 11)).map dBk,(dR (dN l 12)).map dCl⟩
def Qdy{α:Type}{f:α->List AV}{g:List AV->α}(h:∀a,g (f a)=a)(l:List α):(l.map f).map g=l:=by
 rw[zzcy]
 conv=>rhs;rw[<- List.map_id l]
 exact zzd fun a _=>h a
theorem DK(s:Sp):dSp (Qe s)=s:=rfl
def OT(e:En):dEn (Qd e)=e:=by
 show(⟨e.id,e.it,e.fr,e.ea,e.la,e.bo,(e.al.map Qe).map dSp⟩:En)=e;rw[Qdy DK]
def DL(p:Pl):dPl (Qb p)=p:=by
 show(⟨p.ch,p.nu,p.de,p.of,(p.sh.map Qe).map dSp,p.ep,p.rg,p.ln,p.fi,(p.aL.map Qm).map dIt,(p.ens.map Qd).map dEn,(p.bks.map Xg).map dBk,(p.cls.map Qg).map dCl⟩:Pl)=p;rw[Qdy DK,Qdy (fun _=>rfl),Qdy OT,Qdy (fun _=>rfl),Qdy (fun _=>rfl)]
structure agk (p:Pl):Prop where
 pl:Bo p
 ln:p.ln<=1000000
 ea:∀e∈p.ens,e.ea<=9223372036854775807
 l:∀l,IV p=some l->l.length<=1000000/\∀s∈l,-1000000000<=s.2/\s.2<=1000000000
def zV(p:Pl):AV:=.aW [.agg (Qo (Js p)),.sl .ro ((Hr p).map Qy),I (uU p)]
def Sr(p:Pl)(h:agk p):Pure Tryz.prog az 31 [.agg (Qb p)] (zV p):=L6 p h.pl h.ln h.ea h.l
def me:Nat->List Pl->Md->Option Md
 |_,[],M=>some M
 |i,p::r,M=>if(af p.ch M.pl).isSome=true\/uU p≠0 then none else me (i+1) r {M with pl:=Zq p.ch (i:Int) M.pl,ps:=M.ps++[[Js p]]}
def md0:Md:=⟨[],[],[]⟩
def mg(ps:List Pl):Option Md:=if ps.length<1\/40<ps.length then none else me 0 ps md0
def Bz:Nat->FuncId->List AV->AV:=fun d fn l=>if fn=31 then(match l with
 |[.agg cs]=>zV (dPl cs)
 |_=>.junk)else if fn=999999 then(if d=66 then .aJ 0 []else .junk)else .junk
def Hu(n:Nat):List Rt:=List.replicate n .full
def psF(ps:List (List Pg)):List AV:=ps.map fun l=>.sl .full (l.map Qo)
def Ss(ps:List (List Pg)):j4 (Hu ps.length) ps=psF ps:=by
 induction ps with
 |nil=>rfl
 |cons a r ih=>
  simp only[j4,Hu,psF,zzbb,zzf,List.zipWith_cons_cons,zzaz]at ih |-
  rw[ih]
def NwV(n0:Nat)(bx:List (List AV))(ps:List (List Pg))(V:AV):Prop:=(ps=[]/\V=.sl .nil [])\/(ps≠[]/\∃k,V=.bs (n0+(k+2)) 0 ps.length 1/\k<bx.length/\Qh bx k=psF ps)
def atg(ps:List Pl)(mb:List (List AV))(ml:List Nat)(ms:Nat->LS)(mn:Nat)(s:Nat->AV)(m:AM):Prop:=
 ∃(i:Nat)(M:Md)(V:AV)(bx:List (List AV)),s 25=I i/\i<=ps.length/\M.ps.length=i/\M.os=[]/\me i (ps.drop i) M=me 0 ps md0/\NwV mb.length bx M.ps V/\(∀c j,af c M.pl=some j->0<=j/\j<M.ps.length)/\
  m=⟨mb++([.aJ 0 (bH (AV.int .i64) M.pl)]::[.mp mb.length,V,.sl .nil []]::bx),ml,ms,mn⟩
def DM(Y:YT)(m:AM)(ps:List Pl)(hps:ps.length<=1000000)(h:∀p∈ps,agk p)(K:AV->AM->Prop)
  (h0:mg ps=none->∀ex,K (.aW [.nilv true,I 290]) {m with boxes:=m.boxes++ex})
  (h1:∀M,mg ps=some M->∀ex md pid aQ z,m.boxes.length<=md/\m.boxes.length<=aQ->gm (m.boxes++ex) md M pid aQ (Hu M.ps.length) .nil z->K (.aW [.ptr md 0,I 0]) {m with boxes:=m.boxes++ex}):
  an Tryz.prog az Y 13 [.sl .ro (ps.map Qb)] m K:=by
 obtain⟨mb,ml,ms,mn⟩:=m;refine Xe akB Bz (by simp) ?_;by_cases dZ:ps.length<1
 ·have h0:=fun ex=>h0 (by unfold mg;rw[if_pos (.inl dZ)]) ex;have FI:(ps.length:Int)<1:=by omega
  simp[TB,FI,Py];have:=h0 [];simpa using this
 by_cases AT:40<ps.length
 ·have h0:=fun ex=>h0 (by unfold mg;rw[if_pos (.inr AT)]) ex;have FI:¬(ps.length:Int)<1:=by omega
  have anp:(40:Int)<ps.length:=by omega
  simp[TB,FI,anp,Py];have:=h0 [];simpa using this
 have Fb:mg ps=me 0 ps md0:=by unfold mg;rw[if_neg (by omega)]
 rw[Fb]at h0 h1;have FI:¬(ps.length:Int)<1:=by omega
 have anp:¬(40:Int)<ps.length:=by omega
 simp[TB,FI,anp];refine Qi Ab (atg ps mb ml ms mn) (fun s _=>ps.length-(numOf (s 25)).toNat) ?_ ?_
 ·exact⟨0,md0,.sl .nil [],[],by simp,by omega,rfl,rfl,rfl,.inl ⟨rfl,rfl⟩,(fun c j h=>by cases h),by simp[md0]⟩
 rintro s m ⟨i,M,V,bx,h25,hi,hMi,hMo,gQ,hV,gG,rfl⟩
 have hc:Qv V=true:=by
  rcases hV with⟨_,rfl⟩|⟨_,k,rfl,_⟩<;>rfl
 rcases zzaa i ps.length with ai|bu
 ·obtain⟨p,hp⟩:=aS ai;have ah:Qh (ps.map Qb) i=Qb p:=Qs (by simp[hp]);have aa:(i:Int)<(ps.length:Int):=by omega
  have hw:=bJ i (by omega);have hd:ps.drop i=p::ps.drop (i+1):=by rw[zzaf ai,(zza.1 hp).2]
  have Rj:=Sr p (h p (zzad hp));have FC:dPl [I p.ch,I p.nu,I p.de,I p.of,.sl .ro (p.sh.map Qe),I p.ep,I p.rg,I p.ln,I p.fi,.sl .ro (p.aL.map Qm),.sl .ro (p.ens.map Qd),.sl .ro (p.bks.map Xg),.sl .ro (p.cls.map Qg)]=p:=DL p;simp only[Qb]at Rj;rw[hd,me]at gQ;rcases Xr (AV.int .i64) p.ch M.pl 0 with⟨b1,b2,b3,b4⟩|⟨u,u',b1,b2,_⟩
  ·by_cases he:uU p=0
   ·rw[if_neg (by simp[b1,he])]at gQ;have hb4:=b4 (i:Int);have IA:IntKind.i64.wrap ((i:Int)+1)=(i:Int)+1:=by rw[Qk]<;>omega
    have ath:∀(c j:Int),af c (Zq p.ch (i:Int) M.pl)=some j->0<=j/\j<((M.ps++[[Js p]]).length:Nat):=fun c j hc=>by
     rw[zzah,zzdz];rw[Yc]at hc;split at hc
     ·cases hc;omega
     have:=gG c j hc;omega
    obtain⟨hV0,rfl⟩|⟨hV0,k,rfl,hk,hr⟩:=hV
    ·simp[h25,aa,ah,Qb,Ab,Bz,FC,zV,Qo,he,b2];simp only[zV,Qo,Qb,zzae,zzai,he]at Rj;refine⟨Rj,Xu ?_⟩;simp[h25,Bz,zzan,IA,hb4];refine⟨aO,⟨i+1,{M with pl:=Zq p.ch (i:Int) M.pl,ps:=M.ps++[[Js p]]},_,_,by simp,by omega,by simp[hMi],hMo,gQ,.inr ⟨by simp,bx.length+2,by simp[hV0],by simp,?_⟩,ath,rfl⟩,by omega⟩
     ·simp[hV0,psF,Qo,Qb]
    simp[h25,aa,ah,Qb,Ab,Bz,FC,zV,Qo,he,b2];simp only[zV,Qo,Qb,zzae,zzai,he]at Rj;refine⟨Rj,Xu ?_⟩;have hR:∀ex,Qh (bx++ex) k=psF M.ps:=fun ex=>by rw[Ql hk,hr]
    have ati:(psF M.ps).length=M.ps.length:=by simp[psF]
    have aak:¬psF M.ps=[]:=fun h=>hV0 (zzav (by rw[<- ati,h];rfl));have dw:k<bx.length+2:=by omega
    have bB:(psF M.ps).take M.ps.length=psF M.ps:=zzap (by omega);simp[h25,zzan,hk,hR,IA,hb4,ati,aak,dw,bB];refine⟨by omega,aO,⟨i+1,{M with pl:=Zq p.ch (i:Int) M.pl,ps:=M.ps++[[Js p]]},_,_,by simp,by omega,by simp[hMi],hMo,gQ,.inr ⟨by simp,bx.length+2,by simp,by simp,?_⟩,ath,rfl⟩,by omega⟩
    ·rw[lH];simp[psF,Qo,Qb]
   rw[if_pos (.inr he)]at gQ;have h0:=h0 gQ.symm;simp[h25,aa,ah,Qb,Ab,Bz,FC,zV,Qo,he,b2,Py];simp only[zV,Qo,Qb,zzae,zzai]at Rj;exact⟨Rj,h0 _⟩
  rw[if_pos (.inl (by rw[b1];rfl))]at gQ;have h0:=h0 gQ.symm;simp[h25,aa,ah,Qb,Ab,Bz,FC,zV,Qo,b2,Py];simp only[zV,Qo,Qb,zzae,zzai]at Rj;exact⟨Rj,h0 _⟩
 obtain rfl:i=ps.length:=by omega
 have bI:¬(ps.length:Int)<(ps.length:Int):=by omega
 rw[zzbo,me]at gQ;have hM0:M.ps≠[]:=fun h=>by rw[h]at hMi;simp at hMi;omega
 obtain⟨hV0,_⟩|⟨_,k,rfl,hk,hr⟩:=hV
 ·exact absurd hV0 hM0
 have h1:=fun ex z hB=>h1 M gQ.symm ex (mb.length+1) mb.length (mb.length+(k+2)) z ⟨by simp,by simp⟩ hB;simp[h25,bI,Ab,Py];refine h1 _ [] ⟨by simp,by simp[hMo],by simp,by simp,by simp;omega,?_,by simp[Hu],hM0,gG,by omega,by simp[hMo],.inr ⟨rfl,hMo⟩⟩;rw[Ss];simp[hr]
end Go.Proofs.YtnopaopphmjnmaaGreatDoor
