import Derived.Test.YtnopaopphmjnmaaGreatDoorMEMcL
set_option linter.all false
set_option maxRecDepth 100000
set_option maxHeartbeats 64000000
namespace Go.Proofs.YtnopaopphmjnmaaGreatDoor
open Go Go.Abs
def tq(o:Int×Int):List AV:=[I o.1,I 0,I o.2,I 0,I 0,I 0,I 0,I 0,I 0,I 0,I 0,I 0,.sl .nil [],I 0,I 0,I 0,I 0,I 0,I 0,I 0,I 0,I 0,I 0,I 0,I 0,.str ⟨#[]⟩]
structure Md where
 pl:List (Int×Int)
 ps:List (List Pg)
 os:List (Int×Int)
def kH(bn:List Rt)(ps:List (List Pg)):List AV:=List.zipWith (fun rt l=>AV.sl rt (l.map Qo)) bn ps
def HC{bn:List Rt}{ps:List (List Pg)}{i:Nat}{l:List Pg}(hl:bn.length=ps.length)(h:ps[i]?=some l):∃rt,bn[i]?=some rt/\(kH bn ps)[i]?=some (.sl rt (l.map Qo)):=by
 have ai:=(zza.1 h).1;refine⟨bn[i]'(by omega),zzad (by omega),?_⟩;unfold kH;rw[zzfo,h,zzad (by omega)]
structure gA (bx:List (List AV)) (md:Nat) (M:Md) (pid aQ:Nat) (bn:List Rt) (bQ:Rt) (z:List AV):Prop where
 IB:md<bx.length
 row:Qh bx md=[.mp pid,.bs aQ 0 M.ps.length 1,.sl bQ (M.os.map tq)]
 hpid:pid<bx.length
 map:Qh bx pid=[.aJ 0 (bH (AV.int .i64) M.pl)]
 hbid:aQ<bx.length
 hps:Qh bx aQ=kH bn M.ps++z
 hrts:bn.length=M.ps.length
 ne:M.ps≠[]
 gK:∀c i,af c M.pl=some i->0<=i/\i<M.ps.length
 len:M.ps.length<=40
 los:M.os.length<=1000
 hrto:th bQ .ro\/(bQ=.nil/\M.os=[])
def gA.ext{bx:List (List AV)}{md:Nat}{M:Md}{pid aQ:Nat}{bn:List Rt}{bQ:Rt}{z:List AV}(h:gA bx md M pid aQ bn bQ z)(ex:List (List AV)):gA (bx++ex) md M pid aQ bn bQ z:=
 ⟨by have:=h.IB;simp;omega,by rw[Ql h.IB,h.row],by have:=h.hpid;simp;omega,by rw[Ql h.hpid,h.map],by have:=h.hbid;simp;omega,by rw[Ql h.hbid,h.hps],h.hrts,h.ne,h.gK,h.len,h.los,h.hrto⟩
def uZ(Y:YT)(m:AM)(md:Nat)(M:Md)(pid aQ:Nat)(bn:List Rt)(bQ:Rt)(z:List AV)(h:gA m.boxes md M pid aQ bn bQ z)(K:AV->AM->Prop)(hK:K (.bool false) m):an Tryz.prog az Y 39 [.ptr md 0] m K:=by
 obtain⟨mb,ml,ms,mn⟩:=m;have h1:=h.row;have h2:=h.IB;have aK:¬M.ps.length=0:=fun e=>h.ne (zzav e);have eC:¬M.ps=[]:=h.ne;simp only at h1 h2;refine an.mono (an.read (K:=fun r=>r=.bool false) (Xe akO (fun _ _ _=>.junk) (by simp) ?_)) (by rintro r m' ⟨rfl,rfl⟩;exact hK);simp[ao1,ao2,h1,aK];exact lJ
def Vw(f:Int)(l:List (Int×Int)):Int:=((l.filter fun o=>decide (o.2<=f)).length:Nat)
def Sv(f:Int)(l:List (Int×Int))(o:Int×Int):Vw f (l++[o])=Vw f l+if o.2<=f then 1 else 0:=by
 unfold Vw;rw[zzcr,zzah];by_cases h:o.2<=f<;>simp[h]
def DK(f:Int)(l:List (Int×Int)):0<=Vw f l/\Vw f l<=l.length:=by
 unfold Vw;have:=zzbr (fun o:Int×Int=>decide (o.2<=f)) l;omega
def atj(l:List (Int×Int))(F:Int)(g:Nat->AV)(m:AM):Prop:=∃(i:Nat)(bx:List (List AV)),g 10=I i/\i<=l.length/\g 5=I (Vw F (l.take i))/\m=⟨bx,[],fun _=>.gone,0⟩
def Mn(l:List (Int×Int))(f:Int)(hl:l.length<=1000000):Pure Tryz.prog az 41 [.sl .ro (l.map tq),I f] (I (Vw f l)):=by
 refine Qn akQ (fun _ _ _=>.junk) (by simp) ?_;simp[ao3];refine Qj MZ (atj l f) (fun g _=>l.length-(numOf (g 10)).toNat) ?_ ?_
 ·exact⟨0,[],by simp,by omega,by simp[Vw],rfl⟩
 rintro g m ⟨i,bx,gi,hi,h5,rfl⟩;rcases zzaa i l.length with ai|bu
 ·obtain⟨a,ha⟩:=aR ai;have ah:Qh (l.map tq) i=tq a:=Qs (by simp[ha]);have aa:(i:Int)<(l.length:Int):=by omega
  have hw:=bK i (by omega);have bB:l.take (i+1)=l.take i++[a]:=by rw[zzas,ha];rfl
  have hb:=DK f (l.take i);rw[zzaq]at hb;have dG:IntKind.i64.wrap (Vw f (l.take i)+1)=Vw f (l.take i)+1:=by rw[Qk]<;>omega
  have mQ:=Sv f (l.take i) a;rw[<- bB]at mQ;by_cases hf:a.2<=f
  ·rw[if_pos hf]at mQ;simp[gi,aa,ah,tq,MZ,hw,hf,h5,dG];refine⟨aO,⟨i+1,_,by simp,by omega,by rw[mQ];simp,rfl⟩,by omega⟩
  rw[if_neg hf,Int.add_zero]at mQ;simp[gi,aa,ah,tq,MZ,hw,hf,h5];refine⟨aO,⟨i+1,_,by simp,by omega,by rw[mQ];simp,rfl⟩,by omega⟩
 have hbf:l.take i=l:=zzap bu;rw[hbf]at h5;have bJ:¬(i:Int)<(l.length:Int):=by omega
 simp[gi,bJ,MZ,ao4,h5]
def fA(f:Int)(l:List (Int×Int)):Int:=((l.filter fun o=>decide (o.2+8<=f)).length:Nat)
def aap(f:Int)(l:List (Int×Int))(o:Int×Int):fA f (l++[o])=fA f l+if o.2+8<=f then 1 else 0:=by
 unfold fA;rw[zzcr,zzah];by_cases h:o.2+8<=f<;>simp[h]
def Mo(f:Int)(l:List (Int×Int)):0<=fA f l/\fA f l<=l.length:=by
 unfold fA;have:=zzbr (fun o:Int×Int=>decide (o.2+8<=f)) l;omega
def atk(l:List (Int×Int))(F:Int)(mb:List (List AV))(ml:List Nat)(ms:Nat->LS)(mn:Nat)(g:Nat->AV)(m:AM):Prop:=∃(i:Nat)(bx:List (List AV)),g 16=I i/\i<=l.length/\g 6=I (fA F (l.take i))/\m=⟨mb++bx,ml,ms,mn⟩
def DL(Y:YT)(m:AM)(md:Nat)(M:Md)(pid aQ:Nat)(bn:List Rt)(bQ:Rt)(z:List AV)(f:Int)(h:gA m.boxes md M pid aQ bn bQ z)(hf:∀o∈M.os,0<=o.2/\o.2<=1000000000000):
  an Tryz.prog az Y 18 [.ptr md 0,I f] m (fun r m'=>m'=m/\r=.aW [I (fA f M.os),I (Vw f M.os)]):=by
 obtain⟨mb,ml,ms,mn⟩:=m;have h1:=h.row;have h2:=h.IB;have hR:∀ex,Qh (mb++ex) md=[.mp pid,.bs aQ 0 M.ps.length 1,.sl bQ (M.os.map tq)]:=fun ex=>(h.ext ex).row;have hB:∀ex,gA (mb++ex) md M pid aQ bn bQ z:=fun ex=>h.ext ex;have ka:=fun ex K hK=>uZ Y ⟨mb++ex,ml,ms,mn⟩ md M pid aQ bn bQ z (hB ex) K hK;have ka0:=fun K hK=>uZ Y ⟨mb,ml,ms,mn⟩ md M pid aQ bn bQ z h K hK;have k41:=Mn M.os f (by have:=h.los;omega);have Oa:=h.los;simp only at h1 h2;refine an.read (Xe akD (fun _ fn _=>if fn=41 then I (Vw f M.os)else .gd false .junk) (by simp) ?_);simp[aoS];refine ka0 _ ?_;simp[h1];refine Qj Eg (atk M.os f mb ml ms mn) (fun g _=>M.os.length-(numOf (g 16)).toNat) ?_ ?_
 ·exact⟨0,[],by simp,by omega,by simp[fA],by simp⟩
 rintro g m ⟨i,bx,K4,hi,h6,rfl⟩;rcases zzaa i M.os.length with ai|bu
 ·obtain⟨a,ha⟩:=aR ai;have ah:Qh (M.os.map tq) i=tq a:=Qs (by simp[ha]);have aa:(i:Int)<(M.os.length:Int):=by omega
  have hw:=bK i (by omega);have bB:M.os.take (i+1)=M.os.take i++[a]:=by rw[zzas,ha];rfl
  have hb:=Mo f (M.os.take i);rw[zzaq]at hb;have dG:IntKind.i64.wrap (fA f (M.os.take i)+1)=fA f (M.os.take i)+1:=by rw[Qk]<;>omega
  have Dl:=hf a (zzac ha);have Lb:IntKind.i64.wrap (a.2+8)=a.2+8:=by rw[Qk]<;>omega
  have mQ:=aap f (M.os.take i) a;rw[<- bB]at mQ;by_cases hff:a.2+8<=f
  ·rw[if_pos hff]at mQ;simp[K4,aa,ah,tq,Eg,hw,hff,h6,dG,Lb];refine⟨aO,⟨i+1,_,by simp,by omega,by rw[mQ];simp,rfl⟩,by omega⟩
  rw[if_neg hff,Int.add_zero]at mQ;simp[K4,aa,ah,tq,Eg,hw,hff,h6,Lb];refine⟨aO,⟨i+1,_,by simp,by omega,by rw[mQ];simp,rfl⟩,by omega⟩
 have hbf:M.os.take i=M.os:=zzap bu;rw[hbf]at h6;have bJ:¬(i:Int)<(M.os.length:Int):=by omega
 rcases h.hrto with hr|hr
 ·have AD:=fun m d x=>hr m d x;simp[K4,bJ,Eg,akC,h6,hR,AD];exact⟨k41,lJ⟩
 obtain⟨ze,iz⟩:=hr;subst ze;have atl:=Zu k41 (l:=[.sl .nil (M.os.map tq),I f]) ⟨Wk.sl _ _,Wk.refl _,trivial⟩;rw[iz]at atl hR h6;rw[iz]at bJ;simp[K4,Eg,akC,h6,hR,iz];exact⟨by simpa using atl,lJ⟩
def Kw(Y:YT)(m:AM)(md:Nat)(M:Md)(pid aQ:Nat)(bn:List Rt)(bQ:Rt)(z:List AV)(f:Int)(h:gA m.boxes md M pid aQ bn bQ z)(hf:∀o∈M.os,0<=o.2/\o.2<=1000000000000)(K:AV->AM->Prop)
  (hK:K (.aW [I (fA f M.os),I (Vw f M.os)]) m):an Tryz.prog az Y 18 [.ptr md 0,I f] m K:=
 an.mono (DL Y m md M pid aQ bn bQ z f h hf) (by rintro r m' ⟨rfl,rfl⟩;exact hK)
def O8(M:Md)(c:Int):Option (List Pg):=(af c M.pl).bind fun i=>M.ps[i.toNat]?
def HD(Y:YT)(m:AM)(md:Nat)(M:Md)(pid aQ:Nat)(bn:List Rt)(bQ:Rt)(z:List AV)(c:Int)(h:gA m.boxes md M pid aQ bn bQ z)(K:AV->AM->Prop)
  (h0:O8 M c=none->K (.sl .nil []) m)(h1:∀l,O8 M c=some l->∀rt,rt∈bn->K (.sl rt (l.map Qo)) m):an Tryz.prog az Y 43 [.ptr md 0,I c] m K:=by
 obtain⟨mb,ml,ms,mn⟩:=m;have q1:=h.row;have q2:=h.IB;have q3:=h.map;have q4:=h.hps;have q5:=h.hbid;have ka0:=fun K hK=>uZ Y ⟨mb,ml,ms,mn⟩ md M pid aQ bn bQ z h K hK;simp only at q1 q2 q3 q4 q5;refine Xe akT (fun _ fn _=>.gd false .junk) (by simp) ?_;rcases Xq (AV.int .i64) c M.pl 0 with⟨b1,b2,_⟩|⟨u,u',b1,b2,_⟩
 ·have h0:=h0 (by unfold O8;rw[b1];rfl);simp[akR];refine ka0 _ ?_;simp[q1,q3,b2,akS];exact h0
 obtain⟨p1,p2⟩:=h.gK c u b1;have ai:u.toNat<M.ps.length:=by omega
 obtain⟨l,hl⟩:∃l,M.ps[u.toNat]?=some l:=⟨_,zzad ai⟩;obtain⟨rt,ze,iz⟩:=HC h.hrts hl;have h1:=h1 l (by unfold O8;rw[b1];exact hl) rt (zzac ze)
 have ei:(Qh mb aQ).drop u.toNat=.sl rt (l.map Qo)::(Qh mb aQ).drop (u.toNat+1):=by
  have hg:(Qh mb aQ)[u.toNat]?=some (.sl rt (l.map Qo)):=by
   rw[q4,zzag (zza.1 iz).1,iz]
  obtain⟨e1,e2⟩:=zza.1 hg;rw[zzaf e1,e2]
 have cS:u.toNat<(Qh mb aQ).length:=by
  rw[q4,zzah];have:=(zza.1 iz).1;omega
 simp[akR];refine ka0 _ ?_;simp[q1,q3,b2,akS,p1,p2,ei];exact⟨by omega,h1⟩
open Go Go.Abs
def dI:AV->Int
 |.int _ n=>n
 |_=>0
def dR:AV->List (List AV)
 |.sl _ r=>r
 |_=>[]
def dN(l:List AV)(i:Nat):AV:=l.getD i .junk
def dSp(l:List AV):Sp:=(dI (dN l 0),dI (dN l 1))
def dIt(l:List AV):It:=⟨dI (dN l 0),dI (dN l 1),dI (dN l 2),dI (dN l 3),dI (dN l 4)⟩
def dCl(l:List AV):Cl:=⟨dI (dN l 0),dI (dN l 1),dI (dN l 2),dI (dN l 3),dI (dN l 4),dI (dN l 5),dI (dN l 6),dI (dN l 7)⟩
def dEn(l:List AV):En:=⟨dI (dN l 0),dI (dN l 1),dI (dN l 2),dI (dN l 3),dI (dN l 4),dI (dN l 5),(dR (dN l 6)).map dSp⟩
def dBk(l:List AV):Bk:=⟨dI (dN l 0),dI (dN l 1),dI (dN l 2),dI (dN l 3),dI (dN l 4),dI (dN l 5),dI (dN l 6)⟩
def dPl(l:List AV):Pl:=⟨dI (dN l 0),dI (dN l 1),dI (dN l 2),dI (dN l 3),(dR (dN l 4)).map dSp,dI (dN l 5),dI (dN l 6),dI (dN l 7),dI (dN l 8),(dR (dN l 9)).map dIt,(dR (dN l 10)).map dEn,(dR (dN l 11)).map dBk,(dR (dN l 12)).map dCl⟩
def Qei{α:Type}{f:α->List AV}{g:List AV->α}(h:∀a,g (f a)=a)(l:List α):(l.map f).map g=l:=by
 rw[zzcz]
 conv=>rhs;rw[<- List.map_id l]
 exact zzda fun a _=>h a
theorem DM(s:Sp):dSp (Qe s)=s:=rfl
def O9(e:En):dEn (Qd e)=e:=by
 show(⟨e.id,e.it,e.fr,e.ea,e.la,e.bo,(e.al.map Qe).map dSp⟩:En)=e;rw[Qei DM]
def Pb(p:Pl):dPl (Qc p)=p:=by
 show(⟨p.ch,p.nu,p.de,p.of,(p.sh.map Qe).map dSp,p.ep,p.rg,p.ln,p.fi,(p.aM.map Qm).map dIt,(p.ens.map Qd).map dEn,(p.bks.map Xh).map dBk,(p.cls.map Qg).map dCl⟩:Pl)=p;rw[Qei DM,Qei (fun _=>rfl),Qei O9,Qei (fun _=>rfl),Qei (fun _=>rfl)]
structure agj (p:Pl):Prop where
 pl:Bn p
 ln:p.ln<=1000000
 ea:∀e∈p.ens,e.ea<=9223372036854775807
 l:∀l,I2 p=some l->l.length<=1000000/\∀s∈l,-1000000000<=s.2/\s.2<=1000000000
def zY(p:Pl):AV:=.aW [.agg (Qo (iJ p)),.sl .ro ((HB p).map Qy),I (kz p)]
def Sw(p:Pl)(h:agj p):Pure Tryz.prog az 31 [.agg (Qc p)] (zY p):=Mm p h.pl h.ln h.ea h.l
def uq:Nat->List Pl->Md->Option Md
 |_,[],M=>some M
 |i,p::r,M=>if(af p.ch M.pl).isSome=true\/kz p≠0 then none else uq (i+1) r {M with pl:=Vb p.ch (i:Int) M.pl,ps:=M.ps++[[iJ p]]}
def md0:Md:=⟨[],[],[]⟩
def mw(ps:List Pl):Option Md:=if ps.length<1\/40<ps.length then none else uq 0 ps md0
def Bx:Nat->FuncId->List AV->AV:=fun d fn l=>if fn=31 then(match l with
 |[.agg cs]=>zY (dPl cs)
 |_=>.junk)else if fn=999999 then(if d=66 then .aJ 0 []else .junk)else .junk
def HE(n:Nat):List Rt:=List.replicate n .full
def psF(ps:List (List Pg)):List AV:=ps.map fun l=>.sl .full (l.map Qo)
def Sx(ps:List (List Pg)):kH (HE ps.length) ps=psF ps:=by
 induction ps with
 |nil=>rfl
 |cons a r ih=>
  simp only[kH,HE,psF,zzba,zzf,List.zipWith_cons_cons,zzay]at ih |-
  rw[ih]
def NwV(n0:Nat)(bx:List (List AV))(ps:List (List Pg))(V:AV):Prop:=(ps=[]/\V=.sl .nil [])\/(ps≠[]/\∃k,V=.bs (n0+(k+2)) 0 ps.length 1/\k<bx.length/\Qh bx k=psF ps)
def atm(ps:List Pl)(mb:List (List AV))(ml:List Nat)(ms:Nat->LS)(mn:Nat)(s:Nat->AV)(m:AM):Prop:=
 ∃(i:Nat)(M:Md)(V:AV)(bx:List (List AV)),s 25=I i/\i<=ps.length/\M.ps.length=i/\M.os=[]/\uq i (ps.drop i) M=uq 0 ps md0/\NwV mb.length bx M.ps V/\(∀c j,af c M.pl=some j->0<=j/\j<M.ps.length)/\
  m=⟨mb++([.aJ 0 (bH (AV.int .i64) M.pl)]::[.mp mb.length,V,.sl .nil []]::bx),ml,ms,mn⟩
def DN(Y:YT)(m:AM)(ps:List Pl)(hps:ps.length<=1000000)(h:∀p∈ps,agj p)(K:AV->AM->Prop)
  (h0:mw ps=none->∀ex,K (.aW [.nilv true,I 290]) {m with boxes:=m.boxes++ex})
  (h1:∀M,mw ps=some M->∀ex md pid aQ z,m.boxes.length<=md/\m.boxes.length<=aQ->gA (m.boxes++ex) md M pid aQ (HE M.ps.length) .nil z->K (.aW [.ptr md 0,I 0]) {m with boxes:=m.boxes++ex}):
  an Tryz.prog az Y 13 [.sl .ro (ps.map Qc)] m K:=by
 obtain⟨mb,ml,ms,mn⟩:=m;refine Xe akz Bx (by simp) ?_;by_cases ew:ps.length<1
 ·have h0:=fun ex=>h0 (by unfold mw;rw[if_pos (.inl ew)]) ex;have FQ:(ps.length:Int)<1:=by omega
  simp[Ty,FQ,PL];have:=h0 [];simpa using this
 by_cases AW:40<ps.length
 ·have h0:=fun ex=>h0 (by unfold mw;rw[if_pos (.inr AW)]) ex;have FQ:¬(ps.length:Int)<1:=by omega
  have anr:(40:Int)<ps.length:=by omega
  simp[Ty,FQ,anr,PL];have:=h0 [];simpa using this
 have Fl:mw ps=uq 0 ps md0:=by unfold mw;rw[if_neg (by omega)]
 rw[Fl]at h0 h1;have FQ:¬(ps.length:Int)<1:=by omega
 have anr:¬(40:Int)<ps.length:=by omega
 simp[Ty,FQ,anr];refine Qj Ae (atm ps mb ml ms mn) (fun s _=>ps.length-(numOf (s 25)).toNat) ?_ ?_
 ·exact⟨0,md0,.sl .nil [],[],by simp,by omega,rfl,rfl,rfl,.inl ⟨rfl,rfl⟩,(fun c j h=>by cases h),by simp[md0]⟩
 rintro s m ⟨i,M,V,bx,h25,hi,hMi,hMo,gU,hV,gK,rfl⟩
 have hc:Qv V=true:=by
  rcases hV with⟨_,rfl⟩|⟨_,k,rfl,_⟩<;>rfl
 rcases zzaa i ps.length with ai|bu
 ·obtain⟨p,hp⟩:=aR ai;have ah:Qh (ps.map Qc) i=Qc p:=Qs (by simp[hp]);have aa:(i:Int)<(ps.length:Int):=by omega
  have hw:=bK i (by omega);have hd:ps.drop i=p::ps.drop (i+1):=by rw[zzaf ai,(zza.1 hp).2]
  have Rm:=Sw p (h p (zzac hp));have XT:dPl [I p.ch,I p.nu,I p.de,I p.of,.sl .ro (p.sh.map Qe),I p.ep,I p.rg,I p.ln,I p.fi,.sl .ro (p.aM.map Qm),.sl .ro (p.ens.map Qd),.sl .ro (p.bks.map Xh),.sl .ro (p.cls.map Qg)]=p:=Pb p;simp only[Qc]at Rm;rw[hd,uq]at gU;rcases Xq (AV.int .i64) p.ch M.pl 0 with⟨b1,b2,b3,b4⟩|⟨u,u',b1,b2,_⟩
  ·by_cases he:kz p=0
   ·rw[if_neg (by simp[b1,he])]at gU;have hb4:=b4 (i:Int);have IJ:IntKind.i64.wrap ((i:Int)+1)=(i:Int)+1:=by rw[Qk]<;>omega
    have atn:∀(c j:Int),af c (Vb p.ch (i:Int) M.pl)=some j->0<=j/\j<((M.ps++[[iJ p]]).length:Nat):=fun c j hc=>by
     rw[zzah,zze];rw[Uo]at hc;split at hc
     ·cases hc;omega
     have:=gK c j hc;omega
    obtain⟨hV0,rfl⟩|⟨hV0,k,rfl,hk,hr⟩:=hV
    ·simp[h25,aa,ah,Qc,Ae,Bx,XT,zY,Qo,he,b2];simp only[zY,Qo,Qc,zzae,zzaj,he]at Rm;refine⟨Rm,Xy ?_⟩;simp[h25,Bx,zzam,IJ,hb4];refine⟨aO,⟨i+1,{M with pl:=Vb p.ch (i:Int) M.pl,ps:=M.ps++[[iJ p]]},_,_,by simp,by omega,by simp[hMi],hMo,gU,.inr ⟨by simp,bx.length+2,by simp[hV0],by simp,?_⟩,atn,rfl⟩,by omega⟩
     ·simp[hV0,psF,Qo,Qc]
    simp[h25,aa,ah,Qc,Ae,Bx,XT,zY,Qo,he,b2];simp only[zY,Qo,Qc,zzae,zzaj,he]at Rm;refine⟨Rm,Xy ?_⟩;have hR:∀ex,Qh (bx++ex) k=psF M.ps:=fun ex=>by rw[Ql hk,hr]
    have ato:(psF M.ps).length=M.ps.length:=by simp[psF]
    have aag:¬psF M.ps=[]:=fun h=>hV0 (zzav (by rw[<- ato,h];rfl));have cV:k<bx.length+2:=by omega
    have bB:(psF M.ps).take M.ps.length=psF M.ps:=zzap (by omega);simp[h25,zzam,hk,hR,IJ,hb4,ato,aag,cV,bB];refine⟨by omega,aO,⟨i+1,{M with pl:=Vb p.ch (i:Int) M.pl,ps:=M.ps++[[iJ p]]},_,_,by simp,by omega,by simp[hMi],hMo,gU,.inr ⟨by simp,bx.length+2,by simp,by simp,?_⟩,atn,rfl⟩,by omega⟩
    ·rw[lN];simp[psF,Qo,Qc]
   rw[if_pos (.inr he)]at gU;have h0:=h0 gU.symm;simp[h25,aa,ah,Qc,Ae,Bx,XT,zY,Qo,he,b2,PL];simp only[zY,Qo,Qc,zzae,zzaj]at Rm;exact⟨Rm,h0 _⟩
  rw[if_pos (.inl (by rw[b1];rfl))]at gU;have h0:=h0 gU.symm;simp[h25,aa,ah,Qc,Ae,Bx,XT,zY,Qo,b2,PL];simp only[zY,Qo,Qc,zzae,zzaj]at Rm;exact⟨Rm,h0 _⟩
 obtain rfl:i=ps.length:=by omega
 have bJ:¬(ps.length:Int)<(ps.length:Int):=by omega
 rw[zzbo,uq]at gU;have hM0:M.ps≠[]:=fun h=>by rw[h]at hMi;simp at hMi;omega
 obtain⟨hV0,_⟩|⟨_,k,rfl,hk,hr⟩:=hV
 ·exact absurd hV0 hM0
 have h1:=fun ex z hB=>h1 M gU.symm ex (mb.length+1) mb.length (mb.length+(k+2)) z ⟨by simp,by simp⟩ hB;simp[h25,bJ,Ae,PL];refine h1 _ [] ⟨by simp,by simp[hMo],by simp,by simp,by simp;omega,?_,by simp[HE],hM0,gK,by omega,by simp[hMo],.inr ⟨rfl,hMo⟩⟩;rw[Sx];simp[hr]
end Go.Proofs.YtnopaopphmjnmaaGreatDoor
