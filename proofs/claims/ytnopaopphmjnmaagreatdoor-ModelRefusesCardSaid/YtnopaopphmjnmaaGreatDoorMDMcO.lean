import Derived.Test.YtnopaopphmjnmaaGreatDoorMDMcL
set_option linter.all false
set_option maxRecDepth 100000
set_option maxHeartbeats 64000000
namespace Go.Proofs.YtnopaopphmjnmaaGreatDoor
noncomputable section
open Go Go.Abs
def Wu(o:Int×Int):List AV:=[I o.1,I 0,I o.2,I 0,I 0,I 0,I 0,I 0,I 0,I 0,I 0,I 0,.sl .nil [],I 0,I 0,I 0,I 0,I 0,I 0,I 0,I 0,I 0,I 0,I 0,I 0,.str ⟨#[]⟩]
structure Md where
 pl:List (Int×Int)
 ps:List (List Pg)
 os:List (Int×Int)
def jY(bh:List Rt)(ps:List (List Pg)):List AV:=List.zipWith (fun rt l=>AV.sl rt (l.map Qo)) bh ps
def Hv{bh:List Rt}{ps:List (List Pg)}{i:Nat}{l:List Pg}(hl:bh.length=ps.length)(h:ps[i]?=some l):∃rt,bh[i]?=some rt/\(jY bh ps)[i]?=some (.sl rt (l.map Qo)):=by
 have ai:=(zza.1 h).1;refine⟨bh[i]'(by omega),zzad (by omega),?_⟩;unfold jY;rw[zzfk,h,zzad (by omega)]
structure ic (bx:List (List AV)) (md:Nat) (M:Md) (pid aQ:Nat) (bh:List Rt) (bO:Rt) (z:List AV):Prop where
 ER:md<bx.length
 row:Qh bx md=[.mp pid,.bs aQ 0 M.ps.length 1,.sl bO (M.os.map Wu)]
 hpid:pid<bx.length
 map:Qh bx pid=[.aK 0 (bI (AV.int .i64) M.pl)]
 hbid:aQ<bx.length
 hps:Qh bx aQ=jY bh M.ps++z
 hrts:bh.length=M.ps.length
 ne:M.ps≠[]
 gC:∀c i,af c M.pl=some i->0<=i/\i<M.ps.length
 len:M.ps.length<=40
 los:M.os.length<=1000
 hrto:sX bO .ro\/(bO=.nil/\M.os=[])
def ic.ext{bx:List (List AV)}{md:Nat}{M:Md}{pid aQ:Nat}{bh:List Rt}{bO:Rt}{z:List AV}(h:ic bx md M pid aQ bh bO z)(ex:List (List AV)):ic (bx++ex) md M pid aQ bh bO z:=
 ⟨by have:=h.ER;simp;omega,by rw[Ql h.ER,h.row],by have:=h.hpid;simp;omega,by rw[Ql h.hpid,h.map],by have:=h.hbid;simp;omega,by rw[Ql h.hbid,h.hps],h.hrts,h.ne,h.gC,h.len,h.los,h.hrto⟩
def DB:Pure Tryz.prog aq 39 [.nilv true] (.bool true):=by
 refine Qn TK (fun _ _ _=>.junk) (by simp) ?_;simp[aly,alz]
def uJ(Y:YT)(m:AM)(md:Nat)(M:Md)(pid aQ:Nat)(bh:List Rt)(bO:Rt)(z:List AV)(h:ic m.boxes md M pid aQ bh bO z)(K:AV->AM->Prop)(hK:K (.bool false) m):an Tryz.prog aq Y 39 [.ptr md 0] m K:=by
 obtain⟨mb,ml,ms,mn⟩:=m;have h1:=h.row;have h2:=h.ER;have aJ:¬M.ps.length=0:=fun e=>h.ne (zzav e);have eu:¬M.ps=[]:=h.ne;simp only at h1 h2;refine an.mono (an.read (K:=fun r=>r=.bool false) (Xe TK (fun _ _ _=>.junk) (by simp) ?_)) (by rintro r m' ⟨rfl,rfl⟩;exact hK);simp[aly,alz,h1,aJ];exact lq
def tZ(f:Int)(l:List (Int×Int)):Int:=((l.filter fun o=>decide (o.2<=f)).length:Nat)
def Sq(f:Int)(l:List (Int×Int))(o:Int×Int):tZ f (l++[o])=tZ f l+if o.2<=f then 1 else 0:=by
 unfold tZ;rw[zzcr,zzai];by_cases h:o.2<=f<;>simp[h]
def DC(f:Int)(l:List (Int×Int)):0<=tZ f l/\tZ f l<=l.length:=by
 unfold tZ;have:=zzbs (fun o:Int×Int=>decide (o.2<=f)) l;omega
def auf(l:List (Int×Int))(F:Int)(g:Nat->AV)(m:AM):Prop:=∃(i:Nat)(bx:List (List AV)),g 10=I i/\i<=l.length/\g 5=I (tZ F (l.take i))/\m=⟨bx,[],fun _=>.gone,0⟩
def Mi(l:List (Int×Int))(f:Int)(hl:l.length<=1000000):Pure Tryz.prog aq 41 [.sl .ro (l.map Wu),I f] (I (tZ f l)):=by
 refine Qn alB (fun _ _ _=>.junk) (by simp) ?_;simp[apQ];refine Qi MR (auf l f) (fun g _=>l.length-(numOf (g 10)).toNat) ?_ ?_
 ·exact⟨0,[],by simp,by omega,by simp[tZ],rfl⟩
 rintro g m ⟨i,bx,kS,hi,h5,rfl⟩;rcases zzaa i l.length with ai|bw
 ·obtain⟨a,ha⟩:=aP ai;have aa:Qh (l.map Wu) i=Wu a:=Qr (by simp[ha]);have ah:(i:Int)<(l.length:Int):=by omega
  have hw:=bH i (by omega);have bA:l.take (i+1)=l.take i++[a]:=by rw[zzar,ha];rfl
  have hb:=DC f (l.take i);rw[zzaq]at hb;have eC:IntKind.i64.wrap (tZ f (l.take i)+1)=tZ f (l.take i)+1:=by rw[Qk]<;>omega
  have mD:=Sq f (l.take i) a;rw[<- bA]at mD;by_cases hf:a.2<=f
  ·rw[if_pos hf]at mD;simp[kS,ah,aa,Wu,MR,hw,hf,h5,eC];refine⟨aN,⟨i+1,_,by simp,by omega,by rw[mD];simp,rfl⟩,by omega⟩
  rw[if_neg hf,Int.add_zero]at mD;simp[kS,ah,aa,Wu,MR,hw,hf,h5];refine⟨aN,⟨i+1,_,by simp,by omega,by rw[mD];simp,rfl⟩,by omega⟩
 have hbf:l.take i=l:=zzam bw;rw[hbf]at h5;have bJ:¬(i:Int)<(l.length:Int):=by omega
 simp[kS,bJ,MR,apR,h5]
def yt(f:Int)(l:List (Int×Int)):Int:=((l.filter fun o=>decide (o.2+8<=f)).length:Nat)
def aaG(f:Int)(l:List (Int×Int))(o:Int×Int):yt f (l++[o])=yt f l+if o.2+8<=f then 1 else 0:=by
 unfold yt;rw[zzcr,zzai];by_cases h:o.2+8<=f<;>simp[h]
def Mj(f:Int)(l:List (Int×Int)):0<=yt f l/\yt f l<=l.length:=by
 unfold yt;have:=zzbs (fun o:Int×Int=>decide (o.2+8<=f)) l;omega
def aug(l:List (Int×Int))(F:Int)(mb:List (List AV))(ml:List Nat)(ms:Nat->LS)(mn:Nat)(g:Nat->AV)(m:AM):Prop:=∃(i:Nat)(bx:List (List AV)),g 16=I i/\i<=l.length/\g 6=I (yt F (l.take i))/\m=⟨mb++bx,ml,ms,mn⟩
def Sr(f:Int):Pure Tryz.prog aq 18 [.nilv true,I f] (.aU [I 0,I 0]):=by
 refine Qn TC (fun _ _ _=>.bool true) (by simp) ?_;simp[alj,abY];exact DB
def DD(Y:YT)(m:AM)(md:Nat)(M:Md)(pid aQ:Nat)(bh:List Rt)(bO:Rt)(z:List AV)(f:Int)(h:ic m.boxes md M pid aQ bh bO z)(hf:∀o∈M.os,0<=o.2/\o.2<=1000000000000):
  an Tryz.prog aq Y 18 [.ptr md 0,I f] m (fun r m'=>m'=m/\r=.aU [I (yt f M.os),I (tZ f M.os)]):=by
 obtain⟨mb,ml,ms,mn⟩:=m;have h1:=h.row;have h2:=h.ER;have hR:∀ex,Qh (mb++ex) md=[.mp pid,.bs aQ 0 M.ps.length 1,.sl bO (M.os.map Wu)]:=fun ex=>(h.ext ex).row;have hB:∀ex,ic (mb++ex) md M pid aQ bh bO z:=fun ex=>h.ext ex;have ka:=fun ex K hK=>uJ Y ⟨mb++ex,ml,ms,mn⟩ md M pid aQ bh bO z (hB ex) K hK;have ka0:=fun K hK=>uJ Y ⟨mb,ml,ms,mn⟩ md M pid aQ bh bO z h K hK;have k41:=Mi M.os f (by have:=h.los;omega);have N3:=h.los;simp only at h1 h2;refine an.read (Xe TC (fun _ fn _=>if fn=41 then I (tZ f M.os)else .gd false .junk) (by simp) ?_);simp[alj];refine ka0 _ ?_;simp[h1];refine Qi Ec (aug M.os f mb ml ms mn) (fun g _=>M.os.length-(numOf (g 16)).toNat) ?_ ?_
 ·exact⟨0,[],by simp,by omega,by simp[yt],by simp⟩
 rintro g m ⟨i,bx,zu,hi,h6,rfl⟩;rcases zzaa i M.os.length with ai|bw
 ·obtain⟨a,ha⟩:=aP ai;have aa:Qh (M.os.map Wu) i=Wu a:=Qr (by simp[ha]);have ah:(i:Int)<(M.os.length:Int):=by omega
  have hw:=bH i (by omega);have bA:M.os.take (i+1)=M.os.take i++[a]:=by rw[zzar,ha];rfl
  have hb:=Mj f (M.os.take i);rw[zzaq]at hb;have eC:IntKind.i64.wrap (yt f (M.os.take i)+1)=yt f (M.os.take i)+1:=by rw[Qk]<;>omega
  have Dc:=hf a (zzac ha);have K3:IntKind.i64.wrap (a.2+8)=a.2+8:=by rw[Qk]<;>omega
  have mD:=aaG f (M.os.take i) a;rw[<- bA]at mD;by_cases hff:a.2+8<=f
  ·rw[if_pos hff]at mD;simp[zu,ah,aa,Wu,Ec,hw,hff,h6,eC,K3];refine⟨aN,⟨i+1,_,by simp,by omega,by rw[mD];simp,rfl⟩,by omega⟩
  rw[if_neg hff,Int.add_zero]at mD;simp[zu,ah,aa,Wu,Ec,hw,hff,h6,K3];refine⟨aN,⟨i+1,_,by simp,by omega,by rw[mD];simp,rfl⟩,by omega⟩
 have hbf:M.os.take i=M.os:=zzam bw;rw[hbf]at h6;have bJ:¬(i:Int)<(M.os.length:Int):=by omega
 rcases h.hrto with hr|hr
 ·have Aq:=fun m d x=>hr m d x;simp[zu,bJ,Ec,abY,h6,hR,Aq];exact⟨k41,lq⟩
 obtain⟨yS,iw⟩:=hr;subst yS;have auh:=Zj k41 (l:=[.sl .nil (M.os.map Wu),I f]) ⟨Wk.sl _ _,Wk.refl _,trivial⟩;rw[iw]at auh hR h6;rw[iw]at bJ;simp[zu,Ec,abY,h6,hR,iw];exact⟨by simpa using auh,lq⟩
def rM(Y:YT)(m:AM)(md:Nat)(M:Md)(pid aQ:Nat)(bh:List Rt)(bO:Rt)(z:List AV)(f:Int)(h:ic m.boxes md M pid aQ bh bO z)(hf:∀o∈M.os,0<=o.2/\o.2<=1000000000000)(K:AV->AM->Prop)
  (hK:K (.aU [I (yt f M.os),I (tZ f M.os)]) m):an Tryz.prog aq Y 18 [.ptr md 0,I f] m K:=
 an.mono (DD Y m md M pid aQ bh bO z f h hf) (by rintro r m' ⟨rfl,rfl⟩;exact hK)
def Hw(M:Md)(c:Int):Option (List Pg):=(af c M.pl).bind fun i=>M.ps[i.toNat]?
def Hy(Y:YT)(m:AM)(md:Nat)(M:Md)(pid aQ:Nat)(bh:List Rt)(bO:Rt)(z:List AV)(c:Int)(h:ic m.boxes md M pid aQ bh bO z)(K:AV->AM->Prop)
  (h0:Hw M c=none->K (.sl .nil []) m)(h1:∀l,Hw M c=some l->∀rt,rt∈bh->K (.sl rt (l.map Qo)) m):an Tryz.prog aq Y 43 [.ptr md 0,I c] m K:=by
 obtain⟨mb,ml,ms,mn⟩:=m;have q1:=h.row;have q2:=h.ER;have q3:=h.map;have q4:=h.hps;have q5:=h.hbid;have ka0:=fun K hK=>uJ Y ⟨mb,ml,ms,mn⟩ md M pid aQ bh bO z h K hK;simp only at q1 q2 q3 q4 q5;refine Xe TL (fun _ fn _=>.gd false .junk) (by simp) ?_;rcases Xp (AV.int .i64) c M.pl 0 with⟨b1,b2,_⟩|⟨u,u',b1,b2,_⟩
 ·have h0:=h0 (by unfold Hw;rw[b1];rfl);simp[ab2];refine ka0 _ ?_;simp[q1,q3,b2,ab3];exact h0
 obtain⟨p1,p2⟩:=h.gC c u b1;have ai:u.toNat<M.ps.length:=by omega
 obtain⟨l,hl⟩:∃l,M.ps[u.toNat]?=some l:=⟨_,zzad ai⟩;obtain⟨rt,yS,iw⟩:=Hv h.hrts hl;have h1:=h1 l (by unfold Hw;rw[b1];exact hl) rt (zzac yS)
 have dZ:(Qh mb aQ).drop u.toNat=.sl rt (l.map Qo)::(Qh mb aQ).drop (u.toNat+1):=by
  have hg:(Qh mb aQ)[u.toNat]?=some (.sl rt (l.map Qo)):=by
   rw[q4,zzag (zza.1 iw).1,iw]
  obtain⟨e1,e2⟩:=zza.1 hg;rw[zzaf e1,e2]
 have dx:u.toNat<(Qh mb aQ).length:=by
  rw[q4,zzai];have:=(zza.1 iw).1;omega
 simp[ab2];refine ka0 _ ?_;simp[q1,q3,b2,ab3,p1,p2,dZ];exact⟨by omega,h1⟩
open Go Go.Abs
def dI:AV->Int
 |.int _ n=>n
 |_=>0
def dR:AV->List (List AV)
 |.sl _ r=>r
 |_=>[]
def dN(l:List AV)(i:Nat):AV:=l.getD i .junk
def dSp(l:List AV):Sp:=(dI (dN l 0),dI (dN l 1))
def dIt(l:List AV):It:=⟨dI (dN l 0),dI (dN l 1),dI (dN l 2),dI (dN l 3),dI (dN l 4)⟩
def dCl(l:List AV):Cl:=⟨dI (dN l 0),dI (dN l 1),dI (dN l 2),dI (dN l 3),dI (dN l 4),dI (dN l 5),dI (dN l 6),dI (dN l 7)⟩
def dEn(l:List AV):En:=⟨dI (dN l 0),dI (dN l 1),dI (dN l 2),dI (dN l 3),dI (dN l 4),dI (dN l 5),(dR (dN l 6)).map dSp⟩
def dBk(l:List AV):Bk:=⟨dI (dN l 0),dI (dN l 1),dI (dN l 2),dI (dN l 3),dI (dN l 4),dI (dN l 5),dI (dN l 6)⟩
def dPl(l:List AV):Pl:=⟨dI (dN l 0),dI (dN l 1),dI (dN l 2),dI (dN l 3),(dR (dN l 4)).map dSp,dI (dN l 5),dI (dN l 6),dI (dN l 7),dI (dN l 8),(dR (dN l 9)).map dIt,(dR (dN l 10)).map dEn,(dR (dN l 11)).map dBk,(dR (dN l 12)).map dCl⟩
def Qdq{α:Type}{f:α->List AV}{g:List AV->α}(h:∀a,g (f a)=a)(l:List α):(l.map f).map g=l:=by
 rw[zzct]
 conv=>rhs;rw[<- List.map_id l]
 exact zzdd fun a _=>h a
theorem DE(s:Sp):dSp (Qe s)=s:=rfl
def O1(e:En):dEn (Qd e)=e:=by
 show(⟨e.id,e.it,e.fr,e.ea,e.la,e.bo,(e.al.map Qe).map dSp⟩:En)=e;rw[Qdq DE]
def uK(p:Pl):dPl (Qc p)=p:=by
 show(⟨p.ch,p.nu,p.de,p.of,(p.sh.map Qe).map dSp,p.ep,p.rg,p.ln,p.fi,(p.aL.map Qm).map dIt,(p.ens.map Qd).map dEn,(p.bks.map Xa).map dBk,(p.cls.map Qg).map dCl⟩:Pl)=p;rw[Qdq DE,Qdq (fun _=>rfl),Qdq O1,Qdq (fun _=>rfl),Qdq (fun _=>rfl)]
structure agI (p:Pl):Prop where
 pl:Bh p
 ln:p.ln<=1000000
 ea:∀e∈p.ens,e.ea<=9223372036854775807
 l:∀l,Ht p=some l->l.length<=1000000/\∀s∈l,-1000000000<=s.2/\s.2<=1000000000
def lT(p:Pl):AV:=.aU [.agg (Qo (yq p)),.sl .ro ((Hu p).map Qy),I (Jz p)]
def rN(p:Pl)(h:agI p):Pure Tryz.prog aq 31 [.agg (Qc p)] (lT p):=Mh p h.pl h.ln h.ea h.l
def jZ:Nat->List Pl->Md->Option Md
 |_,[],M=>some M
 |i,p::r,M=>if(af p.ch M.pl).isSome=true\/Jz p≠0 then none else jZ (i+1) r {M with pl:=Zt p.ch (i:Int) M.pl,ps:=M.ps++[[yq p]]}
def md0:Md:=⟨[],[],[]⟩
def Bs(ps:List Pl):Option Md:=if ps.length<1\/40<ps.length then none else jZ 0 ps md0
def Bt:Nat->FuncId->List AV->AV:=fun d fn l=>if fn=31 then(match l with
 |[.agg cs]=>lT (dPl cs)
 |_=>.junk)else if fn=999999 then(if d=66 then .aK 0 []else .junk)else .junk
def Bu(n:Nat):List Rt:=List.replicate n .full
def psF(ps:List (List Pg)):List AV:=ps.map fun l=>.sl .full (l.map Qo)
def Ss(ps:List (List Pg)):jY (Bu ps.length) ps=psF ps:=by
 induction ps with
 |nil=>rfl
 |cons a r ih=>
  simp only[jY,Bu,psF,zzbd,zzew,List.zipWith_cons_cons,zzay]at ih |-
  rw[ih]
def NwV(n0:Nat)(bx:List (List AV))(ps:List (List Pg))(V:AV):Prop:=(ps=[]/\V=.sl .nil [])\/(ps≠[]/\∃k,V=.bs (n0+(k+2)) 0 ps.length 1/\k<bx.length/\Qh bx k=psF ps)
def aui(ps:List Pl)(mb:List (List AV))(ml:List Nat)(ms:Nat->LS)(mn:Nat)(s:Nat->AV)(m:AM):Prop:=
 ∃(i:Nat)(M:Md)(V:AV)(bx:List (List AV)),s 25=I i/\i<=ps.length/\M.ps.length=i/\M.os=[]/\jZ i (ps.drop i) M=jZ 0 ps md0/\NwV mb.length bx M.ps V/\(∀c j,af c M.pl=some j->0<=j/\j<M.ps.length)/\
  m=⟨mb++([.aK 0 (bI (AV.int .i64) M.pl)]::[.mp mb.length,V,.sl .nil []]::bx),ml,ms,mn⟩
def p7(Y:YT)(m:AM)(ps:List Pl)(hps:ps.length<=1000000)(h:∀p∈ps,agI p)(K:AV->AM->Prop)
  (h0:Bs ps=none->∀ex,K (.aU [.nilv true,I 290]) {m with boxes:=m.boxes++ex})
  (h1:∀M,Bs ps=some M->∀ex md pid aQ z,m.boxes.length<=md/\m.boxes.length<=aQ->ic (m.boxes++ex) md M pid aQ (Bu M.ps.length) .nil z->K (.aU [.ptr md 0,I 0]) {m with boxes:=m.boxes++ex}):
  an Tryz.prog aq Y 13 [.sl .ro (ps.map Qc)] m K:=by
 obtain⟨mb,ml,ms,mn⟩:=m;refine Xe alg Bt (by simp) ?_;by_cases ef:ps.length<1
 ·have h0:=fun ex=>h0 (by unfold Bs;rw[if_pos (.inl ef)]) ex;have FJ:(ps.length:Int)<1:=by omega
  simp[TA,FJ,PG];have:=h0 [];simpa using this
 by_cases AN:40<ps.length
 ·have h0:=fun ex=>h0 (by unfold Bs;rw[if_pos (.inr AN)]) ex;have FJ:¬(ps.length:Int)<1:=by omega
  have aof:(40:Int)<ps.length:=by omega
  simp[TA,FJ,aof,PG];have:=h0 [];simpa using this
 have qP:Bs ps=jZ 0 ps md0:=by unfold Bs;rw[if_neg (by omega)]
 rw[qP]at h0 h1;have FJ:¬(ps.length:Int)<1:=by omega
 have aof:¬(40:Int)<ps.length:=by omega
 simp[TA,FJ,aof];refine Qi zV (aui ps mb ml ms mn) (fun s _=>ps.length-(numOf (s 25)).toNat) ?_ ?_
 ·exact⟨0,md0,.sl .nil [],[],by simp,by omega,rfl,rfl,rfl,.inl ⟨rfl,rfl⟩,(fun c j h=>by cases h),by simp[md0]⟩
 rintro s m ⟨i,M,V,bx,h25,hi,hMi,hMo,gM,hV,gC,rfl⟩
 have hc:Qv V=true:=by
  rcases hV with⟨_,rfl⟩|⟨_,k,rfl,_⟩<;>rfl
 rcases zzaa i ps.length with ai|bw
 ·obtain⟨p,hp⟩:=aP ai;have aa:Qh (ps.map Qc) i=Qc p:=Qr (by simp[hp]);have ah:(i:Int)<(ps.length:Int):=by omega
  have hw:=bH i (by omega);have hd:ps.drop i=p::ps.drop (i+1):=by rw[zzaf ai,(zza.1 hp).2]
  have CY:=rN p (h p (zzac hp));have KQ:dPl [I p.ch,I p.nu,I p.de,I p.of,.sl .ro (p.sh.map Qe),I p.ep,I p.rg,I p.ln,I p.fi,.sl .ro (p.aL.map Qm),.sl .ro (p.ens.map Qd),.sl .ro (p.bks.map Xa),.sl .ro (p.cls.map Qg)]=p:=uK p;simp only[Qc]at CY;rw[hd,jZ]at gM;rcases Xp (AV.int .i64) p.ch M.pl 0 with⟨b1,b2,b3,b4⟩|⟨u,u',b1,b2,_⟩
  ·by_cases he:Jz p=0
   ·rw[if_neg (by simp[b1,he])]at gM;have hb4:=b4 (i:Int);have Iu:IntKind.i64.wrap ((i:Int)+1)=(i:Int)+1:=by rw[Qk]<;>omega
    have auj:∀(c j:Int),af c (Zt p.ch (i:Int) M.pl)=some j->0<=j/\j<((M.ps++[[yq p]]).length:Nat):=fun c j hc=>by
     rw[zzai,zzdx];rw[Vq]at hc;split at hc
     ·cases hc;omega
     have:=gC c j hc;omega
    obtain⟨hV0,rfl⟩|⟨hV0,k,rfl,hk,hr⟩:=hV
    ·simp[h25,ah,aa,Qc,zV,Bt,KQ,lT,Qo,he,b2];simp only[lT,Qo,Qc,zzae,zzah,he]at CY;refine⟨CY,Xz ?_⟩;simp[h25,Bt,zzao,Iu,hb4];refine⟨aN,⟨i+1,{M with pl:=Zt p.ch (i:Int) M.pl,ps:=M.ps++[[yq p]]},_,_,by simp,by omega,by simp[hMi],hMo,gM,.inr ⟨by simp,bx.length+2,by simp[hV0],by simp,?_⟩,auj,rfl⟩,by omega⟩
     ·simp[hV0,psF,Qo,Qc]
    simp[h25,ah,aa,Qc,zV,Bt,KQ,lT,Qo,he,b2];simp only[lT,Qo,Qc,zzae,zzah,he]at CY;refine⟨CY,Xz ?_⟩;have hR:∀ex,Qh (bx++ex) k=psF M.ps:=fun ex=>by rw[Ql hk,hr]
    have auk:(psF M.ps).length=M.ps.length:=by simp[psF]
    have aax:¬psF M.ps=[]:=fun h=>hV0 (zzav (by rw[<- auk,h];rfl));have dw:k<bx.length+2:=by omega
    have bA:(psF M.ps).take M.ps.length=psF M.ps:=zzam (by omega);simp[h25,zzao,hk,hR,Iu,hb4,auk,aax,dw,bA];refine⟨by omega,aN,⟨i+1,{M with pl:=Zt p.ch (i:Int) M.pl,ps:=M.ps++[[yq p]]},_,_,by simp,by omega,by simp[hMi],hMo,gM,.inr ⟨by simp,bx.length+2,by simp,by simp,?_⟩,auj,rfl⟩,by omega⟩
    ·rw[lB];simp[psF,Qo,Qc]
   rw[if_pos (.inr he)]at gM;have h0:=h0 gM.symm;simp[h25,ah,aa,Qc,zV,Bt,KQ,lT,Qo,he,b2,PG];simp only[lT,Qo,Qc,zzae,zzah]at CY;exact⟨CY,h0 _⟩
  rw[if_pos (.inl (by rw[b1];rfl))]at gM;have h0:=h0 gM.symm;simp[h25,ah,aa,Qc,zV,Bt,KQ,lT,Qo,b2,PG];simp only[lT,Qo,Qc,zzae,zzah]at CY;exact⟨CY,h0 _⟩
 obtain rfl:i=ps.length:=by omega
 have bJ:¬(ps.length:Int)<(ps.length:Int):=by omega
 rw[zzbo,jZ]at gM;have hM0:M.ps≠[]:=fun h=>by rw[h]at hMi;simp at hMi;omega
 obtain⟨hV0,_⟩|⟨_,k,rfl,hk,hr⟩:=hV
 ·exact absurd hV0 hM0
 have h1:=fun ex z hB=>h1 M gM.symm ex (mb.length+1) mb.length (mb.length+(k+2)) z ⟨by simp,by simp⟩ hB;simp[h25,bJ,zV,PG];refine h1 _ [] ⟨by simp,by simp[hMo],by simp,by simp,by simp;omega,?_,by simp[Bu],hM0,gC,by omega,by simp[hMo],.inr ⟨rfl,hMo⟩⟩;rw[Ss];simp[hr]
open Go Go.Abs
def cT(g:Pg):Pg:={g with ev:=g.ev.map Sj}
def St(g:Pg):Qo (cT g)=Qo g:=by
 unfold Qo cT;simp only[Br]
def dEv(l:List AV):bD:=⟨dI (dN l 0),dI (dN l 1),dI (dN l 2),dI (dN l 3),dI (dN l 4),dI (dN l 5),(dR (dN l 6)).map dSp,false⟩
def dS:AV->ByteArray
 |.str s=>s
 |_=>⟨#[]⟩
def dCu(l:List AV):Cue:=⟨dI (dN l 0),dI (dN l 1),dI (dN l 2),dI (dN l 3),dS (dN l 4)⟩
def dPg(l:List AV):Pg:=⟨dPl l,(dR (dN l 13)).map dEv,(dR (dN l 14)).map dCu,dI (dN l 15),(dR (dN l 16)).map fun r=>dI (dN r 0),dI (dN l 17)⟩
def O2(l:List bD):(l.map Qf).map dEv=l.map Sj:=by
 rw[zzct];refine zzdd fun e _=>?_;show(⟨e.id,e.it,e.st,e.fr,e.i,e.re,(e.al.map Qe).map dSp,false⟩:bD)=Sj e;rw[Qdq DE];rfl
def O3(g:Pg):dPg (Qo g)=cT g:=by
 show(⟨dPl (Qc g.p),(g.ev.map Qf).map dEv,(g.cu.map Qj).map dCu,g.ed,(g.dr.map Qy).map (fun r=>dI (dN r 0)),g.ve⟩:Pg)=cT g;rw[uK,O2,Qdq (fun _=>rfl),Qdq (fun _=>rfl)];rfl
def sZ(g:Pg)(o:Od)(h:Sn (cT g) o):Pure Tryz.prog aq 37 [.agg (Qo g),.agg (Qp o)] (.agg (Qo (Zc (cT g) o))):=by
 have:=Mf (cT g) o h;rw[St]at this;exact this
def O4:SC:=(⟨_,by cbv⟩:tJ [1,1,1,1,1] Eb).1
def aaH:SC:=(⟨_,fun _=>by cbv⟩:Kt [1] (Kj [1,1,1,1] Eb)).1 O4
def aul:SC:=(⟨_,fun _=>by cbv⟩:Kt [1,1,1,1] Eb).1 aaH
theorem agJ:Eb=aul:=rfl
def DF(M:Md)(o:Od):Bool:=!Xr o||(decide (o.sq≠(M.os.length:Int)+1)||(match M.os.getLast? with
 |none=>false
 |some x=>decide (o.fr<x.2)))
def Ub(o:Od)(n:Nat)(l:List Pg):List Pg:=l++(l[n]?.map fun g=>Zc (cT g) o).toList
def j4(M:Md)(o:Od):Option Md:=if DF M o=true then none else some {M with ps:=M.ps.map (Ub o M.os.length),os:=M.os++[(o.sq,o.fr)]}
def dP(ls:List Nat)(bh:List Rt)(ps:List (List Pg)):Prop:=
 (∀(i:Nat)(rt:Rt)(l:List Pg),bh[i]?=some rt->ps[i]?=some l->rt=.full\/∃k,rt=.own k 18/\ls[k]?=some l.length)/\∀(i j k:Nat),bh[i]?=some (.own k 18)->bh[j]?=some (.own k 18)->i=j
def ek(ls:List Nat)(bh:List Rt)(bO:Rt)(n:Nat):Prop:=(bO=.nil/\n=0)\/∃k,bO=.own k 26/\ls[k]?=some n/\∀i:Nat,bh[i]?≠some (.own k 18)
def aog(o:Od):Pure Tryz.prog aq 16 [.nilv true,.agg (Qp o)] (I 1):=by
 have:=DB;refine Qn IK (fun _ _ _=>.bool true) (by simp) ?_;simp[Eb,TB,Qp,Qd,Qg,Qj];exact this
def j5(o:Od)(n:Nat):Nat->FuncId->List AV->AV:=fun d fn l=>if fn=39 then .gd false .junk else if fn=40 then .bool (Xr o)else if fn=37 then(match l with
 |[.agg cs,_]=>.agg (Qo (Zc (dPg cs) o))
 |_=>.junk)else .junk
def ic.aaI{B:List (List AV)}{md:Nat}{M:Md}{pid aQ:Nat}{bh:List Rt}{bO:Rt}{z:List AV}(h:ic B md M pid aQ bh bO z)(zK:md≠pid)(gq:md≠aQ)(os':List (Int×Int))(cR:Rt)(hl:os'.length<=1000)(hr:sX cR .ro):
  ic (B.set md [.mp pid,.bs aQ 0 M.ps.length 1,.sl cR (os'.map Wu)]) md {M with os:=os'} pid aQ bh cR z:=
 ⟨by have:=h.ER;simpa using this,Vn _ h.ER,by have:=h.hpid;simpa using this,by rw[Zu _ zK];exact h.map,by have:=h.hbid;simpa using this,by rw[Zu _ gq];exact h.hps,h.hrts,h.ne,h.gC,h.len,hl,.inl hr⟩
def aZ.aaJ{S:Nat->Prop}{B l B':List (List AV)}(h:aZ S (B++l) B'):aZ S B B':=
 ⟨by have:=h.1;simp at this;omega,fun j hj hs=>by rw[h.2 j (by simp;omega) hs,Ql hj]⟩
def Hz{bh:List Rt}{ps:List (List Pg)}{i:Nat}{rt:Rt}{l:List Pg}(hl:bh.length=ps.length)(hi:i<ps.length):(jY bh ps).set i (.sl rt (l.map Qo))=jY (bh.set i rt) (ps.set i l):=by
 unfold jY;apply zzcj;intro j;rw[zzcw,zzfk,zzfk,zzcw,zzcw,List.length_zipWith];by_cases hj:i=j
 ·subst hj;simp[hl,hi]
 simp[hj]
def aaK(Y:YT)(o:Od)(n:Nat)(E:List (Nat×AV))(B:List (List AV))(ls:List Nat)(ms:Nat->LS)(mn:Nat)(md:Nat)(M:Md)(pid aQ:Nat)(bh:List Rt)(bO:Rt)(z:List AV)(n0:Nat)(Q:Exit->AS->Prop)
  (h:ic B md M pid aQ bh bO z)(dF:ek ls bh bO M.os.length)(Su:M.os.length<=900)(eN:n0<B.length)(sC:Qh B n0=Qp o)(e0:Abs.look E 0=.ptr md 0)(e3:Abs.look E 3=.ptr n0 0)(aJ:n0≠md)
  (zK:md≠pid)(gq:md≠aQ)(hrl:∀(i k:Nat),bh[i]?=some (.own k 18)->k<ls.length)
  (hQ:∀E' B' dg cR,Abs.look E' 4=I 0->ic B' md {M with os:=M.os++[(o.sq,o.fr)]} pid aQ bh cR z->aZ (fun j=>j=md\/j=aQ) B B'->(∀(i k l:Nat),bh[i]?=some (.own k 18)->ls[k]?=some l->dg[k]?=some l)->ek dg bh cR (M.os.length+1)->Q .ret ⟨Zb 83 E',⟨B',dg,ms,mn⟩⟩):
  vc Tryz.prog aq (j5 o n) Y O4 ⟨Zb 83 E,⟨B,ls,ms,mn⟩⟩ Q:=by
 have q1:=h.row;have q2:=h.ER;simp only[Qp,Qd,Qg,Qj,zzae,zzah]at sC;obtain⟨rfl,h0⟩|⟨k,rfl,hk,hd⟩:=dF
 ·have he:M.os=[]:=zzav h0;simp[O4];refine Xz ?_;simp[e0,e3,q1,q2,sC,j5,he];have e:(M.os++[(o.sq,o.fr)]).map Wu=[Wu (o.sq,o.fr)]:=by rw[he];rfl
  have hM:=h.aaI zK gq (M.os++[(o.sq,o.fr)]) (.own ls.length 26) (by simp[he]) (sX.own _ _)
  have hD:∀i:Nat,bh[i]?≠some (.own ls.length 18):=fun i hi=>by
   have:=hrl i _ hi;omega
  have:=fun E' h4=>hQ E' _ (ls++[1]) (.own ls.length 26) h4 hM ((aZ.refl _ _).set (.inl (.inl rfl)) _) (fun i k l _ hk=>by rw[zzag (zza.1 hk).1];exact hk) (.inr ⟨_,rfl,by simp[he],hD⟩);simp only[e]at this;exact this _ (by simp)
 have qo:∀a∈M.os,(Wu a).length=26:=fun _ _=>rfl;have e:(M.os++[(o.sq,o.fr)]).map Wu=M.os.map Wu++[Wu (o.sq,o.fr)]:=by simp
 have hM:=h.aaI zK gq (M.os++[(o.sq,o.fr)]) (.own k 26) (by simp;omega) (sX.own _ _);have zj:=(zza.1 hk).1
 have:=fun E' h4=>hQ E' _ (ls.set k (M.os.length+1)) (.own k 26) h4 hM ((aZ.refl _ _).set (.inl (.inl rfl)) _) (fun i k' l hi y9=>by
  have:k≠k':=by rintro rfl;exact hd i hi
  rw[zzbe this];exact y9) (.inr ⟨_,rfl,by simp[zj],hd⟩)
 simp only[e]at this;simp[O4];refine Xz ?_;simp[e0,e3,q1,q2,sC,hk];exact⟨⟨by rintro row (⟨a,b,_,rfl⟩|rfl)<;>rfl,by omega⟩,this _ (by simp)⟩
def dP.lt{ls:List Nat}{bh:List Rt}{ps:List (List Pg)}(h:dP ls bh ps)(hl:bh.length=ps.length):∀(i k:Nat),bh[i]?=some (.own k 18)->k<ls.length:=fun i k hi=>by
 have h1:=(zza.1 hi).1;rcases h.1 i _ _ hi (zzad (by omega))with e|⟨k',e,hk⟩
 ·cases e
 cases e;exact(zza.1 hk).1
def dP.more{ls:List Nat}{bh:List Rt}{ps:List (List Pg)}(h:dP ls bh ps)(hl:bh.length=ps.length){i:Nat}{rt:Rt}{l l':List Pg}(hi:bh[i]?=some rt)(hp:ps[i]?=some l)(ez:l'.length=l.length+1):
  (rt=.full->dP (ls++[l'.length]) (bh.set i (.own ls.length 18)) (ps.set i l'))/\∀k,rt=.own k 18->dP (ls.set k l'.length) bh (ps.set i l'):=by
 have ai:=h.lt hl;have gL:=(zza.1 hi).1;constructor
 ·rintro rfl;refine⟨fun j JX l2 hj Cu=>?_,fun a b k ha hb=>?_⟩
  ·rw[zzcw]at hj Cu;by_cases fc:i=j
   ·subst fc;rw[if_pos rfl,if_pos gL]at hj;rw[if_pos rfl,if_pos (by omega)]at Cu;cases hj;cases Cu;exact .inr ⟨_,rfl,by simp⟩
   rw[if_neg fc]at hj Cu;rcases h.1 j JX l2 hj Cu with e|⟨k,e,hk⟩
   ·exact .inl e
   exact .inr ⟨k,e,by rw[zzag (zza.1 hk).1];exact hk⟩
  rw[zzcw]at ha hb;by_cases e1:i=a
  ·rw[if_pos e1,if_pos gL]at ha;cases ha;by_cases e2:i=b
   ·omega
   rw[if_neg e2]at hb;exact absurd (ai b _ hb) (by omega)
  rw[if_neg e1]at ha;by_cases e2:i=b
  ·rw[if_pos e2,if_pos gL]at hb;cases hb;exact absurd (ai a _ ha) (by omega)
  rw[if_neg e2]at hb;exact h.2 a b k ha hb
 rintro k rfl;refine⟨fun j JX l2 hj Cu=>?_,h.2⟩;rw[zzcw]at Cu;by_cases fc:i=j
 ·subst fc;rw[hi]at hj;cases hj;simp only[if_true]at Cu;split at Cu
  ·cases Cu;exact .inr ⟨k,rfl,by rw[zzaz (ai i k hi)]⟩
  cases Cu
 rw[if_neg fc]at Cu;rcases h.1 j JX l2 hj Cu with e|⟨k2,e,hk⟩
 ·exact .inl e
 refine .inr ⟨k2,e,?_⟩
 have aJ:k≠k2:=by
  rintro rfl;subst e;exact fc (h.2 i j k hi hj)
 rw[zzbe aJ];exact hk
def ic.akO{B:List (List AV)}{md:Nat}{M:Md}{pid aQ:Nat}{bh rts':List Rt}{bO:Rt}{z:List AV}(h:ic B md M pid aQ bh bO z)(hbm:aQ≠md)(hbp:aQ≠pid){ps':List (List Pg)}(hl:ps'.length=M.ps.length)(hr:rts'.length=bh.length):
  ic (B.set aQ (jY rts' ps'++z)) md {M with ps:=ps'} pid aQ rts' bO z:=
 ⟨by have:=h.ER;simpa using this,by rw[Zu _ hbm,h.row];simp[hl],by have:=h.hpid;simpa using this,by rw[Zu _ hbp];exact h.map,by have:=h.hbid;simpa using this,Vn _ h.hbid,by rw[hr,h.hrts,hl],
  fun e=>h.ne (zzav (by have:=congrArg List.length e;simp only[zzcf]at this;omega)),fun c j hc=>by have:=h.gC c j hc;simp only[hl];exact this,by simp only[hl];exact h.len,h.los,h.hrto⟩
def ic.nes{B:List (List AV)}{md:Nat}{M:Md}{pid aQ:Nat}{bh:List Rt}{bO:Rt}{z:List AV}(h:ic B md M pid aQ bh bO z):md≠pid/\md≠aQ/\aQ≠pid:=by
 have hps:∃rt l r,Qh B aQ=.sl rt l::r:=by
  rw[h.hps];have h1:=h.hrts;cases hp:M.ps with
  |nil=>exact absurd hp h.ne
  |cons a r=>cases hr:bh with
   |nil=>rw[hp,hr]at h1;simp at h1
   |cons b s=>exact⟨b,a.map Qo,jY s r++z,rfl⟩
 obtain⟨rt,l,r,hps⟩:=hps;refine⟨fun e=>?_,fun e=>?_,fun e=>?_⟩
 ·have:=h.row;rw[e,h.map]at this;simp at this
 ·have:=h.row;rw[e,hps]at this;simp at this
 rw[e,h.map]at hps;simp at hps
def ic.ayx{B:List (List AV)}{md:Nat}{M:Md}{pid aQ:Nat}{bh:List Rt}{bO:Rt}{z:List AV}(h:ic B md M pid aQ bh bO z){n0:Nat}{o:Od}(ho:Qh B n0=Qp o):aQ≠n0/\md≠n0:=by
 refine⟨fun e=>?_,fun e=>?_⟩
 ·have h1:=h.hrts;rw[<- e,h.hps]at ho;cases hp:M.ps with
  |nil=>exact absurd hp h.ne
  |cons a r=>cases hr:bh with
   |nil=>rw[hp,hr]at h1;simp at h1
   |cons b s=>rw[hp,hr]at ho;simp[jY,Qp]at ho
 have:=h.row;rw[e,ho]at this;simp[Qp]at this
def ek.grow{ls:List Nat}{bh:List Rt}{bO:Rt}{n i:Nat}(h:ek ls bh bO n)(x:Nat):ek (ls++[x]) (bh.set i (.own ls.length 18)) bO n:=by
 obtain h|⟨k,h1,h2,h3⟩:=h
 ·exact .inl h
 have hk:=(zza.1 h2).1;refine .inr ⟨k,h1,by rw[zzag hk];exact h2,fun j hj=>?_⟩;rw[zzcw]at hj;by_cases e:i=j
 ·rw[if_pos e]at hj;split at hj
  ·cases hj;omega
  cases hj
 rw[if_neg e]at hj;exact h3 j hj
def ek.put{ls:List Nat}{bh:List Rt}{bO:Rt}{n i k:Nat}(h:ek ls bh bO n)(hi:bh[i]?=some (.own k 18))(x:Nat):ek (ls.set k x) bh bO n:=by
 obtain h|⟨k',h1,h2,h3⟩:=h
 ·exact .inl h
 have:k≠k':=by rintro rfl;exact h3 i hi
 exact .inr ⟨k',h1,by rw[zzbe this];exact h2,h3⟩
def agK{ps:List (List Pg)}{i:Nat}{l:List Pg}{f:List Pg->List Pg}(h:ps[i]?=some l):((ps.take i).map f++ps.drop i).set i (f l)=(ps.take (i+1)).map f++ps.drop (i+1)/\((ps.take i).map f++ps.drop i)[i]?=some l/\((ps.take i).map f++ps.drop i).length=ps.length:=by
 have ai:=(zza.1 h).1;have hd:ps.drop i=l::ps.drop (i+1):=by rw[zzaf ai,(zza.1 h).2]
 have qQ:((ps.take i).map f).length=i:=by rw[zzbg,zzaq];omega
 refine⟨?_,?_,?_⟩
 ·rw[zzcq _ _ (by omega),qQ,zzdl,hd,List.set_cons_zero,zzar,h];simp
 ·rw[zzal (by omega),qQ,zzdl,hd];rfl
 rw[zzai,qQ,zzco];omega
def aum(B0:List (List AV))(M:Md)(o:Od)(md pid aQ:Nat)(bO:Rt)(z:List AV)(n0:Nat)(ms:Nat->LS)(mn:Nat)(s:Nat->AV)(m:AM):Prop:=
 ∃(i:Nat)(B:List (List AV))(ls:List Nat)(bh:List Rt),s 48=I i/\i<=M.ps.length/\m=⟨B,ls,ms,mn⟩/\
  ic B md {M with ps:=(M.ps.take i).map (Ub o M.os.length)++M.ps.drop i} pid aQ bh bO z/\dP ls bh ((M.ps.take i).map (Ub o M.os.length)++M.ps.drop i)/\ek ls bh bO M.os.length/\n0<B.length/\Qh B n0=Qp o/\aZ (fun j=>j=md\/j=aQ) B0 B
def HA(Y:YT)(o:Od)(E:List (Nat×AV))(B:List (List AV))(ls:List Nat)(ms:Nat->LS)(mn:Nat)(md:Nat)(M:Md)(pid aQ:Nat)(bh:List Rt)(bO:Rt)(z:List AV)(n0:Nat)(Q:Exit->AS->Prop)
  (h:ic B md M pid aQ bh bO z)(hr:dP ls bh M.ps)(dF:ek ls bh bO M.os.length)(Su:M.os.length<=900)(eN:n0<B.length)(sC:Qh B n0=Qp o)
  (hn:∀l∈M.ps,l.length=M.os.length+1)(hap:∀l∈M.ps,∀g,l[M.os.length]?=some g->Sn (cT g) o)
  (e0:Abs.look E 0=.ptr md 0)(e3:Abs.look E 3=.ptr n0 0)(e5:Abs.look E 5=I M.os.length)
  (hQ:∀E' B' dg rts' cR,Abs.look E' 4=I 0->ic B' md {M with ps:=M.ps.map (Ub o M.os.length),os:=M.os++[(o.sq,o.fr)]} pid aQ rts' cR z->aZ (fun j=>j=md\/j=aQ) B B'->dP dg rts' (M.ps.map (Ub o M.os.length))->ek dg rts' cR (M.os.length+1)->Q .ret ⟨Zb 83 E',⟨B',dg,ms,mn⟩⟩):
  vc Tryz.prog aq (j5 o M.os.length) Y aaH ⟨Zb 83 E,⟨B,ls,ms,mn⟩⟩ Q:=by
 have q1:=h.row;have q2:=h.ER;simp[aaH,e0,q1];refine Qi MQ (aum B M o md pid aQ bO z n0 ms mn) (fun s _=>M.ps.length-(numOf (s 48)).toNat) ?_ ?_
 ·exact⟨0,B,ls,bh,by simp,by omega,rfl,by simpa using h,by simpa using hr,dF,eN,sC,aZ.refl _ _⟩
 rintro s m ⟨i,B,ls,bh,O5,hi,rfl,h,hr,dF,eN,sC,eU⟩;obtain⟨n1,n2,n3⟩:=h.nes;have h4:=h.ayx sC;have aoh:=sC;have q1:=h.row;have q2:=h.ER;have q3:=h.hps;have q4:=h.hbid;have gC:((M.ps.take i).map (Ub o M.os.length)++M.ps.drop i).length=M.ps.length:=by rw[zzai,zzbg,zzaq,zzco];omega
 have q5:=h.len;simp only[gC]at q1 q3 q5;rcases zzaa i M.ps.length with ai|bw
 ·obtain⟨l,hl⟩:=aP ai;obtain⟨p1,p2,p3⟩:=agK (f:=Ub o M.os.length) hl;obtain⟨rt,aT,zK⟩:=Hv h.hrts p2;have zn:=hn l (zzac hl);obtain⟨g,hg⟩:∃g,l[M.os.length]?=some g:=⟨_,zzad (by omega)⟩;have k37:=sZ g o (hap l (zzac hl) g hg);have KQ:dPg [I g.p.ch,I g.p.nu,I g.p.de,I g.p.of,.sl .ro (g.p.sh.map Qe),I g.p.ep,I g.p.rg,I g.p.ln,I g.p.fi,.sl .ro (g.p.aL.map Qm),.sl .ro (g.p.ens.map Qd),.sl .ro (g.p.bks.map Xa),.sl .ro (g.p.cls.map Qg),.sl .ro (g.ev.map Qf),.sl .ro (g.cu.map Qj),I g.ed,.sl .ro (g.dr.map Qy),I g.ve]=cT g:=O3 g;have hnx:Ub o M.os.length l=l++[Zc (cT g) o]:=by unfold Ub;rw[hg];rfl
  have aa:Qh (l.map Qo) M.os.length=Qo g:=Qr (by simp[hg])
  have dZ:(Qh B aQ).drop i=.sl rt (l.map Qo)::(Qh B aQ).drop (i+1):=by
   have hg2:(Qh B aQ)[i]?=some (.sl rt (l.map Qo)):=by
    rw[q3,zzag (zza.1 zK).1,zK]
   obtain⟨e1,e2⟩:=zza.1 hg2;rw[zzaf e1,e2]
  have dx:i<(Qh B aQ).length:=by
   rw[q3,zzai];exact zzbb (zza.1 zK).1 (zzgn _ _)
  have ah:(i:Int)<(M.ps.length:Int):=by omega
  have hw:=bH i (by omega);have qo:∀a∈l,(Qo a).length=18:=fun _ _=>rfl;have hnl:M.os.length<l.length:=by omega
  have aun:(M.os.length:Int)<(l.length:Int):=by omega
  simp only[Qp,Qd,Qg,Qj,zzae,zzah]at sC;obtain⟨r1,r2⟩:=hr.more h.hrts aT p2 (l':=Ub o M.os.length l) (by rw[hnx];simp);rcases hr.1 i rt l aT p2 with rfl|⟨k,rfl,hk⟩
  ·simp[O5,ah,MQ,dZ];refine Xz ?_;simp[O5,ah,q1,q4,hw,e0,e3,e5,aa,Qo,Qc,aun,sC,j5,KQ];simp only[Qo,Qc,Qp,Qd,Qg,Qj,zzae,zzah]at k37;have hM:=h.akO (rts':=bh.set i (.own ls.length 18)) n2.symm n3 (ps':=(M.ps.take (i+1)).map (Ub o M.os.length)++M.ps.drop (i+1)) (by rw[<- p1,zzcg]) (by rw[zzcg])
   have hc:setA (Qh B aQ) i [.sl (.own ls.length 18) (l.map Qo++[Qo (Zc (cT g) o)])]=jY (bh.set i (.own ls.length 18)) ((M.ps.take (i+1)).map (Ub o M.os.length)++M.ps.drop (i+1))++z:=by
    rw[<- p1,<- Hz h.hrts (by simp only[gC];exact ai),q3,hnx];have nc:i<(jY bh ((M.ps.take i).map (Ub o M.os.length)++M.ps.drop i)).length:=(zza.1 zK).1;show(jY bh ((M.ps.take i).map (Ub o M.os.length)++M.ps.drop i)++z).set i _=_;rw[zzfo _ _ nc,zzbw];rfl
   have yS:=r1 rfl;rw[p1,hnx]at yS;rw[<- hc]at hM;refine⟨k37,⟨?_,by omega⟩,by omega,aN,⟨i+1,_,_,bh.set i (.own ls.length 18),by simp,by omega,rfl,hM,by simpa using yS,?_,by simp;exact eN,?_,eU.set (.inl (.inr rfl)) _⟩,by omega⟩
   ·rintro row (⟨a,_,rfl⟩|rfl)<;>rfl
   ·simpa using dF.grow _
   rw[Zu _ h4.1];exact aoh
  have hM:=h.akO (rts':=bh) n2.symm n3 (ps':=(M.ps.take (i+1)).map (Ub o M.os.length)++M.ps.drop (i+1)) (by rw[<- p1,zzcg]) rfl
  have hc:setA (Qh B aQ) i [.sl (.own k 18) (l.map Qo++[Qo (Zc (cT g) o)])]=jY bh ((M.ps.take (i+1)).map (Ub o M.os.length)++M.ps.drop (i+1))++z:=by
   have nc:i<(jY bh ((M.ps.take i).map (Ub o M.os.length)++M.ps.drop i)).length:=(zza.1 zK).1
   have yW:bh.set i (.own k 18)=bh:=by
    apply zzcj;intro j;rw[zzcw];by_cases e:i=j
    ·subst e;rw[if_pos rfl,if_pos (zza.1 aT).1,aT]
    rw[if_neg e]
   have:=Hz (rt:=.own k 18) (l:=Ub o M.os.length l) h.hrts (i:=i) (by simp only[gC];exact ai);simp only[yW]at this;rw[<- p1,<- this,q3,hnx];show(jY bh ((M.ps.take i).map (Ub o M.os.length)++M.ps.drop i)++z).set i _=_;rw[zzfo _ _ nc,zzbw];rfl
  have yS:=r2 k rfl;rw[p1,hnx]at yS;rw[<- hc]at hM;simp[O5,ah,MQ,dZ];refine Xz ?_;simp[O5,ah,q1,q4,hw,e0,e3,e5,aa,Qo,Qc,aun,sC,j5,KQ,hk];simp only[Qo,Qc,Qp,Qd,Qg,Qj,zzae,zzah]at k37;refine⟨k37,⟨?_,by omega⟩,by omega,aN,⟨i+1,_,_,bh,by simp,by omega,rfl,hM,by simpa using yS,?_,by simp;exact eN,?_,eU.set (.inl (.inr rfl)) _⟩,by omega⟩
  ·rintro row (⟨a,_,rfl⟩|rfl)<;>rfl
  ·simpa using dF.put aT _
  rw[Zu _ h4.1];exact aoh
 obtain rfl:i=M.ps.length:=by omega
 have bJ:¬(M.ps.length:Int)<(M.ps.length:Int):=by omega
 simp only[zzbn,zzbo,zzat]at h hr;simp[O5,bJ,MQ];refine aaK Y o M.os.length _ B ls ms mn md _ pid aQ bh bO z n0 Q h dF Su eN aoh (by simp[e0]) (by simp[e3]) h4.2.symm n1 n2 (hr.lt h.hrts) ?_;intro E' B' dg cR f4 hM' dw nc Mk
 exact hQ E' B' dg bh cR f4 hM' (eU.trans (dw.mono fun j hj=>.inl hj)) ⟨fun j rt l q1 q2=>by
  rcases hr.1 j rt l q1 q2 with e|⟨k,rfl,hk⟩
  ·exact .inl e
  exact .inr ⟨k,rfl,nc j k _ q1 hk⟩,hr.2⟩ Mk
def lD(Y:YT)(m:AM)(md:Nat)(M:Md)(pid aQ:Nat)(bh:List Rt)(bO:Rt)(z:List AV)(o:Od)(h:ic m.boxes md M pid aQ bh bO z)(hr:dP m.lens bh M.ps)(dF:ek m.lens bh bO M.os.length)
  (hn:∀l∈M.ps,l.length=M.os.length+1)(hap:∀l∈M.ps,∀g,l[M.os.length]?=some g->DF M o=false->Sn (cT g) o)(ei:o.nw.al.length<=8796093022208)(Su:M.os.length<=900)(K:AV->AM->Prop)
  (h0:j4 M o=none->∀ex,K (I 290) {m with boxes:=m.boxes++ex})
  (h1:∀M',j4 M o=some M'->∀B' dg rts' cR,ic B' md M' pid aQ rts' cR z->aZ (fun j=>j=md\/j=aQ) m.boxes B'->dP dg rts' M'.ps->ek dg rts' cR M'.os.length->K (I 0) ⟨B',dg,m.st,m.ln⟩):
  an Tryz.prog aq Y 16 [.ptr md 0,.agg (Qp o)] m K:=by
 obtain⟨mb,ml,ms,mn⟩:=m;have q1:=h.row;have q2:=h.ER;have hB:∀ex,ic (mb++ex) md M pid aQ bh bO z:=fun ex=>h.ext ex;have hR:∀ex,Qh (mb++ex) md=[.mp pid,.bs aQ 0 M.ps.length 1,.sl bO (M.os.map Wu)]:=fun ex=>(h.ext ex).row;have ka:=fun ex K hK=>uJ Y ⟨mb++ex,ml,ms,mn⟩ md M pid aQ bh bO z (hB ex) K hK;have Tw:=sQ o ei;simp only[Qp,Qd,Qg,Qj,zzae,zzah]at Tw;simp only at q1 q2;have YN:IntKind.i64.wrap ((M.os.length:Int)+1)=(M.os.length:Int)+1:=by rw[Qk]<;>omega
 cases hbad:DF M o with
 |true=>
  have h0:=h0 (by unfold j4;rw[if_pos hbad]);refine Xe IK (j5 o M.os.length) (by simp) ?_;simp[Eb,TB,Qp,Qd,Qg,Qj,j5];refine ka _ _ ?_;simp[hR];unfold DF at hbad;cases hv:Xr o with
  |false=>
   rw[hv]at Tw;simp;exact⟨by simpa using Tw,h0 _⟩
  |true=>
   rw[hv]at hbad Tw;by_cases hs:o.sq=(M.os.length:Int)+1
   ·cases hx:M.os.getLast? with
    |none=>rw[hx]at hbad;simp[hs]at hbad
    |some x=>
     rw[hx]at hbad;simp[hs]at hbad;have aJ:M.os≠[]:=by intro e;rw[e]at hx;simp at hx
     have eS:0<M.os.length:=zzcu.2 aJ;have sv:M.os[M.os.length-1]?=some x:=by rw[<- hx,zzey]
     have aa:Qh (M.os.map Wu) (M.os.length-1)=Wu x:=Qr (by simp[sv]);have eO:IntKind.i64.wrap ((M.os.length:Int)-1)=((M.os.length-1:Nat):Int):=by rw[Qk]<;>omega
     have YH:((M.os.length-1:Nat):Int)<(M.os.length:Int):=by omega
     have ano:M.os.length-1<M.os.length:=by omega
     have hp1:(0:Int)<(M.os.length:Int):=by omega
     simp[hs,YN,eO,aa,YH,eS,Wu,hbad];rw[hs]at Tw;refine⟨by simpa using Tw,?_⟩;have:=h0 [Qp o];simp[Qp,Qd,Qg,Qj,hs]at this;exact this
   have Th:(o.sq !=(M.os.length:Int)+1)=true:=by simpa using hs
   simp[hs,YN,Th];exact⟨by simpa using Tw,h0 _⟩
 |false=>
  have ayy:j4 M o=some {M with ps:=M.ps.map (Ub o M.os.length),os:=M.os++[(o.sq,o.fr)]}:=by unfold j4;rw[if_neg (by rw[hbad];decide)]
  have h1:=h1 _ ayy;have hap:=fun l hl g hg=>hap l hl g hg hbad;have azg:=hbad;unfold DF at hbad
  have hv:Xr o=true:=by cases hv:Xr o with
   |true=>rfl
   |false=>rw[hv]at hbad;simp at hbad
  rw[hv]at hbad Tw;simp only[Bool.not_true,Bool.false_or,zzes,decide_eq_false_iff_not]at hbad;obtain⟨hs,sv⟩:=hbad;have hs:o.sq=(M.os.length:Int)+1:=by omega
  have Th:(o.sq !=(M.os.length:Int)+1)=false:=by simp[hs]
  have hd:(M.os=[])\/∃x,M.os.getLast?=some x/\¬o.fr<x.2/\0<M.os.length/\Qh (M.os.map Wu) (M.os.length-1)=Wu x:=by
   cases hx:M.os.getLast? with
   |none=>exact .inl (zzgj.1 hx)
   |some x=>
    rw[hx]at sv;have aJ:M.os≠[]:=by intro e;rw[e]at hx;simp at hx
    refine .inr ⟨x,rfl,by simpa using sv,zzcu.2 aJ,Qr ?_⟩;have:M.os[M.os.length-1]?=some x:=by rw[<- hx,zzey]
    simp[this]
  refine Xe IK (j5 o M.os.length) (by simp) ?_;rw[agJ];simp[aul,Qp,Qd,Qg,Qj,j5];refine ka _ _ ?_;obtain he|⟨x,_,hlx,eS,aa⟩:=hd
  ·have hM0:M.os.length=0:=by rw[he];rfl
   have hp0:¬(0:Int)<(M.os.length:Int):=by omega
   have hp1:¬0<M.os.length:=by omega
   have aJ:∀n:Nat,j5 o n=j5 o n:=fun _=>rfl;simp[hv,hR,hs,YN,hp1];rw[hs]at Tw;refine⟨by simpa using Tw,?_⟩;refine HA Y o _ _ ml ms mn md M pid aQ bh bO z mb.length _ (hB _) hr dF Su (by simp) (by simp[Qp,Qd,Qg,Qj,hs]) hn hap (by simp) (by simp) (by simp) ?_;intro E' B' dg rts' cR f4 hM eU Aq Mk;have:=h1 B' dg rts' cR hM (aZ.aaJ eU) Aq (by simpa using Mk);simp[TB,f4];exact this
  have eO:IntKind.i64.wrap ((M.os.length:Int)-1)=((M.os.length-1:Nat):Int):=by rw[Qk]<;>omega
  have YH:((M.os.length-1:Nat):Int)<(M.os.length:Int):=by omega
  have ano:M.os.length-1<M.os.length:=by omega
  have hp1:(0:Int)<(M.os.length:Int):=by omega
  have aJ:¬M.os=[]:=by intro e;rw[e]at eS;simp at eS
  simp[hv,hR,hs,YN,eO,aa,YH,eS,Wu,hlx];rw[hs]at Tw;refine⟨by simpa using Tw,?_⟩;refine HA Y o _ _ ml ms mn md M pid aQ bh bO z mb.length _ (hB _) hr dF Su (by simp) (by simp[Qp,Qd,Qg,Qj,hs]) hn hap (by simp) (by simp) (by simp) ?_;intro E' B' dg rts' cR f4 hM eU Aq Mk;have:=h1 B' dg rts' cR hM (aZ.aaJ eU) Aq (by simpa using Mk);simp[TB,f4];exact this
end
end Go.Proofs.YtnopaopphmjnmaaGreatDoor
