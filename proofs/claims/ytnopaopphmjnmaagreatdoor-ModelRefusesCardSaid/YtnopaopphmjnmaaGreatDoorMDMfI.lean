import Derived.Test.YtnopaopphmjnmaaGreatDoorMDMfD
set_option linter.all false
set_option maxRecDepth 100000
set_option maxHeartbeats 64000000
namespace Go.Proofs.YtnopaopphmjnmaaGreatDoor
noncomputable section
open Go Go.Abs
def SL(M:Md)(dn:List Od)(p:Pl):Prop:=
 ∃x:List Pg,Hw M p.ch=some x/\x.length=dn.length+1/\x[0]?=some (yq p)/\∀(v:Nat)(o:Od)(g:Pg),dn[v]?=some o->x[v]?=some g->x[v+1]?=some (Zc (cT g) o)
def aoH{M M':Md}{o:Od}{dn:List Od}{p:Pl}(h:j4 M o=some M')(hn:M.os.length=dn.length)(hc:SL M dn p):SL M' (dn++[o]) p/\M'.os.length=(dn++[o]).length:=by
 unfold j4 at h;split at h
 ·cases h
 cases h;obtain⟨x,h1,h2,h3,h4⟩:=hc;have hl:dn.length<x.length:=by omega
 obtain⟨g,hg⟩:∃g,x[dn.length]?=some g:=⟨_,zzad hl⟩;refine⟨⟨x++[Zc (cT g) o],?_,by simp[h2],by rw[zzag (by omega)];exact h3,fun v o' g' ho hg'=>?_⟩,by simp[hn]⟩
 ·unfold Hw at h1 |-
  simp only;cases ha:af p.ch M.pl with
  |none=>rw[ha]at h1;cases h1
  |some i=>
   rw[ha]at h1;simp only[zzch]at h1 |-
   rw[zzbl,h1];simp[Ub,hn,hg]
 rcases zzaa v dn.length with hv|hv
 ·rw[zzag hv]at ho;rw[zzag (by omega)]at hg' |-
  exact h4 v o' g' ho hg'
 have uh:v=dn.length:=by
  have:=(zza.1 ho).1;simp at this;omega
 subst uh;rw[zzag hl,hg]at hg';cases hg';rw[zzal (zzab _),zzdl]at ho;cases ho;rw[zzal (by omega),h2,zzdl];rfl
def Pp:∀{l dn:List Od}{M M':Md}{p:Pl},qc M l=some M'->M.os.length=dn.length->SL M dn p->SL M' (dn++l) p
 |[],dn,M,M',p,h,hn,hc=>by cases h;simpa using hc
 |o::r,dn,M,M',p,h,hn,hc=>by
  rw[qc]at h;cases ho:j4 M o with
  |none=>rw[ho]at h;cases h
  |some M2=>
   rw[ho]at h;obtain⟨h1,h2⟩:=aoH ho hn hc;have:=Pp h h2 h1;rwa [zzba,zzdw]at this
def Pq:∀{ps:List Pl}{i:Nat}{M M':Md},jZ i ps M=some M'->M.ps.length=i->(∀c j,af c M.pl=some j->0<=j/\j.toNat<i)->
  (∀p∈ps,Jz p=0/\SL M' [] p)/\M'.os=M.os/\∀c x,Hw M c=some x->Hw M' c=some x
 |[],i,M,M',h,hi,hp=>by cases h;exact⟨(fun p hp=>by cases hp),rfl,fun c x hx=>hx⟩
 |p::r,i,M,M',h,hi,hp=>by
  rw[jZ]at h;split at h
  ·cases h
  rename_i hn;rw[not_or]at hn;have hb:Jz p=0:=by omega
  have ue:af p.ch M.pl=none:=by
   cases hc:af p.ch M.pl with
   |none=>rfl
   |some j=>rw[hc]at hn;simp at hn
  have hq:∀c j,af c (Zt p.ch (i:Int) M.pl)=some j->0<=j/\j.toNat<i+1:=fun c j hc=>by
   rw[Vq]at hc;split at hc
   ·cases hc;omega
   have:=hp c j hc;omega
  obtain⟨h1,h2,h3⟩:=Pq h (by simp[hi]) hq
  have hme:Hw {M with pl:=Zt p.ch (i:Int) M.pl,ps:=M.ps++[[yq p]]} p.ch=some [yq p]:=by
   unfold Hw;simp only;rw[Vq,if_pos rfl,zzch,zzgg,zzal (by omega),hi,zzdl];rfl
  refine⟨fun q QA=>?_,h2,fun c x hx=>?_⟩
  ·rcases zzau.1 QA with rfl|QA
   ·exact⟨hb,[yq q],h3 _ _ hme,rfl,rfl,fun v o g ho _=>by simp at ho⟩
   exact h1 q QA
  refine h3 c x ?_;unfold Hw at hx |-
  simp only;rw[Vq];by_cases hc:c=p.ch
  ·rw[hc,ue]at hx;cases hx
  rw[if_neg hc];cases ha:af c M.pl with
  |none=>rw[ha]at hx;cases hx
  |some j=>
   rw[ha]at hx;simp only[zzch]at hx |-
   rw[zzag (zza.1 hx).1];exact hx
def aoI{ps:List Pl}{l:List Od}{M:Md}(h:Mw ps l=some M):∀p∈ps,Jz p=0/\SL M l p:=by
 unfold Mw at h;cases hn:Bs ps with
 |none=>rw[hn]at h;cases h
 |some M0=>
  rw[hn]at h;unfold Bs at hn;split at hn
  ·cases hn
  obtain⟨h1,h2,_⟩:=Pq hn rfl (fun c j hc=>by cases hc);exact fun p hp=>⟨(h1 p hp).1,by simpa using Pp h (by rw[h2];rfl) (h1 p hp).2⟩
def eX.sm{k:Nat}{g:Pg}(h:eX k g)(hk:k<=900):aoD g where
 sh:=by have:=h.sh;omega
 aL:=by have:=h.aL;omega
 ens:=by have:=h.ens;omega
 al:=fun e he=>(h.plc hk).2.2.2.2.2 e he
 bks:=by have:=h.bks;omega
 cls:=by have:=h.cls;omega
 ev:=by have:=h.small.1;omega
 eal:=fun e he=>by have:=(h.ep e he).2.2.1;omega
 cu:=by have:=h.cu;omega
 dr:=by have:=h.dr;omega
open Go Go.Abs
def ij(ps q:List Pl)(rt:Rt)(k:List Od):Nat->FuncId->List AV->AV:=fun d fn l=>if fn=11 then .bool true else if fn=12 then .sl (if ps=[]then .nil else .ro) (q.map Qc)else if fn=15 then .sl rt (k.map Qp)else if fn=31 then(match l with
 |[.agg cs]=>lT (dPl cs)
 |_=>.junk)else if fn=36 then .bool true else if fn=37 then(match l with
 |[.agg cs,.agg os]=>.agg (Qo (Zc (dPg cs) (dOd os)))
 |_=>.junk)else .gd false .junk
def au6(n:Nat)(md:Nat)(M:Md)(pid aQ:Nat)(bh:List Rt)(bO:Rt)(z:List AV)(ls:List Nat)(ms:Nat->LS)(mn:Nat)(f:Nat->AV)(m:AM):Prop:=
 ∃(i:Nat)(B:List (List AV)),f 7=I i/\i<=n/\ic B md M pid aQ bh bO z/\m=⟨B,ls,ms,mn⟩
def au7(B:List (List AV))(x:List Pg)(n:Nat)(ls:List Nat)(ms:Nat->LS)(mn:Nat)(f:Nat->AV)(m:AM):Prop:=
 ∃(v:Nat)(g:Pg)(C:List (List AV)),f 11=I v/\v<=n+1/\(v<=n->x[v]?=some g)/\m=⟨B++(Qo g::C),ls,ms,mn⟩
def law10(ps:List Pl)(l:List Od)(hp:aoA ps)(hl:l.length<=1000000000000):
  Pure Tryz.prog aq 10 [.sl .ro (ps.map Qc),.sl .ro (l.map Qp)] (.bool true):=by
 have k11:=abg;have k12:=sS ps;rw[Po]at k12;obtain⟨ayU,k15⟩:=zQ l hl;obtain⟨ho,Iv⟩:=ag5 l;have hps:=Pn hp;generalize hq:DS ps=q at k12 hps;generalize hk:Mv l=k at k15 ho Iv;refine Qn alc (ij ps q ayU k) (by simp) ?_;simp[abV,ij];refine⟨k11,k12,k15,an.wka (xs':=[.sl .ro (q.map Qc),.sl .ro (k.map Qp)]) ⟨Wk.sl _ _,Wk.sl _ _,trivial⟩ ?_⟩;refine SK Y0 _ q k hps ho (by omega) _ (fun hn ex ls=>?_) (fun M hM ex ls md pid aQ bh bO z ER hV aI hB aT dF=>?_)
 ·simp[alb,ij]
 have sC:=aT.own hB.hrts;have jg:=aoI hM;simp only at hB |-
 simp;refine Qi Ty (au6 q.length md M pid aQ bh bO z ls (fun _=>.gone) 0) (fun g _=>q.length-(numOf (g 7)).toNat) ?_ ?_
 ·exact⟨0,_,by simp,by omega,by simpa using hB,by simp⟩
 rintro f m ⟨i,B,h7,hi,oZ,rfl⟩;rcases zzaa i q.length with ai|bw
 ·obtain⟨p,hpi⟩:=aP ai;have Tl:=zzac hpi;obtain⟨hbe,x,x1,x2,x3,x4⟩:=jg p Tl;have hxm:=lE x1;have CY:=rN p (hps.be p Tl);have aa:Qh (q.map Qc) i=Qc p:=Qr (by simp[hpi]);have ah:(i:Int)<(q.length:Int):=by omega
  have hw:IntKind.i64.wrap ((i:Int)+1)=((i+1:Nat):Int):=by rw[Qk]<;>(have:=hps.len;omega)
  have KQ:dPl [I p.ch,I p.nu,I p.de,I p.of,.sl .ro (p.sh.map Qe),I p.ep,I p.rg,I p.ln,I p.fi,.sl .ro (p.aL.map Qm),.sl .ro (p.ens.map Qd),.sl .ro (p.bks.map Xa),.sl .ro (p.cls.map Qg)]=p:=uK p;simp only[Qc,lT,Qo,zzae,zzah]at CY;simp[h7,Ty,ai,ah,aa,Qc,ij,KQ,lT,Qo];refine⟨CY,?_⟩;refine Qi Tz (au7 B x k.length ls (fun _=>.gone) 0) (fun g _=>k.length+1-(numOf (g 11)).toNat) ?_ ?_
  ·refine⟨0,yq p,[],by simp,by omega,fun _=>x3,by simp[Qo,Qc]⟩
  rintro f2 m ⟨v,g,C,iz,hv,hg,rfl⟩;have hxl:∀y∈M.ps,y.length<=1000000:=fun y hy=>by have:=hV.n y hy;have:=hV.los;omega
  have kp:=fun C' cv K hK=>HP Y0 ⟨B++(Qo g::C'),ls,fun _=>.gone,0⟩ md M pid aQ bh bO z p.ch cv (oZ.ext _) sC hV.pgc hxl K hK;simp only[Qo,Qc,zzae,zzah]at kp;rcases zzaa k.length v with sj|bX
  ·obtain rfl:v=k.length+1:=by omega
   have hc:¬(k.length:Int)+1<=(k.length:Int):=by omega
   have eO:IntKind.i64.wrap ((k.length:Int)+1)=(k.length:Int)+1:=by rw[Qk]<;>omega
   have hp1:ig M p.ch ((k.length:Int)+1)=none:=by
    unfold ig;rw[x1,zzch,if_neg (by omega),show((k.length:Int)+1).toNat=k.length+1 by omega,zzez.2 (by omega)]
   have Cu:ig M p.ch (-1)=none:=by unfold ig;rw[x1];rfl
   simp[h7,iz,Tz,ai,aa,hc,ij,Qo,Qc,eO];refine kp _ _ _ fun eD=>?_;rw[hp1];simp[mQ,eP,ij,ai,aa,Qo,Qc];refine kp _ _ _ fun xH=>?_;rw[Cu];simp[mQ,eP,ij,hw];refine⟨aN,⟨i+1,_,by simp,by omega,oZ.ext _,rfl⟩,by omega⟩
  have hg:=hg bX;have hgp:=hV.pr x hxm v g hg;have hps:ig M p.ch (v:Int)=some g:=by unfold ig;rw[x1];simpa using hg
  have ks:=aoG g (hgp.sm (by have:=hV.los;have:=hV.n x hxm;have:=(zza.1 hg).1;omega));have ayV:(v:Int)<=(k.length:Int):=by omega
  simp only[Qo,Qc,zzae,zzah]at ks;simp[h7,iz,Tz,ayV,ai,aa,ij,Qo,Qc];refine kp _ _ _ fun eD=>?_;rw[hps];simp[mQ,eP,ij,ai,aa,Qo,Qc];refine⟨ks,?_⟩;have hwv:=bH v (by omega);by_cases hvl:v<k.length
  ·obtain⟨o,hov⟩:=aP hvl;have wJ:Qh (k.map Qp) v=Qp o:=Qr (by simp[hov]);have hx:=x4 v o g hov hg;have k37:=sZ g o (HG hgp.cT (by have:=hV.los;have:=hV.n x hxm;have:=(zza.1 hg).1;omega) (ho o (zzac hov)));have hdg:=O3 g;have hdo:=Pk o;simp only[Qo,Qc,Qp,Qd,Qg,Qj,zzae,zzah]at k37 hdg hdo;simp[hvl,wJ,Qp,Qd,Qg,Qj,ij,hdg,hdo,Qo,Qc,hwv];refine⟨k37,by omega,aN,⟨v+1,Zc (cT g) o,_,by simp,by omega,fun _=>hx,rfl⟩,by omega⟩
  simp[hvl,hwv,ij];refine⟨aN,⟨v+1,g,_,by simp,by omega,fun h=>by omega,rfl⟩,by omega⟩
 obtain rfl:i=q.length:=by omega
 simp[h7,Ty,alb,ij]
open Go Go.Abs
def HQ(c:Int):Pure Tryz.prog aq 43 [.nilv true,I c] (.sl .nil []):=by
 have:=DB;refine Qn TL (fun _ _ _=>.bool true) (by simp) ?_;simp[ab2,ab3];exact this
def abh:Pure Tryz.prog aq 20 [.nilv true,I 0,I 0] (.aU [.agg eP,.bool false]):=by
 have:=HQ 0;refine Qn TD (fun _ _ _=>.sl .nil []) (by simp) ?_;simp[alk,IL,eP];exact this
def HR:Pure Tryz.prog aq 23 [.nilv true,I 0,I 0,I 0] (.sl .nil []):=by
 have:=HQ 0;refine Qn TE (fun _ _ _=>.sl .nil []) (by simp) ?_;simp[IM,IN];exact this
def ag8:Pure Tryz.prog aq 27 [.nilv true,I 0,I 0,I 0,.agg [I 0,I 0,I 0]] (.bool false):=by
 have:=HR;refine Qn TG (fun _ _ _=>.sl .nil []) (by simp) ?_;simp[aln,PI];exact this
def aoJ(c:Int)(h0:0<=c)(h1:c<=39):qp (dJ c)=true:=by
 unfold qp Uv;rw[show wi (dJ c).ch 0 39=true from decide_eq_true ⟨h0,h1⟩];cbv
def aoK(c:Int):Uy (dJ c) [1,2] [] [] 0 (-1)=some [(1,0),(2,20)]:=by rw[<- DK];cbv
def aoL(c:Int)(h0:0<=c)(h1:c<=39):Jz (dJ c)=0:=by
 unfold Jz Ht;rw[aoJ c h0 h1,if_neg (by simp),if_neg (by simp)];show(match Uy (dJ c) [1,2] [] [] 0 (-1)with|none=>(90:Int)|some _=>0)=0;rw[aoK]
open Go Go.Abs
def tf:∀(ps:List Pl)(i:Nat)(M:Md),(jZ i ps M).isSome=true<->(∀p∈ps,Jz p=0/\af p.ch M.pl=none)/\ps.Pairwise fun a b=>a.ch≠b.ch
 |[],i,M=>by simp[jZ]
 |p::r,i,M=>by
  rw[jZ];by_cases hc:(af p.ch M.pl).isSome=true\/Jz p≠0
  ·rw[if_pos hc];constructor
   ·intro h;cases h
   rintro⟨h1,_⟩;obtain⟨k1,k2⟩:=h1 p (by simp);obtain hc|hc:=hc
   ·rw[k2]at hc;cases hc
   exact absurd k1 hc
  rw[not_or]at hc;have hb:Jz p=0:=by omega
  have ue:af p.ch M.pl=none:=by
   cases hx:af p.ch M.pl with
   |none=>rfl
   |some j=>rw[hx]at hc;simp at hc
  rw[if_neg (by rw[not_or];exact⟨by rw[ue];simp,by omega⟩),tf r (i+1) _,zzbz];simp only[Vq];constructor
  ·rintro⟨h1,h2⟩
   have key:∀q∈r,Jz q=0/\q.ch≠p.ch/\af q.ch M.pl=none:=fun q hq=>by
    obtain⟨k1,k2⟩:=h1 q hq;by_cases e:q.ch=p.ch
    ·rw[if_pos e]at k2;cases k2
    rw[if_neg e]at k2;exact⟨k1,e,k2⟩
   refine⟨fun q hq=>?_,fun q hq e=>(key q hq).2.1 e.symm,h2⟩;rcases zzau.1 hq with rfl|hq
   ·exact⟨hb,ue⟩
   exact⟨(key q hq).1,(key q hq).2.2⟩
  rintro⟨h1,h2,h3⟩;refine⟨fun q hq=>?_,h3⟩;have:=h1 q (by simp[hq]);rw[if_neg (fun e=>h2 q hq e.symm)];exact this
def iq(q:List Pl):Prop:=q≠[]/\(∀p∈q,Jz p=0)/\q.Pairwise fun a b=>a.ch≠b.ch
instance (q:List Pl):Decidable (iq q):=by unfold iq;infer_instance
def Bz{q:List Pl}(h:q.length<=40):(Bs q).isSome=decide (iq q):=by
 rw[zzbh,decide_eq_true_eq];unfold Bs iq;cases q with
 |nil=>simp
 |cons p r=>
  rw[if_neg (by simp at h |-;omega),tf];simp[md0,af]
def gdB(q:List Pl)(i:Nat):Bool:=decide (q≠[])&&((q.take i).all (fun p=>decide (Jz p=0))&&decide ((q.take i).Pairwise fun a b=>a.ch≠b.ch))
def gdH(q:List Pl)(i:Nat)(p:Pl)(k:Nat):Bool:=gdB q i&&(decide (Jz p=0)&&(q.take k).all fun a=>decide (a.ch≠p.ch))
def au8(q:List Pl):gdB q 0=decide (0<q.length):=by cases q<;>simp[gdB]
def au9(q:List Pl)(i:Nat)(p:Pl):gdH q i p 0=(gdB q i&&decide (Jz p=0)):=by simp[gdH]
def ava{q:List Pl}{i k:Nat}{p a:Pl}(h:q[k]?=some a):gdH q i p (k+1)=(gdH q i p k&&decide (a.ch≠p.ch)):=by
 unfold gdH;rw[zzar,h,zzek,zzdy];simp[Bool.and_assoc]
def avb{q:List Pl}{i:Nat}{p:Pl}(h:q[i]?=some p):gdB q (i+1)=gdH q i p i:=by
 unfold gdH gdB;rw[zzar,h,zzek,zzdy,zzbh];simp only[zzak,decide_eq_true_eq,zzbc,zzfp,zzbr,forall_eq,zzgt,true_and];constructor
 ·rintro⟨h1,⟨h2,h3⟩,h4,h5⟩;exact⟨⟨h1,h2,h4⟩,h3,fun a ha=>h5 a ha⟩
 rintro⟨⟨h1,h2,h4⟩,h3,h5⟩;exact⟨h1,⟨h2,h3⟩,h4,fun a ha=>h5 a ha⟩
def ag9(q:List Pl):gdB q q.length=decide (iq q):=by
 unfold gdB;rw[zzbn,zzbh,decide_eq_true_iff (p:=iq q)];unfold iq;simp only[zzak,decide_eq_true_eq,zzbc]
def lU(n:Nat):List Pl:=(List.range n).map fun i:Nat=>dJ (i:Int)
def aoM(n:Nat):lU (n+1)=lU n++[dJ (n:Int)]:=by unfold lU;rw[zzej,zzbw];rfl
def Wx(n:Nat):(lU n).length=n:=by simp[lU]
def abi(n:Nat):(Bs (lU n)).isSome=decide (1<=n/\n<=40):=by
 by_cases h:n<=40
 ·rw[Bz (by rw[Wx];exact h)];rw[zzbh,decide_eq_true_eq,decide_eq_true_eq];unfold iq;constructor
  ·rintro⟨h1,_⟩;refine⟨?_,h⟩;cases n with
   |zero=>exact absurd (show lU 0=[]from rfl) h1
   |succ n=>omega
  rintro⟨h1,_⟩;refine⟨fun e=>?_,fun p hp=>?_,?_⟩
  ·have:=Wx n;rw[e]at this;simp at this;omega
  ·obtain⟨i,hi,rfl⟩:=zzaw.1 hp;have:=zzbf.1 hi;exact aoL _ (by omega) (by omega)
  unfold lU;rw[List.pairwise_map];refine(List.pairwise_lt_range (n:=n)).imp fun{a b}XD=>?_;show(a:Int)≠(b:Int);omega
 have:Bs (lU n)=none:=by unfold Bs;rw[if_pos (.inr (by rw[Wx];omega))]
 rw[this];simp;omega
def aha(n:Nat)(h:n<=1000000):Mx (lU n):=by
 refine⟨by rw[Wx];exact h,fun p hp=>?_,fun p hp e he=>?_,fun p hp e he=>?_⟩
 ·obtain⟨i,_,rfl⟩:=zzaw.1 hp;exact⟨by simp[dJ],by simp[dJ],by simp[dJ],by simp[dJ],by simp[dJ],by simp[dJ]⟩
 ·obtain⟨i,_,rfl⟩:=zzaw.1 hp;simp[dJ]at he;rcases he with rfl|rfl<;>simp
 obtain⟨i,_,rfl⟩:=zzaw.1 hp;simp[dJ]at he;rcases he with rfl|rfl<;>simp
open Go Go.Abs
def ahb:SC:=(⟨_,by cbv⟩:tJ [1,1,1,1,1,1,1,1,1,1,1,1,1] sc8).1
def aoN:SC:=(⟨_,fun _=>by cbv⟩:Kt [1,1] (Kj [1,1,1,1,1,1,1,1,1,1,1] sc8)).1 ahb
def aoO:SC:=(⟨_,fun _=>by cbv⟩:Kt [1,1] (Kj [1,1,1,1,1,1,1,1,1] sc8)).1 aoN
def aoP:SC:=(⟨_,fun _=>by cbv⟩:Kt [1,1,1] (Kj [1,1,1,1,1,1] sc8)).1 aoO
def hd8:SC:=(⟨_,fun _=>by cbv⟩:Kt [1,1,1,1,1,1] sc8).1 aoP
theorem aoQ:sc8=hd8:=rfl
def BA(ps q:List Pl)(n:Int)(o:Od):Nat->FuncId->List AV->AV:=fun d fn l=>if fn=11 then .bool true else if fn=12 then .sl (if ps=[]then .nil else .ro) (q.map Qc)else if fn=31 then(match l with
 |[.agg cs]=>lT (dPl cs)
 |_=>.junk)else if fn=32 then I n else if fn=33 then .agg (Qc (dJ 0))else if fn=18 then .aU [I 0,I 0]else if fn=20 then .aU [.agg eP,.bool false]else if fn=16 then(if d=152 then I 1 else .gd false .junk)else if fn=23 then .sl .nil []else if fn=27 then .bool false else if fn=34 then .bool (Xr o)else .gd false .junk
def ayW(B:List (List AV))(ls:List Nat)(v e:AV):Prop:=
 (e=I 290/\v=.nilv true)\/(e=I 0/\∃(md:Nat)(M:Md)(pid aQ:Nat)(bh:List Rt)(bO:Rt)(z:List AV),v=.ptr md 0/\0<md/\0<aQ/\ic B md M pid aQ bh bO z/\Tx M/\M.os=[]/\dP ls bh M.ps/\ek ls bh bO M.os.length)
def ayX{M:Md}{o:Od}(h:M.os=[]):(j4 M o).isSome=(Xr o&&decide (o.sq=1)):=by
 unfold j4 DF;rw[h];cases Xr o<;>by_cases c:o.sq=1<;>simp[c]
def DU(ps q:List Pl)(n:Int)(o:Od)(E:List (Nat×AV))(B:List (List AV))(ls:List Nat)(ms:Nat->LS)(mn:Nat)(h5:Abs.look E 5=.ptr 0 0)(h7:Abs.look E 7=.bool true)(fC:Qh B 0=Qp o)(X9:0<B.length)
  (ho:j8 o)(hc:ayW B ls (Abs.look E 19) (Abs.look E 20)):
  vc Tryz.prog aq (BA ps q n o) Y0 ahb ⟨Zb 203 E,⟨B,ls,ms,mn⟩⟩ (post Tryz.prog aq (BA ps q n o) rs8 (.bool true)):=by
 have ei:o.nw.al.length<=8796093022208:=by unfold j8 at ho;omega
 have k18:=Sr 5;have k20:=abh;have k16:=aog o;have k23:=HR;have k27:=ag8;have y5:=Ph o ei;have MA:∀X,Qh (B++X) 0=Qp o:=fun X=>by rw[Ql X9,fC]
 simp only[eP]at k20;simp only[Qp,Qd,Qg,Qj,zzae,zzah]at MA k16 y5;obtain⟨h20,h19⟩|⟨h20,md,M,pid,aQ,bh,bO,z,h19,ER,hbid,hB,hV,Su,aT,dF⟩:=hc
 ·simp[ahb,h5,h7,h19,h20,MA,BA,rs8,eP];exact⟨k18,k20,k16,k23,k27⟩
 have abc:=fun X K h0 h1=>lD Y0 ⟨B++X,ls,ms,mn⟩ md M pid aQ bh bO z o (hB.ext X) aT dF hV.n (fun l hl g hg _=>HG (hV.pr l hl _ g hg).cT (by have:=hV.los;omega) ho) ei (by have:=hV.los;omega) K h0 h1;have h8:=ayX (o:=o) Su;simp only[Qp,Qd,Qg,Qj,zzae,zzah]at abc;simp[ahb,h5,h7,h19,h20,MA,BA,rs8,eP];refine⟨k18,k20,k16,k23,k27,?_⟩;refine abc _ _ (fun hn ex=>?_) (fun M2 hM2 B' dg rts' cR oZ eU _ _=>?_)
 ·rw[hn]at h8;simp at h8;cases hv:Xr o with
  |false=>
   rw[hv]at y5;simp[MA,BA,rs8,hv];exact y5
  |true=>
   rw[hv]at y5;have h9:¬o.sq=1:=h8 hv;simp[MA,BA,rs8,hv,h9];exact y5
 rw[hM2]at h8;simp at h8;have hr:=eU.2 0 (by simp) (by omega);have hl:=eU.1;simp only[MA]at hr;have me:0<B'.length:=by simp at hl;omega
 obtain⟨hv,h9⟩:=h8;rw[hv]at y5;simp[hr,me,BA,rs8,hv,h9];rw[h9]at y5;exact y5
def ahc(ps q:List Pl)(n:Int)(o:Od)(E:List (Nat×AV))(B:List (List AV))(ls:List Nat)(ms:Nat->LS)(mn:Nat)(h5:Abs.look E 5=.ptr 0 0)(h7:Abs.look E 7=.bool true)(fC:Qh B 0=Qp o)(X9:0<B.length)
  (ho:j8 o)(k:Nat)(hk:k<=46)(rt:Rt)(zu:Abs.look E 16=.sl rt ((lU k).map Qc)):
  vc Tryz.prog aq (BA ps q n o) Y0 aoN ⟨Zb 203 E,⟨B,ls,ms,mn⟩⟩ (post Tryz.prog aq (BA ps q n o) rs8 (.bool true)):=by
 have hps:=aha k (by omega);have qP:=abi k;have MA:∀X,Qh (B++X) 0=Qp o:=fun X=>by rw[Ql X9,fC]
 simp[aoN,zu,BA];refine an.wka (xs':=[.sl .ro ((lU k).map Qc)]) ⟨Wk.sl _ _,trivial⟩ ?_;refine p7 Y0 _ (lU k) hps.len hps.be _ (fun hn ex=>?_) (fun M hM ex md pid aQ z sE hB=>?_)
 ·rw[hn]at qP;have hf:¬(1<=k/\k<=40):=by simpa using qP
  by_cases c1:1<=k
  ·have c1':(1:Int)<=(k:Int):=by omega
   have c2':¬(k:Int)<=40:=by omega
   simp[Wx,c1,c1',c2'];exact DU ps q n o _ (B++ex) ls ms mn (by simp[h5]) (by simp[h7]) (MA _) (by simp;omega) ho (.inl ⟨by simp,by simp⟩)
  have c1':¬(1:Int)<=(k:Int):=by omega
  simp[Wx,c1,c1'];exact DU ps q n o _ (B++ex) ls ms mn (by simp[h5]) (by simp[h7]) (MA _) (by simp;omega) ho (.inl ⟨by simp,by simp⟩)
 rw[hM]at qP;have hf:1<=k/\k<=40:=by simpa using qP
 have c1':(1:Int)<=(k:Int):=by omega
 have c2':(k:Int)<=40:=by omega
 simp[Wx,c1',c2'];obtain⟨hV,Su⟩:=DJ hps.sh hM;have oI:B.length<=md:=sE.1;have AA:B.length<=aQ:=sE.2;exact DU ps q n o _ (B++ex) ls ms mn (by simp[h5]) (by simp[h7]) (MA _) (by simp;omega) ho (.inr ⟨by simp,md,M,pid,aQ,Bu M.ps.length,.nil,z,by simp,by omega,by omega,hB,hV,Su,DR _ _,.inl ⟨rfl,by rw[Su];rfl⟩⟩)
def ayY(i:Nat)(rt:Rt)(ls ls2:List Nat):Prop:=(i=0/\rt=.nil/\ls2=ls)\/(0<i/\rt=.own ls.length 13/\ls2=ls++[i])
def avc(n:Nat)(B:List (List AV))(ls:List Nat)(ms:Nat->LS)(mn:Nat)(f:Nat->AV)(m:AM):Prop:=
 ∃(i:Nat)(rt:Rt)(ls2:List Nat)(C:List (List AV)),f 17=I i/\i<=n/\f 16=.sl rt ((lU i).map Qc)/\ayY i rt ls ls2/\m=⟨B++C,ls2,ms,mn⟩
def Pr(ps q:List Pl)(n:Nat)(hn:n<=46)(c:Int)(hp:Pure Tryz.prog aq 32 [I c,I 46] (I n))(o:Od)(E:List (Nat×AV))(B:List (List AV))(ls:List Nat)(ms:Nat->LS)(mn:Nat)(h1:Abs.look E 1=I c)(h5:Abs.look E 5=.ptr 0 0)(h7:Abs.look E 7=.bool true)(fC:Qh B 0=Qp o)(X9:0<B.length)
  (ho:j8 o):
  vc Tryz.prog aq (BA ps q n o) Y0 aoO ⟨Zb 203 E,⟨B,ls,ms,mn⟩⟩ (post Tryz.prog aq (BA ps q n o) rs8 (.bool true)):=by
 have MA:∀X,Qh (B++X) 0=Qp o:=fun X=>by rw[Ql X9,fC]
 have k33:=By;simp[aoO];refine Qi abU (avc n B ls ms mn) (fun g _=>n-(numOf (g 17)).toNat) ?_ ?_
 ·exact⟨0,.nil,ls,[],by simp,by omega,by simp[lU],.inl ⟨rfl,rfl,rfl⟩,by simp⟩
 rintro f m ⟨i,rt,ls2,C,h17,hi,zu,hO,rfl⟩;rcases zzaa i n with ai|bw
 ·have ah:(i:Int)<(n:Int):=by omega
  have hw:=bH i (by omega);have hs:=aoM i;have hl:=Wx i;simp only[Qc]at k33
  have hr:∀(x:List AV)(l:List Pl),(∀row,row∈l.map Qc->row.length=13):=fun _ l row h=>by
   obtain⟨a,_,rfl⟩:=zzaw.1 h;rfl
  obtain⟨rfl,rfl,rfl⟩|⟨h0,rfl,rfl⟩:=hO
  ·have h00:lU 0=[]:=rfl;have eO:IntKind.i64.wrap 1=1:=by rw[Qk]<;>omega
   simp[h1,zu,h17,abU,BA,ah,ai,Qc,h00,eO];refine⟨hp,k33,aN,⟨0+1,_,_,_,by simp,by omega,by rw[hs];simp[Qc,dJ,h00],.inr ⟨by omega,rfl,rfl⟩,rfl⟩,by omega⟩
  simp[h1,zu,h17,abU,BA,ah,ai,Qc,hl,hw];refine⟨hp,k33,⟨by rintro row (⟨a,_,rfl⟩|rfl)<;>rfl,by omega⟩,ag ?_,⟨i+1,_,_,_,by simp,by omega,by rw[hs];simp[Qc,dJ],.inr ⟨by omega,rfl,rfl⟩,rfl⟩,by omega⟩;repeat(first|exact Qa _ _|refine Qb _ rfl ?_)
 obtain rfl:i=n:=by omega
 simp[h1,zu,h17,abU,BA];exact⟨hp,ahc ps q i o _ (B++C) ls2 ms mn (by simp[h5]) (by simp[h7]) (MA _) (by simp;omega) ho i hn rt (by simp)⟩
def avd(q:List Pl)(B:List (List AV))(ls:List Nat)(ms:Nat->LS)(mn:Nat)(f:Nat->AV)(m:AM):Prop:=
 ∃(i:Nat)(C:List (List AV)),f 11=I i/\i<=q.length/\f 10=.bool (gdB q i)/\m=⟨B++C,ls,ms,mn⟩
def ave(q:List Pl)(i:Nat)(p:Pl)(B:List (List AV))(ls:List Nat)(ms:Nat->LS)(mn:Nat)(f:Nat->AV)(m:AM):Prop:=
 ∃(k:Nat)(C:List (List AV)),f 15=I k/\k<=i/\f 10=.bool (gdH q i p k)/\m=⟨B++C,ls,ms,mn⟩
def Pt(ps q:List Pl)(hps:Mx q)(n:Nat)(hn:n<=46)(c:Int)(hp:Pure Tryz.prog aq 32 [I c,I 46] (I n))(o:Od)(E:List (Nat×AV))(B:List (List AV))(ls:List Nat)(ms:Nat->LS)(mn:Nat)(rt:Rt)(e:Int)(h0:Abs.look E 0=.sl rt (q.map Qc))(h1:Abs.look E 1=I c)(h5:Abs.look E 5=.ptr 0 0)(h7:Abs.look E 7=.bool true)(h9:Abs.look E 9=I e)
  (he:(e=0/\iq q)\/(e=290/\¬iq q))(fC:Qh B 0=Qp o)(X9:0<B.length)(ho:j8 o):
  vc Tryz.prog aq (BA ps q n o) Y0 aoP ⟨Zb 203 E,⟨B,ls,ms,mn⟩⟩ (post Tryz.prog aq (BA ps q n o) rs8 (.bool true)):=by
 have MA:∀X,Qh (B++X) 0=Qp o:=fun X=>by rw[Ql X9,fC]
 have aI:=hps.len;simp[aoP,h0];refine Qi abS (avd q B ls ms mn) (fun g _=>q.length-(numOf (g 11)).toNat) ?_ ?_
 ·exact⟨0,[],by simp,by omega,by simp[au8],by simp⟩
 rintro f m ⟨i,C,iz,hi,kS,rfl⟩;rcases zzaa i q.length with ai|bw
 ·obtain⟨p,hpi⟩:=aP ai;have ah:(i:Int)<(q.length:Int):=by omega
  have hw:=bH i (by omega);have aa:Qh (q.map Qc) i=Qc p:=Qr (by simp[hpi]);have CY:=rN p (hps.be p (zzac hpi));have KQ:dPl [I p.ch,I p.nu,I p.de,I p.of,.sl .ro (p.sh.map Qe),I p.ep,I p.rg,I p.ln,I p.fi,.sl .ro (p.aL.map Qm),.sl .ro (p.ens.map Qd),.sl .ro (p.bks.map Xa),.sl .ro (p.cls.map Qg)]=p:=uK p;have hh0:=au9 q i p;have hgs:=avb hpi;simp only[Qc,lT,Qo,zzae,zzah]at CY;simp[h0,kS,iz,abS,ai,ah,aa,Qc,BA,KQ,lT,Qo];refine⟨CY,?_⟩;refine Qi abT (ave q i p B ls ms mn) (fun g _=>i-(numOf (g 15)).toNat) ?_ ?_
  ·exact⟨0,_,by simp,by omega,by simp[hh0];rfl,by simp;rfl⟩
  rintro f2 m ⟨k,C2,oh,hk,h102,rfl⟩;rcases zzaa k i with eT|eT
  ·obtain⟨a,hak⟩:∃a,q[k]?=some a:=⟨_,zzad (by omega)⟩;have hs:=ava (i:=i) (p:=p) hak;have wJ:Qh (q.map Qc) k=Qc a:=Qr (by simp[hak]);have zj:k<q.length:=by omega
   have avf:(k:Int)<(q.length:Int):=by omega
   have avg:(k:Int)<(i:Int):=by omega
   have Oe:=bH k (by omega);cases hv:gdH q i p k with
   |false=>
    rw[hv]at hs h102;simp[h0,iz,oh,h102,abT,eT,avg,zj,avf,ai,ah,aa,wJ,Qc,Oe];refine⟨aN,⟨k+1,_,by simp,by omega,by simp[hs],rfl⟩,by omega⟩
   |true=>
    rw[hv]at hs h102;simp[h0,iz,oh,h102,abT,eT,avg,zj,avf,ai,ah,aa,wJ,Qc,Oe];refine⟨aN,⟨k+1,_,by simp,by omega,by by_cases c:a.ch=p.ch<;>simp[hs,c],rfl⟩,by omega⟩
  obtain rfl:k=i:=by omega
  simp[iz,oh,h102,abT,hw];refine⟨aN,⟨k+1,_,by simp,by omega,by simp[hgs,h102],rfl⟩,by omega⟩
 obtain rfl:i=q.length:=by omega
 have bw:=ag9 q;obtain⟨rfl,hg⟩|⟨rfl,hg⟩:=he
 ·simp[h0,h9,kS,iz,abS,bw,hg];exact Pr ps q n hn c hp o _ (B++C) ls ms mn (by simp[h1]) (by simp[h5]) (by simp[h7]) (MA _) (by simp;omega) ho
 simp[h0,h9,kS,iz,abS,bw,hg];exact Pr ps q n hn c hp o _ (B++C) ls ms mn (by simp[h1]) (by simp[h5]) (by simp[h7]) (MA _) (by simp;omega) ho
def law8(ps:List Pl)(c:Int)(o:Od)(hp:aoA ps)(h0: -9223372036854775808<=c)(h1:c<=9223372036854775807)(ei:o.nw.al.length<=8796093022208):
  Pure Tryz.prog aq 8 [.sl .ro (ps.map Qc),I c,.agg (Qp o)] (.bool true):=by
 have k11:=abg;have k12:=sS ps;rw[Po]at k12;have hps:=Pn hp;have h3:(DS ps).length<=3:=by simp[DS];omega
 generalize hq:DS ps=q at k12 hps h3;have k32:=SM c 46 h0 h1 (by omega)
 obtain⟨n,hn,avh⟩:∃n:Nat,tg c 46=n/\n<=46:=by
  have:=SN c 46 (by omega);exact⟨(tg c 46).toNat,by omega,by omega⟩
 rw[hn]at k32;generalize hoc:ua o o.sq o.fr=oc;have hoo:j8 oc:=by rw[<- hoc];unfold j8 ua;simp;omega
 have t1:List.take (if(9:Int)<(o.nw.al.length:Int)then(9:Int)else(o.nw.al.length:Int)).toNat (o.nw.al.map Qe)=List.take 9 (o.nw.al.map Qe):=by
  have:=Qdi (o.nw.al.map Qe) 9;rw[zzbg]at this;exact this
 have a1:=pW (a:=o.nw.al.length) 9;have b1:=pX (a:=o.nw.al.length) 9;have a2:=pW (a:=o.cu.tx.size) 300;have b2:=pX (a:=o.cu.tx.size) 300
 have e2:(if(300:Int)<(o.cu.tx.size:Int)then(300:Int)else(o.cu.tx.size:Int)).toNat=if 300<o.cu.tx.size then 300 else o.cu.tx.size:=by
  by_cases h:300<o.cu.tx.size
  ·rw[if_pos h,if_pos (by omega)];rfl
  rw[if_neg h,if_neg (by omega)];omega
 simp at a1 b1 a2 b2
 have F7:Qp oc=[I o.sq,I o.ch,I o.fr,I o.ki,I o.en,I o.n,I o.nw.id,I o.nw.it,I o.nw.fr,I o.nw.ea,I o.nw.la,I o.nw.bo,.sl .ro (List.take 9 (o.nw.al.map Qe)),
  I o.cl.ki,I o.cl.it,I o.cl.fr,I o.cl.to,I o.cl.re,I o.cl.n,I o.cl.a,I o.cl.b,I o.cu.id,I o.cu.fr,I o.cu.to,I o.cu.pr,.str (o.cu.tx.extract 0 (if 300<o.cu.tx.size then 300 else o.cu.tx.size))]:=by
  rw[<- hoc];simp[Qp,Qd,Qg,Qj,ua,zzhk]
 have dy:∀(row:List AV)(x x_1:Int),(x,x_1)∈o.nw.al->Qe (x,x_1)=row->row.length=2:=by rintro row a b _ rfl;rfl
 refine Qn apH (BA ps q n oc) (by simp) ?_;simp[aoQ,hd8,Qp,Qd,Qg,Qj,BA,t1,a1,b1,a2,b2,e2];refine⟨k11,dy,k12,?_⟩;rw[<- F7];refine an.wka (xs':=[.sl .ro (q.map Qc)]) ⟨Wk.sl _ _,trivial⟩ ?_;have Pu:=Bz (q:=q) (by omega);refine p7 Y0 _ q hps.len hps.be _ (fun hn ex=>?_) (fun M hM ex md pid aQ z sE hB=>?_)
 ·rw[hn]at Pu;have hg:¬iq q:=by simpa using Pu
  simp;exact Pt ps q hps n avh c k32 oc _ _ _ _ _ _ 290 (by simp;rfl) (by simp) (by simp) (by simp) (by simp) (.inr ⟨rfl,hg⟩) (by simp) (by simp) hoo
 rw[hM]at Pu;have hg:iq q:=by simpa using Pu
 simp;exact Pt ps q hps n avh c k32 oc _ _ _ _ _ _ 0 (by simp;rfl) (by simp) (by simp) (by simp) (by simp) (.inl ⟨rfl,hg⟩) (by simp) (by simp) hoo
end
end Go.Proofs.YtnopaopphmjnmaaGreatDoor
