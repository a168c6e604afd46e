import Derived.Test.YtnopaopphmjnmaaGreatDoorMLMcN
set_option linter.all false
set_option maxRecDepth 100000
set_option maxHeartbeats 64000000
namespace Go.Proofs.YtnopaopphmjnmaaGreatDoor
noncomputable section
open Go Go.Abs
def cQ(g:Pg):Pg:={g with ev:=g.ev.map Sk}
def SK(g:Pg):Qo (cQ g)=Qo g:=by
 unfold Qo cQ;simp only[By]
def dEv(l:List AV):bD:=⟨dI (dN l 0),dI (dN l 1),dI (dN l 2),dI (dN l 3),dI (dN l 4),dI (dN l 5),(dR (dN l 6)).map dSp,false⟩
def dS:AV->ByteArray
 |.str s=>s
 |_=>⟨#[]⟩
def dCu(l:List AV):Cue:=⟨dI (dN l 0),dI (dN l 1),dI (dN l 2),dI (dN l 3),dS (dN l 4)⟩
def dPg(l:List AV):Pg:=⟨dPl l,(dR (dN l 13)).map dEv,(dR (dN l 14)).map dCu,dI (dN l 15),(dR (dN l 16)).map fun r=>dI (dN r 0),dI (dN l 17)⟩
def O4(l:List bD):(l.map Qf).map dEv=l.map Sk:=by
 rw[zzcy];refine zzd fun e _=>?_;show(⟨e.id,e.it,e.st,e.fr,e.i,e.re,(e.al.map Qe).map dSp,false⟩:bD)=Sk e;rw[Qdy DK];rfl
def agD(g:Pg):dPg (Qo g)=cQ g:=by
 show(⟨dPl (Qb g.p),(g.ev.map Qf).map dEv,(g.cu.map Qj).map dCu,g.ed,(g.dr.map Qy).map (fun r=>dI (dN r 0)),g.ve⟩:Pg)=cQ g;rw[DL,O4,Qdy (fun _=>rfl),Qdy (fun _=>rfl)];rfl
def HM(g:Pg)(o:Od)(h:Sn (cQ g) o):Pure Tryz.prog az 37 [.agg (Qo g),.agg (Qq o)] (.agg (Qo (Xz (cQ g) o))):=by
 have:=L3 (cQ g) o h;rw[SK]at this;exact this
def O9:SC:=(⟨_,by cbv⟩:tM [1,1,1,1,1] IW).1
def aaV:SC:=(⟨_,fun _=>by cbv⟩:uw [1] (tL [1,1,1,1] IW)).1 O9
def atT:SC:=(⟨_,fun _=>by cbv⟩:uw [1,1,1,1] IW).1 aaV
theorem agE:IW=atT:=rfl
def HD(M:Md)(o:Od):Bool:=!Xx o||(decide (o.sq≠(M.os.length:Int)+1)||(match M.os.getLast? with
 |none=>false
 |some x=>decide (o.fr<x.2)))
def Yh(o:Od)(n:Nat)(l:List Pg):List Pg:=l++(l[n]?.map fun g=>Xz (cQ g) o).toList
def DP(M:Md)(o:Od):Option Md:=if HD M o=true then none else some {M with ps:=M.ps.map (Yh o M.os.length),os:=M.os++[(o.sq,o.fr)]}
def ef(ls:List Nat)(bh:List Rt)(ps:List (List Pg)):Prop:=
 (∀(i:Nat)(rt:Rt)(l:List Pg),bh[i]?=some rt->ps[i]?=some l->rt=.full\/∃k,rt=.own k 18/\ls[k]?=some l.length)/\∀(i j k:Nat),bh[i]?=some (.own k 18)->bh[j]?=some (.own k 18)->i=j
def eL(ls:List Nat)(bh:List Rt)(bO:Rt)(n:Nat):Prop:=(bO=.nil/\n=0)\/∃k,bO=.own k 26/\ls[k]?=some n/\∀i:Nat,bh[i]?≠some (.own k 18)
def j9(o:Od)(n:Nat):Nat->FuncId->List AV->AV:=fun d fn l=>if fn=39 then .gd false .junk else if fn=40 then .bool (Xx o)else if fn=37 then(match l with
 |[.agg cs,_]=>.agg (Qo (Xz (dPg cs) o))
 |_=>.junk)else .junk
def gm.aaW{B:List (List AV)}{md:Nat}{M:Md}{pid aQ:Nat}{bh:List Rt}{bO:Rt}{z:List AV}(h:gm B md M pid aQ bh bO z)(zT:md≠pid)(gE:md≠aQ)(os':List (Int×Int))(cZ:Rt)(hl:os'.length<=1000)(hr:s5 cZ .ro):
  gm (B.set md [.mp pid,.bs aQ 0 M.ps.length 1,.sl cZ (os'.map Ww)]) md {M with os:=os'} pid aQ bh cZ z:=
 ⟨by have:=h.Iu;simpa using this,Vp _ h.Iu,by have:=h.hpid;simpa using this,by rw[Zy _ zT];exact h.map,by have:=h.hbid;simpa using this,by rw[Zy _ gE];exact h.hps,h.hrts,h.ne,h.gG,h.len,hl,.inl hr⟩
def bn.aaX{S:Nat->Prop}{B l B':List (List AV)}(h:bn S (B++l) B'):bn S B B':=
 ⟨by have:=h.1;simp at this;omega,fun j hj hs=>by rw[h.2 j (by simp;omega) hs,Ql hj]⟩
def HN{bh:List Rt}{ps:List (List Pg)}{i:Nat}{rt:Rt}{l:List Pg}(hl:bh.length=ps.length)(hi:i<ps.length):(j4 bh ps).set i (.sl rt (l.map Qo))=j4 (bh.set i rt) (ps.set i l):=by
 unfold j4;apply zzcm;intro j;rw[zzcx,zzfr,zzfr,zzcx,zzcx,List.length_zipWith];by_cases hj:i=j
 ·subst hj;simp[hl,hi]
 simp[hj]
def aaY(Y:YT)(o:Od)(n:Nat)(E:List (Nat×AV))(B:List (List AV))(ls:List Nat)(ms:Nat->LS)(mn:Nat)(md:Nat)(M:Md)(pid aQ:Nat)(bh:List Rt)(bO:Rt)(z:List AV)(n0:Nat)(Q:Exit->AS->Prop)
  (h:gm B md M pid aQ bh bO z)(dM:eL ls bh bO M.os.length)(hos:M.os.length<=900)(eN:n0<B.length)(uz:Qh B n0=Qq o)(e0:Abs.look E 0=.ptr md 0)(e3:Abs.look E 3=.ptr n0 0)(aK:n0≠md)
  (zT:md≠pid)(gE:md≠aQ)(hrl:∀(i k:Nat),bh[i]?=some (.own k 18)->k<ls.length)
  (hQ:∀E' B' dx cZ,Abs.look E' 4=I 0->gm B' md {M with os:=M.os++[(o.sq,o.fr)]} pid aQ bh cZ z->bn (fun j=>j=md\/j=aQ) B B'->(∀(i k l:Nat),bh[i]?=some (.own k 18)->ls[k]?=some l->dx[k]?=some l)->eL dx bh cZ (M.os.length+1)->Q .ret ⟨Zf 83 E',⟨B',dx,ms,mn⟩⟩):
  vc Tryz.prog az (j9 o n) Y O9 ⟨Zf 83 E,⟨B,ls,ms,mn⟩⟩ Q:=by
 have q1:=h.row;have q2:=h.Iu;simp only[Qq,Qd,Qg,Qj,zzae,zzai]at uz;obtain⟨rfl,h0⟩|⟨k,rfl,hk,hd⟩:=dM
 ·have he:M.os=[]:=zzav h0;simp[O9];refine Xu ?_;simp[e0,e3,q1,q2,uz,j9,he];have e:(M.os++[(o.sq,o.fr)]).map Ww=[Ww (o.sq,o.fr)]:=by rw[he];rfl
  have hM:=h.aaW zT gE (M.os++[(o.sq,o.fr)]) (.own ls.length 26) (by simp[he]) (s5.own _ _)
  have hD:∀i:Nat,bh[i]?≠some (.own ls.length 18):=fun i hi=>by
   have:=hrl i _ hi;omega
  have:=fun E' h4=>hQ E' _ (ls++[1]) (.own ls.length 26) h4 hM ((bn.refl _ _).set (.inl (.inl rfl)) _) (fun i k l _ hk=>by rw[zzag (zza.1 hk).1];exact hk) (.inr ⟨_,rfl,by simp[he],hD⟩);simp only[e]at this;exact this _ (by simp)
 have pG:∀a∈M.os,(Ww a).length=26:=fun _ _=>rfl;have e:(M.os++[(o.sq,o.fr)]).map Ww=M.os.map Ww++[Ww (o.sq,o.fr)]:=by simp
 have hM:=h.aaW zT gE (M.os++[(o.sq,o.fr)]) (.own k 26) (by simp;omega) (s5.own _ _);have oz:=(zza.1 hk).1
 have:=fun E' h4=>hQ E' _ (ls.set k (M.os.length+1)) (.own k 26) h4 hM ((bn.refl _ _).set (.inl (.inl rfl)) _) (fun i k' l hi zk=>by
  have:k≠k':=by rintro rfl;exact hd i hi
  rw[zzbe this];exact zk) (.inr ⟨_,rfl,by simp[oz],hd⟩)
 simp only[e]at this;simp[O9];refine Xu ?_;simp[e0,e3,q1,q2,uz,hk];exact⟨⟨by rintro row (⟨a,b,_,rfl⟩|rfl)<;>rfl,by omega⟩,this _ (by simp)⟩
def ef.lt{ls:List Nat}{bh:List Rt}{ps:List (List Pg)}(h:ef ls bh ps)(hl:bh.length=ps.length):∀(i k:Nat),bh[i]?=some (.own k 18)->k<ls.length:=fun i k hi=>by
 have h1:=(zza.1 hi).1;rcases h.1 i _ _ hi (zzac (by omega))with e|⟨k',e,hk⟩
 ·cases e
 cases e;exact(zza.1 hk).1
def ef.more{ls:List Nat}{bh:List Rt}{ps:List (List Pg)}(h:ef ls bh ps)(hl:bh.length=ps.length){i:Nat}{rt:Rt}{l l':List Pg}(hi:bh[i]?=some rt)(hp:ps[i]?=some l)(ey:l'.length=l.length+1):
  (rt=.full->ef (ls++[l'.length]) (bh.set i (.own ls.length 18)) (ps.set i l'))/\∀k,rt=.own k 18->ef (ls.set k l'.length) bh (ps.set i l'):=by
 have ai:=h.lt hl;have eS:=(zza.1 hi).1;constructor
 ·rintro rfl;refine⟨fun j JR l2 hj E3=>?_,fun a b k ha hb=>?_⟩
  ·rw[zzcx]at hj E3;by_cases eM:i=j
   ·subst eM;rw[if_pos rfl,if_pos eS]at hj;rw[if_pos rfl,if_pos (by omega)]at E3;cases hj;cases E3;exact .inr ⟨_,rfl,by simp⟩
   rw[if_neg eM]at hj E3;rcases h.1 j JR l2 hj E3 with e|⟨k,e,hk⟩
   ·exact .inl e
   exact .inr ⟨k,e,by rw[zzag (zza.1 hk).1];exact hk⟩
  rw[zzcx]at ha hb;by_cases e1:i=a
  ·rw[if_pos e1,if_pos eS]at ha;cases ha;by_cases e2:i=b
   ·omega
   rw[if_neg e2]at hb;exact absurd (ai b _ hb) (by omega)
  rw[if_neg e1]at ha;by_cases e2:i=b
  ·rw[if_pos e2,if_pos eS]at hb;cases hb;exact absurd (ai a _ ha) (by omega)
  rw[if_neg e2]at hb;exact h.2 a b k ha hb
 rintro k rfl;refine⟨fun j JR l2 hj E3=>?_,h.2⟩;rw[zzcx]at E3;by_cases eM:i=j
 ·subst eM;rw[hi]at hj;cases hj;simp only[if_true]at E3;split at E3
  ·cases E3;exact .inr ⟨k,rfl,by rw[zzb (ai i k hi)]⟩
  cases E3
 rw[if_neg eM]at E3;rcases h.1 j JR l2 hj E3 with e|⟨k2,e,hk⟩
 ·exact .inl e
 refine .inr ⟨k2,e,?_⟩
 have aK:k≠k2:=by
  rintro rfl;subst e;exact eM (h.2 i j k hi hj)
 rw[zzbe aK];exact hk
def gm.akl{B:List (List AV)}{md:Nat}{M:Md}{pid aQ:Nat}{bh rts':List Rt}{bO:Rt}{z:List AV}(h:gm B md M pid aQ bh bO z)(hbm:aQ≠md)(hbp:aQ≠pid){ps':List (List Pg)}(hl:ps'.length=M.ps.length)(hr:rts'.length=bh.length):
  gm (B.set aQ (j4 rts' ps'++z)) md {M with ps:=ps'} pid aQ rts' bO z:=
 ⟨by have:=h.Iu;simpa using this,by rw[Zy _ hbm,h.row];simp[hl],by have:=h.hpid;simpa using this,by rw[Zy _ hbp];exact h.map,by have:=h.hbid;simpa using this,Vp _ h.hbid,by rw[hr,h.hrts,hl],
  fun e=>h.ne (zzav (by have:=congrArg List.length e;simp only[zzch]at this;omega)),fun c j hc=>by have:=h.gG c j hc;simp only[hl];exact this,by simp only[hl];exact h.len,h.los,h.hrto⟩
def gm.nes{B:List (List AV)}{md:Nat}{M:Md}{pid aQ:Nat}{bh:List Rt}{bO:Rt}{z:List AV}(h:gm B md M pid aQ bh bO z):md≠pid/\md≠aQ/\aQ≠pid:=by
 have hps:∃rt l r,Qh B aQ=.sl rt l::r:=by
  rw[h.hps];have h1:=h.hrts;cases hp:M.ps with
  |nil=>exact absurd hp h.ne
  |cons a r=>cases hr:bh with
   |nil=>rw[hp,hr]at h1;simp at h1
   |cons b s=>exact⟨b,a.map Qo,j4 s r++z,rfl⟩
 obtain⟨rt,l,r,hps⟩:=hps;refine⟨fun e=>?_,fun e=>?_,fun e=>?_⟩
 ·have:=h.row;rw[e,h.map]at this;simp at this
 ·have:=h.row;rw[e,hps]at this;simp at this
 rw[e,h.map]at hps;simp at hps
def gm.axJ{B:List (List AV)}{md:Nat}{M:Md}{pid aQ:Nat}{bh:List Rt}{bO:Rt}{z:List AV}(h:gm B md M pid aQ bh bO z){n0:Nat}{o:Od}(ho:Qh B n0=Qq o):aQ≠n0/\md≠n0:=by
 refine⟨fun e=>?_,fun e=>?_⟩
 ·have h1:=h.hrts;rw[<- e,h.hps]at ho;cases hp:M.ps with
  |nil=>exact absurd hp h.ne
  |cons a r=>cases hr:bh with
   |nil=>rw[hp,hr]at h1;simp at h1
   |cons b s=>rw[hp,hr]at ho;simp[j4,Qq]at ho
 have:=h.row;rw[e,ho]at this;simp[Qq]at this
def eL.grow{ls:List Nat}{bh:List Rt}{bO:Rt}{n i:Nat}(h:eL ls bh bO n)(x:Nat):eL (ls++[x]) (bh.set i (.own ls.length 18)) bO n:=by
 obtain h|⟨k,h1,h2,h3⟩:=h
 ·exact .inl h
 have hk:=(zza.1 h2).1;refine .inr ⟨k,h1,by rw[zzag hk];exact h2,fun j hj=>?_⟩;rw[zzcx]at hj;by_cases e:i=j
 ·rw[if_pos e]at hj;split at hj
  ·cases hj;omega
  cases hj
 rw[if_neg e]at hj;exact h3 j hj
def eL.put{ls:List Nat}{bh:List Rt}{bO:Rt}{n i k:Nat}(h:eL ls bh bO n)(hi:bh[i]?=some (.own k 18))(x:Nat):eL (ls.set k x) bh bO n:=by
 obtain h|⟨k',h1,h2,h3⟩:=h
 ·exact .inl h
 have:k≠k':=by rintro rfl;exact h3 i hi
 exact .inr ⟨k',h1,by rw[zzbe this];exact h2,h3⟩
def agF{ps:List (List Pg)}{i:Nat}{l:List Pg}{f:List Pg->List Pg}(h:ps[i]?=some l):((ps.take i).map f++ps.drop i).set i (f l)=(ps.take (i+1)).map f++ps.drop (i+1)/\((ps.take i).map f++ps.drop i)[i]?=some l/\((ps.take i).map f++ps.drop i).length=ps.length:=by
 have ai:=(zza.1 h).1;have hd:ps.drop i=l::ps.drop (i+1):=by rw[zzaf ai,(zza.1 h).2]
 have mD:((ps.take i).map f).length=i:=by rw[zzbg,zzaq];omega
 refine⟨?_,?_,?_⟩
 ·rw[zzcs _ _ (by omega),mD,zzdn,hd,List.set_cons_zero,zzas,h];simp
 ·rw[zzal (by omega),mD,zzdn,hd];rfl
 rw[zzah,mD,zzcr];omega
def atU(B0:List (List AV))(M:Md)(o:Od)(md pid aQ:Nat)(bO:Rt)(z:List AV)(n0:Nat)(ms:Nat->LS)(mn:Nat)(s:Nat->AV)(m:AM):Prop:=
 ∃(i:Nat)(B:List (List AV))(ls:List Nat)(bh:List Rt),s 48=I i/\i<=M.ps.length/\m=⟨B,ls,ms,mn⟩/\
  gm B md {M with ps:=(M.ps.take i).map (Yh o M.os.length)++M.ps.drop i} pid aQ bh bO z/\ef ls bh ((M.ps.take i).map (Yh o M.os.length)++M.ps.drop i)/\eL ls bh bO M.os.length/\n0<B.length/\Qh B n0=Qq o/\bn (fun j=>j=md\/j=aQ) B0 B
def HO(Y:YT)(o:Od)(E:List (Nat×AV))(B:List (List AV))(ls:List Nat)(ms:Nat->LS)(mn:Nat)(md:Nat)(M:Md)(pid aQ:Nat)(bh:List Rt)(bO:Rt)(z:List AV)(n0:Nat)(Q:Exit->AS->Prop)
  (h:gm B md M pid aQ bh bO z)(hr:ef ls bh M.ps)(dM:eL ls bh bO M.os.length)(hos:M.os.length<=900)(eN:n0<B.length)(uz:Qh B n0=Qq o)
  (hn:∀l∈M.ps,l.length=M.os.length+1)(hap:∀l∈M.ps,∀g,l[M.os.length]?=some g->Sn (cQ g) o)
  (e0:Abs.look E 0=.ptr md 0)(e3:Abs.look E 3=.ptr n0 0)(e5:Abs.look E 5=I M.os.length)
  (hQ:∀E' B' dx rts' cZ,Abs.look E' 4=I 0->gm B' md {M with ps:=M.ps.map (Yh o M.os.length),os:=M.os++[(o.sq,o.fr)]} pid aQ rts' cZ z->bn (fun j=>j=md\/j=aQ) B B'->ef dx rts' (M.ps.map (Yh o M.os.length))->eL dx rts' cZ (M.os.length+1)->Q .ret ⟨Zf 83 E',⟨B',dx,ms,mn⟩⟩):
  vc Tryz.prog az (j9 o M.os.length) Y aaV ⟨Zf 83 E,⟨B,ls,ms,mn⟩⟩ Q:=by
 have q1:=h.row;have q2:=h.Iu;simp[aaV,e0,q1];refine Qi ML (atU B M o md pid aQ bO z n0 ms mn) (fun s _=>M.ps.length-(numOf (s 48)).toNat) ?_ ?_
 ·exact⟨0,B,ls,bh,by simp,by omega,rfl,by simpa using h,by simpa using hr,dM,eN,uz,bn.refl _ _⟩
 rintro s m ⟨i,B,ls,bh,OW,hi,rfl,h,hr,dM,eN,uz,fG⟩;obtain⟨n1,n2,n3⟩:=h.nes;have h4:=h.axJ uz;have anH:=uz;have q1:=h.row;have q2:=h.Iu;have q3:=h.hps;have q4:=h.hbid;have gG:((M.ps.take i).map (Yh o M.os.length)++M.ps.drop i).length=M.ps.length:=by rw[zzah,zzbg,zzaq,zzcr];omega
 have q5:=h.len;simp only[gG]at q1 q3 q5;rcases zzaa i M.ps.length with ai|bu
 ·obtain⟨l,hl⟩:=aS ai;obtain⟨p1,p2,p3⟩:=agF (f:=Yh o M.os.length) hl;obtain⟨rt,aR,zT⟩:=Hs h.hrts p2;have wI:=hn l (zzad hl);obtain⟨g,hg⟩:∃g,l[M.os.length]?=some g:=⟨_,zzac (by omega)⟩;have k37:=HM g o (hap l (zzad hl) g hg);have FC:dPg [I g.p.ch,I g.p.nu,I g.p.de,I g.p.of,.sl .ro (g.p.sh.map Qe),I g.p.ep,I g.p.rg,I g.p.ln,I g.p.fi,.sl .ro (g.p.aL.map Qm),.sl .ro (g.p.ens.map Qd),.sl .ro (g.p.bks.map Xg),.sl .ro (g.p.cls.map Qg),.sl .ro (g.ev.map Qf),.sl .ro (g.cu.map Qj),I g.ed,.sl .ro (g.dr.map Qy),I g.ve]=cQ g:=agD g;have hnx:Yh o M.os.length l=l++[Xz (cQ g) o]:=by unfold Yh;rw[hg];rfl
  have ah:Qh (l.map Qo) M.os.length=Qo g:=Qs (by simp[hg])
  have dX:(Qh B aQ).drop i=.sl rt (l.map Qo)::(Qh B aQ).drop (i+1):=by
   have hg2:(Qh B aQ)[i]?=some (.sl rt (l.map Qo)):=by
    rw[q3,zzag (zza.1 zT).1,zT]
   obtain⟨e1,e2⟩:=zza.1 hg2;rw[zzaf e1,e2]
  have dg:i<(Qh B aQ).length:=by
   rw[q3,zzah];exact zzbc (zza.1 zT).1 (zzgy _ _)
  have aa:(i:Int)<(M.ps.length:Int):=by omega
  have hw:=bJ i (by omega);have pG:∀a∈l,(Qo a).length=18:=fun _ _=>rfl;have hnl:M.os.length<l.length:=by omega
  have atV:(M.os.length:Int)<(l.length:Int):=by omega
  simp only[Qq,Qd,Qg,Qj,zzae,zzai]at uz;obtain⟨r1,r2⟩:=hr.more h.hrts aR p2 (l':=Yh o M.os.length l) (by rw[hnx];simp);rcases hr.1 i rt l aR p2 with rfl|⟨k,rfl,hk⟩
  ·simp[OW,aa,ML,dX];refine Xu ?_;simp[OW,aa,q1,q4,hw,e0,e3,e5,ah,Qo,Qb,atV,uz,j9,FC];simp only[Qo,Qb,Qq,Qd,Qg,Qj,zzae,zzai]at k37;have hM:=h.akl (rts':=bh.set i (.own ls.length 18)) n2.symm n3 (ps':=(M.ps.take (i+1)).map (Yh o M.os.length)++M.ps.drop (i+1)) (by rw[<- p1,zzci]) (by rw[zzci])
   have hc:setA (Qh B aQ) i [.sl (.own ls.length 18) (l.map Qo++[Qo (Xz (cQ g) o)])]=j4 (bh.set i (.own ls.length 18)) ((M.ps.take (i+1)).map (Yh o M.os.length)++M.ps.drop (i+1))++z:=by
    rw[<- p1,<- HN h.hrts (by simp only[gG];exact ai),q3,hnx];have lN:i<(j4 bh ((M.ps.take i).map (Yh o M.os.length)++M.ps.drop i)).length:=(zza.1 zT).1;show(j4 bh ((M.ps.take i).map (Yh o M.os.length)++M.ps.drop i)++z).set i _=_;rw[zzfw _ _ lN,zzc];rfl
   have y6:=r1 rfl;rw[p1,hnx]at y6;rw[<- hc]at hM;refine⟨k37,⟨?_,by omega⟩,by omega,aO,⟨i+1,_,_,bh.set i (.own ls.length 18),by simp,by omega,rfl,hM,by simpa using y6,?_,by simp;exact eN,?_,fG.set (.inl (.inr rfl)) _⟩,by omega⟩
   ·rintro row (⟨a,_,rfl⟩|rfl)<;>rfl
   ·simpa using dM.grow _
   rw[Zy _ h4.1];exact anH
  have hM:=h.akl (rts':=bh) n2.symm n3 (ps':=(M.ps.take (i+1)).map (Yh o M.os.length)++M.ps.drop (i+1)) (by rw[<- p1,zzci]) rfl
  have hc:setA (Qh B aQ) i [.sl (.own k 18) (l.map Qo++[Qo (Xz (cQ g) o)])]=j4 bh ((M.ps.take (i+1)).map (Yh o M.os.length)++M.ps.drop (i+1))++z:=by
   have lN:i<(j4 bh ((M.ps.take i).map (Yh o M.os.length)++M.ps.drop i)).length:=(zza.1 zT).1
   have sF:bh.set i (.own k 18)=bh:=by
    apply zzcm;intro j;rw[zzcx];by_cases e:i=j
    ·subst e;rw[if_pos rfl,if_pos (zza.1 aR).1,aR]
    rw[if_neg e]
   have:=HN (rt:=.own k 18) (l:=Yh o M.os.length l) h.hrts (i:=i) (by simp only[gG];exact ai);simp only[sF]at this;rw[<- p1,<- this,q3,hnx];show(j4 bh ((M.ps.take i).map (Yh o M.os.length)++M.ps.drop i)++z).set i _=_;rw[zzfw _ _ lN,zzc];rfl
  have y6:=r2 k rfl;rw[p1,hnx]at y6;rw[<- hc]at hM;simp[OW,aa,ML,dX];refine Xu ?_;simp[OW,aa,q1,q4,hw,e0,e3,e5,ah,Qo,Qb,atV,uz,j9,FC,hk];simp only[Qo,Qb,Qq,Qd,Qg,Qj,zzae,zzai]at k37;refine⟨k37,⟨?_,by omega⟩,by omega,aO,⟨i+1,_,_,bh,by simp,by omega,rfl,hM,by simpa using y6,?_,by simp;exact eN,?_,fG.set (.inl (.inr rfl)) _⟩,by omega⟩
  ·rintro row (⟨a,_,rfl⟩|rfl)<;>rfl
  ·simpa using dM.put aR _
  rw[Zy _ h4.1];exact anH
 obtain rfl:i=M.ps.length:=by omega
 have bI:¬(M.ps.length:Int)<(M.ps.length:Int):=by omega
 simp only[zzbs,zzbo,zzau]at h hr;simp[OW,bI,ML];refine aaY Y o M.os.length _ B ls ms mn md _ pid aQ bh bO z n0 Q h dM hos eN anH (by simp[e0]) (by simp[e3]) h4.2.symm n1 n2 (hr.lt h.hrts) ?_;intro E' B' dx cZ f4 hM' dw lN Mn
 exact hQ E' B' dx bh cZ f4 hM' (fG.trans (dw.mono fun j hj=>.inl hj)) ⟨fun j rt l q1 q2=>by
  rcases hr.1 j rt l q1 q2 with e|⟨k,rfl,hk⟩
  ·exact .inl e
  exact .inr ⟨k,rfl,lN j k _ q1 hk⟩,hr.2⟩ Mn
def rQ(Y:YT)(m:AM)(md:Nat)(M:Md)(pid aQ:Nat)(bh:List Rt)(bO:Rt)(z:List AV)(o:Od)(h:gm m.boxes md M pid aQ bh bO z)(hr:ef m.lens bh M.ps)(dM:eL m.lens bh bO M.os.length)
  (hn:∀l∈M.ps,l.length=M.os.length+1)(hap:∀l∈M.ps,∀g,l[M.os.length]?=some g->HD M o=false->Sn (cQ g) o)(eu:o.nw.al.length<=8796093022208)(hos:M.os.length<=900)(K:AV->AM->Prop)
  (h0:DP M o=none->∀ex,K (I 290) {m with boxes:=m.boxes++ex})
  (h1:∀M',DP M o=some M'->∀B' dx rts' cZ,gm B' md M' pid aQ rts' cZ z->bn (fun j=>j=md\/j=aQ) m.boxes B'->ef dx rts' M'.ps->eL dx rts' cZ M'.os.length->K (I 0) ⟨B',dx,m.st,m.ln⟩):
  an Tryz.prog az Y 16 [.ptr md 0,.agg (Qq o)] m K:=by
 obtain⟨mb,ml,ms,mn⟩:=m;have q1:=h.row;have q2:=h.Iu;have hB:∀ex,gm (mb++ex) md M pid aQ bh bO z:=fun ex=>h.ext ex;have hR:∀ex,Qh (mb++ex) md=[.mp pid,.bs aQ 0 M.ps.length 1,.sl bO (M.os.map Ww)]:=fun ex=>(h.ext ex).row;have ka:=fun ex K hK=>uV Y ⟨mb++ex,ml,ms,mn⟩ md M pid aQ bh bO z (hB ex) K hK;have TA:=sV o eu;simp only[Qq,Qd,Qg,Qj,zzae,zzai]at TA;simp only at q1 q2;have YC:IntKind.i64.wrap ((M.os.length:Int)+1)=(M.os.length:Int)+1:=by rw[Qk]<;>omega
 cases hbad:HD M o with
 |true=>
  have h0:=h0 (by unfold DP;rw[if_pos hbad]);refine Xe TC (j9 o M.os.length) (by simp) ?_;simp[IW,abO,Qq,Qd,Qg,Qj,j9];refine ka _ _ ?_;simp[hR];unfold HD at hbad;cases hv:Xx o with
  |false=>
   rw[hv]at TA;simp;exact⟨by simpa using TA,h0 _⟩
  |true=>
   rw[hv]at hbad TA;by_cases hs:o.sq=(M.os.length:Int)+1
   ·cases hx:M.os.getLast? with
    |none=>rw[hx]at hbad;simp[hs]at hbad
    |some x=>
     rw[hx]at hbad;simp[hs]at hbad;have aK:M.os≠[]:=by intro e;rw[e]at hx;simp at hx
     have eR:0<M.os.length:=zzcw.2 aK;have sy:M.os[M.os.length-1]?=some x:=by rw[<- hx,zzfc]
     have ah:Qh (M.os.map Ww) (M.os.length-1)=Ww x:=Qs (by simp[sy]);have fC:IntKind.i64.wrap ((M.os.length:Int)-1)=((M.os.length-1:Nat):Int):=by rw[Qk]<;>omega
     have X7:((M.os.length-1:Nat):Int)<(M.os.length:Int):=by omega
     have amF:M.os.length-1<M.os.length:=by omega
     have hp1:(0:Int)<(M.os.length:Int):=by omega
     simp[hs,YC,fC,ah,X7,eR,Ww,hbad];rw[hs]at TA;refine⟨by simpa using TA,?_⟩;have:=h0 [Qq o];simp[Qq,Qd,Qg,Qj,hs]at this;exact this
   have Tl:(o.sq !=(M.os.length:Int)+1)=true:=by simpa using hs
   simp[hs,YC,Tl];exact⟨by simpa using TA,h0 _⟩
 |false=>
  have axK:DP M o=some {M with ps:=M.ps.map (Yh o M.os.length),os:=M.os++[(o.sq,o.fr)]}:=by unfold DP;rw[if_neg (by rw[hbad];decide)]
  have h1:=h1 _ axK;have hap:=fun l hl g hg=>hap l hl g hg hbad;have ayb:=hbad;unfold HD at hbad
  have hv:Xx o=true:=by cases hv:Xx o with
   |true=>rfl
   |false=>rw[hv]at hbad;simp at hbad
  rw[hv]at hbad TA;simp only[Bool.not_true,Bool.false_or,zzeu,decide_eq_false_iff_not]at hbad;obtain⟨hs,sy⟩:=hbad;have hs:o.sq=(M.os.length:Int)+1:=by omega
  have Tl:(o.sq !=(M.os.length:Int)+1)=false:=by simp[hs]
  have hd:(M.os=[])\/∃x,M.os.getLast?=some x/\¬o.fr<x.2/\0<M.os.length/\Qh (M.os.map Ww) (M.os.length-1)=Ww x:=by
   cases hx:M.os.getLast? with
   |none=>exact .inl (zzgu.1 hx)
   |some x=>
    rw[hx]at sy;have aK:M.os≠[]:=by intro e;rw[e]at hx;simp at hx
    refine .inr ⟨x,rfl,by simpa using sy,zzcw.2 aK,Qs ?_⟩;have:M.os[M.os.length-1]?=some x:=by rw[<- hx,zzfc]
    simp[this]
  refine Xe TC (j9 o M.os.length) (by simp) ?_;rw[agE];simp[atT,Qq,Qd,Qg,Qj,j9];refine ka _ _ ?_;obtain he|⟨x,_,hlx,eR,ah⟩:=hd
  ·have hM0:M.os.length=0:=by rw[he];rfl
   have hp0:¬(0:Int)<(M.os.length:Int):=by omega
   have hp1:¬0<M.os.length:=by omega
   have aK:∀n:Nat,j9 o n=j9 o n:=fun _=>rfl;simp[hv,hR,hs,YC,hp1];rw[hs]at TA;refine⟨by simpa using TA,?_⟩;refine HO Y o _ _ ml ms mn md M pid aQ bh bO z mb.length _ (hB _) hr dM hos (by simp) (by simp[Qq,Qd,Qg,Qj,hs]) hn hap (by simp) (by simp) (by simp) ?_;intro E' B' dx rts' cZ f4 hM fG AA Mn;have:=h1 B' dx rts' cZ hM (bn.aaX fG) AA (by simpa using Mn);simp[abO,f4];exact this
  have fC:IntKind.i64.wrap ((M.os.length:Int)-1)=((M.os.length-1:Nat):Int):=by rw[Qk]<;>omega
  have X7:((M.os.length-1:Nat):Int)<(M.os.length:Int):=by omega
  have amF:M.os.length-1<M.os.length:=by omega
  have hp1:(0:Int)<(M.os.length:Int):=by omega
  have aK:¬M.os=[]:=by intro e;rw[e]at eR;simp at eR
  simp[hv,hR,hs,YC,fC,ah,X7,eR,Ww,hlx];rw[hs]at TA;refine⟨by simpa using TA,?_⟩;refine HO Y o _ _ ml ms mn md M pid aQ bh bO z mb.length _ (hB _) hr dM hos (by simp) (by simp[Qq,Qd,Qg,Qj,hs]) hn hap (by simp) (by simp) (by simp) ?_;intro E' B' dx rts' cZ f4 hM fG AA Mn;have:=h1 B' dx rts' cZ hM (bn.aaX fG) AA (by simpa using Mn);simp[abO,f4];exact this
open Go Go.Abs
def Yl(o:Od):Od:=if o.ki=1 then{o with nw:=lD,cl:=nZ,cu:=oa}else if o.ki=2 then{o with n:=0,nw:=lD,cl:=nZ,cu:=oa}else if o.ki=3 then{o with en:=0,n:=0,cl:=nZ,cu:=oa}
 else if o.ki=4 then{o with en:=0,n:=0,nw:=lD,cu:=oa}else if o.ki=5 then{o with en:=0,n:=0,nw:=lD,cl:=nZ}else{o with en:=0,n:=0,nw:=lD,cl:=nZ,cu:=oa}
def agG(o:Od)(hk5:¬(o.ki<1\/5<o.ki)):z6 o (Yl o)=Jq (Ji o):=by
 obtain⟨sq,ch,fr,ki,en,n,⟨a1,a2,a3,a4,a5,a6,al⟩,⟨c1,c2,c3,c4,c5,c6,c7,c8⟩,⟨d1,d2,d3,d4,tx⟩⟩:=o;rw[zzbt];unfold Yl Ji;by_cases h1:ki=1
 ·simp[h1,z6,DU,Ml,Jq,lD,nZ,oa,eB];constructor<;>(rintro⟨_,_⟩;simp_all)
 by_cases h2:ki=2
 ·simp[h2,z6,DU,Ml,Jq,lD,nZ,oa,eB];constructor<;>(rintro⟨_,_⟩;simp_all)
 by_cases h3:ki=3
 ·simp[h3,z6,DU,Ml,Jq,lD,nZ,oa,eB];try(constructor<;>(rintro⟨_,_⟩;simp_all))
 by_cases h4:ki=4
 ·simp[h4,z6,DU,Ml,Jq,lD,nZ,oa,eB];constructor<;>(rintro⟨_,_⟩;simp_all)
 have h5:ki=5:=by
  have q1:¬ki<1:=fun h=>hk5 (.inl h);have q2:¬5<ki:=fun h=>hk5 (.inr h);omega
 simp[h5,z6,DU,Ml,Jq,lD,nZ,oa,eB];constructor<;>(rintro⟨_,_⟩;simp_all)
def agH(a b:Od)(rt:Rt)(ha:a.nw.al.length<=8796093022208):Pure Tryz.prog az 67 [.agg (Qq a),.agg [I b.sq,I b.ch,I b.fr,I b.ki,I b.en,I b.n,I b.nw.id,I b.nw.it,I b.nw.fr,I b.nw.ea,I b.nw.la,I b.nw.bo,.sl rt (b.nw.al.map Qe),I b.cl.ki,I b.cl.it,I b.cl.fr,I b.cl.to,I b.cl.re,I b.cl.n,I b.cl.a,I b.cl.b,I b.cu.id,I b.cu.fr,I b.cu.to,I b.cu.pr,.str b.cu.tx]] (.bool (z6 a b)):=
 Zt (agC a b ha) ⟨Wk.refl _,Qdp ⟨Wk.refl _,Wk.refl _,Wk.refl _,Wk.refl _,Wk.refl _,Wk.refl _,Wk.refl _,Wk.refl _,Wk.refl _,Wk.refl _,Wk.refl _,Wk.refl _,Wk.sl _ _,Wk.refl _,Wk.refl _,Wk.refl _,Wk.refl _,Wk.refl _,Wk.refl _,Wk.refl _,Wk.refl _,Wk.refl _,Wk.refl _,Wk.refl _,Wk.refl _,Wk.refl _,trivial⟩,trivial⟩
def yK(o:Od):Nat->FuncId->List AV->AV:=fun _ f l=>if f=63 then .bool (eG o.en)else if f=64 then .bool (za o.nw)else if f=65 then .bool (Xk o.cl)else if f=66 then .bool (sS o.cu)else .bool (z6 o (Yl o))
def agI(o:Od)(eu:o.nw.al.length<=8796093022208):Pure Tryz.prog az 34 [.agg (Qq o)] (.bool (Xx o)):=by
 have k67:=fun rt=>agH o (Yl o) rt eu;have k63:=SJ o.en;have k64:=Mm o.nw eu;have k65:=HJ o.cl;have k66:=aaR o.cu;simp only[Qq,Qd,Qg,Qj,zzae,zzai]at k67 k64 k65 k66;refine Qn akN (yK o) (by simp) ?_;by_cases h0:o.sq<0\/200<o.sq\/o.ch< -1\/40<=o.ch\/o.fr<0\/100000000<o.fr
 ·have hv:Xx o=false:=by
   unfold Xx;by_cases h1:o.sq<0\/200<o.sq\/o.ch< -1\/40<=o.ch
   ·rw[if_pos h1]
   rw[if_neg h1,if_pos (by omega)]
  rw[hv];have hb:(decide (o.sq<0)||decide (200<o.sq)||decide (o.ch< -1)||decide (40<=o.ch)||decide (o.fr<0)||decide (100000000<o.fr))=true:=by simp;omega
  rcases h0 with h|h|h|h|h|h<;>simp[Ee,Ef,Qq,Qd,Qg,Qj,h]
 have hv:Xx o=if o.ki<1\/5<o.ki then false else if o.ki=1/\(o.n< -100000000\/100000000<o.n)then false else okB o&&z6 o (Yl o):=by
  unfold Xx;rw[if_neg (by omega),if_neg (by omega)];by_cases hk:o.ki<1\/5<o.ki
  ·rw[if_pos hk,if_pos hk]
  rw[if_neg hk,if_neg hk,agG o hk]
 rw[hv];have c1:¬o.sq<0:=by omega
 have c2:¬200<o.sq:=by omega
 have c3:¬o.ch< -1:=by omega
 have c4:¬40<=o.ch:=by omega
 have c5:¬o.fr<0:=by omega
 have c6:¬100000000<o.fr:=by omega
 by_cases k1:o.ki=1
 ·have hw:Yl o={o with nw:=lD,cl:=nZ,cu:=oa}:=by unfold Yl;rw[if_pos k1]
  have hr:(if o.ki<1\/5<o.ki then false else if o.ki=1/\(o.n< -100000000\/100000000<o.n)then false else okB o&&z6 o (Yl o))=(eG o.en&&decide (-100000000<=o.n)&&decide (o.n<=100000000)&&z6 o (Yl o)):=by
   rw[if_neg (by omega)];by_cases hn:o.n< -100000000\/100000000<o.n
   ·rw[if_pos ⟨k1,hn⟩];obtain hn|hn:=hn
    ·have:¬-100000000<=o.n:=by omega
     simp[this]
    have:¬o.n<=100000000:=by omega
    simp[this]
   have n1: -100000000<=o.n:=by omega
   have n2:o.n<=100000000:=by omega
   rw[if_neg (fun h=>hn h.2)];unfold okB;rw[if_pos k1];simp[n1,n2]
  rw[hr];have qw:=k67 .nil;rw[hw]at qw;simp only[lD,nZ,oa,eB,zzcf]at qw;rw[k1]at qw;simp[Ee,Ef,Qq,Qd,Qg,Qj,c1,c2,c3,c4,c5,c6,k1,yK];refine⟨k63,?_⟩;rw[hw];simp only[lD,nZ,oa,eB];rw[k1];exact qw
 by_cases k2:o.ki=2
 ·have hw:Yl o={o with n:=0,nw:=lD,cl:=nZ,cu:=oa}:=by unfold Yl;rw[if_neg k1,if_pos k2]
  have hr:(if o.ki<1\/5<o.ki then false else if o.ki=1/\(o.n< -100000000\/100000000<o.n)then false else okB o&&z6 o (Yl o))=(eG o.en&&z6 o (Yl o)):=by
   rw[if_neg (by omega),if_neg (by omega)];unfold okB;rw[if_neg k1,if_pos k2]
  rw[hr];have qw:=k67 .nil;rw[hw]at qw;simp only[lD,nZ,oa,eB,zzcf]at qw;rw[k2]at qw;simp[Ee,Ef,Qq,Qd,Qg,Qj,c1,c2,c3,c4,c5,c6,k2,yK];refine⟨k63,?_⟩;rw[hw];simp only[lD,nZ,oa,eB];rw[k2];exact qw
 by_cases k3:o.ki=3
 ·have hw:Yl o={o with en:=0,n:=0,cl:=nZ,cu:=oa}:=by unfold Yl;rw[if_neg k1,if_neg k2,if_pos k3]
  have hr:(if o.ki<1\/5<o.ki then false else if o.ki=1/\(o.n< -100000000\/100000000<o.n)then false else okB o&&z6 o (Yl o))=(za o.nw&&z6 o (Yl o)):=by
   rw[if_neg (by omega),if_neg (by omega)];unfold okB;rw[if_neg k1,if_neg k2,if_pos k3]
  rw[hr];have qw:=k67 .ro;rw[hw]at qw;simp only[nZ,oa,eB]at qw;rw[k3]at qw;simp[Ee,Ef,Qq,Qd,Qg,Qj,c1,c2,c3,c4,c5,c6,k3,yK];refine⟨k64,?_⟩;rw[hw];simp only[nZ,oa,eB];rw[k3];exact qw
 by_cases k4:o.ki=4
 ·have hw:Yl o={o with en:=0,n:=0,nw:=lD,cu:=oa}:=by unfold Yl;rw[if_neg k1,if_neg k2,if_neg k3,if_pos k4]
  have hr:(if o.ki<1\/5<o.ki then false else if o.ki=1/\(o.n< -100000000\/100000000<o.n)then false else okB o&&z6 o (Yl o))=(Xk o.cl&&z6 o (Yl o)):=by
   rw[if_neg (by omega),if_neg (by omega)];unfold okB;rw[if_neg k1,if_neg k2,if_neg k3,if_pos k4]
  rw[hr];have qw:=k67 .nil;rw[hw]at qw;simp only[lD,oa,eB,zzcf]at qw;rw[k4]at qw;simp[Ee,Ef,Qq,Qd,Qg,Qj,c1,c2,c3,c4,c5,c6,k4,yK];refine⟨k65,?_⟩;rw[hw];simp only[lD,oa,eB];rw[k4];exact qw
 by_cases k5:o.ki=5
 ·have hw:Yl o={o with en:=0,n:=0,nw:=lD,cl:=nZ}:=by unfold Yl;rw[if_neg k1,if_neg k2,if_neg k3,if_neg k4,if_pos k5]
  have hr:(if o.ki<1\/5<o.ki then false else if o.ki=1/\(o.n< -100000000\/100000000<o.n)then false else okB o&&z6 o (Yl o))=(sS o.cu&&z6 o (Yl o)):=by
   rw[if_neg (by omega),if_neg (by omega)];unfold okB;rw[if_neg k1,if_neg k2,if_neg k3,if_neg k4]
  rw[hr];have qw:=k67 .nil;rw[hw]at qw;simp only[lD,nZ,zzcf]at qw;rw[k5]at qw;simp[Ee,Ef,Qq,Qd,Qg,Qj,c1,c2,c3,c4,c5,c6,k5,yK];refine⟨k66,?_⟩;rw[hw];simp only[lD,nZ];rw[k5];exact qw
 have hw:Yl o={o with en:=0,n:=0,nw:=lD,cl:=nZ,cu:=oa}:=by unfold Yl;rw[if_neg k1,if_neg k2,if_neg k3,if_neg k4,if_neg k5]
 have qw:=k67 .nil;rw[hw]at qw;simp only[lD,nZ,oa,eB,zzcf]at qw;rw[if_pos (by omega)];simp[Ee,Ef,Qq,Qd,Qg,Qj,c1,c2,c3,c4,c5,c6,k1,k2,k3,k4,k5,yK];rw[hw];simp only[lD,nZ,oa,eB];exact qw
open Go Go.Abs
def kj(o:Od)(n f:Int):Od:={o with nw:={o.nw with al:=o.nw.al.take 9},cu:={o.cu with tx:=o.cu.tx.extract 0 (if 300<o.cu.tx.size then 300 else o.cu.tx.size)},sq:=n,fr:=f}
def SL(a b:Int):Int:=if a<b then b else a
def yL:List Od->List Od->Int->List Od
 |[],out,_=>out
 |o::r,out,last=>if 7<=out.length then out else
  if Xx (kj o (out.length+1) (SL o.fr last))=true then yL r (out++[kj o (out.length+1) (SL o.fr last)]) (SL o.fr last)else yL r out last
def HP(l:List Od):List Od:=yL l [] 0
def axL(o:List Od)(rt:Rt)(ls:List Nat):Prop:=(o=[]/\rt=.nil/\ls=[])\/(o≠[]/\rt=.own 0 26/\ls=[o.length])
def atW(l:List Od)(f:Nat->AV)(m:AM):Prop:=
 ∃(i:Nat)(out:List Od)(last:Int)(rt:Rt)(ls:List Nat)(bx:List (List AV)),f 5=I i/\i<=l.length/\f 3=.sl rt (out.map Qq)/\f 4=I last/\axL out rt ls/\out.length<=7/\yL (l.drop i) out last=HP l/\m=⟨bx,ls,fun _=>.gone,0⟩
def dOd(l:List AV):Od:=⟨dI (dN l 0),dI (dN l 1),dI (dN l 2),dI (dN l 3),dI (dN l 4),dI (dN l 5),dEn (l.drop 6),dCl (l.drop 13),dCu (l.drop 21)⟩
def Pb:Nat->FuncId->List AV->AV:=fun d f l=>if f=34 then(match l with
 |[.agg cs]=>.bool (Xx (dOd cs))
 |_=>.junk)else .junk
def agJ(o:Od):dOd (Qq o)=o:=by
 show(⟨o.sq,o.ch,o.fr,o.ki,o.en,o.n,dEn (Qd o.nw),o.cl,o.cu⟩:Od)=o;rw[OT]
def z8(l:List Od)(hl:l.length<=1000000000000):∃rt,Pure Tryz.prog az 15 [.sl .ro (l.map Qq)] (.sl rt ((HP l).map Qq)):=by
 refine⟨if HP l=[]then .nil else .ro,Qn akD Pb (by simp) ?_⟩;simp[akC];refine Qi uZ (atW l) (fun f _=>l.length-(numOf (f 5)).toNat) ?_ ?_
 ·exact⟨0,[],0,.nil,[],[],by simp,by omega,by simp,by simp,.inl ⟨rfl,rfl,rfl⟩,by simp,by simp[HP],rfl⟩
 rintro f m ⟨i,out,last,rt,ls,bx,f5,hi,f3,f4,hO,Oc,hr,rfl⟩;rcases zzaa i l.length with ai|bu
 ·obtain⟨o,ho⟩:=aS ai;have ah:Qh (l.map Qq) i=Qq o:=Qs (by simp[ho]);have aa:(i:Int)<(l.length:Int):=by omega
  have hw:=bJ i (by omega);have hd:l.drop i=o::l.drop (i+1):=by rw[zzaf ai,(zza.1 ho).2]
  rw[hd,yL]at hr;by_cases h7:7<=out.length
  ·rw[if_pos h7]at hr;have h7':¬(out.length:Int)<7:=by omega
   rw[<- hr];obtain⟨rfl,rfl,rfl⟩|⟨h0,rfl,rfl⟩:=hO
   ·simp at h7
   simp[f5,f3,uZ,aa,h7',abN,h0]
  rw[if_neg h7]at hr;have h7':(out.length:Int)<7:=by omega
  have ayu:out.length<7:=by omega
  have YC:IntKind.i64.wrap ((out.length:Int)+1)=(out.length:Int)+1:=by rw[Qk]<;>omega
  have t1:List.take (if(9:Int)<(o.nw.al.length:Int)then(9:Int)else(o.nw.al.length:Int)).toNat (o.nw.al.map Qe)=List.take 9 (o.nw.al.map Qe):=by
   have:=lE (o.nw.al.map Qe) 9;rw[zzbg]at this;exact this
  have a1:=yq (a:=o.nw.al.length) 9;have b1:=yt (a:=o.nw.al.length) 9;have a2:=yq (a:=o.cu.tx.size) 300;have b2:=yt (a:=o.cu.tx.size) 300
  have e2:(if(300:Int)<(o.cu.tx.size:Int)then(300:Int)else(o.cu.tx.size:Int)).toNat=if 300<o.cu.tx.size then 300 else o.cu.tx.size:=by
   by_cases h:300<o.cu.tx.size
   ·rw[if_pos h,if_pos (by omega)];rfl
   rw[if_neg h,if_neg (by omega)];omega
  simp at a1 b1 a2 b2;have dy:∀(row:List AV)(x x_1:Int),(x,x_1)∈o.nw.al->Qe (x,x_1)=row->row.length=2:=by rintro row a b _ rfl;rfl
  have Rf:=agI (kj o (out.length+1) (SL o.fr last)) (by simp[kj];omega);have hdo:=agJ (kj o (out.length+1) (SL o.fr last))
  have K5:Qq (kj o (out.length+1) (SL o.fr last))=[I ((out.length:Int)+1),I o.ch,I (if o.fr<last then last else o.fr),I o.ki,I o.en,I o.n,I o.nw.id,I o.nw.it,I o.nw.fr,I o.nw.ea,I o.nw.la,I o.nw.bo,.sl .ro (List.take 9 (o.nw.al.map Qe)),
   I o.cl.ki,I o.cl.it,I o.cl.fr,I o.cl.to,I o.cl.re,I o.cl.n,I o.cl.a,I o.cl.b,I o.cu.id,I o.cu.fr,I o.cu.to,I o.cu.pr,.str (o.cu.tx.extract 0 (if 300<o.cu.tx.size then 300 else o.cu.tx.size))]:=by
   simp[Qq,Qd,Qg,Qj,kj,SL,List.map_take]
  have Tp:SL o.fr last=if o.fr<last then last else o.fr:=rfl;rw[K5]at Rf hdo;generalize hC:kj o (out.length+1) (SL o.fr last)=C at*
  simp only[Qq,Qd,Qg,Qj,zzae,zzai]at ah;cases hv:Xx C with
  |false=>
   rw[hv]at Rf;rw[if_neg (by rw[hv];decide)]at hr;simp[f5,f3,f4,uZ,aa,hw,h7',ah,YC,t1,a1,b1,a2,b2,e2,Pb,hdo,hv];refine⟨dy,Rf,aO,⟨i+1,out,last,rt,ls,_,by simp,by omega,by simp,by simp,hO,Oc,hr,rfl⟩,by omega⟩
  |true=>
   rw[hv]at Rf;rw[if_pos hv,Tp]at hr;obtain⟨rfl,rfl,rfl⟩|⟨h0,rfl,rfl⟩:=hO
   ·have w1:IntKind.i64.wrap 1=1:=by decide
    simp at hdo Rf K5;simp[f5,f3,f4,uZ,aa,hw,ah,w1,t1,a1,b1,a2,b2,e2,Pb,hdo,hv];refine⟨dy,Rf,aO,⟨i+1,[]++[C],_,.own 0 26,[1],_,by simp,by omega,by simp[K5],by simp,.inr ⟨by simp,rfl,by simp⟩,by simp,hr,rfl⟩,by omega⟩
   simp[f5,f3,f4,uZ,aa,hw,h7',ah,YC,t1,a1,b1,a2,b2,e2,Pb,hdo,hv];refine⟨dy,Rf,⟨?_,by omega⟩,aO,⟨i+1,out++[C],_,.own 0 26,[out.length+1],_,by simp,by omega,by simp[K5],by simp,.inr ⟨by simp,rfl,by simp⟩,by simp;omega,hr,rfl⟩,by omega⟩
   ·rintro row (⟨a,_,rfl⟩|rfl)<;>rfl
 obtain rfl:i=l.length:=by omega
 rw[zzbo,yL]at hr;rw[<- hr];obtain⟨rfl,rfl,rfl⟩|⟨h0,rfl,rfl⟩:=hO
 ·simp[f5,f3,uZ,abN]
 simp[f5,f3,uZ,abN,h0]
end
end Go.Proofs.YtnopaopphmjnmaaGreatDoor
