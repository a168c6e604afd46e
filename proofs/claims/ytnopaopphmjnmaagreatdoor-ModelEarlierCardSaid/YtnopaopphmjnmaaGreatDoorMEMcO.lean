import Derived.Test.YtnopaopphmjnmaaGreatDoorMEMcN
set_option linter.all false
set_option maxRecDepth 100000
set_option maxHeartbeats 64000000
namespace Go.Proofs.YtnopaopphmjnmaaGreatDoor
noncomputable section
open Go Go.Abs
def dB(g:Pg):Pg:={g with ev:=g.ev.map Sq}
def Sy(g:Pg):Qo (dB g)=Qo g:=by
 unfold Qo dB;simp only[Bw]
def dEv(l:List AV):bE:=⟨dI (dN l 0),dI (dN l 1),dI (dN l 2),dI (dN l 3),dI (dN l 4),dI (dN l 5),(dR (dN l 6)).map dSp,false⟩
def dS:AV->ByteArray
 |.str s=>s
 |_=>⟨#[]⟩
def dCu(l:List AV):Cue:=⟨dI (dN l 0),dI (dN l 1),dI (dN l 2),dI (dN l 3),dS (dN l 4)⟩
def dPg(l:List AV):Pg:=⟨dPl l,(dR (dN l 13)).map dEv,(dR (dN l 14)).map dCu,dI (dN l 15),(dR (dN l 16)).map fun r=>dI (dN r 0),dI (dN l 17)⟩
def Pc(l:List bE):(l.map Qf).map dEv=l.map Sq:=by
 rw[zzcz];refine zzda fun e _=>?_;show(⟨e.id,e.it,e.st,e.fr,e.i,e.re,(e.al.map Qe).map dSp,false⟩:bE)=Sq e;rw[Qei DM];rfl
def agk(g:Pg):dPg (Qo g)=dB g:=by
 show(⟨dPl (Qc g.p),(g.ev.map Qf).map dEv,(g.cu.map Qi).map dCu,g.ed,(g.dr.map Qy).map (fun r=>dI (dN r 0)),g.ve⟩:Pg)=dB g;rw[Pb,Pc,Qei (fun _=>rfl),Qei (fun _=>rfl)];rfl
def HF(g:Pg)(o:Od)(h:Su (dB g) o):Pure Tryz.prog az 37 [.agg (Qo g),.agg (Qq o)] (.agg (Qo (Zr (dB g) o))):=by
 have:=Mk (dB g) o h;rw[Sy]at this;exact this
def Pd:SC:=(⟨_,by cbv⟩:tW [1,1,1,1,1] I5).1
def aaq:SC:=(⟨_,fun _=>by cbv⟩:uE [1] (tV [1,1,1,1] I5)).1 Pd
def atp:SC:=(⟨_,fun _=>by cbv⟩:uE [1,1,1,1] I5).1 aaq
theorem agl:I5=atp:=rfl
def DO(M:Md)(o:Od):Bool:=!Xw o||(decide (o.sq≠(M.os.length:Int)+1)||(match M.os.getLast? with
 |none=>false
 |some x=>decide (o.fr<x.2)))
def Yt(o:Od)(n:Nat)(l:List Pg):List Pg:=l++(l[n]?.map fun g=>Zr (dB g) o).toList
def DP(M:Md)(o:Od):Option Md:=if DO M o=true then none else some {M with ps:=M.ps.map (Yt o M.os.length),os:=M.os++[(o.sq,o.fr)]}
def ez(ls:List Nat)(bn:List Rt)(ps:List (List Pg)):Prop:=
 (∀(i:Nat)(rt:Rt)(l:List Pg),bn[i]?=some rt->ps[i]?=some l->rt=.full\/∃k,rt=.own k 18/\ls[k]?=some l.length)/\∀(i j k:Nat),bn[i]?=some (.own k 18)->bn[j]?=some (.own k 18)->i=j
def eU(ls:List Nat)(bn:List Rt)(bQ:Rt)(n:Nat):Prop:=(bQ=.nil/\n=0)\/∃k,bQ=.own k 26/\ls[k]?=some n/\∀i:Nat,bn[i]?≠some (.own k 18)
def kJ(o:Od)(n:Nat):Nat->FuncId->List AV->AV:=fun d fn l=>if fn=39 then .gd false .junk else if fn=40 then .bool (Xw o)else if fn=37 then(match l with
 |[.agg cs,_]=>.agg (Qo (Zr (dPg cs) o))
 |_=>.junk)else .junk
def gA.aar{B:List (List AV)}{md:Nat}{M:Md}{pid aQ:Nat}{bn:List Rt}{bQ:Rt}{z:List AV}(h:gA B md M pid aQ bn bQ z)(zW:md≠pid)(eD:md≠aQ)(os':List (Int×Int))(dh:Rt)(hl:os'.length<=1000)(hr:th dh .ro):
  gA (B.set md [.mp pid,.bs aQ 0 M.ps.length 1,.sl dh (os'.map tq)]) md {M with os:=os'} pid aQ bn dh z:=
 ⟨by have:=h.IB;simpa using this,Vr _ h.IB,by have:=h.hpid;simpa using this,by rw[Zy _ zW];exact h.map,by have:=h.hbid;simpa using this,by rw[Zy _ eD];exact h.hps,h.hrts,h.ne,h.gK,h.len,hl,.inl hr⟩
def bh.aas{S:Nat->Prop}{B l B':List (List AV)}(h:bh S (B++l) B'):bh S B B':=
 ⟨by have:=h.1;simp at this;omega,fun j hj hs=>by rw[h.2 j (by simp;omega) hs,Ql hj]⟩
def HG{bn:List Rt}{ps:List (List Pg)}{i:Nat}{rt:Rt}{l:List Pg}(hl:bn.length=ps.length)(hi:i<ps.length):(kH bn ps).set i (.sl rt (l.map Qo))=kH (bn.set i rt) (ps.set i l):=by
 unfold kH;apply zzck;intro j;rw[zzcx,zzfo,zzfo,zzcx,zzcx,List.length_zipWith];by_cases hj:i=j
 ·subst hj;simp[hl,hi]
 simp[hj]
def aat(Y:YT)(o:Od)(n:Nat)(E:List (Nat×AV))(B:List (List AV))(ls:List Nat)(ms:Nat->LS)(mn:Nat)(md:Nat)(M:Md)(pid aQ:Nat)(bn:List Rt)(bQ:Rt)(z:List AV)(n0:Nat)(Q:Exit->AS->Prop)
  (h:gA B md M pid aQ bn bQ z)(dQ:eU ls bn bQ M.os.length)(hos:M.os.length<=900)(eV:n0<B.length)(uG:Qh B n0=Qq o)(e0:Abs.look E 0=.ptr md 0)(e3:Abs.look E 3=.ptr n0 0)(aK:n0≠md)
  (zW:md≠pid)(eD:md≠aQ)(hrl:∀(i k:Nat),bn[i]?=some (.own k 18)->k<ls.length)
  (hQ:∀E' B' bX dh,Abs.look E' 4=I 0->gA B' md {M with os:=M.os++[(o.sq,o.fr)]} pid aQ bn dh z->bh (fun j=>j=md\/j=aQ) B B'->(∀(i k l:Nat),bn[i]?=some (.own k 18)->ls[k]?=some l->bX[k]?=some l)->eU bX bn dh (M.os.length+1)->Q .ret ⟨Ze 83 E',⟨B',bX,ms,mn⟩⟩):
  vc Tryz.prog az (kJ o n) Y Pd ⟨Ze 83 E,⟨B,ls,ms,mn⟩⟩ Q:=by
 have q1:=h.row;have q2:=h.IB;simp only[Qq,Qd,Qg,Qi,zzae,zzaj]at uG;obtain⟨rfl,h0⟩|⟨k,rfl,hk,hd⟩:=dQ
 ·have he:M.os=[]:=zzav h0;simp[Pd];refine Xy ?_;simp[e0,e3,q1,q2,uG,kJ,he];have e:(M.os++[(o.sq,o.fr)]).map tq=[tq (o.sq,o.fr)]:=by rw[he];rfl
  have hM:=h.aar zW eD (M.os++[(o.sq,o.fr)]) (.own ls.length 26) (by simp[he]) (th.own _ _)
  have hD:∀i:Nat,bn[i]?≠some (.own ls.length 18):=fun i hi=>by
   have:=hrl i _ hi;omega
  have:=fun E' h4=>hQ E' _ (ls++[1]) (.own ls.length 26) h4 hM ((bh.refl _ _).set (.inl (.inl rfl)) _) (fun i k l _ hk=>by rw[zzag (zza.1 hk).1];exact hk) (.inr ⟨_,rfl,by simp[he],hD⟩);simp only[e]at this;exact this _ (by simp)
 have pG:∀a∈M.os,(tq a).length=26:=fun _ _=>rfl;have e:(M.os++[(o.sq,o.fr)]).map tq=M.os.map tq++[tq (o.sq,o.fr)]:=by simp
 have hM:=h.aar zW eD (M.os++[(o.sq,o.fr)]) (.own k 26) (by simp;omega) (th.own _ _);have qv:=(zza.1 hk).1
 have:=fun E' h4=>hQ E' _ (ls.set k (M.os.length+1)) (.own k 26) h4 hM ((bh.refl _ _).set (.inl (.inl rfl)) _) (fun i k' l hi zn=>by
  have:k≠k':=by rintro rfl;exact hd i hi
  rw[zzbe this];exact zn) (.inr ⟨_,rfl,by simp[qv],hd⟩)
 simp only[e]at this;simp[Pd];refine Xy ?_;simp[e0,e3,q1,q2,uG,hk];exact⟨⟨by rintro row (⟨a,b,_,rfl⟩|rfl)<;>rfl,by omega⟩,this _ (by simp)⟩
def ez.lt{ls:List Nat}{bn:List Rt}{ps:List (List Pg)}(h:ez ls bn ps)(hl:bn.length=ps.length):∀(i k:Nat),bn[i]?=some (.own k 18)->k<ls.length:=fun i k hi=>by
 have h1:=(zza.1 hi).1;rcases h.1 i _ _ hi (zzad (by omega))with e|⟨k',e,hk⟩
 ·cases e
 cases e;exact(zza.1 hk).1
def ez.more{ls:List Nat}{bn:List Rt}{ps:List (List Pg)}(h:ez ls bn ps)(hl:bn.length=ps.length){i:Nat}{rt:Rt}{l l':List Pg}(hi:bn[i]?=some rt)(hp:ps[i]?=some l)(eF:l'.length=l.length+1):
  (rt=.full->ez (ls++[l'.length]) (bn.set i (.own ls.length 18)) (ps.set i l'))/\∀k,rt=.own k 18->ez (ls.set k l'.length) bn (ps.set i l'):=by
 have ai:=h.lt hl;have gr:=(zza.1 hi).1;constructor
 ·rintro rfl;refine⟨fun j JZ l2 hj E8=>?_,fun a b k ha hb=>?_⟩
  ·rw[zzcx]at hj E8;by_cases ek:i=j
   ·subst ek;rw[if_pos rfl,if_pos gr]at hj;rw[if_pos rfl,if_pos (by omega)]at E8;cases hj;cases E8;exact .inr ⟨_,rfl,by simp⟩
   rw[if_neg ek]at hj E8;rcases h.1 j JZ l2 hj E8 with e|⟨k,e,hk⟩
   ·exact .inl e
   exact .inr ⟨k,e,by rw[zzag (zza.1 hk).1];exact hk⟩
  rw[zzcx]at ha hb;by_cases e1:i=a
  ·rw[if_pos e1,if_pos gr]at ha;cases ha;by_cases e2:i=b
   ·omega
   rw[if_neg e2]at hb;exact absurd (ai b _ hb) (by omega)
  rw[if_neg e1]at ha;by_cases e2:i=b
  ·rw[if_pos e2,if_pos gr]at hb;cases hb;exact absurd (ai a _ ha) (by omega)
  rw[if_neg e2]at hb;exact h.2 a b k ha hb
 rintro k rfl;refine⟨fun j JZ l2 hj E8=>?_,h.2⟩;rw[zzcx]at E8;by_cases ek:i=j
 ·subst ek;rw[hi]at hj;cases hj;simp only[if_true]at E8;split at E8
  ·cases E8;exact .inr ⟨k,rfl,by rw[zzaz (ai i k hi)]⟩
  cases E8
 rw[if_neg ek]at E8;rcases h.1 j JZ l2 hj E8 with e|⟨k2,e,hk⟩
 ·exact .inl e
 refine .inr ⟨k2,e,?_⟩
 have aK:k≠k2:=by
  rintro rfl;subst e;exact ek (h.2 i j k hi hj)
 rw[zzbe aK];exact hk
def gA.aj9{B:List (List AV)}{md:Nat}{M:Md}{pid aQ:Nat}{bn rts':List Rt}{bQ:Rt}{z:List AV}(h:gA B md M pid aQ bn bQ z)(hbm:aQ≠md)(hbp:aQ≠pid){ps':List (List Pg)}(hl:ps'.length=M.ps.length)(hr:rts'.length=bn.length):
  gA (B.set aQ (kH rts' ps'++z)) md {M with ps:=ps'} pid aQ rts' bQ z:=
 ⟨by have:=h.IB;simpa using this,by rw[Zy _ hbm,h.row];simp[hl],by have:=h.hpid;simpa using this,by rw[Zy _ hbp];exact h.map,by have:=h.hbid;simpa using this,Vr _ h.hbid,by rw[hr,h.hrts,hl],
  fun e=>h.ne (zzav (by have:=congrArg List.length e;simp only[zzch]at this;omega)),fun c j hc=>by have:=h.gK c j hc;simp only[hl];exact this,by simp only[hl];exact h.len,h.los,h.hrto⟩
def gA.nes{B:List (List AV)}{md:Nat}{M:Md}{pid aQ:Nat}{bn:List Rt}{bQ:Rt}{z:List AV}(h:gA B md M pid aQ bn bQ z):md≠pid/\md≠aQ/\aQ≠pid:=by
 have hps:∃rt l r,Qh B aQ=.sl rt l::r:=by
  rw[h.hps];have h1:=h.hrts;cases hp:M.ps with
  |nil=>exact absurd hp h.ne
  |cons a r=>cases hr:bn with
   |nil=>rw[hp,hr]at h1;simp at h1
   |cons b s=>exact⟨b,a.map Qo,kH s r++z,rfl⟩
 obtain⟨rt,l,r,hps⟩:=hps;refine⟨fun e=>?_,fun e=>?_,fun e=>?_⟩
 ·have:=h.row;rw[e,h.map]at this;simp at this
 ·have:=h.row;rw[e,hps]at this;simp at this
 rw[e,h.map]at hps;simp at hps
def gA.axy{B:List (List AV)}{md:Nat}{M:Md}{pid aQ:Nat}{bn:List Rt}{bQ:Rt}{z:List AV}(h:gA B md M pid aQ bn bQ z){n0:Nat}{o:Od}(ho:Qh B n0=Qq o):aQ≠n0/\md≠n0:=by
 refine⟨fun e=>?_,fun e=>?_⟩
 ·have h1:=h.hrts;rw[<- e,h.hps]at ho;cases hp:M.ps with
  |nil=>exact absurd hp h.ne
  |cons a r=>cases hr:bn with
   |nil=>rw[hp,hr]at h1;simp at h1
   |cons b s=>rw[hp,hr]at ho;simp[kH,Qq]at ho
 have:=h.row;rw[e,ho]at this;simp[Qq]at this
def eU.grow{ls:List Nat}{bn:List Rt}{bQ:Rt}{n i:Nat}(h:eU ls bn bQ n)(x:Nat):eU (ls++[x]) (bn.set i (.own ls.length 18)) bQ n:=by
 obtain h|⟨k,h1,h2,h3⟩:=h
 ·exact .inl h
 have hk:=(zza.1 h2).1;refine .inr ⟨k,h1,by rw[zzag hk];exact h2,fun j hj=>?_⟩;rw[zzcx]at hj;by_cases e:i=j
 ·rw[if_pos e]at hj;split at hj
  ·cases hj;omega
  cases hj
 rw[if_neg e]at hj;exact h3 j hj
def eU.put{ls:List Nat}{bn:List Rt}{bQ:Rt}{n i k:Nat}(h:eU ls bn bQ n)(hi:bn[i]?=some (.own k 18))(x:Nat):eU (ls.set k x) bn bQ n:=by
 obtain h|⟨k',h1,h2,h3⟩:=h
 ·exact .inl h
 have:k≠k':=by rintro rfl;exact h3 i hi
 exact .inr ⟨k',h1,by rw[zzbe this];exact h2,h3⟩
def agm{ps:List (List Pg)}{i:Nat}{l:List Pg}{f:List Pg->List Pg}(h:ps[i]?=some l):((ps.take i).map f++ps.drop i).set i (f l)=(ps.take (i+1)).map f++ps.drop (i+1)/\((ps.take i).map f++ps.drop i)[i]?=some l/\((ps.take i).map f++ps.drop i).length=ps.length:=by
 have ai:=(zza.1 h).1;have hd:ps.drop i=l::ps.drop (i+1):=by rw[zzaf ai,(zza.1 h).2]
 have mH:((ps.take i).map f).length=i:=by rw[zzbf,zzaq];omega
 refine⟨?_,?_,?_⟩
 ·rw[zzct _ _ (by omega),mH,zzev,hd,List.set_cons_zero,zzas,h];simp
 ·rw[zzan (by omega),mH,zzev,hd];rfl
 rw[zzah,mH,zzcq];omega
def atq(B0:List (List AV))(M:Md)(o:Od)(md pid aQ:Nat)(bQ:Rt)(z:List AV)(n0:Nat)(ms:Nat->LS)(mn:Nat)(s:Nat->AV)(m:AM):Prop:=
 ∃(i:Nat)(B:List (List AV))(ls:List Nat)(bn:List Rt),s 48=I i/\i<=M.ps.length/\m=⟨B,ls,ms,mn⟩/\
  gA B md {M with ps:=(M.ps.take i).map (Yt o M.os.length)++M.ps.drop i} pid aQ bn bQ z/\ez ls bn ((M.ps.take i).map (Yt o M.os.length)++M.ps.drop i)/\eU ls bn bQ M.os.length/\n0<B.length/\Qh B n0=Qq o/\bh (fun j=>j=md\/j=aQ) B0 B
def HH(Y:YT)(o:Od)(E:List (Nat×AV))(B:List (List AV))(ls:List Nat)(ms:Nat->LS)(mn:Nat)(md:Nat)(M:Md)(pid aQ:Nat)(bn:List Rt)(bQ:Rt)(z:List AV)(n0:Nat)(Q:Exit->AS->Prop)
  (h:gA B md M pid aQ bn bQ z)(hr:ez ls bn M.ps)(dQ:eU ls bn bQ M.os.length)(hos:M.os.length<=900)(eV:n0<B.length)(uG:Qh B n0=Qq o)
  (hn:∀l∈M.ps,l.length=M.os.length+1)(hap:∀l∈M.ps,∀g,l[M.os.length]?=some g->Su (dB g) o)
  (e0:Abs.look E 0=.ptr md 0)(e3:Abs.look E 3=.ptr n0 0)(e5:Abs.look E 5=I M.os.length)
  (hQ:∀E' B' bX rts' dh,Abs.look E' 4=I 0->gA B' md {M with ps:=M.ps.map (Yt o M.os.length),os:=M.os++[(o.sq,o.fr)]} pid aQ rts' dh z->bh (fun j=>j=md\/j=aQ) B B'->ez bX rts' (M.ps.map (Yt o M.os.length))->eU bX rts' dh (M.os.length+1)->Q .ret ⟨Ze 83 E',⟨B',bX,ms,mn⟩⟩):
  vc Tryz.prog az (kJ o M.os.length) Y aaq ⟨Ze 83 E,⟨B,ls,ms,mn⟩⟩ Q:=by
 have q1:=h.row;have q2:=h.IB;simp[aaq,e0,q1];refine Qj MY (atq B M o md pid aQ bQ z n0 ms mn) (fun s _=>M.ps.length-(numOf (s 48)).toNat) ?_ ?_
 ·exact⟨0,B,ls,bn,by simp,by omega,rfl,by simpa using h,by simpa using hr,dQ,eV,uG,bh.refl _ _⟩
 rintro s m ⟨i,B,ls,bn,Pe,hi,rfl,h,hr,dQ,eV,uG,fN⟩;obtain⟨n1,n2,n3⟩:=h.nes;have h4:=h.axy uG;have ans:=uG;have q1:=h.row;have q2:=h.IB;have q3:=h.hps;have q4:=h.hbid;have gK:((M.ps.take i).map (Yt o M.os.length)++M.ps.drop i).length=M.ps.length:=by rw[zzah,zzbf,zzaq,zzcq];omega
 have q5:=h.len;simp only[gK]at q1 q3 q5;rcases zzaa i M.ps.length with ai|bu
 ·obtain⟨l,hl⟩:=aR ai;obtain⟨p1,p2,p3⟩:=agm (f:=Yt o M.os.length) hl;obtain⟨rt,aS,zW⟩:=HC h.hrts p2;have zF:=hn l (zzac hl);obtain⟨g,hg⟩:∃g,l[M.os.length]?=some g:=⟨_,zzad (by omega)⟩;have k37:=HF g o (hap l (zzac hl) g hg);have XT:dPg [I g.p.ch,I g.p.nu,I g.p.de,I g.p.of,.sl .ro (g.p.sh.map Qe),I g.p.ep,I g.p.rg,I g.p.ln,I g.p.fi,.sl .ro (g.p.aM.map Qm),.sl .ro (g.p.ens.map Qd),.sl .ro (g.p.bks.map Xh),.sl .ro (g.p.cls.map Qg),.sl .ro (g.ev.map Qf),.sl .ro (g.cu.map Qi),I g.ed,.sl .ro (g.dr.map Qy),I g.ve]=dB g:=agk g;have hnx:Yt o M.os.length l=l++[Zr (dB g) o]:=by unfold Yt;rw[hg];rfl
  have ah:Qh (l.map Qo) M.os.length=Qo g:=Qs (by simp[hg])
  have ei:(Qh B aQ).drop i=.sl rt (l.map Qo)::(Qh B aQ).drop (i+1):=by
   have hg2:(Qh B aQ)[i]?=some (.sl rt (l.map Qo)):=by
    rw[q3,zzag (zza.1 zW).1,zW]
   obtain⟨e1,e2⟩:=zza.1 hg2;rw[zzaf e1,e2]
  have cS:i<(Qh B aQ).length:=by
   rw[q3,zzah];exact zzbb (zza.1 zW).1 (zzgr _ _)
  have aa:(i:Int)<(M.ps.length:Int):=by omega
  have hw:=bK i (by omega);have pG:∀a∈l,(Qo a).length=18:=fun _ _=>rfl;have hnl:M.os.length<l.length:=by omega
  have atr:(M.os.length:Int)<(l.length:Int):=by omega
  simp only[Qq,Qd,Qg,Qi,zzae,zzaj]at uG;obtain⟨r1,r2⟩:=hr.more h.hrts aS p2 (l':=Yt o M.os.length l) (by rw[hnx];simp);rcases hr.1 i rt l aS p2 with rfl|⟨k,rfl,hk⟩
  ·simp[Pe,aa,MY,ei];refine Xy ?_;simp[Pe,aa,q1,q4,hw,e0,e3,e5,ah,Qo,Qc,atr,uG,kJ,XT];simp only[Qo,Qc,Qq,Qd,Qg,Qi,zzae,zzaj]at k37;have hM:=h.aj9 (rts':=bn.set i (.own ls.length 18)) n2.symm n3 (ps':=(M.ps.take (i+1)).map (Yt o M.os.length)++M.ps.drop (i+1)) (by rw[<- p1,zzca]) (by rw[zzca])
   have hc:setA (Qh B aQ) i [.sl (.own ls.length 18) (l.map Qo++[Qo (Zr (dB g) o)])]=kH (bn.set i (.own ls.length 18)) ((M.ps.take (i+1)).map (Yt o M.os.length)++M.ps.drop (i+1))++z:=by
    rw[<- p1,<- HG h.hrts (by simp only[gK];exact ai),q3,hnx];have lU:i<(kH bn ((M.ps.take i).map (Yt o M.os.length)++M.ps.drop i)).length:=(zza.1 zW).1;show(kH bn ((M.ps.take i).map (Yt o M.os.length)++M.ps.drop i)++z).set i _=_;rw[zzfs _ _ lU,zzby];rfl
   have ze:=r1 rfl;rw[p1,hnx]at ze;rw[<- hc]at hM;refine⟨k37,⟨?_,by omega⟩,by omega,aO,⟨i+1,_,_,bn.set i (.own ls.length 18),by simp,by omega,rfl,hM,by simpa using ze,?_,by simp;exact eV,?_,fN.set (.inl (.inr rfl)) _⟩,by omega⟩
   ·rintro row (⟨a,_,rfl⟩|rfl)<;>rfl
   ·simpa using dQ.grow _
   rw[Zy _ h4.1];exact ans
  have hM:=h.aj9 (rts':=bn) n2.symm n3 (ps':=(M.ps.take (i+1)).map (Yt o M.os.length)++M.ps.drop (i+1)) (by rw[<- p1,zzca]) rfl
  have hc:setA (Qh B aQ) i [.sl (.own k 18) (l.map Qo++[Qo (Zr (dB g) o)])]=kH bn ((M.ps.take (i+1)).map (Yt o M.os.length)++M.ps.drop (i+1))++z:=by
   have lU:i<(kH bn ((M.ps.take i).map (Yt o M.os.length)++M.ps.drop i)).length:=(zza.1 zW).1
   have sG:bn.set i (.own k 18)=bn:=by
    apply zzck;intro j;rw[zzcx];by_cases e:i=j
    ·subst e;rw[if_pos rfl,if_pos (zza.1 aS).1,aS]
    rw[if_neg e]
   have:=HG (rt:=.own k 18) (l:=Yt o M.os.length l) h.hrts (i:=i) (by simp only[gK];exact ai);simp only[sG]at this;rw[<- p1,<- this,q3,hnx];show(kH bn ((M.ps.take i).map (Yt o M.os.length)++M.ps.drop i)++z).set i _=_;rw[zzfs _ _ lU,zzby];rfl
  have ze:=r2 k rfl;rw[p1,hnx]at ze;rw[<- hc]at hM;simp[Pe,aa,MY,ei];refine Xy ?_;simp[Pe,aa,q1,q4,hw,e0,e3,e5,ah,Qo,Qc,atr,uG,kJ,XT,hk];simp only[Qo,Qc,Qq,Qd,Qg,Qi,zzae,zzaj]at k37;refine⟨k37,⟨?_,by omega⟩,by omega,aO,⟨i+1,_,_,bn,by simp,by omega,rfl,hM,by simpa using ze,?_,by simp;exact eV,?_,fN.set (.inl (.inr rfl)) _⟩,by omega⟩
  ·rintro row (⟨a,_,rfl⟩|rfl)<;>rfl
  ·simpa using dQ.put aS _
  rw[Zy _ h4.1];exact ans
 obtain rfl:i=M.ps.length:=by omega
 have bJ:¬(M.ps.length:Int)<(M.ps.length:Int):=by omega
 simp only[zzbs,zzbo,zzat]at h hr;simp[Pe,bJ,MY];refine aat Y o M.os.length _ B ls ms mn md _ pid aQ bn bQ z n0 Q h dQ hos eV ans (by simp[e0]) (by simp[e3]) h4.2.symm n1 n2 (hr.lt h.hrts) ?_;intro E' B' bX dh f4 hM' cV lU Mp
 exact hQ E' B' bX bn dh f4 hM' (fN.trans (cV.mono fun j hj=>.inl hj)) ⟨fun j rt l q1 q2=>by
  rcases hr.1 j rt l q1 q2 with e|⟨k,rfl,hk⟩
  ·exact .inl e
  exact .inr ⟨k,rfl,lU j k _ q1 hk⟩,hr.2⟩ Mp
def rR(Y:YT)(m:AM)(md:Nat)(M:Md)(pid aQ:Nat)(bn:List Rt)(bQ:Rt)(z:List AV)(o:Od)(h:gA m.boxes md M pid aQ bn bQ z)(hr:ez m.lens bn M.ps)(dQ:eU m.lens bn bQ M.os.length)
  (hn:∀l∈M.ps,l.length=M.os.length+1)(hap:∀l∈M.ps,∀g,l[M.os.length]?=some g->DO M o=false->Su (dB g) o)(eP:o.nw.al.length<=8796093022208)(hos:M.os.length<=900)(K:AV->AM->Prop)
  (h0:DP M o=none->∀ex,K (I 290) {m with boxes:=m.boxes++ex})
  (h1:∀M',DP M o=some M'->∀B' bX rts' dh,gA B' md M' pid aQ rts' dh z->bh (fun j=>j=md\/j=aQ) m.boxes B'->ez bX rts' M'.ps->eU bX rts' dh M'.os.length->K (I 0) ⟨B',bX,m.st,m.ln⟩):
  an Tryz.prog az Y 16 [.ptr md 0,.agg (Qq o)] m K:=by
 obtain⟨mb,ml,ms,mn⟩:=m;have q1:=h.row;have q2:=h.IB;have hB:∀ex,gA (mb++ex) md M pid aQ bn bQ z:=fun ex=>h.ext ex;have hR:∀ex,Qh (mb++ex) md=[.mp pid,.bs aQ 0 M.ps.length 1,.sl bQ (M.os.map tq)]:=fun ex=>(h.ext ex).row;have ka:=fun ex K hK=>uZ Y ⟨mb++ex,ml,ms,mn⟩ md M pid aQ bn bQ z (hB ex) K hK;have Tw:=sY o eP;simp only[Qq,Qd,Qg,Qi,zzae,zzaj]at Tw;simp only at q1 q2;have Th:IntKind.i64.wrap ((M.os.length:Int)+1)=(M.os.length:Int)+1:=by rw[Qk]<;>omega
 cases hbad:DO M o with
 |true=>
  have h0:=h0 (by unfold DP;rw[if_pos hbad]);refine Xe Tz (kJ o M.os.length) (by simp) ?_;simp[I5,abQ,Qq,Qd,Qg,Qi,kJ];refine ka _ _ ?_;simp[hR];unfold DO at hbad;cases hv:Xw o with
  |false=>
   rw[hv]at Tw;simp;exact⟨by simpa using Tw,h0 _⟩
  |true=>
   rw[hv]at hbad Tw;by_cases hs:o.sq=(M.os.length:Int)+1
   ·cases hx:M.os.getLast? with
    |none=>rw[hx]at hbad;simp[hs]at hbad
    |some x=>
     rw[hx]at hbad;simp[hs]at hbad;have aK:M.os≠[]:=by intro e;rw[e]at hx;simp at hx
     have eZ:0<M.os.length:=zzcw.2 aK;have eO:M.os[M.os.length-1]?=some x:=by rw[<- hx,zzfc]
     have ah:Qh (M.os.map tq) (M.os.length-1)=tq x:=Qs (by simp[eO]);have eX:IntKind.i64.wrap ((M.os.length:Int)-1)=((M.os.length-1:Nat):Int):=by rw[Qk]<;>omega
     have X6:((M.os.length-1:Nat):Int)<(M.os.length:Int):=by omega
     have amI:M.os.length-1<M.os.length:=by omega
     have hp1:(0:Int)<(M.os.length:Int):=by omega
     simp[hs,Th,eX,ah,X6,eZ,tq,hbad];rw[hs]at Tw;refine⟨by simpa using Tw,?_⟩;have:=h0 [Qq o];simp[Qq,Qd,Qg,Qi,hs]at this;exact this
   have Tg:(o.sq !=(M.os.length:Int)+1)=true:=by simpa using hs
   simp[hs,Th,Tg];exact⟨by simpa using Tw,h0 _⟩
 |false=>
  have axz:DP M o=some {M with ps:=M.ps.map (Yt o M.os.length),os:=M.os++[(o.sq,o.fr)]}:=by unfold DP;rw[if_neg (by rw[hbad];decide)]
  have h1:=h1 _ axz;have hap:=fun l hl g hg=>hap l hl g hg hbad;have ayb:=hbad;unfold DO at hbad
  have hv:Xw o=true:=by cases hv:Xw o with
   |true=>rfl
   |false=>rw[hv]at hbad;simp at hbad
  rw[hv]at hbad Tw;simp only[Bool.not_true,Bool.false_or,zzew,decide_eq_false_iff_not]at hbad;obtain⟨hs,eO⟩:=hbad;have hs:o.sq=(M.os.length:Int)+1:=by omega
  have Tg:(o.sq !=(M.os.length:Int)+1)=false:=by simp[hs]
  have hd:(M.os=[])\/∃x,M.os.getLast?=some x/\¬o.fr<x.2/\0<M.os.length/\Qh (M.os.map tq) (M.os.length-1)=tq x:=by
   cases hx:M.os.getLast? with
   |none=>exact .inl (zzgn.1 hx)
   |some x=>
    rw[hx]at eO;have aK:M.os≠[]:=by intro e;rw[e]at hx;simp at hx
    refine .inr ⟨x,rfl,by simpa using eO,zzcw.2 aK,Qs ?_⟩;have:M.os[M.os.length-1]?=some x:=by rw[<- hx,zzfc]
    simp[this]
  refine Xe Tz (kJ o M.os.length) (by simp) ?_;rw[agl];simp[atp,Qq,Qd,Qg,Qi,kJ];refine ka _ _ ?_;obtain he|⟨x,_,hlx,eZ,ah⟩:=hd
  ·have hM0:M.os.length=0:=by rw[he];rfl
   have hp0:¬(0:Int)<(M.os.length:Int):=by omega
   have hp1:¬0<M.os.length:=by omega
   have aK:∀n:Nat,kJ o n=kJ o n:=fun _=>rfl;simp[hv,hR,hs,Th,hp1]
   rw[hs]at Tw;refine⟨by simpa using Tw,?_⟩;refine HH Y o _ _ ml ms mn md M pid aQ bn bQ z mb.length _ (hB _) hr dQ hos (by simp) (by simp[Qq,Qd,Qg,Qi,hs]) hn hap (by simp) (by simp) (by simp) ?_;intro E' B' bX rts' dh f4 hM fN AD Mp;have:=h1 B' bX rts' dh hM (bh.aas fN) AD (by simpa using Mp);simp[abQ,f4];exact this
  have eX:IntKind.i64.wrap ((M.os.length:Int)-1)=((M.os.length-1:Nat):Int):=by rw[Qk]<;>omega
  have X6:((M.os.length-1:Nat):Int)<(M.os.length:Int):=by omega
  have amI:M.os.length-1<M.os.length:=by omega
  have hp1:(0:Int)<(M.os.length:Int):=by omega
  have aK:¬M.os=[]:=by intro e;rw[e]at eZ;simp at eZ
  simp[hv,hR,hs,Th,eX,ah,X6,eZ,tq,hlx];rw[hs]at Tw;refine⟨by simpa using Tw,?_⟩;refine HH Y o _ _ ml ms mn md M pid aQ bn bQ z mb.length _ (hB _) hr dQ hos (by simp) (by simp[Qq,Qd,Qg,Qi,hs]) hn hap (by simp) (by simp) (by simp) ?_;intro E' B' bX rts' dh f4 hM fN AD Mp;have:=h1 B' bX rts' dh hM (bh.aas fN) AD (by simpa using Mp);simp[abQ,f4];exact this
end
end Go.Proofs.YtnopaopphmjnmaaGreatDoor
