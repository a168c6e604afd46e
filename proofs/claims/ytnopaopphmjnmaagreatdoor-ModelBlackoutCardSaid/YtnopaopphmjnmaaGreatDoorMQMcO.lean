import Derived.Test.YtnopaopphmjnmaaGreatDoorMQMcN
set_option linter.all false
set_option maxRecDepth 100000
set_option maxHeartbeats 64000000
namespace Go.Proofs.YtnopaopphmjnmaaGreatDoor
noncomputable section
open Go Go.Abs
def cr(g:Pg):Pg:={g with ev:=g.ev.map Td}
def BU(g:Pg):Qm (cr g)=Qm g:=by
 unfold Qm cr;simp only[BS]
def dEv(l:List AV):bE:=⟨dI (dN l 0),dI (dN l 1),dI (dN l 2),dI (dN l 3),dI (dN l 4),dI (dN l 5),(dR (dN l 6)).map dSp,false⟩
def dS:AV->ByteArray
 |.str s=>s
 |_=>⟨#[]⟩
def dCu(l:List AV):Cue:=⟨dI (dN l 0),dI (dN l 1),dI (dN l 2),dI (dN l 3),dS (dN l 4)⟩
def dPg(l:List AV):Pg:=⟨dPl l,(dR (dN l 13)).map dEv,(dR (dN l 14)).map dCu,dI (dN l 15),(dR (dN l 16)).map fun r=>dI (dN r 0),dI (dN l 17)⟩
def PK(l:List bE):(l.map Qe).map dEv=l.map Td:=by
 rw[zzcz];refine zzda fun e _=>?_;show(⟨e.id,e.it,e.st,e.fr,e.i,e.re,(e.al.map Qf).map dSp,false⟩:bE)=Td e;rw[Qeh Ef];rfl
def agX(g:Pg):dPg (Qm g)=cr g:=by
 show(⟨dPl (Qa g.p),(g.ev.map Qe).map dEv,(g.cu.map Qi).map dCu,g.ed,(g.dr.map Qy).map (fun r=>dI (dN r 0)),g.ve⟩:Pg)=cr g;rw[Eg,PK,Qeh (fun _=>rfl),Qeh (fun _=>rfl)];rfl
def Ii(g:Pg)(o:Od)(h:ML (cr g) o):Pure Tryz.prog aA 37 [.agg (Qm g),.agg (Qp o)] (.agg (Qm (Xw (cr g) o))):=by
 have:=MM (cr g) o h;rw[BU]at this;exact this
def PL:SC:=(⟨_,by cbv⟩:uf [1,1,1,1,1] J6).1
def aba:SC:=(⟨_,fun _=>by cbv⟩:Kq [1] (Kj [1,1,1,1] J6)).1 PL
def auv:SC:=(⟨_,fun _=>by cbv⟩:Kq [1,1,1,1] J6).1 aba
theorem agY:J6=auv:=rfl
def Ao(M:Md)(o:Od):Bool:=!Xy o||(decide (o.sq≠(M.os.length:Int)+1)||(match M.os.getLast? with
 |none=>false
 |some x=>decide (o.fr<x.2)))
def Vv(o:Od)(n:Nat)(l:List Pg):List Pg:=l++(l[n]?.map fun g=>Xw (cr g) o).toList
def zF(M:Md)(o:Od):Option Md:=if Ao M o=true then none else some {M with ps:=M.ps.map (Vv o M.os.length),os:=M.os++[(o.sq,o.fr)]}
def dG(ls:List Nat)(aV:List Rt)(ps:List (List Pg)):Prop:=
 (∀(i:Nat)(rt:Rt)(l:List Pg),aV[i]?=some rt->ps[i]?=some l->rt=.full\/∃k,rt=.own k 18/\ls[k]?=some l.length)/\∀(i j k:Nat),aV[i]?=some (.own k 18)->aV[j]?=some (.own k 18)->i=j
def dK(ls:List Nat)(aV:List Rt)(bI:Rt)(n:Nat):Prop:=(bI=.nil/\n=0)\/∃k,bI=.own k 26/\ls[k]?=some n/\∀i:Nat,aV[i]?≠some (.own k 18)
def kL(o:Od)(n:Nat):Nat->FuncId->List AV->AV:=fun d fn l=>if fn=39 then .gd false .junk else if fn=40 then .bool (Xy o)else if fn=37 then(match l with
 |[.agg cs,_]=>.agg (Qm (Xw (dPg cs) o))
 |_=>.junk)else .junk
def gD.abb{B:List (List AV)}{md:Nat}{M:Md}{pid aQ:Nat}{aV:List Rt}{bI:Rt}{z:List AV}(h:gD B md M pid aQ aV bI z)(Aj:md≠pid)(fI:md≠aQ)(os':List (Int×Int))(cS:Rt)(hl:os'.length<=1000)(hr:tH cS .ro):
  gD (B.set md [.mp pid,.bs aQ 0 M.ps.length 1,.sl cS (os'.map tJ)]) md {M with os:=os'} pid aQ aV cS z:=
 ⟨by have:=h.Fz;simpa using this,Vs _ h.Fz,by have:=h.hpid;simpa using this,by rw[Zz _ Aj];exact h.map,by have:=h.hbid;simpa using this,by rw[Zz _ fI];exact h.hps,h.hrts,h.ne,h.gM,h.len,hl,.inl hr⟩
def bw.abc{S:Nat->Prop}{B l B':List (List AV)}(h:bw S (B++l) B'):bw S B B':=
 ⟨by have:=h.1;simp at this;omega,fun j hj hs=>by rw[h.2 j (by simp;omega) hs,Ql hj]⟩
def Ij{aV:List Rt}{ps:List (List Pg)}{i:Nat}{rt:Rt}{l:List Pg}(hl:aV.length=ps.length)(hi:i<ps.length):(iN aV ps).set i (.sl rt (l.map Qm))=iN (aV.set i rt) (ps.set i l):=by
 unfold iN;apply zzcm;intro j;rw[zzcy,zzfu,zzfu,zzcy,zzcy,List.length_zipWith];by_cases hj:i=j
 ·subst hj;simp[hl,hi]
 simp[hj]
def abd(Y:YT)(o:Od)(n:Nat)(E:List (Nat×AV))(B:List (List AV))(ls:List Nat)(ms:Nat->LS)(mn:Nat)(md:Nat)(M:Md)(pid aQ:Nat)(aV:List Rt)(bI:Rt)(z:List AV)(n0:Nat)(Q:Exit->AS->Prop)
  (h:gD B md M pid aQ aV bI z)(c9:dK ls aV bI M.os.length)(MR:M.os.length<=900)(eZ:n0<B.length)(uj:Qh B n0=Qp o)(e0:Abs.look E 0=.ptr md 0)(e3:Abs.look E 3=.ptr n0 0)(aM:n0≠md)
  (Aj:md≠pid)(fI:md≠aQ)(hrl:∀(i k:Nat),aV[i]?=some (.own k 18)->k<ls.length)
  (hQ:∀E' B' cM cS,Abs.look E' 4=I 0->gD B' md {M with os:=M.os++[(o.sq,o.fr)]} pid aQ aV cS z->bw (fun j=>j=md\/j=aQ) B B'->(∀(i k l:Nat),aV[i]?=some (.own k 18)->ls[k]?=some l->cM[k]?=some l)->dK cM aV cS (M.os.length+1)->Q .ret ⟨Xv 83 E',⟨B',cM,ms,mn⟩⟩):
  vc Tryz.prog aA (kL o n) Y PL ⟨Xv 83 E,⟨B,ls,ms,mn⟩⟩ Q:=by
 have q1:=h.row;have q2:=h.Fz;simp only[Qp,Qd,Qg,Qi,zzad,zzah]at uj;obtain⟨rfl,h0⟩|⟨k,rfl,hk,hd⟩:=c9
 ·have he:M.os=[]:=zzav h0;simp[PL];refine Ze ?_;simp[e0,e3,q1,q2,uj,kL,he];have e:(M.os++[(o.sq,o.fr)]).map tJ=[tJ (o.sq,o.fr)]:=by rw[he];rfl
  have hM:=h.abb Aj fI (M.os++[(o.sq,o.fr)]) (.own ls.length 26) (by simp[he]) (tH.own _ _)
  have hD:∀i:Nat,aV[i]?≠some (.own ls.length 18):=fun i hi=>by
   have:=hrl i _ hi;omega
  have:=fun E' h4=>hQ E' _ (ls++[1]) (.own ls.length 26) h4 hM ((bw.refl _ _).set (.inl (.inl rfl)) _) (fun i k l _ hk=>by rw[zzag (zza.1 hk).1];exact hk) (.inr ⟨_,rfl,by simp[he],hD⟩);simp only[e]at this;exact this _ zd
 have pS:∀a∈M.os,(tJ a).length=26:=fun _ _=>rfl;have e:(M.os++[(o.sq,o.fr)]).map tJ=M.os.map tJ++[tJ (o.sq,o.fr)]:=zd
 have hM:=h.abb Aj fI (M.os++[(o.sq,o.fr)]) (.own k 26) (by simp;omega) (tH.own _ _);have sI:=(zza.1 hk).1
 have:=fun E' h4=>hQ E' _ (ls.set k (M.os.length+1)) (.own k 26) h4 hM ((bw.refl _ _).set (.inl (.inl rfl)) _) (fun i k' l hi zI=>by
  have:k≠k':=by rintro rfl;exact hd i hi
  rw[zzbf this];exact zI) (.inr ⟨_,rfl,by simp[sI],hd⟩)
 simp only[e]at this;simp[PL];refine Ze ?_;simp[e0,e3,q1,q2,uj,hk];exact⟨⟨by rintro row (⟨a,b,_,rfl⟩|rfl)<;>rfl,zE⟩,this _ zd⟩
def dG.lt{ls:List Nat}{aV:List Rt}{ps:List (List Pg)}(h:dG ls aV ps)(hl:aV.length=ps.length):∀(i k:Nat),aV[i]?=some (.own k 18)->k<ls.length:=fun i k hi=>by
 have h1:=(zza.1 hi).1;rcases h.1 i _ _ hi (zzae zE)with e|⟨k',e,hk⟩
 ·cases e
 cases e;exact(zza.1 hk).1
def dG.more{ls:List Nat}{aV:List Rt}{ps:List (List Pg)}(h:dG ls aV ps)(hl:aV.length=ps.length){i:Nat}{rt:Rt}{l l':List Pg}(hi:aV[i]?=some rt)(hp:ps[i]?=some l)(eM:l'.length=l.length+1):
  (rt=.full->dG (ls++[l'.length]) (aV.set i (.own ls.length 18)) (ps.set i l'))/\∀k,rt=.own k 18->dG (ls.set k l'.length) aV (ps.set i l'):=by
 have ai:=h.lt hl;have fO:=(zza.1 hi).1;constructor
 ·rintro rfl;refine⟨fun j KX l2 hj FI=>?_,fun a b k ha hb=>?_⟩
  ·rw[zzcy]at hj FI;by_cases eE:i=j
   ·subst eE;rw[if_pos rfl,if_pos fO]at hj;rw[if_pos rfl,if_pos zE]at FI;cases hj;cases FI;exact .inr ⟨_,rfl,zd⟩
   rw[if_neg eE]at hj FI;rcases h.1 j KX l2 hj FI with e|⟨k,e,hk⟩
   ·exact .inl e
   exact .inr ⟨k,e,by rw[zzag (zza.1 hk).1];exact hk⟩
  rw[zzcy]at ha hb;by_cases e1:i=a
  ·rw[if_pos e1,if_pos fO]at ha;cases ha;by_cases e2:i=b
   ·omega
   rw[if_neg e2]at hb;exact absurd (ai b _ hb) zE
  rw[if_neg e1]at ha;by_cases e2:i=b
  ·rw[if_pos e2,if_pos fO]at hb;cases hb;exact absurd (ai a _ ha) zE
  rw[if_neg e2]at hb;exact h.2 a b k ha hb
 rintro k rfl;refine⟨fun j KX l2 hj FI=>?_,h.2⟩;rw[zzcy]at FI;by_cases eE:i=j
 ·subst eE;rw[hi]at hj;cases hj;simp only[if_true]at FI;split at FI
  ·cases FI;exact .inr ⟨k,rfl,by rw[zzba (ai i k hi)]⟩
  cases FI
 rw[if_neg eE]at FI;rcases h.1 j KX l2 hj FI with e|⟨k2,e,hk⟩
 ·exact .inl e
 refine .inr ⟨k2,e,?_⟩
 have aM:k≠k2:=by
  rintro rfl;subst e;exact eE (h.2 i j k hi hj)
 rw[zzbf aM];exact hk
def gD.akU{B:List (List AV)}{md:Nat}{M:Md}{pid aQ:Nat}{aV rts':List Rt}{bI:Rt}{z:List AV}(h:gD B md M pid aQ aV bI z)(hbm:aQ≠md)(hbp:aQ≠pid){ps':List (List Pg)}(hl:ps'.length=M.ps.length)(hr:rts'.length=aV.length):
  gD (B.set aQ (iN rts' ps'++z)) md {M with ps:=ps'} pid aQ rts' bI z:=
 ⟨by have:=h.Fz;simpa using this,by rw[Zz _ hbm,h.row];simp[hl],by have:=h.hpid;simpa using this,by rw[Zz _ hbp];exact h.map,by have:=h.hbid;simpa using this,Vs _ h.hbid,by rw[hr,h.hrts,hl],
  fun e=>h.ne (zzav (by have:=congrArg List.length e;simp only[zzcf]at this;omega)),fun c j hc=>by have:=h.gM c j hc;simp only[hl];exact this,by simp only[hl];exact h.len,h.los,h.hrto⟩
def gD.nes{B:List (List AV)}{md:Nat}{M:Md}{pid aQ:Nat}{aV:List Rt}{bI:Rt}{z:List AV}(h:gD B md M pid aQ aV bI z):md≠pid/\md≠aQ/\aQ≠pid:=by
 have hps:∃rt l r,Qh B aQ=.sl rt l::r:=by
  rw[h.hps];have h1:=h.hrts;cases hp:M.ps with
  |nil=>exact absurd hp h.ne
  |cons a r=>cases hr:aV with
   |nil=>rw[hp,hr]at h1;simp at h1
   |cons b s=>exact⟨b,a.map Qm,iN s r++z,rfl⟩
 obtain⟨rt,l,r,hps⟩:=hps;refine⟨fun e=>?_,fun e=>?_,fun e=>?_⟩
 ·have:=h.row;rw[e,h.map]at this;simp at this
 ·have:=h.row;rw[e,hps]at this;simp at this
 rw[e,h.map]at hps;simp at hps
def gD.ayO{B:List (List AV)}{md:Nat}{M:Md}{pid aQ:Nat}{aV:List Rt}{bI:Rt}{z:List AV}(h:gD B md M pid aQ aV bI z){n0:Nat}{o:Od}(ho:Qh B n0=Qp o):aQ≠n0/\md≠n0:=by
 refine⟨fun e=>?_,fun e=>?_⟩
 ·have h1:=h.hrts;rw[<- e,h.hps]at ho;cases hp:M.ps with
  |nil=>exact absurd hp h.ne
  |cons a r=>cases hr:aV with
   |nil=>rw[hp,hr]at h1;simp at h1
   |cons b s=>rw[hp,hr]at ho;simp[iN,Qp]at ho
 have:=h.row;rw[e,ho]at this;simp[Qp]at this
def dK.grow{ls:List Nat}{aV:List Rt}{bI:Rt}{n i:Nat}(h:dK ls aV bI n)(x:Nat):dK (ls++[x]) (aV.set i (.own ls.length 18)) bI n:=by
 obtain h|⟨k,h1,h2,h3⟩:=h
 ·exact .inl h
 have hk:=(zza.1 h2).1;refine .inr ⟨k,h1,by rw[zzag hk];exact h2,fun j hj=>?_⟩;rw[zzcy]at hj;by_cases e:i=j
 ·rw[if_pos e]at hj;split at hj
  ·cases hj;omega
  cases hj
 rw[if_neg e]at hj;exact h3 j hj
def dK.put{ls:List Nat}{aV:List Rt}{bI:Rt}{n i k:Nat}(h:dK ls aV bI n)(hi:aV[i]?=some (.own k 18))(x:Nat):dK (ls.set k x) aV bI n:=by
 obtain h|⟨k',h1,h2,h3⟩:=h
 ·exact .inl h
 have:k≠k':=by rintro rfl;exact h3 i hi
 exact .inr ⟨k',h1,by rw[zzbf this];exact h2,h3⟩
def agZ{ps:List (List Pg)}{i:Nat}{l:List Pg}{f:List Pg->List Pg}(h:ps[i]?=some l):((ps.take i).map f++ps.drop i).set i (f l)=(ps.take (i+1)).map f++ps.drop (i+1)/\((ps.take i).map f++ps.drop i)[i]?=some l/\((ps.take i).map f++ps.drop i).length=ps.length:=by
 have ai:=(zza.1 h).1;have hd:ps.drop i=l::ps.drop (i+1):=by rw[zzaf ai,(zza.1 h).2]
 have iR:((ps.take i).map f).length=i:=by rw[zzbj,zzaq];omega
 refine⟨?_,?_,?_⟩
 ·rw[zzcu _ _ zE,iR,zzdi,hd,List.set_cons_zero,zzas,h];simp
 ·rw[zzal zE,iR,zzdi,hd];rfl
 rw[zzai,iR,zzcr];omega
def auw(B0:List (List AV))(M:Md)(o:Od)(md pid aQ:Nat)(bI:Rt)(z:List AV)(n0:Nat)(ms:Nat->LS)(mn:Nat)(s:Nat->AV)(m:AM):Prop:=
 ∃(i:Nat)(B:List (List AV))(ls:List Nat)(aV:List Rt),s 48=I i/\i<=M.ps.length/\m=⟨B,ls,ms,mn⟩/\
  gD B md {M with ps:=(M.ps.take i).map (Vv o M.os.length)++M.ps.drop i} pid aQ aV bI z/\dG ls aV ((M.ps.take i).map (Vv o M.os.length)++M.ps.drop i)/\dK ls aV bI M.os.length/\n0<B.length/\Qh B n0=Qp o/\bw (fun j=>j=md\/j=aQ) B0 B
def Ik(Y:YT)(o:Od)(E:List (Nat×AV))(B:List (List AV))(ls:List Nat)(ms:Nat->LS)(mn:Nat)(md:Nat)(M:Md)(pid aQ:Nat)(aV:List Rt)(bI:Rt)(z:List AV)(n0:Nat)(Q:Exit->AS->Prop)
  (h:gD B md M pid aQ aV bI z)(hr:dG ls aV M.ps)(c9:dK ls aV bI M.os.length)(MR:M.os.length<=900)(eZ:n0<B.length)(uj:Qh B n0=Qp o)
  (hn:∀l∈M.ps,l.length=M.os.length+1)(hap:∀l∈M.ps,∀g,l[M.os.length]?=some g->ML (cr g) o)
  (e0:Abs.look E 0=.ptr md 0)(e3:Abs.look E 3=.ptr n0 0)(e5:Abs.look E 5=I M.os.length)
  (hQ:∀E' B' cM rts' cS,Abs.look E' 4=I 0->gD B' md {M with ps:=M.ps.map (Vv o M.os.length),os:=M.os++[(o.sq,o.fr)]} pid aQ rts' cS z->bw (fun j=>j=md\/j=aQ) B B'->dG cM rts' (M.ps.map (Vv o M.os.length))->dK cM rts' cS (M.os.length+1)->Q .ret ⟨Xv 83 E',⟨B',cM,ms,mn⟩⟩):
  vc Tryz.prog aA (kL o M.os.length) Y aba ⟨Xv 83 E,⟨B,ls,ms,mn⟩⟩ Q:=by
 have q1:=h.row;have q2:=h.Fz;simp[aba,e0,q1];refine Qk Nw (auw B M o md pid aQ bI z n0 ms mn) (fun s _=>M.ps.length-(numOf (s 48)).toNat) ?_ ?_
 ·exact⟨0,B,ls,aV,zd,zE,rfl,by simpa using h,by simpa using hr,c9,eZ,uj,bw.refl _ _⟩
 rintro s m ⟨i,B,ls,aV,PM,hi,rfl,h,hr,c9,eZ,uj,eU⟩;obtain⟨n1,n2,n3⟩:=h.nes;have h4:=h.ayO uj;have aol:=uj;have q1:=h.row;have q2:=h.Fz;have q3:=h.hps;have q4:=h.hbid;have gM:((M.ps.take i).map (Vv o M.os.length)++M.ps.drop i).length=M.ps.length:=by rw[zzai,zzbj,zzaq,zzcr];omega
 have q5:=h.len;simp only[gM]at q1 q3 q5;rcases zzaa i M.ps.length with ai|bz
 ·obtain⟨l,hl⟩:=aU ai;obtain⟨p1,p2,p3⟩:=agZ (f:=Vv o M.os.length) hl;obtain⟨rt,aT,Aj⟩:=Ie h.hrts p2;have w8:=hn l (zzac hl);obtain⟨g,hg⟩:∃g,l[M.os.length]?=some g:=⟨_,zzae zE⟩;have k37:=Ii g o (hap l (zzac hl) g hg);have Lv:dPg [I g.p.ch,I g.p.nu,I g.p.de,I g.p.of,.sl .ro (g.p.sh.map Qf),I g.p.ep,I g.p.rg,I g.p.ln,I g.p.fi,.sl .ro (g.p.aN.map Qn),.sl .ro (g.p.ens.map Qd),.sl .ro (g.p.bks.map Xg),.sl .ro (g.p.cls.map Qg),.sl .ro (g.ev.map Qe),.sl .ro (g.cu.map Qi),I g.ed,.sl .ro (g.dr.map Qy),I g.ve]=cr g:=agX g;have hnx:Vv o M.os.length l=l++[Xw (cr g) o]:=by unfold Vv;rw[hg];rfl
  have ah:Qh (l.map Qm) M.os.length=Qm g:=Qt (by simp[hg])
  have ew:(Qh B aQ).drop i=.sl rt (l.map Qm)::(Qh B aQ).drop (i+1):=by
   have hg2:(Qh B aQ)[i]?=some (.sl rt (l.map Qm)):=by
    rw[q3,zzag (zza.1 Aj).1,Aj]
   obtain⟨e1,e2⟩:=zza.1 hg2;rw[zzaf e1,e2]
  have dy:i<(Qh B aQ).length:=by
   rw[q3,zzai];exact zzaz (zza.1 Aj).1 (zzgy _ _)
  have aa:(i:Int)<(M.ps.length:Int):=zE
  have hw:=bM i zE;have pS:∀a∈l,(Qm a).length=18:=fun _ _=>rfl;have hnl:M.os.length<l.length:=zE
  have auy:(M.os.length:Int)<(l.length:Int):=zE
  simp only[Qp,Qd,Qg,Qi,zzad,zzah]at uj;obtain⟨r1,r2⟩:=hr.more h.hrts aT p2 (l':=Vv o M.os.length l) (by rw[hnx];simp);rcases hr.1 i rt l aT p2 with rfl|⟨k,rfl,hk⟩
  ·simp[PM,aa,Nw,ew];refine Ze ?_;simp[PM,aa,q1,q4,hw,e0,e3,e5,ah,Qm,Qa,auy,uj,kL,Lv];simp only[Qm,Qa,Qp,Qd,Qg,Qi,zzad,zzah]at k37;have hM:=h.akU (rts':=aV.set i (.own ls.length 18)) n2.symm n3 (ps':=(M.ps.take (i+1)).map (Vv o M.os.length)++M.ps.drop (i+1)) (by rw[<- p1,zzck]) (by rw[zzck])
   have hc:setA (Qh B aQ) i [.sl (.own ls.length 18) (l.map Qm++[Qm (Xw (cr g) o)])]=iN (aV.set i (.own ls.length 18)) ((M.ps.take (i+1)).map (Vv o M.os.length)++M.ps.drop (i+1))++z:=by
    rw[<- p1,<- Ij h.hrts (by simp only[gM];exact ai),q3,hnx];have gN:i<(iN aV ((M.ps.take i).map (Vv o M.os.length)++M.ps.drop i)).length:=(zza.1 Aj).1;show(iN aV ((M.ps.take i).map (Vv o M.os.length)++M.ps.drop i)++z).set i _=_;rw[zzfz _ _ gN,zzca];rfl
   have zq:=r1 rfl;rw[p1,hnx]at zq;rw[<- hc]at hM;refine⟨k37,⟨?_,zE⟩,zE,aP,⟨i+1,_,_,aV.set i (.own ls.length 18),zd,zE,rfl,hM,by simpa using zq,?_,by simp;exact eZ,?_,eU.set (.inl (.inr rfl)) _⟩,zE⟩
   ·rintro row (⟨a,_,rfl⟩|rfl)<;>rfl
   ·simpa using c9.grow _
   rw[Zz _ h4.1];exact aol
  have hM:=h.akU (rts':=aV) n2.symm n3 (ps':=(M.ps.take (i+1)).map (Vv o M.os.length)++M.ps.drop (i+1)) (by rw[<- p1,zzck]) rfl
  have hc:setA (Qh B aQ) i [.sl (.own k 18) (l.map Qm++[Qm (Xw (cr g) o)])]=iN aV ((M.ps.take (i+1)).map (Vv o M.os.length)++M.ps.drop (i+1))++z:=by
   have gN:i<(iN aV ((M.ps.take i).map (Vv o M.os.length)++M.ps.drop i)).length:=(zza.1 Aj).1
   have sQ:aV.set i (.own k 18)=aV:=by
    apply zzcm;intro j;rw[zzcy];by_cases e:i=j
    ·subst e;rw[if_pos rfl,if_pos (zza.1 aT).1,aT]
    rw[if_neg e]
   have:=Ij (rt:=.own k 18) (l:=Vv o M.os.length l) h.hrts (i:=i) (by simp only[gM];exact ai);simp only[sQ]at this;rw[<- p1,<- this,q3,hnx];show(iN aV ((M.ps.take i).map (Vv o M.os.length)++M.ps.drop i)++z).set i _=_;rw[zzfz _ _ gN,zzca];rfl
  have zq:=r2 k rfl;rw[p1,hnx]at zq;rw[<- hc]at hM;simp[PM,aa,Nw,ew];refine Ze ?_;simp[PM,aa,q1,q4,hw,e0,e3,e5,ah,Qm,Qa,auy,uj,kL,Lv,hk];simp only[Qm,Qa,Qp,Qd,Qg,Qi,zzad,zzah]at k37;refine⟨k37,⟨?_,zE⟩,zE,aP,⟨i+1,_,_,aV,zd,zE,rfl,hM,by simpa using zq,?_,by simp;exact eZ,?_,eU.set (.inl (.inr rfl)) _⟩,zE⟩
  ·rintro row (⟨a,_,rfl⟩|rfl)<;>rfl
  ·simpa using c9.put aT _
  rw[Zz _ h4.1];exact aol
 obtain rfl:i=M.ps.length:=zE
 have bL:¬(M.ps.length:Int)<(M.ps.length:Int):=zE
 simp only[zzbu,zzbn,zzau]at h hr;simp[PM,bL,Nw];refine abd Y o M.os.length _ B ls ms mn md _ pid aQ aV bI z n0 Q h c9 MR eZ aol (by simp[e0]) (by simp[e3]) h4.2.symm n1 n2 (hr.lt h.hrts) ?_;intro E' B' cM cS f4 hM' dD gN Il
 exact hQ E' B' cM aV cS f4 hM' (eU.trans (dD.mono fun j hj=>.inl hj)) ⟨fun j rt l q1 q2=>by
  rcases hr.1 j rt l q1 q2 with e|⟨k,rfl,hk⟩
  ·exact .inl e
  exact .inr ⟨k,rfl,gN j k _ q1 hk⟩,hr.2⟩ Il
def lR(Y:YT)(m:AM)(md:Nat)(M:Md)(pid aQ:Nat)(aV:List Rt)(bI:Rt)(z:List AV)(o:Od)(h:gD m.boxes md M pid aQ aV bI z)(hr:dG m.lens aV M.ps)(c9:dK m.lens aV bI M.os.length)
  (hn:∀l∈M.ps,l.length=M.os.length+1)(hap:∀l∈M.ps,∀g,l[M.os.length]?=some g->Ao M o=false->ML (cr g) o)(eD:o.nw.al.length<=8796093022208)(MR:M.os.length<=900)(K:AV->AM->Prop)
  (h0:zF M o=none->∀ex,K (I 290) {m with boxes:=m.boxes++ex})
  (h1:∀M',zF M o=some M'->∀B' cM rts' cS,gD B' md M' pid aQ rts' cS z->bw (fun j=>j=md\/j=aQ) m.boxes B'->dG cM rts' M'.ps->dK cM rts' cS M'.os.length->K (I 0) ⟨B',cM,m.st,m.ln⟩):
  an Tryz.prog aA Y 16 [.ptr md 0,.agg (Qp o)] m K:=by
 obtain⟨mb,ml,ms,mn⟩:=m;have q1:=h.row;have q2:=h.Fz;have hB:∀ex,gD (mb++ex) md M pid aQ aV bI z:=fun ex=>h.ext ex;have hR:∀ex,Qh (mb++ex) md=[.mp pid,.bs aQ 0 M.ps.length 1,.sl bI (M.os.map tJ)]:=fun ex=>(h.ext ex).row;have ka:=fun ex K hK=>vl Y ⟨mb++ex,ml,ms,mn⟩ md M pid aQ aV bI z (hB ex) K hK;have UH:=tu o eD;simp only[Qp,Qd,Qg,Qi,zzad,zzah]at UH;simp only at q1 q2;have T4:IntKind.i64.wrap ((M.os.length:Int)+1)=(M.os.length:Int)+1:=by rw[Qj]<;>omega
 cases hbad:Ao M o with
 |true=>
  have h0:=h0 (by unfold zF;rw[if_pos hbad]);refine Xd UK (kL o M.os.length) zd ?_;simp[J6,acw,Qp,Qd,Qg,Qi,kL];refine ka _ _ ?_;simp[hR];unfold Ao at hbad;cases hv:Xy o with
  |false=>
   rw[hv]at UH;simp;exact⟨by simpa using UH,h0 _⟩
  |true=>
   rw[hv]at hbad UH;by_cases hs:o.sq=(M.os.length:Int)+1
   ·cases hx:M.os.getLast? with
    |none=>rw[hx]at hbad;simp[hs]at hbad
    |some x=>
     rw[hx]at hbad;simp[hs]at hbad;have aM:M.os≠[]:=by intro e;rw[e]at hx;simp at hx
     have fk:0<M.os.length:=zzcx.2 aM;have sK:M.os[M.os.length-1]?=some x:=by rw[<- hx,zzfj]
     have ah:Qh (M.os.map tJ) (M.os.length-1)=tJ x:=Qt (by simp[sK]);have eT:IntKind.i64.wrap ((M.os.length:Int)-1)=((M.os.length-1:Nat):Int):=by rw[Qj]<;>omega
     have ZG:((M.os.length-1:Nat):Int)<(M.os.length:Int):=zE
     have anz:M.os.length-1<M.os.length:=zE
     have hp1:(0:Int)<(M.os.length:Int):=zE
     simp[hs,T4,eT,ah,ZG,fk,tJ,hbad];rw[hs]at UH;refine⟨by simpa using UH,?_⟩;have:=h0 [Qp o];simp[Qp,Qd,Qg,Qi,hs]at this;exact this
   have T3:(o.sq !=(M.os.length:Int)+1)=true:=by simpa using hs
   simp[hs,T4,T3];exact⟨by simpa using UH,h0 _⟩
 |false=>
  have ayP:zF M o=some {M with ps:=M.ps.map (Vv o M.os.length),os:=M.os++[(o.sq,o.fr)]}:=by unfold zF;rw[if_neg (by rw[hbad];decide)]
  have h1:=h1 _ ayP;have hap:=fun l hl g hg=>hap l hl g hg hbad;have azs:=hbad;unfold Ao at hbad
  have hv:Xy o=true:=by cases hv:Xy o with
   |true=>rfl
   |false=>rw[hv]at hbad;simp at hbad
  rw[hv]at hbad UH;simp only[Bool.not_true,Bool.false_or,zzez,decide_eq_false_iff_not]at hbad;obtain⟨hs,sK⟩:=hbad;have hs:o.sq=(M.os.length:Int)+1:=zE
  have T3:(o.sq !=(M.os.length:Int)+1)=false:=by simp[hs]
  have hd:(M.os=[])\/∃x,M.os.getLast?=some x/\¬o.fr<x.2/\0<M.os.length/\Qh (M.os.map tJ) (M.os.length-1)=tJ x:=by
   cases hx:M.os.getLast? with
   |none=>exact .inl (zzgu.1 hx)
   |some x=>
    rw[hx]at sK;have aM:M.os≠[]:=by intro e;rw[e]at hx;simp at hx
    refine .inr ⟨x,rfl,by simpa using sK,zzcx.2 aM,Qt ?_⟩;have:M.os[M.os.length-1]?=some x:=by rw[<- hx,zzfj]
    simp[this]
  refine Xd UK (kL o M.os.length) zd ?_;rw[agY];simp[auv,Qp,Qd,Qg,Qi,kL];refine ka _ _ ?_;obtain he|⟨x,_,hlx,fk,ah⟩:=hd
  ·have hM0:M.os.length=0:=by rw[he];rfl
   have hp0:¬(0:Int)<(M.os.length:Int):=zE
   have hp1:¬0<M.os.length:=zE
   have aM:∀n:Nat,kL o n=kL o n:=fun _=>rfl;simp[hv,hR,hs,T4,hp1]
   rw[hs]at UH;refine⟨by simpa using UH,?_⟩;refine Ik Y o _ _ ml ms mn md M pid aQ aV bI z mb.length _ (hB _) hr c9 MR zd (by simp[Qp,Qd,Qg,Qi,hs]) hn hap zd zd zd ?_;intro E' B' cM rts' cS f4 hM eU A1 Il;have:=h1 B' cM rts' cS hM (bw.abc eU) A1 (by simpa using Il);simp[acw,f4];exact this
  have eT:IntKind.i64.wrap ((M.os.length:Int)-1)=((M.os.length-1:Nat):Int):=by rw[Qj]<;>omega
  have ZG:((M.os.length-1:Nat):Int)<(M.os.length:Int):=zE
  have anz:M.os.length-1<M.os.length:=zE
  have hp1:(0:Int)<(M.os.length:Int):=zE
  have aM:¬M.os=[]:=by intro e;rw[e]at fk;simp at fk
  simp[hv,hR,hs,T4,eT,ah,ZG,fk,tJ,hlx];rw[hs]at UH;refine⟨by simpa using UH,?_⟩;refine Ik Y o _ _ ml ms mn md M pid aQ aV bI z mb.length _ (hB _) hr c9 MR zd (by simp[Qp,Qd,Qg,Qi,hs]) hn hap zd zd zd ?_;intro E' B' cM rts' cS f4 hM eU A1 Il;have:=h1 B' cM rts' cS hM (bw.abc eU) A1 (by simpa using Il);simp[acw,f4];exact this
end
