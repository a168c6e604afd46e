import Derived.Test.YtnopaopphmjnmaaGreatDoorMQMfR
set_option linter.all false
set_option maxRecDepth 100000
set_option maxHeartbeats 64000000
namespace Go.Proofs.YtnopaopphmjnmaaGreatDoor
noncomputable section
open Go Go.Abs
def Uv(q:Pl)(a:List Od)(nq:Rt)(fb:Bool):Nat->FuncId->List AV->AV:=fun _ f l=>
 if f=11 then .bool true else if f=28 then .agg (Qa q)else if f=15 then .sl nq (a.map Qp)
 else if f=32 then(match l with|[.int _ c,.int _ n]=>I (iy c n)|_=>.junk)
 else if f=29 then(match l with|[.agg cs,.int _ id]=>Zk (Xh id (dPl cs).aN)|_=>.junk)
 else if f=35 then .bool fb else .gd false .junk
def aoJ:SC:=(⟨_,by cbv⟩:uf [1,1,1,1,1,1,1,1,1,1,1,1,1,1,0,1,0,0,1,0,0,1,1,0,0,1,0,0] TT).1
def aoK:SC:=(⟨_,fun _=>by cbv⟩:Kq [1,1,0,0,1,0,0] (Kj [1,1,1,1,1,1,1,1,1,1,1,1,1,1,0,1,0,0,1,0,0] TT)).1 aoJ
def aoL:SC:=(⟨_,fun _=>by cbv⟩:Kq [0,1,0,0,1,0,0] (Kj [1,1,1,1,1,1,1,1,1,1,1,1,1,1] TT)).1 aoK
def aoM:SC:=(⟨_,fun _=>by cbv⟩:Kq [1] (Kj [1,1,1,1,1,1,1,1,1,1,1,1,1] TT)).1 aoL
def ahq:SC:=(⟨_,fun _=>by cbv⟩:Kq [1,1] (Kj [1,1,1,1,1,1,1,1,1,1,1] TT)).1 aoM
def ahr:SC:=(⟨_,fun _=>by cbv⟩:Kq [1] (Kj [1,1,1,1,1,1,1,1,1,1] TT)).1 ahq
def hd9:SC:=(⟨_,fun _=>by cbv⟩:Kq [1,1,1,1,1,1,1,1,1,1] TT).1 ahr
theorem aoN:TT=hd9:=rfl
def ave(L:List Sh)(mm:AM)(f:Nat->AV)(m:AM):Prop:=∃i:Nat,f 24=I i/\i<=L.length/\m=mm
def ahs(q:Pl)(a:List Od)(nq:Rt)(fb:Bool)(id r f:Int)(hf:f<=9223372036854775807)(E:List (Nat×AV))(B:List (List AV))(ls:List Nat)(ms:Nat->LS)(mn:Nat)(Q:Exit->AS->Prop)
  (md:Nat)(M:Md)(pid aQ:Nat)(aV:List Rt)(bI:Rt)(z:List AV)(hB:gD B md M pid aQ aV bI z)(hm:MoK M)(hr:∀rt∈aV,rt=.full\/∃k,rt=.own k 18)
  (dF:Qh B 0=Qa q)(Ds:0<B.length)(M8:∀s∈Zi M q.ch r f,s.1≠id)
  (e5:Abs.look E 5=.ptr 0 0)(Ei:Abs.look E 12=.ptr md 0)(J4:Abs.look E 14=I id)(e21:Abs.look E 21=I f)(e22:Abs.look E 22=I r)
  (hQ:∀E' C cM Aq Ar,(∀t,t<10\/(10<t/\t<23)\/(24<t/\t<118)\/136<t->Abs.look E' t=Abs.look E t)->Q .normal ⟨Xv 138 E',⟨B++C,cM,Aq,Ar⟩⟩):
  vc Tryz.prog aA (Uv q a nq fb) Y0 aoJ ⟨Xv 138 E,⟨B,ls,ms,mn⟩⟩ Q:=by
 have azN:=oA M hm q.ch r f;simp only[Qa]at dF;simp[aoJ,e5,Ei,J4,e21,e22,dF,Ds,Uv];refine kP Y0 _ md M pid aQ aV bI z q.ch r f hB hm hr hf _ fun C lx ms2 mn2=>?_;generalize hL:Zi M q.ch r f=L at*
 simp;refine Qk alm (ave L ⟨B++C,ls++lx,ms2,mn2⟩) (fun g _=>L.length-(numOf (g 24)).toNat) ?_ ?_
 ·exact⟨0,zd,zE,rfl⟩
 rintro g m ⟨i,h24,hi,rfl⟩;rcases zzaa i L.length with ai|bz
 ·obtain⟨s,hs⟩:=aU ai;have ah:Qh (L.map Vj) i=Vj s:=Qt (by simp[hs]);have aa:(i:Int)<(L.length:Int):=zE
  have hw:=bM i zE;have aM:=M8 s (zzac hs);simp[h24,alm,ai,aa,ah,Vj,hw,J4,aM];refine⟨aP,⟨i+1,zd,zE,rfl⟩,zE⟩
 obtain rfl:i=L.length:=zE
 simp[h24,alm];refine hQ _ C _ _ _ fun t ht=>?_;simp only[Kh];repeat rw[if_neg zE]
def BZ(n:Nat)(fr id:Int):Od:=⟨(n:Int)+1,-1,fr,4,0,0,⟨0,0,0,0,0,0,[]⟩,IL id,⟨0,0,0,0,⟨#[]⟩⟩⟩
def mz(n:Nat)(fr id:Int):List AV:=[I ((n:Int)+1),I (-1),I fr,I 4,I 0,I 0,I 0,I 0,I 0,I 0,I 0,I 0,.sl .nil [],I 2,I id,I 0,I 10000000000,I 255,I 0,I 0,I 0,I 0,I 0,I 0,I 0,.str ⟨#[]⟩]
def abL(n:Nat)(fr id:Int):Wk (.agg (mz n fr id)) (.agg (Qp (BZ n fr id))):=by
 unfold mz Qp BZ;simp only[Qd,Qg,Qi,IL,zzad,zzah,zzcc];refine Qcq ?_;exact⟨zt,zt,zt,zt,zt,zt,zt,zt,zt,zt,zt,zt,Wk.sl _ _,zt,zt,zt,zt,zt,zt,zt,zt,zt,zt,zt,zt,zt,trivial⟩
def avf(t:Nat)(ht:QM.contains t=false):t<10\/(10<t/\t<23)\/(24<t/\t<118)\/136<t:=by
 by_cases h:t<137
 ·exact(by decide:∀t,t<137->QM.contains t=false->t<10\/(10<t/\t<23)\/(24<t/\t<118)\/136<t) t h ht
 omega
def avg(t:Nat)(ht:J5.contains t=false):t<10\/(10<t/\t<21)\/(24<t/\t<103)\/136<t:=by
 by_cases h:t<137
 ·exact(by decide:∀t,t<137->J5.contains t=false->t<10\/(10<t/\t<21)\/(24<t/\t<103)\/136<t) t h ht
 omega
def avh(n:Int)(B:List (List AV))(f:Nat->AV)(m:AM):Prop:=∃(i:Nat)(C:List (List AV))(ls:List Nat)(ms:Nat->LS)(mn:Nat),f 22=I i/\(i:Int)<=n/\m=⟨B++C,ls,ms,mn⟩
def aht(q:Pl)(a:List Od)(nq:Rt)(fb:Bool)(id:Int)(fs:List Int)(i oB:Nat)(c:Int)(n:Nat)(fr:Int)(ho:0<=fr/\fr<=100000000)(EL:1<=q.rg/\q.rg<=8)(CU:fs[i]?=some c)(hc:Xo c)(E:List (Nat×AV))(B:List (List AV))(ls:List Nat)(ms:Nat->LS)(mn:Nat)(Q:Exit->AS->Prop)
  (md:Nat)(M:Md)(pid aQ:Nat)(aV:List Rt)(bI:Rt)(z:List AV)(hB:gD B md M pid aQ aV bI z)(hm:MoK M)(hr:∀rt∈aV,rt=.full\/∃k,rt=.own k 18)
  (dF:Qh B 0=Qa q)(Ds:0<B.length)(Et:Qh B oB=mz n fr id)(qv:oB<B.length)(M8:∀r f,fr+8<=f->∀s∈Zi M q.ch r f,s.1≠id)
  (e4:Abs.look E 4=.sl .ro (fs.map Qy))(e5:Abs.look E 5=.ptr 0 0)(Ei:Abs.look E 12=.ptr md 0)(J4:Abs.look E 14=I id)(P9:Abs.look E 15=.ptr oB 0)(e20:Abs.look E 20=I i)
  (hQ:∀E' C cM Aq Ar,(∀t,t<10\/(10<t/\t<21)\/(24<t/\t<103)\/136<t->Abs.look E' t=Abs.look E t)->Q .normal ⟨Xv 138 E',⟨B++C,cM,Aq,Ar⟩⟩):
  vc Tryz.prog aA (Uv q a nq fb) Y0 aoK ⟨Xv 138 E,⟨B,ls,ms,mn⟩⟩ Q:=by
 have fO:=(zza.1 CU).1;have ah:Qh (fs.map Qy) i=Qy c:=Qt (by simp[CU]);simp only[Qy]at ah;have C8:=B7 c 600 zE;have k32:=B8 c 600 hc.1 hc.2 zE;have eT:IntKind.i64.wrap (fr+8)=fr+8:=by rw[Qj]<;>omega
 have dP:IntKind.i64.wrap (fr+8+iy c 600)=fr+8+iy c 600:=by rw[Qj]<;>omega
 have alf:=Et;simp only[mz]at alf;simp[aoK,e4,P9,e20,ah,fO,alf,qv,Uv,eT,dP];refine⟨k32,?_⟩;refine Qk QM (avh q.rg B) (fun g _=>8-(numOf (g 22)).toNat) ?_ ?_
 ·exact⟨0,[],ls,ms,mn,zd,zE,zd⟩
 rintro g m ⟨r,C,ls2,ms2,mn2,h22,hi,rfl⟩;have avi:Qh (B++C) 0=Qa q:=by rw[Ql Ds];exact dF
 have Gn:0<(B++C).length:=by simp;omega
 have abM:=avi;simp only[Qa]at abM;rcases(show(r:Int)<q.rg\/(r:Int)=q.rg by omega)with ai|A5
 ·have hw:=bM r zE;simp[h22,QM,e5,abM,ai];refine ahs q a nq fb id r (fr+8+iy c 600) zE _ (B++C) ls2 ms2 mn2 _ md M pid aQ aV bI z (hB.ext C) hm hr avi Gn (M8 r _ zE) (by simp[e5]) (by simp[Ei]) (by simp[J4]) zd zd ?_;intro E' C3 cM Aq Ar hE';have e22:=hE' 22 zE;simp at e22;simp[e22,h22,QM,hw];refine⟨ag ?_,⟨r+1,C++C3,cM,Aq,Ar,by simp[hw],zE,zd⟩,zE⟩;refine Qb _ rfl (Qb _ rfl (Qb _ rfl fun t ht=>?_));rw[hE' t (avf t ht)];exact(show eS _ _ _ by repeat(first|exact Qc _ _|refine Qb _ rfl ?_)) t ht
 simp[h22,QM,e5,abM,A5];refine hQ _ C _ _ _ fun t ht=>?_;simp only[Kh];repeat rw[if_neg zE]
def avj(n:Nat)(B:List (List AV))(f:Nat->AV)(m:AM):Prop:=∃(i:Nat)(C:List (List AV))(ls:List Nat)(ms:Nat->LS)(mn:Nat),f 20=I i/\i<=n/\m=⟨B++C,ls,ms,mn⟩
def ahu(q:Pl)(a:List Od)(nq:Rt)(fb:Bool)(id:Int)(fs:List Int)(eG:fs.length<=17592186044416)(zW:∀f∈fs,Xo f)(oB:Nat)(n:Nat)(fr:Int)(ho:0<=fr/\fr<=100000000)(EL:1<=q.rg/\q.rg<=8)(E:List (Nat×AV))(B:List (List AV))(ls:List Nat)(ms:Nat->LS)(mn:Nat)(Q:Exit->AS->Prop)
  (md:Nat)(M:Md)(pid aQ:Nat)(aV:List Rt)(bI:Rt)(z:List AV)(hB:gD B md M pid aQ aV bI z)(hm:MoK M)(hr:∀rt∈aV,rt=.full\/∃k,rt=.own k 18)
  (dF:Qh B 0=Qa q)(Ds:0<B.length)(Et:Qh B oB=mz n fr id)(qv:oB<B.length)(M8:∀r f,fr+8<=f->∀s∈Zi M q.ch r f,s.1≠id)
  (e4:Abs.look E 4=.sl .ro (fs.map Qy))(e5:Abs.look E 5=.ptr 0 0)(yW:Abs.look E 11=.bool true)(Ei:Abs.look E 12=.ptr md 0)(J4:Abs.look E 14=I id)(P9:Abs.look E 15=.ptr oB 0)
  (hQ:∀E' m',Abs.look E' 10=.bool true->Q .ret ⟨Xv 138 E',m'⟩):
  vc Tryz.prog aA (Uv q a nq fb) Y0 aoL ⟨Xv 138 E,⟨B,ls,ms,mn⟩⟩ Q:=by
 simp[aoL];refine Qk J5 (avj fs.length B) (fun g _=>fs.length-(numOf (g 20)).toNat) ?_ ?_
 ·exact⟨0,[],ls,ms,mn,zd,zE,zd⟩
 rintro g m ⟨i,C,ls2,ms2,mn2,h20,hi,rfl⟩;rcases zzaa i fs.length with ai|bz
 ·obtain⟨c,CU⟩:=aU ai;have aa:(i:Int)<(fs.length:Int):=zE
  have hw:=bM i zE;by_cases h40:(i:Int)<40
  ·simp[h20,J5,e4,aa,h40];refine aht q a nq fb id fs i oB c n fr ho EL CU (zW c (zzac CU)) _ (B++C) ls2 ms2 mn2 _ md M pid aQ aV bI z (hB.ext C) hm hr (by rw[Ql Ds];exact dF) (by simp;omega) (by rw[Ql qv];exact Et) (by simp;omega) M8 (by simp[e4]) (by simp[e5]) (by simp[Ei]) (by simp[J4]) (by simp[P9]) zd ?_;intro E' C3 cM Aq Ar hE';have e20:=hE' 20 zE;simp at e20;simp[e20,h20,J5,hw];refine⟨ag ?_,⟨i+1,C++C3,cM,Aq,Ar,by simp[hw],zE,zd⟩,zE⟩;refine Qb _ rfl (Qb _ rfl (Qb _ rfl fun t ht=>?_));rw[hE' t (avg t ht)];exact(show eS _ _ _ by repeat(first|exact Qc _ _|refine Qb _ rfl ?_)) t ht
  simp[h20,J5,e4,aa,h40,yW];exact hQ _ _ zd
 have bL:¬(i:Int)<(fs.length:Int):=zE
 simp[h20,J5,e4,bL,yW];exact hQ _ _ zd
structure St9 (q:Pl) (a:List Od) (nq:Rt) (id fr:Int) (fs:List Int) (oB:Nat) (M:Md) (md pid aQ:Nat) (aV:List Rt) (bI:Rt) (z:List AV) (E:List (Nat×AV)) (B:List (List AV)):Prop where
 hB:gD B md M pid aQ aV bI z
 hr:∀rt∈aV,rt=.full\/∃k,rt=.own k 18
 dF:Qh B 0=Qa q
 Ds:0<B.length
 Et:Qh B oB=mz a.length fr id
 qv:oB<B.length
 k0:0<oB
 bd:md<oB/\aQ<oB
 e1:Abs.look E 1=.sl nq (a.map Qp)
 e4:Abs.look E 4=.sl .ro (fs.map Qy)
 e5:Abs.look E 5=.ptr 0 0
 yW:Abs.look E 11=.bool true
 Ei:Abs.look E 12=.ptr md 0
 J4:Abs.look E 14=I id
 P9:Abs.look E 15=.ptr oB 0
def QA(q:Pl)(a:List Od)(nq:Rt)(id fr:Int)(fs:List Int)(eG:fs.length<=17592186044416)(zW:∀f∈fs,Xo f)(oB:Nat)(M:Md)(md pid aQ:Nat)(aV:List Rt)(bI:Rt)(z:List AV)(E:List (Nat×AV))(B:List (List AV))(ls:List Nat)(ms:Nat->LS)(mn:Nat)(Q:Exit->AS->Prop)
  (hS:St9 q a nq id fr fs oB M md pid aQ aV bI z E B)(hM:qu [q] a=some M)(hV:PT M)(UI:nk a)(aH:M.os.length=a.length)(aT:dG ls aV M.ps)(c9:dK ls aV bI M.os.length)
  (aK:1<=id/\id<=12)(iS:M4 a<=fr){x:List Pg}{g:Pg}(hx:Yx M q.ch=some x)(hg:x[a.length]?=some g)(bX:IN (cr g) (BZ a.length fr id)=true)(hy:∀y,Xh id g.p.aN=some y->y.ki≠5)
  (hQ:∀E' m',Abs.look E' 10=.bool true->Q .ret ⟨Xv 138 E',m'⟩):
  vc Tryz.prog aA (Uv q a nq true) Y0 aoM ⟨Xv 138 E,⟨B,ls,ms,mn⟩⟩ Q:=by
 obtain⟨hB,hr,dF,Ds,Et,qv,k0,bd,e1,e4,e5,yW,Ei,J4,P9⟩:=hS;have hf:=bX;unfold IN at hf;rw[zzak]at hf;obtain⟨hc,fQ⟩:=hf;rw[if_neg (by simp[BZ])]at fQ;have hv:Xy (BZ a.length fr id)=true:=by unfold Kv at hc;rw[zzak]at hc;exact hc.1
 have T1:=(Qdd hv).1;simp only[BZ]at T1;obtain⟨_,MR,_⟩:=BX hM;have avk:∀b∈a,b.fr<=fr:=fun b hb=>zzgz (IJ UI.asc b hb) iS
 have hX:Ao M (BZ a.length fr id)=false:=by
  unfold Ao;rw[hv];have hs:(BZ a.length fr id).sq=(M.os.length:Int)+1:=by rw[aH];rfl
  rw[hs];cases ji:M.os.getLast? with
  |none=>simp
  |some y=>
   have hym:y∈M.os:=List.mem_of_getLast? ji;rw[MR]at hym;obtain⟨b,hb,rfl⟩:=zzax.1 hym;have h1:¬fr<b.fr:=by have:=avk b hb;omega
   have h2:(BZ a.length fr id).fr=fr:=rfl;simp[h1,h2]
 have ah:=Et;simp only[mz]at ah;have ahi:=fun K h0 h1=>lR Y0 ⟨B,ls,ms,mn⟩ md M pid aQ aV bI z (BZ a.length fr id) hB aT c9 hV.n (fun l hl g hg _=>Iv (hV.pr l hl _ g hg).cr (by have:=hV.los;omega) (by simp[uF,BZ])) (by simp[BZ]) (by have:=hV.los;omega) K h0 h1;have alg:=fun K h0 h1=>an.wka (xs:=[.ptr md 0,.agg (mz a.length fr id)]) (xs':=[.ptr md 0,.agg (Qp (BZ a.length fr id))]) ⟨zt,abL _ _ _,trivial⟩ (ahi K h0 h1);simp only[mz]at alg;simp[aoM,Ei,P9,ah,qv,Uv];refine alg _ (fun hn eW=>?_) (fun M' hM' B' cM rts' cS qD eU z7 Il=>?_)
 ·unfold zF at hn;rw[hX]at hn;simp at hn
 obtain⟨hV',azO,_⟩:=El hV hM';have M8:=fun r f hf=>IM hM hM' rfl rfl aK (by simpa[BZ]using avk) hx hg hc fQ hy r f hf
 have dV:aQ≠0:=by
  rintro rfl;have h1:=hB.hps;rw[dF]at h1;have h2:=hB.hrts;have h3:=hB.ne;cases hps:M.ps with
  |nil=>exact h3 hps
  |cons p0 pt=>
   rw[hps]at h1 h2;cases aV with
   |nil=>simp at h2
   |cons r0 rt0=>simp[Qa,iN]at h1
 have JK:md≠0:=by
  rintro rfl;have h1:=hB.row;rw[dF]at h1;simp[Qa]at h1
 have q0:Qh B' 0=Qa q:=by rw[eU.2 0 Ds zE];exact dF
 have q15:Qh B' oB=mz a.length fr id:=by rw[eU.2 oB qv zE];exact Et
 have qrg:1<=q.rg/\q.rg<=8:=by
  obtain⟨hbe,_⟩:=M5 hM q zd;exact(rV (Iu hbe).1).rg
 simp;refine ahu q a nq true id fs eG zW oB a.length fr zE qrg _ B' cM ms mn _ md M' pid aQ rts' cS z qD hV'.mok (z7.own qD.hrts) q0 (by have:=eU.1;omega) q15 (by have:=eU.1;omega) (fun r f hf=>M8 r f (by simpa[BZ]using hf)) (by simp[e4]) (by simp[e5]) (by simp[yW]) (by simp[Ei]) (by simp[J4]) (by simp[P9]) hQ
def St9.ext{q:Pl}{a:List Od}{nq:Rt}{id fr:Int}{fs:List Int}{oB:Nat}{M:Md}{md pid aQ:Nat}{aV:List Rt}{bI:Rt}{z:List AV}{E E':List (Nat×AV)}{B:List (List AV)}(h:St9 q a nq id fr fs oB M md pid aQ aV bI z E B)(hE:∀t,t<16->t≠10->Abs.look E' t=Abs.look E t)(C:List (List AV)):St9 q a nq id fr fs oB M md pid aQ aV bI z E' (B++C):=
 ⟨h.hB.ext C,h.hr,by rw[Ql h.Ds];exact h.dF,by have:=h.Ds;simp;omega,by rw[Ql h.qv];exact h.Et,by have:=h.qv;simp;omega,h.k0,h.bd,by rw[hE 1 zE zE];exact h.e1,by rw[hE 4 zE zE];exact h.e4,by rw[hE 5 zE zE];exact h.e5,by rw[hE 11 zE zE];exact h.yW,by rw[hE 12 zE zE];exact h.Ei,by rw[hE 14 zE zE];exact h.J4,by rw[hE 15 zE zE];exact h.P9⟩
def ahv(q:Pl)(a:List Od)(nq:Rt)(fb:Bool)(id fr:Int)(fs:List Int)(eG:fs.length<=17592186044416)(zW:∀f∈fs,Xo f)(oB k16:Nat)(M:Md)(md pid aQ:Nat)(aV:List Rt)(bI:Rt)(z:List AV)(E:List (Nat×AV))(B:List (List AV))(ls:List Nat)(ms:Nat->LS)(mn:Nat)(Q:Exit->AS->Prop)
  (hS:St9 q a nq id fr fs oB M md pid aQ aV bI z E B)(hM:qu [q] a=some M)(hV:PT M)(UI:nk a)(aH:M.os.length=a.length)(aT:dG ls aV M.ps)(c9:dK ls aV bI M.os.length)
  (aK:1<=id/\id<=12)(iS:M4 a<=fr){x:List Pg}{g:Pg}(hx:Yx M q.ch=some x)(hg:x[a.length]?=some g)(bX:IN (cr g) (BZ a.length fr id)=fb)
  (e16:Abs.look E 16=.ptr k16 0)(aoO:k16<B.length)(avl:Qh B k16=Qm g)
  (hQ:∀E' m',Abs.look E' 10=.bool true->Q .ret ⟨Xv 138 E',m'⟩):
  vc Tryz.prog aA (Uv q a nq fb) Y0 ahq ⟨Xv 138 E,⟨B,ls,ms,mn⟩⟩ Q:=by
 have hpr:=hV.pr x (lS hx) _ g hg;have eD:=UI.len;have k29:=B9 g.p id (by have:=hpr.aN;omega);have k35:=TG (cr g) (BZ a.length fr id) (Iv hpr.cr zE (by simp[uF,BZ]));rw[bX,BU]at k35;have k35:=Zo (l:=[.agg (Qm g),.agg (mz a.length fr id)]) k35 ⟨zt,abL _ _ _,trivial⟩;have Lv:dPl (Qa g.p)=g.p:=Eg g.p;have e5:=hS.e5;have yW:=hS.yW;have J4:=hS.J4;have P9:=hS.P9;have qv:=hS.qv;have ah:=hS.Et;have abN:=avl;have abO:∀C,Qh (B++C) oB=mz a.length fr id:=fun C=>by rw[Ql qv];exact ah
 have abP:∀C,Qh (B++C) k16=Qm g:=fun C=>by rw[Ql aoO];exact avl
 simp only[mz,Qm,Qa,zzad,zzah]at ah abN k35 abO abP;simp only[Qa]at Lv k29;cases cp:Xh id g.p.aN with
 |none=>
  rw[cp]at k29;simp only[Zk]at k29;simp[ahq,J4,P9,e16,yW,abN,aoO,qv,Uv,Lv,cp,Zk,abO,abP];refine⟨k29,k35,?_⟩;cases fb with
  |false=>
   simp;exact hQ _ _ zd
  |true=>
   simp;refine QA q a nq id fr fs eG zW oB M md pid aQ aV bI z _ (B++_) ls ms mn Q (hS.ext (fun t h1 h2=>?_) _) hM hV UI aH aT c9 aK iS hx hg bX (fun y h=>by rw[cp]at h;cases h) hQ;simp only[Kh];repeat rw[if_neg zE]
 |some y=>
  rw[cp]at k29;simp only[Zk,Qn]at k29;simp[ahq,J4,P9,e16,yW,abN,aoO,qv,Uv,Lv,cp,Zk,Qn,abO,abP];refine⟨k29,k35,?_⟩;cases fb with
  |false=>
   simp;exact hQ _ _ zd
  |true=>
   by_cases h5:y.ki=5
   ·simp[h5];exact hQ _ _ zd
   simp[h5];refine QA q a nq id fr fs eG zW oB M md pid aQ aV bI z _ (B++_) ls ms mn Q (hS.ext (fun t h1 h2=>?_) _) hM hV UI aH aT c9 aK iS hx hg bX (fun y' h=>by rw[cp]at h;cases h;exact h5) hQ;simp only[Kh];repeat rw[if_neg zE]
def ahw(q:Pl)(a:List Od)(nq:Rt)(fb:Bool)(id fr:Int)(fs:List Int)(eG:fs.length<=17592186044416)(zW:∀f∈fs,Xo f)(oB:Nat)(M:Md)(md pid aQ:Nat)(aV:List Rt)(bI:Rt)(z:List AV)(E:List (Nat×AV))(B:List (List AV))(ls:List Nat)(ms:Nat->LS)(mn:Nat)(Q:Exit->AS->Prop)
  (hS:St9 q a nq id fr fs oB M md pid aQ aV bI z E B)(hM:qu [q] a=some M)(hV:PT M)(UI:nk a)(aH:M.os.length=a.length)(aT:dG ls aV M.ps)(c9:dK ls aV bI M.os.length)
  (aK:1<=id/\id<=12)(iS:M4 a<=fr){x:List Pg}{g:Pg}(hx:Yx M q.ch=some x)(hg:x[a.length]?=some g)(bX:IN (cr g) (BZ a.length fr id)=fb)
  (hQ:∀E' m',Abs.look E' 10=.bool true->Q .ret ⟨Xv 138 E',m'⟩):
  vc Tryz.prog aA (Uv q a nq fb) Y0 ahr ⟨Xv 138 E,⟨B,ls,ms,mn⟩⟩ Q:=by
 have e1:=hS.e1;have e5:=hS.e5;have Ei:=hS.Ei;have dF:=hS.dF;have Ds:=hS.Ds;simp only[Qa]at dF
 have hps:tM M q.ch (a.length:Int)=some g:=by
  unfold tM;rw[hx,zzbz,if_neg zE,zzes,hg]
 simp[ahr,e1,e5,Ei,dF,Ds,Uv]
 have hgg:∀l∈M.ps,∀g∈l,PgC g:=fun l hl g hg=>by
  obtain⟨i,hi⟩:=zzc.1 hg;have h1:=(zza.1 hi).1;have h2:=hV.n l hl;have h3:=hV.los;exact(hV.pr l hl i g hi).pgc zE
 have w8:∀l∈M.ps,l.length<=1000000:=fun l hl=>by have:=hV.n l hl;have:=hV.los;omega
 refine IF Y0 _ md M pid aQ aV bI z q.ch a.length hS.hB hS.hr hgg w8 _ fun ex=>?_;rw[hps];simp[tN,Qm,Qa];refine ahv q a nq fb id fr fs eG zW oB (B.length+ex.length) M md pid aQ aV bI z _ (B++_) ls ms mn Q (hS.ext (fun t h1 h2=>?_) _) hM hV UI aH aT c9 aK iS hx hg bX zd zd ?_ hQ
 ·simp only[Kh];repeat rw[if_neg zE]
 simp[Qm,Qa]
def law9(p:Pl)(l:List Od)(item frame:Int)(fs:List Int)(hp:au8 [p])(hl:l.length<=1000000000000)(cp:Xo item)(iS:Xo frame)(zW:∀f∈fs,Xo f)(eG:fs.length<=17592186044416):
  Pure Tryz.prog aA 9 [.agg (Qa p),.sl .ro (l.map Qp),I item,I frame,.sl .ro (fs.map Qy)] (.bool true):=by
 have k11:=aoA;have k28:=My p;have hps:Ty [SN p]:=ahl hp;generalize hq:SN p=q at k28 hps;obtain⟨nq,avm⟩:=Ay (l.take 6) (by simp;omega);have UI:=abH (l.take 6);obtain⟨Pw,ay7⟩:=ahm (l.take 6);generalize ha:IG (l.take 6)=a at avm UI Pw ay7;have C8:=B7 item 12 zE;have k32:=B8 item 12 cp.1 cp.2 zE
 have t1:List.take (if(6:Int)<(l.length:Int)then(6:Int)else(l.length:Int)).toNat (l.map Qp)=(l.take 6).map Qp:=by
  have:=Qdy (l.map Qp) 6;rw[zzbj]at this;rw[zzhs];exact this
 have a1:=tD (a:=l.length) 6;have b1:=tE (a:=l.length) 6;simp at a1 b1;have hlp:=BY UI
 have hlb:M4 a<=9223372036854775807:=by
  rcases zzdp a with h|⟨t,x,h⟩
  ·rw[h];simp[M4]
  rw[zzdq]at h;have hx:a[t.length]?=some x:=by rw[h];simp
  have:=(Qdd (UI.ok t.length x hx).2).1;rw[h,Qbo];omega
 obtain⟨id,aK⟩:∃id,1+iy item 12=id:=⟨_,rfl⟩;have ay8:1<=id/\id<=12:=zE
 have avn:IntKind.i64.wrap (1+iy item 12)=id:=by rw[aK,Qj]<;>omega
 obtain⟨fr,TH⟩:∃fr,(if frame<M4 a then M4 a else frame)=fr:=⟨_,rfl⟩;obtain⟨o,hod⟩:∃o,BZ a.length fr id=o:=⟨_,rfl⟩
 obtain⟨fb,BF⟩:∃fb:Bool,(match(qu [q] a).bind fun M=>(Yx M q.ch).bind fun x=>x[a.length]? with
  |some g=>IN (cr g) o
  |none=>false)=fb:=⟨_,rfl⟩
 refine Qo apK (Uv q a nq fb) zd ?_;simp[aoN,hd9,Qa,Uv,t1,a1,b1];simp only[Qa]at k28;refine⟨k11,k28,fun _ _=>rfl,?_,?_⟩
 ·rw[<- zzhs];exact avm
 refine an.wka (xs':=[.sl .ro ([q].map Qa),.sl .ro (a.map Qp)]) ⟨Wk.sl _ _,Wk.sl _ _,trivial⟩ ?_;refine Tz Y0 _ [q] a hps Pw zE _ (fun hn ex ls=>?_) (fun M hM ex ls md pid aQ aV bI z Fz hV aH hB aT c9=>?_)
 ·simp[rs9]
 obtain⟨hbe,x,hx,hxl,hx0,hxs⟩:=M5 hM q zd;obtain⟨g,hg⟩:∃g,x[a.length]?=some g:=⟨_,zzae zE⟩;have BF:IN (cr g) o=fb:=by rw[<- BF,hM,zzbz,hx,zzbz,hg]
 simp only at hB;generalize hBB:([Qa q]++ex:List (List AV))=BB at hB;have ahx:[[I q.ch,I q.nu,I q.de,I q.of,.sl .ro (q.sh.map Qf),I q.ep,I q.rg,I q.ln,I q.fi,.sl .ro (q.aN.map Qn),.sl .ro (q.ens.map Qd),.sl .ro (q.bks.map Xg),.sl .ro (q.cls.map Qg)]]++ex=BB:=hBB;rw[ahx]at hB;have dF:∀C,Qh (BB++C) 0=Qa q:=fun C=>by rw[<- hBB];simp
 have Ds:0<BB.length:=by rw[<- hBB];simp
 have abM:=dF;simp only[Qa]at abM;have jr:IntKind.i64.wrap ((a.length:Int)+1)=(a.length:Int)+1:=by rw[Qj]<;>omega
 simp only[zzad,zzah]at ahx |-
 rw[ahx]
 have nR:∀(E:List (Nat×AV))(Q:Exit->AS->Prop),Abs.look E 1=.sl nq (a.map Qp)->Abs.look E 4=.sl .ro (fs.map Qy)->Abs.look E 5=.ptr 0 0->Abs.look E 11=.bool true->Abs.look E 12=.ptr md 0->Abs.look E 14=I id->Abs.look E 15=.ptr BB.length 0->
   (∀E' m',Abs.look E' 10=.bool true->Q .ret ⟨Xv 138 E',m'⟩)->vc Tryz.prog aA (Uv q a nq fb) Y0 ahr ⟨Xv 138 E,⟨BB++[mz a.length fr id],ls,fun _=>.gone,0⟩⟩ Q:=fun E Q e1 e4 e5 yW Ei J4 P9 hQ=>
  ahw q a nq fb id fr fs eG zW BB.length M md pid aQ aV bI z E (BB++[mz a.length fr id]) ls (fun _=>.gone) 0 Q ⟨hB.ext _,aT.own hB.hrts,dF _,zd,zd,zd,Ds,⟨hB.Fz,hB.hbid⟩,e1,e4,e5,yW,Ei,J4,P9⟩ hM hV UI aH aT c9 ay8 (by rw[<- TH];split<;>omega) hx hg (by rw[hod];exact BF) hQ
 simp only[mz]at nR;have hBX:∀X,[I q.ch,I q.nu,I q.de,I q.of,.sl .ro (q.sh.map Qf),I q.ep,I q.rg,I q.ln,I q.fi,.sl .ro (q.aN.map Qn),.sl .ro (q.ens.map Qd),.sl .ro (q.bks.map Xg),.sl .ro (q.cls.map Qg)]::(ex++X)=BB++X:=fun X=>by rw[<- ahx];simp
 have hw0:IntKind.i64.wrap (-1)= -1:=by rw[Qj]<;>omega
 by_cases h0:a=[]
 ·have TH:(if frame<0 then 0 else frame)=fr:=by rw[<- TH,h0];rfl
  have hng:¬0<a.length:=by rw[h0];simp
  simp[hng,avn,Uv,TH,jr];refine⟨k32,?_⟩;rw[hBX];refine nR _ _ zd zd zd zd zd zd zd (fun E' m' h=>by simp[rs9,h])
 obtain⟨t,xl,hxl⟩:∃t xl,a=t++[xl]:=by
  rcases zzdp a with h|⟨t,x,h⟩
  ·exact absurd h h0
  exact⟨t,x,by rw[h,zzdq]⟩
 have rz:M4 a=xl.fr:=by rw[hxl,Qbo]
 rw[rz]at TH;have ai:t.length<a.length:=by rw[hxl];simp
 have eC:(a.length:Int)=(t.length:Int)+1:=by rw[hxl];simp
 have hng:0<a.length:=zE
 have EK:IntKind.i64.wrap ((a.length:Int)-1)=((t.length:Nat):Int):=by rw[Qj]<;>omega
 have ah:Qh (a.map Qp) t.length=Qp xl:=Qt (by rw[hxl];simp);simp only[Qp,Qd,Qg,Qi,zzad,zzah]at ah;simp[hng,avn,Uv,TH,jr,EK,ah,ai,Qp,Qd,Qg,Qi];refine⟨k32,?_⟩;rw[hBX];refine nR _ _ zd zd zd zd zd zd zd (fun E' m' h=>by simp[rs9,h])
end
