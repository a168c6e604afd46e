import Derived.Test.YtfliagpjbbkijaaGreatDoorVBMcY
set_option linter.all false
set_option maxRecDepth 100000
set_option maxHeartbeats 64000000
namespace Go.Proofs.YtfliagpjbbkijaaGreatDoor
open Go Go.Abs
def IG(g:Pg)(o:Od):Bool:=Xp o&&(decide (o.ch= -1)||decide (o.ch=g.p.ch))
def sY(g:Pg)(o:Od)(hl:o.nw.al.length<=8796093022208):Pure Tryz.prog aD 53 [.agg (Qo g),.agg (Qt o)] (.bool (IG g o)):=by
 have k:=Wj o hl;simp only[Qt,Qd,Qj,Qp,zzaf,zzah]at k;refine Qm akF (fun _ _ _=>.bool (Xp o)) zd ?_;cases hv:Xp o with
 |false=>
  rw[hv]at k;simp[abQ,abR,Qo,Qc,Qt,Qd,Qj,Qp,hv,IG];exact k
 |true=>
  rw[hv]at k;by_cases h1:o.ch= -1
  ·simp[abQ,abR,Qo,Qc,Qt,Qd,Qj,Qp,hv,IG,h1];rw[h1]at k;exact k
  simp[abQ,abR,Qo,Qc,Qt,Qd,Qj,Qp,hv,IG,h1];refine⟨k,?_⟩;rw[zzbq];simp[h1]
def Wt{α:Type}(P:α->Bool):List α->Nat->Int
 |[],_=> -1
 |x::r,i=>if P x=true then i else Wt P r (i+1)
def rJ{α:Type}{P:α->Bool}:∀{L:List α}{i:Nat},L.find? P=none->Wt P L i= -1
 |[],_,_=>rfl
 |a::r,i,h=>by
  rw[zzfg]at h;split at h
  ·cases h
  rename_i hn;rw[Wt,if_neg (by simp[hn])];exact rJ h
def Qdd{α:Type}{P:α->Bool}{a:α}:∀{L:List α}{i:Nat},L.find? P=some a->∃k:Nat,Wt P L i=((i+k:Nat):Int)/\L[k]?=some a/\P a=true
 |[],_,h=>by cases h
 |b::r,i,h=>by
  rw[zzfg]at h;split at h
  ·rename_i hb;cases h;exact⟨0,by simp[Wt,hb],rfl,hb⟩
  rename_i hn;obtain⟨k,h1,h2,h3⟩:=Qdd (i:=i+1) h;exact⟨k+1,by rw[Wt,if_neg (by simp[hn]),h1];omega,Nm h2,h3⟩
def GZ(L:List ck)(P:ck->Bool)(k:FuncId)(first cap:P1)(hl:L.length<=1000000000)(h1:∀m,first.map (bG m 6)=first)(h2:∀m,cap.map (bG m 6)=cap)
  (hp:∀e∈L,Pure Tryz.prog aD k (first++.agg (Qg e)::cap) (.bool (P e)))(orc:X1)(ho:∀d e,e∈L->orc d k (first++.agg (Qg e)::cap)=.bool (P e)):
  Pure Tryz.prog aD 59 [.sl .ro (L.map Qg),.fn k first cap] (I (Wt P L 0)):=by
 refine Qm Tc orc zd ?_;simp[akK];refine Qk se (fun f m=>∃i:Nat,f 8=I i/\i<=L.length/\Wt P (L.drop i) i=Wt P L 0/\m=⟨[],[],fun _=>.gone,0⟩) (fun f _=>L.length-(numOf (f 8)).toNat) ?_ ?_
 ·exact⟨0,zd,zE,zd,rfl⟩
 rintro f m ⟨i,f8,hi,hr,rfl⟩;rcases zzab i L.length with ah|bu
 ·obtain⟨a,ha⟩:=aX ah;have ai:Qf (L.map Qg) i=Qg a:=Qv (by simp[ha]);have aa:(i:Int)<(L.length:Int):=zE
  have hw:=bO i zE;have hd:L.drop i=a::L.drop (i+1):=by rw[zzae ah,(zza.1 ha).2]
  have j7:=hp a (zzad ha);have Y9:=fun d=>ho d a (zzad ha);rw[hd,Wt]at hr;simp only[Qg]at j7 Y9;cases hP:P a with
  |true=>
   rw[hP]at j7 Y9;rw[if_pos hP]at hr;simp[f8,se,abW,aa,ai,Qg,h1,h2,Y9];exact⟨j7,hr⟩
  |false=>
   rw[hP]at j7 Y9;rw[if_neg (by simp[hP])]at hr;simp[f8,se,aa,ai,Qg,h1,h2,Y9,hw];refine⟨j7,aP,⟨i+1,zd,zE,hr⟩,zE⟩
 obtain rfl:i=L.length:=zE
 rw[zzbz,Wt]at hr;simp[f8,se,abW];exact hr
def Rr(e:ck)(f:Int)(h:Yl e)(hf:nJ f):Pure Tryz.prog aD 198 [.agg [I f],.agg (Qg e)] (.bool (Bp f e)):=by
 refine Qm adg (fun _ _ _=>.junk) zd ?_;obtain⟨⟨a1,a2⟩,⟨a3,a4⟩,_⟩:=h;obtain⟨a5,a6⟩:=hf;by_cases h1:e.st<=f
 ·have w1:=wu e.st zE zE;have w2:=wu f zE zE;have w3:=wu (f-e.st) zE zE;have w4:=wu e.fr zE zE;by_cases h2:0<e.fr
  ·have:(f-e.st<e.fr)=(f<e.st+e.fr):=by apply propext;omega
   simp[Nb,Nc,Qg,h1,h2,Bp,w1,w2,w3,w4,this]
  have:¬f<e.st+e.fr:=zE
  simp[Nb,Nc,Qg,h1,h2,Bp,this]
 simp[Nb,Nc,Qg,h1,Bp]
def Lq(e:ck)(row:P1)(id:Int):Pure Tryz.prog aD 199 [.agg (Qg e),.ep (I id::row) 0] (.bool (decide (e.id=id))):=by
 refine Qm adh (fun _ _ _=>.junk) zd ?_;simp[ahS,ahT,Qg];rw[zzbq];simp
def pX(n:Int):Prop:= -9223372036854775808<=n/\n<=9223372036854775807
def G1(L:List En)(P:En->Bool)(k:FuncId)(first cap:P1)(hl:L.length<=1000000000)(h1:∀m,first.map (bG m 6)=first)(h2:∀m,cap.map (bG m 6)=cap)
  (hp:∀e∈L,Pure Tryz.prog aD k (first++.agg (Qd e)::cap) (.bool (P e)))(orc:X1)(ho:∀d e,e∈L->orc d k (first++.agg (Qd e)::cap)=.bool (P e)):
  Pure Tryz.prog aD 160 [.sl .ro (L.map Qd),.fn k first cap] (I (Wt P L 0)):=by
 refine Qm acQ orc zd ?_;simp[ahx];refine Qk Cf (fun f m=>∃i:Nat,f 8=I i/\i<=L.length/\Wt P (L.drop i) i=Wt P L 0/\m=⟨[],[],fun _=>.gone,0⟩) (fun f _=>L.length-(numOf (f 8)).toNat) ?_ ?_
 ·exact⟨0,zd,zE,zd,rfl⟩
 rintro f m ⟨i,f8,hi,hr,rfl⟩;rcases zzab i L.length with ah|bu
 ·obtain⟨a,ha⟩:=aX ah;have ai:Qf (L.map Qd) i=Qd a:=Qv (by simp[ha]);have aa:(i:Int)<(L.length:Int):=zE
  have hw:=bO i zE;have hd:L.drop i=a::L.drop (i+1):=by rw[zzae ah,(zza.1 ha).2]
  have j7:=hp a (zzad ha);have Y9:=fun d=>ho d a (zzad ha);rw[hd,Wt]at hr;simp only[Qd]at j7 Y9;cases hP:P a with
  |true=>
   rw[hP]at j7 Y9;rw[if_pos hP]at hr;simp[f8,Cf,TK,aa,ai,Qd,h1,h2,Y9];exact⟨j7,hr⟩
  |false=>
   rw[hP]at j7 Y9;rw[if_neg (by simp[hP])]at hr;simp[f8,Cf,aa,ai,Qd,h1,h2,Y9,hw];refine⟨j7,aP,?_⟩
   ·exact⟨⟨i+1,zd,zE,hr⟩,zE⟩
 obtain rfl:i=L.length:=zE
 rw[zzbz,Wt]at hr;simp[f8,Cf,TK];exact hr
def G2(e:En)(id:Int):Pure Tryz.prog aD 195 [.agg (Qd e),.ep [I id] 0] (.bool (decide (e.id=id))):=by
 refine Qm adf (fun _ _ _=>.junk) zd ?_;simp[ahQ,ahR,Qd];rw[zzbq];simp
def Qu(g:Pg)(f:Int)(mid:Nat):P1:=Qo g++[I f,.mp mid]
def Km(g:Pg)(id:Int):Int:=Wt (fun e:En=>decide (e.id=id)) g.p.ens 0
def Ru(Y:YT)(m:AM)(g:Pg)(f:Int)(mid:Nat)(id:Int)(hl:g.p.ens.length<=1000000000):aF Tryz.prog aD Y 153 [.agg (Qu g f mid),I id] m (fun r m'=>m'=m/\r=I (Km g id)):=by
 obtain⟨mb,ml,ms,mn⟩:=m;have k:=G1 g.p.ens (fun e:En=>decide (e.id=id)) 195 [] [.ep [I id] 0] hl (fun _=>rfl) (fun _=>zd) (fun e _=>G2 e id) (fun _ _ xs=>match xs with|.agg (.int _ n::_)::_=>.bool (decide (n=id))|_=>.junk) (fun _ e _=>rfl);refine aF.read (Xn acJ (fun _ _ _=>I (Km g id)) zd ?_);simp[ahp,ahq,Qu,Qo,Qc,Km];exact⟨k,.int _ _⟩
def yS{p:Prop}(h:p:=by repeat'(first|exact Idle.int _ _|exact Idle.bool _|exact Idle.str _|exact Idle.ro _|exact Idle.nil _|exact Idle.full _|exact List.forall_mem_nil _|refine List.forall_mem_cons.2 ⟨?_,?_⟩|refine Idle.aS ?_|refine Idle.agg ?_)):p:=h
def iJ(bx:X2)(mid:Nat)(b:QQ):Prop:=mid<bx.length/\Qf bx mid=[.aM 0 (bI .bool b)]
def iJ.ext{bx:X2}{mid:Nat}{b:QQ}(h:iJ bx mid b)(ex:X2):Qf (bx++ex) mid=[.aM 0 (bI .bool b)]:=by rw[Qi h.1,h.2]
def Zs(b:QQ)(id:Int):Bool:=(af id b).getD false
def Jw(g:Pg)(f:Int)(b:QQ):Option ck:=match g.ev.find? (Bp f)with
 |none=>none
 |some e=>if e.id=0 then none else if Zs b e.id=true then some e else none
def tV(g:Pg)(id:Int):Int:=match g.ev.find? (fun e=>decide (e.id=id))with
 |none=>0
 |some e=>e.st
def xG(f:Int)(e:ck):ck:={e with st:=f,fr:=e.fr-(f-e.st),i:=e.i+(f-e.st)}
def Um(g:Pg)(f:Int)(b:QQ):AV:=match Jw g f b with
 |none=>.aS [.agg [I 0,I 0,I 0,I 0,I 0,I 0,.sl .nil []],I 0,.bool false]
 |some e=>.aS [.agg (Qg (xG f e)),I (tV g e.id),.bool true]
def ZA(Y:YT)(m:AM)(g:Pg)(f:Int)(mid:Nat)(b:QQ)(hl:g.ev.length<=1000000000)(hs:∀e∈g.ev,Yl e)(hf:nJ f)(hb:iJ m.boxes mid b):
  aF Tryz.prog aD Y 165 [.agg (Qu g f mid)] m (fun r m'=>m'=m/\r=Um g f b):=by
 obtain⟨mb,ml,ms,mn⟩:=m;have hB:∀ex,Qf (mb++ex) mid=[.aM 0 (bI .bool b)]:=hb.ext;have hN:∀n:Nat,¬(n:Int)<0:=fun n=>zE
 have k1:=GZ g.ev (Bp f) 198 [.agg [I f]] [] hl (fun _=>zd) (fun _=>zd) (fun e he=>Rr e f (hs e he) hf) (fun _ _ xs=>match xs with|[_,.agg [_,_,.int _ st,.int _ fr,_,_,_]]=>.bool (Bp f ⟨0,0,st,fr,0,0,[],false⟩)|_=>.junk) (fun _ e _=>rfl)
 have k2:∀(row:P1)(id:Int),Pure Tryz.prog aD 59 [.sl .ro (g.ev.map Qg),.fn 199 [] [.ep (I id::row) 0]] (I (Wt (fun e=>decide (e.id=id)) g.ev 0)):=fun row id=>
  GZ g.ev (fun e=>decide (e.id=id)) 199 [] [.ep (I id::row) 0] hl (fun _=>zd) (fun _=>zd) (fun e _=>Lq e row id) (fun _ _ xs=>match xs with|.agg (.int _ n::_)::_=>.bool (decide (n=id))|_=>.junk) (fun _ e _=>rfl)
 cases h1:g.ev.find? (Bp f)with
 |none=>
  rw[rJ h1]at k1;refine aF.read (Xn M5 (fun _ _ _=>I (-1)) zd ?_);simp[Am,An,Qu,Qo,Qc,Um,Jw,h1];exact⟨k1,yS⟩
 |some e=>
  obtain⟨n,g1,g2,g3⟩:=Qdd (i:=0) h1;have k2':=k2;have hn:n<g.ev.length:=(zza.1 g2).1;have lq:=zzad g2
  have hex:(g.ev.find? fun e'=>decide (e'.id=e.id)).isSome=true:=by
   rw[List.find?_isSome];exact⟨e,lq,zd⟩
  obtain⟨e2,Lo⟩:=zzcd.1 hex;obtain⟨n2,q1,q2,q3⟩:=Qdd (i:=0) Lo;have eL:n2<g.ev.length:=(zza.1 q2).1;rw[g1,zzbn]at k1;have r1:Qf (g.ev.map Qg) n=Qg e:=Qv (by simp[g2]);have r2:Qf (g.ev.map Qg) n2=Qg e2:=Qv (by simp[q2]);have qs:(n:Int)<(g.ev.length:Int):=zE
  have ayX:(n2:Int)<(g.ev.length:Int):=zE
  obtain⟨⟨a1,a2⟩,⟨a3,a4⟩,⟨a5,a6⟩,_⟩:=hs e lq;obtain⟨f1,f2⟩:=hf;have hon:e.st<=f/\f<e.st+e.fr:=by simpa[Bp]using g3
  have w1:IntKind.i64.wrap (f-e.st)=f-e.st:=by rw[Qh]<;>omega
  have w2:IntKind.i64.wrap (e.fr-(f-e.st))=e.fr-(f-e.st):=by rw[Qh]<;>omega
  have w3:IntKind.i64.wrap (e.i+(f-e.st))=e.i+(f-e.st):=by rw[Qh]<;>omega
  refine aF.read (Xn M5 (fun d _ _=>if d=15 then I n else I n2) zd ?_);have aL:e2.id=e.id:=by simpa using q3
  by_cases h0:e.id=0
  ·simp[Am,An,Qu,Qo,Qc,Um,Jw,h1,Qg,qs,r1,h0];exact⟨k1,yS⟩
  rcases Xx AV.bool e.id b 0 with⟨b1,b2,_⟩|⟨u,u',b1,b2,_⟩
  ·simp[Am,An,Qu,Qo,Qc,Um,Jw,h1,Qg,qs,r1,h0,Zs,b1,b2,hB,hN];exact⟨k1,yS⟩
  cases u with
  |false=>
   simp[Am,An,Qu,Qo,Qc,Um,Jw,h1,Qg,qs,r1,h0,Zs,b1,b2,hB,hN];exact⟨k1,yS⟩
  |true=>
   have k2:=k2 [I e.it,I e.st,I e.fr,I e.i,I e.re,.sl .ro (e.al.map Qe)] e.id;rw[q1,zzbn]at k2;simp[Am,An,Qu,Qo,Qc,Um,Jw,h1,Qg,qs,r1,h0,Zs,b1,b2,hB,hN,w1,w2,w3,xG,tV,Lo];refine⟨k1,k2,Jb ?_⟩;simp[ayX,r2,Qg];exact yS
def Qdx(p:Pl)(V:AV):P1:=[I p.ch,I p.nu,I p.de,I p.of,.sl .ro (p.sh.map Qe),I p.ep,I p.rg,I p.ln,I p.fi,.sl .ro (p.aT.map Ql),V,.sl .ro (p.bks.map Xm),.sl .ro (p.cls.map Qj)]
def at7(p:Pl)(mb:X2)(ml:P2)(ms:Nat->LS)(mn:Nat)(m0:P1)(f:Nat->AV)(m:AM):Prop:=∃(i:Nat)(bx:X2),f 22=I i/\i<=p.ens.length/\m=⟨mb++(Qdx p (.bs (mb.length+2) 0 p.ens.length 7)::m0::(p.ens.map Qd).flatten::bx),ml,ms,mn⟩
def G3(Y:YT)(m:AM)(p:Pl)(h:Ec p)(hn:p.ens≠[])(K:UV)
  (hK:∀c0 c1 bx,K (.agg (Qdx p (.bs (m.boxes.length+2) 0 p.ens.length 7))) {m with boxes:=m.boxes++(c0::c1::(p.ens.map Qd).flatten::bx)}):aF Tryz.prog aD Y 50 [.agg (Qc p)] m K:=by
 obtain⟨mb,ml,ms,mn⟩:=m;obtain⟨h1,h2,h3,h4,h5,h6⟩:=h;have k1:=Ov p.sh zE;have k2:=Ow p.aT zE;have k4:=Ox p.bks zE;have k5:=Oy p.cls zE;have hsz:=pY (f:=Qd) (sz:=7) (fun _=>rfl) p.ens;refine Xn S7 (mz p) zd ?_;have aK:p.ens.map Qd≠[]:=by simpa using hn
 simp[abN,Qc,mz,hn];refine⟨k1,k2,G4 _ _ hsz (by simpa using by omega) aK _ _ ?_⟩;simp;obtain⟨F,hF⟩:∃F,(p.ens.map Qd).flatten=F:=⟨_,rfl⟩;have hFl:F.length=p.ens.length*7:=by rw[<- hF,pZ hsz];simp
 have bY:Zw F=true:=by rw[<- hF];exact p8 (fun _=>rfl) _
 have hmp:∀m,F.map (bG m 4)=F:=fun m=>Vn m 3 bY;rw[hF]at hK |-
 refine Qk sd (at7 p mb ml ms mn [I 0,I 0,I 0,I 0,.sl .nil [],I 0,I 0,I 0,I 0,.sl .nil [],.sl .nil [],.sl .nil [],.sl .nil []]) (fun f _=>p.ens.length-(numOf (f 22)).toNat) ?_ ?_
 ·exact⟨0,[],zd,zE,by rw[hF];simp[Qdx]⟩
 rintro f m ⟨i,bx,f22,hi,rfl⟩;rw[hF];rcases zzab i p.ens.length with ah|bu
 ·obtain⟨e,he⟩:=aX ah;have aa:(i:Int)<(p.ens.length:Int):=zE
  have hw:=bO i zE;obtain⟨⟨r,hd⟩,cI⟩:=Dw hsz (i:=i) (row:=Qd e) (by simp[he]);rw[hF]at hd cI;simp only[Qd,zzaf,zzah]at hd cI;have ZB:=mA e (h6 e (zzad he));simp only[Qd]at ZB;simp[-setA,nK,nL,f22,sd,aa,hd,cI,hFl,hw,mz,Qdx];refine⟨ZB,zE,aP,⟨i+1,bx++[[I e.id,I e.it,I e.fr,I e.ea,I e.la,I e.bo,.sl .ro (e.al.map Qe)]],zd,zE,by rw[hF];simp[Qdx]⟩,zE⟩
 obtain rfl:i=p.ens.length:=zE
 simp[f22,sd,abO,mz,Qdx];simp[Qdx]at hK;exact⟨k4,k5,hK _ _ _⟩
def nM(g:Pg)(f:Int):Prop:=g.ev.length<=1000000000/\(∀e∈g.ev,Yl e)/\nJ f/\g.p.ens.length<=1000000000
def ZC(Y:YT)(m:AM)(g:Pg)(f:Int)(mid:Nat)(id:Int)(h:nM g f)(K:UV)(hK:K (I (Km g id)) m):aF Tryz.prog aD Y 153 [.agg (Qu g f mid),I id] m K:=
 aF.mono (Ru Y m g f mid id h.2.2.2) (by rintro r m' ⟨rfl,rfl⟩;exact hK)
def ajy(Y:YT)(m:AM)(g:Pg)(f:Int)(mid:Nat)(b:QQ)(h:nM g f)(hb:iJ m.boxes mid b)(K:UV)(hK:K (Um g f b) m):aF Tryz.prog aD Y 165 [.agg (Qu g f mid)] m K:=
 aF.mono (ZA Y m g f mid b h.1 h.2.1 h.2.2.1 hb) (by rintro r m' ⟨rfl,rfl⟩;exact hK)
def G5(g:Pg)(f:Int)(b:QQ)(id:Int):Option Int:=match Jw g f b with
 |none=>none
 |some e=>if e.id=id then some (tV g e.id)else none
def Rv(o:Option Int):AV:=.aS [I (o.getD 0),.bool o.isSome]
def aft(Y:YT)(m:AM)(g:Pg)(f:Int)(mid:Nat)(b:QQ)(id:Int)(h:nM g f)(hb:iJ m.boxes mid b):
  aF Tryz.prog aD Y 155 [.agg (Qu g f mid),I id] m (fun r m'=>m'=m/\r=Rv (G5 g f b id)):=by
 obtain⟨mb,ml,ms,mn⟩:=m;have hB:∀ex,iJ (mb++ex) mid b:=fun ex=>⟨by have:=hb.1;simp at this |-;omega,hb.ext ex⟩;have k:=fun ex K hK=>ajy Y ⟨mb++ex,ml,ms,mn⟩ g f mid b h (hB ex) K hK;simp only[Qu,Qo,Qc,zzaf,zzah]at k;refine aF.read (Xn acL (fun _ _ _=>.gd false .junk) zd ?_);simp[ahr,ahs,Qu,Qo,Qc];refine k _ _ ?_;cases hp:Jw g f b with
 |none=>
  simp[Um,hp,G5,Rv];exact yS
 |some e=>
  by_cases hi:e.id=id
  ·simp[Um,hp,G5,Rv,Qg,xG,hi];exact yS
  simp[Um,hp,G5,Rv,Qg,xG,hi];exact yS
def anj(Y:YT)(m:AM)(g:Pg)(f:Int)(mid:Nat)(b:QQ)(id:Int)(h:nM g f)(hb:iJ m.boxes mid b)(K:UV)(hK:K (Rv (G5 g f b id)) m):aF Tryz.prog aD Y 155 [.agg (Qu g f mid),I id] m K:=
 aF.mono (aft Y m g f mid b id h hb) (by rintro r m' ⟨rfl,rfl⟩;exact hK)
def Dx(g:Pg)(f:Int)(b:QQ)(id:Int):Bool:=Zs b id&&!(G5 g f b id).isSome
def afu(Y:YT)(m:AM)(g:Pg)(f:Int)(mid:Nat)(b:QQ)(id:Int)(h:nM g f)(hb:iJ m.boxes mid b):
  aF Tryz.prog aD Y 157 [.agg (Qu g f mid),I id] m (fun r m'=>m'=m/\r=.bool (Dx g f b id)):=by
 obtain⟨mb,ml,ms,mn⟩:=m;have hB:∀ex,iJ (mb++ex) mid b:=fun ex=>⟨by have:=hb.1;simp at this |-;omega,hb.ext ex⟩;have hR:∀ex,Qf (mb++ex) mid=[.aM 0 (bI .bool b)]:=hb.ext;have k:=fun ex K hK=>anj Y ⟨mb++ex,ml,ms,mn⟩ g f mid b id h (hB ex) K hK;simp only[Qu,Qo,Qc,zzaf,zzah]at k;refine aF.read (Xn acN (fun _ _ _=>.gd false .junk) zd ?_);simp[aht,ahu,Qu,Qo,Qc];refine k _ _ ?_;rcases Xx AV.bool id b 0 with⟨b1,b2,_⟩|⟨u,u',b1,b2,_⟩
 ·simp[Rv,Dx,Zs,b1,b2,hR];exact yS
 cases u<;>simp[Rv,Dx,Zs,b1,b2,hR]<;>exact yS
def aua(Y:YT)(m:AM)(g:Pg)(f:Int)(mid:Nat)(b:QQ)(id:Int)(h:nM g f)(hb:iJ m.boxes mid b)(K:UV)(hK:K (.bool (Dx g f b id)) m):aF Tryz.prog aD Y 157 [.agg (Qu g f mid),I id] m K:=
 aF.mono (afu Y m g f mid b id h hb) (by rintro r m' ⟨rfl,rfl⟩;exact hK)
def Yg(n:Int):Int:=max (-9223372036854775808) (min 9223372036854775807 n)
def Rw(a b:Int)(ha:pX a)(hb:pX b):Pure Tryz.prog aD 154 [I a,I b] (I (Yg (a+b))):=by
 refine Qm acK (fun _ _ _=>.junk) zd ?_;unfold pX at ha hb;by_cases c1:0<b
 ·have w1:IntKind.i64.wrap (9223372036854775807-b)=9223372036854775807-b:=by rw[Qh]<;>omega
  have c2:¬b<0:=zE
  by_cases d1:9223372036854775807-b<a
  ·have:Yg (a+b)=9223372036854775807:=by unfold Yg;omega
   simp[Ai,Aj,c1,d1,w1,this]
  have w:IntKind.i64.wrap (a+b)=a+b:=by rw[Qh]<;>omega
  have:Yg (a+b)=a+b:=by unfold Yg;omega
  simp[Ai,Aj,c1,c2,d1,w,w1,this]
 by_cases c2:b<0
 ·have w2:IntKind.i64.wrap (-9223372036854775808-b)= -9223372036854775808-b:=by rw[Qh]<;>omega
  by_cases d1:a< -9223372036854775808-b
  ·have:Yg (a+b)= -9223372036854775808:=by unfold Yg;omega
   simp[Ai,Aj,c1,c2,d1,w2,this]
  have w:IntKind.i64.wrap (a+b)=a+b:=by rw[Qh]<;>omega
  have:Yg (a+b)=a+b:=by unfold Yg;omega
  simp[Ai,Aj,c1,c2,d1,w,w2,this]
 have w:IntKind.i64.wrap (a+b)=a+b:=by rw[Qh]<;>omega
 have:Yg (a+b)=a+b:=by unfold Yg;omega
 simp[Ai,Aj,c1,c2,w,this]
def Qek(a b:Int)(ha:pX a)(hb:pX b):Pure Tryz.prog aD 156 [I a,I b] (I (Yg (a-b))):=by
 refine Qm acM (fun _ _ _=>.junk) zd ?_;unfold pX at ha hb;by_cases c1:b<0
 ·have w1:IntKind.i64.wrap (9223372036854775807+b)=9223372036854775807+b:=by rw[Qh]<;>omega
  have c2:¬0<b:=zE
  by_cases d1:9223372036854775807+b<a
  ·have:Yg (a-b)=9223372036854775807:=by unfold Yg;omega
   simp[Ak,Al,c1,d1,w1,this]
  have w:IntKind.i64.wrap (a-b)=a-b:=by rw[Qh]<;>omega
  have:Yg (a-b)=a-b:=by unfold Yg;omega
  simp[Ak,Al,c1,c2,d1,w,w1,this]
 by_cases c2:0<b
 ·have w2:IntKind.i64.wrap (-9223372036854775808+b)= -9223372036854775808+b:=by rw[Qh]<;>omega
  by_cases d1:a< -9223372036854775808+b
  ·have:Yg (a-b)= -9223372036854775808:=by unfold Yg;omega
   simp[Ak,Al,c1,c2,d1,w2,this]
  have w:IntKind.i64.wrap (a-b)=a-b:=by rw[Qh]<;>omega
  have:Yg (a-b)=a-b:=by unfold Yg;omega
  simp[Ak,Al,c1,c2,d1,w,w2,this]
 have w:IntKind.i64.wrap (a-b)=a-b:=by rw[Qh]<;>omega
 have:Yg (a-b)=a-b:=by unfold Yg;omega
 simp[Ak,Al,c1,c2,w,this]
def aub:P1->AV
 |[.int _ x,.int _ y]=>I (Yg (x-y))
 |_=>.junk
def Qdu(n:Int):pX (Yg n):=by unfold pX Yg;omega
def Lr:∀{ens:List En}{i:Nat}{e:En},ens[i]?=some e->∃pre r:P1,pre.length=i*7/\(ens.map Qd).flatten=pre++(Qd e++r)/\∀e',((ens.set i e').map Qd).flatten=pre++(Qd e'++r)
 |[],i,e,h=>by simp at h
 |a::r,0,e,h=>by
  simp at h;subst h;exact⟨[],(r.map Qd).flatten,rfl,zd,fun e'=>zd⟩
 |a::r,i+1,e,h=>by
  obtain⟨pre,s,h1,h2,h3⟩:=Lr (ens:=r) (i:=i) (e:=e) (Nm h);exact⟨Qd a++pre,s,by simp[Qd,h1];omega,by simp[h2],fun e'=>by have:=h3 e';simp only[zzdn,zzax,zzcg,this,zzbd]⟩
def Bq(pre X Y:P1)(n:Nat)(k:Nat)(h:pre.length=n):setA (pre++X) (n+k) Y=pre++setA X k Y:=by
 subst h;induction pre with
 |nil=>simp
 |cons a r ih=>rw[zzaf,zzba,show r.length+1+k=r.length+k+1 by omega,xH,ih];try rfl
def Br(pre X:P1)(n:Nat)(k:Nat)(h:pre.length=n):(pre++X).drop (n+k)=X.drop k:=by
 subst h;simp[List.drop_append]
def Vb(p:Pl)(V W:AV)(d:Int):P1:=[I p.ch,I p.nu,I p.de,I p.of,.sl .ro (p.sh.map Qe),I p.ep,I p.rg,I p.ln,I p.fi,.sl .ro (p.aT.map Ql),V,.sl .ro (p.bks.map Xm),W,I d]
def II:P1:=[I 0,I 0,I 0,I 0,.sl .nil [],I 0,I 0,I 0,I 0,.sl .nil [],.sl .nil [],.sl .nil [],.sl .nil [],I 0]
def xI(g:Pg)(f:Int)(b:QQ)(o:Od)(e:En):Int:=match G5 g f b o.en with
 |none=>Yg (e.fr+o.n)
 |some st=>if Yg (e.fr+o.n)<Yg (f-st)then Yg (f-st)else Yg (e.fr+o.n)
def afv(g:Pg)(f:Int)(b:QQ)(o:Od)(e:En):En:={e with fr:=xI g f b o e,la:=if Yg (g.p.ln-xI g f b o e)<e.la then Yg (g.p.ln-xI g f b o e)else e.la}
def xJ(g:Pg)(f:Int)(b:QQ)(o:Od):Option (Pl×Int):=match g.p.ens[(Km g o.en).toNat]? with
 |none=>none
 |some e=>if Km g o.en<0 then none else some ({g.p with ens:=g.p.ens.set (Km g o.en).toNat (afv g f b o e)},xI g f b o e)
def Ls{g:Pg}{f:Int}(h:nM g f)(id:Int):0<=tV g id/\tV g id<=1000000:=by
 unfold tV;cases hf:g.ev.find? (fun e=>decide (e.id=id))with
 |none=>simp
 |some e=>exact(h.2.1 e (zzfh hf)).1
def afw(Y:YT)(m:AM)(g:Pg)(f:Int)(mid:Nat)(b:QQ)(o:Od)(h:nM g f)(hp:Ec g.p)(hb:iJ m.boxes mid b)(hn:pX o.n)(eO:pX g.p.ln)(hes:∀e∈g.p.ens,pX e.fr)(K:UV)
  (h0:xJ g f b o=none->∀ex,K (.aS [.agg II,.bool false]) {m with boxes:=m.boxes++ex})
  (h1:∀q d,xJ g f b o=some (q,d)->∀ex k,m.boxes.length<=k->k<(m.boxes++ex).length->Qf (m.boxes++ex) k=(q.ens.map Qd).flatten->K (.aS [.agg (Vb q (.bs k 0 q.ens.length 7) (.sl .ro (q.cls.map Qj)) d),.bool true]) {m with boxes:=m.boxes++ex}):
  aF Tryz.prog aD Y 102 [.agg (Qu g f mid),.agg (Qt o)] m K:=by
 obtain⟨mb,ml,ms,mn⟩:=m;have hB:∀ex,iJ (mb++ex) mid b:=fun ex=>⟨by have:=hb.1;simp at this |-;omega,hb.ext ex⟩;have kp:=fun ex K hK=>ZC Y ⟨mb++ex,ml,ms,mn⟩ g f mid o.en h K hK;have ki:=fun ex K hK=>anj Y ⟨mb++ex,ml,ms,mn⟩ g f mid b o.en h (hB ex) K hK;simp only[Qu,Qo,Qc,zzaf,zzah]at kp ki;cases hf:g.p.ens.find? (fun e=>decide (e.id=o.en))with
 |none=>
  have iy:Km g o.en= -1:=rJ hf
  have hx:xJ g f b o=none:=by
   unfold xJ;rw[iy];split
   ·rfl
   simp
  refine Xn MP (fun _ _ _=>.gd false .junk) zd ?_;simp[Tr,Ts,Qu,Qo,Qc,Qt,Qd,Qj,Qp];refine kp _ _ ?_;simp[iy];have:=h0 hx;simp[II]at this;exact this _
 |some e=>
  obtain⟨n,g1,g2,g3⟩:=Qdd (i:=0) hf;have iy:Km g o.en=(n:Int):=by unfold Km;rw[g1];omega
  have ah:n<g.p.ens.length:=(zza.1 g2).1;have aK:g.p.ens≠[]:=by rintro e0;rw[e0]at ah;simp at ah
  have AA:¬(n:Int)<0:=zE
  have bL:(n:Int)<(g.p.ens.length:Int):=zE
  have hx:xJ g f b o=some ({g.p with ens:=g.p.ens.set n (afv g f b o e)},xI g f b o e):=by
   unfold xJ;rw[iy];simp[g2,AA]
  obtain⟨pre,r,q1,q2,q3⟩:=Lr g2;have hd:=fun X k=>Br pre X (n*7) k q1;have cI:=fun X Y k=>Bq pre X Y (n*7) k q1;have h1:=h1 _ _ hx;rw[q3]at h1;have kO:=fun ex K hK=>G3 Y ⟨mb++ex,ml,ms,mn⟩ g.p hp aK K hK;simp only[Qc]at kO;rw[q2]at kO;have ayY:=Rw e.fr o.n (hes e (zzad g2)) hn;refine Xn MP (fun _ f l=>if f=154 then I (Yg (e.fr+o.n))else if f=156 then aub l else .gd false .junk) zd ?_;simp[Tr,Ts,Qu,Qo,Qc,Qt,Qd,Qj,Qp];refine kp _ _ ?_;simp[iy,AA];refine kO _ _ fun c0 c1 bx=>?_;have od:min 1 (pre.length+(r.length+7)-(n*7+2))=1:=zE
  have hm4:min 1 (pre.length+(r.length+7)-(n*7+4))=1:=zE
  simp[-setA,nK,nL,Qdx,bL,Qd,zzas,hd,od,aub];refine⟨ayY,ki _ _ ?_⟩;have hL:=fun V=>Qek g.p.ln (Yg V) eO (Qdu V);cases hi:G5 g f b o.en with
  |none=>
   simp[-setA,nK,xH,nL,Rv,zzas,hd,cI,hm4];have Q0:xI g f b o e=Yg (e.fr+o.n):=by simp only[xI,hi]
   simp only[Q0,afv,zzcf,Qd,zzaf,zzah]at h1;refine⟨zE,hL _,zE,?_⟩;exact h1 _ (mb.length+5) zd zd zd
  |some st=>
   have auc:G5 g f b o.en=some st->0<=st/\st<=1000000:=fun hh=>by
    unfold G5 at hh;split at hh
    ·cases hh
    split at hh
    ·cases hh;exact Ls h _
    cases hh
   have hsb:=auc hi;have hfs:=h.2.2.1;have kd:=Qek f st (by unfold nJ at hfs;unfold pX;omega) (by unfold pX;omega);simp[-setA,nK,xH,nL,Rv,zzas,hd,cI,hm4];have Q0:xI g f b o e=if Yg (e.fr+o.n)<Yg (f-st)then Yg (f-st)else Yg (e.fr+o.n):=by simp only[xI,hi]
   simp only[Q0,afv,zzcf,Qd,zzaf,zzah]at h1;refine⟨kd,zE,?_,zE,?_⟩
   ·have:=hL (max (Yg (e.fr+o.n)) (Yg (f-st)));split
    ·exact Qek _ _ eO (Qdu _)
    exact Qek _ _ eO (Qdu _)
   exact h1 _ (mb.length+5) zd zd zd
def gZ(l:List En):P1:=(l.map Qd).flatten
@[simp] theorem aw4:gZ []=[]:=rfl
@[simp] theorem aud(e:En)(l:List En):gZ (e::l)=I e.id::I e.it::I e.fr::I e.ea::I e.la::I e.bo::.sl .ro (e.al.map Qe)::gZ l:=rfl
def Qca:∀l,(gZ l).length=l.length*7
 |[]=>rfl
 |s::r=>by simp[Qca r];omega
def Oz:∀a b,gZ (a++b)=gZ a++gZ b
 |[],_=>rfl
 |s::r,b=>by simp[Oz r b]
def G6:∀(l:List En)(i:Nat),(gZ l).drop (i*7)=gZ (l.drop i)
 |[],i=>zd
 |s::r,0=>zd
 |s::r,i+1=>by rw[show(i+1)*7=i*7+1+1+1+1+1+1+1 by omega];simp[G6 r i]
def OA{l:List En}{i:Nat}{s:En}(h:l[i]?=some s):(gZ l).drop (i*7)=I s.id::I s.it::I s.fr::I s.ea::I s.la::I s.bo::.sl .ro (s.al.map Qe)::gZ (l.drop (i+1)):=by
 rw[G6];have ah:=(zza.1 h).1;rw[zzae ah,(zza.1 h).2];try rfl
def afx(l:List En)(i:Nat)(s:En)(h:i<l.length):setA (gZ l) (i*7) [I s.id,I s.it,I s.fr,I s.ea,I s.la,I s.bo,.sl .ro (s.al.map Qe)]=gZ (l.set i s):=by
 obtain⟨pre,r,h1,h2,h3⟩:=Lr (ens:=l) (i:=i) (zzac h);unfold gZ;rw[h2,h3,<- h1];exact G7 pre _ r _ rfl
def Lt(l:List En):Zw (gZ l)=true:=p8 (fun _=>rfl) l
def Rx(l:List En):aY 7 l.length (gZ l)=l.map Qd:=by
 have:=Qbh (pY (f:=Qd) (sz:=7) (fun _=>rfl) l);simpa[gZ]using this
def rK(row:P1):∀n,(bH n row).length=n*row.length
 |0=>by simp[bH]
 |n+1=>by simp[bH,rK row n,zzbi];omega
def nN:P1:=[I 0,I 0,I 0,I 0,I 0,I 0,.sl .nil []]
def G8:∀n,Zw (bH n nN)=true
 |0=>rfl
 |n+1=>by have:=G8 n;unfold Zw at this |-;rw[bH,zzfi,this];try rfl
def nO(x:Int)(e:En):Bool:=decide (e.id=x)
def xK(e:En)(a0 a1 a2 a3:AV)(x:Int)(r:P1):Pure Tryz.prog aD 159 [.agg (Qd e),.ep (a0::a1::a2::a3::I x::r) 0] (.bool (nO x e)):=by
 refine Qm acP (fun _ _ _=>.junk) zd ?_;simp[ahv,ahw,Qd,nO];rw[zzbq];simp
def afy{x:Int}{l:List En}(h:Wt (nO x) l 0= -1):l.filter (fun e=>!nO x e)=l:=by
 cases hf:l.find? (nO x)with
 |some a=>obtain⟨k,h1,_⟩:=Qdd (i:=0) hf;rw[h1]at h;omega
 |none=>
  rw[List.find?_eq_none]at hf;rw[zzga];intro a ha;simpa using hf a ha
def OB{x:Int}:∀{l:List En}{i:Nat},Wt (nO x) l i≠ -1->∃k:Nat,Wt (nO x) l i=((i+k:Nat):Int)/\k<l.length/\(l.take (k+1)).filter (fun e=>!nO x e)=l.take k
 |[],_,h=>absurd rfl h
 |s::r,i,h=>by
  simp only[Wt]at h |-
  split
  ·rename_i hs;exact⟨0,rfl,zd,by simp[hs]⟩
  rename_i hs;rw[if_neg hs]at h;obtain⟨k,h1,h2,h3⟩:=OB h;exact⟨k+1,by rw[h1];congr 1;omega,Nm h2,by simp only[zzcy,zzeg];simp[hs,h3]⟩
def xL(k:Int)(x:Int):X1:=fun _ f l=>if f=160 then I k else match l with
 |.agg (.int _ n::_)::_=>.bool (decide (n=x))
 |_=>.junk
def ZD(Y:YT)(l:List En)(hl:l.length<=1000000000)(B:X2)(L:P2)(st:Nat->LS)(n id:Nat)(aL:id<B.length)(aK:l≠[])(hB:Qf B id=gZ l)
  (kk:Nat)(a0 a1 a2 a3:AV)(x:Int)(r:P1)(hkk:kk<B.length)(gU:kk≠id)(hk:Qf B kk=a0::a1::a2::a3::I x::r)(bY:Zw (a0::a1::a2::a3::I x::r)=true)(K:UV)
  (hK:∀(B':X2)(z:P1),bE (·=id) B B'->Qf B' id=gZ (l.filter fun e=>!nO x e)++z->(l.filter fun e=>!nO x e).length*7+z.length=l.length*7->Zw z=true->K (.bs id 0 (l.filter fun e=>!nO x e).length 7) ⟨B',L,st,n⟩):
  aF Tryz.prog aD Y 158 [.bs id 0 l.length 7,.fn 159 [] [.ptr kk 0]] ⟨B,L,st,n⟩ K:=by
 have Lu:=G1 l (nO x) 159 [] [.ep (a0::a1::a2::a3::I x::r) 0] hl (fun _=>rfl) (fun _=>zd) (fun e _=>xK e a0 a1 a2 a3 x r) (xL 0 x) (fun _ e _=>by simp[xL,Qd,nO]);have nr:=Vn ⟨B,L,st,n⟩ 4 (Lt l);have kL:=Rx l;have aH:=Qca l
 have hkc:∀B' d,Qf B' kk=Qf B kk->bG ⟨B',L,st,n⟩ (d+2) (.ptr kk 0)=.ep (a0::a1::a2::a3::I x::r) 0:=fun B' d h=>by
  rw[o8,Vo,h,hk,Vn _ _ bY]
 refine Xn acO (xL (Wt (nO x) l 0) x) zd ?_;by_cases cZ:Wt (nO x) l 0= -1
 ·have hf:=afy cZ;rw[cZ]at Lu;have:=hK B [] (bE.refl _ _) (by rw[hf];simpa using hB) (by rw[hf];simp) rfl;rw[hf]at this;have hc:=fun d=>hkc B d rfl;simp[-o8,M4,TJ,xL,cZ,hB,nr,kL,aH,hc];exact⟨Lu,this⟩
 obtain⟨k,WX,dM,tO⟩:=OB cZ;rw[zzbn]at WX;have Ip:¬(k:Int)= -1:=zE
 have WY:=bO k zE;rw[WX]at Lu;have hc:=fun d=>hkc B d rfl;simp[-o8,M4,TJ,xL,WX,Ip,hB,nr,kL,aH,WY,hc];refine⟨Lu,?_⟩
 refine Qk Ce (fun f m=>∃(i j:Nat)(B':X2)(L':List En),f 5=I i/\f 6=I j/\i<j/\j<=l.length/\m=⟨B',L,st,n⟩/\bE (·=id) B B'/\Qf B' id=gZ L'/\L'.length=l.length/\L'.take i=(l.take j).filter (fun e=>!nO x e)/\L'.drop j=l.drop j)
  (fun f m=>l.length-(numOf (f 6)).toNat) ?_ ?_
 ·exact⟨k,k+1,B,l,zd,zd,zE,zE,rfl,bE.refl _ _,hB,rfl,tO.symm,rfl⟩
 rintro f m ⟨i,j,B',L',h5,h6,fP,hj,rfl,nh,yO,tM,ht,hd⟩;have dc:id<B'.length:=zzan aL nh.1;have ayZ:kk<B'.length:=zzan hkk nh.1;have jo:=Qca L';have hkB:Qf B' kk=Qf B kk:=nh.2 kk hkk gU;have fB:∀ex d,bG ⟨B'++ex,L,st,n⟩ (d+2) (.ptr kk 0)=.ep (a0::a1::a2::a3::I x::r) 0:=fun ex d=>hkc _ d (by rw[Qi ayZ,hkB]);rcases zzab j l.length with ah|bu
 ·obtain⟨s,hs⟩:=aX ah
  have dR:L'[j]?=some s:=by
   have:=congrArg (fun x=>x[0]?) hd;simpa[hs]using this
  have hg:=OA dR;have eZ:(j:Int)<(l.length:Int):=zE
  have aa:(i:Int)<(l.length:Int):=zE
  have wq:i<l.length:=zE
  have uw:=bO j zE;have rj:=bO i zE;have hp:=xK s a0 a1 a2 a3 x r;simp only[Qd]at hp;have bQ:=afx L' i s zE;have fk:∀x,Qf (B'++x) id=gZ L':=fun x=>by rw[Qi dc,yO]
  have rf:∀x v,(B'++x).set id v=B'.set id v++x:=fun x v=>Yb v dc
  have bD:(l.take (j+1)).filter (fun e=>!nO x e)=(l.take j).filter (fun e=>!nO x e)++[s].filter (fun e=>!nO x e):=by
   rw[zzap,hs,zzdd];try rfl
  have hdj:L'.drop (j+1)=l.drop (j+1):=by
   have:=congrArg (List.drop 1) hd;simpa[zzdw,zzer]using this
  by_cases he:s.id=x
  ·have Dy:nO x s=true:=by simp[nO,he]
   rw[Dy]at hp;simp[-setA,nK,nL,-o8,fB,h5,h6,eZ,yO,fk,hg,Ce,xL,he,uw];rw[he]at hp;refine⟨hp,aP,⟨i,rfl,j+1,zd,zE,zE,nh.app _,?_⟩,zE⟩
   ·refine⟨L',rfl,tM,?_,hdj⟩;rw[bD,ht];simp[Dy]
  have Dy:nO x s=false:=by simp[nO,he]
  rw[Dy]at hp;simp[-setA,nK,nL,-o8,fB,h5,h6,eZ,aa,yO,fk,rf,hg,Ce,xL,he,uw,rj,bQ,jo,tM];refine⟨hp,⟨zE,zE⟩,aP,⟨i+1,zd,j+1,zd,zE,zE,(nh.set (.inl rfl) _).app _,?_⟩,zE⟩
  ·refine⟨L'.set i s,by rw[Qi (Nm dc),Xj _ dc],Nm tM,?_,?_⟩
   ·rw[bD,<- ht,zzap,zzbg zE,zzfz zE];simp[Dy]
   rw[zzg zE];exact hdj
 obtain rfl:j=l.length:=zE
 rw[zzbp]at ht;have gG:(l.filter (fun e=>!nO x e)).length=i:=by rw[<- ht,zzav];omega
 have N4:¬((l.length:Nat):Int)<(l.length:Int):=zE
 have bT:(i:Int)<=(l.length:Int):=zE
 have aa:(i:Int)<(l.length:Int):=zE
 have wq:i<l.length:=fP
 have dW:gZ L'≠[]:=by
  intro h;have:=congrArg List.length h;rw[jo,tM]at this;simp at this;omega
 have oJ:setA (gZ L') (i*7) (bH (l.length-i) [I 0,I 0,I 0,I 0,I 0,I 0,.sl .nil []])=gZ (l.filter (fun e=>!nO x e))++bH (l.length-i) nN:=by
  have e1:L'=L'.take i++L'.drop i:=zd
  conv=>lhs;rw[e1]
  rw[Oz,<- ht];have e2:(gZ (L'.take i)).length=i*7:=by rw[Qca,zzav];congr 1;omega
  rw[<- e2];exact pn _ _ _ (by rw[rK,Qca];simp;omega)
 simp[-setA,h5,h6,N4,yO,aa,bT,Ce,dc,dW,jo,tM,oJ];refine⟨zE,?_⟩;have:=hK (B'.set id (gZ (l.filter (fun e=>!nO x e))++bH (l.length-i) nN)) (bH (l.length-i) nN) (nh.set (.inl rfl) _) (Xj _ dc) (by rw[rK,gG];simp[nN];omega) (G8 _);rw[gG]at this;exact this
def bE.form{id:Nat}{B B':X2}(h:bE (·=id) B B')(aL:id<B.length):B'=B.set id (Qf B' id)++B'.drop B.length:=by
 have hl:=h.1;apply zzct;intro j;rcases zzab j B.length with hj|hj
 ·rw[zzam (Nm hj),Jf (B:=B') zE];by_cases As:j=id
  ·subst As;rw[zzbg aL]
  rw[zzbm zE,Jf hj,h.2 j hj As]
 rw[zzaw (Nm hj),zzcf,zzbr];congr 1;omega
def Ry(Y:YT)(l:List En)(hl:l.length<=1000000000)(B:X2)(L:P2)(st:Nat->LS)(n id:Nat)(aL:id<B.length)(aK:l≠[])(hB:Qf B id=gZ l)
  (kk:Nat)(a0 a1 a2 a3:AV)(x:Int)(r:P1)(hkk:kk<B.length)(gU:kk≠id)(hk:Qf B kk=a0::a1::a2::a3::I x::r)(bY:Zw (a0::a1::a2::a3::I x::r)=true)(K:UV)
  (hK:∀(ex:X2)(z:P1),Zw z=true->K (.bs id 0 (l.filter fun e=>!nO x e).length 7) ⟨B.set id (gZ (l.filter fun e=>!nO x e)++z)++ex,L,st,n⟩):
  aF Tryz.prog aD Y 158 [.bs id 0 l.length 7,.fn 159 [] [.ptr kk 0]] ⟨B,L,st,n⟩ K:=
 ZD Y l hl B L st n id aL aK hB kk a0 a1 a2 a3 x r hkk gU hk bY K fun B' z h1 h2 _ h4=>by
  have:=bE.form h1 aL;rw[h2]at this;rw[this];exact hK _ z h4
def Dz(g:Pg)(o:Od):Option Pl:=if Km g o.en<0 then none else some {g.p with ens:=g.p.ens.filter fun e=>!nO o.en e}
def ZE(Y:YT)(m:AM)(g:Pg)(f:Int)(mid:Nat)(o:Od)(h:nM g f)(hp:Ec g.p)(K:UV)
  (h0:Dz g o=none->∀ex,K (.aS [.agg II,.bool false]) {m with boxes:=m.boxes++ex})
  (h1:∀q,Dz g o=some q->∀ex k z,m.boxes.length<=k->k<(m.boxes++ex).length->Qf (m.boxes++ex) k=gZ q.ens++z->Zw z=true->K (.aS [.agg (Vb q (.bs k 0 q.ens.length 7) (.sl .ro (q.cls.map Qj)) 0),.bool true]) {m with boxes:=m.boxes++ex}):
  aF Tryz.prog aD Y 104 [.agg (Qu g f mid),.agg (Qt o)] m K:=by
 obtain⟨mb,ml,ms,mn⟩:=m;have kp:=fun ex K hK=>ZC Y ⟨mb++ex,ml,ms,mn⟩ g f mid o.en h K hK;simp only[Qu,Qo,Qc,zzaf,zzah]at kp;by_cases gK:Km g o.en<0
 ·have hx:Dz g o=none:=by unfold Dz;rw[if_pos gK]
  refine Xn MQ (fun _ _ _=>.gd false .junk) zd ?_;simp[Tt,Tu,Qu,Qo,Qc,Qt,Qd,Qj,Qp];refine kp _ _ ?_;simp[gK];have:=h0 hx;simp[II]at this;exact this _
 have hx:Dz g o=some {g.p with ens:=g.p.ens.filter fun e=>!nO o.en e}:=by unfold Dz;rw[if_neg gK]
 have aK:g.p.ens≠[]:=by
  intro e;unfold Km at gK;rw[e]at gK;simp[Wt]at gK
 have h1:=h1 _ hx;have kO:=fun ex K hK=>G3 Y ⟨mb++ex,ml,ms,mn⟩ g.p hp aK K hK;simp only[Qc]at kO;have kD:=fun B id aL hB kk a0 a1 a2 a3 r hkk gU hk bY=>Ry Y g.p.ens h.2.2.2 B ml ms mn id aL aK hB kk a0 a1 a2 a3 o.en r hkk gU hk bY;refine Xn MQ (fun _ _ _=>.gd false .junk) zd ?_;simp[Tt,Tu,Qu,Qo,Qc,Qt,Qd,Qj,Qp];refine kp _ _ ?_;simp[gK];refine kO _ _ fun c0 c1 bx=>?_;simp[Qdx,zzas];refine kD _ _ zd ?_ (mb.length+1) (I o.sq) (I o.ch) (I o.fr) (I o.ki) _ zd zE (by simp;rfl) ?_ _ ?_
 ·simp[gZ]
 ·simp[Zw,FJ]
 intro ex z hz;simp[zzas];refine⟨zE,?_⟩;exact h1 _ (mb.length+5) z zd zd zd hz
def Qcj(p:Pl)(V W:AV):P1:=[I p.ch,I p.nu,I p.de,I p.of,.sl .ro (p.sh.map Qe),I p.ep,I p.rg,I p.ln,I p.fi,.sl .ro (p.aT.map Ql),V,.sl .ro (p.bks.map Xm),W]
def Rz(rt:Rt):Prop:=∀m d x,bG m (d+1) (.sl rt x)=.sl .ro x
def Rz.ro:Rz .ro:=fun _ _ _=>rfl
def sZ(bx:X2)(V:AV)(l:List En):Prop:=(∃rt,V=.sl rt (l.map Qd)/\Rz rt)\/∃k z,V=.bs k 0 l.length 7/\k<bx.length/\Qf bx k=gZ l++z/\Zw z=true
def EnK(n:Nat)(V:AV):Prop:=∀k o l s,V=.bs k o l s->n<=k
def EnK.bs{n k o l s:Nat}(h:n<=k):EnK n (.bs k o l s):=fun _ _ _ _ e=>by cases e;exact h
def sZ.ext{bx:X2}{V:AV}{l:List En}(h:sZ bx V l)(ex:X2):sZ (bx++ex) V l:=by
 obtain h|⟨k,z,h1,h2,h3,h4⟩:=h
 ·exact .inl h
 exact .inr ⟨k,z,h1,by simp;omega,by rw[Qi h2,h3],h4⟩
def RA(Y:YT)(m:AM)(V:AV)(L:List En)(id:Int)(hV:sZ m.boxes V L)(hl:L.length<=1000000000):aF Tryz.prog aD Y 144 [V,I id,.fn 145 [] []] m (fun r m'=>m'=m/\r=Wn (Zo id L)):=by
 obtain⟨mb,ml,ms,mn⟩:=m;refine aF.read ?_;obtain⟨rt,rfl,bn⟩|⟨k,z,rfl,hk,hB,hz⟩:=hV
 ·refine Xn Cc (fun _ f l=>if f=145 then(match l with|[.agg (c::_)]=>c|_=>.junk)else .junk) zd ?_;simp[M0];refine Qk ef (fun f m=>∃(i:Nat)(bx:X2),f 13=I i/\i<=L.length/\Zo id (L.drop i)=Zo id L/\m=⟨mb++([I 0,I 0,I 0,I 0,I 0,I 0,.sl .nil []]::bx),ml,ms,mn⟩) (fun f _=>L.length-(numOf (f 13)).toNat) ?_ ?_
  ·exact⟨0,[],zd,zE,rfl,rfl⟩
  rintro f m ⟨i,bx,fH,hi,hf,rfl⟩;rcases zzab i L.length with ah|bu
  ·obtain⟨x,hx⟩:=aX ah;have ai:Qf (L.map Qd) i=Qd x:=Qv (by simp[hx]);have aa:(i:Int)<(L.length:Int):=zE
   have hw:=bO i zE;have hd:L.drop i=x::L.drop (i+1):=by rw[zzae ah,(zza.1 hx).2]
   have tI:=nF x;rw[hd,Zo]at hf;by_cases aL:x.id=id
   ·rw[if_pos aL]at hf;simp[fH,aa,ai,Qd,aL,ef,u7,<- hf,Wn];refine⟨by simpa[Qd,aL]using tI,yS⟩
   rw[if_neg aL]at hf;simp[fH,aa,ai,Qd,aL,ef,hw];refine⟨tI,aP,⟨i+1,zd,zE,hf⟩,zE⟩
  rw[zzaj bu]at hf;have bT:¬(i:Int)<(L.length:Int):=zE
  simp[fH,bT,ef,u7,<- hf,Wn,Zo];exact yS
 have hR:∀ex,Qf (mb++ex) k=gZ L++z:=fun ex=>by rw[Qi hk];exact hB
 refine Xn Cc (fun _ f l=>if f=145 then(match l with|[.agg (c::_)]=>c|_=>.junk)else .junk) zd ?_;simp[M0];refine Qk ef (fun f m=>∃(i:Nat)(bx:X2),f 13=I i/\i<=L.length/\Zo id (L.drop i)=Zo id L/\m=⟨mb++([I 0,I 0,I 0,I 0,I 0,I 0,.sl .nil []]::bx),ml,ms,mn⟩) (fun f _=>L.length-(numOf (f 13)).toNat) ?_ ?_
 ·exact⟨0,[],zd,zE,rfl,rfl⟩
 rintro f m ⟨i,bx,fH,hi,hf,rfl⟩;rcases zzab i L.length with ah|bu
 ·obtain⟨x,hx⟩:=aX ah;have hg:=OA hx
  have ai:∀ex,(Qf (mb++ex) k).drop (i*7)=I x.id::I x.it::I x.fr::I x.ea::I x.la::I x.bo::.sl .ro (x.al.map Qe)::(gZ (L.drop (i+1))++z):=fun ex=>by
   rw[hR,zzeo (by rw[Qca];omega),hg];try rfl
  have aa:(i:Int)<(L.length:Int):=zE
  have hw:=bO i zE;have hd:L.drop i=x::L.drop (i+1):=by rw[zzae ah,(zza.1 hx).2]
  have tI:=nF x;rw[hd,Zo]at hf;by_cases aL:x.id=id
  ·rw[if_pos aL]at hf;simp[fH,aa,ai,Qd,aL,ef,u7,<- hf,Wn];refine⟨by simpa[Qd,aL]using tI,yS⟩
  rw[if_neg aL]at hf;simp[fH,aa,ai,aL,ef,hw];refine⟨tI,aP,⟨i+1,zd,zE,hf⟩,zE⟩
 rw[zzaj bu]at hf;have bT:¬(i:Int)<(L.length:Int):=zE
 simp[fH,bT,ef,u7,<- hf,Wn,Zo];exact yS
def ank(Y:YT)(m:AM)(V:AV)(L:List En)(id:Int)(hV:sZ m.boxes V L)(hl:L.length<=1000000000)(K:UV)(hK:K (Wn (Zo id L)) m):aF Tryz.prog aD Y 144 [V,I id,.fn 145 [] []] m K:=
 aF.mono (RA Y m V L id hV hl) (by rintro r m' ⟨rfl,rfl⟩;exact hK)
def nP:∀(l:List En)(z:P1),aY 7 l.length (gZ l++z)=l.map Qd
 |[],z=>rfl
 |e::r,z=>by
  have:=nP r z;simp[Qd,this]
def sZ.bG{bx:X2}{V:AV}{l:List En}(h:sZ bx V l)(ex:X2)(ml:P2)(ms:Nat->LS)(mn:Nat)(d:Nat):Abs.bG ⟨bx++ex,ml,ms,mn⟩ (d+2) V=.sl .ro (l.map Qd):=by
 obtain⟨rt,rfl,bn⟩|⟨k,z,rfl,hk,hB,hz⟩:=h
 ·exact bn _ _ _
 have bY:Zw (gZ l++z)=true:=by have:=Lt l;unfold Zw at this hz |-;rw[zzfi,this,hz];try rfl
 rw[WK,Vo,Qi hk,hB,Vn _ _ bY,if_pos (by rw[zzal,Qca];omega),zzdf,nP]
def sZ.cell{bx:X2}{V:AV}{l:List En}(h:sZ bx V l):Qw V=true:=by
 rcases h with⟨rt,rfl,bn⟩|⟨k,z,rfl,hk,hB,hz⟩<;>rfl
def Lv(Y:YT)(m:AM)(q:Pl)(V:AV)(rt:Rt)(id:Int)(hV:sZ m.boxes V q.ens)(hl:q.ens.length<=1000000000)(ha:∀e∈q.ens,e.al.length<=8796093022208):
  aF Tryz.prog aD Y 93 [.agg (Qcj q V (.sl rt (q.cls.map Qj))),I id] m (fun r m'=>m'=m/\r=Wn (Zo id q.ens)):=by
 obtain⟨mb,ml,ms,mn⟩:=m;have hc:=hV.cell;have kf:=fun ex K hK=>ank Y ⟨mb++ex,ml,ms,mn⟩ V q.ens id (hV.ext ex) hl K hK;refine aF.read (Xn Tp (fun _ f l=>if f=144 then .gd false .junk else l.headD .junk) zd ?_);simp[ab0,ab1,Qcj,hc];refine kf _ _ ?_;cases hf:Zo id q.ens with
 |none=>
  simp[Wn];exact⟨jx,yS⟩
 |some x=>
  have hx:x∈q.ens:=by
   have:∀l:List En,Zo id l=some x->x∈l:=by
    intro l;induction l with
    |nil=>intro h;cases h
    |cons y r ih=>
     intro h;simp only[Zo]at h;split at h
     ·cases h;simp
     simp[ih h]
   exact this _ hf
  have oJ:=Qcd x.al (ha x hx);simp[Wn,Qd];exact⟨oJ,yS⟩
def OC(Y:YT)(m:AM)(q:Pl)(V:AV)(rt:Rt)(id:Int)(hV:sZ m.boxes V q.ens)(hl:q.ens.length<=1000000000)(ha:∀e∈q.ens,e.al.length<=8796093022208)(K:UV)(hK:K (Wn (Zo id q.ens)) m):
  aF Tryz.prog aD Y 93 [.agg (Qcj q V (.sl rt (q.cls.map Qj))),I id] m K:=
 aF.mono (Lv Y m q V rt id hV hl ha) (by rintro r m' ⟨rfl,rfl⟩;exact hK)
def G9(Y:YT)(m:AM)(g:Pg)(f:Int)(mid:Nat)(b:QQ)(o:Od)(q:Pl)(V:AV)(rt:Rt)(d:Int)(hV:sZ m.boxes V q.ens)(h:nM g f)(hb:iJ m.boxes mid b):
  aF Tryz.prog aD Y 105 [.agg (Qu g f mid),.agg (Qt o),.agg (Vb q V (.sl rt (q.cls.map Qj)) d)] m (fun r m'=>m'=m/\r=.bool !(Dx g f b o.en)):=by
 obtain⟨mb,ml,ms,mn⟩:=m;have hc:=hV.cell;have hB:∀ex,iJ (mb++ex) mid b:=fun ex=>⟨by have:=hb.1;simp at this |-;omega,hb.ext ex⟩;have k:=fun ex K hK=>aua Y ⟨mb++ex,ml,ms,mn⟩ g f mid b o.en h (hB ex) K hK;simp only[Qu,Qo,Qc,zzaf,zzah]at k;refine aF.read (Xn ab3 (fun _ _ _=>.gd false .junk) zd ?_);simp[agQ,agR,Qu,Qo,Qc,Qt,Qd,Qj,Qp,Vb,hc];refine k _ _ ?_;simp;exact yS
def zH(x:Int):Pi->Nat->Int
 |[],_=> -1
 |a::r,i=>if x=a then i else zH x r (i+1)
def He(x:Int):∀(L:Pi)(i:Nat),(0<=zH x L i)=(x∈L)
 |[],i=>by simp[zH]
 |a::r,i=>by
  unfold zH;by_cases h:x=a
  ·rw[if_pos h];simp[h]
  rw[if_neg h,He x r (i+1)];simp[h]
def ZF(L:Pi)(x:Int)(hl:L.length<=1000000000):Pure Tryz.prog aD 167 [.sl .ro (L.map Qy),I x] (I (zH x L 0)):=by
 refine Qm acS (fun _ _ _=>.junk) zd ?_;simp[ahA];refine Qk Cg (fun f m=>∃i:Nat,f 8=I i/\i<=L.length/\zH x (L.drop i) i=zH x L 0/\m=⟨[],[],fun _=>.gone,0⟩) (fun f _=>L.length-(numOf (f 8)).toNat) ?_ ?_
 ·exact⟨0,zd,zE,zd,rfl⟩
 rintro f m ⟨i,f8,hi,hr,rfl⟩;rcases zzab i L.length with ah|bu
 ·obtain⟨a,ha⟩:=aX ah;have ai:Qf (L.map Qy) i=[I a]:=Qv (by simp[ha,Qy]);have aa:(i:Int)<(L.length:Int):=zE
  have hw:=bO i zE;have hd:L.drop i=a::L.drop (i+1):=by rw[zzae ah,(zza.1 ha).2]
  rw[hd,zH]at hr;by_cases hP:x=a
  ·rw[if_pos hP]at hr;simp[f8,Cg,TL,aa,ai,hP];rw[<- hP];exact hr
  rw[if_neg hP]at hr;simp[f8,Cg,aa,ai,hP,hw];refine⟨aP,⟨i+1,zd,zE,hr⟩,zE⟩
 obtain rfl:i=L.length:=zE
 rw[zzbz,zH]at hr;simp[f8,Cg,TL];exact hr
def s5(L:Pi)(x:Int)(hl:L.length<=1000000000):Pure Tryz.prog aD 110 [.sl .ro (L.map Qy),I x] (.bool (decide (x∈L))):=by
 have k:=ZF L x hl;refine Qm ab5 (fun _ _ _=>I (zH x L 0)) zd ?_;simp[agT,agU];refine⟨k,?_⟩;simp[<- He x L 0]
def yT:En:=⟨0,0,0,0,0,0,[]⟩
def Qeb(g:Pg)(f:Int)(b:QQ)(o:Od)(q:Pl)(d:Int):Bool:=
 if Dx g f b o.en=true then false
 else if o.en∈g.dr then false
 else if d<1 then false
 else match Xk ((Zo o.en q.ens).getD yT).it q.aT with
  |none=>false
  |some x=>if x.ki≠4 then false
   else match G5 g f b o.en with
    |none=>true
    |some st=>if q.ln-d<st then false else if st+d-f=0 then true else Zv q ((Zo o.en q.ens).getD yT).it 0 f (st+d-f)
def Hf(g:Pg)(F:Int)(b:QQ)(o:Od)(q:Pl)(d:Int):X1:=fun _ f _=>if f=110 then .bool (decide (o.en∈g.dr))else if f=151 then .bool (Zv q ((Zo o.en q.ens).getD yT).it 0 F ((G5 g F b o.en).getD 0+d-F))else .gd false .junk
def RB(Y:YT)(m:AM)(q:Pl)(V:AV)(rt:Rt)(id:Int)(hc:Qw V=true)(hl:q.aT.length<=1000000000):
  aF Tryz.prog aD Y 147 [.agg (Qcj q V (.sl rt (q.cls.map Qj))),I id] m (fun r m'=>m'=m/\r=Zu (Xk id q.aT)):=by
 obtain⟨mb,ml,ms,mn⟩:=m;have h:=wY q.aT id hl;refine aF.read (Xn M3 (fun _ f l=>if f=191 then Zu (Xk id q.aT)else .junk) zd ?_);cases hf:Xk id q.aT with
 |none=>
  rw[hf]at h;simp[EF,EG,Qcj,hc,Zu];exact⟨h,yS⟩
 |some x=>
  rw[hf]at h;simp[EF,EG,Qcj,hc,Zu,Ql];exact⟨h,yS⟩
def anl(Y:YT)(m:AM)(q:Pl)(V:AV)(rt:Rt)(id:Int)(hc:Qw V=true)(hl:q.aT.length<=1000000000)(K:UV)(hK:K (Zu (Xk id q.aT)) m):
  aF Tryz.prog aD Y 147 [.agg (Qcj q V (.sl rt (q.cls.map Qj))),I id] m K:=
 aF.mono (RB Y m q V rt id hc hl) (by rintro r m' ⟨rfl,rfl⟩;exact hK)
def rtE:Option En->Rt
 |none=>.nil
 |some _=>.ro
def Hg(o:Option En):Wn o=.aS [.agg [I (o.getD yT).id,I (o.getD yT).it,I (o.getD yT).fr,I (o.getD yT).ea,I (o.getD yT).la,I (o.getD yT).bo,.sl (rtE o) ((o.getD yT).al.map Qe)],.bool o.isSome]:=by
 cases o<;>rfl
def Lw(Y:YT)(m:AM)(g:Pg)(f:Int)(mid:Nat)(b:QQ)(o:Od)(q:Pl)(V:AV)(rt:Rt)(d:Int)(hV:sZ m.boxes V q.ens)(bn:Rz rt)(h:nM g f)(hb:iJ m.boxes mid b)(fD:g.dr.length<=1000000000)(hq:Ec q)(eO:0<=q.ln/\q.ln<=1000000)(hd:pX d):
  aF Tryz.prog aD Y 103 [.agg (Qu g f mid),.agg (Qt o),.agg (Vb q V (.sl rt (q.cls.map Qj)) d)] m (fun r m'=>m'=m/\r=.bool (Qeb g f b o q d)):=by
 obtain⟨mb,ml,ms,mn⟩:=m;obtain⟨q1,q2,q3,q4,q5,q6⟩:=hq;have hc:=hV.cell;have hB:∀ex,iJ (mb++ex) mid b:=fun ex=>⟨by have:=hb.1;simp at this |-;omega,hb.ext ex⟩;have ke:=fun ex K hK=>aua Y ⟨mb++ex,ml,ms,mn⟩ g f mid b o.en h (hB ex) K hK;have ki:=fun ex K hK=>anj Y ⟨mb++ex,ml,ms,mn⟩ g f mid b o.en h (hB ex) K hK;have kn:=fun ex K hK=>OC Y ⟨mb++ex,ml,ms,mn⟩ q V rt o.en (hV.ext ex) zE q6 K hK;simp only[Qu,Qo,Qc,Qcj,zzaf,zzah]at ke ki kn;have k2:=s5 g.dr o.en fD;have nr:=fun ex d=>hV.bG ex ml ms mn d;refine aF.read (Xn ab2 (Hf g f b o q d) zd ?_);cases he:Dx g f b o.en with
 |true=>
  simp[Ew,Ex,Qu,Qo,Qc,Qt,Qd,Qj,Qp,Vb,hc,Qeb,he,Hf];refine ke _ _ ?_;simp[he];exact yS
 |false=>
  by_cases hm:o.en∈g.dr
  ·simp[Ew,Ex,Qu,Qo,Qc,Qt,Qd,Qj,Qp,Vb,hc,Qeb,he,hm,Hf];refine ke _ _ ?_;simp[he,hm]at k2 |-
   exact⟨k2,yS⟩
  by_cases hd1:d<1
  ·simp[Ew,Ex,Qu,Qo,Qc,Qt,Qd,Qj,Qp,Vb,hc,Qeb,he,hm,hd1,Hf];refine ke _ _ ?_;simp[he,hm,hd1]at k2 |-
   exact⟨k2,yS⟩
  simp[Ew,Ex,Qu,Qo,Qc,Qt,Qd,Qj,Qp,Vb,hc,Qeb,he,hm,hd1,Hf];refine ke _ _ ?_;simp[he,hm,hd1]at k2 |-
  refine⟨k2,kn _ _ ?_⟩;obtain⟨e,hE⟩:∃e,(Zo o.en q.ens).getD yT=e:=⟨_,rfl⟩;have kt:=fun ex K hK=>anl Y ⟨mb++ex,ml,ms,mn⟩ q V rt e.it hc zE K hK;simp only[Qcj]at kt;rw[Hg];generalize rtE (Zo o.en q.ens)=r7;generalize(Zo o.en q.ens).isSome=b7;rw[hE];obtain⟨X,hX⟩:∃X,Xk e.it q.aT=X:=⟨_,rfl⟩;have w0:IntKind.i64.wrap 0=0:=by decide
  simp;refine kt _ _ ?_;cases X with
  |none=>
   simp[hX,Zu];exact .bool _
  |some x=>
   by_cases gU:x.ki=4
   ·have K9:=Qen q e.it 0 f ((G5 g f b o.en).getD 0+d-f) q5 zE zE;simp only[Qc]at K9
    have yP:∀st,G5 g f b o.en=some st->0<=st/\st<=1000000:=fun st hh=>by
     unfold G5 at hh;split at hh
     ·cases hh
     split at hh
     ·cases hh;exact Ls h _
     cases hh
    have hfs:=h.2.2.1;unfold nJ at hfs;unfold pX at hd;simp[hX,Zu,Ql,gU];refine ki _ _ ?_;cases hi:G5 g f b o.en with
    |none=>
     simp[Rv];exact .bool _
    |some st=>
     have iI:=yP st hi;have w1:IntKind.i64.wrap (q.ln-d)=q.ln-d:=by rw[Qh]<;>omega
     rw[hi]at K9;by_cases oN:q.ln-d<st
     ·simp[Rv,w1,oN];exact .bool _
     have w2:IntKind.i64.wrap (st+d)=st+d:=by rw[Qh]<;>omega
     have w3:IntKind.i64.wrap (st+d-f)=st+d-f:=by rw[Qh]<;>omega
     by_cases hz:st+d-f=0
     ·simp[Rv,w1,oN,w2,hz,w0];exact .bool _
     simp[Rv,w1,oN,w2,w3,hz,nr,bn _ _ _];exact⟨Nm K9,.bool _⟩
   simp[hX,Zu,Ql,gU];exact .bool _
def s7{B:X2}{id:Nat}{c:P1}(h:id<B.length)(hr:Qf B id=c):B[id]?=some c:=by
 rw[Jf h,hr]
def jM(g:Pg)(f:Int)(b:QQ)(o:Od):Option (Pl×Int):=
 if o.ki=1 then xJ g f b o else(Dz g o).map fun q=>(q,0)
def rM(g:Pg)(f:Int)(b:QQ)(o:Od)(q:Pl)(d:Int):Bool:=
 if o.ki=1 then Qeb g f b o q d else !(Dx g f b o.en)
def uK(g:Pg)(f:Int)(b:QQ)(o:Od):Option (Pl×Int):=
 if g.p.ln<=f then none else match jM g f b o with
 |none=>none
 |some (q,d)=>if(Ea q&&rM g f b o q d)=true then some (q,d)else none
def afz(g:Pg)(f:Int)(b:QQ)(o:Od)(e:En):pX (xI g f b o e):=by
 unfold xI;cases G5 g f b o.en with
 |none=>exact Qdu _
 |some st=>
  have h1:=Qdu (e.fr+o.n);have h2:=Qdu (f-st);simp only;first|exact Qdu _|(split<;>assumption)|(unfold pX at*;omega)
structure PlB (q:Pl):Prop where
 sh:q.sh.length<=1000000
 aT:q.aT.length<=1000000
 ens:q.ens.length<=1000001
 bks:q.bks.length<=1000000
 cls:q.cls.length<=1000001
 als:∀e∈q.ens,e.al.length<=8796093022208
def Lx{g:Pg}{f:Int}{b:QQ}{o:Od}{q:Pl}{d:Int}(hp:Ec g.p)(ho:o.nw.al.length<=8796093022208)(h:jM g f b o=some (q,d)):PlB q/\q.ln=g.p.ln/\pX d:=by
 obtain⟨h1,h2,h3,h4,h5,h6⟩:=hp;unfold jM at h;have j0:pX 0:=by unfold pX;omega
 split at h
 ·unfold xJ at h;split at h
  ·cases h
  rename_i e he;split at h
  ·cases h
  cases h;refine⟨⟨h1,h2,by simp;omega,h4,by show g.p.cls.length<=_;omega,fun x hx=>?_⟩,rfl,afz _ _ _ _ _⟩;rcases zzgn hx with hx|rfl
  ·exact h6 x hx
  exact h6 e (zzad he)
 unfold Dz at h;split at h
 ·cases h
 cases h;exact⟨⟨h1,h2,by have:=zzci (fun e=>!nO o.en e) g.p.ens;simp only;omega,h4,by show g.p.cls.length<=_;omega,fun x hx=>h6 x (zzcq.1 hx).1⟩,rfl,j0⟩
def PlB.S{q:Pl}(h:PlB q):PlS q:=⟨by have:=h.sh;omega,by have:=h.aT;omega,by have:=h.ens;omega,by have:=h.bks;omega,by have:=h.cls;omega,h.als⟩
def ZG(q?:Option (Pl×Int)):X1:=fun _ f _=>if f=83 then(match q? with|some (q,_)=>.bool (Ea q)|none=>.junk)else .gd false .junk
def sZ.put{mb:X2}{a b c c':P1}{ex:X2}{V:AV}{l:List En}(h:sZ (mb++(a::b::c::ex)) V l)(hk:EnK (mb.length+3) V)(jL:X2):sZ (mb++(a::b::c'::(ex++jL))) V l:=by
 obtain h|⟨k,z,rfl,h2,h3,h4⟩:=h
 ·exact .inl h
 have cw:=hk _ _ _ _ rfl;obtain⟨j,rfl⟩:∃j,k=mb.length+(j+3):=⟨k-mb.length-3,zE⟩;have hg:=Jf h2;rw[h3,zzaw zE,zzel]at hg;simp only[zzdh]at hg;have hj:=(zza.1 hg).1;refine .inr ⟨_,z,rfl,by simp at h2 |-;omega,Qv ?_,h4⟩;rw[zzaw zE,zzel];simp only[zzdh];rw[zzam hj,hg]
structure ZH (g:Pg) (f:Int) (o:Od):Prop where
 mo:f<g.p.ln->nM g f
 pl:Ec g.p
 f0:0<=f
 ln:g.p.ln<=1000000
 n:pX o.n
 fr:∀e∈g.p.ens,pX e.fr
 dr:g.dr.length<=1000000000
 al:o.nw.al.length<=8796093022208
 ZI:o.ki=1\/o.ki=2
def Lz(Y:YT)(m:AM)(g:Pg)(f:Int)(mid:Nat)(b:QQ)(o:Od)(h:ZH g f o)(hb:iJ m.boxes mid b)(K:UV)
  (h0:uK g f b o=none->∀ex ls,K (.aS [.agg II,.bool false]) {m with boxes:=m.boxes++ex,lens:=m.lens++ls})
  (h1:∀q d,uK g f b o=some (q,d)->∀ex V rt ls,sZ (m.boxes++ex) V q.ens->EnK m.boxes.length V->Rz rt->K (.aS [.agg (Vb q V (.sl rt (q.cls.map Qj)) d),.bool true]) {m with boxes:=m.boxes++ex,lens:=m.lens++ls}):
  aF Tryz.prog aD Y 56 [.agg (Qu g f mid),.agg (Qt o)] m K:=by
 obtain⟨mb,ml,ms,mn⟩:=m;obtain⟨hm,hp,hf0,eO,hn,Fx,fD,ho,ZI⟩:=h;have hB:∀ex,iJ (mb++ex) mid b:=fun ex=>⟨by have:=hb.1;simp at this |-;omega,hb.ext ex⟩;by_cases vU:g.p.ln<=f
 ·have h0:=h0 (by unfold uK;rw[if_pos vU]);refine Xn Tb (fun _ _ _=>.gd false .junk) zd ?_;simp[abS,abT,Qu,Qo,Qc,Qt,Qd,Qj,Qp,vU];have:=fun ex=>h0 ex [];simp[II]at this;exact this _
 have hm:=hm zE;have QC:pX g.p.ln:=by unfold pX;omega
 have e1:uK g f b o=match jM g f b o with
  |none=>none
  |some (q,d)=>if(Ea q&&rM g f b o q d)=true then some (q,d)else none:=by unfold uK;rw[if_neg vU]
 have key:∃fb fm:FuncId,((o.ki=1/\fb=102/\fm=103)\/(o.ki=2/\fb=104/\fm=105))/\
   (
    ∀(ex:X2)(K:UV),(jM g f b o=none->∀qv,K (.aS [.agg II,.bool false]) ⟨mb++(ex++qv),ml,ms,mn⟩)->
    (∀q d,jM g f b o=some (q,d)->∀qv V rt ls,sZ (mb++(ex++qv)) V q.ens->EnK (mb++ex).length V->Rz rt->K (.aS [.agg (Vb q V (.sl rt (q.cls.map Qj)) d),.bool true]) ⟨mb++(ex++qv),ml++ls,ms,mn⟩)->
    aF Tryz.prog aD Y fb [.agg (Qu g f mid),.agg (Qt o)] ⟨mb++ex,ml,ms,mn⟩ K)/\
   (
    ∀(ex:X2)(ls:P2)(q:Pl)(d:Int)(V:AV)(rt:Rt)(K:UV),jM g f b o=some (q,d)->sZ (mb++ex) V q.ens->Rz rt->K (.bool (rM g f b o q d)) ⟨mb++ex,ml++ls,ms,mn⟩->
    aF Tryz.prog aD Y fm [.agg (Qu g f mid),.agg (Qt o),.agg (Vb q V (.sl rt (q.cls.map Qj)) d)] ⟨mb++ex,ml++ls,ms,mn⟩ K):=by
  by_cases k1:o.ki=1
  ·refine⟨102,103,.inl ⟨k1,rfl,rfl⟩,fun ex K q0 q1=>?_,fun ex ls q d V rt K hq hV bn hK=>?_⟩
   ·have gI:jM g f b o=xJ g f b o:=by unfold jM;rw[if_pos k1]
    refine afw Y ⟨mb++ex,ml,ms,mn⟩ g f mid b o hm hp (hB ex) hn QC Fx K (fun hx qv=>?_) (fun q d hx qv k AJ hk hr=>?_)
    ·have:=q0 (by rw[gI];exact hx) qv;simpa using this
    have:=q1 q d (by rw[gI];exact hx) qv (.bs k 0 q.ens.length 7) .ro [] (.inr ⟨k,[],rfl,Nm hk,by simpa[gZ]using hr,rfl⟩) (EnK.bs AJ) Rz.ro;simpa using this
   have hmy:rM g f b o q d=Qeb g f b o q d:=by unfold rM;rw[if_pos k1]
   obtain⟨hqB,hql,hqd⟩:=Lx hp ho hq
   have hqe:q.ens.length=g.p.ens.length/\q.cls=g.p.cls:=by
    have gI:jM g f b o=xJ g f b o:=by unfold jM;rw[if_pos k1]
    rw[gI]at hq;unfold xJ at hq;split at hq
    ·cases hq
    split at hq
    ·cases hq
    cases hq;exact⟨zd,rfl⟩
   refine aF.mono (Lw Y ⟨mb++ex,ml++ls,ms,mn⟩ g f mid b o q V rt d hV bn hm (hB ex) fD ⟨hqB.sh,hqB.aT,by rw[hqe.1];exact hp.2.2.1,hqB.bks,by rw[hqe.2];exact hp.2.2.2.2.1,hqB.als⟩ zE hqd) ?_;rintro r m' ⟨rfl,rfl⟩;rw[<- hmy];exact hK
  have k2:o.ki=2:=ZI.resolve_left k1
  ·refine⟨104,105,.inr ⟨k2,rfl,rfl⟩,fun ex K q0 q1=>?_,fun ex ls q d V rt K hq hV bn hK=>?_⟩
   ·have gI:jM g f b o=(Dz g o).map fun q=>(q,0):=by unfold jM;rw[if_neg k1]
    refine ZE Y ⟨mb++ex,ml,ms,mn⟩ g f mid o hm hp K (fun hx qv=>?_) (fun q hx qv k z AJ hk hr hz=>?_)
    ·have:=q0 (by rw[gI,hx];try rfl) qv;simpa using this
    have:=q1 q 0 (by rw[gI,hx];try rfl) qv (.bs k 0 q.ens.length 7) .ro [] (.inr ⟨k,z,rfl,Nm hk,Nm hr,hz⟩) (EnK.bs AJ) Rz.ro;simpa using this
   have hmy:rM g f b o q d=!(Dx g f b o.en):=by unfold rM;rw[if_neg k1]
   refine aF.mono (G9 Y ⟨mb++ex,ml++ls,ms,mn⟩ g f mid b o q V rt d hV hm (hB ex)) ?_;rintro r m' ⟨rfl,rfl⟩;rw[<- hmy];exact hK
 obtain⟨fb,fm,hk,kb,km⟩:=key;simp only[Qu,Qo,Qc,Qt,Qd,Qj,Qp,zzaf,zzah]at kb km;refine Xn Tb (ZG (jM g f b o)) zd ?_;obtain⟨k1,rfl,rfl⟩|⟨k1,rfl,rfl⟩:=hk
 ·simp[abS,abT,Qu,Qo,Qc,Qt,Qd,Qj,Qp,vU,k1,ZG];rw[k1]at kb km;refine kb _ _ (fun hbn qv=>?_) (fun q d C2 qv V rt ls hV hVk bn=>?_)
  ·have h0:=fun ex=>h0 (by rw[e1,hbn]) ex [];simp[II,zzas];simp[II]at h0;exact h0 _
  have hc:=hV.cell;have nr:=fun ex ml d=>hV.bG ex ml ms mn d;have hE:=fun jL=>hV.ext jL;simp only[zzbd,zzaf,zzah]at nr hE;have hrv:=fun m d x=>bn m d x;obtain⟨hqB,hql,hqd⟩:=Lx hp ho C2;have kv:=jJ q hqB.S;simp only[Qc]at kv;have km:=fun ex K hV hK=>km ex ls q d V rt K C2 hV bn hK;simp only[Vb]at km;cases hpv:Ea q with
  |false=>
   rw[hpv]at kv;have h0:=fun ex=>h0 (by rw[e1,C2];simp[hpv]) ex ls;simp[Vb,C2,hpv,zzas,hc,nr,hrv];simp[II]at h0;exact⟨kv,h0 _⟩
  |true=>
   rw[hpv]at kv;simp[Vb,C2,hpv,zzas,hc,nr,hrv];refine⟨kv,km _ _ (hE _) ?_⟩;cases hmy:rM g f b o q d with
   |false=>
    have h0:=fun ex=>h0 (by rw[e1,C2];simp[hpv,hmy]) ex ls;simp[zzas];simp[II]at h0;exact h0 _
   |true=>
    have h1:=fun ex hV hk=>h1 q d (by rw[e1,C2];simp[hpv,hmy]) ex V rt ls hV hk bn;simp[zzas,hc];simp only[Vb]at h1;refine h1 _ ?_ (fun k o l s e=>by have:=hVk k o l s e;simp at this;omega);exact sZ.put (by simpa using hE []) (Nm hVk) _
 simp[abS,abT,Qu,Qo,Qc,Qt,Qd,Qj,Qp,vU,k1,ZG];rw[k1]at kb km;refine kb _ _ (fun hbn qv=>?_) (fun q d C2 qv V rt ls hV hVk bn=>?_)
 ·have h0:=fun ex=>h0 (by rw[e1,hbn]) ex [];simp[II,zzas];simp[II]at h0;exact h0 _
 have hc:=hV.cell;have nr:=fun ex ml d=>hV.bG ex ml ms mn d;have hE:=fun jL=>hV.ext jL;simp only[zzbd,zzaf,zzah]at nr hE;have hrv:=fun m d x=>bn m d x;obtain⟨hqB,hql,hqd⟩:=Lx hp ho C2;have kv:=jJ q hqB.S;simp only[Qc]at kv;have km:=fun ex K hV hK=>km ex ls q d V rt K C2 hV bn hK;simp only[Vb]at km;cases hpv:Ea q with
 |false=>
  rw[hpv]at kv;have h0:=fun ex=>h0 (by rw[e1,C2];simp[hpv]) ex ls;simp[Vb,C2,hpv,zzas,hc,nr,hrv];simp[II]at h0;exact⟨kv,h0 _⟩
 |true=>
  rw[hpv]at kv;simp[Vb,C2,hpv,zzas,hc,nr,hrv];refine⟨kv,km _ _ (hE _) ?_⟩;cases hmy:rM g f b o q d with
  |false=>
   have h0:=fun ex=>h0 (by rw[e1,C2];simp[hpv,hmy]) ex ls;simp[zzas];simp[II]at h0;exact h0 _
  |true=>
   have h1:=fun ex hV hk=>h1 q d (by rw[e1,C2];simp[hpv,hmy]) ex V rt ls hV hk bn;simp[zzas,hc];simp only[Vb]at h1;refine h1 _ ?_ (fun k o l s e=>by have:=hVk k o l s e;simp at this;omega);exact sZ.put (by simpa using hE []) (Nm hVk) _
