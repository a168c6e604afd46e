import Derived.Test.YthjppoincojfkaaGreatDoorRAMcG
import Derived.Test.YthjppoincojfkaaGreatDoorRAScL
set_option linter.all false
set_option maxRecDepth 100000
set_option maxHeartbeats 64000000
namespace Go.Proofs.YthjppoincojfkaaGreatDoor
noncomputable section
open Go Go.Abs
def Hl:SC:=(⟨_,by cbv⟩:JY [1,1,1,1,1,1,1,1] IL).1
def Ho:SC:=(⟨_,fun _=>by cbv⟩:Fm [1,1] (oT [1,1,1,1,1,1] IL)).1 Hl
def Oq:SC:=(⟨_,fun _=>by cbv⟩:Fm [1,1] (oT [1,1,1,1] IL)).1 Ho
def atd:SC:=(⟨_,fun _=>by cbv⟩:Fm [1,1,1,1] IL).1 Oq
theorem afi:IL=atd:=rfl
def Kj(l:Pi):Pi:=l.mergeSort fun x y=>decide (x<=y)
def rS(l:Pi):(Kj l).length=l.length:=zzer l
def Ot(l:Pi):(l.map Xa).flatten=aj l:=by
 induction l with
 |nil=>rfl
 |cons a r ih=>simp only[zzaz,zzch,ih];rfl
def um{α:Type}(l:List α):Rt:=if l=[]then .nil else .ro
def aiV:∀{l:Pi},l≠[]->dd l≠[]
 |[],h=>absurd rfl h
 |[x],_=>by simp[dd]
 |x::y::r,_=>by
  rw[FK];split
  ·exact aiV zd
  simp
def gX(n:Nat)(m:AM)(V:AV)(rows:T5):Prop:=Qx V=true/\∀m':AM,m.boxes.length<=m'.boxes.length->(∀j,n<=j->j<m.boxes.length->Qj m'.boxes j=Qj m.boxes j)->∀d,bz m' (d+2) V=.sl (um rows) rows
def gX.mono{n n':Nat}{m:AM}{V:AV}{rows:T5}(h:gX n m V rows)(hn:n'<=n):gX n' m V rows:=⟨h.1,fun m' h1 h2 d=>h.2 m' h1 (fun j q1 q2=>h2 j zE q2) d⟩
def Z0(Y:YT)(m:AM)(rt:Rt)(K:So)(hK:K (.sl rt []) m):aB Tryz.prog aD Y 111 [.sl rt []] m K:=by
 obtain⟨mb,ml,ms,mn⟩:=m;refine Xn BV (fun _ _ _=>.junk) zd ?_;simp[vo,Ag];exact hK
def bB.pre{id:Nat}{mb X B':T5}(h:bB (·=id) (mb++X) B')(aL:mb.length<=id):∃ex,B'=mb++ex:=by
 refine⟨B'.drop mb.length,?_⟩;apply zzda;intro j;have hl:=h.1;simp only[zzak]at hl;rcases zzaa j mb.length with hj|hj
 ·rw[zzaj hj];have:=h.2 j (by simp;omega) zE;rw[Jj zE,this,Jj hj,Qn hj]
 rw[zzap hj,zzbl];congr 1;omega
def gX.ints{B:T5}{L:Pa}{st:Nat->LS}{n k id:Nat}{l:Pi}{c:P2}(hk:k<=id)(aL:id<B.length)(hB:Qj B id=aj l++c)(hc:Zm c=true)(aO:l≠[]):gX k ⟨B,L,st,n⟩ (.bs id 0 l.length 1) (l.map Xa):=by
 have aX:um (l.map Xa)=.ro:=by unfold um;rw[if_neg (Nm aO)]
 rw[gX,aX];refine⟨rfl,fun m' h1 h2 d=>?_⟩;have hr:=h2 id hk aL;simp only at hr h1
 have bU:Zm (aj l++c)=true:=by
  have:=WW l;unfold Zm at this hc |-
  rw[zzf,this,hc];rfl
 rw[Wc,Yd];rw[hr,hB,Ve _ _ bU,if_pos (by rw[zzak,Ui];omega),zzdb,w9];rfl
def Hp(Y:YT)(orc:UV)(ho5:orc 95 999999 []=.aJ 0 [])(ho7:orc 97 999999 []=.aJ 0 [])(hs:∀d l,orc d 110 l=.gd false .junk)(hp:∀d l,orc d 111 l=.gd false .junk)
  (E:QQ)(mb:T5)(ml:Pa)(ms:Nat->LS)(mn:Nat)(g:Pg)(f:Int)(mid k3:Nat)(V8:AV)(rD:Rt)(D:Pi)(Q:R0)
  (h3:Abs.look E 3=.ptr k3 0)(Bh:k3<mb.length)(Ou:Qj mb k3=Qr g f mid)(h8:Abs.look E 8=V8)(KH:Abs.look E 16=.sl rD (D.map Xa))(gO:g.dr.length<=1000000)(CP:D.length<=1000000)
  (hQ:∀E' ex vd,Abs.look E' 6=V8->Abs.look E' 7=vd->gX mb.length ⟨mb++ex,ml,ms,mn⟩ vd ((dd (Kj (g.dr++D))).map Xa)->Q .ret ⟨Vy 103 E',⟨mb++ex,ml,ms,mn⟩⟩):
  vc Tryz.prog aD orc Y Hl ⟨Vy 103 E,⟨mb,ml,ms,mn⟩⟩ Q:=by
 simp only[Qr,Qh,Qa,zzad,zzai]at Ou
 have fin:∀(X:T5)(id:Nat)(K:AV->AV->AM->Prop),mb.length<=id->id<(mb++X).length->Qj (mb++X) id=aj (g.dr++D)->g.dr++D≠[]->
   (∀ex vd,gX mb.length ⟨mb++ex,ml,ms,mn⟩ vd ((dd (Kj (g.dr++D))).map Xa)->K (.aS []) vd ⟨mb++ex,ml,ms,mn⟩)->
   aB Tryz.prog aD Y 110 [.bs id 0 (g.dr++D).length 1] ⟨mb++X,ml,ms,mn⟩ (fun r0 m'=>aB Tryz.prog aD Y 111 [.bs id 0 (g.dr++D).length 1] m' (K r0)):=by
  intro X id K cB ai ah aO hK;refine sM Y (g.dr++D) (by simp;omega) _ id [] (by rw[zzar];exact Ke ai ah) (by rw[zzar];intro h;have:=congrArg List.length h;rw[Ui]at this;exact aO (zzbc this)) _ ?_;have aH:(g.dr++D).length=(Kj (g.dr++D)).length:=(rS _).symm;rw[aH];have fJ:Kj (g.dr++D)≠[]:=fun h=>aO (by have:=congrArg List.length h;rw[rS]at this;exact zzbc this);refine sK Y (Kj (g.dr++D)) (by rw[<- aH];simp;omega) _ _ _ _ id (Nm ai) fJ ?_ _ ?_
  ·rw[zzar];exact Qu (by rw[zzbf ai];first|rfl|(rw[zzar];rfl))
  intro B' z nE eP _
  have bS:(mb++X).set id (aj (List.mergeSort (g.dr++D) fun x y=>decide (x<=y))++[])=mb++X.set (id-mb.length) (aj (List.mergeSort (g.dr++D) fun x y=>decide (x<=y))++[]):=by
   rw[zzde _ _ cB]
  rw[bS]at nE;obtain⟨ex,rfl⟩:=bB.pre nE cB;refine hK ex _ ?_;have axO:id<(mb++ex).length:=by have:=nE.1;simp at this ai |-;omega
  rw[nD]at eP;exact gX.ints cB axO eP (WW z) (aiV fJ)
 have hR3:∀ex,Qj (mb++ex) k3=_:=fun ex=>(Qn Bh).trans Ou;have hm5:mutO orc (some 95)=true:=by unfold mutO;simp[ho5]
 have hm7:mutO orc (some 97)=true:=by unfold mutO;simp[ho7]
 simp only[zzak]at fin;by_cases fu:g.dr=[]
 ·by_cases hD:D=[]
  ·simp[Hl,h3,h8,KH,Ou,fu,hD,hs,hp,ho5,ho7];refine pF _ _ _ _ ?_;refine Z0 _ _ _ _ ?_;have:=fun E' vd h1 h2 h3=>hQ E' [] vd h1 h2 h3;simp only[zzar]at this;refine this _ _ zd (by simp;rfl) ?_;rw[fu,hD];refine⟨rfl,fun m' h1 h2 d=>?_⟩;simp[Kj,dd,um]
  have aO:g.dr++D≠[]:=by simp[hD]
  have gA:¬aj D=[]:=fun h=>hD (by have:=congrArg List.length h;rw[Ui]at this;exact zzbc this);rw[fu]at fin hQ aO;simp only[zzco,zzbs,zzai]at fin hQ;have ru:∀a∈D,(Xa a).length=1:=fun _ _=>rfl;simp[Hl,h3,h8,KH,Ou,fu,hD,hs,hp,ho5,ho7,Ot,Ui];refine⟨⟨zE,ru⟩,fin [aj D] mb.length _ (zzab _) zd zd hD ?_⟩;intro ex vd hv;exact hQ _ _ _ zd zd hv
 have aO:g.dr++D≠[]:=by simp[fu]
 have gA:¬aj g.dr=[]:=fun h=>fu (by have:=congrArg List.length h;rw[Ui]at this;exact zzbc this);have ru:∀a∈D,(Xa a).length=1:=fun _ _=>rfl;have axP:∀a∈g.dr,(Xa a).length=1:=fun _ _=>rfl;have bA:List.take g.dr.length (aj g.dr)=aj g.dr:=zzau (by rw[Ui];exact zzab _);simp[Hl,h3,h8,KH,Ou,fu,hs,hp,ho5,Ot,Ui,gA,bA];refine⟨⟨zE,axP⟩,⟨zE,ru⟩,fin [[],aj g.dr++aj D] (mb.length+1) _ zE zd (by simp[nD]) aO ?_⟩;intro ex vd hv;exact hQ _ _ _ zd zd hv
open Go Go.Abs
def DL(rt za:Rt):Prop:=∀m d x,bz m (d+1) (.sl rt x)=.sl za x
def DL.ro:DL .ro .ro:=fun _ _ _=>rfl
def DL.nil:DL .nil .nil:=fun _ _ _=>rfl
def DL.own(k s:Nat):DL (.own k s) .ro:=fun _ _ _=>rfl
def LJ{α:Type}(l:List α):DL (um l) (um l):=by
 unfold um;split
 ·exact DL.nil
 exact DL.ro
def EvW(ml:Pa)(rt:Rt)(n:Nat):Prop:=(rt=.nil/\n=0)\/∃k,rt=.own k 7/\ml[k]?=some n
def Z1(Y:YT)(orc:UV)(ho5:orc 95 999999 []=.aJ 0 [])(ho7:orc 97 999999 []=.aJ 0 [])(ho1:orc 91 999999 []=.junk)(hs:∀d l,orc d 110 l=.gd false .junk)(hp:∀d l,orc d 111 l=.gd false .junk)
  (E:QQ)(mb:T5)(ml:Pa)(ms:Nat->LS)(mn:Nat)(g:Pg)(f:Int)(mid k3 k5:Nat)(q:Pl)(d:Int)(rte ce rti ci rL rD:Rt)(ev bl:List bC)(en:Int)(ids D:Pi)(L:List Sp)(past:List Ad)(Q:R0)
  (ate:∀d l,orc d 109 l=.sl .ro (past.map Vn))(atf:∀d l,orc d 108 l=.aS [.sl rL (L.map Qe),.sl rD (D.map Xa)])(h62:∀d l,orc d 67 l=.sl .ro (bl.map Qf))
  (afj:Pure Tryz.prog aD 109 [.sl ce (ev.map Zv),I en] (.sl .ro (past.map Vn)))
  (Z2:Pure Tryz.prog aD 108 [.agg (Qa q),.sl ci (ids.map Xa),I en,.sl .ro (past.map Vn)] (.aS [.sl rL (L.map Qe),.sl rD (D.map Xa)]))
  (XW:Pure Tryz.prog aD 67 [.agg (Qa q),.sl rL (L.map Qe),I en] (.sl .ro (bl.map Qf)))
  (hce:DL rte ce)(hci:DL rti ci)(hcL:DL rL rL)
  (h3:Abs.look E 3=.ptr k3 0)(Bh:k3<mb.length)(Ou:Qj mb k3=Qr g f mid)(h5:Abs.look E 5=.ptr k5 0)(hk5:k5<mb.length)(hr5:Qj mb k5=Qa q++[I d])
  (h8:Abs.look E 8=.sl rte (ev.map Zv))(axQ:EvW ml rte ev.length)(h9:Abs.look E 9=I en)(qv:Abs.look E 12=.sl rti (ids.map Xa))
  (gO:g.dr.length<=1000000)(CP:D.length<=1000000)(hl3:ev.length<=1000000)(hl4:bl.length<=10000000)
  (hQ:∀E' ex ls ke vd,Abs.look E' 6=.sl (.own ke 7) (ev.map Zv++bl.map Qf)->Abs.look E' 7=vd->gX mb.length ⟨mb++ex,ls,ms,mn⟩ vd ((dd (Kj (g.dr++D))).map Xa)->Q .ret ⟨Vy 103 E',⟨mb++ex,ls,ms,mn⟩⟩):
  vc Tryz.prog aD orc Y Ho ⟨Vy 103 E,⟨mb,ml,ms,mn⟩⟩ Q:=by
 have atg:=fun m d x=>hce m d x;have ath:=fun m d x=>hci m d x;have ati:=fun m d x=>hcL m d x;simp only[Qa,zzad,zzai]at hr5;simp only[Qa]at Z2 XW;have hR5:∀ex,Qj (mb++ex) k5=_:=fun ex=>(Qn hk5).trans hr5;have hw7:∀a∈ev,(Zv a).length=7:=fun _ _=>rfl;have axR:∀a∈bl,(Qf a).length=7:=fun _ _=>rfl;obtain⟨rfl,hn⟩|⟨k,rfl,hk⟩:=axQ
 ·have he:ev=[]:=zzbc hn;subst he;simp[Ho,h8,h9,qv,h5,hr5,atg,ath,ati,ate,atf,h62,ho1];refine⟨afj,Z2,XW,⟨axR,zE⟩,Hp Y orc ho5 ho7 hs hp _ mb _ ms mn g f mid k3 (.sl (.own ml.length 7) (bl.map Qf)) rD D Q (by simp[h3]) Bh Ou zd zd gO CP ?_⟩;intro E' ex vd q1 q2 q3;exact hQ E' ex _ ml.length vd (by rw[q1];rfl) q2 q3
 simp[Ho,h8,h9,qv,h5,hr5,atg,ath,ati,ate,atf,h62,hk];refine⟨afj,Z2,XW,⟨?_,zE⟩,Hp Y orc ho5 ho7 hs hp _ mb _ ms mn g f mid k3 (.sl (.own k 7) (ev.map Zv++bl.map Qf)) rD D Q (by simp[h3]) Bh Ou zd zd gO CP ?_⟩
 ·rintro row (⟨a,_,rfl⟩|⟨a,_,rfl⟩)<;>rfl
 intro E' ex vd q1 q2 q3;exact hQ E' ex _ k vd q1 q2 q3
open Go Go.Abs
def jZ(g:Pg)(b:QR)(e:En):Bool:=!zi b e.id&&!decide (e.id∈g.dr)
def Js(g:Pg)(b:QR)(l:List En):Pi:=(l.filter (jZ g b)).map (·.id)
def RA(g:Pg)(b:QR)(l:List En)(e:En):Js g b (l++[e])=Js g b l++(if jZ g b e then[e.id]else[]):=by
 unfold Js;rw[zzdi,zzcg];congr 1;cases h:jZ g b e<;>simp[h]
def j4(g:Pg)(b:QR)(l:List En):(Js g b l).length<=l.length:=by
 unfold Js;rw[zzbt];exact zzca _ _
def IdR(ml ls:Pa)(rt:Rt)(n:Nat):Prop:=(rt=.nil/\n=0/\ls=ml)\/(rt=.own ml.length 1/\n≠0/\ls=ml++[n])
def atj(g:Pg)(b:QR)(q:Pl)(mb:T5)(ml:Pa)(ms:Nat->LS)(mn:Nat)(s:Nat->AV)(m:AM):Prop:=
 ∃(i:Nat)(bx:T5)(rt:Rt)(ls:Pa),s 49=I i/\i<=q.ens.length/\m=⟨mb++bx,ls,ms,mn⟩/\s 12=.sl rt ((Js g b (q.ens.take i)).map Xa)/\IdR ml ls rt (Js g b (q.ens.take i)).length
def Z3(Y:YT)(orc:UV)(atk:orc 72 999999 []=.junk)(afk:orc 71 999999 []=.junk)
  (E:QQ)(mb:T5)(ml:Pa)(ms:Nat->LS)(mn:Nat)(g:Pg)(f:Int)(mid k3 k5:Nat)(b:QR)(q:Pl)(d:Int)(Q:R0)
  (LK:∀d id,orc d 107 [.sl .ro (g.dr.map Xa),I id]=.bool (decide (id∈g.dr)))
  (h3:Abs.look E 3=.ptr k3 0)(Bh:k3<mb.length)(Ou:Qj mb k3=Qr g f mid)(h5:Abs.look E 5=.ptr k5 0)(hk5:k5<mb.length)(hr5:Qj mb k5=Qa q++[I d])(hb:fS mb mid b)
  (gO:g.dr.length<=1000000)(CP:q.ens.length<=1000000)
  (hQ:∀E' ex rt ls,(∀k,k≠12->k<14->Abs.look E' k=Abs.look E k)->Abs.look E' 12=.sl rt ((Js g b q.ens).map Xa)->IdR ml ls rt (Js g b q.ens).length->vc Tryz.prog aD orc Y Ho ⟨Vy 103 E',⟨mb++ex,ls,ms,mn⟩⟩ Q):
  vc Tryz.prog aD orc Y Oq ⟨Vy 103 E,⟨mb,ml,ms,mn⟩⟩ Q:=by
 simp only[Qr,Qh,Qa,zzad,zzai]at Ou hr5;have hR3:∀ex,Qj (mb++ex) k3=_:=fun ex=>(Qn Bh).trans Ou;have hR5:∀ex,Qj (mb++ex) k5=_:=fun ex=>(Qn hk5).trans hr5;have hRm:∀ex,Qj (mb++ex) mid=[.aJ 0 (bG .bool b)]:=hb.ext;have hk:∀id,Pure Tryz.prog aD 107 [.sl .ro (g.dr.map Xa),I id] (.bool (decide (id∈g.dr))):=fun id=>jX g.dr id zE;simp[Oq,h5,hr5];refine Qk oy (atj g b q mb ml ms mn) (fun s _=>q.ens.length-(numOf (s 49)).toNat) ?_ ?_
 ·exact⟨0,[],.nil,ml,zd,zE,zd,by simp[Js],.inl ⟨rfl,by simp[Js],rfl⟩⟩
 rintro s m ⟨i,bx,rt,ls,h49,hi,rfl,qv,aX⟩;rcases zzaa i q.ens.length with ai|bn
 ·obtain⟨x,hx⟩:=aV ai;have ah:Qj (q.ens.map Qd) i=Qd x:=Qu (by simp[hx]);have aa:(i:Int)<(q.ens.length:Int):=zE
  have hw:=bO i zE;have bA:q.ens.take (i+1)=q.ens.take i++[x]:=by rw[zzax,hx];rfl
  have FT:Js g b (q.ens.take (i+1))=Js g b (q.ens.take i)++(if jZ g b x then[x.id]else[]):=by rw[bA,RA]
  have jb:=j4 g b (q.ens.take i);rw[zzaq]at jb;have skip:jZ g b x=false->Js g b (q.ens.take (i+1))=Js g b (q.ens.take i):=fun h=>by rw[FT,h];simp
  have more:jZ g b x=true->Js g b (q.ens.take (i+1))=Js g b (q.ens.take i)++[x.id]:=fun h=>by rw[FT,h];simp
  generalize Js g b (q.ens.take i)=O at*
  generalize cQ:Js g b (q.ens.take (i+1))=O' at*
  have ru:∀a∈O,(Xa a).length=1:=fun _ _=>rfl;rcases Xx AV.bool x.id b 0 with⟨b1,b2,_⟩|⟨u,u',b1,b2,_⟩
  ·by_cases fu:x.id∈g.dr
   ·have e1:=skip (by simp[jZ,fu]);simp[h49,aa,ah,Qd,oy,hw,h3,hR3,hRm,b2,fu,LK,qv];refine⟨by simpa[fu]using hk x.id,aQ,⟨i+1,_,rt,ls,zd,zE,rfl,by rw[cQ,e1];simp,by rw[cQ,e1];exact aX⟩,zE⟩
   have e1:=more (by simp[jZ,fu,zi,b1]);obtain⟨rfl,hn,rfl⟩|⟨rfl,hn,rfl⟩:=aX
   ·have hO:O=[]:=zzbc hn;subst hO;simp[h49,aa,ah,Qd,oy,hw,h3,hR3,hRm,b2,fu,LK,qv,atk,afk];refine⟨by simpa[fu]using hk x.id,aQ,⟨i+1,_,_,_,zd,zE,rfl,by rw[cQ,e1];simp[Xa];rfl,by rw[cQ,e1];exact .inr ⟨rfl,zd,zd⟩⟩,zE⟩
   simp[h49,aa,ah,Qd,oy,hw,h3,hR3,hRm,b2,fu,LK,qv,afk];refine⟨by simpa[fu]using hk x.id,⟨?_,zE⟩,aQ,⟨i+1,_,_,_,zd,zE,rfl,by rw[cQ,e1];simp[Xa];rfl,by rw[cQ,e1];exact .inr ⟨rfl,zd,zd⟩⟩,zE⟩
   ·rintro row (⟨a,_,rfl⟩|rfl)<;>rfl
  cases u with
  |true=>
   have e1:=skip (by simp[jZ,zi,b1]);simp[h49,aa,ah,Qd,oy,hw,h3,hR3,hRm,b2,LK,qv];refine⟨aQ,⟨i+1,_,rt,ls,zd,zE,rfl,by rw[cQ,e1];simp,by rw[cQ,e1];exact aX⟩,zE⟩
  |false=>
   by_cases fu:x.id∈g.dr
   ·have e1:=skip (by simp[jZ,fu]);simp[h49,aa,ah,Qd,oy,hw,h3,hR3,hRm,b2,fu,LK,qv];refine⟨by simpa[fu]using hk x.id,aQ,⟨i+1,_,rt,ls,zd,zE,rfl,by rw[cQ,e1];simp,by rw[cQ,e1];exact aX⟩,zE⟩
   have e1:=more (by simp[jZ,fu,zi,b1]);obtain⟨rfl,hn,rfl⟩|⟨rfl,hn,rfl⟩:=aX
   ·have hO:O=[]:=zzbc hn;subst hO;simp[h49,aa,ah,Qd,oy,hw,h3,hR3,hRm,b2,fu,LK,qv,atk,afk];refine⟨by simpa[fu]using hk x.id,aQ,⟨i+1,_,_,_,zd,zE,rfl,by rw[cQ,e1];simp[Xa];rfl,by rw[cQ,e1];exact .inr ⟨rfl,zd,zd⟩⟩,zE⟩
   simp[h49,aa,ah,Qd,oy,hw,h3,hR3,hRm,b2,fu,LK,qv,afk];refine⟨by simpa[fu]using hk x.id,⟨?_,zE⟩,aQ,⟨i+1,_,_,_,zd,zE,rfl,by rw[cQ,e1];simp[Xa];rfl,by rw[cQ,e1];exact .inr ⟨rfl,zd,zd⟩⟩,zE⟩
   ·rintro row (⟨a,_,rfl⟩|rfl)<;>rfl
 have hbf:q.ens.take i=q.ens:=zzau bn;rw[hbf]at qv aX;have bQ:¬(i:Int)<(q.ens.length:Int):=zE
 simp[h49,bQ,oy];refine hQ _ _ rt ls (fun k h1 h2=>?_) (by simp[qv]) aX;have:k=0\/k=1\/k=2\/k=3\/k=4\/k=5\/k=6\/k=7\/k=8\/k=9\/k=10\/k=11\/k=13:=zE
 rcases this with rfl|rfl|rfl|rfl|rfl|rfl|rfl|rfl|rfl|rfl|rfl|rfl|rfl<;>simp
open Go Go.Abs
def iD(g:Pg)(f:Int)(b:QR)(o:Od)(q:Pl)(d:Int):Option bC:=match Jk g f b with
 |none=>none
 |some e=>match iC g f o q d e with
  |none=>none
  |some F=>if F=0 then none else some ⟨e.id,e.it,f,F,e.i+(f-e.st),rO q f e.it F q.rg.toNat,jY q f e.id F ((Zh e.id q.ens).getD yx).al,decide (jY q f e.id F ((Zh e.id q.ens).getD yx).al=[])⟩
def IG(e:bC):bC:={e with nl:=false}
def Uj(g:Pg)(f:Int)(b:QR)(o:Od)(q:Pl)(d:Int):List bC:=(Vu f g.ev).map IG++(iD g f b o q d).toList
def Jh(g:Pg)(f:Int)(b:QR)(o:Od)(q:Pl)(d:Int):Int:=match iD g f b o q d with
 |none=>f
 |some e=>f+e.fr
def p9(g:Pg)(f:Int)(b:QR)(o:Od)(q:Pl)(d:Int):List Ad:=Rr (Uj g f b o q d) (Jh g f b o q d)
def mN(g:Pg)(f:Int)(b:QR)(o:Od)(q:Pl)(d:Int):List Bool:=Kw q (Jh g f b o q d) (p9 g f b o q d) (Js g b q.ens)
def Vv(g:Pg)(f:Int)(b:QR)(o:Od)(q:Pl)(d:Int):List Sp:=(Yu q (Jh g f b o q d) (p9 g f b o q d) (Xe true (Js g b q.ens) (mN g f b o q d))).getD []
def Hq(g:Pg)(f:Int)(b:QR)(o:Od)(q:Pl)(d:Int):Pi:=Xe false (Js g b q.ens) (mN g f b o q d)
def Hr(g:Pg)(f:Int)(b:QR)(o:Od)(q:Pl)(d:Int):List bC:=Bf q (Vv g f b o q d) (Jh g f b o q d)
def Hs(l:List Sp):IE l=.sl (um l) (l.map Qe):=by
 unfold IE um;split
 ·rename_i h;rw[h];rfl
 rfl
def afl(l:Pi):Ht l=.sl (um l) (l.map Xa):=by
 unfold Ht um;split
 ·rename_i h;rw[h];rfl
 rfl
def yH(l:List bC):(l.map IG).map Zv=l.map Qf:=by
 rw[zzcu];exact zzct fun e _=>rfl
def BB(l:List bC):(l.map IG).map Qf=l.map Qf:=by
 rw[zzcu];exact zzct fun e _=>rfl
def Ov(g:Pg)(past:List Ad)(L:List Sp)(D:Pi)(bl:List bC):UV:=fun dst fn l=>
 if fn=109 then .sl .ro (past.map Vn)else if fn=108 then .aS [.sl (um L) (L.map Qe),.sl (um D) (D.map Xa)]else if fn=67 then .sl .ro (bl.map Qf)
 else if fn=107 then(match l with|[_,.int _ id]=>.bool (decide (id∈g.dr))|_=>.junk)else if fn=999999 then(if dst=95\/dst=97 then .aJ 0 []else .junk)else .gd false .junk
structure Hu (g:Pg) (f:Int) (b:QR) (o:Od) (q:Pl) (d:Int):Prop where
 mo:lQ g f
 pl:Bs q
 pk:PlK q
 d0:0<=d/\d<=1000000000
 rg:0<=q.rg/\q.rg<=8
 f0:0<=f/\f<=1000000
 ev:g.ev.length<=2000
 dr:g.dr.length<=1000000
 ln:q.ln<=1000000
 cu:∀e,iD g f b o q d=some e->Jw e
 en:0<=Jh g f b o q d/\Jh g f b o q d<=1000000
 st:∀s∈Vv g f b o q d,-1000000000<=s.2/\s.2<=1000000000
def lq{g:Pg}{f:Int}{b:QR}{o:Od}{q:Pl}{d:Int}(h:Hu g f b o q d):(Uj g f b o q d).length<=2001/\∀e∈Uj g f b o q d,Jw e:=by
 have h1:=Qds f g.ev;have h2:=oc f h.f0.2 g.ev h.mo.2.1;refine⟨?_,fun e he=>?_⟩
 ·have:=h.ev;have h3:(iD g f b o q d).toList.length<=1:=by cases iD g f b o q d<;>simp
  simp only[Uj,zzak,zzbt];omega
 rcases zzam.1 he with he|he
 ·obtain⟨x,hx,rfl⟩:=zzbg.1 he;exact h2 x hx
 exact h.cu e (by cases hc:iD g f b o q d with
  |none=>rw[hc]at he;simp at he
  |some x=>rw[hc]at he;simp at he;rw[he])
def Z4{g:Pg}{f:Int}{b:QR}{o:Od}{q:Pl}{d:Int}(h:Hu g f b o q d):(p9 g f b o q d).length<=2001:=by
 have h1:=Hg (Vu (Jh g f b o q d) (Uj g f b o q d)) none [];have h2:=Qds (Jh g f b o q d) (Uj g f b o q d);have h3:=(lq h).1;simp only[zzco]at h1;unfold p9 Rr;omega
def afm{g:Pg}{f:Int}{b:QR}{o:Od}{q:Pl}{d:Int}(h:Hu g f b o q d)(ce:Rt):Pure Tryz.prog aD 109 [.sl ce ((Uj g f b o q d).map Zv),I (Jh g f b o q d)] (.sl .ro ((p9 g f b o q d).map Vn)):=
 Xp (LF (Uj g f b o q d) (Jh g f b o q d) (by have:=(lq h).1;omega) (lq h).2 h.en) ⟨Wk.trans (Wk.sl _ _) (KT _),Ps,trivial⟩
def afn{g:Pg}{f:Int}{b:QR}{o:Od}{q:Pl}{d:Int}(h:Hu g f b o q d)(ci:Rt):
  Pure Tryz.prog aD 108 [.agg (Qa q),.sl ci ((Js g b q.ens).map Xa),I (Jh g f b o q d),.sl .ro ((p9 g f b o q d).map Vn)] (.aS [.sl (um (Vv g f b o q d)) ((Vv g f b o q d).map Qe),.sl (um (Hq g f b o q d)) ((Hq g f b o q d).map Xa)]):=by
 have h1:=j4 g b q.ens;have h2:=h.pk.ens;have h3:=h.en;have:=Z5 h.pk (at_:=Jh g f b o q d) (by unfold amz;omega) (past:=p9 g f b o q d) (by have:=Z4 h;omega) (ids:=Js g b q.ens) zE;rw[RB,Hs,afl]at this;exact Xp this ⟨Ps,Wk.sl _ _,Ps,Ps,trivial⟩
def amA{g:Pg}{f:Int}{b:QR}{o:Od}{q:Pl}{d:Int}(h:Hu g f b o q d)(hl:(Vv g f b o q d).length<=1000000)(rL:Rt):
  Pure Tryz.prog aD 67 [.agg (Qa q),.sl rL ((Vv g f b o q d).map Qe),I (Jh g f b o q d)] (.sl .ro ((Hr g f b o q d).map Qf)):=by
 obtain⟨q1,q2,q3,q4,q5,q6⟩:=h.pl;exact Xp (sU q (Vv g f b o q d) (Jh g f b o q d) zE zE zE zE q6 h.ln hl h.st) ⟨Ps,Wk.sl _ _,Ps,trivial⟩
open Go Go.Abs
def DM(ex gH:T5)(a b c X:P2):Qj (a::b::c::(ex++(gH++[X]))) (ex.length+(gH.length+3))=X:=by
 refine Qu ?_;have:a::b::c::(ex++(gH++[X]))=([a,b,c]++ex++gH)++[X]:=zd
 rw[this,zzap (by simp;omega),show ex.length+(gH.length+3)-([a,b,c]++ex++gH).length=0 by simp;omega];rfl
def EvW.more{ml:Pa}{rt:Rt}{n:Nat}(h:EvW ml rt n)(x:Pa):EvW (ml++x) rt n:=by
 obtain h|⟨k,h1,h2⟩:=h
 ·exact .inl h
 exact .inr ⟨k,h1,by rw[zzaj (zza.1 h2).1];exact h2⟩
def EvW.cv{ml:Pa}{rt:Rt}{n:Nat}(h:EvW ml rt n):∃ce,DL rt ce:=by
 obtain⟨rfl,_⟩|⟨k,rfl,_⟩:=h
 ·exact⟨_,DL.nil⟩
 exact⟨_,DL.own _ _⟩
def IdR.cv{ml ls:Pa}{rt:Rt}{n:Nat}(h:IdR ml ls rt n):∃ci,DL rt ci:=by
 obtain⟨rfl,_⟩|⟨rfl,_⟩:=h
 ·exact⟨_,DL.nil⟩
 exact⟨_,DL.own _ _⟩
def IdR.ls{ml ls:Pa}{rt:Rt}{n:Nat}(h:IdR ml ls rt n):∃x,ls=ml++x:=by
 obtain⟨_,_,rfl⟩|⟨_,_,rfl⟩:=h
 ·exact⟨[],zd⟩
 exact⟨_,rfl⟩
def RC(Y:YT)(m:AM)(g:Pg)(f:Int)(mid:Nat)(b:QR)(o:Od)(q:Pl)(d:Int)(h:Hu g f b o q d)(hb:fS m.boxes mid b)
  (iE:(Vv g f b o q d).length<=1000000)(eR:(Hr g f b o q d).length<=10000000)(K:So)
  (
   hK:∀ex ls ke vd,gX m.boxes.length ⟨m.boxes++ex,ls,m.st,m.ln⟩ vd ((dd (Kj (g.dr++Hq g f b o q d))).map Xa)->
   K (.aS [.sl (.own ke 7) ((Uj g f b o q d).map Zv++(Hr g f b o q d).map Qf),vd]) ⟨m.boxes++ex,ls,m.st,m.ln⟩):
  aB Tryz.prog aD Y 53 [.agg (Qr g f mid),.agg (Qq o),.agg (Qa q++[I d])] m K:=by
 obtain⟨mb,ml,ms,mn⟩:=m;have hB:∀ex,fS (mb++ex) mid b:=fun ex=>⟨by have:=hb.1;simp at this |-;omega,hb.ext ex⟩;have afj:=fun ce=>afm h ce;have Z2:=fun ci=>afn h ci;have XW:=fun rL=>amA h iE rL
 have hdl:(Hq g f b o q d).length<=1000000:=by
  have h1:=qb false (Js g b q.ens) (mN g f b o q d);have h2:=j4 g b q.ens;have h3:=h.pk.ens;unfold Hq;omega
 have bV:=(lq h).1;have hL:∀ev,Uj g f b o q d=ev->ev.length<=2001:=fun ev he=>by rw[<- he];exact bV
 generalize hpast:p9 g f b o q d=past at*
 generalize hstart:Vv g f b o q d=L at*
 generalize hdrop:Hq g f b o q d=D at*
 generalize hbld:Hr g f b o q d=bl at*
 have tail:∀(E:QQ)(X:T5)(ls:Pa)(rte:Rt)(Q:R0),Abs.look E 3=.ptr mb.length 0->Qj (mb++X) mb.length=Qr g f mid->2<X.length->
   Abs.look E 5=.ptr (mb.length+2) 0->Qj (mb++X) (mb.length+2)=Qa q++[I d]->Abs.look E 8=.sl rte ((Uj g f b o q d).map Zv)->EvW ls rte (Uj g f b o q d).length->Abs.look E 9=I (Jh g f b o q d)->
   (∀E' ex LM ke vd,Abs.look E' 6=.sl (.own ke 7) ((Uj g f b o q d).map Zv++bl.map Qf)->Abs.look E' 7=vd->gX mb.length ⟨mb++ex,LM,ms,mn⟩ vd ((dd (Kj (g.dr++D))).map Xa)->Q .ret ⟨Vy 103 E',⟨mb++ex,LM,ms,mn⟩⟩)->
   vc Tryz.prog aD (Ov g past L D bl) Y Oq ⟨Vy 103 E,⟨mb++X,ls,ms,mn⟩⟩ Q:=by
  intro E X ls rte Q e3 r3 hX e5 r5 e8 hw e9 hQ;refine Z3 Y _ (by simp[Ov]) (by simp[Ov]) E (mb++X) ls ms mn g f mid mb.length (mb.length+2) b q d Q (fun d id=>by simp[Ov]) e3 (by simp;omega) r3 e5 (by simp;omega) r5 (hB X) h.dr (by have:=h.pk.ens;omega) ?_;intro E' ex rt LM hE qv aL;obtain⟨ci,hci⟩:=aL.cv;obtain⟨ce,hce⟩:=hw.cv;obtain⟨x,rfl⟩:=aL.ls
  refine Z1 Y _ (by simp[Ov]) (by simp[Ov]) (by simp[Ov]) (fun _ _=>by simp[Ov]) (fun _ _=>by simp[Ov]) E' (mb++X++ex) (ls++x) ms mn g f mid mb.length (mb.length+2) q d rte ce rt ci (um L) (um D) (Uj g f b o q d) bl (Jh g f b o q d) (Js g b q.ens) D L past Q
   (fun _ _=>by simp[Ov]) (fun _ _=>by simp[Ov]) (fun _ _=>by simp[Ov]) (afj ce) (Z2 ci) (XW _) hce hci (LJ L)
   ((hE 3 zE zE).trans e3) (by simp;omega) ((Qn (by simp;omega)).trans r3) ((hE 5 zE zE).trans e5) (by simp;omega) ((Qn (by simp;omega)).trans r5)
   ((hE 8 zE zE).trans e8) (hw.more x) ((hE 9 zE zE).trans e9) qv h.dr hdl zE eR ?_
  intro E2 gH ls2 ke vd q1 q2 q3;replace q3:=q3.mono (n':=mb.length) zd;rw[zzbe,zzbe]at q3 |-
  exact hQ E2 _ ls2 ke vd q1 q2 q3
 obtain⟨hm,uu,E7,hd0,NW,hf0,ayU,fu,dG,sk,Iv,bZ⟩:=h;refine Xn ajT (Ov g past L D bl) zd ?_;rw[afi];simp[atd,aoy,Qr,Qh,Qa,Qq,Qd,Qg,Qi,Ov];refine yB Y _ g.ev f zE hm.2.1 hf0 _ fun ex v ls hO=>?_;simp;have hbr:∀l:List bC,∀a∈l,(Qf a).length=7:=fun _ _ _=>rfl;have ayV:(Vu f g.ev).length<=2000:=by have:=Qds f g.ev;omega
 refine ae3 Y _ g f mid b o q (.sl .ro (q.ens.map Qd)) .ro d (.inl ⟨.ro,rfl,DD.ro⟩) DD.ro hm (hB _) uu hd0 NW _ (fun e F he hF qw gH ls2 v2 Ge=>?_) (fun hn gH=>?_)
 ·have cE:iD g f b o q d=some ⟨e.id,e.it,f,F,e.i+(f-e.st),rO q f e.it F q.rg.toNat,jY q f e.id F ((Zh e.id q.ens).getD yx).al,decide (jY q f e.id F ((Zh e.id q.ens).getD yx).al=[])⟩:=by
   unfold iD;rw[he];simp only;rw[hF];simp only;rw[if_neg qw]
  have he1:Jh g f b o q d=f+F:=by unfold Jh;rw[cE]
  have hw:IntKind.i64.wrap (f+F)=f+F:=by rw[Ql]<;>omega
  have fk:(Uj g f b o q d).map Zv=(Vu f g.ev).map Qf++[[I e.id,I e.it,I f,I F,I (e.i+(f-e.st)),I (rO q f e.it F q.rg.toNat),.sl (if jY q f e.id F ((Zh e.id q.ens).getD yx).al=[]then .nil else .ro) ((jY q f e.id F ((Zh e.id q.ens).getD yx).al).map Qe)]]:=by
   unfold Uj;rw[cE,zzcg,yH];simp[Zv]
  have amB:(Uj g f b o q d).length=(Vu f g.ev).length+1:=by
   unfold Uj;rw[cE];simp
  rw[fk,amB,he1]at tail;rw[fk]at hK;generalize jY q f e.id F ((Zh e.id q.ens).getD yx).al=A at*
  obtain⟨rfl,rfl,rfl⟩|⟨hA,rfl,rfl⟩:=Ge
  ·obtain⟨h0,rfl,rfl⟩|⟨h0,rfl,rfl⟩:=hO
   ·rw[h0]at tail hK;simp[zzan,hw,DM ex gH];refine tail _ _ _ _ _ zd (by simp[Qr,Qh,Qa]) zd zd (by simp[Qa]) (by simp;rfl) (.inr ⟨_,rfl,zd⟩) zd ?_;intro E' iK LM ke vd q1 q2 q3;have:=hK iK LM ke vd q3;simp[q1,q2]at this |-
    exact this
   skip
   simp[zzan,hw,DM ex gH];refine⟨⟨by rintro row (⟨a,_,rfl⟩|rfl)<;>rfl,zE⟩,tail _ _ _ _ _ zd (by simp[Qr,Qh,Qa]) zd zd (by simp[Qa]) (by simp;rfl) (.inr ⟨_,rfl,zd⟩) zd ?_⟩;intro E' iK LM ke vd q1 q2 q3;have:=hK iK LM ke vd q3;simp[q1,q2]at this |-
   exact this
  obtain⟨h0,rfl,rfl⟩|⟨h0,rfl,rfl⟩:=hO
  ·rw[h0]at tail hK;simp[zzan,hw,DM ex gH];refine tail _ _ _ (.own (ls.length+1) 7) _ zd (by simp[Qr,Qh,Qa]) zd zd (by simp[Qa]) (by simp[hA]) (.inr ⟨_,rfl,zd⟩) zd ?_;intro E' iK LM ke vd q1 q2 q3;have:=hK iK LM ke vd q3;simp[q1,q2]at this |-
   exact this
  skip
  simp[zzan,hw,DM ex gH];refine⟨⟨by rintro row (⟨a,_,rfl⟩|rfl)<;>rfl,zE⟩,tail _ _ _ (.own ml.length 7) _ zd (by simp[Qr,Qh,Qa]) zd zd (by simp[Qa]) (by simp[hA]) (.inr ⟨_,rfl,zd⟩) zd ?_⟩;intro E' iK LM ke vd q1 q2 q3;have:=hK iK LM ke vd q3;simp[q1,q2]at this |-
  exact this
 have cE:iD g f b o q d=none:=by
  unfold iD;cases hp:Jk g f b with
  |none=>rfl
  |some e=>
   rw[hp]at hn;simp only[zzcw]at hn;obtain hn|hn:=hn
   ·simp only[hn]
   simp only[hn,if_true]
 have he1:Jh g f b o q d=f:=by unfold Jh;rw[cE]
 have fk:(Uj g f b o q d).map Zv=(Vu f g.ev).map Qf:=by
  unfold Uj;rw[cE,zzcg,yH];simp
 have amB:(Uj g f b o q d).length=(Vu f g.ev).length:=by
  unfold Uj;rw[cE];simp
 rw[fk,amB,he1]at tail;rw[fk]at hK;obtain⟨h0,rfl,rfl⟩|⟨h0,rfl,rfl⟩:=hO
 ·rw[h0]at tail hK;simp[zzan,nV];refine tail _ _ _ .nil _ zd (by simp[Qr,Qh,Qa]) zd zd (by simp[Qa]) zd (.inl ⟨rfl,rfl⟩) zd ?_;intro E' iK LM ke vd q1 q2 q3;have:=hK iK LM ke vd q3;simp[q1,q2]at this |-
  exact this
 simp[zzan,nV];refine tail _ _ _ (.own ml.length 7) _ zd (by simp[Qr,Qh,Qa]) zd zd (by simp[Qa]) zd (.inr ⟨_,rfl,zd⟩) zd ?_;intro E' iK LM ke vd q1 q2 q3;have:=hK iK LM ke vd q3;simp[q1,q2]at this |-
 exact this
end
