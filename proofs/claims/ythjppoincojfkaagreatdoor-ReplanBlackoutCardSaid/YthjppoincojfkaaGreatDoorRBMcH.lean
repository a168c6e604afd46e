import Derived.Test.YthjppoincojfkaaGreatDoorRBScK
import Derived.Test.YthjppoincojfkaaGreatDoorRBMcG
set_option linter.all false
set_option maxRecDepth 100000
set_option maxHeartbeats 64000000
namespace Go.Proofs.YthjppoincojfkaaGreatDoor
noncomputable section
open Go Go.Abs
def stF(ok:Pi->Bool)(rd:Int->Nat)(ids:Pi)(r:Nat):Nat->Nat->List Bool->List Bool
 |0,_,K=>K
 |n+1,i,K=>stF ok rd ids r n (i+1) (Jw ok rd ids r K i)
def RA(ok:Pi->Bool)(rd:Int->Nat)(ids:Pi)(r:Nat)(K:List Bool):Jc ok rd ids r K=stF ok rd ids r ids.length 0 K:=by
 have:∀(n i:Nat)(K:List Bool),(List.range' i n).foldl (Jw ok rd ids r) K=stF ok rd ids r n i K:=by
  intro n;induction n with
  |zero=>intro i K;rfl
  |succ n ih=>intro i K;rw[zzgq,zzcx,ih];rfl
 unfold Jc;rw[zzfo];exact this _ _ _
def ZU{ok:Pi->Bool}{rd:Int->Nat}{ids:Pi}{r:Nat}{K:List Bool}{i:Nat}{id:Int}(h:ids[i]?=some id):Jw ok rd ids r K i=if rd id=r then K.set i (ok (Xe true ids (K.set i true)))else K:=by
 unfold Jw;rw[h]
def chF(ok:Pi->Bool)(rd:Int->Nat)(ids:Pi):Nat->Nat->List Bool->List Bool
 |0,_,K=>K
 |n+1,r,K=>chF ok rd ids n (r+1) (Jc ok rd ids r K)
def yA(p:Pl)(ids:Pi):T5:=[Qa p,[.sl .ro (ids.map Xb)]]
def dh(E:T5)(n:Nat)(K:List Bool)(ex:T5):T5:=E++(K.map AV.bool::[.bs (E.length+12) 0 n 1]::ex)
def zb(p:Pl)(ids:Pi)(b:Bd)(E:T5)(K:List Bool)(ex:T5)(ls:Pa):AM:=aP (yA p ids) b (dh E ids.length K ex) ls
def lR(b:Bd)(rv:List (Int×(Rt×List Sp)))(li:List (Int×Int))(pm:List ((Int×Int)×List Sp)):Bd:={b with rv:=rv,li:=li,pm:=pm}
def ati(p:Pl)(ids:Pi)(b:Bd)(E:T5)(T:List Bool)(f:Nat->AV)(m:AM):Prop:=
 ∃(r:Nat)(K:List Bool)(rv:List (Int×(Rt×List Sp)))(li:List (Int×Int))(pm:List ((Int×Int)×List Sp))(ex:T5)(ls:Pa),f 36=I r/\r<=3/\K.length=ids.length/\chF (oq b) (RB p) ids (3-r) r K=T/\Bg (lR b rv li pm)/\m=zb p ids (lR b rv li pm) E K ex ls
def atj(p:Pl)(ids:Pi)(b:Bd)(E:T5)(r:Nat)(T:List Bool)(f:Nat->AV)(m:AM):Prop:=
 ∃(i:Nat)(K:List Bool)(rv:List (Int×(Rt×List Sp)))(li:List (Int×Int))(pm:List ((Int×Int)×List Sp))(ex:T5)(ls:Pa),f 41=I i/\i<=ids.length/\K.length=ids.length/\stF (oq b) (RB p) ids r (ids.length-i) i K=T/\Bg (lR b rv li pm)/\m=zb p ids (lR b rv li pm) E K ex ls
def axO(p:Pl)(ids:Pi)(b:Bd)(E:T5)(K:List Bool)(ex:T5)(ls:Pa)(S:Pi)(v:AV)(m:AM):Prop:=
 ∃(a:AV)(rv:List (Int×(Rt×List Sp)))(li:List (Int×Int))(pm:List ((Int×Int)×List Sp))(gG:T5)(exl:Pa),v=.aS [a,.bool (oq b S)]/\Bg (lR b rv li pm)/\m=zb p ids (lR b rv li pm) E K (ex++gG) (ls++exl)
def jW:UV:=fun d f _=>if f=999999 then(if d=34 then .aJ 0 []else .junk)else .gd false .junk
def ZV{p:Pl}{ids:Pi}(hi:ids.length<=1000)(b:Bd)(E:T5)(K:List Bool)(hk:K.length=ids.length)(ex:T5)(ls:Pa)(w:Bool)(Y:YT)(Q:So)
  (hQ:Q (.sl (rK ls.length (Xe w ids K)) ((Xe w ids K).map Xb)) (zb p ids b E K ex (ls++nZ (Xe w ids K)))):
  aB Tryz.prog aD Y 163 [.bool w,.ptr 1 0,.ptr (E.length+13) 0] (zb p ids b E K ex ls) Q:=by
 refine RC ids K w hi hk (zb p ids b E K ex ls) 1 (E.length+13) (E.length+12) ?_ ?_ ?_ ?_ ?_ ?_ Y Q hQ;all_goals simp[zb,aP,aW,yA,dh]
 all_goals omega
def qM(a:AV):∀n:Nat,bE n [a]=List.replicate n a
 |0=>rfl
 |n+1=>by rw[bE,qM a n];rfl
def ZW{p:Pl}(h:PlK p){at_:Int}(ha:amx at_){past:List Ad}(hp:past.length<=2500)(pre post:T5)(ls:Pa)(rv:List (Int×(Rt×List Sp)))(li:List (Int×Int))(pm:List ((Int×Int)×List Sp))(hB:Bg (lR (gH p at_ past) rv li pm))
  (S:Pi)(hS:S.length<=1000)(rt0:Rt)(Y:YT)(K:So)
  (
   hK:∀a rv li pm ex exl,Bg (lR (gH p at_ past) rv li pm)->((Yb p at_ past S=none/\a=.sl .nil [])\/∃l rt,Yb p at_ past S=some l/\Dh 2 ls.length (ls++exl) rt l/\a=.sl rt (l.map Qf))->
   K (.aS [a,.bool (oq (gH p at_ past) S)]) (aP pre (lR (gH p at_ past) rv li pm) (post++ex) (ls++exl))):
  aB Tryz.prog aD Y 114 [.ptr (pre.length+9) 0,.sl rt0 (S.map Xb)] (aP pre (lR (gH p at_ past) rv li pm) post ls) K:=by
 have FL:=h.spn;obtain⟨l1,l2,l3,l4,l5,l6,l7,l8,l9,l10⟩:=h;have hU:=ZX past;have hE:=ZY p past;refine Qej pre post ls (lR (gH p at_ past) rv li pm) S rt0 past.length zE zE (show p.cls.length<=1000000 by omega) (show p.sh.length<=1000000000 by omega) (show p.aM.length<=1000000000 by omega) (show p.ens.length<=1000000000 by omega) (show(Yy p).length<=1000000000 by omega) l7.2 (fun e he=>(l8 e he).2) ha.2 hU hE hB Y K (fun h0 rv li pm gG exl hB=>?_) (fun l h1 rv li pm gG exl Sb hB F4=>?_)
 ·have h0:Yb p at_ past S=none:=h0;have:=hK (.sl .nil []) rv li pm gG exl hB (.inl ⟨h0,rfl⟩);rw[uU,h0]at this;exact this
 have h1:Yb p at_ past S=some l:=h1;have:=hK (.sl Sb (l.map Qf)) rv li pm gG exl hB (.inr ⟨l,Sb,h1,F4,rfl⟩);rw[uU,h1]at this;exact this
def p7(w:Bool)(ids:Pi)(K:List Bool):(Xe w ids K).length<=ids.length:=(jX w ids K).length_le
def ZZ{p:Pl}(h:PlK p){at_:Int}(ha:amx at_){past:List Ad}(hp:past.length<=2500){ids:Pi}(hi:ids.length<=1000):
  Pure Tryz.prog aD 108 [.agg (Qa p),.sl .ro (ids.map Xb),I at_,.sl .ro (past.map Vi)] (RD p at_ past ids):=by
 have EX:=h;obtain⟨l1,l2,l3,l4,l5,l6,l7,l8,l9,l10⟩:=h;refine Qp abJ jW zd ?_;simp[My,Qa,jW];have k41:=fun K'=>xN (yA p ids) [] p at_ past .ro zE zE zE Y0 K';simp only[yA,Qa]at k41;refine k41 _ fun ex=>?_;clear k41;simp[jW,aP,aW,Qo,Qa];refine ZW EX ha hp (yA p ids) ex [] [] [] [] (amy p at_ past) ids hi .ro Y0 _ (fun a rv li pm gG exl hB hr=>?_);obtain⟨h0,rfl⟩|⟨l,rt,h1,hO,rfl⟩:=hr
 ·have bU:oq (gH p at_ past) ids=false:=by rw[uU,h0];rfl
  rw[bU];obtain⟨E,hE⟩:∃E,ex++gG=E:=⟨_,rfl⟩;rw[hE];simp[jW,aP,aW,Qo,yA,Qa,lR,gH];refine⟨zE,?_⟩;refine Qk BP (ati p ids (gH p at_ past) E (Ky p at_ past ids)) (fun f _=>(3-numOf (f 36)).toNat) ?_ ?_
  ·exact⟨0,List.replicate ids.length false,rv,li,pm,[],exl,zd,zE,zd,rfl,hB,by simp[zb,aP,aW,Qo,yA,dh,Qa,lR,gH,qM]⟩
  clear hB;rintro f m ⟨r,K,rv,li,pm,Dk,ls,h36,Om,hK,hT,hB,rfl⟩;rcases zzaa r 3 with rlt|rge
  ·have axP:(r:Int)<3:=zE
   have qX:=bO r zE;obtain⟨n,hn⟩:∃n,3-r=n+1:=⟨2-r,zE⟩;rw[hn,chF]at hT;obtain⟨T,hTr⟩:∃T,Jc (oq (gH p at_ past)) (RB p) ids r K=T:=⟨_,rfl⟩;rw[hTr]at hT;rw[RA]at hTr;simp[h36,rlt,axP,BP,zb,aP,aW,yA,dh,lR,gH];refine Qk IP (atj p ids (gH p at_ past) E r T) (fun f _=>ids.length-(numOf (f 41)).toNat) ?_ ?_
   ·exact⟨0,K,rv,li,pm,Dk,ls,zd,zE,hK,Nm hTr,hB,by simp[zb,aP,aW,yA,dh,lR,gH]⟩
   clear hTr hK hB;rintro g m ⟨i,K,rv,li,pm,Dk,ls,g41,iZ,hK,hTi,hB,rfl⟩;rcases zzaa i ids.length with ai|bn
   ·obtain⟨id,hx⟩:=aV ai;have ah:Qj (ids.map Xb) i=Xb id:=Qu (by simp[hx]);have aa:(i:Int)<(ids.length:Int):=zE
    have hw:=bO i zE;obtain⟨n2,zn⟩:∃n2,ids.length-i=n2+1:=⟨ids.length-i-1,zE⟩;have hn3:ids.length-(i+1)=n2:=zE
    rw[zn,stF,ZU hx]at hTi;simp[g41,ai,aa,ah,Xb,IP,zb,aP,aW,yA,dh,lR,gH,jW];refine afg (yA p ids) (dh E ids.length K Dk) ls (lR (gH p at_ past) rv li pm) id Y0 _ (fun exr=>?_);have hpb:(lR (gH p at_ past) rv li pm).p=p:=rfl;rw[hpb];by_cases iE:RB p id=r
    ·rw[if_pos iE]at hTi;have amz:((RB p id:Nat):Int)=(r:Int):=zE
     have hms:(K.map AV.bool).set i (.bool true)=(K.set i true).map AV.bool:=by rw[zzfi]
     simp[amz,aP,aW,yA,dh,lR,gH,jW];refine⟨ai,zE,?_⟩;rw[hms];obtain⟨S,hS⟩:∃S,Xe true ids (K.set i true)=S:=⟨_,rfl⟩;have hSl:S.length<=1000:=by have:=p7 true ids (K.set i true);rw[hS]at this;omega
     have hK2:(K.set i true).length=ids.length:=by simpa using hK
     rw[hS]at hTi;obtain⟨ok,atk⟩:∃ok,oq (gH p at_ past) S=ok:=⟨_,rfl⟩;rw[atk]at hTi
     refine WE rfl [(.sl (rK ls.length S) (S.map Xb),zb p ids (lR (gH p at_ past) rv li pm) E (K.set i true) (Dk++exr) (ls++nZ S))] (axO p ids (gH p at_ past) E (K.set i true) (Dk++exr) (ls++nZ S) S)
      ⟨(.aS [.sl .nil [],.bool (oq (gH p at_ past) S)],zb p ids (lR (gH p at_ past) rv li pm) E (K.set i true) ((Dk++exr)++[]) ((ls++nZ S)++[])),.sl .nil [],rv,li,pm,[],[],rfl,hB,rfl⟩ (fun v m' hv=>?_)
     obtain⟨a,rv2,sP,N1,QY,amA,rfl,A2,rfl⟩:=hv;rw[atk];simp[zb,aP,aW,yA,dh,lR,gH,jW,hw];rw[hms];have ayW:(K.map AV.bool).set i (.bool ok)=(K.set i ok).map AV.bool:=by rw[zzfi]
     refine⟨?_,?_,ai,zE,aQ,⟨i+1,K.set i ok,rv2,sP,N1,(Dk++exr)++QY,ls++nZ S++amA,zd,zE,Nm hK,by rw[hn3];exact hTi,A2,by simp[zb,aP,aW,yA,dh,lR,gH]⟩,by simp[g41];omega⟩
     ·refine ZV (p:=p) hi (lR (gH p at_ past) rv li pm) E (K.set i true) hK2 (Dk++exr) ls true Y0 _ ?_;rw[hS];exact⟨rfl,rfl⟩
     refine ZW EX ha hp (yA p ids) (dh E ids.length (K.set i true) (Dk++exr)) (ls++nZ S) rv li pm hB S hSl _ Y0 _ (fun a rv li pm ex exl hB _=>⟨a,rv,li,pm,ex,exl,rfl,hB,by simp[zb,dh];rfl⟩)
    rw[if_neg iE]at hTi;have amz:¬((RB p id:Nat):Int)=(r:Int):=zE
    simp[amz,aP,aW,yA,dh,lR,gH,jW,hw];refine⟨aQ,⟨i+1,K,rv,li,pm,Dk++exr,ls,zd,zE,hK,by rw[hn3];exact hTi,hB,by simp[zb,aP,aW,yA,dh,lR,gH]⟩,zE⟩
   have bP:¬(i:Int)<(ids.length:Int):=zE
   have hz:ids.length-i=0:=zE
   rw[hz,stF]at hTi;subst hTi;simp[g41,bP,zzbk.2 bn,IP,BP,h36,zb,aP,aW,yA,dh,lR,gH,qX];refine⟨aQ,⟨r+1,K,rv,li,pm,Dk,ls,zd,zE,hK,by rw[show 3-(r+1)=n by omega];exact hT,hB,by simp[zb,aP,aW,yA,dh,lR,gH]⟩,zE⟩
  have rin:¬(r:Int)<3:=zE
  obtain rfl:r=3:=zE
  have hT:K=Ky p at_ past ids:=hT;subst hT;obtain⟨ka,kb,kc⟩:=LC p at_ past ids;obtain⟨L,hL⟩:=zzcd.1 kb;simp[h36,BP,zb,aP,aW,yA,dh,lR,gH,jW];refine ZV (p:=p) hi (lR (gH p at_ past) rv li pm) E (Ky p at_ past ids) ka Dk ls true Y0 _ ?_;obtain⟨S,hS⟩:∃S,Xe true ids (Ky p at_ past ids)=S:=⟨_,rfl⟩;have hSl:S.length<=1000:=by have:=p7 true ids (Ky p at_ past ids);rw[hS]at this;omega
  have hr:RD p at_ past ids=.aS [Iw L,G4 (Xe false ids (Ky p at_ past ids))]:=by rw[RD,hL];rfl
  rw[hr];rw[hS]at hL |-
  simp[zb,aP,aW,yA,dh,lR,gH,jW];refine ZW EX ha hp (yA p ids) (dh E ids.length (Ky p at_ past ids) Dk) (ls++nZ S) rv li pm hB S hSl _ Y0 _ (fun a rv li pm QY amA hB hv=>?_);obtain⟨h0,_⟩|⟨l,rt,h1,hO,rfl⟩:=hv
  ·rw[hL]at h0;cases h0
  rw[hL]at h1;cases h1;simp[zb,aP,aW,yA,dh,lR,gH,jW];refine ZV (p:=p) hi (lR (gH p at_ past) rv li pm) E (Ky p at_ past ids) ka (Dk++QY) (ls++(nZ S++amA)) false Y0 _ ?_;obtain⟨D,hD⟩:∃D,Xe false ids (Ky p at_ past ids)=D:=⟨_,rfl⟩;rw[hD];by_cases hDe:D=[]
  ·subst hDe;obtain⟨rfl,rfl⟩|⟨k2,rfl,_,_,aN⟩:=hO
   ·simp[u9,Iw,G4,rK]
   simp[u9,Iw,G4,rK,aN]
  obtain⟨rfl,rfl⟩|⟨k2,rfl,_,_,aN⟩:=hO
  ·simp[u9,Iw,G4,rK,hDe]
  simp[u9,Iw,G4,rK,hDe,aN]
 have bU:oq (gH p at_ past) ids=true:=by rw[uU,h1];rfl
 obtain⟨dB,ef⟩:=RE p at_ past ids (by rw[h1];rfl);have hr:RD p at_ past ids=.aS [Iw l,.sl .nil []]:=by rw[RD,dB,ef,h1];rfl
 rw[bU,hr];obtain⟨rfl,rfl⟩|⟨k2,rfl,_,_,aN⟩:=hO
 ·simp[u9,Iw]
 simp[u9,Iw,aN]
open Go Go.Abs
def G5:SC:=(⟨_,by cbv⟩:JT [1,1,1,1,1,1,1,1] IF).1
def G6:SC:=(⟨_,fun _=>by cbv⟩:Fe [1,1] (oP [1,1,1,1,1,1] IF)).1 G5
def On:SC:=(⟨_,fun _=>by cbv⟩:Fe [1,1] (oP [1,1,1,1] IF)).1 G6
def atl:SC:=(⟨_,fun _=>by cbv⟩:Fe [1,1,1,1] IF).1 On
theorem afh:IF=atl:=rfl
def Kj(l:Pi):Pi:=l.mergeSort fun x y=>decide (x<=y)
def rM(l:Pi):(Kj l).length=l.length:=zzev l
def Oo(l:Pi):(l.map Xb).flatten=aj l:=by
 induction l with
 |nil=>rfl
 |cons a r ih=>simp only[zzaz,zzci,ih];rfl
def ug{α:Type}(l:List α):Rt:=if l=[]then .nil else .ro
def ai0:∀{l:Pi},l≠[]->dd l≠[]
 |[],h=>absurd rfl h
 |[x],_=>by simp[dd]
 |x::y::r,_=>by
  rw[FE];split
  ·exact ai0 zd
  simp
def gU(n:Nat)(m:AM)(V:AV)(rows:T5):Prop:=Qx V=true/\∀m':AM,m.boxes.length<=m'.boxes.length->(∀j,n<=j->j<m.boxes.length->Qj m'.boxes j=Qj m.boxes j)->∀d,bz m' (d+2) V=.sl (ug rows) rows
def gU.mono{n n':Nat}{m:AM}{V:AV}{rows:T5}(h:gU n m V rows)(hn:n'<=n):gU n' m V rows:=⟨h.1,fun m' h1 h2 d=>h.2 m' h1 (fun j q1 q2=>h2 j zE q2) d⟩
def Z0(Y:YT)(m:AM)(rt:Rt)(K:So)(hK:K (.sl rt []) m):aB Tryz.prog aD Y 111 [.sl rt []] m K:=by
 obtain⟨mb,ml,ms,mn⟩:=m;refine Xn BQ (fun _ _ _=>.junk) zd ?_;simp[va,Ac];exact hK
def bB.pre{id:Nat}{mb X B':T5}(h:bB (·=id) (mb++X) B')(aL:mb.length<=id):∃ex,B'=mb++ex:=by
 refine⟨B'.drop mb.length,?_⟩;apply zzcz;intro j;have hl:=h.1;simp only[zzak]at hl;rcases zzaa j mb.length with hj|hj
 ·rw[zzaj hj];have:=h.2 j (by simp;omega) zE;rw[Jh zE,this,Jh hj,Qn hj]
 rw[zzao hj,zzbl];congr 1;omega
def gU.ints{B:T5}{L:Pa}{st:Nat->LS}{n k id:Nat}{l:Pi}{c:P2}(hk:k<=id)(aL:id<B.length)(hB:Qj B id=aj l++c)(hc:Zl c=true)(aN:l≠[]):gU k ⟨B,L,st,n⟩ (.bs id 0 l.length 1) (l.map Xb):=by
 have aX:ug (l.map Xb)=.ro:=by unfold ug;rw[if_neg (Nm aN)]
 rw[gU,aX];refine⟨rfl,fun m' h1 h2 d=>?_⟩;have hr:=h2 id hk aL;simp only at hr h1
 have bU:Zl (aj l++c)=true:=by
  have:=WX l;unfold Zl at this hc |-
  rw[zzff,this,hc];rfl
 rw[Wf,Ya];rw[hr,hB,Va _ _ bU,if_pos (by rw[zzak,Uf];omega),zzd,wQ];rfl
def G7(Y:YT)(orc:UV)(ho5:orc 95 999999 []=.aJ 0 [])(ho7:orc 97 999999 []=.aJ 0 [])(hs:∀d l,orc d 110 l=.gd false .junk)(hp:∀d l,orc d 111 l=.gd false .junk)
  (E:QQ)(mb:T5)(ml:Pa)(ms:Nat->LS)(mn:Nat)(g:Pg)(f:Int)(mid k3:Nat)(V8:AV)(rD:Rt)(D:Pi)(Q:R0)
  (h3:Abs.look E 3=.ptr k3 0)(Bb:k3<mb.length)(Om:Qj mb k3=Qr g f mid)(h8:Abs.look E 8=V8)(KC:Abs.look E 16=.sl rD (D.map Xb))(gM:g.dr.length<=1000000)(CK:D.length<=1000000)
  (hQ:∀E' ex vd,Abs.look E' 6=V8->Abs.look E' 7=vd->gU mb.length ⟨mb++ex,ml,ms,mn⟩ vd ((dd (Kj (g.dr++D))).map Xb)->Q .ret ⟨Vw 103 E',⟨mb++ex,ml,ms,mn⟩⟩):
  vc Tryz.prog aD orc Y G5 ⟨Vw 103 E,⟨mb,ml,ms,mn⟩⟩ Q:=by
 simp only[Qr,Qg,Qa,zzae,zzai]at Om
 have fin:∀(X:T5)(id:Nat)(K:AV->AV->AM->Prop),mb.length<=id->id<(mb++X).length->Qj (mb++X) id=aj (g.dr++D)->g.dr++D≠[]->
   (∀ex vd,gU mb.length ⟨mb++ex,ml,ms,mn⟩ vd ((dd (Kj (g.dr++D))).map Xb)->K (.aS []) vd ⟨mb++ex,ml,ms,mn⟩)->
   aB Tryz.prog aD Y 110 [.bs id 0 (g.dr++D).length 1] ⟨mb++X,ml,ms,mn⟩ (fun r0 m'=>aB Tryz.prog aD Y 111 [.bs id 0 (g.dr++D).length 1] m' (K r0)):=by
  intro X id K cm ai ah aN hK;refine sF Y (g.dr++D) (by simp;omega) _ id [] (by rw[zzat];exact Kc ai ah) (by rw[zzat];intro h;have:=congrArg List.length h;rw[Uf]at this;exact aN (zzbd this)) _ ?_;have aH:(g.dr++D).length=(Kj (g.dr++D)).length:=(rM _).symm;rw[aH];have fI:Kj (g.dr++D)≠[]:=fun h=>aN (by have:=congrArg List.length h;rw[rM]at this;exact zzbd this);refine sD Y (Kj (g.dr++D)) (by rw[<- aH];simp;omega) _ _ _ _ id (Nm ai) fI ?_ _ ?_
  ·rw[zzat];exact Qu (by rw[zzbf ai];first|rfl|(rw[zzat];rfl))
  intro B' z nB eP _
  have bR:(mb++X).set id (aj (List.mergeSort (g.dr++D) fun x y=>decide (x<=y))++[])=mb++X.set (id-mb.length) (aj (List.mergeSort (g.dr++D) fun x y=>decide (x<=y))++[]):=by
   rw[zzdd _ _ cm]
  rw[bR]at nB;obtain⟨ex,rfl⟩:=bB.pre nB cm;refine hK ex _ ?_;have axQ:id<(mb++ex).length:=by have:=nB.1;simp at this ai |-;omega
  rw[nA]at eP;exact gU.ints cm axQ eP (WX z) (ai0 fI)
 have hR3:∀ex,Qj (mb++ex) k3=_:=fun ex=>(Qn Bb).trans Om;have hm5:mutO orc (some 95)=true:=by unfold mutO;simp[ho5]
 have hm7:mutO orc (some 97)=true:=by unfold mutO;simp[ho7]
 simp only[zzak]at fin;by_cases fk:g.dr=[]
 ·by_cases hD:D=[]
  ·simp[G5,h3,h8,KC,Om,fk,hD,hs,hp,ho5,ho7];refine pz _ _ _ _ ?_;refine Z0 _ _ _ _ ?_;have:=fun E' vd h1 h2 h3=>hQ E' [] vd h1 h2 h3;simp only[zzat]at this;refine this _ _ zd (by simp;rfl) ?_;rw[fk,hD];refine⟨rfl,fun m' h1 h2 d=>?_⟩;simp[Kj,dd,ug]
  have aN:g.dr++D≠[]:=by simp[hD]
  have gr:¬aj D=[]:=fun h=>hD (by have:=congrArg List.length h;rw[Uf]at this;exact zzbd this);rw[fk]at fin hQ aN;simp only[zzcn,zzbs,zzai]at fin hQ;have qX:∀a∈D,(Xb a).length=1:=fun _ _=>rfl;simp[G5,h3,h8,KC,Om,fk,hD,hs,hp,ho5,ho7,Oo,Uf];refine⟨⟨zE,qX⟩,fin [aj D] mb.length _ (zzab _) zd zd hD ?_⟩;intro ex vd hv;exact hQ _ _ _ zd zd hv
 have aN:g.dr++D≠[]:=by simp[fk]
 have gr:¬aj g.dr=[]:=fun h=>fk (by have:=congrArg List.length h;rw[Uf]at this;exact zzbd this);have qX:∀a∈D,(Xb a).length=1:=fun _ _=>rfl;have axR:∀a∈g.dr,(Xb a).length=1:=fun _ _=>rfl;have bA:List.take g.dr.length (aj g.dr)=aj g.dr:=zzas (by rw[Uf];exact zzab _);simp[G5,h3,h8,KC,Om,fk,hs,hp,ho5,Oo,Uf,gr,bA];refine⟨⟨zE,axR⟩,⟨zE,qX⟩,fin [[],aj g.dr++aj D] (mb.length+1) _ zE zd (by simp[nA]) aN ?_⟩;intro ex vd hv;exact hQ _ _ _ zd zd hv
open Go Go.Abs
def DG(rt yZ:Rt):Prop:=∀m d x,bz m (d+1) (.sl rt x)=.sl yZ x
def DG.ro:DG .ro .ro:=fun _ _ _=>rfl
def DG.nil:DG .nil .nil:=fun _ _ _=>rfl
def DG.own(k s:Nat):DG (.own k s) .ro:=fun _ _ _=>rfl
def LD{α:Type}(l:List α):DG (ug l) (ug l):=by
 unfold ug;split
 ·exact DG.nil
 exact DG.ro
def EvW(ml:Pa)(rt:Rt)(n:Nat):Prop:=(rt=.nil/\n=0)\/∃k,rt=.own k 7/\ml[k]?=some n
def Z1(Y:YT)(orc:UV)(ho5:orc 95 999999 []=.aJ 0 [])(ho7:orc 97 999999 []=.aJ 0 [])(ho1:orc 91 999999 []=.junk)(hs:∀d l,orc d 110 l=.gd false .junk)(hp:∀d l,orc d 111 l=.gd false .junk)
  (E:QQ)(mb:T5)(ml:Pa)(ms:Nat->LS)(mn:Nat)(g:Pg)(f:Int)(mid k3 k5:Nat)(q:Pl)(d:Int)(rte ce rti ci rL rD:Rt)(ev bl:List bF)(en:Int)(ids D:Pi)(L:List Sp)(past:List Ad)(Q:R0)
  (atm:∀d l,orc d 109 l=.sl .ro (past.map Vi))(atn:∀d l,orc d 108 l=.aS [.sl rL (L.map Qf),.sl rD (D.map Xb)])(h62:∀d l,orc d 67 l=.sl .ro (bl.map Qe))
  (afi:Pure Tryz.prog aD 109 [.sl ce (ev.map Zr),I en] (.sl .ro (past.map Vi)))
  (Z2:Pure Tryz.prog aD 108 [.agg (Qa q),.sl ci (ids.map Xb),I en,.sl .ro (past.map Vi)] (.aS [.sl rL (L.map Qf),.sl rD (D.map Xb)]))
  (Z3:Pure Tryz.prog aD 67 [.agg (Qa q),.sl rL (L.map Qf),I en] (.sl .ro (bl.map Qe)))
  (hce:DG rte ce)(hci:DG rti ci)(hcL:DG rL rL)
  (h3:Abs.look E 3=.ptr k3 0)(Bb:k3<mb.length)(Om:Qj mb k3=Qr g f mid)(h5:Abs.look E 5=.ptr k5 0)(hk5:k5<mb.length)(hr5:Qj mb k5=Qa q++[I d])
  (h8:Abs.look E 8=.sl rte (ev.map Zr))(axS:EvW ml rte ev.length)(h9:Abs.look E 9=I en)(ql:Abs.look E 12=.sl rti (ids.map Xb))
  (gM:g.dr.length<=1000000)(CK:D.length<=1000000)(hl3:ev.length<=1000000)(hl4:bl.length<=10000000)
  (hQ:∀E' ex ls ke vd,Abs.look E' 6=.sl (.own ke 7) (ev.map Zr++bl.map Qe)->Abs.look E' 7=vd->gU mb.length ⟨mb++ex,ls,ms,mn⟩ vd ((dd (Kj (g.dr++D))).map Xb)->Q .ret ⟨Vw 103 E',⟨mb++ex,ls,ms,mn⟩⟩):
  vc Tryz.prog aD orc Y G6 ⟨Vw 103 E,⟨mb,ml,ms,mn⟩⟩ Q:=by
 have ato:=fun m d x=>hce m d x;have atp:=fun m d x=>hci m d x;have atq:=fun m d x=>hcL m d x;simp only[Qa,zzae,zzai]at hr5;simp only[Qa]at Z2 Z3;have hR5:∀ex,Qj (mb++ex) k5=_:=fun ex=>(Qn hk5).trans hr5;have hw7:∀a∈ev,(Zr a).length=7:=fun _ _=>rfl;have axT:∀a∈bl,(Qe a).length=7:=fun _ _=>rfl;obtain⟨rfl,hn⟩|⟨k,rfl,hk⟩:=axS
 ·have he:ev=[]:=zzbd hn;subst he;simp[G6,h8,h9,ql,h5,hr5,ato,atp,atq,atm,atn,h62,ho1];refine⟨afi,Z2,Z3,⟨axT,zE⟩,G7 Y orc ho5 ho7 hs hp _ mb _ ms mn g f mid k3 (.sl (.own ml.length 7) (bl.map Qe)) rD D Q (by simp[h3]) Bb Om zd zd gM CK ?_⟩;intro E' ex vd q1 q2 q3;exact hQ E' ex _ ml.length vd (by rw[q1];rfl) q2 q3
 simp[G6,h8,h9,ql,h5,hr5,ato,atp,atq,atm,atn,h62,hk];refine⟨afi,Z2,Z3,⟨?_,zE⟩,G7 Y orc ho5 ho7 hs hp _ mb _ ms mn g f mid k3 (.sl (.own k 7) (ev.map Zr++bl.map Qe)) rD D Q (by simp[h3]) Bb Om zd zd gM CK ?_⟩
 ·rintro row (⟨a,_,rfl⟩|⟨a,_,rfl⟩)<;>rfl
 intro E' ex vd q1 q2 q3;exact hQ E' ex _ k vd q1 q2 q3
open Go Go.Abs
def jY(g:Pg)(b:QR)(e:En):Bool:=!za b e.id&&!decide (e.id∈g.dr)
def Jj(g:Pg)(b:QR)(l:List En):Pi:=(l.filter (jY g b)).map (·.id)
def RF(g:Pg)(b:QR)(l:List En)(e:En):Jj g b (l++[e])=Jj g b l++(if jY g b e then[e.id]else[]):=by
 unfold Jj;rw[zzdb,zzch];congr 1;cases h:jY g b e<;>simp[h]
def jZ(g:Pg)(b:QR)(l:List En):(Jj g b l).length<=l.length:=by
 unfold Jj;rw[zzbt];exact zzcb _ _
def IdR(ml ls:Pa)(rt:Rt)(n:Nat):Prop:=(rt=.nil/\n=0/\ls=ml)\/(rt=.own ml.length 1/\n≠0/\ls=ml++[n])
def atr(g:Pg)(b:QR)(q:Pl)(mb:T5)(ml:Pa)(ms:Nat->LS)(mn:Nat)(s:Nat->AV)(m:AM):Prop:=
 ∃(i:Nat)(bx:T5)(rt:Rt)(ls:Pa),s 49=I i/\i<=q.ens.length/\m=⟨mb++bx,ls,ms,mn⟩/\s 12=.sl rt ((Jj g b (q.ens.take i)).map Xb)/\IdR ml ls rt (Jj g b (q.ens.take i)).length
def Z4(Y:YT)(orc:UV)(att:orc 72 999999 []=.junk)(afj:orc 71 999999 []=.junk)
  (E:QQ)(mb:T5)(ml:Pa)(ms:Nat->LS)(mn:Nat)(g:Pg)(f:Int)(mid k3 k5:Nat)(b:QR)(q:Pl)(d:Int)(Q:R0)
  (LF:∀d id,orc d 107 [.sl .ro (g.dr.map Xb),I id]=.bool (decide (id∈g.dr)))
  (h3:Abs.look E 3=.ptr k3 0)(Bb:k3<mb.length)(Om:Qj mb k3=Qr g f mid)(h5:Abs.look E 5=.ptr k5 0)(hk5:k5<mb.length)(hr5:Qj mb k5=Qa q++[I d])(hb:fQ mb mid b)
  (gM:g.dr.length<=1000000)(CK:q.ens.length<=1000000)
  (hQ:∀E' ex rt ls,(∀k,k≠12->k<14->Abs.look E' k=Abs.look E k)->Abs.look E' 12=.sl rt ((Jj g b q.ens).map Xb)->IdR ml ls rt (Jj g b q.ens).length->vc Tryz.prog aD orc Y G6 ⟨Vw 103 E',⟨mb++ex,ls,ms,mn⟩⟩ Q):
  vc Tryz.prog aD orc Y On ⟨Vw 103 E,⟨mb,ml,ms,mn⟩⟩ Q:=by
 simp only[Qr,Qg,Qa,zzae,zzai]at Om hr5;have hR3:∀ex,Qj (mb++ex) k3=_:=fun ex=>(Qn Bb).trans Om;have hR5:∀ex,Qj (mb++ex) k5=_:=fun ex=>(Qn hk5).trans hr5;have hRm:∀ex,Qj (mb++ex) mid=[.aJ 0 (bG .bool b)]:=hb.ext;have hk:∀id,Pure Tryz.prog aD 107 [.sl .ro (g.dr.map Xb),I id] (.bool (decide (id∈g.dr))):=fun id=>jU g.dr id zE;simp[On,h5,hr5];refine Qk ot (atr g b q mb ml ms mn) (fun s _=>q.ens.length-(numOf (s 49)).toNat) ?_ ?_
 ·exact⟨0,[],.nil,ml,zd,zE,zd,by simp[Jj],.inl ⟨rfl,by simp[Jj],rfl⟩⟩
 rintro s m ⟨i,bx,rt,ls,h49,hi,rfl,ql,aX⟩;rcases zzaa i q.ens.length with ai|bn
 ·obtain⟨x,hx⟩:=aV ai;have ah:Qj (q.ens.map Qd) i=Qd x:=Qu (by simp[hx]);have aa:(i:Int)<(q.ens.length:Int):=zE
  have hw:=bO i zE;have bA:q.ens.take (i+1)=q.ens.take i++[x]:=by rw[zzax,hx];rfl
  have FL:Jj g b (q.ens.take (i+1))=Jj g b (q.ens.take i)++(if jY g b x then[x.id]else[]):=by rw[bA,RF]
  have iZ:=jZ g b (q.ens.take i);rw[zzap]at iZ;have skip:jY g b x=false->Jj g b (q.ens.take (i+1))=Jj g b (q.ens.take i):=fun h=>by rw[FL,h];simp
  have more:jY g b x=true->Jj g b (q.ens.take (i+1))=Jj g b (q.ens.take i)++[x.id]:=fun h=>by rw[FL,h];simp
  generalize Jj g b (q.ens.take i)=O at*
  generalize cO:Jj g b (q.ens.take (i+1))=O' at*
  have qX:∀a∈O,(Xb a).length=1:=fun _ _=>rfl;rcases Xy AV.bool x.id b 0 with⟨b1,b2,_⟩|⟨u,u',b1,b2,_⟩
  ·by_cases fk:x.id∈g.dr
   ·have e1:=skip (by simp[jY,fk]);simp[h49,aa,ah,Qd,ot,hw,h3,hR3,hRm,b2,fk,LF,ql];refine⟨by simpa[fk]using hk x.id,aQ,⟨i+1,_,rt,ls,zd,zE,rfl,by rw[cO,e1];simp,by rw[cO,e1];exact aX⟩,zE⟩
   have e1:=more (by simp[jY,fk,za,b1]);obtain⟨rfl,hn,rfl⟩|⟨rfl,hn,rfl⟩:=aX
   ·have hO:O=[]:=zzbd hn;subst hO;simp[h49,aa,ah,Qd,ot,hw,h3,hR3,hRm,b2,fk,LF,ql,att,afj];refine⟨by simpa[fk]using hk x.id,aQ,⟨i+1,_,_,_,zd,zE,rfl,by rw[cO,e1];simp[Xb];rfl,by rw[cO,e1];exact .inr ⟨rfl,zd,zd⟩⟩,zE⟩
   simp[h49,aa,ah,Qd,ot,hw,h3,hR3,hRm,b2,fk,LF,ql,afj];refine⟨by simpa[fk]using hk x.id,⟨?_,zE⟩,aQ,⟨i+1,_,_,_,zd,zE,rfl,by rw[cO,e1];simp[Xb];rfl,by rw[cO,e1];exact .inr ⟨rfl,zd,zd⟩⟩,zE⟩
   ·rintro row (⟨a,_,rfl⟩|rfl)<;>rfl
  cases u with
  |true=>
   have e1:=skip (by simp[jY,za,b1]);simp[h49,aa,ah,Qd,ot,hw,h3,hR3,hRm,b2,LF,ql];refine⟨aQ,⟨i+1,_,rt,ls,zd,zE,rfl,by rw[cO,e1];simp,by rw[cO,e1];exact aX⟩,zE⟩
  |false=>
   by_cases fk:x.id∈g.dr
   ·have e1:=skip (by simp[jY,fk]);simp[h49,aa,ah,Qd,ot,hw,h3,hR3,hRm,b2,fk,LF,ql];refine⟨by simpa[fk]using hk x.id,aQ,⟨i+1,_,rt,ls,zd,zE,rfl,by rw[cO,e1];simp,by rw[cO,e1];exact aX⟩,zE⟩
   have e1:=more (by simp[jY,fk,za,b1]);obtain⟨rfl,hn,rfl⟩|⟨rfl,hn,rfl⟩:=aX
   ·have hO:O=[]:=zzbd hn;subst hO;simp[h49,aa,ah,Qd,ot,hw,h3,hR3,hRm,b2,fk,LF,ql,att,afj];refine⟨by simpa[fk]using hk x.id,aQ,⟨i+1,_,_,_,zd,zE,rfl,by rw[cO,e1];simp[Xb];rfl,by rw[cO,e1];exact .inr ⟨rfl,zd,zd⟩⟩,zE⟩
   simp[h49,aa,ah,Qd,ot,hw,h3,hR3,hRm,b2,fk,LF,ql,afj];refine⟨by simpa[fk]using hk x.id,⟨?_,zE⟩,aQ,⟨i+1,_,_,_,zd,zE,rfl,by rw[cO,e1];simp[Xb];rfl,by rw[cO,e1];exact .inr ⟨rfl,zd,zd⟩⟩,zE⟩
   ·rintro row (⟨a,_,rfl⟩|rfl)<;>rfl
 have hbf:q.ens.take i=q.ens:=zzas bn;rw[hbf]at ql aX;have bP:¬(i:Int)<(q.ens.length:Int):=zE
 simp[h49,bP,ot];refine hQ _ _ rt ls (fun k h1 h2=>?_) (by simp[ql]) aX;have:k=0\/k=1\/k=2\/k=3\/k=4\/k=5\/k=6\/k=7\/k=8\/k=9\/k=10\/k=11\/k=13:=zE
 rcases this with rfl|rfl|rfl|rfl|rfl|rfl|rfl|rfl|rfl|rfl|rfl|rfl|rfl<;>simp
end
