import Derived.Test.YtnopaopphmjnmaaGreatDoorMQScK
import Derived.Test.YtnopaopphmjnmaaGreatDoorMQMcG
set_option linter.all false
set_option maxRecDepth 100000
set_option maxHeartbeats 64000000
namespace Go.Proofs.YtnopaopphmjnmaaGreatDoor
noncomputable section
open Go Go.Abs
def stF(ok:List Int->Bool)(rd:Int->Nat)(ids:List Int)(r:Nat):Nat->Nat->List Bool->List Bool
 |0,_,K=>K
 |n+1,i,K=>stF ok rd ids r n (i+1) (Kc ok rd ids r K i)
def S7(ok:List Int->Bool)(rd:Int->Nat)(ids:List Int)(r:Nat)(K:List Bool):Ji ok rd ids r K=stF ok rd ids r ids.length 0 K:=by
 have:∀(n i:Nat)(K:List Bool),(List.range' i n).foldl (Kc ok rd ids r) K=stF ok rd ids r n i K:=by
  intro n;induction n with
  |zero=>intro i K;rfl
  |succ n ih=>intro i K;rw[zzgx,zzd,ih];rfl
 unfold Ji;rw[zzfy];exact this _ _ _
def aaX{ok:List Int->Bool}{rd:Int->Nat}{ids:List Int}{r:Nat}{K:List Bool}{i:Nat}{id:Int}(h:ids[i]?=some id):Kc ok rd ids r K i=if rd id=r then K.set i (ok (Xe true ids (K.set i true)))else K:=by
 unfold Kc;rw[h]
def chF(ok:List Int->Bool)(rd:Int->Nat)(ids:List Int):Nat->Nat->List Bool->List Bool
 |0,_,K=>K
 |n+1,r,K=>chF ok rd ids n (r+1) (Ji ok rd ids r K)
def yT(p:Pl)(ids:List Int):List (List AV):=[Qa p,[.sl .ro (ids.map Qy)]]
def dh(E:List (List AV))(n:Nat)(K:List Bool)(ex:List (List AV)):List (List AV):=E++(K.map AV.bool::[.bs (E.length+12) 0 n 1]::ex)
def zC(p:Pl)(ids:List Int)(b:Bd)(E:List (List AV))(K:List Bool)(ex:List (List AV))(ls:List Nat):AM:=aR (yT p ids) b (dh E ids.length K ex) ls
def mh(b:Bd)(rv:List (Int×(Rt×List Sp)))(li:List (Int×Int))(pm:List ((Int×Int)×List Sp)):Bd:={b with rv:=rv,li:=li,pm:=pm}
def aue(p:Pl)(ids:List Int)(b:Bd)(E:List (List AV))(T:List Bool)(f:Nat->AV)(m:AM):Prop:=
 ∃(r:Nat)(K:List Bool)(rv:List (Int×(Rt×List Sp)))(li:List (Int×Int))(pm:List ((Int×Int)×List Sp))(ex:List (List AV))(ls:List Nat),f 36=I r/\r<=3/\K.length=ids.length/\chF (oH b) (S8 p) ids (3-r) r K=T/\BG (mh b rv li pm)/\m=zC p ids (mh b rv li pm) E K ex ls
def auf(p:Pl)(ids:List Int)(b:Bd)(E:List (List AV))(r:Nat)(T:List Bool)(f:Nat->AV)(m:AM):Prop:=
 ∃(i:Nat)(K:List Bool)(rv:List (Int×(Rt×List Sp)))(li:List (Int×Int))(pm:List ((Int×Int)×List Sp))(ex:List (List AV))(ls:List Nat),f 41=I i/\i<=ids.length/\K.length=ids.length/\stF (oH b) (S8 p) ids r (ids.length-i) i K=T/\BG (mh b rv li pm)/\m=zC p ids (mh b rv li pm) E K ex ls
def ayH(p:Pl)(ids:List Int)(b:Bd)(E:List (List AV))(K:List Bool)(ex:List (List AV))(ls:List Nat)(S:List Int)(v:AV)(m:AM):Prop:=
 ∃(a:AV)(rv:List (Int×(Rt×List Sp)))(li:List (Int×Int))(pm:List ((Int×Int)×List Sp))(eW:List (List AV))(exl:List Nat),v=.aZ [a,.bool (oH b S)]/\BG (mh b rv li pm)/\m=zC p ids (mh b rv li pm) E K (ex++eW) (ls++exl)
def ku:Nat->FuncId->List AV->AV:=fun d f _=>if f=999999 then(if d=34 then .aL 0 []else .junk)else .gd false .junk
def aaY{p:Pl}{ids:List Int}(hi:ids.length<=1000)(b:Bd)(E:List (List AV))(K:List Bool)(hk:K.length=ids.length)(ex:List (List AV))(ls:List Nat)(w:Bool)(Y:YT)(Q:AV->AM->Prop)
  (hQ:Q (.sl (sd ls.length (Xe w ids K)) ((Xe w ids K).map Qy)) (zC p ids b E K ex (ls++oy (Xe w ids K)))):
  an Tryz.prog aA Y 227 [.bool w,.ptr 1 0,.ptr (E.length+13) 0] (zC p ids b E K ex ls) Q:=by
 refine S9 ids K w hi hk (zC p ids b E K ex ls) 1 (E.length+13) (E.length+12) ?_ ?_ ?_ ?_ ?_ ?_ Y Q hQ;all_goals simp[zC,aR,aY,yT,dh]
 all_goals omega
def rE(a:AV):∀n:Nat,bK n [a]=List.replicate n a
 |0=>rfl
 |n+1=>by rw[bK,rE a n];rfl
def aaZ{p:Pl}(h:PlK p){at_:Int}(ha:aob at_){past:List Ad}(hp:past.length<=1000)(pre post:List (List AV))(ls:List Nat)(rv:List (Int×(Rt×List Sp)))(li:List (Int×Int))(pm:List ((Int×Int)×List Sp))(hB:BG (mh (gR p at_ past) rv li pm))
  (S:List Int)(hS:S.length<=1000)(rt0:Rt)(Y:YT)(K:AV->AM->Prop)
  (
   hK:∀a rv li pm ex exl,BG (mh (gR p at_ past) rv li pm)->((Yu p at_ past S=none/\a=.sl .nil [])\/∃l rt,Yu p at_ past S=some l/\DQ 2 ls.length (ls++exl) rt l/\a=.sl rt (l.map Qf))->
   K (.aZ [a,.bool (oH (gR p at_ past) S)]) (aR pre (mh (gR p at_ past) rv li pm) (post++ex) (ls++exl))):
  an Tryz.prog aA Y 122 [.ptr (pre.length+9) 0,.sl rt0 (S.map Qy)] (aR pre (mh (gR p at_ past) rv li pm) post ls) K:=by
 have mR:=h.spn;obtain⟨l1,l2,l3,l4,l5,l6,l7,l8,l9,l10⟩:=h;have hU:=aa0 past;have hE:=aa1 p past;refine Qel pre post ls (mh (gR p at_ past) rv li pm) S rt0 past.length zE zE (show p.cls.length<=1000000 by omega) (show p.sh.length<=1000000000 by omega) (show p.aN.length<=1000000000 by omega) (show p.ens.length<=1000000000 by omega) (show(Uf p).length<=1000000000 by omega) l7.2 (fun e he=>(l8 e he).2) ha.2 hU hE hB Y K (fun h0 rv li pm eW exl hB=>?_) (fun l h1 rv li pm eW exl KX hB LV=>?_)
 ·have h0:Yu p at_ past S=none:=h0;have:=hK (.sl .nil []) rv li pm eW exl hB (.inl ⟨h0,rfl⟩);rw[vk,h0]at this;exact this
 have h1:Yu p at_ past S=some l:=h1;have:=hK (.sl KX (l.map Qf)) rv li pm eW exl hB (.inr ⟨l,KX,h1,LV,rfl⟩);rw[vk,h1]at this;exact this
def qs(w:Bool)(ids:List Int)(K:List Bool):(Xe w ids K).length<=ids.length:=(kz w ids K).length_le
def aa2{p:Pl}(h:PlK p){at_:Int}(ha:aob at_){past:List Ad}(hp:past.length<=1000){ids:List Int}(hi:ids.length<=1000):
  Pure Tryz.prog aA 158 [.agg (Qa p),.sl .ro (ids.map Qy),I at_,.sl .ro (past.map Vl)] (Ta p at_ past ids):=by
 have C8:=h;obtain⟨l1,l2,l3,l4,l5,l6,l7,l8,l9,l10⟩:=h;refine Qo adu ku zd ?_;simp[NU,Qa,ku];have k41:=fun K'=>yj (yT p ids) [] p at_ past .ro zE zE zE Y0 K';simp only[yT,Qa]at k41;refine k41 _ fun ex=>?_;clear k41;simp[ku,aR,aY,Qq,Qa];refine aaZ C8 ha hp (yT p ids) ex [] [] [] [] (aoc p at_ past) ids hi .ro Y0 _ (fun a rv li pm eW exl hB hr=>?_);obtain⟨h0,rfl⟩|⟨l,rt,h1,hO,rfl⟩:=hr
 ·have bZ:oH (gR p at_ past) ids=false:=by rw[vk,h0];rfl
  rw[bZ];obtain⟨E,hE⟩:∃E,ex++eW=E:=⟨_,rfl⟩;rw[hE];simp[ku,aR,aY,Qq,yT,Qa,mh,gR];refine⟨zE,?_⟩;refine Qk Ct (aue p ids (gR p at_ past) E (Wd p at_ past ids)) (fun f _=>(3-numOf (f 36)).toNat) ?_ ?_
  ·exact⟨0,List.replicate ids.length false,rv,li,pm,[],exl,zd,zE,zd,rfl,hB,by simp[zC,aR,aY,Qq,yT,dh,Qa,mh,gR,rE]⟩
  clear hB;rintro f m ⟨r,K,rv,li,pm,zx,ls,h36,UG,hK,hT,hB,rfl⟩;rcases zzaa r 3 with rlt|rge
  ·have ayI:(r:Int)<3:=zE
   have pS:=bM r zE;obtain⟨n,hn⟩:∃n,3-r=n+1:=⟨2-r,zE⟩;rw[hn,chF]at hT;obtain⟨T,hTr⟩:∃T,Ji (oH (gR p at_ past)) (S8 p) ids r K=T:=⟨_,rfl⟩;rw[hTr]at hT;rw[S7]at hTr;simp[h36,rlt,ayI,Ct,zC,aR,aY,yT,dh,mh,gR];refine Qk KM (auf p ids (gR p at_ past) E r T) (fun f _=>ids.length-(numOf (f 41)).toNat) ?_ ?_
   ·exact⟨0,K,rv,li,pm,zx,ls,zd,zE,hK,by simpa using hTr,hB,by simp[zC,aR,aY,yT,dh,mh,gR]⟩
   clear hTr hK hB;rintro g m ⟨i,K,rv,li,pm,zx,ls,g41,fO,hK,hTi,hB,rfl⟩;rcases zzaa i ids.length with ai|bz
   ·obtain⟨id,hx⟩:=aU ai;have ah:Qh (ids.map Qy) i=Qy id:=Qt (by simp[hx]);have aa:(i:Int)<(ids.length:Int):=zE
    have hw:=bM i zE;obtain⟨n2,qY⟩:∃n2,ids.length-i=n2+1:=⟨ids.length-i-1,zE⟩;have hn3:ids.length-(i+1)=n2:=zE
    rw[qY,stF,aaX hx]at hTi;simp[g41,ai,aa,ah,Qy,KM,zC,aR,aY,yT,dh,mh,gR,ku];refine agN (yT p ids) (dh E ids.length K zx) ls (mh (gR p at_ past) rv li pm) id Y0 _ (fun exr=>?_);have hpb:(mh (gR p at_ past) rv li pm).p=p:=rfl;rw[hpb];by_cases fL:S8 p id=r
    ·rw[if_pos fL]at hTi;have aod:((S8 p id:Nat):Int)=(r:Int):=zE
     have hms:(K.map AV.bool).set i (.bool true)=(K.set i true).map AV.bool:=by rw[zzfo]
     simp[aod,aR,aY,yT,dh,mh,gR,ku];refine⟨ai,zE,?_⟩;rw[hms];obtain⟨S,hS⟩:∃S,Xe true ids (K.set i true)=S:=⟨_,rfl⟩;have hSl:S.length<=1000:=by have:=qs true ids (K.set i true);rw[hS]at this;omega
     have hK2:(K.set i true).length=ids.length:=by simpa using hK
     rw[hS]at hTi;obtain⟨ok,agO⟩:∃ok,oH (gR p at_ past) S=ok:=⟨_,rfl⟩;rw[agO]at hTi
     refine Y2 rfl [(.sl (sd ls.length S) (S.map Qy),zC p ids (mh (gR p at_ past) rv li pm) E (K.set i true) (zx++exr) (ls++oy S))] (ayH p ids (gR p at_ past) E (K.set i true) (zx++exr) (ls++oy S) S)
      ⟨(.aZ [.sl .nil [],.bool (oH (gR p at_ past) S)],zC p ids (mh (gR p at_ past) rv li pm) E (K.set i true) ((zx++exr)++[]) ((ls++oy S)++[])),.sl .nil [],rv,li,pm,[],[],rfl,hB,rfl⟩ (fun v m' hv=>?_)
     obtain⟨a,rv2,tg,Pn,JX,aoe,rfl,uk,rfl⟩:=hv;rw[agO];simp[zC,aR,aY,yT,dh,mh,gR,ku,hw];rw[hms];have azH:(K.map AV.bool).set i (.bool ok)=(K.set i ok).map AV.bool:=by rw[zzfo]
     refine⟨?_,?_,ai,zE,aP,⟨i+1,K.set i ok,rv2,tg,Pn,(zx++exr)++JX,ls++oy S++aoe,zd,zE,by simpa using hK,by rw[hn3];exact hTi,uk,by simp[zC,aR,aY,yT,dh,mh,gR]⟩,by simp[g41];omega⟩
     ·refine aaY (p:=p) hi (mh (gR p at_ past) rv li pm) E (K.set i true) hK2 (zx++exr) ls true Y0 _ ?_;rw[hS];exact⟨rfl,rfl⟩
     refine aaZ C8 ha hp (yT p ids) (dh E ids.length (K.set i true) (zx++exr)) (ls++oy S) rv li pm hB S hSl _ Y0 _ (fun a rv li pm ex exl hB _=>⟨a,rv,li,pm,ex,exl,rfl,hB,by simp[zC,dh];rfl⟩)
    rw[if_neg fL]at hTi;have aod:¬((S8 p id:Nat):Int)=(r:Int):=zE
    simp[aod,aR,aY,yT,dh,mh,gR,ku,hw];refine⟨aP,⟨i+1,K,rv,li,pm,zx++exr,ls,zd,zE,hK,by rw[hn3];exact hTi,hB,by simp[zC,aR,aY,yT,dh,mh,gR]⟩,zE⟩
   have bL:¬(i:Int)<(ids.length:Int):=zE
   have hz:ids.length-i=0:=zE
   rw[hz,stF]at hTi;subst hTi;simp[g41,bL,zzbo.2 bz,KM,Ct,h36,zC,aR,aY,yT,dh,mh,gR,pS];refine⟨aP,⟨r+1,K,rv,li,pm,zx,ls,zd,zE,hK,by rw[show 3-(r+1)=n by omega];exact hT,hB,by simp[zC,aR,aY,yT,dh,mh,gR]⟩,zE⟩
  have rin:¬(r:Int)<3:=zE
  obtain rfl:r=3:=zE
  have hT:K=Wd p at_ past ids:=hT;subst hT;obtain⟨ka,kb,kc⟩:=MI p at_ past ids;obtain⟨L,hL⟩:=zzci.1 kb;simp[h36,Ct,zC,aR,aY,yT,dh,mh,gR,ku];refine aaY (p:=p) hi (mh (gR p at_ past) rv li pm) E (Wd p at_ past ids) ka zx ls true Y0 _ ?_;obtain⟨S,hS⟩:∃S,Xe true ids (Wd p at_ past ids)=S:=⟨_,rfl⟩;have hSl:S.length<=1000:=by have:=qs true ids (Wd p at_ past ids);rw[hS]at this;omega
  have hr:Ta p at_ past ids=.aZ [JZ L,HY (Xe false ids (Wd p at_ past ids))]:=by rw[Ta,hL];rfl
  rw[hr];rw[hS]at hL |-
  simp[zC,aR,aY,yT,dh,mh,gR,ku];refine aaZ C8 ha hp (yT p ids) (dh E ids.length (Wd p at_ past ids) zx) (ls++oy S) rv li pm hB S hSl _ Y0 _ (fun a rv li pm JX aoe hB hv=>?_);obtain⟨h0,_⟩|⟨l,rt,h1,hO,rfl⟩:=hv
  ·rw[hL]at h0;cases h0
  rw[hL]at h1;cases h1;simp[zC,aR,aY,yT,dh,mh,gR,ku];refine aaY (p:=p) hi (mh (gR p at_ past) rv li pm) E (Wd p at_ past ids) ka (zx++JX) (ls++(oy S++aoe)) false Y0 _ ?_;obtain⟨D,hD⟩:∃D,Xe false ids (Wd p at_ past ids)=D:=⟨_,rfl⟩;rw[hD];by_cases hDe:D=[]
  ·subst hDe;obtain⟨rfl,rfl⟩|⟨k2,rfl,_,_,aM⟩:=hO
   ·simp[vD,JZ,HY,sd]
   simp[vD,JZ,HY,sd,aM]
  obtain⟨rfl,rfl⟩|⟨k2,rfl,_,_,aM⟩:=hO
  ·simp[vD,JZ,HY,sd,hDe]
  simp[vD,JZ,HY,sd,hDe,aM]
 have bZ:oH (gR p at_ past) ids=true:=by rw[vk,h1];rfl
 obtain⟨dw,dD⟩:=Tb p at_ past ids (by rw[h1];rfl);have hr:Ta p at_ past ids=.aZ [JZ l,.sl .nil []]:=by rw[Ta,dw,dD,h1];rfl
 rw[bZ,hr];obtain⟨rfl,rfl⟩|⟨k2,rfl,_,_,aM⟩:=hO
 ·simp[vD,JZ]
 simp[vD,JZ,aM]
open Go Go.Abs
def HZ:SC:=(⟨_,by cbv⟩:uf [1,1,1,1,1,1,1,1] Kx).1
def H6:SC:=(⟨_,fun _=>by cbv⟩:Kq [1,1] (Kj [1,1,1,1,1,1] Kx)).1 HZ
def PE:SC:=(⟨_,fun _=>by cbv⟩:Kq [1,1] (Kj [1,1,1,1] Kx)).1 H6
def aug:SC:=(⟨_,fun _=>by cbv⟩:Kq [1,1,1,1] Kx).1 PE
theorem agP:Kx=aug:=rfl
def Ww(l:List Int):List Int:=l.mergeSort fun x y=>decide (x<=y)
def se(l:List Int):(Ww l).length=l.length:=zzew l
def PF(l:List Int):(l.map Qy).flatten=aj l:=by
 induction l with
 |nil=>rfl
 |cons a r ih=>simp only[zzay,zzcl,ih];rfl
def uC{α:Type}(l:List α):Rt:=if l=[]then .nil else .ro
def akT:∀{l:List Int},l≠[]->dd l≠[]
 |[],h=>absurd rfl h
 |[x],_=>by simp[dd]
 |x::y::r,_=>by
  rw[Gk];split
  ·exact akT zd
  simp
def iu(n:Nat)(m:AM)(V:AV)(rows:List (List AV)):Prop:=Qw V=true/\∀m':AM,m.boxes.length<=m'.boxes.length->(∀j,n<=j->j<m.boxes.length->Qh m'.boxes j=Qh m.boxes j)->∀d,bJ m' (d+2) V=.sl (uC rows) rows
def iu.mono{n n':Nat}{m:AM}{V:AV}{rows:List (List AV)}(h:iu n m V rows)(hn:n'<=n):iu n' m V rows:=⟨h.1,fun m' h1 h2 d=>h.2 m' h1 (fun j q1 q2=>h2 j zE q2) d⟩
def aa3(Y:YT)(m:AM)(rt:Rt)(K:AV->AM->Prop)(hK:K (.sl rt []) m):an Tryz.prog aA Y 161 [.sl rt []] m K:=by
 obtain⟨mb,ml,ms,mn⟩:=m;refine Xd Cu (fun _ _ _=>.junk) zd ?_;simp[vE,AE];exact hK
def bw.pre{id:Nat}{mb X B':List (List AV)}(h:bw (·=id) (mb++X) B')(aK:mb.length<=id):∃ex,B'=mb++ex:=by
 refine⟨B'.drop mb.length,?_⟩;apply zzcm;intro j;have hl:=h.1;simp only[zzai]at hl;rcases zzaa j mb.length with hj|hj
 ·rw[zzag hj];have:=h.2 j (by simp;omega) zE;rw[Ug zE,this,Ug hj,Ql hj]
 rw[zzal hj,zzbm];congr 1;omega
def iu.ints{B:List (List AV)}{L:List Nat}{st:Nat->LS}{n k id:Nat}{l:List Int}{c:List AV}(hk:k<=id)(aK:id<B.length)(hB:Qh B id=aj l++c)(hc:Zj c=true)(aM:l≠[]):iu k ⟨B,L,st,n⟩ (.bs id 0 l.length 1) (l.map Qy):=by
 have aT:uC (l.map Qy)=.ro:=by unfold uC;rw[if_neg (by simpa using aM)]
 rw[iu,aT];refine⟨rfl,fun m' h1 h2 d=>?_⟩;have hr:=h2 id hk aK;simp only at hr h1
 have bZ:Zj (aj l++c)=true:=by
  have:=Y3 l;unfold Zj at this hc |-
  rw[zzfk,this,hc];rfl
 rw[YU,Vp];rw[hr,hB,Zp _ _ bZ,if_pos (by rw[zzai,Uk];omega),zzde,xh];rfl
def H7(Y:YT)(orc:Nat->FuncId->List AV->AV)(ho5:orc 95 999999 []=.aL 0 [])(ho7:orc 97 999999 []=.aL 0 [])(hs:∀d l,orc d 160 l=.gd false .junk)(hp:∀d l,orc d 161 l=.gd false .junk)
  (E:List (Nat×AV))(mb:List (List AV))(ml:List Nat)(ms:Nat->LS)(mn:Nat)(g:Pg)(f:Int)(mid k3:Nat)(V8:AV)(rD:Rt)(D:List Int)(Q:Exit->AS->Prop)
  (h3:Abs.look E 3=.ptr k3 0)(Bw:k3<mb.length)(UG:Qh mb k3=Qr g f mid)(h8:Abs.look E 8=V8)(Bo:Abs.look E 16=.sl rD (D.map Qy))(ez:g.dr.length<=1000000)(Bg:D.length<=1000000)
  (hQ:∀E' ex vd,Abs.look E' 6=V8->Abs.look E' 7=vd->iu mb.length ⟨mb++ex,ml,ms,mn⟩ vd ((dd (Ww (g.dr++D))).map Qy)->Q .ret ⟨Xv 103 E',⟨mb++ex,ml,ms,mn⟩⟩):
  vc Tryz.prog aA orc Y HZ ⟨Xv 103 E,⟨mb,ml,ms,mn⟩⟩ Q:=by
 simp only[Qr,Qm,Qa,zzad,zzah]at UG
 have fin:∀(X:List (List AV))(id:Nat)(K:AV->AV->AM->Prop),mb.length<=id->id<(mb++X).length->Qh (mb++X) id=aj (g.dr++D)->g.dr++D≠[]->
   (∀ex vd,iu mb.length ⟨mb++ex,ml,ms,mn⟩ vd ((dd (Ww (g.dr++D))).map Qy)->K (.aZ []) vd ⟨mb++ex,ml,ms,mn⟩)->
   an Tryz.prog aA Y 160 [.bs id 0 (g.dr++D).length 1] ⟨mb++X,ml,ms,mn⟩ (fun r0 m'=>an Tryz.prog aA Y 161 [.bs id 0 (g.dr++D).length 1] m' (K r0)):=by
  intro X id K cw ai ah aM hK;refine sR Y (g.dr++D) (by simp;omega) _ id [] (by rw[zzau];exact Ki ai ah) (by rw[zzau];intro h;have:=congrArg List.length h;rw[Uk]at this;exact aM (zzav this)) _ ?_;have aH:(g.dr++D).length=(Ww (g.dr++D)).length:=(se _).symm;rw[aH];have eF:Ww (g.dr++D)≠[]:=fun h=>aM (by have:=congrArg List.length h;rw[se]at this;exact zzav this);refine sO Y (Ww (g.dr++D)) (by rw[<- aH];simp;omega) _ _ _ _ id (by simpa using ai) eF ?_ _ ?_
  ·rw[zzau];exact Qt (by rw[zzba ai];first|rfl|(rw[zzau];rfl))
  intro B' z eU qD _
  have bY:(mb++X).set id (aj (List.mergeSort (g.dr++D) fun x y=>decide (x<=y))++[])=mb++X.set (id-mb.length) (aj (List.mergeSort (g.dr++D) fun x y=>decide (x<=y))++[]):=by
   rw[zzcu _ _ cw]
  rw[bY]at eU;obtain⟨ex,rfl⟩:=bw.pre eU cw;refine hK ex _ ?_;have ayJ:id<(mb++ex).length:=by have:=eU.1;simp at this ai |-;omega
  rw[nM]at qD;exact iu.ints cw ayJ qD (Y3 z) (akT eF)
 have hR3:∀ex,Qh (mb++ex) k3=_:=fun ex=>(Ql Bw).trans UG;have hm5:mutO orc (some 95)=true:=by unfold mutO;simp[ho5]
 have hm7:mutO orc (some 97)=true:=by unfold mutO;simp[ho7]
 simp only[zzai]at fin;by_cases ew:g.dr=[]
 ·by_cases hD:D=[]
  ·simp[HZ,h3,h8,Bo,UG,ew,hD,hs,hp,ho5,ho7];refine pP _ _ _ _ ?_;refine aa3 _ _ _ _ ?_;have:=fun E' vd h1 h2 h3=>hQ E' [] vd h1 h2 h3;simp only[zzau]at this;refine this _ _ zd (by simp;rfl) ?_;rw[ew,hD];refine⟨rfl,fun m' h1 h2 d=>?_⟩;simp[Ww,dd,uC]
  have aM:g.dr++D≠[]:=by simp[hD]
  have eZ:¬aj D=[]:=fun h=>hD (by have:=congrArg List.length h;rw[Uk]at this;exact zzav this);rw[ew]at fin hQ aM;simp only[zzcf,zzbw,zzah]at fin hQ;have pS:∀a∈D,(Qy a).length=1:=fun _ _=>rfl;simp[HZ,h3,h8,Bo,UG,ew,hD,hs,hp,ho5,ho7,PF,Uk];refine⟨⟨zE,pS⟩,fin [aj D] mb.length _ (zzab _) zd zd hD ?_⟩;intro ex vd hv;exact hQ _ _ _ zd zd hv
 have aM:g.dr++D≠[]:=by simp[ew]
 have eZ:¬aj g.dr=[]:=fun h=>ew (by have:=congrArg List.length h;rw[Uk]at this;exact zzav this);have pS:∀a∈D,(Qy a).length=1:=fun _ _=>rfl;have ayK:∀a∈g.dr,(Qy a).length=1:=fun _ _=>rfl;have bC:List.take g.dr.length (aj g.dr)=aj g.dr:=zzap (by rw[Uk];exact zzab _);simp[HZ,h3,h8,Bo,UG,ew,hs,hp,ho5,PF,Uk,eZ,bC];refine⟨⟨zE,ayK⟩,⟨zE,pS⟩,fin [[],aj g.dr++aj D] (mb.length+1) _ zE zd (by simp[nM]) aM ?_⟩;intro ex vd hv;exact hQ _ _ _ zd zd hv
open Go Go.Abs
def tH(rt fB:Rt):Prop:=∀m d x,bJ m (d+1) (.sl rt x)=.sl fB x
def tH.ro:tH .ro .ro:=fun _ _ _=>rfl
def tH.nil:tH .nil .nil:=fun _ _ _=>rfl
def tH.own(k s:Nat):tH (.own k s) .ro:=fun _ _ _=>rfl
def MJ{α:Type}(l:List α):tH (uC l) (uC l):=by
 unfold uC;split
 ·exact tH.nil
 exact tH.ro
def EvW(ml:List Nat)(rt:Rt)(n:Nat):Prop:=(rt=.nil/\n=0)\/∃k,rt=.own k 7/\ml[k]?=some n
def aa4(Y:YT)(orc:Nat->FuncId->List AV->AV)(ho5:orc 95 999999 []=.aL 0 [])(ho7:orc 97 999999 []=.aL 0 [])(ho1:orc 91 999999 []=.junk)(hs:∀d l,orc d 160 l=.gd false .junk)(hp:∀d l,orc d 161 l=.gd false .junk)
  (E:List (Nat×AV))(mb:List (List AV))(ml:List Nat)(ms:Nat->LS)(mn:Nat)(g:Pg)(f:Int)(mid k3 k5:Nat)(q:Pl)(d:Int)(rte ce rti ci rL rD:Rt)(ev bl:List bE)(en:Int)(ids D:List Int)(L:List Sp)(past:List Ad)(Q:Exit->AS->Prop)
  (auh:∀d l,orc d 159 l=.sl .ro (past.map Vl))(aui:∀d l,orc d 158 l=.aZ [.sl rL (L.map Qf),.sl rD (D.map Qy)])(h62:∀d l,orc d 62 l=.sl .ro (bl.map Qe))
  (agQ:Pure Tryz.prog aA 159 [.sl ce (ev.map Zw),I en] (.sl .ro (past.map Vl)))
  (aa5:Pure Tryz.prog aA 158 [.agg (Qa q),.sl ci (ids.map Qy),I en,.sl .ro (past.map Vl)] (.aZ [.sl rL (L.map Qf),.sl rD (D.map Qy)]))
  (k62:Pure Tryz.prog aA 62 [.agg (Qa q),.sl rL (L.map Qf),I en] (.sl .ro (bl.map Qe)))
  (hce:tH rte ce)(hci:tH rti ci)(hcL:tH rL rL)
  (h3:Abs.look E 3=.ptr k3 0)(Bw:k3<mb.length)(UG:Qh mb k3=Qr g f mid)(h5:Abs.look E 5=.ptr k5 0)(hk5:k5<mb.length)(hr5:Qh mb k5=Qa q++[I d])
  (h8:Abs.look E 8=.sl rte (ev.map Zw))(ayL:EvW ml rte ev.length)(h9:Abs.look E 9=I en)(qG:Abs.look E 12=.sl rti (ids.map Qy))
  (ez:g.dr.length<=1000000)(Bg:D.length<=1000000)(hl3:ev.length<=1000000)(hl4:bl.length<=10000000)
  (hQ:∀E' ex ls ke vd,Abs.look E' 6=.sl (.own ke 7) (ev.map Zw++bl.map Qe)->Abs.look E' 7=vd->iu mb.length ⟨mb++ex,ls,ms,mn⟩ vd ((dd (Ww (g.dr++D))).map Qy)->Q .ret ⟨Xv 103 E',⟨mb++ex,ls,ms,mn⟩⟩):
  vc Tryz.prog aA orc Y H6 ⟨Xv 103 E,⟨mb,ml,ms,mn⟩⟩ Q:=by
 have auj:=fun m d x=>hce m d x;have auk:=fun m d x=>hci m d x;have aul:=fun m d x=>hcL m d x;simp only[Qa,zzad,zzah]at hr5;simp only[Qa]at aa5 k62;have hR5:∀ex,Qh (mb++ex) k5=_:=fun ex=>(Ql hk5).trans hr5;have hw7:∀a∈ev,(Zw a).length=7:=fun _ _=>rfl;have ayM:∀a∈bl,(Qe a).length=7:=fun _ _=>rfl;obtain⟨rfl,hn⟩|⟨k,rfl,hk⟩:=ayL
 ·have he:ev=[]:=zzav hn;subst he;simp[H6,h8,h9,qG,h5,hr5,auj,auk,aul,auh,aui,h62,ho1];refine⟨agQ,aa5,k62,⟨ayM,zE⟩,H7 Y orc ho5 ho7 hs hp _ mb _ ms mn g f mid k3 (.sl (.own ml.length 7) (bl.map Qe)) rD D Q (by simp[h3]) Bw UG zd zd ez Bg ?_⟩;intro E' ex vd q1 q2 q3;exact hQ E' ex _ ml.length vd (by rw[q1];rfl) q2 q3
 simp[H6,h8,h9,qG,h5,hr5,auj,auk,aul,auh,aui,h62,hk];refine⟨agQ,aa5,k62,⟨?_,zE⟩,H7 Y orc ho5 ho7 hs hp _ mb _ ms mn g f mid k3 (.sl (.own k 7) (ev.map Zw++bl.map Qe)) rD D Q (by simp[h3]) Bw UG zd zd ez Bg ?_⟩
 ·rintro row (⟨a,_,rfl⟩|⟨a,_,rfl⟩)<;>rfl
 intro E' ex vd q1 q2 q3;exact hQ E' ex _ k vd q1 q2 q3
open Go Go.Abs
def kH(g:Pg)(b:List (Int×Bool))(e:En):Bool:=!zB b e.id&&!decide (e.id∈g.dr)
def Kk(g:Pg)(b:List (Int×Bool))(l:List En):List Int:=(l.filter (kH g b)).map (·.id)
def Tc(g:Pg)(b:List (Int×Bool))(l:List En)(e:En):Kk g b (l++[e])=Kk g b l++(if kH g b e then[e.id]else[]):=by
 unfold Kk;rw[zzct,zzca];congr 1;cases h:kH g b e<;>simp[h]
def kJ(g:Pg)(b:List (Int×Bool))(l:List En):(Kk g b l).length<=l.length:=by
 unfold Kk;rw[zzbj];exact zzbs _ _
def IdR(ml ls:List Nat)(rt:Rt)(n:Nat):Prop:=(rt=.nil/\n=0/\ls=ml)\/(rt=.own ml.length 1/\n≠0/\ls=ml++[n])
def aum(g:Pg)(b:List (Int×Bool))(q:Pl)(mb:List (List AV))(ml:List Nat)(ms:Nat->LS)(mn:Nat)(s:Nat->AV)(m:AM):Prop:=
 ∃(i:Nat)(bx:List (List AV))(rt:Rt)(ls:List Nat),s 49=I i/\i<=q.ens.length/\m=⟨mb++bx,ls,ms,mn⟩/\s 12=.sl rt ((Kk g b (q.ens.take i)).map Qy)/\IdR ml ls rt (Kk g b (q.ens.take i)).length
def aa6(Y:YT)(orc:Nat->FuncId->List AV->AV)(aun:orc 72 999999 []=.junk)(agR:orc 71 999999 []=.junk)
  (E:List (Nat×AV))(mb:List (List AV))(ml:List Nat)(ms:Nat->LS)(mn:Nat)(g:Pg)(f:Int)(mid k3 k5:Nat)(b:List (Int×Bool))(q:Pl)(d:Int)(Q:Exit->AS->Prop)
  (MK:∀d id,orc d 157 [.sl .ro (g.dr.map Qy),I id]=.bool (decide (id∈g.dr)))
  (h3:Abs.look E 3=.ptr k3 0)(Bw:k3<mb.length)(UG:Qh mb k3=Qr g f mid)(h5:Abs.look E 5=.ptr k5 0)(hk5:k5<mb.length)(hr5:Qh mb k5=Qa q++[I d])(hb:gz mb mid b)
  (ez:g.dr.length<=1000000)(Bg:q.ens.length<=1000000)
  (hQ:∀E' ex rt ls,(∀k,k≠12->k<14->Abs.look E' k=Abs.look E k)->Abs.look E' 12=.sl rt ((Kk g b q.ens).map Qy)->IdR ml ls rt (Kk g b q.ens).length->vc Tryz.prog aA orc Y H6 ⟨Xv 103 E',⟨mb++ex,ls,ms,mn⟩⟩ Q):
  vc Tryz.prog aA orc Y PE ⟨Xv 103 E,⟨mb,ml,ms,mn⟩⟩ Q:=by
 simp only[Qr,Qm,Qa,zzad,zzah]at UG hr5;have hR3:∀ex,Qh (mb++ex) k3=_:=fun ex=>(Ql Bw).trans UG;have hR5:∀ex,Qh (mb++ex) k5=_:=fun ex=>(Ql hk5).trans hr5;have hRm:∀ex,Qh (mb++ex) mid=[.aL 0 (bH .bool b)]:=hb.ext;have hk:∀id,Pure Tryz.prog aA 157 [.sl .ro (g.dr.map Qy),I id] (.bool (decide (id∈g.dr))):=fun id=>j9 g.dr id zE;simp[PE,h5,hr5];refine Qk oK (aum g b q mb ml ms mn) (fun s _=>q.ens.length-(numOf (s 49)).toNat) ?_ ?_
 ·exact⟨0,[],.nil,ml,zd,zE,zd,by simp[Kk],.inl ⟨rfl,by simp[Kk],rfl⟩⟩
 rintro s m ⟨i,bx,rt,ls,h49,hi,rfl,qG,aT⟩;rcases zzaa i q.ens.length with ai|bz
 ·obtain⟨x,hx⟩:=aU ai;have ah:Qh (q.ens.map Qd) i=Qd x:=Qt (by simp[hx]);have aa:(i:Int)<(q.ens.length:Int):=zE
  have hw:=bM i zE;have bC:q.ens.take (i+1)=q.ens.take i++[x]:=by rw[zzas,hx];rfl
  have mR:Kk g b (q.ens.take (i+1))=Kk g b (q.ens.take i)++(if kH g b x then[x.id]else[]):=by rw[bC,Tc]
  have fO:=kJ g b (q.ens.take i);rw[zzaq]at fO;have skip:kH g b x=false->Kk g b (q.ens.take (i+1))=Kk g b (q.ens.take i):=fun h=>by rw[mR,h];simp
  have more:kH g b x=true->Kk g b (q.ens.take (i+1))=Kk g b (q.ens.take i)++[x.id]:=fun h=>by rw[mR,h];simp
  generalize Kk g b (q.ens.take i)=O at*
  generalize cW:Kk g b (q.ens.take (i+1))=O' at*
  have pS:∀a∈O,(Qy a).length=1:=fun _ _=>rfl;rcases Xq AV.bool x.id b 0 with⟨b1,b2,_⟩|⟨u,u',b1,b2,_⟩
  ·by_cases ew:x.id∈g.dr
   ·have e1:=skip (by simp[kH,ew]);simp[h49,aa,ah,Qd,oK,hw,h3,hR3,hRm,b2,ew,MK,qG];refine⟨by simpa[ew]using hk x.id,aP,⟨i+1,_,rt,ls,zd,zE,rfl,by rw[cW,e1];simp,by rw[cW,e1];exact aT⟩,zE⟩
   have e1:=more (by simp[kH,ew,zB,b1]);obtain⟨rfl,hn,rfl⟩|⟨rfl,hn,rfl⟩:=aT
   ·have hO:O=[]:=zzav hn;subst hO;simp[h49,aa,ah,Qd,oK,hw,h3,hR3,hRm,b2,ew,MK,qG,aun,agR];refine⟨by simpa[ew]using hk x.id,aP,⟨i+1,_,_,_,zd,zE,rfl,by rw[cW,e1];simp[Qy];rfl,by rw[cW,e1];exact .inr ⟨rfl,zd,zd⟩⟩,zE⟩
   simp[h49,aa,ah,Qd,oK,hw,h3,hR3,hRm,b2,ew,MK,qG,agR];refine⟨by simpa[ew]using hk x.id,⟨?_,zE⟩,aP,⟨i+1,_,_,_,zd,zE,rfl,by rw[cW,e1];simp[Qy];rfl,by rw[cW,e1];exact .inr ⟨rfl,zd,zd⟩⟩,zE⟩
   ·rintro row (⟨a,_,rfl⟩|rfl)<;>rfl
  cases u with
  |true=>
   have e1:=skip (by simp[kH,zB,b1]);simp[h49,aa,ah,Qd,oK,hw,h3,hR3,hRm,b2,MK,qG];refine⟨aP,⟨i+1,_,rt,ls,zd,zE,rfl,by rw[cW,e1];simp,by rw[cW,e1];exact aT⟩,zE⟩
  |false=>
   by_cases ew:x.id∈g.dr
   ·have e1:=skip (by simp[kH,ew]);simp[h49,aa,ah,Qd,oK,hw,h3,hR3,hRm,b2,ew,MK,qG];refine⟨by simpa[ew]using hk x.id,aP,⟨i+1,_,rt,ls,zd,zE,rfl,by rw[cW,e1];simp,by rw[cW,e1];exact aT⟩,zE⟩
   have e1:=more (by simp[kH,ew,zB,b1]);obtain⟨rfl,hn,rfl⟩|⟨rfl,hn,rfl⟩:=aT
   ·have hO:O=[]:=zzav hn;subst hO;simp[h49,aa,ah,Qd,oK,hw,h3,hR3,hRm,b2,ew,MK,qG,aun,agR];refine⟨by simpa[ew]using hk x.id,aP,⟨i+1,_,_,_,zd,zE,rfl,by rw[cW,e1];simp[Qy];rfl,by rw[cW,e1];exact .inr ⟨rfl,zd,zd⟩⟩,zE⟩
   simp[h49,aa,ah,Qd,oK,hw,h3,hR3,hRm,b2,ew,MK,qG,agR];refine⟨by simpa[ew]using hk x.id,⟨?_,zE⟩,aP,⟨i+1,_,_,_,zd,zE,rfl,by rw[cW,e1];simp[Qy];rfl,by rw[cW,e1];exact .inr ⟨rfl,zd,zd⟩⟩,zE⟩
   ·rintro row (⟨a,_,rfl⟩|rfl)<;>rfl
 have hbf:q.ens.take i=q.ens:=zzap bz;rw[hbf]at qG aT;have bL:¬(i:Int)<(q.ens.length:Int):=zE
 simp[h49,bL,oK];refine hQ _ _ rt ls (fun k h1 h2=>?_) (by simp[qG]) aT;have:k=0\/k=1\/k=2\/k=3\/k=4\/k=5\/k=6\/k=7\/k=8\/k=9\/k=10\/k=11\/k=13:=zE
 rcases this with rfl|rfl|rfl|rfl|rfl|rfl|rfl|rfl|rfl|rfl|rfl|rfl|rfl<;>simp
end
