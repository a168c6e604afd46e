import Derived.Test.YthjppoincojfkaaGreatDoorRSMcG
import Derived.Test.YthjppoincojfkaaGreatDoorCards
import Derived.Deep.DeepHandedRow
import Derived.Lib.LaidTab
import Derived.MakeChecks
set_option linter.all false
set_option maxRecDepth 100000
set_option maxHeartbeats 64000000
namespace Go.Abs
open Go Go.RowKit
end Go.Abs
namespace Go.Proofs.YthjppoincojfkaaGreatDoor
noncomputable section
open Go Go.Abs
def LO(p:Pl)(e:En)(f:Int):Option Int:=
 if e.fr<1\/1000000<e.fr\/p.ln<e.fr then none else
 if max f 0<1000000/\0<=mw p e/\mw p e<1000000 then(match lP (Xy p e.it 0) (max f 0) e.fr with
  |none=>none
  |some s=>if mw p e<s then none else some s)else Vr p e f
def RJ(p:Pl)(e:En)(f:Int):LO p e f=Vr p e f:=by
 unfold LO;split
 ·rename_i h;rw[Vr,if_pos h]
 rename_i h;split
 ·rename_i h2;rw[Vr,if_neg h];have hz:(max f 0).tdiv 1000000=0:=Int.tdiv_eq_zero_of_lt zE zE;rw[hz]
  conv=>rhs;unfold SP
  rw[if_pos zE];cases lP (Xy p e.it 0) (max f 0) e.fr with
  |none=>
   simp only;unfold SP;rw[if_neg zE]
  |some s=>rfl
 rfl
def amL(p:Pl):Pi->List (Int×Int)->List (Int×Int)->Int->Int->Option (List Sp)
 |[],_,_,_,_=>some []
 |id::r,us,en,free,last=>match zn id p.ens 0 with
  |none=>none
  |some k=>if(k:Int)<=last then none else match p.ens[k]? with
   |none=>none
   |some e=>if Ww p e.it≠ -1/\Ww p e.it<=(af e.it us).getD 0 then none else
    match LO p e (Ua en (Kl p e.it) (max e.ea free))with
    |none=>none
    |some s=>match amL p r (Vw us e.it) (Zm p en e.it (s+e.fr)) (s+e.fr) k with
     |none=>none
     |some l=>some ((id,s)::l)
def Oz(p:Pl):∀(ids:Pi)(us en:List (Int×Int))(free last:Int),amL p ids us en free last=Ut p ids us en free last
 |[],_,_,_,_=>rfl
 |id::r,us,en,free,last=>by
  rw[amL,Ut];simp only[RJ,Oz p r];rfl
open Go Go.Abs
open Go Go.Abs
def Z7(past:List Ad):pN (past.length:Int) (N9 past []):=by
 have h:=Hl past [] 0 zE (fun k v h=>by cases h);rwa [Int.zero_add]at h
def Z8(p:Pl)(past:List Ad):ug (Oa p past []):=Ho p past [] (fun k v h=>by cases h)
open Go Go.Abs
open Go Go.Abs
open Go Go.Abs
def UY(p:Pl)(id:Int):Int:=match zn id p.ens 0 with
 |none=> -1
 |some k=>(k:Int)
open Go Go.Abs
open Go Go.Abs
open Go Go.Abs
def BE{w:Bool}:∀{ids:Pi}{K:List Bool}{i:Nat}{id:Int}{k:Bool},ids[i]?=some id->K[i]?=some k->Xb w (ids.take (i+1)) (K.take (i+1))=Xb w (ids.take i) (K.take i)++if(k==w)=true then[id]else[]
 |[],_,_,_,_,h,_=>by simp at h
 |_::_,[],_,_,_,_,h=>by simp at h
 |x::r,y::ks,0,id,k,h1,h2=>by
  simp at h1 h2;subst h1;subst h2;simp[Xb]
 |x::r,y::ks,i+1,id,k,h1,h2=>by
  have ih:=BE (w:=w) (ids:=r) (K:=ks) (i:=i) (Nm h1) (Nm h2);rw[zzel,zzel,zzel,zzel,Xb,Xb,ih];split<;>simp
open Go Go.Abs
def Z9(p:Pl)(id:Int):(∃(n k:Nat)(e:En),Xw id p.ens=some e/\p.ens[k]?=some e/\Xh [id] (bG iA (Di p)) 0=some (n,I k))\/(Xw id p.ens=none/\Xh [id] (bG iA (Di p)) 0=none):=by
 have key:∀(l:List En)(i:Nat),zn id l i=none->Xw id l=none:=by
  intro l;induction l with
  |nil=>intro i _;rfl
  |cons x r ih=>
   intro i h;rw[zn]at h;split at h
   ·cases h
   rename_i hn;rw[Xw,if_neg hn];exact ih _ h
 rcases Xv iA id (Di p) 0 with⟨p1,p2,_⟩|⟨u,n,p1,p2,_⟩
 ·rw[uQ]at p1;cases hx:zn id p.ens 0 with
  |none=>exact .inr ⟨key _ _ hx,p2⟩
  |some k=>rw[hx]at p1;cases p1
 rw[uQ]at p1;cases hx:zn id p.ens 0 with
 |none=>rw[hx]at p1;cases p1
 |some k=>
  rw[hx]at p1;cases p1;obtain⟨_,e,h2,h3,h4⟩:=kV hx;rw[zzes]at h2;exact .inl ⟨_,k,e,h4,h2,p2⟩
def afz(pre post:T5)(ls:Pa)(b:Bd)(id:Int)(Y:YT)(K:So)(hK:∀ex,K (I (RK b.p id:Nat)) (aP pre b (post++ex) ls)):
  aB Tryz.prog aD Y 164 [.ptr (pre.length+9) 0,I id] (aP pre b post ls) K:=by
 refine Xl acI (fun _ _ _=>.junk) zd ?_;unfold RK at hK;rcases Z9 b.p id with⟨n,k,e,he,hk,hp⟩|⟨he,hp⟩
 ·rw[he]at hK;simp only at hK;have qt:=(zza.1 hk).1;have zS:(k:Int)<(b.p.ens.length:Int):=zE
  have yK:=Qdk hk;by_cases b1:e.bo=0
  ·rw[if_neg (by simp[b1])]at hK;rcases Qdg b.p e.it with⟨ni,y,hy,hi⟩|⟨hy,hi⟩
   ·rw[hy]at hK;simp only at hK;by_cases c1:y.ki=1
    ·rw[if_pos (.inl c1)]at hK;simp[vD,aP,aW,Qo,Qa,hp,qt,zS,yK,Qd,b1];refine Uh ?_;simp[vE,aP,aW,Qo,Qa,Qd,hi,rz,Qm,c1];simpa[aP,aW,Qo,Qa,Qm,Qd,b1,c1]using hK [Qd e,Qm y]
    by_cases c2:y.ki=4
    ·rw[if_pos (.inr c2)]at hK;simp[vD,aP,aW,Qo,Qa,hp,qt,zS,yK,Qd,b1];refine Uh ?_;simp[vE,aP,aW,Qo,Qa,Qd,hi,rz,Qm,c1,c2];simpa[aP,aW,Qo,Qa,Qm,Qd,b1,c1,c2]using hK [Qd e,Qm y]
    rw[if_neg (by rintro(h|h);exact c1 h;exact c2 h)]at hK;simp[vD,aP,aW,Qo,Qa,hp,qt,zS,yK,Qd,b1];refine Uh ?_;simp[vE,aP,aW,Qo,Qa,Qd,hi,rz,Qm,c1,c2];simpa[aP,aW,Qo,Qa,Qm,Qd,b1,c1,c2]using hK [Qd e,Qm y]
   rw[hy]at hK;simp only at hK;simp[vD,aP,aW,Qo,Qa,hp,qt,zS,yK,Qd,b1];refine Uh ?_;simp[vE,aP,aW,Qo,Qa,Qd,hi];simpa[aP,aW,Qo,Qa,Qd,b1]using hK [Qd e,[I 0,I 0,I 0,I 0,I 0]]
  rw[if_pos b1]at hK;simp[vD,vE,aP,aW,Qo,Qa,hp,qt,zS,yK,Qd,b1];simpa[aP,aW,Qo,Qa,Qd]using hK [Qd e]
 rw[he]at hK;simp only at hK;simp[vD,vE,aP,aW,Qo,Qa,hp];simpa[aP,aW,Qo,Qa]using hK []
def rN(n:Nat)(S:Pi):Rt:=if S=[]then .nil else .own n 1
def nV(S:Pi):Pa:=if S=[]then[]else[S.length]
def atr(ids:Pi)(K:List Bool)(w:Bool)(m0:AM)(f:Nat->AV)(m:AM):Prop:=
 ∃(i:Nat),f 10=I i/\i<=ids.length/\f 5=.sl (rN m0.lens.length (Xb w (ids.take i) (K.take i))) ((Xb w (ids.take i) (K.take i)).map Qy)/\m={m0 with lens:=m0.lens++nV (Xb w (ids.take i) (K.take i))}
def RL(ids:Pi)(K:List Bool)(w:Bool)(hi:ids.length<=1000)(hk:K.length=ids.length)(m:AM)(ia ib kb:Nat)(h1:Qh m.boxes ia=[.sl .ro (ids.map Qy)])(h2:Qh m.boxes ib=[.bs kb 0 ids.length 1])(h3:Qh m.boxes kb=K.map .bool)
  (g1:ia<m.boxes.length)(g2:ib<m.boxes.length)(g3:kb<m.boxes.length)(Y:YT)(Q:So)(hQ:Q (.sl (rN m.lens.length (Xb w ids K)) ((Xb w ids K).map Qy)) {m with lens:=m.lens++nV (Xb w ids K)}):
  aB Tryz.prog aD Y 163 [.bool w,.ptr ia 0,.ptr ib 0] m Q:=by
 refine Xl acH (fun _ _ _=>.junk) zd ?_;simp[T7,h1,g1];refine Qi vC (atr ids K w m) (fun f _=>ids.length-(numOf (f 10)).toNat) ?_ ?_
 ·exact⟨0,zd,zE,by simp[Xb,rN],by simp[Xb,nV]⟩
 rintro f m' ⟨i,iC,je,h5,rfl⟩;rcases zzaa i ids.length with ah|bq
 ·obtain⟨id,hx⟩:=aV ah;obtain⟨k,hy⟩:∃x,K[i]?=some x:=⟨_,zzaf zE⟩;have ai:Qh (ids.map Qy) i=Qy id:=Qu (by simp[hx]);have bL:nth ((K.map AV.bool).drop i) 0=.bool k:=al7 (by simp[hy]);have xk:min 1 (K.length-i)=1:=zE
  have amM:i<K.length:=zE
  have aa:(i:Int)<(ids.length:Int):=zE
  have hw:=bO i zE;have bB:=BE (w:=w) hx hy
  have fT:(Xb w (ids.take i) (K.take i)).length<=1000:=by
   have:=(Kk w (ids.take i) (K.take i)).length_le;simp at this;omega
  obtain⟨S,hS⟩:∃S,Xb w (ids.take i) (K.take i)=S:=⟨_,rfl⟩;rw[hS]at h5 bB fT |-
  cases hc:(k==w)with
  |false=>
   rw[hc]at bB;have bB:Xb w (ids.take (i+1)) (K.take (i+1))=S:=by rw[bB];simp
   simp[iC,h5,ah,aa,amM,ai,Qy,vC,hw,hc,h2,h3,g2,g3,bL,xk,show 1<=K.length-i by omega];refine⟨aQ,⟨i+1,zd,zE,by rw[bB];simp[h5,Qy],by rw[bB]⟩,zE⟩
  |true=>
   rw[hc]at bB;have bB:Xb w (ids.take (i+1)) (K.take (i+1))=S++[id]:=by rw[bB];simp
   by_cases hSe:S=[]
   ·subst hSe;simp only[rN,nV,if_true,zzcs,zzar]at h5 |-
    simp[iC,h5,ah,aa,amM,ai,Qy,vC,hw,hc,h2,h3,g2,g3,bL,xk,show 1<=K.length-i by omega];refine⟨aQ,⟨i+1,zd,zE,by rw[bB];simp[Qy,rN],by rw[bB];simp[nV]⟩,zE⟩
   simp only[rN,nV,if_neg hSe]at h5 |-
   have bY:(m.lens++[S.length]).set m.lens.length (S.length+1)=m.lens++[S.length+1]:=by rw[List.set_append,if_neg zE];simp
   simp[iC,h5,ah,aa,amM,ai,Qy,vC,hw,hc,h2,h3,g2,g3,bL,xk,show 1<=K.length-i by omega];refine⟨⟨?_,zE⟩,aQ,⟨i+1,zd,zE,by rw[bB];simp[Qy,rN],by rw[bB];simp[nV]⟩,zE⟩
   ·rintro row (⟨a,_,rfl⟩|rfl)<;>rfl
 have bQ:¬(i:Int)<(ids.length:Int):=zE
 rw[zzau zE,zzau zE]at h5 |-
 simp[iC,h5,bQ,zzbk.2 bq,vC,ag7];exact hQ
open Go Go.Abs
def stF(ok:Pi->Bool)(rd:Int->Nat)(ids:Pi)(r:Nat):Nat->Nat->List Bool->List Bool
 |0,_,K=>K
 |n+1,i,K=>stF ok rd ids r n (i+1) (Jy ok rd ids r K i)
def RM(ok:Pi->Bool)(rd:Int->Nat)(ids:Pi)(r:Nat)(K:List Bool):Jd ok rd ids r K=stF ok rd ids r ids.length 0 K:=by
 have:∀(n i:Nat)(K:List Bool),(List.range' i n).foldl (Jy ok rd ids r) K=stF ok rd ids r n i K:=by
  intro n;induction n with
  |zero=>intro i K;rfl
  |succ n ih=>intro i K;rw[zzgn,zzcz,ih];rfl
 unfold Jd;rw[zzfn];exact this _ _ _
def aaa{ok:Pi->Bool}{rd:Int->Nat}{ids:Pi}{r:Nat}{K:List Bool}{i:Nat}{id:Int}(h:ids[i]?=some id):Jy ok rd ids r K i=if rd id=r then K.set i (ok (Xb true ids (K.set i true)))else K:=by
 unfold Jy;rw[h]
def chF(ok:Pi->Bool)(rd:Int->Nat)(ids:Pi):Nat->Nat->List Bool->List Bool
 |0,_,K=>K
 |n+1,r,K=>chF ok rd ids n (r+1) (Jd ok rd ids r K)
def yL(p:Pl)(ids:Pi):T5:=[Qa p,[.sl .ro (ids.map Qy)]]
def di(E:T5)(n:Nat)(K:List Bool)(ex:T5):T5:=E++(K.map AV.bool::[.bs (E.length+12) 0 n 1]::ex)
def zu(p:Pl)(ids:Pi)(b:Bd)(E:T5)(K:List Bool)(ex:T5)(ls:Pa):AM:=aP (yL p ids) b (di E ids.length K ex) ls
def lS(b:Bd)(rv:List (Int×(Rt×List Sp)))(li:List (Int×Int))(pm:List ((Int×Int)×List Sp)):Bd:={b with rv:=rv,li:=li,pm:=pm}
def att(p:Pl)(ids:Pi)(b:Bd)(E:T5)(T:List Bool)(f:Nat->AV)(m:AM):Prop:=
 ∃(r:Nat)(K:List Bool)(rv:List (Int×(Rt×List Sp)))(li:List (Int×Int))(pm:List ((Int×Int)×List Sp))(ex:T5)(ls:Pa),f 36=I r/\r<=3/\K.length=ids.length/\chF (ou b) (RK p) ids (3-r) r K=T/\BF (lS b rv li pm)/\m=zu p ids (lS b rv li pm) E K ex ls
def atu(p:Pl)(ids:Pi)(b:Bd)(E:T5)(r:Nat)(T:List Bool)(f:Nat->AV)(m:AM):Prop:=
 ∃(i:Nat)(K:List Bool)(rv:List (Int×(Rt×List Sp)))(li:List (Int×Int))(pm:List ((Int×Int)×List Sp))(ex:T5)(ls:Pa),f 41=I i/\i<=ids.length/\K.length=ids.length/\stF (ou b) (RK p) ids r (ids.length-i) i K=T/\BF (lS b rv li pm)/\m=zu p ids (lS b rv li pm) E K ex ls
def ax0(p:Pl)(ids:Pi)(b:Bd)(E:T5)(K:List Bool)(ex:T5)(ls:Pa)(S:Pi)(v:AV)(m:AM):Prop:=
 ∃(a:AV)(rv:List (Int×(Rt×List Sp)))(li:List (Int×Int))(pm:List ((Int×Int)×List Sp))(gH:T5)(exl:Pa),v=.aS [a,.bool (ou b S)]/\BF (lS b rv li pm)/\m=zu p ids (lS b rv li pm) E K (ex++gH) (ls++exl)
def j4:UV:=fun d f _=>if f=999999 then(if d=34 then .aJ 0 []else .junk)else .gd false .junk
def aab{p:Pl}{ids:Pi}(hi:ids.length<=1000)(b:Bd)(E:T5)(K:List Bool)(hk:K.length=ids.length)(ex:T5)(ls:Pa)(w:Bool)(Y:YT)(Q:So)
  (hQ:Q (.sl (rN ls.length (Xb w ids K)) ((Xb w ids K).map Qy)) (zu p ids b E K ex (ls++nV (Xb w ids K)))):
  aB Tryz.prog aD Y 163 [.bool w,.ptr 1 0,.ptr (E.length+13) 0] (zu p ids b E K ex ls) Q:=by
 refine RL ids K w hi hk (zu p ids b E K ex ls) 1 (E.length+13) (E.length+12) ?_ ?_ ?_ ?_ ?_ ?_ Y Q hQ;all_goals simp[zu,aP,aW,yL,di]
 all_goals omega
def rF(a:AV):∀n:Nat,bF n [a]=List.replicate n a
 |0=>rfl
 |n+1=>by rw[bF,rF a n];rfl
def aac{p:Pl}(h:PlK p){at_:Int}(ha:amN at_){past:List Ad}(hp:past.length<=2500)(pre post:T5)(ls:Pa)(rv:List (Int×(Rt×List Sp)))(li:List (Int×Int))(pm:List ((Int×Int)×List Sp))(hB:BF (lS (gI p at_ past) rv li pm))
  (S:Pi)(hS:S.length<=1000)(rt0:Rt)(Y:YT)(K:So)
  (
   hK:∀a rv li pm ex exl,BF (lS (gI p at_ past) rv li pm)->((Yo p at_ past S=none/\a=.sl .nil [])\/∃l rt,Yo p at_ past S=some l/\DN 2 ls.length (ls++exl) rt l/\a=.sl rt (l.map Qe))->
   K (.aS [a,.bool (ou (gI p at_ past) S)]) (aP pre (lS (gI p at_ past) rv li pm) (post++ex) (ls++exl))):
  aB Tryz.prog aD Y 114 [.ptr (pre.length+9) 0,.sl rt0 (S.map Qy)] (aP pre (lS (gI p at_ past) rv li pm) post ls) K:=by
 have FO:=h.spn;obtain⟨l1,l2,l3,l4,l5,l6,l7,l8,l9,l10⟩:=h;have hU:=Z7 past;have hE:=Z8 p past;refine Qeh pre post ls (lS (gI p at_ past) rv li pm) S rt0 past.length zE zE (show p.cls.length<=1000000 by omega) (show p.sh.length<=1000000000 by omega) (show p.aN.length<=1000000000 by omega) (show p.ens.length<=1000000000 by omega) (show(Yx p).length<=1000000000 by omega) l7.2 (fun e he=>(l8 e he).2) ha.2 hU hE hB Y K (fun h0 rv li pm gH exl hB=>?_) (fun l h1 rv li pm gH exl Su hB Gz=>?_)
 ·have h0:Yo p at_ past S=none:=h0;have:=hK (.sl .nil []) rv li pm gH exl hB (.inl ⟨h0,rfl⟩);rw[va,h0]at this;exact this
 have h1:Yo p at_ past S=some l:=h1;have:=hK (.sl Su (l.map Qe)) rv li pm gH exl hB (.inr ⟨l,Su,h1,Gz,rfl⟩);rw[va,h1]at this;exact this
def p9(w:Bool)(ids:Pi)(K:List Bool):(Xb w ids K).length<=ids.length:=(Kk w ids K).length_le
def aad{p:Pl}(h:PlK p){at_:Int}(ha:amN at_){past:List Ad}(hp:past.length<=2500){ids:Pi}(hi:ids.length<=1000):
  Pure Tryz.prog aD 108 [.agg (Qa p),.sl .ro (ids.map Qy),I at_,.sl .ro (past.map Vj)] (RN p at_ past ids):=by
 have Fb:=h;obtain⟨l1,l2,l3,l4,l5,l6,l7,l8,l9,l10⟩:=h;refine Qp abU j4 zd ?_;simp[MH,Qa,j4];have k41:=fun K'=>yM (yL p ids) [] p at_ past .ro zE zE zE Y0 K';simp only[yL,Qa]at k41;refine k41 _ fun ex=>?_;clear k41;simp[j4,aP,aW,Qo,Qa];refine aac Fb ha hp (yL p ids) ex [] [] [] [] (amO p at_ past) ids hi .ro Y0 _ (fun a rv li pm gH exl hB hr=>?_);obtain⟨h0,rfl⟩|⟨l,rt,h1,hO,rfl⟩:=hr
 ·have bV:ou (gI p at_ past) ids=false:=by rw[va,h0];rfl
  rw[bV];obtain⟨E,hE⟩:∃E,ex++gH=E:=⟨_,rfl⟩;rw[hE];simp[j4,aP,aW,Qo,yL,Qa,lS,gI];refine⟨zE,?_⟩;refine Qi BY (att p ids (gI p at_ past) E (Ky p at_ past ids)) (fun f _=>(3-numOf (f 36)).toNat) ?_ ?_
  ·exact⟨0,List.replicate ids.length false,rv,li,pm,[],exl,zd,zE,zd,rfl,hB,by simp[zu,aP,aW,Qo,yL,di,Qa,lS,gI,rF]⟩
  clear hB;rintro f m ⟨r,K,rv,li,pm,DO,ls,h36,OA,hK,hT,hB,rfl⟩;rcases zzaa r 3 with rlt|rge
  ·have ax1:(r:Int)<3:=zE
   have ri:=bO r zE;obtain⟨n,hn⟩:∃n,3-r=n+1:=⟨2-r,zE⟩;rw[hn,chF]at hT;obtain⟨T,hTr⟩:∃T,Jd (ou (gI p at_ past)) (RK p) ids r K=T:=⟨_,rfl⟩;rw[hTr]at hT;rw[RM]at hTr;simp[h36,rlt,ax1,BY,zu,aP,aW,yL,di,lS,gI];refine Qi I3 (atu p ids (gI p at_ past) E r T) (fun f _=>ids.length-(numOf (f 41)).toNat) ?_ ?_
   ·exact⟨0,K,rv,li,pm,DO,ls,zd,zE,hK,Nm hTr,hB,by simp[zu,aP,aW,yL,di,lS,gI]⟩
   clear hTr hK hB;rintro g m ⟨i,K,rv,li,pm,DO,ls,g41,je,hK,hTi,hB,rfl⟩;rcases zzaa i ids.length with ah|bq
   ·obtain⟨id,hx⟩:=aV ah;have ai:Qh (ids.map Qy) i=Qy id:=Qu (by simp[hx]);have aa:(i:Int)<(ids.length:Int):=zE
    have hw:=bO i zE;obtain⟨n2,vV⟩:∃n2,ids.length-i=n2+1:=⟨ids.length-i-1,zE⟩;have hn3:ids.length-(i+1)=n2:=zE
    rw[vV,stF,aaa hx]at hTi;simp[g41,ah,aa,ai,Qy,I3,zu,aP,aW,yL,di,lS,gI,j4];refine afz (yL p ids) (di E ids.length K DO) ls (lS (gI p at_ past) rv li pm) id Y0 _ (fun exr=>?_);have hpb:(lS (gI p at_ past) rv li pm).p=p:=rfl;rw[hpb];by_cases iM:RK p id=r
    ·rw[if_pos iM]at hTi;have amP:((RK p id:Nat):Int)=(r:Int):=zE
     have hms:(K.map AV.bool).set i (.bool true)=(K.set i true).map AV.bool:=by rw[zzfh]
     simp[amP,aP,aW,yL,di,lS,gI,j4];refine⟨ah,zE,?_⟩;rw[hms];obtain⟨S,hS⟩:∃S,Xb true ids (K.set i true)=S:=⟨_,rfl⟩;have hSl:S.length<=1000:=by have:=p9 true ids (K.set i true);rw[hS]at this;omega
     have hK2:(K.set i true).length=ids.length:=by simpa using hK
     rw[hS]at hTi;obtain⟨ok,atv⟩:∃ok,ou (gI p at_ past) S=ok:=⟨_,rfl⟩;rw[atv]at hTi
     refine ZS rfl [(.sl (rN ls.length S) (S.map Qy),zu p ids (lS (gI p at_ past) rv li pm) E (K.set i true) (DO++exr) (ls++nV S))] (ax0 p ids (gI p at_ past) E (K.set i true) (DO++exr) (ls++nV S) S)
      ⟨(.aS [.sl .nil [],.bool (ou (gI p at_ past) S)],zu p ids (lS (gI p at_ past) rv li pm) E (K.set i true) ((DO++exr)++[]) ((ls++nV S)++[])),.sl .nil [],rv,li,pm,[],[],rfl,hB,rfl⟩ (fun v m' hv=>?_)
     obtain⟨a,rv2,tu,Oh,RO,amQ,rfl,A9,rfl⟩:=hv;rw[atv];simp[zu,aP,aW,yL,di,lS,gI,j4,hw];rw[hms];have azi:(K.map AV.bool).set i (.bool ok)=(K.set i ok).map AV.bool:=by rw[zzfh]
     refine⟨?_,?_,ah,zE,aQ,⟨i+1,K.set i ok,rv2,tu,Oh,(DO++exr)++RO,ls++nV S++amQ,zd,zE,Nm hK,by rw[hn3];exact hTi,A9,by simp[zu,aP,aW,yL,di,lS,gI]⟩,by simp[g41];omega⟩
     ·refine aab (p:=p) hi (lS (gI p at_ past) rv li pm) E (K.set i true) hK2 (DO++exr) ls true Y0 _ ?_;rw[hS];exact⟨rfl,rfl⟩
     refine aac Fb ha hp (yL p ids) (di E ids.length (K.set i true) (DO++exr)) (ls++nV S) rv li pm hB S hSl _ Y0 _ (fun a rv li pm ex exl hB _=>⟨a,rv,li,pm,ex,exl,rfl,hB,by simp[zu,di];rfl⟩)
    rw[if_neg iM]at hTi;have amP:¬((RK p id:Nat):Int)=(r:Int):=zE
    simp[amP,aP,aW,yL,di,lS,gI,j4,hw];refine⟨aQ,⟨i+1,K,rv,li,pm,DO++exr,ls,zd,zE,hK,by rw[hn3];exact hTi,hB,by simp[zu,aP,aW,yL,di,lS,gI]⟩,zE⟩
   have bQ:¬(i:Int)<(ids.length:Int):=zE
   have hz:ids.length-i=0:=zE
   rw[hz,stF]at hTi;subst hTi;simp[g41,bQ,zzbk.2 bq,I3,BY,h36,zu,aP,aW,yL,di,lS,gI,ri];refine⟨aQ,⟨r+1,K,rv,li,pm,DO,ls,zd,zE,hK,by rw[show 3-(r+1)=n by omega];exact hT,hB,by simp[zu,aP,aW,yL,di,lS,gI]⟩,zE⟩
  have rin:¬(r:Int)<3:=zE
  obtain rfl:r=3:=zE
  have hT:K=Ky p at_ past ids:=hT;subst hT;obtain⟨ka,kb,kc⟩:=yN p at_ past ids;obtain⟨L,hL⟩:=zzbz.1 kb;simp[h36,BY,zu,aP,aW,yL,di,lS,gI,j4];refine aab (p:=p) hi (lS (gI p at_ past) rv li pm) E (Ky p at_ past ids) ka DO ls true Y0 _ ?_;obtain⟨S,hS⟩:∃S,Xb true ids (Ky p at_ past ids)=S:=⟨_,rfl⟩;have hSl:S.length<=1000:=by have:=p9 true ids (Ky p at_ past ids);rw[hS]at this;omega
  have hr:RN p at_ past ids=.aS [IM L,Hp (Xb false ids (Ky p at_ past ids))]:=by rw[RN,hL];rfl
  rw[hr];rw[hS]at hL |-
  simp[zu,aP,aW,yL,di,lS,gI,j4];refine aac Fb ha hp (yL p ids) (di E ids.length (Ky p at_ past ids) DO) (ls++nV S) rv li pm hB S hSl _ Y0 _ (fun a rv li pm RO amQ hB hv=>?_);obtain⟨h0,_⟩|⟨l,rt,h1,hO,rfl⟩:=hv
  ·rw[hL]at h0;cases h0
  rw[hL]at h1;cases h1;simp[zu,aP,aW,yL,di,lS,gI,j4];refine aab (p:=p) hi (lS (gI p at_ past) rv li pm) E (Ky p at_ past ids) ka (DO++RO) (ls++(nV S++amQ)) false Y0 _ ?_;obtain⟨D,hD⟩:∃D,Xb false ids (Ky p at_ past ids)=D:=⟨_,rfl⟩;rw[hD];by_cases hDe:D=[]
  ·subst hDe;obtain⟨rfl,rfl⟩|⟨k2,rfl,_,_,aO⟩:=hO
   ·simp[vp,IM,Hp,rN]
   simp[vp,IM,Hp,rN,aO]
  obtain⟨rfl,rfl⟩|⟨k2,rfl,_,_,aO⟩:=hO
  ·simp[vp,IM,Hp,rN,hDe]
  simp[vp,IM,Hp,rN,hDe,aO]
 have bV:ou (gI p at_ past) ids=true:=by rw[va,h1];rfl
 obtain⟨dF,ef⟩:=RP p at_ past ids (by rw[h1];rfl);have hr:RN p at_ past ids=.aS [IM l,.sl .nil []]:=by rw[RN,dF,ef,h1];rfl
 rw[bV,hr];obtain⟨rfl,rfl⟩|⟨k2,rfl,_,_,aO⟩:=hO
 ·simp[vp,IM]
 simp[vp,IM,aO]
open Go Go.Abs
def Hq:SC:=(⟨_,by cbv⟩:J5 [1,1,1,1,1,1,1,1] IU).1
def Hr:SC:=(⟨_,fun _=>by cbv⟩:Fs [1,1] (oS [1,1,1,1,1,1] IU)).1 Hq
def OB:SC:=(⟨_,fun _=>by cbv⟩:Fs [1,1] (oS [1,1,1,1] IU)).1 Hr
def atw:SC:=(⟨_,fun _=>by cbv⟩:Fs [1,1,1,1] IU).1 OB
theorem afA:IU=atw:=rfl
def Jc(l:Pi):Pi:=l.mergeSort fun x y=>decide (x<=y)
def rO(l:Pi):(Jc l).length=l.length:=zzeu l
def OC(l:Pi):(l.map Qy).flatten=aj l:=by
 induction l with
 |nil=>rfl
 |cons a r ih=>simp only[zzas,zzcj,ih];rfl
def uh{α:Type}(l:List α):Rt:=if l=[]then .nil else .ro
def ajc:∀{l:Pi},l≠[]->dd l≠[]
 |[],h=>absurd rfl h
 |[x],_=>by simp[dd]
 |x::y::r,_=>by
  rw[FH];split
  ·exact ajc zd
  simp
def gZ(n:Nat)(m:AM)(V:AV)(rows:T5):Prop:=Qx V=true/\∀m':AM,m.boxes.length<=m'.boxes.length->(∀j,n<=j->j<m.boxes.length->Qh m'.boxes j=Qh m.boxes j)->∀d,bA m' (d+2) V=.sl (uh rows) rows
def gZ.mono{n n':Nat}{m:AM}{V:AV}{rows:T5}(h:gZ n m V rows)(hn:n'<=n):gZ n' m V rows:=⟨h.1,fun m' h1 h2 d=>h.2 m' h1 (fun j q1 q2=>h2 j zE q2) d⟩
def aae(Y:YT)(m:AM)(rt:Rt)(K:So)(hK:K (.sl rt []) m):aB Tryz.prog aD Y 111 [.sl rt []] m K:=by
 obtain⟨mb,ml,ms,mn⟩:=m;refine Xl BZ (fun _ _ _=>.junk) zd ?_;simp[vq,An];exact hK
def bC.pre{id:Nat}{mb X B':T5}(h:bC (·=id) (mb++X) B')(aL:mb.length<=id):∃ex,B'=mb++ex:=by
 refine⟨B'.drop mb.length,?_⟩;apply zzdb;intro j;have hl:=h.1;simp only[zzak]at hl;rcases zzaa j mb.length with hj|hj
 ·rw[zzaj hj];have:=h.2 j (by simp;omega) zE;rw[Jj zE,this,Jj hj,Qn hj]
 rw[zzap hj,zzbl];congr 1;omega
def gZ.ints{B:T5}{L:Pa}{st:Nat->LS}{n k id:Nat}{l:Pi}{c:P2}(hk:k<=id)(aL:id<B.length)(hB:Qh B id=aj l++c)(hc:Zl c=true)(aO:l≠[]):gZ k ⟨B,L,st,n⟩ (.bs id 0 l.length 1) (l.map Qy):=by
 have aX:uh (l.map Qy)=.ro:=by unfold uh;rw[if_neg (Nm aO)]
 rw[gZ,aX];refine⟨rfl,fun m' h1 h2 d=>?_⟩;have hr:=h2 id hk aL;simp only at hr h1
 have bV:Zl (aj l++c)=true:=by
  have:=WY l;unfold Zl at this hc |-
  rw[zzfe,this,hc];rfl
 rw[ZK,Yb];rw[hr,hB,Va _ _ bV,if_pos (by rw[zzak,Uf];omega),zzdc,wX];rfl
def Hs(Y:YT)(orc:UV)(ho5:orc 95 999999 []=.aJ 0 [])(ho7:orc 97 999999 []=.aJ 0 [])(hs:∀d l,orc d 110 l=.gd false .junk)(hp:∀d l,orc d 111 l=.gd false .junk)
  (E:QQ)(mb:T5)(ml:Pa)(ms:Nat->LS)(mn:Nat)(g:Pg)(f:Int)(mid k3:Nat)(V8:AV)(rD:Rt)(D:Pi)(Q:R0)
  (h3:Abs.look E 3=.ptr k3 0)(Bx:k3<mb.length)(OA:Qh mb k3=Qr g f mid)(h8:Abs.look E 8=V8)(KK:Abs.look E 16=.sl rD (D.map Qy))(gP:g.dr.length<=1000000)(CT:D.length<=1000000)
  (hQ:∀E' ex vd,Abs.look E' 6=V8->Abs.look E' 7=vd->gZ mb.length ⟨mb++ex,ml,ms,mn⟩ vd ((dd (Jc (g.dr++D))).map Qy)->Q .ret ⟨Vx 103 E',⟨mb++ex,ml,ms,mn⟩⟩):
  vc Tryz.prog aD orc Y Hq ⟨Vx 103 E,⟨mb,ml,ms,mn⟩⟩ Q:=by
 simp only[Qr,Qj,Qa,zzae,zzai]at OA
 have fin:∀(X:T5)(id:Nat)(K:AV->AV->AM->Prop),mb.length<=id->id<(mb++X).length->Qh (mb++X) id=aj (g.dr++D)->g.dr++D≠[]->
   (∀ex vd,gZ mb.length ⟨mb++ex,ml,ms,mn⟩ vd ((dd (Jc (g.dr++D))).map Qy)->K (.aS []) vd ⟨mb++ex,ml,ms,mn⟩)->
   aB Tryz.prog aD Y 110 [.bs id 0 (g.dr++D).length 1] ⟨mb++X,ml,ms,mn⟩ (fun r0 m'=>aB Tryz.prog aD Y 111 [.bs id 0 (g.dr++D).length 1] m' (K r0)):=by
  intro X id K cE ah ai aO hK;refine sH Y (g.dr++D) (by simp;omega) _ id [] (by rw[zzar];exact Ke ah ai) (by rw[zzar];intro h;have:=congrArg List.length h;rw[Uf]at this;exact aO (zzbe this)) _ ?_;have aH:(g.dr++D).length=(Jc (g.dr++D)).length:=(rO _).symm;rw[aH];have fK:Jc (g.dr++D)≠[]:=fun h=>aO (by have:=congrArg List.length h;rw[rO]at this;exact zzbe this);refine sE Y (Jc (g.dr++D)) (by rw[<- aH];simp;omega) _ _ _ _ id (Nm ah) fK ?_ _ ?_
  ·rw[zzar];exact Qu (by rw[zzbg ah];first|rfl|(rw[zzar];rfl))
  intro B' z nB eS _
  have bS:(mb++X).set id (aj (List.mergeSort (g.dr++D) fun x y=>decide (x<=y))++[])=mb++X.set (id-mb.length) (aj (List.mergeSort (g.dr++D) fun x y=>decide (x<=y))++[]):=by
   rw[zzdi _ _ cE]
  rw[bS]at nB;obtain⟨ex,rfl⟩:=bC.pre nB cE;refine hK ex _ ?_;have ax2:id<(mb++ex).length:=by have:=nB.1;simp at this ah |-;omega
  rw[nA]at eS;exact gZ.ints cE ax2 eS (WY z) (ajc fK)
 have hR3:∀ex,Qh (mb++ex) k3=_:=fun ex=>(Qn Bx).trans OA;have hm5:mutO orc (some 95)=true:=by unfold mutO;simp[ho5]
 have hm7:mutO orc (some 97)=true:=by unfold mutO;simp[ho7]
 simp only[zzak]at fin;by_cases ei:g.dr=[]
 ·by_cases hD:D=[]
  ·simp[Hq,h3,h8,KK,OA,ei,hD,hs,hp,ho5,ho7];refine pq _ _ _ _ ?_;refine aae _ _ _ _ ?_;have:=fun E' vd h1 h2 h3=>hQ E' [] vd h1 h2 h3;simp only[zzar]at this;refine this _ _ zd (by simp;rfl) ?_;rw[ei,hD];refine⟨rfl,fun m' h1 h2 d=>?_⟩;simp[Jc,dd,uh]
  have aO:g.dr++D≠[]:=by simp[hD]
  have fB:¬aj D=[]:=fun h=>hD (by have:=congrArg List.length h;rw[Uf]at this;exact zzbe this);rw[ei]at fin hQ aO;simp only[zzco,zzbs,zzai]at fin hQ;have ri:∀a∈D,(Qy a).length=1:=fun _ _=>rfl;simp[Hq,h3,h8,KK,OA,ei,hD,hs,hp,ho5,ho7,OC,Uf];refine⟨⟨zE,ri⟩,fin [aj D] mb.length _ (zzab _) zd zd hD ?_⟩;intro ex vd hv;exact hQ _ _ _ zd zd hv
 have aO:g.dr++D≠[]:=by simp[ei]
 have fB:¬aj g.dr=[]:=fun h=>ei (by have:=congrArg List.length h;rw[Uf]at this;exact zzbe this);have ri:∀a∈D,(Qy a).length=1:=fun _ _=>rfl;have ax3:∀a∈g.dr,(Qy a).length=1:=fun _ _=>rfl;have bB:List.take g.dr.length (aj g.dr)=aj g.dr:=zzau (by rw[Uf];exact zzab _);simp[Hq,h3,h8,KK,OA,ei,hs,hp,ho5,OC,Uf,fB,bB];refine⟨⟨zE,ax3⟩,⟨zE,ri⟩,fin [[],aj g.dr++aj D] (mb.length+1) _ zE zd (by simp[nA]) aO ?_⟩;intro ex vd hv;exact hQ _ _ _ zd zd hv
open Go Go.Abs
def DP(rt zi:Rt):Prop:=∀m d x,bA m (d+1) (.sl rt x)=.sl zi x
def DP.ro:DP .ro .ro:=fun _ _ _=>rfl
def DP.nil:DP .nil .nil:=fun _ _ _=>rfl
def DP.own(k s:Nat):DP (.own k s) .ro:=fun _ _ _=>rfl
def LP{α:Type}(l:List α):DP (uh l) (uh l):=by
 unfold uh;split
 ·exact DP.nil
 exact DP.ro
def EvW(ml:Pa)(rt:Rt)(n:Nat):Prop:=(rt=.nil/\n=0)\/∃k,rt=.own k 7/\ml[k]?=some n
def aaf(Y:YT)(orc:UV)(ho5:orc 95 999999 []=.aJ 0 [])(ho7:orc 97 999999 []=.aJ 0 [])(ho1:orc 91 999999 []=.junk)(hs:∀d l,orc d 110 l=.gd false .junk)(hp:∀d l,orc d 111 l=.gd false .junk)
  (E:QQ)(mb:T5)(ml:Pa)(ms:Nat->LS)(mn:Nat)(g:Pg)(f:Int)(mid k3 k5:Nat)(q:Pl)(d:Int)(rte ce rti ci rL rD:Rt)(ev bl:List bn)(en:Int)(ids D:Pi)(L:List Sp)(past:List Ad)(Q:R0)
  (atx:∀d l,orc d 109 l=.sl .ro (past.map Vj))(aty:∀d l,orc d 108 l=.aS [.sl rL (L.map Qe),.sl rD (D.map Qy)])(h62:∀d l,orc d 67 l=.sl .ro (bl.map Qf))
  (afB:Pure Tryz.prog aD 109 [.sl ce (ev.map Zu),I en] (.sl .ro (past.map Vj)))
  (aag:Pure Tryz.prog aD 108 [.agg (Qa q),.sl ci (ids.map Qy),I en,.sl .ro (past.map Vj)] (.aS [.sl rL (L.map Qe),.sl rD (D.map Qy)]))
  (XY:Pure Tryz.prog aD 67 [.agg (Qa q),.sl rL (L.map Qe),I en] (.sl .ro (bl.map Qf)))
  (hce:DP rte ce)(hci:DP rti ci)(hcL:DP rL rL)
  (h3:Abs.look E 3=.ptr k3 0)(Bx:k3<mb.length)(OA:Qh mb k3=Qr g f mid)(h5:Abs.look E 5=.ptr k5 0)(hk5:k5<mb.length)(hr5:Qh mb k5=Qa q++[I d])
  (h8:Abs.look E 8=.sl rte (ev.map Zu))(ax4:EvW ml rte ev.length)(h9:Abs.look E 9=I en)(qu:Abs.look E 12=.sl rti (ids.map Qy))
  (gP:g.dr.length<=1000000)(CT:D.length<=1000000)(hl3:ev.length<=1000000)(hl4:bl.length<=10000000)
  (hQ:∀E' ex ls ke vd,Abs.look E' 6=.sl (.own ke 7) (ev.map Zu++bl.map Qf)->Abs.look E' 7=vd->gZ mb.length ⟨mb++ex,ls,ms,mn⟩ vd ((dd (Jc (g.dr++D))).map Qy)->Q .ret ⟨Vx 103 E',⟨mb++ex,ls,ms,mn⟩⟩):
  vc Tryz.prog aD orc Y Hr ⟨Vx 103 E,⟨mb,ml,ms,mn⟩⟩ Q:=by
 have atz:=fun m d x=>hce m d x;have atA:=fun m d x=>hci m d x;have atB:=fun m d x=>hcL m d x;simp only[Qa,zzae,zzai]at hr5;simp only[Qa]at aag XY;have hR5:∀ex,Qh (mb++ex) k5=_:=fun ex=>(Qn hk5).trans hr5;have hw7:∀a∈ev,(Zu a).length=7:=fun _ _=>rfl;have ax5:∀a∈bl,(Qf a).length=7:=fun _ _=>rfl;obtain⟨rfl,hn⟩|⟨k,rfl,hk⟩:=ax4
 ·have he:ev=[]:=zzbe hn;subst he;simp[Hr,h8,h9,qu,h5,hr5,atz,atA,atB,atx,aty,h62,ho1];refine⟨afB,aag,XY,⟨ax5,zE⟩,Hs Y orc ho5 ho7 hs hp _ mb _ ms mn g f mid k3 (.sl (.own ml.length 7) (bl.map Qf)) rD D Q (by simp[h3]) Bx OA zd zd gP CT ?_⟩;intro E' ex vd q1 q2 q3;exact hQ E' ex _ ml.length vd (by rw[q1];rfl) q2 q3
 simp[Hr,h8,h9,qu,h5,hr5,atz,atA,atB,atx,aty,h62,hk];refine⟨afB,aag,XY,⟨?_,zE⟩,Hs Y orc ho5 ho7 hs hp _ mb _ ms mn g f mid k3 (.sl (.own k 7) (ev.map Zu++bl.map Qf)) rD D Q (by simp[h3]) Bx OA zd zd gP CT ?_⟩
 ·rintro row (⟨a,_,rfl⟩|⟨a,_,rfl⟩)<;>rfl
 intro E' ex vd q1 q2 q3;exact hQ E' ex _ k vd q1 q2 q3
open Go Go.Abs
def RQ(g:Pg)(b:QR)(e:En):Bool:=!gG b e.id&&!decide (e.id∈g.dr)
def Yp(g:Pg)(b:QR)(l:List En):Pi:=(l.filter (RQ g b)).map (·.id)
def RR(g:Pg)(b:QR)(l:List En)(e:En):Yp g b (l++[e])=Yp g b l++(if RQ g b e then[e.id]else[]):=by
 unfold Yp;rw[zzde,zzci];congr 1;cases h:RQ g b e<;>simp[h]
def j5(g:Pg)(b:QR)(l:List En):(Yp g b l).length<=l.length:=by
 unfold Yp;rw[zzbv];exact zzcc _ _
def IdR(ml ls:Pa)(rt:Rt)(n:Nat):Prop:=(rt=.nil/\n=0/\ls=ml)\/(rt=.own ml.length 1/\n≠0/\ls=ml++[n])
def atC(g:Pg)(b:QR)(q:Pl)(mb:T5)(ml:Pa)(ms:Nat->LS)(mn:Nat)(s:Nat->AV)(m:AM):Prop:=
 ∃(i:Nat)(bx:T5)(rt:Rt)(ls:Pa),s 49=I i/\i<=q.ens.length/\m=⟨mb++bx,ls,ms,mn⟩/\s 12=.sl rt ((Yp g b (q.ens.take i)).map Qy)/\IdR ml ls rt (Yp g b (q.ens.take i)).length
def aah(Y:YT)(orc:UV)(atD:orc 72 999999 []=.junk)(afC:orc 71 999999 []=.junk)
  (E:QQ)(mb:T5)(ml:Pa)(ms:Nat->LS)(mn:Nat)(g:Pg)(f:Int)(mid k3 k5:Nat)(b:QR)(q:Pl)(d:Int)(Q:R0)
  (LQ:∀d id,orc d 107 [.sl .ro (g.dr.map Qy),I id]=.bool (decide (id∈g.dr)))
  (h3:Abs.look E 3=.ptr k3 0)(Bx:k3<mb.length)(OA:Qh mb k3=Qr g f mid)(h5:Abs.look E 5=.ptr k5 0)(hk5:k5<mb.length)(hr5:Qh mb k5=Qa q++[I d])(hb:fP mb mid b)
  (gP:g.dr.length<=1000000)(CT:q.ens.length<=1000000)
  (hQ:∀E' ex rt ls,(∀k,k≠12->k<14->Abs.look E' k=Abs.look E k)->Abs.look E' 12=.sl rt ((Yp g b q.ens).map Qy)->IdR ml ls rt (Yp g b q.ens).length->vc Tryz.prog aD orc Y Hr ⟨Vx 103 E',⟨mb++ex,ls,ms,mn⟩⟩ Q):
  vc Tryz.prog aD orc Y OB ⟨Vx 103 E,⟨mb,ml,ms,mn⟩⟩ Q:=by
 simp only[Qr,Qj,Qa,zzae,zzai]at OA hr5;have hR3:∀ex,Qh (mb++ex) k3=_:=fun ex=>(Qn Bx).trans OA;have hR5:∀ex,Qh (mb++ex) k5=_:=fun ex=>(Qn hk5).trans hr5;have hRm:∀ex,Qh (mb++ex) mid=[.aJ 0 (bG .bool b)]:=hb.ext;have hk:∀id,Pure Tryz.prog aD 107 [.sl .ro (g.dr.map Qy),I id] (.bool (decide (id∈g.dr))):=fun id=>jY g.dr id zE;simp[OB,h5,hr5];refine Qi oy (atC g b q mb ml ms mn) (fun s _=>q.ens.length-(numOf (s 49)).toNat) ?_ ?_
 ·exact⟨0,[],.nil,ml,zd,zE,zd,by simp[Yp],.inl ⟨rfl,by simp[Yp],rfl⟩⟩
 rintro s m ⟨i,bx,rt,ls,h49,hi,rfl,qu,aX⟩;rcases zzaa i q.ens.length with ah|bq
 ·obtain⟨x,hx⟩:=aV ah;have ai:Qh (q.ens.map Qd) i=Qd x:=Qu (by simp[hx]);have aa:(i:Int)<(q.ens.length:Int):=zE
  have hw:=bO i zE;have bB:q.ens.take (i+1)=q.ens.take i++[x]:=by rw[zzb,hx];rfl
  have FO:Yp g b (q.ens.take (i+1))=Yp g b (q.ens.take i)++(if RQ g b x then[x.id]else[]):=by rw[bB,RR]
  have je:=j5 g b (q.ens.take i);rw[zzaq]at je;have skip:RQ g b x=false->Yp g b (q.ens.take (i+1))=Yp g b (q.ens.take i):=fun h=>by rw[FO,h];simp
  have more:RQ g b x=true->Yp g b (q.ens.take (i+1))=Yp g b (q.ens.take i)++[x.id]:=fun h=>by rw[FO,h];simp
  generalize Yp g b (q.ens.take i)=O at*
  generalize cO:Yp g b (q.ens.take (i+1))=O' at*
  have ri:∀a∈O,(Qy a).length=1:=fun _ _=>rfl;rcases Xv AV.bool x.id b 0 with⟨b1,b2,_⟩|⟨u,u',b1,b2,_⟩
  ·by_cases ei:x.id∈g.dr
   ·have e1:=skip (by simp[RQ,ei]);simp[h49,aa,ai,Qd,oy,hw,h3,hR3,hRm,b2,ei,LQ,qu];refine⟨by simpa[ei]using hk x.id,aQ,⟨i+1,_,rt,ls,zd,zE,rfl,by rw[cO,e1];simp,by rw[cO,e1];exact aX⟩,zE⟩
   have e1:=more (by simp[RQ,ei,gG,b1]);obtain⟨rfl,hn,rfl⟩|⟨rfl,hn,rfl⟩:=aX
   ·have hO:O=[]:=zzbe hn;subst hO;simp[h49,aa,ai,Qd,oy,hw,h3,hR3,hRm,b2,ei,LQ,qu,atD,afC];refine⟨by simpa[ei]using hk x.id,aQ,⟨i+1,_,_,_,zd,zE,rfl,by rw[cO,e1];simp[Qy];rfl,by rw[cO,e1];exact .inr ⟨rfl,zd,zd⟩⟩,zE⟩
   simp[h49,aa,ai,Qd,oy,hw,h3,hR3,hRm,b2,ei,LQ,qu,afC];refine⟨by simpa[ei]using hk x.id,⟨?_,zE⟩,aQ,⟨i+1,_,_,_,zd,zE,rfl,by rw[cO,e1];simp[Qy];rfl,by rw[cO,e1];exact .inr ⟨rfl,zd,zd⟩⟩,zE⟩
   ·rintro row (⟨a,_,rfl⟩|rfl)<;>rfl
  cases u with
  |true=>
   have e1:=skip (by simp[RQ,gG,b1]);simp[h49,aa,ai,Qd,oy,hw,h3,hR3,hRm,b2,LQ,qu];refine⟨aQ,⟨i+1,_,rt,ls,zd,zE,rfl,by rw[cO,e1];simp,by rw[cO,e1];exact aX⟩,zE⟩
  |false=>
   by_cases ei:x.id∈g.dr
   ·have e1:=skip (by simp[RQ,ei]);simp[h49,aa,ai,Qd,oy,hw,h3,hR3,hRm,b2,ei,LQ,qu];refine⟨by simpa[ei]using hk x.id,aQ,⟨i+1,_,rt,ls,zd,zE,rfl,by rw[cO,e1];simp,by rw[cO,e1];exact aX⟩,zE⟩
   have e1:=more (by simp[RQ,ei,gG,b1]);obtain⟨rfl,hn,rfl⟩|⟨rfl,hn,rfl⟩:=aX
   ·have hO:O=[]:=zzbe hn;subst hO;simp[h49,aa,ai,Qd,oy,hw,h3,hR3,hRm,b2,ei,LQ,qu,atD,afC];refine⟨by simpa[ei]using hk x.id,aQ,⟨i+1,_,_,_,zd,zE,rfl,by rw[cO,e1];simp[Qy];rfl,by rw[cO,e1];exact .inr ⟨rfl,zd,zd⟩⟩,zE⟩
   simp[h49,aa,ai,Qd,oy,hw,h3,hR3,hRm,b2,ei,LQ,qu,afC];refine⟨by simpa[ei]using hk x.id,⟨?_,zE⟩,aQ,⟨i+1,_,_,_,zd,zE,rfl,by rw[cO,e1];simp[Qy];rfl,by rw[cO,e1];exact .inr ⟨rfl,zd,zd⟩⟩,zE⟩
   ·rintro row (⟨a,_,rfl⟩|rfl)<;>rfl
 have hbf:q.ens.take i=q.ens:=zzau bq;rw[hbf]at qu aX;have bQ:¬(i:Int)<(q.ens.length:Int):=zE
 simp[h49,bQ,oy];refine hQ _ _ rt ls (fun k h1 h2=>?_) (by simp[qu]) aX;have:k=0\/k=1\/k=2\/k=3\/k=4\/k=5\/k=6\/k=7\/k=8\/k=9\/k=10\/k=11\/k=13:=zE
 rcases this with rfl|rfl|rfl|rfl|rfl|rfl|rfl|rfl|rfl|rfl|rfl|rfl|rfl<;>simp
open Go Go.Abs
def zw(g:Pg)(f:Int)(b:QR)(o:Od)(q:Pl)(d:Int):Option bn:=match Ul g f b with
 |none=>none
 |some e=>match DI g f o q d e with
  |none=>none
  |some F=>if F=0 then none else some ⟨e.id,e.it,f,F,e.i+(f-e.st),rI q f e.it F q.rg.toNat,jZ q f e.id F ((Xw e.id q.ens).getD u7).al,decide (jZ q f e.id F ((Xw e.id q.ens).getD u7).al=[])⟩
def zx(e:bn):bn:={e with nl:=false}
def Us(g:Pg)(f:Int)(b:QR)(o:Od)(q:Pl)(d:Int):List bn:=(Zd f g.ev).map zx++(zw g f b o q d).toList
def Uc(g:Pg)(f:Int)(b:QR)(o:Od)(q:Pl)(d:Int):Int:=match zw g f b o q d with
 |none=>f
 |some e=>f+e.fr
def mG(g:Pg)(f:Int)(b:QR)(o:Od)(q:Pl)(d:Int):List Ad:=RD (Us g f b o q d) (Uc g f b o q d)
def RS(g:Pg)(f:Int)(b:QR)(o:Od)(q:Pl)(d:Int):List Bool:=Ky q (Uc g f b o q d) (mG g f b o q d) (Yp g b q.ens)
def Vt(g:Pg)(f:Int)(b:QR)(o:Od)(q:Pl)(d:Int):List Sp:=(Yo q (Uc g f b o q d) (mG g f b o q d) (Xb true (Yp g b q.ens) (RS g f b o q d))).getD []
def Kz(g:Pg)(f:Int)(b:QR)(o:Od)(q:Pl)(d:Int):Pi:=Xb false (Yp g b q.ens) (RS g f b o q d)
def Wd(g:Pg)(f:Int)(b:QR)(o:Od)(q:Pl)(d:Int):List bn:=tZ q (Vt g f b o q d) (Uc g f b o q d)
def Ht(l:List Sp):IM l=.sl (uh l) (l.map Qe):=by
 unfold IM uh;split
 ·rename_i h;rw[h];rfl
 rfl
def afD(l:Pi):Hp l=.sl (uh l) (l.map Qy):=by
 unfold Hp uh;split
 ·rename_i h;rw[h];rfl
 rfl
def yO(l:List bn):(l.map zx).map Zu=l.map Qf:=by
 rw[zzcu];exact zzcr fun e _=>rfl
def BG(l:List bn):(l.map zx).map Qf=l.map Qf:=by
 rw[zzcu];exact zzcr fun e _=>rfl
def OD(g:Pg)(past:List Ad)(L:List Sp)(D:Pi)(bl:List bn):UV:=fun dst fn l=>
 if fn=109 then .sl .ro (past.map Vj)else if fn=108 then .aS [.sl (uh L) (L.map Qe),.sl (uh D) (D.map Qy)]else if fn=67 then .sl .ro (bl.map Qf)
 else if fn=107 then(match l with|[_,.int _ id]=>.bool (decide (id∈g.dr))|_=>.junk)else if fn=999999 then(if dst=95\/dst=97 then .aJ 0 []else .junk)else .gd false .junk
structure Hu (g:Pg) (f:Int) (b:QR) (o:Od) (q:Pl) (d:Int):Prop where
 mo:lQ g f
 pl:Br q
 pk:PlK q
 d0:0<=d/\d<=1000000000
 rg:0<=q.rg/\q.rg<=8
 f0:0<=f/\f<=1000000
 ev:g.ev.length<=2000
 dr:g.dr.length<=1000000
 ln:q.ln<=1000000
 cu:∀e,zw g f b o q d=some e->Jt e
 en:0<=Uc g f b o q d/\Uc g f b o q d<=1000000
 st:∀s∈Vt g f b o q d,-1000000000<=s.2/\s.2<=1000000000
def lz{g:Pg}{f:Int}{b:QR}{o:Od}{q:Pl}{d:Int}(h:Hu g f b o q d):(Us g f b o q d).length<=2001/\∀e∈Us g f b o q d,Jt e:=by
 have h1:=Qdt f g.ev;have h2:=nU f h.f0.2 g.ev h.mo.2.1;refine⟨?_,fun e he=>?_⟩
 ·have:=h.ev;have h3:(zw g f b o q d).toList.length<=1:=by cases zw g f b o q d<;>simp
  simp only[Us,zzak,zzbv];omega
 rcases zzao.1 he with he|he
 ·obtain⟨x,hx,rfl⟩:=zzav.1 he;exact h2 x hx
 exact h.cu e (by cases hc:zw g f b o q d with
  |none=>rw[hc]at he;simp at he
  |some x=>rw[hc]at he;simp at he;rw[he])
def aai{g:Pg}{f:Int}{b:QR}{o:Od}{q:Pl}{d:Int}(h:Hu g f b o q d):(mG g f b o q d).length<=2001:=by
 have h1:=Hg (Zd (Uc g f b o q d) (Us g f b o q d)) none [];have h2:=Qdt (Uc g f b o q d) (Us g f b o q d);have h3:=(lz h).1;simp only[zzco]at h1;unfold mG RD;omega
def afE{g:Pg}{f:Int}{b:QR}{o:Od}{q:Pl}{d:Int}(h:Hu g f b o q d)(ce:Rt):Pure Tryz.prog aD 109 [.sl ce ((Us g f b o q d).map Zu),I (Uc g f b o q d)] (.sl .ro ((mG g f b o q d).map Vj)):=
 Xz (LJ (Us g f b o q d) (Uc g f b o q d) (by have:=(lz h).1;omega) (lz h).2 h.en) ⟨Wk.trans (Wk.sl _ _) (K8 _),Ps,trivial⟩
def afF{g:Pg}{f:Int}{b:QR}{o:Od}{q:Pl}{d:Int}(h:Hu g f b o q d)(ci:Rt):
  Pure Tryz.prog aD 108 [.agg (Qa q),.sl ci ((Yp g b q.ens).map Qy),I (Uc g f b o q d),.sl .ro ((mG g f b o q d).map Vj)] (.aS [.sl (uh (Vt g f b o q d)) ((Vt g f b o q d).map Qe),.sl (uh (Kz g f b o q d)) ((Kz g f b o q d).map Qy)]):=by
 have h1:=j5 g b q.ens;have h2:=h.pk.ens;have h3:=h.en;have:=aad h.pk (at_:=Uc g f b o q d) (by unfold amN;omega) (past:=mG g f b o q d) (by have:=aai h;omega) (ids:=Yp g b q.ens) zE;rw[RN,Ht,afD]at this;exact Xz this ⟨Ps,Wk.sl _ _,Ps,Ps,trivial⟩
def amR{g:Pg}{f:Int}{b:QR}{o:Od}{q:Pl}{d:Int}(h:Hu g f b o q d)(hl:(Vt g f b o q d).length<=1000000)(rL:Rt):
  Pure Tryz.prog aD 67 [.agg (Qa q),.sl rL ((Vt g f b o q d).map Qe),I (Uc g f b o q d)] (.sl .ro ((Wd g f b o q d).map Qf)):=by
 obtain⟨q1,q2,q3,q4,q5,q6⟩:=h.pl;exact Xz (sY q (Vt g f b o q d) (Uc g f b o q d) zE zE zE zE q6 h.ln hl h.st) ⟨Ps,Wk.sl _ _,Ps,trivial⟩
open Go Go.Abs
def DQ(ex gH:T5)(a b c X:P2):Qh (a::b::c::(ex++(gH++[X]))) (ex.length+(gH.length+3))=X:=by
 refine Qu ?_;have:a::b::c::(ex++(gH++[X]))=([a,b,c]++ex++gH)++[X]:=zd
 rw[this,zzap (by simp;omega),show ex.length+(gH.length+3)-([a,b,c]++ex++gH).length=0 by simp;omega];rfl
def EvW.more{ml:Pa}{rt:Rt}{n:Nat}(h:EvW ml rt n)(x:Pa):EvW (ml++x) rt n:=by
 obtain h|⟨k,h1,h2⟩:=h
 ·exact .inl h
 exact .inr ⟨k,h1,by rw[zzaj (zza.1 h2).1];exact h2⟩
def EvW.cv{ml:Pa}{rt:Rt}{n:Nat}(h:EvW ml rt n):∃ce,DP rt ce:=by
 obtain⟨rfl,_⟩|⟨k,rfl,_⟩:=h
 ·exact⟨_,DP.nil⟩
 exact⟨_,DP.own _ _⟩
def IdR.cv{ml ls:Pa}{rt:Rt}{n:Nat}(h:IdR ml ls rt n):∃ci,DP rt ci:=by
 obtain⟨rfl,_⟩|⟨rfl,_⟩:=h
 ·exact⟨_,DP.nil⟩
 exact⟨_,DP.own _ _⟩
def IdR.ls{ml ls:Pa}{rt:Rt}{n:Nat}(h:IdR ml ls rt n):∃x,ls=ml++x:=by
 obtain⟨_,_,rfl⟩|⟨_,_,rfl⟩:=h
 ·exact⟨[],zd⟩
 exact⟨_,rfl⟩
def RT(Y:YT)(m:AM)(g:Pg)(f:Int)(mid:Nat)(b:QR)(o:Od)(q:Pl)(d:Int)(h:Hu g f b o q d)(hb:fP m.boxes mid b)
  (fT:(Vt g f b o q d).length<=1000000)(fS:(Wd g f b o q d).length<=10000000)(K:So)
  (
   hK:∀ex ls ke vd,gZ m.boxes.length ⟨m.boxes++ex,ls,m.st,m.ln⟩ vd ((dd (Jc (g.dr++Kz g f b o q d))).map Qy)->
   K (.aS [.sl (.own ke 7) ((Us g f b o q d).map Zu++(Wd g f b o q d).map Qf),vd]) ⟨m.boxes++ex,ls,m.st,m.ln⟩):
  aB Tryz.prog aD Y 53 [.agg (Qr g f mid),.agg (Qq o),.agg (Qa q++[I d])] m K:=by
 obtain⟨mb,ml,ms,mn⟩:=m;have hB:∀ex,fP (mb++ex) mid b:=fun ex=>⟨by have:=hb.1;simp at this |-;omega,hb.ext ex⟩;have afB:=fun ce=>afE h ce;have aag:=fun ci=>afF h ci;have XY:=fun rL=>amR h fT rL
 have hdl:(Kz g f b o q d).length<=1000000:=by
  have h1:=p9 false (Yp g b q.ens) (RS g f b o q d);have h2:=j5 g b q.ens;have h3:=h.pk.ens;unfold Kz;omega
 have bP:=(lz h).1;have hL:∀ev,Us g f b o q d=ev->ev.length<=2001:=fun ev he=>by rw[<- he];exact bP
 generalize hpast:mG g f b o q d=past at*
 generalize hstart:Vt g f b o q d=L at*
 generalize hdrop:Kz g f b o q d=D at*
 generalize hbld:Wd g f b o q d=bl at*
 have tail:∀(E:QQ)(X:T5)(ls:Pa)(rte:Rt)(Q:R0),Abs.look E 3=.ptr mb.length 0->Qh (mb++X) mb.length=Qr g f mid->2<X.length->
   Abs.look E 5=.ptr (mb.length+2) 0->Qh (mb++X) (mb.length+2)=Qa q++[I d]->Abs.look E 8=.sl rte ((Us g f b o q d).map Zu)->EvW ls rte (Us g f b o q d).length->Abs.look E 9=I (Uc g f b o q d)->
   (∀E' ex LR ke vd,Abs.look E' 6=.sl (.own ke 7) ((Us g f b o q d).map Zu++bl.map Qf)->Abs.look E' 7=vd->gZ mb.length ⟨mb++ex,LR,ms,mn⟩ vd ((dd (Jc (g.dr++D))).map Qy)->Q .ret ⟨Vx 103 E',⟨mb++ex,LR,ms,mn⟩⟩)->
   vc Tryz.prog aD (OD g past L D bl) Y OB ⟨Vx 103 E,⟨mb++X,ls,ms,mn⟩⟩ Q:=by
  intro E X ls rte Q e3 r3 hX e5 r5 e8 hw e9 hQ;refine aah Y _ (by simp[OD]) (by simp[OD]) E (mb++X) ls ms mn g f mid mb.length (mb.length+2) b q d Q (fun d id=>by simp[OD]) e3 (by simp;omega) r3 e5 (by simp;omega) r5 (hB X) h.dr (by have:=h.pk.ens;omega) ?_;intro E' ex rt LR hE qu aL;obtain⟨ci,hci⟩:=aL.cv;obtain⟨ce,hce⟩:=hw.cv;obtain⟨x,rfl⟩:=aL.ls
  refine aaf Y _ (by simp[OD]) (by simp[OD]) (by simp[OD]) (fun _ _=>by simp[OD]) (fun _ _=>by simp[OD]) E' (mb++X++ex) (ls++x) ms mn g f mid mb.length (mb.length+2) q d rte ce rt ci (uh L) (uh D) (Us g f b o q d) bl (Uc g f b o q d) (Yp g b q.ens) D L past Q
   (fun _ _=>by simp[OD]) (fun _ _=>by simp[OD]) (fun _ _=>by simp[OD]) (afB ce) (aag ci) (XY _) hce hci (LP L)
   ((hE 3 zE zE).trans e3) (by simp;omega) ((Qn (by simp;omega)).trans r3) ((hE 5 zE zE).trans e5) (by simp;omega) ((Qn (by simp;omega)).trans r5)
   ((hE 8 zE zE).trans e8) (hw.more x) ((hE 9 zE zE).trans e9) qu h.dr hdl zE fS ?_
  intro E2 gH ls2 ke vd q1 q2 q3;replace q3:=q3.mono (n':=mb.length) zd;rw[zzbf,zzbf]at q3 |-
  exact hQ E2 _ ls2 ke vd q1 q2 q3
 obtain⟨hm,uu,Fb,hd0,N1,hf0,azj,ei,dA,oo,IJ,bY⟩:=h;refine Xl aj9 (OD g past L D bl) zd ?_;rw[afA];simp[atw,aoS,Qr,Qj,Qa,Qq,Qd,Qg,Qk,OD];refine yE Y _ g.ev f zE hm.2.1 hf0 _ fun ex v ls hO=>?_;simp;have hbr:∀l:List bn,∀a∈l,(Qf a).length=7:=fun _ _ _=>rfl;have azk:(Zd f g.ev).length<=2000:=by have:=Qdt f g.ev;omega
 refine afo Y _ g f mid b o q (.sl .ro (q.ens.map Qd)) .ro d (.inl ⟨.ro,rfl,Dy.ro⟩) Dy.ro hm (hB _) uu hd0 N1 _ (fun e F he hF qv gH ls2 v2 Gz=>?_) (fun hn gH=>?_)
 ·have cZ:zw g f b o q d=some ⟨e.id,e.it,f,F,e.i+(f-e.st),rI q f e.it F q.rg.toNat,jZ q f e.id F ((Xw e.id q.ens).getD u7).al,decide (jZ q f e.id F ((Xw e.id q.ens).getD u7).al=[])⟩:=by
   unfold zw;rw[he];simp only;rw[hF];simp only;rw[if_neg qv]
  have he1:Uc g f b o q d=f+F:=by unfold Uc;rw[cZ]
  have hw:IntKind.i64.wrap (f+F)=f+F:=by rw[Ql]<;>omega
  have fe:(Us g f b o q d).map Zu=(Zd f g.ev).map Qf++[[I e.id,I e.it,I f,I F,I (e.i+(f-e.st)),I (rI q f e.it F q.rg.toNat),.sl (if jZ q f e.id F ((Xw e.id q.ens).getD u7).al=[]then .nil else .ro) ((jZ q f e.id F ((Xw e.id q.ens).getD u7).al).map Qe)]]:=by
   unfold Us;rw[cZ,zzci,yO];simp[Zu]
  have amS:(Us g f b o q d).length=(Zd f g.ev).length+1:=by
   unfold Us;rw[cZ];simp
  rw[fe,amS,he1]at tail;rw[fe]at hK;generalize jZ q f e.id F ((Xw e.id q.ens).getD u7).al=A at*
  obtain⟨rfl,rfl,rfl⟩|⟨hA,rfl,rfl⟩:=Gz
  ·obtain⟨h0,rfl,rfl⟩|⟨h0,rfl,rfl⟩:=hO
   ·rw[h0]at tail hK;simp[zzan,hw,DQ ex gH];refine tail _ _ _ _ _ zd (by simp[Qr,Qj,Qa]) zd zd (by simp[Qa]) (by simp;rfl) (.inr ⟨_,rfl,zd⟩) zd ?_;intro E' iO LR ke vd q1 q2 q3;have:=hK iO LR ke vd q3;simp[q1,q2]at this |-
    exact this
   skip
   simp[zzan,hw,DQ ex gH];refine⟨⟨by rintro row (⟨a,_,rfl⟩|rfl)<;>rfl,zE⟩,tail _ _ _ _ _ zd (by simp[Qr,Qj,Qa]) zd zd (by simp[Qa]) (by simp;rfl) (.inr ⟨_,rfl,zd⟩) zd ?_⟩;intro E' iO LR ke vd q1 q2 q3;have:=hK iO LR ke vd q3;simp[q1,q2]at this |-
   exact this
  obtain⟨h0,rfl,rfl⟩|⟨h0,rfl,rfl⟩:=hO
  ·rw[h0]at tail hK;simp[zzan,hw,DQ ex gH];refine tail _ _ _ (.own (ls.length+1) 7) _ zd (by simp[Qr,Qj,Qa]) zd zd (by simp[Qa]) (by simp[hA]) (.inr ⟨_,rfl,zd⟩) zd ?_;intro E' iO LR ke vd q1 q2 q3;have:=hK iO LR ke vd q3;simp[q1,q2]at this |-
   exact this
  skip
  simp[zzan,hw,DQ ex gH];refine⟨⟨by rintro row (⟨a,_,rfl⟩|rfl)<;>rfl,zE⟩,tail _ _ _ (.own ml.length 7) _ zd (by simp[Qr,Qj,Qa]) zd zd (by simp[Qa]) (by simp[hA]) (.inr ⟨_,rfl,zd⟩) zd ?_⟩;intro E' iO LR ke vd q1 q2 q3;have:=hK iO LR ke vd q3;simp[q1,q2]at this |-
  exact this
 have cZ:zw g f b o q d=none:=by
  unfold zw;cases hp:Ul g f b with
  |none=>rfl
  |some e=>
   rw[hp]at hn;simp only[zzcv]at hn;obtain hn|hn:=hn
   ·simp only[hn]
   simp only[hn,if_true]
 have he1:Uc g f b o q d=f:=by unfold Uc;rw[cZ]
 have fe:(Us g f b o q d).map Zu=(Zd f g.ev).map Qf:=by
  unfold Us;rw[cZ,zzci,yO];simp
 have amS:(Us g f b o q d).length=(Zd f g.ev).length:=by
  unfold Us;rw[cZ];simp
 rw[fe,amS,he1]at tail;rw[fe]at hK;obtain⟨h0,rfl,rfl⟩|⟨h0,rfl,rfl⟩:=hO
 ·rw[h0]at tail hK;simp[zzan,nQ];refine tail _ _ _ .nil _ zd (by simp[Qr,Qj,Qa]) zd zd (by simp[Qa]) zd (.inl ⟨rfl,rfl⟩) zd ?_;intro E' iO LR ke vd q1 q2 q3;have:=hK iO LR ke vd q3;simp[q1,q2]at this |-
  exact this
 simp[zzan,nQ];refine tail _ _ _ (.own ml.length 7) _ zd (by simp[Qr,Qj,Qa]) zd zd (by simp[Qa]) zd (.inr ⟨_,rfl,zd⟩) zd ?_;intro E' iO LR ke vd q1 q2 q3;have:=hK iO LR ke vd q3;simp[q1,q2]at this |-
 exact this
open Go Go.Abs
def Ae(c:Cue)(l:List Cue):Option (List Cue):=if iG c=true then(if 200<(gY c (!decide (c.to=0)) l).length then none else some (gY c (!decide (c.to=0)) l))else none
def Hv(c:Cue)(l:List Cue):mE c l=match Ae c l with
 |none=>.aS [.sl .nil [],I 150]
 |some x=>.aS [.sl (uh x) (x.map Qk),I 0]:=by
 unfold mE Ae uh;split
 ·split<;>rfl
 rfl
def SV(g:Pg)(o:Od)(b:QR)(q:Pl)(d:Int):Pg:=
 {g with p:=q,ev:=Us g o.fr b o q d++Wd g o.fr b o q d,dr:=dd (Jc (g.dr++Kz g o.fr b o q d)),ve:=g.ve+1}
def Zn(g:Pg)(o:Od):Pg:=
 if Uu g o=false then{g with ve:=g.ve+1}
 else if o.ki=5 then(match Ae o.cu g.cu with
  |none=>{g with ve:=g.ve+1}
  |some x=>{g with cu:=x,ed:=o.fr,ve:=g.ve+1})
 else match Jk g o.fr (Xn o.fr g.ev []) o with
  |none=>{g with ve:=g.ve+1}
  |some (q,d)=>SV g o (Xn o.fr g.ev []) q d
structure afG (g:Pg) (o:Od):Prop where
 pg:PgC g
 al:o.nw.al.length<=8796093022208
 ve:0<=g.ve/\g.ve<=1000000
 cu:g.cu.length<=1000000
 ch:Uu g o=true->o.ki≠5->Z5 g o.fr o
 rn:Uu g o=true->o.ki≠5->∀q d,Jk g o.fr (Xn o.fr g.ev []) o=some (q,d)->Hu g o.fr (Xn o.fr g.ev []) o q d/\(Vt g o.fr (Xn o.fr g.ev []) o q d).length<=1000000/\(Wd g o.fr (Xn o.fr g.ev []) o q d).length<=10000000
def fP.more{bx:T5}{mid:Nat}{b:QR}(h:fP bx mid b)(x:T5):fP (bx++x) mid b:=⟨by have:=h.1;simp;omega,h.ext x⟩
def fP.ax6{a b c d d':P2}{ex:T5}{mid:Nat}{bg:QR}(h:fP (a::b::c::d::ex) mid bg)(hm:4<=mid)(x:T5):fP (a::b::c::d'::(ex++x)) mid bg:=by
 obtain⟨j,rfl⟩:∃j,mid=j+4:=⟨mid-4,zE⟩;obtain⟨h1,h2⟩:=h;have hg:=Jj h1;rw[h2]at hg;simp only[zzcf]at hg;have hj:=(zza.1 hg).1;refine⟨by simp;omega,Qu ?_⟩;simp only[zzcf];rw[zzaj hj,hg]
def cell_of{a:AV}(h:Qx a=true):cellsOf a=[a]:=by cases a<;>simp_all[Qx,cellsOf]
def afH{a:AV}(h:Qx a=true):bare a=true:=by cases a<;>simp_all[Qx,bare]
def amT(a b:List bn):Wk (.sl .ro (a.map Zu++b.map Qf)) (.sl .ro ((a++b).map Qf)):=by
 have h:a.map Zu++b.map Qf=(a++b.map zx).map Zu:=by rw[zzci,yO]
 have h2:(a++b).map Qf=(a++b.map zx).map Qf:=by rw[zzci,zzci,BG]
 rw[h,h2];exact K8 _
def amU(g:Pg)(o:Od)(h:afG g o):∃re rc rd evr,Wk (.sl re evr) (.sl .ro ((Zn g o).ev.map Qf))/\
  Pure Tryz.prog aD 25 [.agg (Qj g),.agg (Qq o)] (.agg (Qa (Zn g o).p++[.sl re evr,.sl rc ((Zn g o).cu.map Qk),I (Zn g o).ed,.sl rd ((Zn g o).dr.map Qy),I (Zn g o).ve])):=by
 obtain⟨hpg,fO,hve,oo,iu,hrn⟩:=h;have k76:=YW g hpg;have DR:=td g o fO;have sL:=BB g.cu o.cu oo;rw[Hv]at sL;simp only[Qj,Qa,Qq,Qd,Qg,Qk,zzae,zzai]at k76 DR sL;have hw:IntKind.i64.wrap (g.ve+1)=g.ve+1:=by rw[Ql]<;>omega
 cases hc:Uu g o with
 |false=>
  have ha:Zn g o={g with ve:=g.ve+1}:=by unfold Zn;rw[if_pos hc]
  rw[ha];rw[hc]at DR;refine⟨.ro,.ro,.ro,g.ev.map Qf,Ps,Qp vl (fun _ f l=>if f=52 then l.headD .junk else if f=41 then .bool (Uu g o)else .gd false .junk) zd ?_⟩;simp[Pf,Ph,Qj,Qa,Qq,Qd,Qg,Qk,hc,hw];exact⟨k76,DR⟩
 |true=>
  rw[hc]at DR;by_cases h5:o.ki=5
  ·rw[h5]at DR;cases he:Ae o.cu g.cu with
   |none=>
    have ha:Zn g o={g with ve:=g.ve+1}:=by unfold Zn;rw[if_neg (by rw[hc];decide),if_pos h5,he]
    rw[ha];rw[he]at sL;refine⟨.ro,.ro,.ro,g.ev.map Qf,Ps,Qp vl (fun _ f l=>if f=52 then l.headD .junk else if f=41 then .bool true else if f=42 then .aS [.sl .nil [],I 150]else .gd false .junk) zd ?_⟩;simp[Pf,Ph,Qj,Qa,Qq,Qd,Qg,Qk,hw,h5];exact⟨k76,DR,sL⟩
   |some x=>
    have ha:Zn g o={g with cu:=x,ed:=o.fr,ve:=g.ve+1}:=by unfold Zn;rw[if_neg (by rw[hc];decide),if_pos h5,he]
    rw[ha];rw[he]at sL;have hcx:=LP x;have amV:=fun m d y=>hcx m d y;refine⟨.ro,uh x,.ro,g.ev.map Qf,Ps,Qp vl (fun _ f l=>if f=52 then l.headD .junk else if f=41 then .bool true else if f=42 then .aS [.sl (uh x) (x.map Qk),I 0]else .gd false .junk) zd ?_⟩;simp[Pf,Ph,Qj,Qa,Qq,Qd,Qg,Qk,hw,h5];refine⟨k76,DR,sL,Uh ?_⟩;simp[amV]
  have iu:=iu hc h5;have hrn:=hrn hc h5;cases hx:Jk g o.fr (Xn o.fr g.ev []) o with
  |none=>
   have ha:Zn g o={g with ve:=g.ve+1}:=by unfold Zn;rw[if_neg (by rw[hc];decide),if_neg h5,hx]
   rw[ha];refine⟨.ro,.ro,.ro,g.ev.map Qf,Ps,Qp vl (fun _ f l=>if f=52 then l.headD .junk else if f=41 then .bool true else .gd false .junk) zd ?_⟩;simp[Pf,Ph,Qj,Qa,Qq,Qd,Qg,Qk,hw,h5];refine⟨k76,DR,?_⟩;refine BD Y0 _ g o.fr (by have:=hpg.2.1;omega) _ fun ex mid hex VV gO=>?_;simp[Qr,Qj,Qa,zzan];refine Oy Y0 _ g o.fr mid (Xn o.fr g.ev []) o iu ?_ ?_ _ ?_
   ·have:=fun x=>fP.more gO x;simp only[zzae,zzai]at this;exact this _
   ·intro c hc;simp only[zzam,zzao,zzdp,or_false]at hc;obtain rfl|rfl|rfl|rfl|hc|rfl:=hc
    ·exact eH.of zd rfl
    ·exact eH.of zd rfl
    ·exact eH.of zd rfl
    ·exact eH.of zd rfl
    ·exact hex c hc
    exact eH.mo g o.fr mid
   rw[hx];simp[Ac,RI]
  |some r=>
   obtain⟨q,d⟩:=r;obtain⟨hR,fT,fS⟩:=hrn q d hx;have ha:Zn g o=SV g o (Xn o.fr g.ev []) q d:=by unfold Zn;rw[if_neg (by rw[hc];decide),if_neg h5,hx]
   rw[ha];refine⟨.ro,.ro,uh ((SV g o (Xn o.fr g.ev []) q d).dr.map Qy),(Us g o.fr (Xn o.fr g.ev []) o q d).map Zu++(Wd g o.fr (Xn o.fr g.ev []) o q d).map Qf,amT _ _,Qp vl (fun _ f l=>if f=52 then l.headD .junk else if f=41 then .bool true else .gd false .junk) zd ?_⟩;simp[Pf,Ph,Qj,Qa,Qq,Qd,Qg,Qk,hw,h5];refine⟨k76,DR,?_⟩;refine BD Y0 _ g o.fr (by have:=hpg.2.1;omega) _ fun ex mid hex VV gO=>?_;simp[Qr,Qj,Qa,zzan];have zm:=fun x=>fP.more gO x;simp only[zzae,zzai]at zm
   refine Oy Y0 _ g o.fr mid (Xn o.fr g.ev []) o iu (zm _) (by
    intro c hc;simp only[zzam,zzao,zzdp,or_false]at hc;obtain rfl|rfl|rfl|rfl|hc|rfl:=hc
    ·exact eH.of zd rfl
    ·exact eH.of zd rfl
    ·exact eH.of zd rfl
    ·exact eH.of zd rfl
    ·exact hex c hc
    exact eH.mo g o.fr mid) _ ?_
   rw[hx];simp[Ac,Qa,zzan];refine RT Y0 _ g o.fr mid (Xn o.fr g.ev []) o q d hR (fP.ax6 (by simpa using zm []) (Nm VV) _) fT fS _ fun gH ls ke vd hv=>?_;have fA:=hv.1;have Cy:=cell_of fA;have hc3:=afH fA;simp[zzan,fA,Cy,hc3];refine⟨zE,zE,rfl,rfl,rfl,rfl,rfl,rfl,rfl,rfl,rfl,rfl,rfl,rfl,rfl,rfl,rfl,?_,?_⟩
   ·refine hv.2 _ zd (fun j h1 h2=>?_) _;simp at h1;obtain⟨i,rfl⟩:∃i,j=i+4:=⟨j-4,zE⟩;simp
   rfl
def nW(g:Pg)(o:Od)(h:afG g o):Pure Tryz.prog aD 25 [.agg (Qj g),.agg (Qq o)] (.agg (Qj (Zn g o))):=by
 obtain⟨re,rc,rd,evr,hw,hp⟩:=amU g o h;refine Zh hp ?_;unfold Qj;simp only[Qa,zzae,zzai];refine jN ?_;exact⟨Ps,Ps,Ps,Ps,Ps,Ps,Ps,Ps,Ps,Ps,Ps,Ps,Ps,hw,Wk.sl _ _,Ps,Wk.sl _ _,Ps,trivial⟩
open Go Go.Abs
def LU{l l':P2}(h:WkL l l'):Wk (.aS l) (.aS l'):=fun w γ v hr=>by
 have key:∀{l l':P2},WkL l l'->l.length=l'.length/\∀(i:Nat)(c':AV),l'[i]?=some c'->∃c,l[i]?=some c/\Wk c c':=by
  intro l;induction l with
  |nil=>intro l' h;cases l' with
   |nil=>exact⟨rfl,fun i c' h=>by simp at h⟩
   |cons _ _=>exact h.elim
  |cons a l ih=>intro l' h;cases l' with
   |nil=>exact h.elim
   |cons b l'=>
    obtain⟨h1,h2⟩:=ih h.2;refine⟨by simp[h1],fun i c' hc=>?_⟩;cases i with
    |zero=>simp at hc;subst hc;exact⟨a,rfl,h.1⟩
    |succ i=>simpa using h2 i c' (Nm hc)
 obtain⟨h1,h2⟩:=key h;cases hr with
 |aS hl hc=>
  refine .aS zE fun i c' v uv hv=>?_;obtain⟨c,g1,g2⟩:=h2 i c' uv;exact g2 _ _ _ (hc i c v g1 hv)
def pl0:Pl:=⟨0,0,0,0,[],0,0,0,0,[],[],[],[]⟩
def pg0:Pg:=⟨pl0,[],[],0,[],0⟩
def Hw(p:Pl):Option (List Sp):=if pJ p=false then none else Ut p (Yz p) [] [] 0 (-1)
def Jl(p:Pl):Pg:=match Hw p with
 |none=>pg0
 |some l=>⟨p,tZ p l 0,[],0,[],0⟩
def yP(p:Pl):Pi:=if pJ p=false then[]else match Hw p with
 |none=>nX (IN p) (Yz p)
 |some _=>[]
def DS(p:Pl):Int:=if pJ p=false then 80 else match Hw p with
 |none=>90
 |some _=>0
def atE{V X Y:AV}{p:Pl}{ev:List bn}{cu:List Cue}{dr:Pi}{ed ve:Int}(h1:Wk V (.sl .ro (ev.map Qf)))(h2:Wk X (.sl .ro (cu.map Qk)))(h3:Wk Y (.sl .ro (dr.map Qy))):
  Wk (.agg (Qa p++[V,X,I ed,Y,I ve])) (.agg (Qj ⟨p,ev,cu,ed,dr,ve⟩)):=by
 unfold Qj;simp only[Qa,zzae,zzai];exact jN ⟨Ps,Ps,Ps,Ps,Ps,Ps,Ps,Ps,Ps,Ps,Ps,Ps,Ps,h1,h2,Ps,h3,Ps,trivial⟩
def aaj:Wk (.agg YV) (.agg (Qj pg0)):=by
 unfold YV pg0 pl0 Qj;simp only[Qa,zzae,zzai,zzcs];exact jN ⟨Ps,Ps,Ps,Ps,Wk.sl _ _,Ps,Ps,Ps,Ps,Wk.sl _ _,Wk.sl _ _,Wk.sl _ _,Wk.sl _ _,Wk.sl _ _,Wk.sl _ _,Ps,Wk.sl _ _,Ps,trivial⟩
def LV(p:Pl)(hp:Br p)(dA:p.ln<=1000000)(SX:∀e∈p.ens,e.ea<=9223372036854775807)(hl:∀l,Hw p=some l->l.length<=1000000/\∀s∈l,-1000000000<=s.2/\s.2<=1000000000):
  Pure Tryz.prog aD 30 [.agg (Qa p)] (.aS [.agg (Qj (Jl p)),.sl .ro ((yP p).map Qy),I (DS p)]):=by
 obtain⟨h1,h2,h3,h4,h5,h6⟩:=hp;have k60:=RU p ⟨zE,zE,zE,zE,zE,h6⟩ h5 zE zE SX;have k61:=pU p ⟨h1,h2,h3,h4,h5,h6⟩;by_cases hv:pJ p=false
 ·have hr:RW p=.aS [.sl .nil [],.sl .nil [],I 80]:=by unfold RW;rw[if_pos hv]
  have hb:Hw p=none:=by unfold Hw;rw[if_pos hv]
  have hg:Jl p=pg0:=by unfold Jl;rw[hb]
  have hc:yP p=[]:=by unfold yP;rw[if_pos hv]
  have he:DS p=80:=by unfold DS;rw[if_pos hv]
  rw[hr]at k60;rw[hg,hc,he];simp only[Qa]at k60
  have:Pure Tryz.prog aD 30 [.agg (Qa p)] (.aS [.agg YV,.sl .nil [],I 80]):=by
   refine Qp IT (fun _ f _=>if f=65 then .aS [.sl .nil [],.sl .nil [],I 80]else .junk) zd ?_;simp[abt,abu,Qa,YV];exact k60
  exact Zh this (LU ⟨aaj,Wk.sl _ _,Ps,trivial⟩)
 cases hx:Ut p (Yz p) [] [] 0 (-1)with
 |none=>
  have hr:RW p=.aS [.sl .nil [],.sl .ro ((nX (IN p) (Yz p)).map Qy),I 90]:=by unfold RW;rw[if_neg hv,hx]
  have hb:Hw p=none:=by unfold Hw;rw[if_neg hv,hx]
  have hg:Jl p=pg0:=by unfold Jl;rw[hb]
  have hc:yP p=nX (IN p) (Yz p):=by unfold yP;rw[if_neg hv,hb]
  have he:DS p=90:=by unfold DS;rw[if_neg hv,hb]
  rw[hr]at k60;rw[hg,hc,he];simp only[Qa]at k60
  have:Pure Tryz.prog aD 30 [.agg (Qa p)] (.aS [.agg YV,.sl .ro ((nX (IN p) (Yz p)).map Qy),I 90]):=by
   refine Qp IT (fun _ f _=>if f=65 then .aS [.sl .nil [],.sl .ro ((nX (IN p) (Yz p)).map Qy),I 90]else .junk) zd ?_;simp[abt,abu,Qa,YV];exact k60
  exact Zh this (LU ⟨aaj,Ps,Ps,trivial⟩)
 |some l=>
  have hr:RW p=.aS [IM l,.sl .nil [],I 0]:=by unfold RW;rw[if_neg hv,hx]
  have hb:Hw p=some l:=by unfold Hw;rw[if_neg hv,hx]
  have hg:Jl p=⟨p,tZ p l 0,[],0,[],0⟩:=by unfold Jl;rw[hb]
  have hc:yP p=[]:=by unfold yP;rw[if_neg hv,hb]
  have he:DS p=0:=by unfold DS;rw[if_neg hv,hb]
  obtain⟨gP,CT⟩:=hl l hb;rw[hr,Ht]at k60;rw[hg,hc,he];have hcx:=LP l;have amV:=fun m d y=>hcx m d y;have XY:=Xz (sY p l 0 h5 zE zE zE h6 dA gP CT) (l:=[.agg (Qa p),.sl (uh l) (l.map Qe),I 0]) ⟨Ps,Wk.sl _ _,Ps,trivial⟩;simp only[Qa]at k60 k61 XY
  have:Pure Tryz.prog aD 30 [.agg (Qa p)] (.aS [.agg (Qa p++[.sl .ro ((tZ p l 0).map Qf),.sl .nil [],I 0,.sl .nil [],I 0]),.sl .nil [],I 0]):=by
   refine Qp IT (fun _ f x=>if f=65 then .aS [.sl (uh l) (l.map Qe),.sl .nil [],I 0]else if f=66 then x.headD .junk else if f=67 then .sl .ro ((tZ p l 0).map Qf)else .junk) zd ?_;simp[abt,abu,Qa,amV];exact⟨k60,k61,XY⟩
  exact Zh this (LU ⟨atE (Ps) (Wk.sl _ _) (Wk.sl _ _),Wk.sl _ _,Ps,trivial⟩)
open Go Go.Abs
def ax7(o:Int×Int):P2:=[I o.1,I 0,I o.2,I 0,I 0,I 0,I 0,I 0,I 0,I 0,I 0,I 0,.sl .nil [],I 0,I 0,I 0,I 0,I 0,I 0,I 0,I 0,I 0,I 0,I 0,I 0,.str ⟨#[]⟩]
structure Md where
 pl:List (Int×Int)
 ps:List (List Pg)
 os:List (Int×Int)
def ax8(SY:List Rt)(ps:List (List Pg)):P2:=List.zipWith (fun rt l=>AV.sl rt (l.map Qj)) SY ps
structure MdB (bx:T5) (md:Nat) (M:Md) (pid cF:Nat) (SY:List Rt) (rto:Rt) (z:P2):Prop where
 hmd:md<bx.length
 row:Qh bx md=[.mp pid,.bs cF 0 M.ps.length 1,.sl rto (M.os.map ax7)]
 hpid:pid<bx.length
 map:Qh bx pid=[.aJ 0 (bG (AV.int .i64) M.pl)]
 hbid:cF<bx.length
 hps:Qh bx cF=ax8 SY M.ps++z
 hrts:SY.length=M.ps.length
 ne:M.ps≠[]
 uu:∀c i,af c M.pl=some i->0<=i/\i<M.ps.length
 len:M.ps.length<=40
 los:M.os.length<=1000
 hrto:DP rto .ro\/(rto=.nil/\M.os=[])
open Go Go.Abs
structure atF (p:Pl):Prop where
 pl:Br p
 ln:p.ln<=1000000
 ea:∀e∈p.ens,e.ea<=9223372036854775807
 l:∀l,Hw p=some l->l.length<=1000000/\∀s∈l,-1000000000<=s.2/\s.2<=1000000000
def Hy(p:Pl):AV:=.aS [.agg (Qj (Jl p)),.sl .ro ((yP p).map Qy),I (DS p)]
def BH(p:Pl)(h:atF p):Pure Tryz.prog aD 30 [.agg (Qa p)] (Hy p):=LV p h.pl h.ln h.ea h.l
open Go Go.Abs
def eN(g:Pg):Pg:={g with ev:=g.ev.map zx}
def lB(g:Pg):Qj (eN g)=Qj g:=by
 unfold Qj eN;simp only[BG]
def ayU(ls:Pa)(SY:List Rt)(ps:List (List Pg)):Prop:=
 (∀(i:Nat)(rt:Rt)(l:List Pg),SY[i]?=some rt->ps[i]?=some l->rt=.full\/∃k,rt=.own k 18/\ls[k]?=some l.length)/\∀(i j k:Nat),SY[i]?=some (.own k 18)->SY[j]?=some (.own k 18)->i=j
def ayV(ls:Pa)(SY:List Rt)(rto:Rt)(n:Nat):Prop:=(rto=.nil/\n=0)\/∃k,rto=.own k 26/\ls[k]?=some n/\∀i:Nat,SY[i]?≠some (.own k 18)
def azl(ls:Pa)(SY:List Rt)(rto:Rt)(k n:Nat):Prop:=ls[k]?=some n/\(∀i:Nat,SY[i]?≠some (.own k 18))/\rto≠.own k 26
open Go Go.Abs
open Go Go.Abs
def fW(lo up:Int):List bn->Prop
 |[]=>lo<=up
 |e::r=>lo<=e.st/\1<=e.fr/\fW (e.st+e.fr) up r
def fW.le{up:Int}:∀{L:List bn}{lo:Int},fW lo up L->lo<=up/\(L.length:Int)<=up-lo
 |[],lo,h=>⟨h,by simp only[fW]at h;simp only[zzco];omega⟩
 |e::r,lo,h=>by
  obtain⟨h1,h2,h3⟩:=h;have:=fW.le h3;simp only[zzaz];omega
def fW.mem{up:Int}:∀{L:List bn}{lo:Int},fW lo up L->∀e∈L,lo<=e.st/\1<=e.fr/\e.st+e.fr<=up
 |x::r,lo,h,e,he=>by
  obtain⟨h1,h2,h3⟩:=h;rcases zzam.1 he with rfl|he
  ·exact⟨h1,h2,h3.le.1⟩
  have:=fW.mem h3 e he;omega
def fW.low{up lo lo':Int}{L:List bn}(h:fW lo up L)(hl:lo'<=lo):fW lo' up L:=by
 cases L with
 |nil=>simp only[fW]at h |-;omega
 |cons e r=>exact⟨by have:=h.1;omega,h.2⟩
def fW.app{m up:Int}{B:List bn}(hB:fW m up B):∀{A:List bn}{lo:Int},fW lo m A->fW lo up (A++B)
 |[],lo,h=>hB.low h
 |e::r,lo,h=>⟨h.1,h.2.1,fW.app hB h.2.2⟩
def fW.nl{up:Int}:∀{L:List bn}{lo:Int},fW lo up L->fW lo up (L.map zx)
 |[],lo,h=>h
 |e::r,lo,h=>⟨h.1,h.2.1,fW.nl h.2.2⟩
def fW.amW{up f:Int}:∀{L:List bn}{lo:Int},fW lo up L->f<=lo->Zd f L=[]
 |[],lo,h,hf=>rfl
 |e::r,lo,h,hf=>by
  obtain⟨h1,h2,h3⟩:=h;rw[Zd,if_pos zE];exact fW.amW h3 zE
def fW.bef{up f:Int}:∀{L:List bn}{lo:Int},fW lo up L->lo<=f->fW lo f (Zd f L)
 |[],lo,h,hf=>hf
 |e::r,lo,h,hf=>by
  have hh:=h;obtain⟨h1,h2,h3⟩:=h;rw[Zd];by_cases hs:f<=e.st
  ·rw[if_pos hs,fW.amW h3 zE];exact hf
  rw[if_neg hs];by_cases hl:f-e.st<e.fr
  ·rw[fW.amW h3 zE];simp only[fW,DK,if_pos hl];omega
  refine⟨h1,?_,?_⟩
  ·simp only[DK,if_neg hl];exact h2
  have:=fW.bef h3 (f:=f) zE;simp only[DK,if_neg hl];exact this
def ajd(p:Pl)(fr t:Int):∀(n:Nat)(a:Int),(t-a).toNat<=n->a<=t->fW a t ((Vp fr t a).map (Vd p)):=by
 intro n;induction n with
 |zero=>intro a h ha;rw[Vp,if_neg zE];exact ha
 |succ n ih=>
  intro a h ha;rw[Vp];split
  ·have hN:1<=Ub fr t a/\Ub fr t a<=t-a:=by unfold Ub;split<;>omega
   have:=ih (a+Ub fr t a) zE zE;exact⟨zzby _,hN.1,this⟩
  exact ha
def Hz{p:Pl}{s:Sp}{a:Int}{e:En}(h:jO p s a=some e):Xw s.1 p.ens=some e/\1<=e.fr/\a<=s.2/\s.2+e.fr<=p.ln:=by
 unfold jO at h;cases hf:Xw s.1 p.ens with
 |none=>rw[hf]at h;cases h
 |some x=>
  rw[hf]at h;simp only at h;split at h
  ·cases h
  cases h;exact⟨rfl,zE,zE,zE⟩
def aak(p:Pl):∀(l:List Sp)(a:Int),a<=p.ln->fW a p.ln (Jh p l a)
 |[],a,ha=>by rw[Jh];exact ajd p _ _ _ a (zzab _) ha
 |s::r,a,ha=>by
  rw[Jh];cases hs:jO p s a with
  |none=>exact aak p r a ha
  |some e=>
   obtain⟨h1,h2,h3,h4⟩:=Hz hs;simp only[zzbf];refine fW.app ?_ (ajd p _ _ _ a (zzab _) h3);exact⟨zzby _,h2,aak p r _ h4⟩
def aal(p:Pl)(l:List Sp)(a:Int)(h0:0<=a)(h1:a<=p.ln):fW a p.ln (tZ p l a):=by
 unfold tZ;rw[if_neg zE];exact aak p l a h1
def OE(l:List Sp):Prop:=l.length<=1000/\l.Pairwise (fun a b=>a.1<b.1)/\∀a∈l,1<=a.1
def OE.nil:OE []:=⟨zd,List.Pairwise.nil,fun a ha=>by cases ha⟩
def OE.filter{l:List Sp}(h:OE l)(P:Sp->Bool):OE (l.filter P):=
 ⟨zzbc (zzcc _ _) h.1,h.2.1.filter _,fun a ha=>h.2.2 a (zzca.1 ha).1⟩
def EvP(e:bn):Prop:=0<=e.i/\e.i<=e.st/\OE e.al
def HA(fr t:Int):∀(n:Nat)(a:Int),(t-a).toNat<=n->∀x∈Vp fr t a,a<=x.1:=by
 intro n;induction n with
 |zero=>intro a h x hx;rw[Vp,if_neg zE]at hx;cases hx
 |succ n ih=>
  intro a h x hx;rw[Vp]at hx;split at hx
  ·have hN:1<=Ub fr t a:=by unfold Ub;split<;>omega
   rcases zzam.1 hx with rfl|hx
   ·exact zzby _
   have:=ih (a+Ub fr t a) zE x hx;omega
  cases hx
def amX(p:Pl)(hp:∀e∈p.ens,OE e.al):∀(l:List Sp)(a:Int),0<=a->∀e∈Jh p l a,EvP e
 |[],a,ha,e,h=>by
  rw[Jh,zzav]at h;obtain⟨x,hx,rfl⟩:=h;have:=HA _ _ _ a (zzab _) x hx;exact⟨zzby _,by simp only[Vd];omega,OE.nil⟩
 |s::r,a,ha,e,h=>by
  rw[Jh]at h;cases hs:jO p s a with
  |none=>rw[hs]at h;exact amX p hp r a ha e h
  |some x=>
   obtain⟨h1,h2,h3,h4⟩:=Hz hs;rw[hs]at h;simp only[zzbf,zzao,zzav,zzcg]at h;obtain⟨y,hy,rfl⟩|rfl|h:=h
   ·have:=HA _ _ _ a (zzab _) y hy;exact⟨zzby _,by simp only[Vd];omega,OE.nil⟩
   ·have:=hp x (Qdi h1).1;exact⟨zzby _,by simp only[pP];omega,this.filter _⟩
   exact amX p hp r _ zE e h
def aje(p:Pl)(hp:∀e∈p.ens,OE e.al)(l:List Sp)(a:Int)(h0:0<=a):∀e∈tZ p l a,EvP e:=by
 unfold tZ;split
 ·intro e he;cases he
 exact amX p hp l a h0
def amY(f:Int):∀{L:List bn},(∀e∈L,EvP e)->∀e∈Zd f L,EvP e
 |[],h,e,he=>by cases he
 |x::r,h,e,he=>by
  rw[Zd]at he;split at he
  ·exact amY f (fun y hy=>h y (by simp[hy])) e he
  rcases zzam.1 he with rfl|he
  ·exact h x zd
  exact amY f (fun y hy=>h y (by simp[hy])) e he
def OF{lo up:Int}:∀{ks:Pi},ks.Pairwise (·<·)->(∀k∈ks,lo<=k/\k<=up)->(ks.length:Int)<=max 0 (up-lo+1)
 |[],_,_=>by simp only[zzco];omega
 |k::r,h,hb=>by
  obtain⟨h1,h2⟩:=zzcd.1 h;have hk:=hb k zd;have:=OF (lo:=k+1) (up:=up) h2 (fun x hx=>⟨by have:=h1 x hx;omega,(hb x (by simp[hx])).2⟩);simp only[zzaz];omega
def OG{p:Pl}(h:pJ p=true):∀e∈p.ens,1<=e.id/\1<=e.fr/\0<=e.ea/\e.ea<=e.la/\e.la<=p.ln-e.fr/\OE e.al:=by
 intro e he;have hv:=Ds h;obtain⟨h1,h2,h3⟩:=hv.ens e he;have N1:=hv.rg;unfold jK at h2;cases hf:Xj e.it p.aN with
 |none=>rw[hf]at h2;cases h2
 |some y=>
  rw[hf]at h2;simp only at h2;split at h2
  ·cases h2
  split at h2
  ·cases h2
  rename_i q2;split at h2
  ·cases h2
  have q2:wi e.fr 1 y.fr=true:=by simpa using q2
  simp only[wi,decide_eq_true_eq]at q2;simp only[zzac,decide_eq_true_eq]at h2;simp only[mq,zzac]at h3;obtain⟨p1,p2⟩:=Y8 h3.1;have:=OF p1 p2;rw[zzbv]at this;exact⟨h1,q2.1,h2.1,h2.2.1,h2.2.2,zE,List.pairwise_map.1 p1,fun a ha=>(p2 a.1 (zzav.2 ⟨a,ha,rfl⟩)).1⟩
structure dJ (k:Nat) (g:Pg):Prop where
 v:pJ g.p=true
 ln:g.p.ln<=1500
 sh:g.p.sh.length<=10
 aN:g.p.aN.length<=20
 ens:g.p.ens.length<=12+k
 bks:g.p.bks.length<=10
 cls:g.p.cls.length<=20+k
 ch:fW 0 g.p.ln g.ev
 ep:∀e∈g.ev,EvP e
 cu:g.cu.length<=200
 dr:g.dr.length<=1000*k
 ve:g.ve=k
def dJ.eN{k:Nat}{g:Pg}(h:dJ k g):dJ k (eN g):=
 ⟨h.v,h.ln,h.sh,h.aN,h.ens,h.bks,h.cls,h.ch.nl,fun e he=>by
  obtain⟨x,hx,rfl⟩:=zzav.1 he;exact h.ep x hx,h.cu,h.dr,h.ve⟩
def dJ.plc{k:Nat}{g:Pg}(h:dJ k g)(hk:k<=900):Br g.p:=
 ⟨by have:=h.sh;omega,by have:=h.aN;omega,by have:=h.ens;omega,by have:=h.bks;omega,by have:=h.cls;omega,fun e he=>by have:=(OG h.v e he).2.2.2.2.2.1;omega⟩
def dJ.small{k:Nat}{g:Pg}(h:dJ k g):g.ev.length<=1500/\∀e∈g.ev,Jt e:=by
 have h1:=h.ch.le;have h2:=h.ln;refine⟨zE,fun e he=>?_⟩;obtain⟨q1,q2,q3⟩:=h.ch.mem e he;obtain⟨q4,q5,q6,_⟩:=h.ep e he;exact⟨⟨zE,zE⟩,⟨zE,zE⟩,⟨zE,zE⟩,zE⟩
def dJ.mo{k:Nat}{g:Pg}{f:Int}(h:dJ k g)(hk:k<=900)(hf:0<=f/\f<g.p.ln):lQ g f:=
 ⟨by have:=h.small.1;omega,h.small.2,by have:=h.ln;unfold nO;omega,by have:=h.ens;omega⟩
def dJ.pgc{k:Nat}{g:Pg}(h:dJ k g)(hk:k<=900):PgC g:=
 ⟨h.plc hk,by have:=h.small.1;omega,by have:=h.cu;omega,by have:=h.dr;omega,fun e he=>by have:=(h.ep e he).2.2.1;omega⟩
structure RX (p:Pl):Prop where
 ln:p.ln<=1500
 sh:p.sh.length<=10
 aN:p.aN.length<=20
 ens:p.ens.length<=12
 bks:p.bks.length<=10
 cls:p.cls.length<=20
def amZ(p:Pl):RX (Rz p):=
 ⟨by simp only[Rz];split<;>omega,by simp[Rz];omega,by simp[Rz];omega,by simp[Rz];omega,by simp[Rz];omega,by simp[Rz];omega⟩
def HB{p:Pl}(h:DS p=0):pJ p=true/\∃l,Hw p=some l:=by
 unfold DS at h;split at h
 ·cases h
 rename_i hv;cases hl:Hw p with
 |none=>rw[hl]at h;cases h
 |some l=>exact⟨Nm hv,l,rfl⟩
def vf{p:Pl}(hp:RX p)(h:DS p=0):dJ 0 (Jl p):=by
 obtain⟨hv,l,hl⟩:=HB h;have hg:Jl p=⟨p,tZ p l 0,[],0,[],0⟩:=by unfold Jl;rw[hl]
 have dA:=(Ds hv).ln;rw[hg];exact⟨hv,hp.ln,hp.sh,hp.aN,hp.ens,hp.bks,hp.cls,aal p l 0 zE zE,aje p (fun e he=>(OG hv e he).2.2.2.2.2) l 0 zE,zd,zd,rfl⟩
def DT{p:Pl}:∀{ids:Pi}{us en:List (Int×Int)}{free last:Int}{l:List Sp},Ut p ids us en free last=some l->l.length<=ids.length/\∀s∈l,0<=s.2/\s.2<=100000000
 |[],_,_,_,_,l,h=>by cases h;exact⟨zzab _,fun s hs=>by cases hs⟩
 |id::r,us,en,free,last,l,h=>by
  rw[Ut]at h;cases h1:zn id p.ens 0 with
  |none=>rw[h1]at h;cases h
  |some k=>
   rw[h1]at h;simp only at h;split at h
   ·cases h
   cases h2:p.ens[k]? with
   |none=>rw[h2]at h;cases h
   |some e=>
    rw[h2]at h;simp only at h;split at h
    ·cases h
    cases h3:Vr p e (Ua en (Kl p e.it) (max e.ea free))with
    |none=>rw[h3]at h;cases h
    |some s=>
     rw[h3]at h;simp only at h;cases h4:Ut p r (Vw us e.it) (Zm p en e.it (s+e.fr)) (s+e.fr) k with
     |none=>rw[h4]at h;cases h
     |some t=>
      rw[h4]at h;cases h;obtain⟨q1,q2⟩:=DT h4;obtain⟨_,_,q3,_,_,q4,_⟩:=Jz h3;refine⟨by simp only[zzaz];omega,fun x hx=>?_⟩;rcases zzam.1 hx with rfl|hx
      ·exact⟨q3,q4⟩
      exact q2 x hx
def ajf{p:Pl}(hp:RX p)(fO:∀e∈p.ens,e.al.length<=8796093022208)(SX:∀e∈p.ens,e.ea<=9223372036854775807):atF p:=by
 refine⟨⟨by have:=hp.sh;omega,by have:=hp.aN;omega,by have:=hp.ens;omega,by have:=hp.bks;omega,by have:=hp.cls;omega,fO⟩,by have:=hp.ln;omega,SX,fun l hl=>?_⟩;unfold Hw at hl;split at hl
 ·cases hl
 obtain⟨h1,h2⟩:=DT hl;have h3:(Yz p).length=p.ens.length:=by simp[Yz]
 have:=hp.ens;refine⟨zE,fun s hs=>?_⟩;have:=h2 s hs;omega
def afI{o:Od}(h:Qcw o=true):o.n=0/\o.nw.al=[]:=by
 simp only[Qcw,decide_eq_true_eq]at h;exact⟨h.2.1,h.2.2.2.2.2.2.2.2.2.2⟩
def qb{o:Od}(h:Vq o=true):(0<=o.fr/\o.fr<=100000000)/\(-100000000<=o.n/\o.n<=100000000)/\(0<=o.sq/\o.sq<=200)/\(1<=o.ki/\o.ki<=5):=by
 unfold Vq at h;split at h
 ·cases h
 split at h
 ·cases h
 split at h
 ·cases h
 split at h
 ·cases h
 rename_i h1 h2 h3 h4;rw[zzac]at h;refine⟨zE,?_,zE,zE⟩;by_cases hk:o.ki=1
 ·omega
 have hb:=(afI h.2).1
 have hn:(Kb o).n=o.n:=by
  unfold Kb;rw[if_neg hk];repeat' split
  all_goals rfl
 omega
def j6{g:Pg}{f:Int}{b:QR}{o:Od}{q:Pl}{d:Int}(h:Jk g f b o=some (q,d)):f<g.p.ln/\Kv g f b o=some (q,d)/\pJ q=true/\zq g f b o q d=true:=by
 unfold Jk at h;split at h
 ·cases h
 rename_i hl;cases hb:Kv g f b o with
 |none=>rw[hb]at h;cases h
 |some x=>
  obtain⟨q',d'⟩:=x;rw[hb]at h;simp only at h;split at h
  ·rename_i hc;cases h;rw[zzac]at hc;exact⟨zE,rfl,hc.1,hc.2⟩
  cases h
def j7{g:Pg}{f:Int}{b:QR}{o:Od}{q:Pl}{d:Int}(h:Kv g f b o=some (q,d)):
  q.ln=g.p.ln/\q.sh=g.p.sh/\q.aN=g.p.aN/\q.bks=g.p.bks/\q.ens.length<=g.p.ens.length+1/\q.cls.length<=g.p.cls.length+1/\q.ch=g.p.ch:=by
 unfold Kv at h;split at h
 ·unfold rC at h;split at h
  ·cases h
  split at h
  ·cases h
  cases h;exact⟨rfl,rfl,rfl,rfl,zd,zd,rfl⟩
 split at h
 ·unfold yu at h;split at h
  ·cases h
  cases h;exact⟨rfl,rfl,rfl,rfl,by have:=zzcc (fun e=>!mB o.en e) g.p.ens;simp only;omega,zd,rfl⟩
 split at h
 ·cases h;refine⟨rfl,rfl,rfl,rfl,?_,by simp[nT],rfl⟩;simp only[nT,zzak,zzaq,zzaz,zzcw];omega
 cases h;exact⟨rfl,rfl,rfl,rfl,by simp[Dz],by simp[Dz],rfl⟩
def afJ{n:Int}(h: -9223372036854775808<=n/\n<=9223372036854775807):Yc n=n:=by unfold Yc;omega
def ajg{g:Pg}{f:Int}{b:QR}{o:Od}{q:Pl}{d:Int}(hk:o.ki=1)(h:Kv g f b o=some (q,d))(hv:pJ q=true)(hm:zq g f b o q d=true)(dA:g.p.ln<=1500):
  (1<=d/\d<=1500)/\∀st,Bu g f b o.en=some st->Yc (f-st)<=d/\st+d<=q.ln:=by
 have hq:=(j7 h).1;unfold Kv at h;rw[if_pos hk]at h;unfold zq at hm;rw[if_pos hk]at hm;unfold rC at h;cases he:g.p.ens[(Je g o.en).toNat]? with
 |none=>rw[he]at h;cases h
 |some e=>
  rw[he]at h;simp only at h;split at h
  ·cases h
  simp only[Option.some.injEq,Prod.mk.injEq]at h;obtain⟨h1,h2⟩:=h;have ah:=(zza.1 he).1
  have dD:Rh g f b o e∈q.ens:=by
   rw[<- h1];exact zzad (zzbg ah)
  obtain⟨_,p1,p2,p3,p4,_⟩:=OG hv _ dD;have zL:(Rh g f b o e).fr=d:=h2;rw[zL]at p1 p4;refine⟨zE,fun st bY=>?_⟩;unfold Qce at hm;split at hm
  ·cases hm
  split at hm
  ·cases hm
  split at hm
  ·cases hm
  split at hm
  ·cases hm
  split at hm
  ·cases hm
  rw[bY]at hm;simp only at hm;split at hm
  ·cases hm
  refine⟨?_,zE⟩;rw[<- h2];unfold ue;rw[bY];simp only;split<;>omega
def aam{k:Nat}{g:Pg}{f:Int}{b:QR}{o:Od}{q:Pl}{d:Int}(h:dJ k g)(hk:k<=900)(hf:0<=f)(hc:Jk g f b o=some (q,d)){e:bn}(he:zw g f b o q d=some e):
  e.st=f/\1<=e.fr/\f+e.fr<=q.ln/\EvP e:=by
 obtain⟨c1,c2,c3,c4⟩:=j6 hc;have hq:=(j7 c2).1;have dA:=h.ln;unfold zw at he;cases hp:Ul g f b with
 |none=>rw[hp]at he;cases he
 |some x=>
  rw[hp]at he;simp only at he;cases hF:DI g f o q d x with
  |none=>rw[hF]at he;cases he
  |some F=>
   rw[hF]at he;simp only at he;split at he
   ·cases he
   rename_i qv;cases he
   have hxm:x∈g.ev/\ua f x=true/\x.id≠0:=by
    unfold Ul at hp;cases hfd:g.ev.find? (ua f)with
    |none=>rw[hfd]at hp;cases hp
    |some y=>
     rw[hfd]at hp;simp only at hp;split at hp
     ·cases hp
     split at hp
     ·cases hp;rename_i h1 h2;exact⟨zzdt hfd,zzfp hfd,h1⟩
     cases hp
   obtain⟨x1,x2,x3⟩:=hxm;simp only[ua,decide_eq_true_eq]at x2;obtain⟨y1,y2,y3⟩:=h.ch.mem x x1;obtain⟨z1,z2,z3⟩:=h.ep x x1
   have fO:OE (jZ q f x.id F ((Xw x.id q.ens).getD u7).al):=by
    refine OE.filter ?_ _;cases hn:Xw x.id q.ens with
    |none=>exact OE.nil
    |some en=>exact(OG c3 en (Qdi hn).1).2.2.2.2.2
   have hFF:1<=F/\f+F<=q.ln:=by
    unfold DI at hF;split at hF
    ·rename_i fh;cases hF;obtain⟨d1,d2⟩:=ajg fh.1 c2 c3 c4 dA
     have bQ:Bu g f b o.en=some (rB g x.id):=by
      unfold Bu;rw[hp];simp only;rw[if_pos fh.2.symm]
     obtain⟨e1,e2⟩:=d2 _ bQ;have hb:=Dw (h.mo hk ⟨hf,c1⟩) x.id;rw[afJ zE]at e1;omega
    split at hF
    ·cases hF
    split at hF
    ·cases hF
    cases hF;simp only[uX];omega
   exact⟨rfl,hFF.1,hFF.2,by simp only;omega,by simp only;omega,fO⟩
def LW{k:Nat}{g:Pg}{f:Int}{b:QR}{o:Od}{q:Pl}{d:Int}(h:dJ k g)(hk:k<=900)(hf:0<=f)(hc:Jk g f b o=some (q,d)):
  f<=Uc g f b o q d/\Uc g f b o q d<=q.ln/\fW 0 (Uc g f b o q d) (Us g f b o q d)/\∀e∈Us g f b o q d,EvP e:=by
 obtain⟨c1,c2,c3,c4⟩:=j6 hc;have hq:=(j7 c2).1;have hb:=(h.ch.bef (f:=f) hf).nl;have hbp:=amY f h.ep;unfold Uc Us;cases cZ:zw g f b o q d with
 |none=>
  simp only[Option.toList_none,zzar];refine⟨zzby _,zE,hb,fun e he=>?_⟩;obtain⟨x,hx,rfl⟩:=zzav.1 he;exact hbp x hx
 |some e=>
  obtain⟨e1,e2,e3,e4⟩:=aam h hk hf hc cZ;simp only[Option.toList_some];refine⟨zE,zE,fW.app ?_ hb,fun x hx=>?_⟩
  ·exact⟨zE,e2,by simp only[fW];omega⟩
  rcases zzao.1 hx with hx|hx
  ·obtain⟨y,hy,rfl⟩:=zzav.1 hx;exact hbp y hy
  rw[zzcg]at hx;rw[hx];exact e4
def atG{k:Nat}{g:Pg}{f:Int}{b:QR}{o:Od}{q:Pl}{d:Int}(h:dJ k g)(hk:k<=900)(hf:0<=f)(fh:1<=o.ki/\o.ki<=5)(hc:Jk g f b o=some (q,d)):
  Hu g f b o q d/\(Vt g f b o q d).length<=1000000/\(Wd g f b o q d).length<=10000000:=by
 obtain⟨c1,c2,c3,c4⟩:=j6 hc;obtain⟨q1,q2,q3,q4,q5,q6,q7⟩:=j7 c2;obtain⟨n1,n2,n3,n4⟩:=LW h hk hf hc;have dA:=h.ln;have XH:=Ds c3;have IJ:=OG c3
 have bY:(Vt g f b o q d).length<=1000/\∀s∈Vt g f b o q d,0<=s.2/\s.2<=100000000:=by
  unfold Vt;cases hs:Yo q (Uc g f b o q d) (mG g f b o q d) (Xb true (Yp g b q.ens) (RS g f b o q d))with
  |none=>exact⟨zd,fun s hs=>by cases hs⟩
  |some l=>
   obtain⟨s1,s2⟩:=DT hs;have t1:=p9 true (Yp g b q.ens) (RS g f b o q d);have t2:=j5 g b q.ens;have t3:=h.ens;exact⟨by simp only[Option.getD_some];omega,s2⟩
 have fS:=aal q (Vt g f b o q d) (Uc g f b o q d) zE n2
 have hd:0<=d/\d<=1000000000:=by
  by_cases h1:o.ki=1
  ·have:=(ajg h1 c2 c3 c4 dA).1;omega
  unfold Kv at c2;rw[if_neg h1]at c2;split at c2
  ·cases ei:yu g o with
   |none=>rw[ei]at c2;cases c2
   |some x=>rw[ei]at c2;cases c2;omega
  split at c2<;>cases c2<;>omega
 have hpc:Br q:=⟨by rw[q2];have:=h.sh;omega,by rw[q3];have:=h.aN;omega,by have:=h.ens;omega,by rw[q4];have:=h.bks;omega,by have:=h.cls;omega,fun e he=>by have:=(IJ e he).2.2.2.2.2.1;omega⟩;refine⟨⟨h.mo hk ⟨hf,c1⟩,hpc,?_,hd,by have:=XH.rg;omega,zE,by have:=h.small.1;omega,by have:=h.dr;omega,zE,?_,zE,fun s hs=>by have:=bY.2 s hs;omega⟩,by have:=bY.1;omega,?_⟩
 ·exact⟨by have:=h.cls;omega,by rw[q2];have:=h.sh;omega,by rw[q3];have:=h.aN;omega,by have:=h.ens;omega,by rw[q4];have:=h.bks;omega,fun e he=>(IJ e he).2.2.2.2.2.1,by have:=XH.ln;omega,
   fun e he=>by have:=IJ e he;omega,fun e he=>by have:=IJ e he;omega,fun e he=>by have:=IJ e he;omega⟩
 ·intro e he;obtain⟨e1,e2,e3,e4,e5,e6,_⟩:=aam h hk hf hc he;exact⟨⟨zE,zE⟩,⟨zE,zE⟩,⟨zE,zE⟩,zE⟩
 have:=fS.le.2;unfold Wd;omega
def Af(o:Od):Prop:=o.nw.al.length<=1000
def BI{k:Nat}{g:Pg}{o:Od}(h:dJ k g)(hk:k<=900)(ho:Af o):afG g o:=by
 unfold Af at ho;refine⟨h.pgc hk,zE,by have:=h.ve;omega,by have:=h.cu;omega,fun hc _=>?_,fun hc _ q d hx=>?_⟩
 ·have hv:Vq o=true:=by unfold Uu at hc;rw[zzac]at hc;exact hc.1
  obtain⟨v1,v2,v3,v4⟩:=qb hv;exact⟨fun hl=>h.mo hk ⟨v1.1,hl⟩,h.plc hk,v1.1,by have:=h.ln;omega,by unfold tf;omega,fun e he=>by have:=OG h.v e he;have:=h.ln;unfold tf;omega,by have:=h.dr;omega,zE⟩
 have hv:Vq o=true:=by unfold Uu at hc;rw[zzac]at hc;exact hc.1
 obtain⟨v1,v2,v3,v4⟩:=qb hv;exact atG h hk v1.1 v4 hx
def rP{k:Nat}{g:Pg}{o:Od}(h:dJ k g)(hk:k<=900):dJ (k+1) (Zn g o):=by
 have hup:dJ (k+1) {g with ve:=g.ve+1}:=⟨h.v,h.ln,h.sh,h.aN,by have:=h.ens;simp only;omega,h.bks,by have:=h.cls;simp only;omega,h.ch,h.ep,h.cu,by have:=h.dr;simp only;omega,by have:=h.ve;simp only;omega⟩;unfold Zn;split
 ·exact hup
 rename_i hc;split
 ·cases he:Ae o.cu g.cu with
  |none=>exact hup
  |some x=>
   refine⟨h.v,h.ln,h.sh,h.aN,by have:=h.ens;simp only;omega,h.bks,by have:=h.cls;simp only;omega,h.ch,h.ep,?_,by have:=h.dr;simp only;omega,by have:=h.ve;simp only;omega⟩;unfold Ae at he;split at he
   ·split at he
    ·cases he
    cases he;simp only;omega
   cases he
 cases hx:Jk g o.fr (Xn o.fr g.ev []) o with
 |none=>exact hup
 |some r=>
  obtain⟨q,d⟩:=r
  have hv:Vq o=true:=by
   have hc:Uu g o=true:=by simpa using hc
   unfold Uu at hc;rw[zzac]at hc;exact hc.1
  obtain⟨v1,v2,v3,v4⟩:=qb hv;obtain⟨c1,c2,c3,c4⟩:=j6 hx;obtain⟨q1,q2,q3,q4,q5,q6,q7⟩:=j7 c2;obtain⟨n1,n2,n3,n4⟩:=LW h hk v1.1 hx;have fS:=aal q (Vt g o.fr (Xn o.fr g.ev []) o q d) _ zE n2;have hbp:=aje q (fun e he=>(OG c3 e he).2.2.2.2.2) (Vt g o.fr (Xn o.fr g.ev []) o q d) (Uc g o.fr (Xn o.fr g.ev []) o q d) zE;refine⟨c3,by show q.ln<=1500;have:=h.ln;omega,by show q.sh.length<=10;rw[q2];exact h.sh,by show q.aN.length<=20;rw[q3];exact h.aN,by show q.ens.length<=12+(k+1);have:=h.ens;omega,by show q.bks.length<=10;rw[q4];exact h.bks,by show q.cls.length<=20+(k+1);have:=h.cls;omega,fW.app fS n3,?_,h.cu,?_,by show g.ve+1=_;have:=h.ve;omega⟩
  ·intro e he;rcases zzao.1 he with he|he
   ·exact n4 e he
   exact hbp e he
  show(dd (Jc (g.dr++Kz g o.fr (Xn o.fr g.ev []) o q d))).length<=1000*(k+1);have t1:=KA (Jc (g.dr++Kz g o.fr (Xn o.fr g.ev []) o q d));rw[rO,zzak]at t1;have t2:=p9 false (Yp g (Xn o.fr g.ev []) q.ens) (RS g o.fr (Xn o.fr g.ev []) o q d);have t3:=j5 g (Xn o.fr g.ev []) q.ens;have t4:=h.ens;have t5:=h.dr;unfold Kz at t1;unfold Kz;omega
structure MdV (M:Md):Prop where
 n:∀l∈M.ps,l.length=M.os.length+1
 pr:∀l∈M.ps,∀i g,l[i]?=some g->dJ i g
 fr:∀o∈M.os,0<=o.2/\o.2<=100000000
 los:M.os.length<=200
open Go Go.Abs Go.RowKit
def isI(a:AV):Bool:=match a with
 |.int _ _=>true
 |_=>false
def afK{a:AV}(h:isI a=true){w:World}{γ γ':G}{v:Value}(hr:aA w γ a v):v.oneCell'=true/\aA w γ' a v:=by
 cases hr<;>simp[isI]at h;exact⟨rfl,.int _ _⟩
def LX{P:Program}{W:World}{name:String}{d:DataW Unit}{rest:List (String×DataW Unit)}{g:Nat}{t:TypeId}{D:Nat}{row:P2}(h:∃ps,DataW.LaidVars P W ((name,d)::rest) ps)
  (hg:P.globalNamed name=some g)(hty:(P.globals[g]?).map (·.type)=some t)(bV:ZO P D t=true)(hav:cD P D t d=row)(hi:row.all isI=true)(aO:row≠[]):aA W (G0 GW) (.ep row 0) (.pointer (some ⟨g,0,none⟩)):=by
 obtain⟨ps,g',t',cs,aT,p,q,hg',XU,ax9,hd,_,_⟩:=h;obtain rfl:=Option.some.inj (hg.symm.trans hg');obtain rfl:=Option.some.inj (hty.symm.trans XU);obtain⟨_,hr,_,_⟩:=jW D aT t cs.toList d p hd bV;rw[hav]at hr
 have bL:∀(j:Nat)(c:AV),row[j]?=some c->W.cell? ⟨g,j,none⟩=some (cs.toList.getD j undef)/\(cs.toList.getD j undef).oneCell'=true/\aA W (G0 GW).cU c (cs.toList.getD j undef):=by
  intro j c hj;have ah:j<row.length:=(zza.1 hj).1;have bZ:j<cs.toList.length:=by rw[<- hr.1];exact ah
  have hv:cs.toList[j]?=some (cs.toList.getD j undef):=by rw[zzax,zzaf bZ];rfl
  have hc:=World.var?_cell hg ax9 j;have h1:=hr.2 j c _ hj hv;have h2:isI c=true:=zzay.1 hi c (zzad hj);obtain⟨h3,h4⟩:=afK h2 (γ':=(G0 GW).cU) h1;refine⟨?_,h3,h4⟩;rw[hc,<- zzcb];exact hv
 have hsz:g<W.heap.size:=by
  obtain⟨a,r,rfl⟩:=List.exists_cons_of_ne_nil aO;have:=(bL 0 a rfl).1;simp only[World.cell?]at this;rcases zzaa g W.heap.size with h|h
  ·exact h
  rw[zzbo zE]at this;simp at this
 refine aA.ep (o:=0) (b:=g) (off:=0) (fun j=>cs.toList.getD j undef) hsz (fun j c hj=>?_) (fun j c hj=>(bL j c hj).2.2);obtain⟨h1,h2,_⟩:=bL j c hj;refine⟨Nm h1,trivial,h2⟩
def aan:cD Tryz.prog 5 339 (Rows.laid_onair_timecode_rates:DataW Unit)=HC:=by
 unfold Rows.laid_onair_timecode_rates;have h3:∀n:Int,cD Tryz.prog 2 3 (.lit (.int .i64 n):DataW Unit)=[I n]:=fun n=>Zf Tryz.underlying3 _ _;have h3':∀n:Int,cD Tryz.prog 3 3 (.lit (.int .i64 n):DataW Unit)=[I n]:=fun n=>Zf Tryz.underlying3 _ _
 have h23:∀a b:Int,cD Tryz.prog 3 23 (.agg [.lit (.int .i64 a),.lit (.int .i64 b)]:DataW Unit)=[I a,I b]:=fun a b=>by
  rw[Uv Tryz.underlying23];simp[h3]
 have aya:∀a b c d:Int,cD Tryz.prog 4 295 (.agg [.agg [.lit (.int .i64 a),.lit (.int .i64 b)],.lit (.int .i64 c),.lit (.int .i64 d)]:DataW Unit)=[I a,I b,I c,I d]:=fun a b c d=>by
  rw[Uv Tryz.underlying295];simp[h3',h23]
 rw[Ro Tryz.underlying339];simp only[zzdx,zzeh,aya];rfl
def am0{W:World}{rest:List (String×DataW Unit)}(h:laidMet Tryz.prog (("onair/timecode.rates",Rows.laid_onair_timecode_rates)::rest) W):∀g,aA W (G0 GW) (aD g) (.pointer (some ⟨g,0,none⟩)):=by
 intro g;obtain⟨ps,h,_⟩:=h
 match g with
 |0=>exact .junk _
 |1=>exact .junk _
 |2=>exact LX (D:=5) ⟨ps,h⟩ (g:=2) (t:=339) (by kernel_rfl) (by kernel_rfl) (by kernel_rfl) aan (by decide) (by simp[HC])
 |g+3=>exact .junk _
def Yt{m:Int}(h:(Lit.int .i64 m).wf=true):Zg m:=by
 simp[Lit.wf,IntKind.min,IntKind.max,IntKind.bits,IntKind.signed]at h;unfold Zg;omega
def Sz{H:Type}(t:TypeId)(x:DataW H):Prop:=∀k∈x.weights Tryz.prog t,k<=reachBytes
def Sz.all{H:Type}{e:TypeId}{l:List (DataW H)}(h:∀k∈DataW.weightsAll Tryz.prog e l,k<=reachBytes):∀y∈l,Sz e y:=by
 induction l with
 |nil=>intro y hy;cases hy
 |cons a l ih=>
  intro y hy;simp only[DataW.weightsAll,zzao]at h;rcases zzam.1 hy with rfl|hy
  ·exact fun k hk=>h k (.inl hk)
  exact ih (fun k hk=>h k (.inr hk)) y hy
def Sz.slice{H:Type}{t e:TypeId}{bM spare:List (DataW H)}(hu:Tryz.prog.underlying t=some (.slice e))(h:Sz t (.slice bM spare:DataW H)):(bM.length+spare.length)*Tryz.prog.bytesOf e<=reachBytes/\∀y∈bM,Sz e y:=by
 unfold Sz at h;simp only[DataW.weights,hu]at h;refine⟨h _ zd,Sz.all fun k hk=>h k (by simp[hk])⟩
def Sz.agg{H:Type}{t:TypeId}{fs:Array Field}{parts:List (DataW H)}(hu:Tryz.prog.underlying t=some (.struct fs))(h:Sz t (.agg parts:DataW H)):∀k∈DataW.weightsEach Tryz.prog (fs.toList.map (·.type)) parts,k<=reachBytes:=by
 unfold Sz at h;simpa only[DataW.weights,hu]using h
def Wh{H:Type}{α:Type}(row:α->P2)(ok:α->Prop){t e:TypeId}(hu:Tryz.prog.underlying t=some (.slice e)){n:Nat}(iM:∀y:DataW H,Typed Tryz.prog n e y->Sz e y->∃a,ok a/\cD Tryz.prog n e y=row a)
  {x:DataW H}(h:Typed Tryz.prog (n+1) t x)(hs:Sz t x):∃(l:List α)(rt:Rt),(∀a∈l,ok a)/\l.length*Tryz.prog.bytesOf e<=reachBytes/\l.length<=maxLen/\cD Tryz.prog (n+1) t x=[.sl rt (l.map row)]:=by
 rcases GZ hu h with rfl|⟨bM,spare,rfl,hl,he⟩
 ·exact⟨[],.nil,(fun _ h=>by cases h),(by rw[zzco,zzhf];exact zzbp _),zzbp _,afg hu⟩
 obtain⟨hz,Cw⟩:=hs.slice hu
 have key:∃X:List α,(∀y∈X,ok y)/\bM.map (cD Tryz.prog n e)=X.map row:=by
  clear hl h hz hs;induction bM with
  |nil=>exact⟨[],zd,rfl⟩
  |cons y ys ih=>
   obtain⟨X,h1,h2⟩:=ih (fun z hz=>he z (by simp[hz])) (fun z hz=>Cw z (by simp[hz]));obtain⟨q,hq,hv⟩:=iM y (he y zd) (Cw y zd);refine⟨q::X,?_,by rw[zzas,h2,hv];rfl⟩;intro z hz;rcases zzam.1 hz with rfl|hz
   ·exact hq
   exact h1 z hz
 obtain⟨X,h1,h2⟩:=key;have aH:X.length=bM.length:=by have:=congrArg List.length h2;simpa using this.symm
 refine⟨X,.nn,h1,?_,zE,by rw[amB hu,h2]⟩;rw[aH];refine zzbc (zzbd _ (Nat.le_add_right _ _)) hz
def OH{α:Type}{l:List α}(h:l.length=2):∃a b,l=[a,b]:=by
 match l,h with
 |[a,b],_=>exact⟨a,b,rfl⟩
def OJ{α:Type}{l:List α}(h:l.length=5):∃a0 a1 a2 a3 a4,l=[a0,a1,a2,a3,a4]:=by
 match l,h with
 |[a0,a1,a2,a3,a4],_=>exact⟨a0,a1,a2,a3,a4,rfl⟩
def HD{α:Type}{l:List α}(h:l.length=7):∃a0 a1 a2 a3 a4 a5 a6,l=[a0,a1,a2,a3,a4,a5,a6]:=by
 match l,h with
 |[a0,a1,a2,a3,a4,a5,a6],_=>exact⟨a0,a1,a2,a3,a4,a5,a6,rfl⟩
def aao{α:Type}{l:List α}(h:l.length=8):∃a0 a1 a2 a3 a4 a5 a6 a7,l=[a0,a1,a2,a3,a4,a5,a6,a7]:=by
 match l,h with
 |[a0,a1,a2,a3,a4,a5,a6,a7],_=>exact⟨a0,a1,a2,a3,a4,a5,a6,a7,rfl⟩
def RY{α:Type}{l:List α}(h:l.length=11):∃a0 a1 a2 a3 a4 a5 a6 a7 a8 a9 a10,l=[a0,a1,a2,a3,a4,a5,a6,a7,a8,a9,a10]:=by
 match l,h with
 |[a0,a1,a2,a3,a4,a5,a6,a7,a8,a9,a10],_=>exact⟨a0,a1,a2,a3,a4,a5,a6,a7,a8,a9,a10,rfl⟩
def HE{H:Type}{n:Nat}:∀(L:List Field)(parts:List (DataW H)),(∀f∈L,f.type=3)->(∀p∈L.zip parts,Typed Tryz.prog (n+1) p.1.type p.2)->parts.length=L.length->
  ∃l:Pi,l.length=L.length/\(∀m∈l,Zg m)/\(L.zip parts).flatMap (fun p=>cD Tryz.prog (n+1) p.1.type p.2)=l.map I
 |[],parts,_,_,_=>⟨[],rfl,(fun _ h=>by cases h),by cases parts<;>rfl⟩
 |f::L,[],_,_,h=>by simp at h
 |f::L,a::parts,bD,hp,hl=>by
  obtain⟨l,l1,l2,l3⟩:=HE L parts (fun g hg=>bD g (zzd _ hg)) (fun p VM=>hp p (zzd _ VM)) (Nm hl);have ha:=hp (f,a) zd;have hf:=bD f zd;rw[hf]at ha;obtain⟨m,rfl,w⟩:=Xm Tryz.underlying3 ha;refine⟨m::l,by simp[l1],?_,?_⟩
  ·intro k hk;rcases zzam.1 hk with rfl|hk
   ·exact Yt w
   exact l2 k hk
  simp only[zzdk,zzdx,hf];rw[Zf Tryz.underlying3,l3];rfl
def qc{H:Type}{t:TypeId}{fs:Array Field}(hu:Tryz.prog.underlying t=some (.struct fs))(bD:∀f∈fs.toList,f.type=3){y:DataW H}{n:Nat}(h:Typed Tryz.prog (n+2) t y):
  ∃l:Pi,l.length=fs.size/\(∀m∈l,Zg m)/\cD Tryz.prog (n+2) t y=l.map I:=by
 obtain⟨parts,rfl,aH,hp⟩:=Uw hu h;rw[Uv hu];obtain⟨l,l1,l2,l3⟩:=HE fs.toList parts bD hp (Nm aH);exact⟨l,Nm l1,l2,l3⟩
def aap(s:Sp):Prop:=Zg s.1/\Zg s.2
def DU{H:Type}{t:TypeId}{f g:Field}(hu:Tryz.prog.underlying t=some (.struct #[f,g]))(hf:f.type=3)(hg:g.type=3){y:DataW H}{n:Nat}(h:Typed Tryz.prog (n+2) t y):∃s:Sp,aap s/\cD Tryz.prog (n+2) t y=Qe s:=by
 obtain⟨l,l1,l2,l3⟩:=qc hu (by simp[hf,hg]) h;obtain⟨a,b,rfl⟩:=OH (show l.length=2 from l1);exact⟨(a,b),⟨l2 a zd,l2 b zd⟩,l3⟩
def am1(x:It):Prop:=Zg x.id/\Zg x.ki/\Zg x.fr/\Zg x.sp/\Zg x.ra
def am2(x:Cl):Prop:=Zg x.ki/\Zg x.it/\Zg x.fr/\Zg x.to/\Zg x.re/\Zg x.n/\Zg x.a/\Zg x.b
def am3(x:Bk):Prop:=Zg x.id/\Zg x.it/\Zg x.re/\Zg x.fr/\Zg x.to/\Zg x.un/\Zg x.pr
def afL(x:En):Prop:=(Zg x.id/\Zg x.it/\Zg x.fr/\Zg x.ea/\Zg x.la/\Zg x.bo)/\x.al.length<=8796093022208/\∀a∈x.al,aap a
structure atH (p:Pl):Prop where
 ch:Zg p.ch
 nu:Zg p.nu
 de:Zg p.de
 of:Zg p.of
 ep:Zg p.ep
 rg:Zg p.rg
 ln:Zg p.ln
 fi:Zg p.fi
 sh:∀s∈p.sh,aap s
 aN:∀s∈p.aN,am1 s
 ens:∀s∈p.ens,afL s
 bks:∀s∈p.bks,am3 s
 cls:∀s∈p.cls,am2 s
 shl:p.sh.length<=8796093022208
 itl:p.aN.length<=8796093022208
 enl:p.ens.length<=8796093022208
 bkl:p.bks.length<=8796093022208
 cll:p.cls.length<=8796093022208
def aaq{H:Type}{y:DataW H}{n:Nat}(h:Typed Tryz.prog (n+2) 59 y):∃x:It,am1 x/\cD Tryz.prog (n+2) 59 y=Qm x:=by
 obtain⟨l,l1,l2,l3⟩:=qc Tryz.underlying59 zd h;obtain⟨a0,a1,a2,a3,a4,rfl⟩:=OJ (show l.length=5 from l1);exact⟨⟨a0,a1,a2,a3,a4⟩,⟨l2 _ zd,l2 _ zd,l2 _ zd,l2 _ zd,l2 _ zd⟩,l3⟩
def yQ{H:Type}{y:DataW H}{n:Nat}(h:Typed Tryz.prog (n+2) 49 y):∃x:Cl,am2 x/\cD Tryz.prog (n+2) 49 y=Qg x:=by
 obtain⟨l,l1,l2,l3⟩:=qc Tryz.underlying49 zd h;obtain⟨a0,a1,a2,a3,a4,a5,a6,a7,rfl⟩:=aao (show l.length=8 from l1);exact⟨⟨a0,a1,a2,a3,a4,a5,a6,a7⟩,⟨l2 _ zd,l2 _ zd,l2 _ zd,l2 _ zd,l2 _ zd,l2 _ zd,l2 _ zd,l2 _ zd⟩,l3⟩
def HF{H:Type}{y:DataW H}{n:Nat}(h:Typed Tryz.prog (n+2) 130 y):∃x:Bk,am3 x/\cD Tryz.prog (n+2) 130 y=Xi x:=by
 obtain⟨l,l1,l2,l3⟩:=qc Tryz.underlying130 zd h;obtain⟨a0,a1,a2,a3,a4,a5,a6,rfl⟩:=HD (show l.length=7 from l1);exact⟨⟨a0,a1,a2,a3,a4,a5,a6⟩,⟨l2 _ zd,l2 _ zd,l2 _ zd,l2 _ zd,l2 _ zd,l2 _ zd,l2 _ zd⟩,l3⟩
def LY:Tryz.prog.bytesOf 59=40:=by kernel_rfl
def afM:Tryz.prog.bytesOf 64=16:=by kernel_rfl
def afN:Tryz.prog.bytesOf 47=72:=by kernel_rfl
def aar:Tryz.prog.bytesOf 130=56:=by kernel_rfl
def aas:Tryz.prog.bytesOf 49=64:=by kernel_rfl
def aat:Tryz.prog.bytesOf 124=16:=by kernel_rfl
def yR(q:En×Rt):P2:=[I q.1.id,I q.1.it,I q.1.fr,I q.1.ea,I q.1.la,I q.1.bo,.sl q.2 (q.1.al.map Qe)]
def BJ{H:Type}{y:DataW H}{n:Nat}(h:Typed Tryz.prog (n+4) 47 y)(hs:Sz 47 y):∃q:En×Rt,afL q.1/\cD Tryz.prog (n+4) 47 y=yR q:=by
 obtain⟨parts,rfl,aH,hp⟩:=Uw Tryz.underlying47 h;obtain⟨a0,a1,a2,a3,a4,a5,a6,rfl⟩:=HD aH;have hz:=hs.agg Tryz.underlying47;have t0:=hp (⟨ "ID",3,0,false, "", "",0⟩,a0) (by simp);have t1:=hp (⟨ "Item",3,1,false, "", "",8⟩,a1) (by simp);have t2:=hp (⟨ "Frames",3,2,false, "", "",16⟩,a2) (by simp);have t3:=hp (⟨ "Earliest",3,3,false, "", "",24⟩,a3) (by simp);have t4:=hp (⟨ "Latest",3,4,false, "", "",32⟩,a4) (by simp);have t5:=hp (⟨ "Booking",3,5,false, "", "",40⟩,a5) (by simp);have t6:=hp (⟨ "Alts",45,6,false, "", "",48⟩,a6) (by simp);obtain⟨m0,rfl,w0⟩:=Xm Tryz.underlying3 t0;obtain⟨m1,rfl,w1⟩:=Xm Tryz.underlying3 t1;obtain⟨m2,rfl,w2⟩:=Xm Tryz.underlying3 t2;obtain⟨m3,rfl,w3⟩:=Xm Tryz.underlying3 t3;obtain⟨m4,rfl,w4⟩:=Xm Tryz.underlying3 t4;obtain⟨m5,rfl,w5⟩:=Xm Tryz.underlying3 t5;have hs6:Sz 45 a6:=fun k hk=>hz k (by simp[DataW.weightsEach,hk]);obtain⟨l,rt,l1,l2,l3,l4⟩:=Wh Qe aap Tryz.underlying45 (fun y hy _=>DU Tryz.underlying64 rfl rfl hy) t6 hs6;rw[afM]at l2;have hr:reachBytes=140737488351232:=rfl;refine⟨(⟨m0,m1,m2,m3,m4,m5,l⟩,rt),⟨⟨Yt w0,Yt w1,Yt w2,Yt w3,Yt w4,Yt w5⟩,by simp only;omega,l1⟩,?_⟩;rw[Uv Tryz.underlying47];simp only[zzdk,zzeo,zzdx,zzeh];rw[Zf Tryz.underlying3,Zf Tryz.underlying3,Zf Tryz.underlying3,Zf Tryz.underlying3,Zf Tryz.underlying3,Zf Tryz.underlying3,l4];rfl
def am4(l:List (En×Rt))(rt:Rt):Wk (.sl rt (l.map yR)) (.sl .ro ((l.map (·.1)).map Qd)):=by
 refine Wk.trans (Wk.sl _ _) ?_;rw[zzcu];refine Wk.rows l yR (Qd ∘ (·.1)) (fun _=>rfl) fun a j c' h=>?_
 match j,h with
 |0,h=>exact⟨_,rfl,by cases h;exact Ps⟩
 |1,h=>exact⟨_,rfl,by cases h;exact Ps⟩
 |2,h=>exact⟨_,rfl,by cases h;exact Ps⟩
 |3,h=>exact⟨_,rfl,by cases h;exact Ps⟩
 |4,h=>exact⟨_,rfl,by cases h;exact Ps⟩
 |5,h=>exact⟨_,rfl,by cases h;exact Ps⟩
 |6,h=>exact⟨_,rfl,by cases h;exact Wk.sl _ _⟩
 |j+7,h=>simp[Qd]at h
abbrev PlT:=Pl×List (En×Rt)×Rt×Rt×Rt×Rt×Rt
def LZ(q:PlT):Pl:={q.1 with ens:=q.2.1.map (·.1)}
def am5(q:PlT):P2:=[I q.1.ch,I q.1.nu,I q.1.de,I q.1.of,.sl q.2.2.1 (q.1.sh.map Qe),I q.1.ep,I q.1.rg,I q.1.ln,I q.1.fi,.sl q.2.2.2.1 (q.1.aN.map Qm),.sl q.2.2.2.2.1 (q.2.1.map yR),.sl q.2.2.2.2.2.1 (q.1.bks.map Xi),.sl q.2.2.2.2.2.2 (q.1.cls.map Qg)]
def aau{H:Type}{x:DataW H}{n:Nat}(h:Typed Tryz.prog (n+6) 32 x)(hs:Sz 32 x):∃q:PlT,atH (LZ q)/\cD Tryz.prog (n+6) 32 x=am5 q:=by
 obtain⟨parts,rfl,aH,hp⟩:=Uw Tryz.underlying32 h;obtain⟨a0,a1,a2,a3,a4,a5,a6,a7,a8,a9,a10,rfl⟩:=RY aH;have hz:=hs.agg Tryz.underlying32;have t0:=hp (⟨ "Channel",3,0,false, "", "",0⟩,a0) (by simp);have t1:=hp (⟨ "Rate",23,1,false, "", "",8⟩,a1) (by simp);have t2:=hp (⟨ "Zone",26,3,false, "", "",24⟩,a2) (by simp);have t3:=hp (⟨ "Epoch",3,5,false, "", "",56⟩,a3) (by simp);have t4:=hp (⟨ "Regions",3,6,false, "", "",64⟩,a4) (by simp);have t5:=hp (⟨ "Length",3,7,false, "", "",72⟩,a5) (by simp);have t6:=hp (⟨ "Fill",3,8,false, "", "",80⟩,a6) (by simp);have t7:=hp (⟨ "Items",27,9,false, "", "",88⟩,a7) (by simp);have t8:=hp (⟨ "Entries",28,10,false, "", "",112⟩,a8) (by simp);have t9:=hp (⟨ "Bookings",29,11,false, "", "",136⟩,a9) (by simp);have t10:=hp (⟨ "Clauses",30,12,false, "", "",160⟩,a10) (by simp);obtain⟨m0,rfl,w0⟩:=Xm Tryz.underlying3 t0;obtain⟨m3,rfl,w3⟩:=Xm Tryz.underlying3 t3;obtain⟨m4,rfl,w4⟩:=Xm Tryz.underlying3 t4;obtain⟨m5,rfl,w5⟩:=Xm Tryz.underlying3 t5;obtain⟨m6,rfl,w6⟩:=Xm Tryz.underlying3 t6;obtain⟨r,⟨r1,r2⟩,atI⟩:=DU Tryz.underlying23 rfl rfl t1;obtain⟨zp,rfl,ayb,zpp⟩:=Uw Tryz.underlying26 t2;obtain⟨z0,z1,rfl⟩:=OH ayb;have u0:=zpp (⟨ "Offset",3,0,false, "", "",0⟩,z0) (by simp);have u1:=zpp (⟨ "Shifts",24,1,false, "", "",8⟩,z1) (by simp);obtain⟨mo,rfl,wo⟩:=Xm Tryz.underlying3 u0;have s1:Sz 24 z1:=fun k hk=>hz k (by simp[DataW.weightsEach,DataW.weights,Tryz.underlying26,hk]);have s7:Sz 27 a7:=fun k hk=>hz k (by simp[DataW.weightsEach,hk]);have s8:Sz 28 a8:=fun k hk=>hz k (by simp[DataW.weightsEach,hk]);have s9:Sz 29 a9:=fun k hk=>hz k (by simp[DataW.weightsEach,hk]);have s10:Sz 30 a10:=fun k hk=>hz k (by simp[DataW.weightsEach,hk]);have hr:reachBytes=140737488351232:=rfl;obtain⟨sh,rt1,sh1,sh2,_,sh4⟩:=Wh Qe aap Tryz.underlying24 (fun y hy _=>DU Tryz.underlying124 rfl rfl hy) u1 s1;obtain⟨it,rt7,it1,it2,_,it4⟩:=Wh Qm am1 Tryz.underlying27 (fun y hy _=>aaq hy) t7 s7;obtain⟨en,rt8,en1,en2,_,en4⟩:=Wh yR (fun q=>afL q.1) Tryz.underlying28 (fun y hy hz=>BJ hy hz) t8 s8;obtain⟨bk,rt9,bk1,bk2,_,bk4⟩:=Wh Xi am3 Tryz.underlying29 (fun y hy _=>HF hy) t9 s9;obtain⟨cl,ayc,cl1,cl2,_,cl4⟩:=Wh Qg am2 Tryz.underlying30 (fun y hy _=>yQ hy) t10 s10;rw[aat]at sh2;rw[LY]at it2;rw[afN]at en2;rw[aar]at bk2;rw[aas]at cl2;refine⟨(⟨m0,r.1,r.2,mo,sh,m3,m4,m5,m6,it,[],bk,cl⟩,en,rt1,rt7,rt8,rt9,ayc),⟨Yt w0,r1,r2,Yt wo,Yt w3,Yt w4,Yt w5,Yt w6,sh1,it1,?_,bk1,cl1,by simp only[LZ];omega,by simp only[LZ];omega,by simp only[LZ,zzbv];omega,by simp only[LZ];omega,by simp only[LZ];omega⟩,?_⟩
 ·intro s hs;obtain⟨q,hq,rfl⟩:=zzav.1 hs;exact en1 q hq
 rw[Uv Tryz.underlying32];simp only[zzdk,zzeo,zzdx,zzeh];rw[Zf Tryz.underlying3,Zf Tryz.underlying3,Zf Tryz.underlying3,Zf Tryz.underlying3,Zf Tryz.underlying3,it4,en4,bk4,cl4,Uv Tryz.underlying26];simp only[zzdk,zzeo,zzdx,zzeh];rw[Zf Tryz.underlying3,sh4,atI];rfl
def aav{H:Type}{x:DataW H}{n:Nat}(h:Typed Tryz.prog (n+6) 32 x)(hs:Sz 32 x):∃p:Pl,atH p/\Wk (pY Tryz.prog (n+6) 32 x) (.agg (Qa p)):=by
 have bJ:Ki Tryz.prog 32=true:=by unfold Ki;rw[Tryz.underlying32]
 obtain⟨q,h1,h2⟩:=aau h hs;refine⟨LZ q,h1,?_⟩;rw[afh bJ,h2];exact jN ⟨Ps,Ps,Ps,Ps,Wk.sl _ _,Ps,Ps,Ps,Ps,Wk.sl _ _,am4 _ _,Wk.sl _ _,Wk.sl _ _,trivial⟩
def afO:Tryz.prog.bytesOf 53=232:=by kernel_rfl
structure am6 (o:Od):Prop where
 n:Zg o.n
 fr:Zg o.fr
 en:afL o.nw
abbrev OdT:=Od×Rt
def DV(q:OdT):P2:=[I q.1.sq,I q.1.ch,I q.1.fr,I q.1.ki,I q.1.en,I q.1.n,I q.1.nw.id,I q.1.nw.it,I q.1.nw.fr,I q.1.nw.ea,I q.1.nw.la,I q.1.nw.bo,.sl q.2 (q.1.nw.al.map Qe),I q.1.cl.ki,I q.1.cl.it,I q.1.cl.fr,I q.1.cl.to,I q.1.cl.re,I q.1.cl.n,I q.1.cl.a,I q.1.cl.b,I q.1.cu.id,I q.1.cu.fr,I q.1.cu.to,I q.1.cu.pr,.str q.1.cu.tx]
def afP{H:Type}{x:DataW H}{n:Nat}(h:Typed Tryz.prog (n+2) 51 x):∃c:Cue,cD Tryz.prog (n+2) 51 x=Qk c:=by
 obtain⟨parts,rfl,aH,hp⟩:=Uw Tryz.underlying51 h;obtain⟨a0,a1,a2,a3,a4,rfl⟩:=OJ aH;have t0:=hp (⟨ "ID",3,0,false, "", "",0⟩,a0) (by simp);have t1:=hp (⟨ "From",3,1,false, "", "",8⟩,a1) (by simp);have t2:=hp (⟨ "To",3,2,false, "", "",16⟩,a2) (by simp);have t3:=hp (⟨ "Priority",3,3,false, "", "",24⟩,a3) (by simp);have t4:=hp (⟨ "Text",9,4,false, "", "",32⟩,a4) (by simp);obtain⟨m0,rfl,w0⟩:=Xm Tryz.underlying3 t0;obtain⟨m1,rfl,w1⟩:=Xm Tryz.underlying3 t1;obtain⟨m2,rfl,w2⟩:=Xm Tryz.underlying3 t2;obtain⟨m3,rfl,w3⟩:=Xm Tryz.underlying3 t3;obtain⟨s,rfl,_⟩:=Rn Tryz.underlying9 t4;refine⟨⟨m0,m1,m2,m3,⟨s.toArray⟩⟩,?_⟩;rw[Uv Tryz.underlying51];simp only[zzdk,zzeo,zzdx,zzeh];rw[Zf Tryz.underlying3,Zf Tryz.underlying3,Zf Tryz.underlying3,Zf Tryz.underlying3,aff Tryz.underlying9];rfl
def afQ{α:Type}{l:List α}(h:l.length=9):∃a0 a1 a2 a3 a4 a5 a6 a7 a8,l=[a0,a1,a2,a3,a4,a5,a6,a7,a8]:=by
 match l,h with
 |[a0,a1,a2,a3,a4,a5,a6,a7,a8],_=>exact⟨a0,a1,a2,a3,a4,a5,a6,a7,a8,rfl⟩
def RZ{H:Type}{x:DataW H}{n:Nat}(h:Typed Tryz.prog (n+5) 53 x)(hs:Sz 53 x):∃q:OdT,am6 q.1/\cD Tryz.prog (n+5) 53 x=DV q:=by
 obtain⟨parts,rfl,aH,hp⟩:=Uw Tryz.underlying53 h;obtain⟨a0,a1,a2,a3,a4,a5,a6,a7,a8,rfl⟩:=afQ aH;have hz:=hs.agg Tryz.underlying53;have t0:=hp (⟨ "Seq",3,0,false, "", "",0⟩,a0) (by simp);have t1:=hp (⟨ "Channel",3,1,false, "", "",8⟩,a1) (by simp);have t2:=hp (⟨ "Frame",3,2,false, "", "",16⟩,a2) (by simp);have t3:=hp (⟨ "Kind",3,3,false, "", "",24⟩,a3) (by simp);have t4:=hp (⟨ "Entry",3,4,false, "", "",32⟩,a4) (by simp);have t5:=hp (⟨ "N",3,5,false, "", "",40⟩,a5) (by simp);have t6:=hp (⟨ "New",47,6,false, "", "",48⟩,a6) (by simp);have t7:=hp (⟨ "Clause",49,13,false, "", "",120⟩,a7) (by simp);have t8:=hp (⟨ "Cue",51,21,false, "", "",184⟩,a8) (by simp);obtain⟨m0,rfl,w0⟩:=Xm Tryz.underlying3 t0;obtain⟨m1,rfl,w1⟩:=Xm Tryz.underlying3 t1;obtain⟨m2,rfl,w2⟩:=Xm Tryz.underlying3 t2;obtain⟨m3,rfl,w3⟩:=Xm Tryz.underlying3 t3;obtain⟨m4,rfl,w4⟩:=Xm Tryz.underlying3 t4;obtain⟨m5,rfl,w5⟩:=Xm Tryz.underlying3 t5;have s6:Sz 47 a6:=fun k hk=>hz k (by simp[DataW.weightsEach,hk]);obtain⟨⟨e,rt⟩,e1,e2⟩:=BJ t6 s6;obtain⟨c,c1,c2⟩:=yQ t7;obtain⟨u,u2⟩:=afP t8;refine⟨(⟨m0,m1,m2,m3,m4,m5,e,c,u⟩,rt),⟨Yt w5,Yt w2,e1⟩,?_⟩;rw[Uv Tryz.underlying53];simp only[zzdk,zzeo,zzdx,zzeh];rw[Zf Tryz.underlying3,Zf Tryz.underlying3,Zf Tryz.underlying3,Zf Tryz.underlying3,Zf Tryz.underlying3,Zf Tryz.underlying3,e2,c2,u2];rfl
def am7(l:List OdT)(rt:Rt):Wk (.sl rt (l.map DV)) (.sl .ro ((l.map (·.1)).map Qq)):=by
 refine Wk.trans (Wk.sl _ _) ?_;rw[zzcu];refine Wk.rows l DV (Qq ∘ (·.1)) (fun _=>rfl) fun a j c' h=>?_
 match j,h with
 |0,h=>exact⟨_,rfl,by cases h;exact Ps⟩
 |1,h=>exact⟨_,rfl,by cases h;exact Ps⟩
 |2,h=>exact⟨_,rfl,by cases h;exact Ps⟩
 |3,h=>exact⟨_,rfl,by cases h;exact Ps⟩
 |4,h=>exact⟨_,rfl,by cases h;exact Ps⟩
 |5,h=>exact⟨_,rfl,by cases h;exact Ps⟩
 |6,h=>exact⟨_,rfl,by cases h;exact Ps⟩
 |7,h=>exact⟨_,rfl,by cases h;exact Ps⟩
 |8,h=>exact⟨_,rfl,by cases h;exact Ps⟩
 |9,h=>exact⟨_,rfl,by cases h;exact Ps⟩
 |10,h=>exact⟨_,rfl,by cases h;exact Ps⟩
 |11,h=>exact⟨_,rfl,by cases h;exact Ps⟩
 |12,h=>exact⟨_,rfl,by cases h;exact Wk.sl _ _⟩
 |13,h=>exact⟨_,rfl,by cases h;exact Ps⟩
 |14,h=>exact⟨_,rfl,by cases h;exact Ps⟩
 |15,h=>exact⟨_,rfl,by cases h;exact Ps⟩
 |16,h=>exact⟨_,rfl,by cases h;exact Ps⟩
 |17,h=>exact⟨_,rfl,by cases h;exact Ps⟩
 |18,h=>exact⟨_,rfl,by cases h;exact Ps⟩
 |19,h=>exact⟨_,rfl,by cases h;exact Ps⟩
 |20,h=>exact⟨_,rfl,by cases h;exact Ps⟩
 |21,h=>exact⟨_,rfl,by cases h;exact Ps⟩
 |22,h=>exact⟨_,rfl,by cases h;exact Ps⟩
 |23,h=>exact⟨_,rfl,by cases h;exact Ps⟩
 |24,h=>exact⟨_,rfl,by cases h;exact Ps⟩
 |25,h=>exact⟨_,rfl,by cases h;exact Ps⟩
 |j+26,h=>simp[Qq,Qd,Qg,Qk]at h
def L3{H:Type}{x:DataW H}{n:Nat}(h:Typed Tryz.prog (n+6) 33 x)(hs:Sz 33 x):∃l:List Od,(∀o∈l,am6 o)/\l.length<=1000000000000/\Wk (pY Tryz.prog (n+6) 33 x) (.sl .ro (l.map Qq)):=by
 have bJ:Ki Tryz.prog 33=false:=by unfold Ki;rw[Tryz.underlying33]
 obtain⟨l,rt,l1,l2,_,l4⟩:=Wh DV (fun q=>am6 q.1) Tryz.underlying33 (fun y hy hz=>RZ hy hz) h hs;rw[afO]at l2;have hr:reachBytes=140737488351232:=rfl;refine⟨l.map (·.1),fun p hp=>?_,by rw[zzbv];omega,by rw[afi bJ l4];exact am7 l rt⟩;obtain⟨q,hq,rfl⟩:=zzav.1 hp;exact l1 q hq
open Go Go.Abs
def dI:AV->Int
 |.int _ n=>n
 |_=>0
def dR:AV->T5
 |.sl _ r=>r
 |_=>[]
def dN(l:P2)(i:Nat):AV:=l.getD i .junk
def dSp(l:P2):Sp:=(dI (dN l 0),dI (dN l 1))
def dIt(l:P2):It:=⟨dI (dN l 0),dI (dN l 1),dI (dN l 2),dI (dN l 3),dI (dN l 4)⟩
def dCl(l:P2):Cl:=⟨dI (dN l 0),dI (dN l 1),dI (dN l 2),dI (dN l 3),dI (dN l 4),dI (dN l 5),dI (dN l 6),dI (dN l 7)⟩
def dEn(l:P2):En:=⟨dI (dN l 0),dI (dN l 1),dI (dN l 2),dI (dN l 3),dI (dN l 4),dI (dN l 5),(dR (dN l 6)).map dSp⟩
def dBk(l:P2):Bk:=⟨dI (dN l 0),dI (dN l 1),dI (dN l 2),dI (dN l 3),dI (dN l 4),dI (dN l 5),dI (dN l 6)⟩
def dPl(l:P2):Pl:=⟨dI (dN l 0),dI (dN l 1),dI (dN l 2),dI (dN l 3),(dR (dN l 4)).map dSp,dI (dN l 5),dI (dN l 6),dI (dN l 7),dI (dN l 8),(dR (dN l 9)).map dIt,(dR (dN l 10)).map dEn,(dR (dN l 11)).map dBk,(dR (dN l 12)).map dCl⟩
def Qcs{α:Type}{f:α->P2}{g:P2->α}(h:∀a,g (f a)=a)(l:List α):(l.map f).map g=l:=by
 rw[zzcu]
 conv=>rhs;rw[<- List.map_id l]
 exact zzcr fun a _=>h a
theorem DW(s:Sp):dSp (Qe s)=s:=rfl
def OK(e:En):dEn (Qd e)=e:=by
 show(⟨e.id,e.it,e.fr,e.ea,e.la,e.bo,(e.al.map Qe).map dSp⟩:En)=e;rw[Qcs DW]
def OL(p:Pl):dPl (Qa p)=p:=by
 show(⟨p.ch,p.nu,p.de,p.of,(p.sh.map Qe).map dSp,p.ep,p.rg,p.ln,p.fi,(p.aN.map Qm).map dIt,(p.ens.map Qd).map dEn,(p.bks.map Xi).map dBk,(p.cls.map Qg).map dCl⟩:Pl)=p;rw[Qcs DW,Qcs (fun _=>rfl),Qcs OK,Qcs (fun _=>rfl),Qcs (fun _=>rfl)]
def dEv(l:P2):bn:=⟨dI (dN l 0),dI (dN l 1),dI (dN l 2),dI (dN l 3),dI (dN l 4),dI (dN l 5),(dR (dN l 6)).map dSp,false⟩
def dS:AV->ByteArray
 |.str s=>s
 |_=>⟨#[]⟩
def dCu(l:P2):Cue:=⟨dI (dN l 0),dI (dN l 1),dI (dN l 2),dI (dN l 3),dS (dN l 4)⟩
def dPg(l:P2):Pg:=⟨dPl l,(dR (dN l 13)).map dEv,(dR (dN l 14)).map dCu,dI (dN l 15),(dR (dN l 16)).map fun r=>dI (dN r 0),dI (dN l 17)⟩
def OM(l:List bn):(l.map Qf).map dEv=l.map zx:=by
 rw[zzcu];refine zzcr fun e _=>?_;show(⟨e.id,e.it,e.st,e.fr,e.i,e.re,(e.al.map Qe).map dSp,false⟩:bn)=zx e;rw[Qcs DW];rfl
def ON(g:Pg):dPg (Qj g)=eN g:=by
 show(⟨dPl (Qa g.p),(g.ev.map Qf).map dEv,(g.cu.map Qk).map dCu,g.ed,(g.dr.map Qy).map (fun r=>dI (dN r 0)),g.ve⟩:Pg)=eN g;rw[OL,OM,Qcs (fun _=>rfl),Qcs (fun _=>rfl)];rfl
def dOd(l:P2):Od:=⟨dI (dN l 0),dI (dN l 1),dI (dN l 2),dI (dN l 3),dI (dN l 4),dI (dN l 5),dEn (l.drop 6),dCl (l.drop 13),dCu (l.drop 21)⟩
def DX(o:Od):dOd (Qq o)=o:=by
 show(⟨o.sq,o.ch,o.fr,o.ki,o.en,o.n,dEn (Qd o.nw),o.cl,o.cu⟩:Od)=o;rw[OK]
end
