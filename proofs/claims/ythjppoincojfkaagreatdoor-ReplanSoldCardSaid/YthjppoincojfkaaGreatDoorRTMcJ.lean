import Derived.Test.YthjppoincojfkaaGreatDoorRTMcG
set_option linter.all false
set_option maxRecDepth 100000
set_option maxHeartbeats 64000000
namespace Go.Proofs.YthjppoincojfkaaGreatDoor
noncomputable section
open Go Go.Abs
def LK(p:Pl)(e:En)(f:Int):Option Int:=
 if e.fr<1\/1000000<e.fr\/p.ln<e.fr then none else
 if max f 0<1000000/\0<=lW p e/\lW p e<1000000 then(match lB (Za p e.it 0) (max f 0) e.fr with
  |none=>none
  |some s=>if lW p e<s then none else some s)else Vm p e f
def RN(p:Pl)(e:En)(f:Int):LK p e f=Vm p e f:=by
 unfold LK;split
 ·rename_i h;rw[Vm,ac h]
 rename_i h;split
 ·rename_i h2;rw[Vm,ab h];have hz:(max f 0).tdiv 1000000=0:=Int.tdiv_eq_zero_of_lt zE zE;rw[hz]
  conv=>rhs;unfold SP
  rw[ac zE];cases lB (Za p e.it 0) (max f 0) e.fr with
  |none=>
   simp only;unfold SP;rw[ab zE]
  |some s=>rfl
 rfl
def am1(p:Pl):Pi->List (Int×Int)->List (Int×Int)->Int->Int->Option (List Sp)
 |[],_,_,_,_=>some []
 |id::r,us,en,free,last=>match Wy id p.ens 0 with
  |none=>none
  |some k=>if(k:Int)<=last then none else match p.ens[k]? with
   |none=>none
   |some e=>if Jf p e.it≠ -1/\Jf p e.it<=(af e.it us).getD 0 then none else
    match LK p e (Vr en (Ub p e.it) (max e.ea free))with
    |none=>none
    |some s=>match am1 p r (Zx us e.it) (Xz p en e.it (s+e.fr)) (s+e.fr) k with
     |none=>none
     |some l=>some ((id,s)::l)
def OC(p:Pl):∀(ids:Pi)(us en:List (Int×Int))(free last:Int),am1 p ids us en free last=Yt p ids us en free last
 |[],_,_,_,_=>rfl
 |id::r,us,en,free,last=>by
  rw[am1,Yt];simp only[RN,OC p r];rfl
def aae(past:List Ad):pF (past.length:Int) (Wt past []):=by
 have h:=Hi past [] 0 zE (fun k v h=>by cases h);rwa [Int.zero_add]at h
def aaf(p:Pl)(past:List Ad):tV (Wu p past []):=Hj p past [] (fun k v h=>by cases h)
def U3(p:Pl)(id:Int):Int:=match Wy id p.ens 0 with
 |none=> -1
 |some k=>(k:Int)
def Bx{w:Bool}:∀{ids:Pi}{K:List Bool}{i:Nat}{id:Int}{k:Bool},ids[i]?=some id->K[i]?=some k->Xe w (ids.take (i+1)) (K.take (i+1))=Xe w (ids.take i) (K.take i)++if(k==w)=true then[id]else[]
 |[],_,_,_,_,h,_=>by simp at h
 |_::_,[],_,_,_,_,h=>by simp at h
 |x::r,y::ks,0,id,k,h1,h2=>by
  simp at h1 h2;subst h1;subst h2;simp[Xe]
 |x::r,y::ks,i+1,id,k,h1,h2=>by
  have ih:=Bx (w:=w) (ids:=r) (K:=ks) (i:=i) (Nm h1) (Nm h2);rw[zzes,zzes,zzes,zzes,Xe,Xe,ih];split<;>simp
def aag(p:Pl)(id:Int):(∃(n k:Nat)(e:En),Xn id p.ens=some e/\p.ens[k]?=some e/\Xh [id] (bG iA (De p)) 0=some (n,I k))\/(Xn id p.ens=none/\Xh [id] (bG iA (De p)) 0=none):=by
 have key:∀(l:List En)(i:Nat),Wy id l i=none->Xn id l=none:=by
  intro l;induction l with
  |nil=>intro i _;rfl
  |cons x r ih=>
   intro i h;rw[Wy]at h;split at h
   ·cases h
   rename_i hn;rw[Xn,ab hn];exact ih _ h
 rcases Xx iA id (De p) 0 with⟨p1,p2,_⟩|⟨u,n,p1,p2,_⟩
 ·rw[uK]at p1;cases hx:Wy id p.ens 0 with
  |none=>exact .inr ⟨key _ _ hx,p2⟩
  |some k=>rw[hx]at p1;cases p1
 rw[uK]at p1;cases hx:Wy id p.ens 0 with
 |none=>rw[hx]at p1;cases p1
 |some k=>
  rw[hx]at p1;cases p1;obtain⟨_,e,h2,h3,h4⟩:=Qdb hx;rw[zzel]at h2;exact .inl ⟨_,k,e,h4,h2,p2⟩
def afQ(pre post:T5)(ls:Pa)(b:Bd)(id:Int)(Y:YT)(K:So)(hK:∀ex,K (I (zi b.p id:Nat)) (aP pre b (post++ex) ls)):
  aB Tryz.prog aD Y 164 [.ptr (pre.length+9) 0,I id] (aP pre b post ls) K:=by
 refine Xo ac0 (fun _ _ _=>.junk) zd ?_;unfold zi at hK;rcases aag b.p id with⟨n,k,e,he,hk,hp⟩|⟨he,hp⟩
 ·rw[he]at hK;simp only at hK;have ur:=(zza.1 hk).1;have zK:(k:Int)<(b.p.ens.length:Int):=zE
  have yx:=Qdc hk;by_cases b1:e.bo=0
  ·rw[ab (by simp[b1])]at hK;rcases Qcy b.p e.it with⟨ni,y,hy,hi⟩|⟨hy,hi⟩
   ·rw[hy]at hK;simp only at hK;by_cases c1:y.ki=1
    ·rw[ac (.inl c1)]at hK;simp[vo,aP,aX,Qo,Qa,hp,ur,zK,yx,Qd,b1];refine Yz ?_;simp[vp,aP,aX,Qo,Qa,Qd,hi,ri,Qm,c1];simpa[aP,aX,Qo,Qa,Qm,Qd,b1,c1]using hK [Qd e,Qm y]
    by_cases c2:y.ki=4
    ·rw[ac (.inr c2)]at hK;simp[vo,aP,aX,Qo,Qa,hp,ur,zK,yx,Qd,b1];refine Yz ?_;simp[vp,aP,aX,Qo,Qa,Qd,hi,ri,Qm,c1,c2];simpa[aP,aX,Qo,Qa,Qm,Qd,b1,c1,c2]using hK [Qd e,Qm y]
    rw[ab (by rintro(h|h);exact c1 h;exact c2 h)]at hK;simp[vo,aP,aX,Qo,Qa,hp,ur,zK,yx,Qd,b1];refine Yz ?_;simp[vp,aP,aX,Qo,Qa,Qd,hi,ri,Qm,c1,c2];simpa[aP,aX,Qo,Qa,Qm,Qd,b1,c1,c2]using hK [Qd e,Qm y]
   rw[hy]at hK;simp only at hK;simp[vo,aP,aX,Qo,Qa,hp,ur,zK,yx,Qd,b1];refine Yz ?_;simp[vp,aP,aX,Qo,Qa,Qd,hi];simpa[aP,aX,Qo,Qa,Qd,b1]using hK [Qd e,[I 0,I 0,I 0,I 0,I 0]]
  rw[ac b1]at hK;simp[vo,vp,aP,aX,Qo,Qa,hp,ur,zK,yx,Qd,b1];simpa[aP,aX,Qo,Qa,Qd]using hK [Qd e]
 rw[he]at hK;simp only at hK;simp[vo,vp,aP,aX,Qo,Qa,hp];simpa[aP,aX,Qo,Qa]using hK []
def rH(n:Nat)(S:Pi):Rt:=if S=[]then .nil else .own n 1
def nN(S:Pi):Pa:=if S=[]then[]else[S.length]
def atK(ids:Pi)(K:List Bool)(w:Bool)(m0:AM)(f:Nat->AV)(m:AM):Prop:=
 ∃(i:Nat),f 10=I i/\i<=ids.length/\f 5=.sl (rH m0.lens.length (Xe w (ids.take i) (K.take i))) ((Xe w (ids.take i) (K.take i)).map Qz)/\m={m0 with lens:=m0.lens++nN (Xe w (ids.take i) (K.take i))}
def RO(ids:Pi)(K:List Bool)(w:Bool)(hi:ids.length<=1000)(hk:K.length=ids.length)(m:AM)(ia ib kb:Nat)(h1:Qi m.boxes ia=[.sl .ro (ids.map Qz)])(h2:Qi m.boxes ib=[.bs kb 0 ids.length 1])(h3:Qi m.boxes kb=K.map .bool)
  (g1:ia<m.boxes.length)(g2:ib<m.boxes.length)(g3:kb<m.boxes.length)(Y:YT)(Q:So)(hQ:Q (.sl (rH m.lens.length (Xe w ids K)) ((Xe w ids K).map Qz)) {m with lens:=m.lens++nN (Xe w ids K)}):
  aB Tryz.prog aD Y 163 [.bool w,.ptr ia 0,.ptr ib 0] m Q:=by
 refine Xo acZ (fun _ _ _=>.junk) zd ?_;simp[UB,h1,g1];refine Qj vn (atK ids K w m) (fun f _=>ids.length-(numOf (f 10)).toNat) ?_ ?_
 ·exact⟨0,zd,zE,by simp[Xe,rH],by simp[Xe,nN]⟩
 rintro f m' ⟨i,ij,iT,h5,rfl⟩;rcases zzaa i ids.length with ah|bu
 ·obtain⟨id,hx⟩:=aV ah;obtain⟨k,hy⟩:∃x,K[i]?=some x:=⟨_,zzaf zE⟩;have ai:Qi (ids.map Qz) i=Qz id:=Qw (by simp[hx]);have bK:nth ((K.map AV.bool).drop i) 0=.bool k:=ams (by simp[hy]);have wW:min 1 (K.length-i)=1:=zE
  have am2:i<K.length:=zE
  have aa:(i:Int)<(ids.length:Int):=zE
  have hw:=bO i zE;have bz:=Bx (w:=w) hx hy
  have fU:(Xe w (ids.take i) (K.take i)).length<=1000:=by
   have:=(Qcs w (ids.take i) (K.take i)).length_le;simp at this;omega
  obtain⟨S,hS⟩:∃S,Xe w (ids.take i) (K.take i)=S:=⟨_,rfl⟩;rw[hS]at h5 bz fU |-
  cases hc:(k==w)with
  |false=>
   rw[hc]at bz;have bz:Xe w (ids.take (i+1)) (K.take (i+1))=S:=by rw[bz];simp
   simp[ij,h5,ah,aa,am2,ai,Qz,vn,hw,hc,h2,h3,g2,g3,bK,wW,show 1<=K.length-i by omega];refine⟨aQ,⟨i+1,zd,zE,by rw[bz];simp[h5,Qz],by rw[bz]⟩,zE⟩
  |true=>
   rw[hc]at bz;have bz:Xe w (ids.take (i+1)) (K.take (i+1))=S++[id]:=by rw[bz];simp
   by_cases hSe:S=[]
   ·subst hSe;simp only[rH,nN,if_true,zzct,zzat]at h5 |-
    simp[ij,h5,ah,aa,am2,ai,Qz,vn,hw,hc,h2,h3,g2,g3,bK,wW,show 1<=K.length-i by omega];refine⟨aQ,⟨i+1,zd,zE,by rw[bz];simp[Qz,rH],by rw[bz];simp[nN]⟩,zE⟩
   simp only[rH,nN,ab hSe]at h5 |-
   have bM:(m.lens++[S.length]).set m.lens.length (S.length+1)=m.lens++[S.length+1]:=by rw[List.set_append,ab zE];simp
   simp[ij,h5,ah,aa,am2,ai,Qz,vn,hw,hc,h2,h3,g2,g3,bK,wW,show 1<=K.length-i by omega];refine⟨⟨?_,zE⟩,aQ,⟨i+1,zd,zE,by rw[bz];simp[Qz,rH],by rw[bz];simp[nN]⟩,zE⟩
   ·rintro row (⟨a,_,rfl⟩|rfl)<;>rfl
 have bP:¬(i:Int)<(ids.length:Int):=zE
 rw[zzau zE,zzau zE]at h5 |-
 simp[ij,h5,bP,zzbm.2 bu,vn,ahs];exact hQ
def stF(ok:Pi->Bool)(rd:Int->Nat)(ids:Pi)(r:Nat):Nat->Nat->List Bool->List Bool
 |0,_,K=>K
 |n+1,i,K=>stF ok rd ids r n (i+1) (Jz ok rd ids r K i)
def RP(ok:Pi->Bool)(rd:Int->Nat)(ids:Pi)(r:Nat)(K:List Bool):Jg ok rd ids r K=stF ok rd ids r ids.length 0 K:=by
 have:∀(n i:Nat)(K:List Bool),(List.range' i n).foldl (Jz ok rd ids r) K=stF ok rd ids r n i K:=by
  intro n;induction n with
  |zero=>intro i K;rfl
  |succ n ih=>intro i K;rw[zzgx,zzda,ih];rfl
 unfold Jg;rw[zzfx];exact this _ _ _
def aah{ok:Pi->Bool}{rd:Int->Nat}{ids:Pi}{r:Nat}{K:List Bool}{i:Nat}{id:Int}(h:ids[i]?=some id):Jz ok rd ids r K i=if rd id=r then K.set i (ok (Xe true ids (K.set i true)))else K:=by
 unfold Jz;rw[h]
def chF(ok:Pi->Bool)(rd:Int->Nat)(ids:Pi):Nat->Nat->List Bool->List Bool
 |0,_,K=>K
 |n+1,r,K=>chF ok rd ids n (r+1) (Jg ok rd ids r K)
def yy(p:Pl)(ids:Pi):T5:=[Qa p,[.sl .ro (ids.map Qz)]]
def cZ(E:T5)(n:Nat)(K:List Bool)(ex:T5):T5:=E++(K.map AV.bool::[.bs (E.length+12) 0 n 1]::ex)
def zj(p:Pl)(ids:Pi)(b:Bd)(E:T5)(K:List Bool)(ex:T5)(ls:Pa):AM:=aP (yy p ids) b (cZ E ids.length K ex) ls
def lE(b:Bd)(rv:List (Int×(Rt×List Sp)))(li:List (Int×Int))(pm:List ((Int×Int)×List Sp)):Bd:={b with rv:=rv,li:=li,pm:=pm}
def atM(p:Pl)(ids:Pi)(b:Bd)(E:T5)(T:List Bool)(f:Nat->AV)(m:AM):Prop:=
 ∃(r:Nat)(K:List Bool)(rv:List (Int×(Rt×List Sp)))(li:List (Int×Int))(pm:List ((Int×Int)×List Sp))(ex:T5)(ls:Pa),f 36=I r/\r<=3/\K.length=ids.length/\chF (mw b) (zi p) ids (3-r) r K=T/\By (lE b rv li pm)/\m=zj p ids (lE b rv li pm) E K ex ls
def atN(p:Pl)(ids:Pi)(b:Bd)(E:T5)(r:Nat)(T:List Bool)(f:Nat->AV)(m:AM):Prop:=
 ∃(i:Nat)(K:List Bool)(rv:List (Int×(Rt×List Sp)))(li:List (Int×Int))(pm:List ((Int×Int)×List Sp))(ex:T5)(ls:Pa),f 41=I i/\i<=ids.length/\K.length=ids.length/\stF (mw b) (zi p) ids r (ids.length-i) i K=T/\By (lE b rv li pm)/\m=zj p ids (lE b rv li pm) E K ex ls
def aye(p:Pl)(ids:Pi)(b:Bd)(E:T5)(K:List Bool)(ex:T5)(ls:Pa)(S:Pi)(v:AV)(m:AM):Prop:=
 ∃(a:AV)(rv:List (Int×(Rt×List Sp)))(li:List (Int×Int))(pm:List ((Int×Int)×List Sp))(gD:T5)(exl:Pa),v=.aS [a,.bool (mw b S)]/\By (lE b rv li pm)/\m=zj p ids (lE b rv li pm) E K (ex++gD) (ls++exl)
def jO:UV:=fun d f _=>if f=999999 then(if d=34 then .aJ 0 []else .junk)else .gd false .junk
def aai{p:Pl}{ids:Pi}(hi:ids.length<=1000)(b:Bd)(E:T5)(K:List Bool)(hk:K.length=ids.length)(ex:T5)(ls:Pa)(w:Bool)(Y:YT)(Q:So)
  (hQ:Q (.sl (rH ls.length (Xe w ids K)) ((Xe w ids K).map Qz)) (zj p ids b E K ex (ls++nN (Xe w ids K)))):
  aB Tryz.prog aD Y 163 [.bool w,.ptr 1 0,.ptr (E.length+13) 0] (zj p ids b E K ex ls) Q:=by
 refine RO ids K w hi hk (zj p ids b E K ex ls) 1 (E.length+13) (E.length+12) ?_ ?_ ?_ ?_ ?_ ?_ Y Q hQ;all_goals simp[zj,aP,aX,yy,cZ]
 all_goals omega
def rB(a:AV):∀n:Nat,bF n [a]=List.replicate n a
 |0=>rfl
 |n+1=>by rw[bF,rB a n];rfl
def aaj{p:Pl}(h:PlK p){at_:Int}(ha:am3 at_){past:List Ad}(hp:past.length<=2500)(pre post:T5)(ls:Pa)(rv:List (Int×(Rt×List Sp)))(li:List (Int×Int))(pm:List ((Int×Int)×List Sp))(hB:By (lE (fR p at_ past) rv li pm))
  (S:Pi)(hS:S.length<=1000)(rt0:Rt)(Y:YT)(K:So)
  (
   hK:∀a rv li pm ex exl,By (lE (fR p at_ past) rv li pm)->((Ye p at_ past S=none/\a=.sl .nil [])\/∃l rt,Ye p at_ past S=some l/\DJ 2 ls.length (ls++exl) rt l/\a=.sl rt (l.map Qe))->
   K (.aS [a,.bool (mw (fR p at_ past) S)]) (aP pre (lE (fR p at_ past) rv li pm) (post++ex) (ls++exl))):
  aB Tryz.prog aD Y 114 [.ptr (pre.length+9) 0,.sl rt0 (S.map Qz)] (aP pre (lE (fR p at_ past) rv li pm) post ls) K:=by
 have FP:=h.spn;obtain⟨l1,l2,l3,l4,l5,l6,l7,l8,l9,l10⟩:=h;have hU:=aae past;have hE:=aaf p past;refine Qeg pre post ls (lE (fR p at_ past) rv li pm) S rt0 past.length zE zE (show p.cls.length<=1000000 by omega) (show p.sh.length<=1000000000 by omega) (show p.aM.length<=1000000000 by omega) (show p.ens.length<=1000000000 by omega) (show(Ua p).length<=1000000000 by omega) l7.2 (fun e he=>(l8 e he).2) ha.2 hU hE hB Y K (fun h0 rv li pm gD exl hB=>?_) (fun l h1 rv li pm gD exl Su hB Gy=>?_)
 ·have h0:Ye p at_ past S=none:=h0;have:=hK (.sl .nil []) rv li pm gD exl hB (.inl ⟨h0,rfl⟩);rw[uW,h0]at this;exact this
 have h1:Ye p at_ past S=some l:=h1;have:=hK (.sl Su (l.map Qe)) rv li pm gD exl hB (.inr ⟨l,Su,h1,Gy,rfl⟩);rw[uW,h1]at this;exact this
def pT(w:Bool)(ids:Pi)(K:List Bool):(Xe w ids K).length<=ids.length:=(Qcs w ids K).length_le
def aak{p:Pl}(h:PlK p){at_:Int}(ha:am3 at_){past:List Ad}(hp:past.length<=2500){ids:Pi}(hi:ids.length<=1000):
  Pure Tryz.prog aD 108 [.agg (Qa p),.sl .ro (ids.map Qz),I at_,.sl .ro (past.map Vl)] (RQ p at_ past ids):=by
 have Fc:=h;obtain⟨l1,l2,l3,l4,l5,l6,l7,l8,l9,l10⟩:=h;refine Qp acf jO zd ?_;simp[MJ,Qa,jO];have k41:=fun K'=>yz (yy p ids) [] p at_ past .ro zE zE zE Y0 K';simp only[yy,Qa]at k41;refine k41 _ fun ex=>?_;clear k41;simp[jO,aP,aX,Qo,Qa];refine aaj Fc ha hp (yy p ids) ex [] [] [] [] (am4 p at_ past) ids hi .ro Y0 _ (fun a rv li pm gD exl hB hr=>?_);obtain⟨h0,rfl⟩|⟨l,rt,h1,hO,rfl⟩:=hr
 ·have bV:mw (fR p at_ past) ids=false:=by rw[uW,h0];rfl
  rw[bV];obtain⟨E,hE⟩:∃E,ex++gD=E:=⟨_,rfl⟩;rw[hE];simp[jO,aP,aX,Qo,yy,Qa,lE,fR];refine⟨zE,?_⟩;refine Qj BT (atM p ids (fR p at_ past) E (Kc p at_ past ids)) (fun f _=>(3-numOf (f 36)).toNat) ?_ ?_
  ·exact⟨0,List.replicate ids.length false,rv,li,pm,[],exl,zd,zE,zd,rfl,hB,by simp[zj,aP,aX,Qo,yy,cZ,Qa,lE,fR,rB]⟩
  clear hB;rintro f m ⟨r,K,rv,li,pm,DK,ls,h36,OD,hK,hT,hB,rfl⟩;rcases zzaa r 3 with rlt|rge
  ·have ayf:(r:Int)<3:=zE
   have qX:=bO r zE;obtain⟨n,hn⟩:∃n,3-r=n+1:=⟨2-r,zE⟩;rw[hn,chF]at hT;obtain⟨T,hTr⟩:∃T,Jg (mw (fR p at_ past)) (zi p) ids r K=T:=⟨_,rfl⟩;rw[hTr]at hT;rw[RP]at hTr;simp[h36,rlt,ayf,BT,zj,aP,aX,yy,cZ,lE,fR];refine Qj I3 (atN p ids (fR p at_ past) E r T) (fun f _=>ids.length-(numOf (f 41)).toNat) ?_ ?_
   ·exact⟨0,K,rv,li,pm,DK,ls,zd,zE,hK,Nm hTr,hB,by simp[zj,aP,aX,yy,cZ,lE,fR]⟩
   clear hTr hK hB;rintro g m ⟨i,K,rv,li,pm,DK,ls,g41,iT,hK,hTi,hB,rfl⟩;rcases zzaa i ids.length with ah|bu
   ·obtain⟨id,hx⟩:=aV ah;have ai:Qi (ids.map Qz) i=Qz id:=Qw (by simp[hx]);have aa:(i:Int)<(ids.length:Int):=zE
    have hw:=bO i zE;obtain⟨n2,vL⟩:∃n2,ids.length-i=n2+1:=⟨ids.length-i-1,zE⟩;have hn3:ids.length-(i+1)=n2:=zE
    rw[vL,stF,aah hx]at hTi;simp[g41,ah,aa,ai,Qz,I3,zj,aP,aX,yy,cZ,lE,fR,jO];refine afQ (yy p ids) (cZ E ids.length K DK) ls (lE (fR p at_ past) rv li pm) id Y0 _ (fun exr=>?_);have hpb:(lE (fR p at_ past) rv li pm).p=p:=rfl;rw[hpb];by_cases iC:zi p id=r
    ·rw[ac iC]at hTi;have am5:((zi p id:Nat):Int)=(r:Int):=zE
     have hms:(K.map AV.bool).set i (.bool true)=(K.set i true).map AV.bool:=by rw[zzfp]
     simp[am5,aP,aX,yy,cZ,lE,fR,jO];refine⟨ah,zE,?_⟩;rw[hms];obtain⟨S,hS⟩:∃S,Xe true ids (K.set i true)=S:=⟨_,rfl⟩;have hSl:S.length<=1000:=by have:=pT true ids (K.set i true);rw[hS]at this;omega
     have hK2:(K.set i true).length=ids.length:=by simpa using hK
     rw[hS]at hTi;obtain⟨ok,atO⟩:∃ok,mw (fR p at_ past) S=ok:=⟨_,rfl⟩;rw[atO]at hTi
     refine Z1 rfl [(.sl (rH ls.length S) (S.map Qz),zj p ids (lE (fR p at_ past) rv li pm) E (K.set i true) (DK++exr) (ls++nN S))] (aye p ids (fR p at_ past) E (K.set i true) (DK++exr) (ls++nN S) S)
      ⟨(.aS [.sl .nil [],.bool (mw (fR p at_ past) S)],zj p ids (lE (fR p at_ past) rv li pm) E (K.set i true) ((DK++exr)++[]) ((ls++nN S)++[])),.sl .nil [],rv,li,pm,[],[],rfl,hB,rfl⟩ (fun v m' hv=>?_)
     obtain⟨a,rv2,tg,Oj,RR,am6,rfl,A4,rfl⟩:=hv;rw[atO];simp[zj,aP,aX,yy,cZ,lE,fR,jO,hw];rw[hms];have azu:(K.map AV.bool).set i (.bool ok)=(K.set i ok).map AV.bool:=by rw[zzfp]
     refine⟨?_,?_,ah,zE,aQ,⟨i+1,K.set i ok,rv2,tg,Oj,(DK++exr)++RR,ls++nN S++am6,zd,zE,Nm hK,by rw[hn3];exact hTi,A4,by simp[zj,aP,aX,yy,cZ,lE,fR]⟩,by simp[g41];omega⟩
     ·refine aai (p:=p) hi (lE (fR p at_ past) rv li pm) E (K.set i true) hK2 (DK++exr) ls true Y0 _ ?_;rw[hS];exact⟨rfl,rfl⟩
     refine aaj Fc ha hp (yy p ids) (cZ E ids.length (K.set i true) (DK++exr)) (ls++nN S) rv li pm hB S hSl _ Y0 _ (fun a rv li pm ex exl hB _=>⟨a,rv,li,pm,ex,exl,rfl,hB,by simp[zj,cZ];rfl⟩)
    rw[ab iC]at hTi;have am5:¬((zi p id:Nat):Int)=(r:Int):=zE
    simp[am5,aP,aX,yy,cZ,lE,fR,jO,hw];refine⟨aQ,⟨i+1,K,rv,li,pm,DK++exr,ls,zd,zE,hK,by rw[hn3];exact hTi,hB,by simp[zj,aP,aX,yy,cZ,lE,fR]⟩,zE⟩
   have bP:¬(i:Int)<(ids.length:Int):=zE
   have hz:ids.length-i=0:=zE
   rw[hz,stF]at hTi;subst hTi;simp[g41,bP,zzbm.2 bu,I3,BT,h36,zj,aP,aX,yy,cZ,lE,fR,qX];refine⟨aQ,⟨r+1,K,rv,li,pm,DK,ls,zd,zE,hK,by rw[show 3-(r+1)=n by omega];exact hT,hB,by simp[zj,aP,aX,yy,cZ,lE,fR]⟩,zE⟩
  have rin:¬(r:Int)<3:=zE
  obtain rfl:r=3:=zE
  have hT:K=Kc p at_ past ids:=hT;subst hT;obtain⟨ka,kb,kc⟩:=yA p at_ past ids;obtain⟨L,hL⟩:=zzby.1 kb;simp[h36,BT,zj,aP,aX,yy,cZ,lE,fR,jO];refine aai (p:=p) hi (lE (fR p at_ past) rv li pm) E (Kc p at_ past ids) ka DK ls true Y0 _ ?_;obtain⟨S,hS⟩:∃S,Xe true ids (Kc p at_ past ids)=S:=⟨_,rfl⟩;have hSl:S.length<=1000:=by have:=pT true ids (Kc p at_ past ids);rw[hS]at this;omega
  have hr:RQ p at_ past ids=.aS [IN L,Hl (Xe false ids (Kc p at_ past ids))]:=by rw[RQ,hL];rfl
  rw[hr];rw[hS]at hL |-
  simp[zj,aP,aX,yy,cZ,lE,fR,jO];refine aaj Fc ha hp (yy p ids) (cZ E ids.length (Kc p at_ past ids) DK) (ls++nN S) rv li pm hB S hSl _ Y0 _ (fun a rv li pm RR am6 hB hv=>?_);obtain⟨h0,_⟩|⟨l,rt,h1,hO,rfl⟩:=hv
  ·rw[hL]at h0;cases h0
  rw[hL]at h1;cases h1;simp[zj,aP,aX,yy,cZ,lE,fR,jO];refine aai (p:=p) hi (lE (fR p at_ past) rv li pm) E (Kc p at_ past ids) ka (DK++RR) (ls++(nN S++am6)) false Y0 _ ?_;obtain⟨D,hD⟩:∃D,Xe false ids (Kc p at_ past ids)=D:=⟨_,rfl⟩;rw[hD];by_cases hDe:D=[]
  ·subst hDe;obtain⟨rfl,rfl⟩|⟨k2,rfl,_,_,aO⟩:=hO
   ·simp[vf,IN,Hl,rH]
   simp[vf,IN,Hl,rH,aO]
  obtain⟨rfl,rfl⟩|⟨k2,rfl,_,_,aO⟩:=hO
  ·simp[vf,IN,Hl,rH,hDe]
  simp[vf,IN,Hl,rH,hDe,aO]
 have bV:mw (fR p at_ past) ids=true:=by rw[uW,h1];rfl
 obtain⟨dK,eE⟩:=Bz p at_ past ids (by rw[h1];rfl);have hr:RQ p at_ past ids=.aS [IN l,.sl .nil []]:=by rw[RQ,dK,eE,h1];rfl
 rw[bV,hr];obtain⟨rfl,rfl⟩|⟨k2,rfl,_,_,aO⟩:=hO
 ·simp[vf,IN]
 simp[vf,IN,aO]
def Ho:SC:=(⟨_,by cbv⟩:J3 [1,1,1,1,1,1,1,1] IU).1
def Hp:SC:=(⟨_,fun _=>by cbv⟩:Ft [1,1] (oJ [1,1,1,1,1,1] IU)).1 Ho
def OE:SC:=(⟨_,fun _=>by cbv⟩:Ft [1,1] (oJ [1,1,1,1] IU)).1 Hp
def atP:SC:=(⟨_,fun _=>by cbv⟩:Ft [1,1,1,1] IU).1 OE
theorem afR:IU=atP:=rfl
def Uk(l:Pi):Pi:=l.mergeSort fun x y=>decide (x<=y)
def rI(l:Pi):(Uk l).length=l.length:=zzf l
def OF(l:Pi):(l.map Qz).flatten=aj l:=by
 induction l with
 |nil=>rfl
 |cons a r ih=>simp only[zzar,zzch,ih];rfl
def tW{α:Type}(l:List α):Rt:=if l=[]then .nil else .ro
def ajy:∀{l:Pi},l≠[]->dd l≠[]
 |[],h=>absurd rfl h
 |[x],_=>by simp[dd]
 |x::y::r,_=>by
  rw[FH];split
  ·exact ajy zd
  simp
def gT(n:Nat)(m:AM)(V:AV)(rows:T5):Prop:=Qx V=true/\∀m':AM,m.boxes.length<=m'.boxes.length->(∀j,n<=j->j<m.boxes.length->Qi m'.boxes j=Qi m.boxes j)->∀d,bB m' (d+2) V=.sl (tW rows) rows
def gT.mono{n n':Nat}{m:AM}{V:AV}{rows:T5}(h:gT n m V rows)(hn:n'<=n):gT n' m V rows:=⟨h.1,fun m' h1 h2 d=>h.2 m' h1 (fun j q1 q2=>h2 j zE q2) d⟩
def aal(Y:YT)(m:AM)(rt:Rt)(K:So)(hK:K (.sl rt []) m):aB Tryz.prog aD Y 111 [.sl rt []] m K:=by
 obtain⟨mb,ml,ms,mn⟩:=m;refine Xo BU (fun _ _ _=>.junk) zd ?_;simp[vg,Ai];exact hK
def bC.pre{id:Nat}{mb X B':T5}(h:bC (·=id) (mb++X) B')(aK:mb.length<=id):∃ex,B'=mb++ex:=by
 refine⟨B'.drop mb.length,?_⟩;apply zzdc;intro j;have hl:=h.1;simp only[zzal]at hl;rcases zzaa j mb.length with hj|hj
 ·rw[zzak hj];have:=h.2 j (by simp;omega) zE;rw[Jn zE,this,Jn hj,Qn hj]
 rw[zzaq hj,zzbl];congr 1;omega
def gT.ints{B:T5}{L:Pa}{st:Nat->LS}{n k id:Nat}{l:Pi}{c:P2}(hk:k<=id)(aK:id<B.length)(hB:Qi B id=aj l++c)(hc:Zl c=true)(aO:l≠[]):gT k ⟨B,L,st,n⟩ (.bs id 0 l.length 1) (l.map Qz):=by
 have aY:tW (l.map Qz)=.ro:=by unfold tW;rw[ab (Nm aO)]
 rw[gT,aY];refine⟨rfl,fun m' h1 h2 d=>?_⟩;have hr:=h2 id hk aK;simp only at hr h1
 have bV:Zl (aj l++c)=true:=by
  have:=W9 l;unfold Zl at this hc |-
  rw[zzfm,this,hc];rfl
 rw[ZR,Yd];rw[hr,hB,Ve _ _ bV,ac (by rw[zzal,Uj];omega),zzdd,wJ];rfl
def Hq(Y:YT)(orc:UV)(ho5:orc 95 999999 []=.aJ 0 [])(ho7:orc 97 999999 []=.aJ 0 [])(hs:∀d l,orc d 110 l=.gd false .junk)(hp:∀d l,orc d 111 l=.gd false .junk)
  (E:QQ)(mb:T5)(ml:Pa)(ms:Nat->LS)(mn:Nat)(g:Pg)(f:Int)(mid k3:Nat)(V8:AV)(rD:Rt)(D:Pi)(Q:R0)
  (h3:Abs.look E 3=.ptr k3 0)(yf:k3<mb.length)(OD:Qi mb k3=Qr g f mid)(h8:Abs.look E 8=V8)(KI:Abs.look E 16=.sl rD (D.map Qz))(gK:g.dr.length<=1000000)(ze:D.length<=1000000)
  (hQ:∀E' ex vd,Abs.look E' 6=V8->Abs.look E' 7=vd->gT mb.length ⟨mb++ex,ml,ms,mn⟩ vd ((dd (Uk (g.dr++D))).map Qz)->Q .ret ⟨Vw 103 E',⟨mb++ex,ml,ms,mn⟩⟩):
  vc Tryz.prog aD orc Y Ho ⟨Vw 103 E,⟨mb,ml,ms,mn⟩⟩ Q:=by
 simp only[Qr,Qk,Qa,zzae,zzag]at OD
 have fin:∀(X:T5)(id:Nat)(K:AV->AV->AM->Prop),mb.length<=id->id<(mb++X).length->Qi (mb++X) id=aj (g.dr++D)->g.dr++D≠[]->
   (∀ex vd,gT mb.length ⟨mb++ex,ml,ms,mn⟩ vd ((dd (Uk (g.dr++D))).map Qz)->K (.aS []) vd ⟨mb++ex,ml,ms,mn⟩)->
   aB Tryz.prog aD Y 110 [.bs id 0 (g.dr++D).length 1] ⟨mb++X,ml,ms,mn⟩ (fun r0 m'=>aB Tryz.prog aD Y 111 [.bs id 0 (g.dr++D).length 1] m' (K r0)):=by
  intro X id K cw ah ai aO hK;refine sD Y (g.dr++D) (by simp;omega) _ id [] (by rw[zzat];exact Ke ah ai) (by rw[zzat];intro h;have:=congrArg List.length h;rw[Uj]at this;exact aO (zzbe this)) _ ?_;have aH:(g.dr++D).length=(Uk (g.dr++D)).length:=(rI _).symm;rw[aH];have fI:Uk (g.dr++D)≠[]:=fun h=>aO (by have:=congrArg List.length h;rw[rI]at this;exact zzbe this);refine sB Y (Uk (g.dr++D)) (by rw[<- aH];simp;omega) _ _ _ _ id (Nm ah) fI ?_ _ ?_
  ·rw[zzat];exact Qw (by rw[zzbh ah];first|rfl|(rw[zzat];rfl))
  intro B' z ng eP _
  have bR:(mb++X).set id (aj (List.mergeSort (g.dr++D) fun x y=>decide (x<=y))++[])=mb++X.set (id-mb.length) (aj (List.mergeSort (g.dr++D) fun x y=>decide (x<=y))++[]):=by
   rw[zzdh _ _ cw]
  rw[bR]at ng;obtain⟨ex,rfl⟩:=bC.pre ng cw;refine hK ex _ ?_;have ayg:id<(mb++ex).length:=by have:=ng.1;simp at this ah |-;omega
  rw[nc]at eP;exact gT.ints cw ayg eP (W9 z) (ajy fI)
 have hR3:∀ex,Qi (mb++ex) k3=_:=fun ex=>(Qn yf).trans OD;have hm5:mutO orc (some 95)=true:=by unfold mutO;simp[ho5]
 have hm7:mutO orc (some 97)=true:=by unfold mutO;simp[ho7]
 simp only[zzal]at fin;by_cases fk:g.dr=[]
 ·by_cases hD:D=[]
  ·simp[Ho,h3,h8,KI,OD,fk,hD,hs,hp,ho5,ho7];refine oV _ _ _ _ ?_;refine aal _ _ _ _ ?_;have:=fun E' vd h1 h2 h3=>hQ E' [] vd h1 h2 h3;simp only[zzat]at this;refine this _ _ zd (by simp;rfl) ?_;rw[fk,hD];refine⟨rfl,fun m' h1 h2 d=>?_⟩;simp[Uk,dd,tW]
  have aO:g.dr++D≠[]:=by simp[hD]
  have gq:¬aj D=[]:=fun h=>hD (by have:=congrArg List.length h;rw[Uj]at this;exact zzbe this);rw[fk]at fin hQ aO;simp only[zzcn,zzbs,zzag]at fin hQ;have qX:∀a∈D,(Qz a).length=1:=fun _ _=>rfl;simp[Ho,h3,h8,KI,OD,fk,hD,hs,hp,ho5,ho7,OF,Uj];refine⟨⟨zE,qX⟩,fin [aj D] mb.length _ (zzab _) zd zd hD ?_⟩;intro ex vd hv;exact hQ _ _ _ zd zd hv
 have aO:g.dr++D≠[]:=by simp[fk]
 have gq:¬aj g.dr=[]:=fun h=>fk (by have:=congrArg List.length h;rw[Uj]at this;exact zzbe this);have qX:∀a∈D,(Qz a).length=1:=fun _ _=>rfl;have ayh:∀a∈g.dr,(Qz a).length=1:=fun _ _=>rfl;have bz:List.take g.dr.length (aj g.dr)=aj g.dr:=zzau (by rw[Uj];exact zzab _);simp[Ho,h3,h8,KI,OD,fk,hs,hp,ho5,OF,Uj,gq,bz];refine⟨⟨zE,ayh⟩,⟨zE,qX⟩,fin [[],aj g.dr++aj D] (mb.length+1) _ zE zd (by simp[nc]) aO ?_⟩;intro ex vd hv;exact hQ _ _ _ zd zd hv
def DL(rt y6:Rt):Prop:=∀m d x,bB m (d+1) (.sl rt x)=.sl y6 x
def DL.ro:DL .ro .ro:=fun _ _ _=>rfl
def DL.nil:DL .nil .nil:=fun _ _ _=>rfl
def DL.own(k s:Nat):DL (.own k s) .ro:=fun _ _ _=>rfl
def LM{α:Type}(l:List α):DL (tW l) (tW l):=by
 unfold tW;split
 ·exact DL.nil
 exact DL.ro
def EvW(ml:Pa)(rt:Rt)(n:Nat):Prop:=(rt=.nil/\n=0)\/∃k,rt=.own k 7/\ml[k]?=some n
def aam(Y:YT)(orc:UV)(ho5:orc 95 999999 []=.aJ 0 [])(ho7:orc 97 999999 []=.aJ 0 [])(ho1:orc 91 999999 []=.junk)(hs:∀d l,orc d 110 l=.gd false .junk)(hp:∀d l,orc d 111 l=.gd false .junk)
  (E:QQ)(mb:T5)(ml:Pa)(ms:Nat->LS)(mn:Nat)(g:Pg)(f:Int)(mid k3 k5:Nat)(q:Pl)(d:Int)(rte ce rti ci rL rD:Rt)(ev bl:List aW)(en:Int)(ids D:Pi)(L:List Sp)(past:List Ad)(Q:R0)
  (atQ:∀d l,orc d 109 l=.sl .ro (past.map Vl))(atS:∀d l,orc d 108 l=.aS [.sl rL (L.map Qe),.sl rD (D.map Qz)])(h62:∀d l,orc d 67 l=.sl .ro (bl.map Qf))
  (afS:Pure Tryz.prog aD 109 [.sl ce (ev.map Zv),I en] (.sl .ro (past.map Vl)))
  (aan:Pure Tryz.prog aD 108 [.agg (Qa q),.sl ci (ids.map Qz),I en,.sl .ro (past.map Vl)] (.aS [.sl rL (L.map Qe),.sl rD (D.map Qz)]))
  (X8:Pure Tryz.prog aD 67 [.agg (Qa q),.sl rL (L.map Qe),I en] (.sl .ro (bl.map Qf)))
  (hce:DL rte ce)(hci:DL rti ci)(hcL:DL rL rL)
  (h3:Abs.look E 3=.ptr k3 0)(yf:k3<mb.length)(OD:Qi mb k3=Qr g f mid)(h5:Abs.look E 5=.ptr k5 0)(hk5:k5<mb.length)(hr5:Qi mb k5=Qa q++[I d])
  (h8:Abs.look E 8=.sl rte (ev.map Zv))(ayi:EvW ml rte ev.length)(h9:Abs.look E 9=I en)(qm:Abs.look E 12=.sl rti (ids.map Qz))
  (gK:g.dr.length<=1000000)(ze:D.length<=1000000)(hl3:ev.length<=1000000)(hl4:bl.length<=10000000)
  (hQ:∀E' ex ls ke vd,Abs.look E' 6=.sl (.own ke 7) (ev.map Zv++bl.map Qf)->Abs.look E' 7=vd->gT mb.length ⟨mb++ex,ls,ms,mn⟩ vd ((dd (Uk (g.dr++D))).map Qz)->Q .ret ⟨Vw 103 E',⟨mb++ex,ls,ms,mn⟩⟩):
  vc Tryz.prog aD orc Y Hp ⟨Vw 103 E,⟨mb,ml,ms,mn⟩⟩ Q:=by
 have atT:=fun m d x=>hce m d x;have atU:=fun m d x=>hci m d x;have atV:=fun m d x=>hcL m d x;simp only[Qa,zzae,zzag]at hr5;simp only[Qa]at aan X8;have hR5:∀ex,Qi (mb++ex) k5=_:=fun ex=>(Qn hk5).trans hr5;have hw7:∀a∈ev,(Zv a).length=7:=fun _ _=>rfl;have ayj:∀a∈bl,(Qf a).length=7:=fun _ _=>rfl;obtain⟨rfl,hn⟩|⟨k,rfl,hk⟩:=ayi
 ·have he:ev=[]:=zzbe hn;subst he;simp[Hp,h8,h9,qm,h5,hr5,atT,atU,atV,atQ,atS,h62,ho1];refine⟨afS,aan,X8,⟨ayj,zE⟩,Hq Y orc ho5 ho7 hs hp _ mb _ ms mn g f mid k3 (.sl (.own ml.length 7) (bl.map Qf)) rD D Q (by simp[h3]) yf OD zd zd gK ze ?_⟩;intro E' ex vd q1 q2 q3;exact hQ E' ex _ ml.length vd (by rw[q1];rfl) q2 q3
 simp[Hp,h8,h9,qm,h5,hr5,atT,atU,atV,atQ,atS,h62,hk];refine⟨afS,aan,X8,⟨?_,zE⟩,Hq Y orc ho5 ho7 hs hp _ mb _ ms mn g f mid k3 (.sl (.own k 7) (ev.map Zv++bl.map Qf)) rD D Q (by simp[h3]) yf OD zd zd gK ze ?_⟩
 ·rintro row (⟨a,_,rfl⟩|⟨a,_,rfl⟩)<;>rfl
 intro E' ex vd q1 q2 q3;exact hQ E' ex _ k vd q1 q2 q3
def OG(g:Pg)(b:QR)(e:En):Bool:=!fO b e.id&&!decide (e.id∈g.dr)
def Yg(g:Pg)(b:QR)(l:List En):Pi:=(l.filter (OG g b)).map (·.id)
def RS(g:Pg)(b:QR)(l:List En)(e:En):Yg g b (l++[e])=Yg g b l++(if OG g b e then[e.id]else[]):=by
 unfold Yg;rw[zzdb,zzcb];congr 1;cases h:OG g b e<;>simp[h]
def jP(g:Pg)(b:QR)(l:List En):(Yg g b l).length<=l.length:=by
 unfold Yg;rw[zzbw];exact zzcf _ _
def IdR(ml ls:Pa)(rt:Rt)(n:Nat):Prop:=(rt=.nil/\n=0/\ls=ml)\/(rt=.own ml.length 1/\n≠0/\ls=ml++[n])
def atW(g:Pg)(b:QR)(q:Pl)(mb:T5)(ml:Pa)(ms:Nat->LS)(mn:Nat)(s:Nat->AV)(m:AM):Prop:=
 ∃(i:Nat)(bx:T5)(rt:Rt)(ls:Pa),s 49=I i/\i<=q.ens.length/\m=⟨mb++bx,ls,ms,mn⟩/\s 12=.sl rt ((Yg g b (q.ens.take i)).map Qz)/\IdR ml ls rt (Yg g b (q.ens.take i)).length
def aao(Y:YT)(orc:UV)(atX:orc 72 999999 []=.junk)(afT:orc 71 999999 []=.junk)
  (E:QQ)(mb:T5)(ml:Pa)(ms:Nat->LS)(mn:Nat)(g:Pg)(f:Int)(mid k3 k5:Nat)(b:QR)(q:Pl)(d:Int)(Q:R0)
  (LN:∀d id,orc d 107 [.sl .ro (g.dr.map Qz),I id]=.bool (decide (id∈g.dr)))
  (h3:Abs.look E 3=.ptr k3 0)(yf:k3<mb.length)(OD:Qi mb k3=Qr g f mid)(h5:Abs.look E 5=.ptr k5 0)(hk5:k5<mb.length)(hr5:Qi mb k5=Qa q++[I d])(hb:fN mb mid b)
  (gK:g.dr.length<=1000000)(ze:q.ens.length<=1000000)
  (hQ:∀E' ex rt ls,(∀k,k≠12->k<14->Abs.look E' k=Abs.look E k)->Abs.look E' 12=.sl rt ((Yg g b q.ens).map Qz)->IdR ml ls rt (Yg g b q.ens).length->vc Tryz.prog aD orc Y Hp ⟨Vw 103 E',⟨mb++ex,ls,ms,mn⟩⟩ Q):
  vc Tryz.prog aD orc Y OE ⟨Vw 103 E,⟨mb,ml,ms,mn⟩⟩ Q:=by
 simp only[Qr,Qk,Qa,zzae,zzag]at OD hr5;have hR3:∀ex,Qi (mb++ex) k3=_:=fun ex=>(Qn yf).trans OD;have hR5:∀ex,Qi (mb++ex) k5=_:=fun ex=>(Qn hk5).trans hr5;have hRm:∀ex,Qi (mb++ex) mid=[.aJ 0 (bG .bool b)]:=hb.ext;have hk:∀id,Pure Tryz.prog aD 107 [.sl .ro (g.dr.map Qz),I id] (.bool (decide (id∈g.dr))):=fun id=>jy g.dr id zE;simp[OE,h5,hr5];refine Qj nY (atW g b q mb ml ms mn) (fun s _=>q.ens.length-(numOf (s 49)).toNat) ?_ ?_
 ·exact⟨0,[],.nil,ml,zd,zE,zd,by simp[Yg],.inl ⟨rfl,by simp[Yg],rfl⟩⟩
 rintro s m ⟨i,bx,rt,ls,h49,hi,rfl,qm,aY⟩;rcases zzaa i q.ens.length with ah|bu
 ·obtain⟨x,hx⟩:=aV ah;have ai:Qi (q.ens.map Qd) i=Qd x:=Qw (by simp[hx]);have aa:(i:Int)<(q.ens.length:Int):=zE
  have hw:=bO i zE;have bz:q.ens.take (i+1)=q.ens.take i++[x]:=by rw[zzay,hx];rfl
  have FP:Yg g b (q.ens.take (i+1))=Yg g b (q.ens.take i)++(if OG g b x then[x.id]else[]):=by rw[bz,RS]
  have iT:=jP g b (q.ens.take i);rw[zzas]at iT;have skip:OG g b x=false->Yg g b (q.ens.take (i+1))=Yg g b (q.ens.take i):=fun h=>by rw[FP,h];simp
  have more:OG g b x=true->Yg g b (q.ens.take (i+1))=Yg g b (q.ens.take i)++[x.id]:=fun h=>by rw[FP,h];simp
  generalize Yg g b (q.ens.take i)=O at*
  generalize cM:Yg g b (q.ens.take (i+1))=O' at*
  have qX:∀a∈O,(Qz a).length=1:=fun _ _=>rfl;rcases Xx AV.bool x.id b 0 with⟨b1,b2,_⟩|⟨u,u',b1,b2,_⟩
  ·by_cases fk:x.id∈g.dr
   ·have e1:=skip (by simp[OG,fk]);simp[h49,aa,ai,Qd,nY,hw,h3,hR3,hRm,b2,fk,LN,qm];refine⟨by simpa[fk]using hk x.id,aQ,⟨i+1,_,rt,ls,zd,zE,rfl,by rw[cM,e1];simp,by rw[cM,e1];exact aY⟩,zE⟩
   have e1:=more (by simp[OG,fk,fO,b1]);obtain⟨rfl,hn,rfl⟩|⟨rfl,hn,rfl⟩:=aY
   ·have hO:O=[]:=zzbe hn;subst hO;simp[h49,aa,ai,Qd,nY,hw,h3,hR3,hRm,b2,fk,LN,qm,atX,afT];refine⟨by simpa[fk]using hk x.id,aQ,⟨i+1,_,_,_,zd,zE,rfl,by rw[cM,e1];simp[Qz];rfl,by rw[cM,e1];exact .inr ⟨rfl,zd,zd⟩⟩,zE⟩
   simp[h49,aa,ai,Qd,nY,hw,h3,hR3,hRm,b2,fk,LN,qm,afT];refine⟨by simpa[fk]using hk x.id,⟨?_,zE⟩,aQ,⟨i+1,_,_,_,zd,zE,rfl,by rw[cM,e1];simp[Qz];rfl,by rw[cM,e1];exact .inr ⟨rfl,zd,zd⟩⟩,zE⟩
   ·rintro row (⟨a,_,rfl⟩|rfl)<;>rfl
  cases u with
  |true=>
   have e1:=skip (by simp[OG,fO,b1]);simp[h49,aa,ai,Qd,nY,hw,h3,hR3,hRm,b2,LN,qm];refine⟨aQ,⟨i+1,_,rt,ls,zd,zE,rfl,by rw[cM,e1];simp,by rw[cM,e1];exact aY⟩,zE⟩
  |false=>
   by_cases fk:x.id∈g.dr
   ·have e1:=skip (by simp[OG,fk]);simp[h49,aa,ai,Qd,nY,hw,h3,hR3,hRm,b2,fk,LN,qm];refine⟨by simpa[fk]using hk x.id,aQ,⟨i+1,_,rt,ls,zd,zE,rfl,by rw[cM,e1];simp,by rw[cM,e1];exact aY⟩,zE⟩
   have e1:=more (by simp[OG,fk,fO,b1]);obtain⟨rfl,hn,rfl⟩|⟨rfl,hn,rfl⟩:=aY
   ·have hO:O=[]:=zzbe hn;subst hO;simp[h49,aa,ai,Qd,nY,hw,h3,hR3,hRm,b2,fk,LN,qm,atX,afT];refine⟨by simpa[fk]using hk x.id,aQ,⟨i+1,_,_,_,zd,zE,rfl,by rw[cM,e1];simp[Qz];rfl,by rw[cM,e1];exact .inr ⟨rfl,zd,zd⟩⟩,zE⟩
   simp[h49,aa,ai,Qd,nY,hw,h3,hR3,hRm,b2,fk,LN,qm,afT];refine⟨by simpa[fk]using hk x.id,⟨?_,zE⟩,aQ,⟨i+1,_,_,_,zd,zE,rfl,by rw[cM,e1];simp[Qz];rfl,by rw[cM,e1];exact .inr ⟨rfl,zd,zd⟩⟩,zE⟩
   ·rintro row (⟨a,_,rfl⟩|rfl)<;>rfl
 have hbf:q.ens.take i=q.ens:=zzau bu;rw[hbf]at qm aY;have bP:¬(i:Int)<(q.ens.length:Int):=zE
 simp[h49,bP,nY];refine hQ _ _ rt ls (fun k h1 h2=>?_) (by simp[qm]) aY;have:k=0\/k=1\/k=2\/k=3\/k=4\/k=5\/k=6\/k=7\/k=8\/k=9\/k=10\/k=11\/k=13:=zE
 rcases this with rfl|rfl|rfl|rfl|rfl|rfl|rfl|rfl|rfl|rfl|rfl|rfl|rfl<;>simp
def z6(g:Pg)(f:Int)(b:QR)(o:Od)(q:Pl)(d:Int):Option aW:=match Uc g f b with
 |none=>none
 |some e=>match zX g f o q d e with
  |none=>none
  |some F=>if F=0 then none else some ⟨e.id,e.it,f,F,e.i+(f-e.st),rA q f e.it F q.rg.toNat,jH q f e.id F ((Xn e.id q.ens).getD yh).al,decide (jH q f e.id F ((Xn e.id q.ens).getD yh).al=[])⟩
def zk(e:aW):aW:={e with nl:=false}
def Vz(g:Pg)(f:Int)(b:QR)(o:Od)(q:Pl)(d:Int):List aW:=(Zm f g.ev).map zk++(z6 g f b o q d).toList
def Yc(g:Pg)(f:Int)(b:QR)(o:Od)(q:Pl)(d:Int):Int:=match z6 g f b o q d with
 |none=>f
 |some e=>f+e.fr
def LO(g:Pg)(f:Int)(b:QR)(o:Od)(q:Pl)(d:Int):List Ad:=zY (Vz g f b o q d) (Yc g f b o q d)
def jQ(g:Pg)(f:Int)(b:QR)(o:Od)(q:Pl)(d:Int):List Bool:=Kc q (Yc g f b o q d) (LO g f b o q d) (Yg g b q.ens)
def Vs(g:Pg)(f:Int)(b:QR)(o:Od)(q:Pl)(d:Int):List Sp:=(Ye q (Yc g f b o q d) (LO g f b o q d) (Xe true (Yg g b q.ens) (jQ g f b o q d))).getD []
def Kg(g:Pg)(f:Int)(b:QR)(o:Od)(q:Pl)(d:Int):Pi:=Xe false (Yg g b q.ens) (jQ g f b o q d)
def Ku(g:Pg)(f:Int)(b:QR)(o:Od)(q:Pl)(d:Int):List aW:=zf q (Vs g f b o q d) (Yc g f b o q d)
def Hr(l:List Sp):IN l=.sl (tW l) (l.map Qe):=by
 unfold IN tW;split
 ·rename_i h;rw[h];rfl
 rfl
def afU(l:Pi):Hl l=.sl (tW l) (l.map Qz):=by
 unfold Hl tW;split
 ·rename_i h;rw[h];rfl
 rfl
def yB(l:List aW):(l.map zk).map Zv=l.map Qf:=by
 rw[zzcw];exact zzcs fun e _=>rfl
def BA(l:List aW):(l.map zk).map Qf=l.map Qf:=by
 rw[zzcw];exact zzcs fun e _=>rfl
def OH(g:Pg)(past:List Ad)(L:List Sp)(D:Pi)(bl:List aW):UV:=fun dst fn l=>
 if fn=109 then .sl .ro (past.map Vl)else if fn=108 then .aS [.sl (tW L) (L.map Qe),.sl (tW D) (D.map Qz)]else if fn=67 then .sl .ro (bl.map Qf)
 else if fn=107 then(match l with|[_,.int _ id]=>.bool (decide (id∈g.dr))|_=>.junk)else if fn=999999 then(if dst=95\/dst=97 then .aJ 0 []else .junk)else .gd false .junk
structure Hs (g:Pg) (f:Int) (b:QR) (o:Od) (q:Pl) (d:Int):Prop where
 mo:lC g f
 pl:Bm q
 pk:PlK q
 d0:0<=d/\d<=1000000000
 rg:0<=q.rg/\q.rg<=8
 f0:0<=f/\f<=1000000
 ev:g.ev.length<=2000
 dr:g.dr.length<=1000000
 ln:q.ln<=1000000
 cu:∀e,z6 g f b o q d=some e->Kq e
 en:0<=Yc g f b o q d/\Yc g f b o q d<=1000000
 st:∀s∈Vs g f b o q d,-1000000000<=s.2/\s.2<=1000000000
def kR{g:Pg}{f:Int}{b:QR}{o:Od}{q:Pl}{d:Int}(h:Hs g f b o q d):(Vz g f b o q d).length<=2001/\∀e∈Vz g f b o q d,Kq e:=by
 have h1:=Qdm f g.ev;have h2:=nM f h.f0.2 g.ev h.mo.2.1;refine⟨?_,fun e he=>?_⟩
 ·have:=h.ev;have h3:(z6 g f b o q d).toList.length<=1:=by cases z6 g f b o q d<;>simp
  simp only[Vz,zzal,zzbw];omega
 rcases zzaj.1 he with he|he
 ·obtain⟨x,hx,rfl⟩:=zzan.1 he;exact h2 x hx
 exact h.cu e (by cases hc:z6 g f b o q d with
  |none=>rw[hc]at he;simp at he
  |some x=>rw[hc]at he;simp at he;rw[he])
def aap{g:Pg}{f:Int}{b:QR}{o:Od}{q:Pl}{d:Int}(h:Hs g f b o q d):(LO g f b o q d).length<=2001:=by
 have h1:=He (Zm (Yc g f b o q d) (Vz g f b o q d)) none [];have h2:=Qdm (Yc g f b o q d) (Vz g f b o q d);have h3:=(kR h).1;simp only[zzcn]at h1;unfold LO zY;omega
def afV{g:Pg}{f:Int}{b:QR}{o:Od}{q:Pl}{d:Int}(h:Hs g f b o q d)(ce:Rt):Pure Tryz.prog aD 109 [.sl ce ((Vz g f b o q d).map Zv),I (Yc g f b o q d)] (.sl .ro ((LO g f b o q d).map Vl)):=
 Zb (LG (Vz g f b o q d) (Yc g f b o q d) (by have:=(kR h).1;omega) (kR h).2 h.en) ⟨Wk.trans (Wk.sl _ _) (K5 _),Ps,trivial⟩
def afW{g:Pg}{f:Int}{b:QR}{o:Od}{q:Pl}{d:Int}(h:Hs g f b o q d)(ci:Rt):
  Pure Tryz.prog aD 108 [.agg (Qa q),.sl ci ((Yg g b q.ens).map Qz),I (Yc g f b o q d),.sl .ro ((LO g f b o q d).map Vl)] (.aS [.sl (tW (Vs g f b o q d)) ((Vs g f b o q d).map Qe),.sl (tW (Kg g f b o q d)) ((Kg g f b o q d).map Qz)]):=by
 have h1:=jP g b q.ens;have h2:=h.pk.ens;have h3:=h.en;have:=aak h.pk (at_:=Yc g f b o q d) (by unfold am3;omega) (past:=LO g f b o q d) (by have:=aap h;omega) (ids:=Yg g b q.ens) zE;rw[RQ,Hr,afU]at this;exact Zb this ⟨Ps,Wk.sl _ _,Ps,Ps,trivial⟩
def am7{g:Pg}{f:Int}{b:QR}{o:Od}{q:Pl}{d:Int}(h:Hs g f b o q d)(hl:(Vs g f b o q d).length<=1000000)(rL:Rt):
  Pure Tryz.prog aD 67 [.agg (Qa q),.sl rL ((Vs g f b o q d).map Qe),I (Yc g f b o q d)] (.sl .ro ((Ku g f b o q d).map Qf)):=by
 obtain⟨q1,q2,q3,q4,q5,q6⟩:=h.pl;exact Zb (sR q (Vs g f b o q d) (Yc g f b o q d) zE zE zE zE q6 h.ln hl h.st) ⟨Ps,Wk.sl _ _,Ps,trivial⟩
def DM(ex gD:T5)(a b c X:P2):Qi (a::b::c::(ex++(gD++[X]))) (ex.length+(gD.length+3))=X:=by
 refine Qw ?_;have:a::b::c::(ex++(gD++[X]))=([a,b,c]++ex++gD)++[X]:=zd
 rw[this,zzaq (by simp;omega),show ex.length+(gD.length+3)-([a,b,c]++ex++gD).length=0 by simp;omega];rfl
def EvW.more{ml:Pa}{rt:Rt}{n:Nat}(h:EvW ml rt n)(x:Pa):EvW (ml++x) rt n:=by
 obtain h|⟨k,h1,h2⟩:=h
 ·exact .inl h
 exact .inr ⟨k,h1,by rw[zzak (zza.1 h2).1];exact h2⟩
def EvW.cv{ml:Pa}{rt:Rt}{n:Nat}(h:EvW ml rt n):∃ce,DL rt ce:=by
 obtain⟨rfl,_⟩|⟨k,rfl,_⟩:=h
 ·exact⟨_,DL.nil⟩
 exact⟨_,DL.own _ _⟩
def IdR.cv{ml ls:Pa}{rt:Rt}{n:Nat}(h:IdR ml ls rt n):∃ci,DL rt ci:=by
 obtain⟨rfl,_⟩|⟨rfl,_⟩:=h
 ·exact⟨_,DL.nil⟩
 exact⟨_,DL.own _ _⟩
def IdR.ls{ml ls:Pa}{rt:Rt}{n:Nat}(h:IdR ml ls rt n):∃x,ls=ml++x:=by
 obtain⟨_,_,rfl⟩|⟨_,_,rfl⟩:=h
 ·exact⟨[],zd⟩
 exact⟨_,rfl⟩
def RT(Y:YT)(m:AM)(g:Pg)(f:Int)(mid:Nat)(b:QR)(o:Od)(q:Pl)(d:Int)(h:Hs g f b o q d)(hb:fN m.boxes mid b)
  (fU:(Vs g f b o q d).length<=1000000)(fT:(Ku g f b o q d).length<=10000000)(K:So)
  (
   hK:∀ex ls ke vd,gT m.boxes.length ⟨m.boxes++ex,ls,m.st,m.ln⟩ vd ((dd (Uk (g.dr++Kg g f b o q d))).map Qz)->
   K (.aS [.sl (.own ke 7) ((Vz g f b o q d).map Zv++(Ku g f b o q d).map Qf),vd]) ⟨m.boxes++ex,ls,m.st,m.ln⟩):
  aB Tryz.prog aD Y 53 [.agg (Qr g f mid),.agg (Qq o),.agg (Qa q++[I d])] m K:=by
 obtain⟨mb,ml,ms,mn⟩:=m;have hB:∀ex,fN (mb++ex) mid b:=fun ex=>⟨by have:=hb.1;simp at this |-;omega,hb.ext ex⟩;have afS:=fun ce=>afV h ce;have aan:=fun ci=>afW h ci;have X8:=fun rL=>am7 h fU rL
 have hdl:(Kg g f b o q d).length<=1000000:=by
  have h1:=pT false (Yg g b q.ens) (jQ g f b o q d);have h2:=jP g b q.ens;have h3:=h.pk.ens;unfold Kg;omega
 have bU:=(kR h).1;have hL:∀ev,Vz g f b o q d=ev->ev.length<=2001:=fun ev he=>by rw[<- he];exact bU
 generalize hpast:LO g f b o q d=past at*
 generalize hstart:Vs g f b o q d=L at*
 generalize hdrop:Kg g f b o q d=D at*
 generalize hbld:Ku g f b o q d=bl at*
 have tail:∀(E:QQ)(X:T5)(ls:Pa)(rte:Rt)(Q:R0),Abs.look E 3=.ptr mb.length 0->Qi (mb++X) mb.length=Qr g f mid->2<X.length->
   Abs.look E 5=.ptr (mb.length+2) 0->Qi (mb++X) (mb.length+2)=Qa q++[I d]->Abs.look E 8=.sl rte ((Vz g f b o q d).map Zv)->EvW ls rte (Vz g f b o q d).length->Abs.look E 9=I (Yc g f b o q d)->
   (∀E' ex LP ke vd,Abs.look E' 6=.sl (.own ke 7) ((Vz g f b o q d).map Zv++bl.map Qf)->Abs.look E' 7=vd->gT mb.length ⟨mb++ex,LP,ms,mn⟩ vd ((dd (Uk (g.dr++D))).map Qz)->Q .ret ⟨Vw 103 E',⟨mb++ex,LP,ms,mn⟩⟩)->
   vc Tryz.prog aD (OH g past L D bl) Y OE ⟨Vw 103 E,⟨mb++X,ls,ms,mn⟩⟩ Q:=by
  intro E X ls rte Q e3 r3 hX e5 r5 e8 hw e9 hQ;refine aao Y _ (by simp[OH]) (by simp[OH]) E (mb++X) ls ms mn g f mid mb.length (mb.length+2) b q d Q (fun d id=>by simp[OH]) e3 (by simp;omega) r3 e5 (by simp;omega) r5 (hB X) h.dr (by have:=h.pk.ens;omega) ?_;intro E' ex rt LP hE qm aK;obtain⟨ci,hci⟩:=aK.cv;obtain⟨ce,hce⟩:=hw.cv;obtain⟨x,rfl⟩:=aK.ls
  refine aam Y _ (by simp[OH]) (by simp[OH]) (by simp[OH]) (fun _ _=>by simp[OH]) (fun _ _=>by simp[OH]) E' (mb++X++ex) (ls++x) ms mn g f mid mb.length (mb.length+2) q d rte ce rt ci (tW L) (tW D) (Vz g f b o q d) bl (Yc g f b o q d) (Yg g b q.ens) D L past Q
   (fun _ _=>by simp[OH]) (fun _ _=>by simp[OH]) (fun _ _=>by simp[OH]) (afS ce) (aan ci) (X8 _) hce hci (LM L)
   ((hE 3 zE zE).trans e3) (by simp;omega) ((Qn (by simp;omega)).trans r3) ((hE 5 zE zE).trans e5) (by simp;omega) ((Qn (by simp;omega)).trans r5)
   ((hE 8 zE zE).trans e8) (hw.more x) ((hE 9 zE zE).trans e9) qm h.dr hdl zE fT ?_
  intro E2 gD ls2 ke vd q1 q2 q3;replace q3:=q3.mono (n':=mb.length) zd;rw[zzbg,zzbg]at q3 |-
  exact hQ E2 _ ls2 ke vd q1 q2 q3
 obtain⟨hm,ug,Fc,hd0,N5,hf0,azv,fk,dQ,qc,IK,bM⟩:=h;refine Xo akq (OH g past L D bl) zd ?_;rw[afR];simp[atP,apa,Qr,Qk,Qa,Qq,Qd,Qg,Qh,OH];refine yp Y _ g.ev f zE hm.2.1 hf0 _ fun ex v ls hO=>?_;simp;have hbr:∀l:List aW,∀a∈l,(Qf a).length=7:=fun _ _ _=>rfl;have azw:(Zm f g.ev).length<=2000:=by have:=Qdm f g.ev;omega
 refine afk Y _ g f mid b o q (.sl .ro (q.ens.map Qd)) .ro d (.inl ⟨.ro,rfl,Du.ro⟩) Du.ro hm (hB _) ug hd0 N5 _ (fun e F he hF qn gD ls2 v2 Gy=>?_) (fun hn gD=>?_)
 ·have cU:z6 g f b o q d=some ⟨e.id,e.it,f,F,e.i+(f-e.st),rA q f e.it F q.rg.toNat,jH q f e.id F ((Xn e.id q.ens).getD yh).al,decide (jH q f e.id F ((Xn e.id q.ens).getD yh).al=[])⟩:=by
   unfold z6;rw[he];simp only;rw[hF];simp only;rw[ab qn]
  have he1:Yc g f b o q d=f+F:=by unfold Yc;rw[cU]
  have hw:IntKind.i64.wrap (f+F)=f+F:=by rw[Ql]<;>omega
  have fe:(Vz g f b o q d).map Zv=(Zm f g.ev).map Qf++[[I e.id,I e.it,I f,I F,I (e.i+(f-e.st)),I (rA q f e.it F q.rg.toNat),.sl (if jH q f e.id F ((Xn e.id q.ens).getD yh).al=[]then .nil else .ro) ((jH q f e.id F ((Xn e.id q.ens).getD yh).al).map Qe)]]:=by
   unfold Vz;rw[cU,zzcb,yB];simp[Zv]
  have am8:(Vz g f b o q d).length=(Zm f g.ev).length+1:=by
   unfold Vz;rw[cU];simp
  rw[fe,am8,he1]at tail;rw[fe]at hK;generalize jH q f e.id F ((Xn e.id q.ens).getD yh).al=A at*
  obtain⟨rfl,rfl,rfl⟩|⟨hA,rfl,rfl⟩:=Gy
  ·obtain⟨h0,rfl,rfl⟩|⟨h0,rfl,rfl⟩:=hO
   ·rw[h0]at tail hK;simp[zzap,hw,DM ex gD];refine tail _ _ _ _ _ zd (by simp[Qr,Qk,Qa]) zd zd (by simp[Qa]) (by simp;rfl) (.inr ⟨_,rfl,zd⟩) zd ?_;intro E' iD LP ke vd q1 q2 q3;have:=hK iD LP ke vd q3;simp[q1,q2]at this |-
    exact this
   skip
   simp[zzap,hw,DM ex gD];refine⟨⟨by rintro row (⟨a,_,rfl⟩|rfl)<;>rfl,zE⟩,tail _ _ _ _ _ zd (by simp[Qr,Qk,Qa]) zd zd (by simp[Qa]) (by simp;rfl) (.inr ⟨_,rfl,zd⟩) zd ?_⟩;intro E' iD LP ke vd q1 q2 q3;have:=hK iD LP ke vd q3;simp[q1,q2]at this |-
   exact this
  obtain⟨h0,rfl,rfl⟩|⟨h0,rfl,rfl⟩:=hO
  ·rw[h0]at tail hK;simp[zzap,hw,DM ex gD];refine tail _ _ _ (.own (ls.length+1) 7) _ zd (by simp[Qr,Qk,Qa]) zd zd (by simp[Qa]) (by simp[hA]) (.inr ⟨_,rfl,zd⟩) zd ?_;intro E' iD LP ke vd q1 q2 q3;have:=hK iD LP ke vd q3;simp[q1,q2]at this |-
   exact this
  skip
  simp[zzap,hw,DM ex gD];refine⟨⟨by rintro row (⟨a,_,rfl⟩|rfl)<;>rfl,zE⟩,tail _ _ _ (.own ml.length 7) _ zd (by simp[Qr,Qk,Qa]) zd zd (by simp[Qa]) (by simp[hA]) (.inr ⟨_,rfl,zd⟩) zd ?_⟩;intro E' iD LP ke vd q1 q2 q3;have:=hK iD LP ke vd q3;simp[q1,q2]at this |-
  exact this
 have cU:z6 g f b o q d=none:=by
  unfold z6;cases hp:Uc g f b with
  |none=>rfl
  |some e=>
   rw[hp]at hn;simp only[zzcx]at hn;obtain hn|hn:=hn
   ·simp only[hn]
   simp only[hn,if_true]
 have he1:Yc g f b o q d=f:=by unfold Yc;rw[cU]
 have fe:(Vz g f b o q d).map Zv=(Zm f g.ev).map Qf:=by
  unfold Vz;rw[cU,zzcb,yB];simp
 have am8:(Vz g f b o q d).length=(Zm f g.ev).length:=by
  unfold Vz;rw[cU];simp
 rw[fe,am8,he1]at tail;rw[fe]at hK;obtain⟨h0,rfl,rfl⟩|⟨h0,rfl,rfl⟩:=hO
 ·rw[h0]at tail hK;simp[zzap,nI];refine tail _ _ _ .nil _ zd (by simp[Qr,Qk,Qa]) zd zd (by simp[Qa]) zd (.inl ⟨rfl,rfl⟩) zd ?_;intro E' iD LP ke vd q1 q2 q3;have:=hK iD LP ke vd q3;simp[q1,q2]at this |-
  exact this
 simp[zzap,nI];refine tail _ _ _ (.own ml.length 7) _ zd (by simp[Qr,Qk,Qa]) zd zd (by simp[Qa]) zd (.inr ⟨_,rfl,zd⟩) zd ?_;intro E' iD LP ke vd q1 q2 q3;have:=hK iD LP ke vd q3;simp[q1,q2]at this |-
 exact this
end
