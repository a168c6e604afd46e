import Derived.Test.YthjppoincojfkaaGreatDoorRAScB
set_option linter.all false
set_option maxRecDepth 100000
set_option maxHeartbeats 64000000
namespace Go.Proofs.YthjppoincojfkaaGreatDoor
open Go Go.Abs
def L8(p:Pl)(e:En)(f:Int):Option Int:=
 if e.fr<1\/1000000<e.fr\/p.ln<e.fr then none else
 if max f 0<1000000/\0<=mC p e/\mC p e<1000000 then(match lP (Za p e.it 0) (max f 0) e.fr with
  |none=>none
  |some s=>if mC p e<s then none else some s)else Yk p e f
def RR(p:Pl)(e:En)(f:Int):L8 p e f=Yk p e f:=by
 unfold L8;split
 ·rename_i h;rw[Yk,if_pos h]
 rename_i h;split
 ·rename_i h2;rw[Yk,if_neg h];have hz:(max f 0).tdiv 1000000=0:=Int.tdiv_eq_zero_of_lt zE zE;rw[hz]
  conv=>rhs;unfold Ss
  rw[if_pos zE];cases lP (Za p e.it 0) (max f 0) e.fr with
  |none=>
   simp only;unfold Ss;rw[if_neg zE]
  |some s=>rfl
 rfl
def am1(p:Pl):Pi->List (Int×Int)->List (Int×Int)->Int->Int->Option (List Sp)
 |[],_,_,_,_=>some []
 |id::r,us,en,free,last=>match z8 id p.ens 0 with
  |none=>none
  |some k=>if(k:Int)<=last then none else match p.ens[k]? with
   |none=>none
   |some e=>if Wu p e.it≠ -1/\Wu p e.it<=(af e.it us).getD 0 then none else
    match L8 p e (Uk en (Kz p e.it) (max e.ea free))with
    |none=>none
    |some s=>match am1 p r (Yb us e.it) (Zo p en e.it (s+e.fr)) (s+e.fr) k with
     |none=>none
     |some l=>some ((id,s)::l)
def OK(p:Pl):∀(ids:Pi)(us en:List (Int×Int))(free last:Int),am1 p ids us en free last=Jl p ids us en free last
 |[],_,_,_,_=>rfl
 |id::r,us,en,free,last=>by
  rw[am1,Jl];simp only[RR,OK p r];rfl
open Go Go.Abs
open Go Go.Abs
def aax(past:List Ad):pT (past.length:Int) (N0 past []):=by
 have h:=HT past [] 0 zE (fun k v h=>by cases h);rwa [Int.zero_add]at h
def aay(p:Pl)(past:List Ad):ug (N1 p past []):=HU p past [] (fun k v h=>by cases h)
open Go Go.Abs
open Go Go.Abs
open Go Go.Abs
def UJ(p:Pl)(id:Int):Int:=match z8 id p.ens 0 with
 |none=> -1
 |some k=>(k:Int)
open Go Go.Abs
open Go Go.Abs
open Go Go.Abs
def BM{w:Bool}:∀{ids:Pi}{K:List Bool}{i:Nat}{id:Int}{k:Bool},ids[i]?=some id->K[i]?=some k->Xe w (ids.take (i+1)) (K.take (i+1))=Xe w (ids.take i) (K.take i)++if(k==w)=true then[id]else[]
 |[],_,_,_,_,h,_=>by simp at h
 |_::_,[],_,_,_,_,h=>by simp at h
 |x::r,y::ks,0,id,k,h1,h2=>by
  simp at h1 h2;subst h1;subst h2;simp[Xe]
 |x::r,y::ks,i+1,id,k,h1,h2=>by
  have ih:=BM (w:=w) (ids:=r) (K:=ks) (i:=i) (Nm h1) (Nm h2);rw[zzej,zzej,zzej,zzej,Xe,Xe,ih];split<;>simp
open Go Go.Abs
def aaz(p:Pl)(id:Int):(∃(n k:Nat)(e:En),Zh id p.ens=some e/\p.ens[k]?=some e/\Xi [id] (bG iA (Dk p)) 0=some (n,I k))\/(Zh id p.ens=none/\Xi [id] (bG iA (Dk p)) 0=none):=by
 have key:∀(l:List En)(i:Nat),z8 id l i=none->Zh id l=none:=by
  intro l;induction l with
  |nil=>intro i _;rfl
  |cons x r ih=>
   intro i h;rw[z8]at h;split at h
   ·cases h
   rename_i hn;rw[Zh,if_neg hn];exact ih _ h
 rcases Xx iA id (Dk p) 0 with⟨p1,p2,_⟩|⟨u,n,p1,p2,_⟩
 ·rw[uO]at p1;cases hx:z8 id p.ens 0 with
  |none=>exact .inr ⟨key _ _ hx,p2⟩
  |some k=>rw[hx]at p1;cases p1
 rw[uO]at p1;cases hx:z8 id p.ens 0 with
 |none=>rw[hx]at p1;cases p1
 |some k=>
  rw[hx]at p1;cases p1;obtain⟨_,e,h2,h3,h4⟩:=rG hx;rw[zzfc]at h2;exact .inl ⟨_,k,e,h4,h2,p2⟩
def afQ(pre post:T5)(ls:Pa)(b:Bd)(id:Int)(Y:YT)(K:So)(hK:∀ex,K (I (RP b.p id:Nat)) (aP pre b (post++ex) ls)):
  aB Tryz.prog aD Y 164 [.ptr (pre.length+9) 0,I id] (aP pre b post ls) K:=by
 refine Xn acr (fun _ _ _=>.junk) zd ?_;unfold RP at hK;rcases aaz b.p id with⟨n,k,e,he,hk,hp⟩|⟨he,hp⟩
 ·rw[he]at hK;simp only at hK;have oQ:=(zza.1 hk).1;have zP:(k:Int)<(b.p.ens.length:Int):=zE
  have ya:=Qdg hk;by_cases b1:e.bo=0
  ·rw[if_neg (by simp[b1])]at hK;rcases Qdd b.p e.it with⟨ni,y,hy,hi⟩|⟨hy,hi⟩
   ·rw[hy]at hK;simp only at hK;by_cases c1:y.ki=1
    ·rw[if_pos (.inl c1)]at hK;simp[vB,aP,aW,Qp,Qa,hp,oQ,zP,ya,Qd,b1];refine Ul ?_;simp[vC,aP,aW,Qp,Qa,Qd,hi,rH,Qm,c1];simpa[aP,aW,Qp,Qa,Qm,Qd,b1,c1]using hK [Qd e,Qm y]
    by_cases c2:y.ki=4
    ·rw[if_pos (.inr c2)]at hK;simp[vB,aP,aW,Qp,Qa,hp,oQ,zP,ya,Qd,b1];refine Ul ?_;simp[vC,aP,aW,Qp,Qa,Qd,hi,rH,Qm,c1,c2];simpa[aP,aW,Qp,Qa,Qm,Qd,b1,c1,c2]using hK [Qd e,Qm y]
    rw[if_neg (by rintro(h|h);exact c1 h;exact c2 h)]at hK;simp[vB,aP,aW,Qp,Qa,hp,oQ,zP,ya,Qd,b1];refine Ul ?_;simp[vC,aP,aW,Qp,Qa,Qd,hi,rH,Qm,c1,c2];simpa[aP,aW,Qp,Qa,Qm,Qd,b1,c1,c2]using hK [Qd e,Qm y]
   rw[hy]at hK;simp only at hK;simp[vB,aP,aW,Qp,Qa,hp,oQ,zP,ya,Qd,b1];refine Ul ?_;simp[vC,aP,aW,Qp,Qa,Qd,hi];simpa[aP,aW,Qp,Qa,Qd,b1]using hK [Qd e,[I 0,I 0,I 0,I 0,I 0]]
  rw[if_pos b1]at hK;simp[vB,vC,aP,aW,Qp,Qa,hp,oQ,zP,ya,Qd,b1];simpa[aP,aW,Qp,Qa,Qd]using hK [Qd e]
 rw[he]at hK;simp only at hK;simp[vB,vC,aP,aW,Qp,Qa,hp];simpa[aP,aW,Qp,Qa]using hK []
def rX(n:Nat)(S:Pi):Rt:=if S=[]then .nil else .own n 1
def oe(S:Pi):Pa:=if S=[]then[]else[S.length]
def atM(ids:Pi)(K:List Bool)(w:Bool)(m0:AM)(f:Nat->AV)(m:AM):Prop:=
 ∃(i:Nat),f 10=I i/\i<=ids.length/\f 5=.sl (rX m0.lens.length (Xe w (ids.take i) (K.take i))) ((Xe w (ids.take i) (K.take i)).map Xa)/\m={m0 with lens:=m0.lens++oe (Xe w (ids.take i) (K.take i))}
def RS(ids:Pi)(K:List Bool)(w:Bool)(hi:ids.length<=1000)(hk:K.length=ids.length)(m:AM)(ia ib kb:Nat)(h1:Qj m.boxes ia=[.sl .ro (ids.map Xa)])(h2:Qj m.boxes ib=[.bs kb 0 ids.length 1])(h3:Qj m.boxes kb=K.map .bool)
  (g1:ia<m.boxes.length)(g2:ib<m.boxes.length)(g3:kb<m.boxes.length)(Y:YT)(Q:So)(hQ:Q (.sl (rX m.lens.length (Xe w ids K)) ((Xe w ids K).map Xa)) {m with lens:=m.lens++oe (Xe w ids K)}):
  aB Tryz.prog aD Y 163 [.bool w,.ptr ia 0,.ptr ib 0] m Q:=by
 refine Xn acq (fun _ _ _=>.junk) zd ?_;simp[TM,h1,g1];refine Qk vA (atM ids K w m) (fun f _=>ids.length-(numOf (f 10)).toNat) ?_ ?_
 ·exact⟨0,zd,zE,by simp[Xe,rX],by simp[Xe,oe]⟩
 rintro f m' ⟨i,lM,jb,h5,rfl⟩;rcases zzaa i ids.length with ai|bn
 ·obtain⟨id,hx⟩:=aV ai;obtain⟨k,hy⟩:∃x,K[i]?=some x:=⟨_,zzaf zE⟩;have ah:Qj (ids.map Xa) i=Xa id:=Qu (by simp[hx]);have bL:nth ((K.map AV.bool).drop i) 0=.bool k:=ala (by simp[hy]);have xq:min 1 (K.length-i)=1:=zE
  have am2:i<K.length:=zE
  have aa:(i:Int)<(ids.length:Int):=zE
  have hw:=bO i zE;have bA:=BM (w:=w) hx hy
  have iE:(Xe w (ids.take i) (K.take i)).length<=1000:=by
   have:=(kj w (ids.take i) (K.take i)).length_le;simp at this;omega
  obtain⟨S,hS⟩:∃S,Xe w (ids.take i) (K.take i)=S:=⟨_,rfl⟩;rw[hS]at h5 bA iE |-
  cases hc:(k==w)with
  |false=>
   rw[hc]at bA;have bA:Xe w (ids.take (i+1)) (K.take (i+1))=S:=by rw[bA];simp
   simp[lM,h5,ai,aa,am2,ah,Xa,vA,hw,hc,h2,h3,g2,g3,bL,xq,show 1<=K.length-i by omega];refine⟨aQ,⟨i+1,zd,zE,by rw[bA];simp[h5,Xa],by rw[bA]⟩,zE⟩
  |true=>
   rw[hc]at bA;have bA:Xe w (ids.take (i+1)) (K.take (i+1))=S++[id]:=by rw[bA];simp
   by_cases hSe:S=[]
   ·subst hSe;simp only[rX,oe,if_true,zzcv,zzar]at h5 |-
    simp[lM,h5,ai,aa,am2,ah,Xa,vA,hw,hc,h2,h3,g2,g3,bL,xq,show 1<=K.length-i by omega];refine⟨aQ,⟨i+1,zd,zE,by rw[bA];simp[Xa,rX],by rw[bA];simp[oe]⟩,zE⟩
   simp only[rX,oe,if_neg hSe]at h5 |-
   have bZ:(m.lens++[S.length]).set m.lens.length (S.length+1)=m.lens++[S.length+1]:=by rw[List.set_append,if_neg zE];simp
   simp[lM,h5,ai,aa,am2,ah,Xa,vA,hw,hc,h2,h3,g2,g3,bL,xq,show 1<=K.length-i by omega];refine⟨⟨?_,zE⟩,aQ,⟨i+1,zd,zE,by rw[bA];simp[Xa,rX],by rw[bA];simp[oe]⟩,zE⟩
   ·rintro row (⟨a,_,rfl⟩|rfl)<;>rfl
 have bQ:¬(i:Int)<(ids.length:Int):=zE
 rw[zzau zE,zzau zE]at h5 |-
 simp[lM,h5,bQ,zzbk.2 bn,vA,agQ];exact hQ
open Go Go.Abs
def stF(ok:Pi->Bool)(rd:Int->Nat)(ids:Pi)(r:Nat):Nat->Nat->List Bool->List Bool
 |0,_,K=>K
 |n+1,i,K=>stF ok rd ids r n (i+1) (Ka ok rd ids r K i)
def RT(ok:Pi->Bool)(rd:Int->Nat)(ids:Pi)(r:Nat)(K:List Bool):Jd ok rd ids r K=stF ok rd ids r ids.length 0 K:=by
 have:∀(n i:Nat)(K:List Bool),(List.range' i n).foldl (Ka ok rd ids r) K=stF ok rd ids r n i K:=by
  intro n;induction n with
  |zero=>intro i K;rfl
  |succ n ih=>intro i K;rw[zzgo,zzcy,ih];rfl
 unfold Jd;rw[zzfm];exact this _ _ _
def aaA{ok:Pi->Bool}{rd:Int->Nat}{ids:Pi}{r:Nat}{K:List Bool}{i:Nat}{id:Int}(h:ids[i]?=some id):Ka ok rd ids r K i=if rd id=r then K.set i (ok (Xe true ids (K.set i true)))else K:=by
 unfold Ka;rw[h]
def chF(ok:Pi->Bool)(rd:Int->Nat)(ids:Pi):Nat->Nat->List Bool->List Bool
 |0,_,K=>K
 |n+1,r,K=>chF ok rd ids n (r+1) (Jd ok rd ids r K)
def yY(p:Pl)(ids:Pi):T5:=[Qa p,[.sl .ro (ids.map Xa)]]
def di(E:T5)(n:Nat)(K:List Bool)(ex:T5):T5:=E++(K.map AV.bool::[.bs (E.length+12) 0 n 1]::ex)
def zm(p:Pl)(ids:Pi)(b:Bd)(E:T5)(K:List Bool)(ex:T5)(ls:Pa):AM:=aP (yY p ids) b (di E ids.length K ex) ls
def lR(b:Bd)(rv:List (Int×(Rt×List Sp)))(li:List (Int×Int))(pm:List ((Int×Int)×List Sp)):Bd:={b with rv:=rv,li:=li,pm:=pm}
def atN(p:Pl)(ids:Pi)(b:Bd)(E:T5)(T:List Bool)(f:Nat->AV)(m:AM):Prop:=
 ∃(r:Nat)(K:List Bool)(rv:List (Int×(Rt×List Sp)))(li:List (Int×Int))(pm:List ((Int×Int)×List Sp))(ex:T5)(ls:Pa),f 36=I r/\r<=3/\K.length=ids.length/\chF (ow b) (RP p) ids (3-r) r K=T/\Bp (lR b rv li pm)/\m=zm p ids (lR b rv li pm) E K ex ls
def atO(p:Pl)(ids:Pi)(b:Bd)(E:T5)(r:Nat)(T:List Bool)(f:Nat->AV)(m:AM):Prop:=
 ∃(i:Nat)(K:List Bool)(rv:List (Int×(Rt×List Sp)))(li:List (Int×Int))(pm:List ((Int×Int)×List Sp))(ex:T5)(ls:Pa),f 41=I i/\i<=ids.length/\K.length=ids.length/\stF (ow b) (RP p) ids r (ids.length-i) i K=T/\Bp (lR b rv li pm)/\m=zm p ids (lR b rv li pm) E K ex ls
def aya(p:Pl)(ids:Pi)(b:Bd)(E:T5)(K:List Bool)(ex:T5)(ls:Pa)(S:Pi)(v:AV)(m:AM):Prop:=
 ∃(a:AV)(rv:List (Int×(Rt×List Sp)))(li:List (Int×Int))(pm:List ((Int×Int)×List Sp))(gH:T5)(exl:Pa),v=.aS [a,.bool (ow b S)]/\Bp (lR b rv li pm)/\m=zm p ids (lR b rv li pm) E K (ex++gH) (ls++exl)
def ku:UV:=fun d f _=>if f=999999 then(if d=34 then .aJ 0 []else .junk)else .gd false .junk
def aaB{p:Pl}{ids:Pi}(hi:ids.length<=1000)(b:Bd)(E:T5)(K:List Bool)(hk:K.length=ids.length)(ex:T5)(ls:Pa)(w:Bool)(Y:YT)(Q:So)
  (hQ:Q (.sl (rX ls.length (Xe w ids K)) ((Xe w ids K).map Xa)) (zm p ids b E K ex (ls++oe (Xe w ids K)))):
  aB Tryz.prog aD Y 163 [.bool w,.ptr 1 0,.ptr (E.length+13) 0] (zm p ids b E K ex ls) Q:=by
 refine RS ids K w hi hk (zm p ids b E K ex ls) 1 (E.length+13) (E.length+12) ?_ ?_ ?_ ?_ ?_ ?_ Y Q hQ;all_goals simp[zm,aP,aW,yY,di]
 all_goals omega
def qT(a:AV):∀n:Nat,bF n [a]=List.replicate n a
 |0=>rfl
 |n+1=>by rw[bF,qT a n];rfl
def aaC{p:Pl}(h:PlK p){at_:Int}(ha:amz at_){past:List Ad}(hp:past.length<=2500)(pre post:T5)(ls:Pa)(rv:List (Int×(Rt×List Sp)))(li:List (Int×Int))(pm:List ((Int×Int)×List Sp))(hB:Bp (lR (gJ p at_ past) rv li pm))
  (S:Pi)(hS:S.length<=1000)(rt0:Rt)(Y:YT)(K:So)
  (
   hK:∀a rv li pm ex exl,Bp (lR (gJ p at_ past) rv li pm)->((Yu p at_ past S=none/\a=.sl .nil [])\/∃l rt,Yu p at_ past S=some l/\Dn 2 ls.length (ls++exl) rt l/\a=.sl rt (l.map Qe))->
   K (.aS [a,.bool (ow (gJ p at_ past) S)]) (aP pre (lR (gJ p at_ past) rv li pm) (post++ex) (ls++exl))):
  aB Tryz.prog aD Y 114 [.ptr (pre.length+9) 0,.sl rt0 (S.map Xa)] (aP pre (lR (gJ p at_ past) rv li pm) post ls) K:=by
 have FT:=h.spn;obtain⟨l1,l2,l3,l4,l5,l6,l7,l8,l9,l10⟩:=h;have hU:=aax past;have hE:=aay p past;refine Qem pre post ls (lR (gJ p at_ past) rv li pm) S rt0 past.length zE zE (show p.cls.length<=1000000 by omega) (show p.sh.length<=1000000000 by omega) (show p.aN.length<=1000000000 by omega) (show p.ens.length<=1000000000 by omega) (show(Ub p).length<=1000000000 by omega) l7.2 (fun e he=>(l8 e he).2) ha.2 hU hE hB Y K (fun h0 rv li pm gH exl hB=>?_) (fun l h1 rv li pm gH exl Sb hB Ge=>?_)
 ·have h0:Yu p at_ past S=none:=h0;have:=hK (.sl .nil []) rv li pm gH exl hB (.inl ⟨h0,rfl⟩);rw[vg,h0]at this;exact this
 have h1:Yu p at_ past S=some l:=h1;have:=hK (.sl Sb (l.map Qe)) rv li pm gH exl hB (.inr ⟨l,Sb,h1,Ge,rfl⟩);rw[vg,h1]at this;exact this
def qb(w:Bool)(ids:Pi)(K:List Bool):(Xe w ids K).length<=ids.length:=(kj w ids K).length_le
def Z5{p:Pl}(h:PlK p){at_:Int}(ha:amz at_){past:List Ad}(hp:past.length<=2500){ids:Pi}(hi:ids.length<=1000):
  Pure Tryz.prog aD 108 [.agg (Qa p),.sl .ro (ids.map Xa),I at_,.sl .ro (past.map Vn)] (RB p at_ past ids):=by
 have E7:=h;obtain⟨l1,l2,l3,l4,l5,l6,l7,l8,l9,l10⟩:=h;refine Qo abF ku zd ?_;simp[Mz,Qa,ku];have k41:=fun K'=>x8 (yY p ids) [] p at_ past .ro zE zE zE Y0 K';simp only[yY,Qa]at k41;refine k41 _ fun ex=>?_;clear k41;simp[ku,aP,aW,Qp,Qa];refine aaC E7 ha hp (yY p ids) ex [] [] [] [] (am0 p at_ past) ids hi .ro Y0 _ (fun a rv li pm gH exl hB hr=>?_);obtain⟨h0,rfl⟩|⟨l,rt,h1,hO,rfl⟩:=hr
 ·have bU:ow (gJ p at_ past) ids=false:=by rw[vg,h0];rfl
  rw[bU];obtain⟨E,hE⟩:∃E,ex++gH=E:=⟨_,rfl⟩;rw[hE];simp[ku,aP,aW,Qp,yY,Qa,lR,gJ];refine⟨zE,?_⟩;refine Qk BU (atN p ids (gJ p at_ past) E (Kw p at_ past ids)) (fun f _=>(3-numOf (f 36)).toNat) ?_ ?_
  ·exact⟨0,List.replicate ids.length false,rv,li,pm,[],exl,zd,zE,zd,rfl,hB,by simp[zm,aP,aW,Qp,yY,di,Qa,lR,gJ,qT]⟩
  clear hB;rintro f m ⟨r,K,rv,li,pm,Dr,ls,h36,Ou,hK,hT,hB,rfl⟩;rcases zzaa r 3 with rlt|rge
  ·have ayb:(r:Int)<3:=zE
   have ru:=bO r zE;obtain⟨n,hn⟩:∃n,3-r=n+1:=⟨2-r,zE⟩;rw[hn,chF]at hT;obtain⟨T,hTr⟩:∃T,Jd (ow (gJ p at_ past)) (RP p) ids r K=T:=⟨_,rfl⟩;rw[hTr]at hT;rw[RT]at hTr;simp[h36,rlt,ayb,BU,zm,aP,aW,yY,di,lR,gJ];refine Qk IV (atO p ids (gJ p at_ past) E r T) (fun f _=>ids.length-(numOf (f 41)).toNat) ?_ ?_
   ·exact⟨0,K,rv,li,pm,Dr,ls,zd,zE,hK,Nm hTr,hB,by simp[zm,aP,aW,yY,di,lR,gJ]⟩
   clear hTr hK hB;rintro g m ⟨i,K,rv,li,pm,Dr,ls,g41,jb,hK,hTi,hB,rfl⟩;rcases zzaa i ids.length with ai|bn
   ·obtain⟨id,hx⟩:=aV ai;have ah:Qj (ids.map Xa) i=Xa id:=Qu (by simp[hx]);have aa:(i:Int)<(ids.length:Int):=zE
    have hw:=bO i zE;obtain⟨n2,zy⟩:∃n2,ids.length-i=n2+1:=⟨ids.length-i-1,zE⟩;have hn3:ids.length-(i+1)=n2:=zE
    rw[zy,stF,aaA hx]at hTi;simp[g41,ai,aa,ah,Xa,IV,zm,aP,aW,yY,di,lR,gJ,ku];refine afQ (yY p ids) (di E ids.length K Dr) ls (lR (gJ p at_ past) rv li pm) id Y0 _ (fun exr=>?_);have hpb:(lR (gJ p at_ past) rv li pm).p=p:=rfl;rw[hpb];by_cases iI:RP p id=r
    ·rw[if_pos iI]at hTi;have am3:((RP p id:Nat):Int)=(r:Int):=zE
     have hms:(K.map AV.bool).set i (.bool true)=(K.set i true).map AV.bool:=by rw[zzfe]
     simp[am3,aP,aW,yY,di,lR,gJ,ku];refine⟨ai,zE,?_⟩;rw[hms];obtain⟨S,hS⟩:∃S,Xe true ids (K.set i true)=S:=⟨_,rfl⟩;have hSl:S.length<=1000:=by have:=qb true ids (K.set i true);rw[hS]at this;omega
     have hK2:(K.set i true).length=ids.length:=by simpa using hK
     rw[hS]at hTi;obtain⟨ok,atP⟩:∃ok,ow (gJ p at_ past) S=ok:=⟨_,rfl⟩;rw[atP]at hTi
     refine WD rfl [(.sl (rX ls.length S) (S.map Xa),zm p ids (lR (gJ p at_ past) rv li pm) E (K.set i true) (Dr++exr) (ls++oe S))] (aya p ids (gJ p at_ past) E (K.set i true) (Dr++exr) (ls++oe S) S)
      ⟨(.aS [.sl .nil [],.bool (ow (gJ p at_ past) S)],zm p ids (lR (gJ p at_ past) rv li pm) E (K.set i true) ((Dr++exr)++[]) ((ls++oe S)++[])),.sl .nil [],rv,li,pm,[],[],rfl,hB,rfl⟩ (fun v m' hv=>?_)
     obtain⟨a,rv2,s5,N7,Q1,am4,rfl,A6,rfl⟩:=hv;rw[atP];simp[zm,aP,aW,yY,di,lR,gJ,ku,hw];rw[hms];have ay1:(K.map AV.bool).set i (.bool ok)=(K.set i ok).map AV.bool:=by rw[zzfe]
     refine⟨?_,?_,ai,zE,aQ,⟨i+1,K.set i ok,rv2,s5,N7,(Dr++exr)++Q1,ls++oe S++am4,zd,zE,Nm hK,by rw[hn3];exact hTi,A6,by simp[zm,aP,aW,yY,di,lR,gJ]⟩,by simp[g41];omega⟩
     ·refine aaB (p:=p) hi (lR (gJ p at_ past) rv li pm) E (K.set i true) hK2 (Dr++exr) ls true Y0 _ ?_;rw[hS];exact⟨rfl,rfl⟩
     refine aaC E7 ha hp (yY p ids) (di E ids.length (K.set i true) (Dr++exr)) (ls++oe S) rv li pm hB S hSl _ Y0 _ (fun a rv li pm ex exl hB _=>⟨a,rv,li,pm,ex,exl,rfl,hB,by simp[zm,di];rfl⟩)
    rw[if_neg iI]at hTi;have am3:¬((RP p id:Nat):Int)=(r:Int):=zE
    simp[am3,aP,aW,yY,di,lR,gJ,ku,hw];refine⟨aQ,⟨i+1,K,rv,li,pm,Dr++exr,ls,zd,zE,hK,by rw[hn3];exact hTi,hB,by simp[zm,aP,aW,yY,di,lR,gJ]⟩,zE⟩
   have bQ:¬(i:Int)<(ids.length:Int):=zE
   have hz:ids.length-i=0:=zE
   rw[hz,stF]at hTi;subst hTi;simp[g41,bQ,zzbk.2 bn,IV,BU,h36,zm,aP,aW,yY,di,lR,gJ,ru];refine⟨aQ,⟨r+1,K,rv,li,pm,Dr,ls,zd,zE,hK,by rw[show 3-(r+1)=n by omega];exact hT,hB,by simp[zm,aP,aW,yY,di,lR,gJ]⟩,zE⟩
  have rin:¬(r:Int)<3:=zE
  obtain rfl:r=3:=zE
  have hT:K=Kw p at_ past ids:=hT;subst hT;obtain⟨ka,kb,kc⟩:=L7 p at_ past ids;obtain⟨L,hL⟩:=zzcd.1 kb;simp[h36,BU,zm,aP,aW,yY,di,lR,gJ,ku];refine aaB (p:=p) hi (lR (gJ p at_ past) rv li pm) E (Kw p at_ past ids) ka Dr ls true Y0 _ ?_;obtain⟨S,hS⟩:∃S,Xe true ids (Kw p at_ past ids)=S:=⟨_,rfl⟩;have hSl:S.length<=1000:=by have:=qb true ids (Kw p at_ past ids);rw[hS]at this;omega
  have hr:RB p at_ past ids=.aS [IE L,Ht (Xe false ids (Kw p at_ past ids))]:=by rw[RB,hL];rfl
  rw[hr];rw[hS]at hL |-
  simp[zm,aP,aW,yY,di,lR,gJ,ku];refine aaC E7 ha hp (yY p ids) (di E ids.length (Kw p at_ past ids) Dr) (ls++oe S) rv li pm hB S hSl _ Y0 _ (fun a rv li pm Q1 am4 hB hv=>?_);obtain⟨h0,_⟩|⟨l,rt,h1,hO,rfl⟩:=hv
  ·rw[hL]at h0;cases h0
  rw[hL]at h1;cases h1;simp[zm,aP,aW,yY,di,lR,gJ,ku];refine aaB (p:=p) hi (lR (gJ p at_ past) rv li pm) E (Kw p at_ past ids) ka (Dr++Q1) (ls++(oe S++am4)) false Y0 _ ?_;obtain⟨D,hD⟩:∃D,Xe false ids (Kw p at_ past ids)=D:=⟨_,rfl⟩;rw[hD];by_cases hDe:D=[]
  ·subst hDe;obtain⟨rfl,rfl⟩|⟨k2,rfl,_,_,aO⟩:=hO
   ·simp[vn,IE,Ht,rX]
   simp[vn,IE,Ht,rX,aO]
  obtain⟨rfl,rfl⟩|⟨k2,rfl,_,_,aO⟩:=hO
  ·simp[vn,IE,Ht,rX,hDe]
  simp[vn,IE,Ht,rX,hDe,aO]
 have bU:ow (gJ p at_ past) ids=true:=by rw[vg,h1];rfl
 obtain⟨dD,ee⟩:=RQ p at_ past ids (by rw[h1];rfl);have hr:RB p at_ past ids=.aS [IE l,.sl .nil []]:=by rw[RB,dD,ee,h1];rfl
 rw[bU,hr];obtain⟨rfl,rfl⟩|⟨k2,rfl,_,_,aO⟩:=hO
 ·simp[vn,IE]
 simp[vn,IE,aO]
