import Derived.Test.YtnopaopphmjnmaaGreatDoorMLMcY
set_option linter.all false
set_option maxRecDepth 100000
set_option maxHeartbeats 64000000
namespace Go.Proofs.YtnopaopphmjnmaaGreatDoor
open Go Go.Abs
def Mx(p:Pl)(e:En)(f:Int):Option Int:=
 if e.fr<1\/1000000<e.fr\/p.ln<e.fr then none else
 if max f 0<1000000/\0<=mT p e/\mT p e<1000000 then(match lX (Za p e.it 0) (max f 0) e.fr with
  |none=>none
  |some s=>if mT p e<s then none else some s)else Ye p e f
def S3(p:Pl)(e:En)(f:Int):Mx p e f=Ye p e f:=by
 unfold Mx;split
 ·rename_i h;rw[Ye,if_pos h]
 rename_i h;split
 ·rename_i h2;rw[Ye,if_neg h];have hz:(max f 0).tdiv 1000000=0:=Int.tdiv_eq_zero_of_lt (by omega) (by omega);rw[hz]
  conv=>rhs;unfold Tu
  rw[if_pos (by omega)];cases lX (Za p e.it 0) (max f 0) e.fr with
  |none=>
   simp only;unfold Tu;rw[if_neg (by omega)]
  |some s=>rfl
 rfl
def anY(p:Pl):List Int->List (Int×Int)->List (Int×Int)->Int->Int->Option (List Sp)
 |[],_,_,_,_=>some []
 |id::r,us,en,free,last=>match zR id p.ens 0 with
  |none=>none
  |some k=>if(k:Int)<=last then none else match p.ens[k]? with
   |none=>none
   |some e=>if Wp p e.it≠ -1/\Wp p e.it<=(af e.it us).getD 0 then none else
    match Mx p e (Uj en (Kt p e.it) (max e.ea free))with
    |none=>none
    |some s=>match anY p r (Vt us e.it) (Zl p en e.it (s+e.fr)) (s+e.fr) k with
     |none=>none
     |some l=>some ((id,s)::l)
def O5(p:Pl):∀(ids:List Int)(us en:List (Int×Int))(free last:Int),anY p ids us en free last=Jk p ids us en free last
 |[],_,_,_,_=>rfl
 |id::r,us,en,free,last=>by
  rw[anY,Jk];simp only[S3,O5 p r];rfl
open Go Go.Abs
def anj(n:Int):Prop:= -9223372036854775808<=n/\n<=9223372036854775807
structure Ca where
 p:Pl
 ids:List Int
 wh:Int
 at_:Int
 past:List Ad
structure PlK (p:Pl):Prop where
 cls:p.cls.length<=1000
 sh:p.sh.length<=1000
 aL:p.aL.length<=1000
 ens:p.ens.length<=1000
 bks:p.bks.length<=1000
 als:∀e∈p.ens,e.al.length<=1000
 ln: -9223372036854775808<=p.ln/\p.ln<=9223372036854775807
 ea:∀e∈p.ens,-9223372036854775808<=e.ea/\e.ea<=9223372036854775807
 la:∀e∈p.ens,-9223372036854775808<=e.la/\e.la<=9223372036854775807
 fr:∀e∈p.ens,-9223372036854775808<=e.fr/\e.fr<=2000
def PlK.spn{p:Pl}(h:PlK p):(Ub p).length<=1000:=by
 have:=pV p.aL [] [];have:=h.aL;simp only[Ub];simp at*;omega
def H8:∀(l:List Ad)(us:List (Int×Int))(n:Int),0<=n->pU n us->pU (n+l.length) (Oq l us)
 |[],us,n,_,h=>by simpa[Oq]using h
 |a::r,us,n,hn,h=>by
  rw[Oq]
  have h1:pU (n+1) (if rE a=true then Vt us a.it else us):=by
   split
   ·exact h.note hn a.it
   exact fun k v hk=>by have:=h k v hk;omega
  have h2:=H8 r _ (n+1) (by omega) h1;have:n+((a::r).length:Int)=n+1+(r.length:Int):=by simp;omega
  rw[this];exact h2
def H9(p:Pl):∀(l:List Ad)(en:List (Int×Int)),tX en->tX (Ot p l en)
 |[],en,h=>by simpa[Ot]using h
 |a::r,en,h=>by
  rw[Ot];refine H9 p r _ ?_;cases hc:rE a with
  |false=>simpa[hc]using h
  |true=>
   simp only[if_true];refine h.note a.it _ ?_;simp[rE]at hc;omega
open Go Go.Abs
def Hp(l:List Int):AV:=if l=[]then .sl .nil []else .sl .ro (l.map Qy)
def gL(p:Pl)(at_:Int)(past:List Ad):Bd:=⟨p,at_,Oq past [],Ot p past [],[],[],[]⟩
def anZ(p:Pl)(at_:Int)(past:List Ad):Bl (gL p at_ past):=⟨fun _ _ h=>(by cases h),fun _ _ h=>(by cases h),fun _ _ h=>(by cases h)⟩
def S4(p:Pl)(id:Int):Nat:=match Ze id p.ens with
 |none=>2
 |some e=>if e.bo≠0 then 0 else match Xh e.it p.aL with
  |none=>2
  |some x=>if x.ki=1\/x.ki=4 then 1 else 2
def Kq(p:Pl)(at_:Int)(past:List Ad)(ids:List Int):List Bool:=Jm (oA (gL p at_ past)) (S4 p) ids
def Sl(p:Pl)(at_:Int)(past:List Ad)(ids:List Int):AV:=
 .aW [IT ((Yq p at_ past (Xb true ids (Kq p at_ past ids))).getD []),Hp (Xb false ids (Kq p at_ past ids))]
theorem uX(p:Pl)(at_:Int)(past:List Ad)(ids:List Int):oA (gL p at_ past) ids=(Yq p at_ past ids).isSome:=rfl
def abo(p:Pl)(id:Int):S4 p id<=2:=by
 unfold S4;cases Ze id p.ens with
 |none=>exact zzab _
 |some e=>
  simp only;split
  ·omega
  cases Xh e.it p.aL with
  |none=>exact zzab _
  |some x=>simp only;split<;>omega
def My(p:Pl)(at_:Int)(past:List Ad)(ids:List Int):(Kq p at_ past ids).length=ids.length/\(Yq p at_ past (Xb true ids (Kq p at_ past ids))).isSome=true/\
  ∀(j:Nat)(id:Int),ids[j]?=some id->(Kq p at_ past ids).getD j false=true\/(Yq p at_ past (Xb true ids ((Kq p at_ past ids).set j true))).isSome=false:=
 tf (H6 _) (Po _) (S4 p) ids fun id _=>abo p id
def S5(p:Pl)(at_:Int)(past:List Ad)(ids:List Int)(h:(Yq p at_ past ids).isSome=true):Xb true ids (Kq p at_ past ids)=ids/\Xb false ids (Kq p at_ past ids)=[]:=
 Mj (H6 _) (Po _) (S4 p) ids (fun id _=>abo p id) h
open Go Go.Abs
open Go Go.Abs
def abp(past:List Ad):pU (past.length:Int) (Oq past []):=by
 have h:=H8 past [] 0 (by omega) (fun k v h=>by cases h);rwa [Int.zero_add]at h
def abq(p:Pl)(past:List Ad):tX (Ot p past []):=H9 p past [] (fun k v h=>by cases h)
open Go Go.Abs
open Go Go.Abs
open Go Go.Abs
def aly(p:Pl)(id:Int):Int:=match zR id p.ens 0 with
 |none=> -1
 |some k=>(k:Int)
open Go Go.Abs
open Go Go.Abs
open Go Go.Abs
def BJ{w:Bool}:∀{ids:List Int}{K:List Bool}{i:Nat}{id:Int}{k:Bool},ids[i]?=some id->K[i]?=some k->Xb w (ids.take (i+1)) (K.take (i+1))=Xb w (ids.take i) (K.take i)++if(k==w)=true then[id]else[]
 |[],_,_,_,_,h,_=>by simp at h
 |_::_,[],_,_,_,_,h=>by simp at h
 |x::r,y::ks,0,id,k,h1,h2=>by
  simp at h1 h2;subst h1;subst h2;simp[Xb]
 |x::r,y::ks,i+1,id,k,h1,h2=>by
  have ih:=BJ (w:=w) (ids:=r) (K:=ks) (i:=i) (by simpa using h1) (by simpa using h2);rw[zzeh,zzeh,zzeh,zzeh,Xb,Xb,ih];split<;>simp
open Go Go.Abs
def abr(p:Pl)(id:Int):(∃(n k:Nat)(e:En),Ze id p.ens=some e/\p.ens[k]?=some e/\Xj [id] (bH iA (Dj p)) 0=some (n,I k))\/(Ze id p.ens=none/\Xj [id] (bH iA (Dj p)) 0=none):=by
 have key:∀(l:List En)(i:Nat),zR id l i=none->Ze id l=none:=by
  intro l;induction l with
  |nil=>intro i _;rfl
  |cons x r ih=>
   intro i h;rw[zR]at h;split at h
   ·cases h
   rename_i hn;rw[Ze,if_neg hn];exact ih _ h
 rcases Xr iA id (Dj p) 0 with⟨p1,p2,_⟩|⟨u,n,p1,p2,_⟩
 ·rw[uH]at p1;cases hx:zR id p.ens 0 with
  |none=>exact .inr ⟨key _ _ hx,p2⟩
  |some k=>rw[hx]at p1;cases p1
 rw[uH]at p1;cases hx:zR id p.ens 0 with
 |none=>rw[hx]at p1;cases p1
 |some k=>
  rw[hx]at p1;cases p1;obtain⟨_,e,h2,h3,h4⟩:=rF hx;rw[zzfg]at h2;exact .inl ⟨_,k,e,h4,h2,p2⟩
def ag6(pre post:List (List AV))(ls:List Nat)(b:Bd)(id:Int)(Y:YT)(K:AV->AM->Prop)(hK:∀ex,K (I (S4 b.p id:Nat)) (aP pre b (post++ex) ls)):
  an Tryz.prog az Y 228 [.ptr (pre.length+9) 0,I id] (aP pre b post ls) K:=by
 refine Xe adD (fun _ _ _=>.junk) (by simp) ?_;unfold S4 at hK;rcases abr b.p id with⟨n,k,e,he,hk,hp⟩|⟨he,hp⟩
 ·rw[he]at hK;simp only at hK;have oz:=(zza.1 hk).1;have zC:(k:Int)<(b.p.ens.length:Int):=by omega
  have xU:=Qdb hk;by_cases b1:e.bo=0
  ·rw[if_neg (by simp[b1])]at hK;rcases Qcz b.p e.it with⟨ni,y,hy,hi⟩|⟨hy,hi⟩
   ·rw[hy]at hK;simp only at hK;by_cases c1:y.ki=1
    ·rw[if_pos (.inl c1)]at hK;simp[vz,aP,aU,Qp,Qb,hp,oz,zC,xU,Qd,b1];refine Xu ?_;simp[vA,aP,aU,Qp,Qb,Qd,hi,rG,Qm,c1];simpa[aP,aU,Qp,Qb,Qm,Qd,b1,c1]using hK [Qd e,Qm y]
    by_cases c2:y.ki=4
    ·rw[if_pos (.inr c2)]at hK;simp[vz,aP,aU,Qp,Qb,hp,oz,zC,xU,Qd,b1];refine Xu ?_;simp[vA,aP,aU,Qp,Qb,Qd,hi,rG,Qm,c1,c2];simpa[aP,aU,Qp,Qb,Qm,Qd,b1,c1,c2]using hK [Qd e,Qm y]
    rw[if_neg (by rintro(h|h);exact c1 h;exact c2 h)]at hK;simp[vz,aP,aU,Qp,Qb,hp,oz,zC,xU,Qd,b1];refine Xu ?_;simp[vA,aP,aU,Qp,Qb,Qd,hi,rG,Qm,c1,c2];simpa[aP,aU,Qp,Qb,Qm,Qd,b1,c1,c2]using hK [Qd e,Qm y]
   rw[hy]at hK;simp only at hK;simp[vz,aP,aU,Qp,Qb,hp,oz,zC,xU,Qd,b1];refine Xu ?_;simp[vA,aP,aU,Qp,Qb,Qd,hi];simpa[aP,aU,Qp,Qb,Qd,b1]using hK [Qd e,[I 0,I 0,I 0,I 0,I 0]]
  rw[if_pos b1]at hK;simp[vz,vA,aP,aU,Qp,Qb,hp,oz,zC,xU,Qd,b1];simpa[aP,aU,Qp,Qb,Qd]using hK [Qd e]
 rw[he]at hK;simp only at hK;simp[vz,vA,aP,aU,Qp,Qb,hp];simpa[aP,aU,Qp,Qb]using hK []
def rS(n:Nat)(S:List Int):Rt:=if S=[]then .nil else .own n 1
def ou(S:List Int):List Nat:=if S=[]then[]else[S.length]
def auj(ids:List Int)(K:List Bool)(w:Bool)(m0:AM)(f:Nat->AV)(m:AM):Prop:=
 ∃(i:Nat),f 10=I i/\i<=ids.length/\f 5=.sl (rS m0.lens.length (Xb w (ids.take i) (K.take i))) ((Xb w (ids.take i) (K.take i)).map Qy)/\m={m0 with lens:=m0.lens++ou (Xb w (ids.take i) (K.take i))}
def S6(ids:List Int)(K:List Bool)(w:Bool)(hi:ids.length<=1000)(hk:K.length=ids.length)(m:AM)(ia ib kb:Nat)(h1:Qh m.boxes ia=[.sl .ro (ids.map Qy)])(h2:Qh m.boxes ib=[.bs kb 0 ids.length 1])(h3:Qh m.boxes kb=K.map .bool)
  (g1:ia<m.boxes.length)(g2:ib<m.boxes.length)(g3:kb<m.boxes.length)(Y:YT)(Q:AV->AM->Prop)(hQ:Q (.sl (rS m.lens.length (Xb w ids K)) ((Xb w ids K).map Qy)) {m with lens:=m.lens++ou (Xb w ids K)}):
  an Tryz.prog az Y 227 [.bool w,.ptr ia 0,.ptr ib 0] m Q:=by
 refine Xe adC (fun _ _ _=>.junk) (by simp) ?_;simp[U4,h1,g1];refine Qi vw (auj ids K w m) (fun f _=>ids.length-(numOf (f 10)).toNat) ?_ ?_
 ·exact⟨0,by simp,by omega,by simp[Xb,rS],by simp[Xb,ou]⟩
 rintro f m' ⟨i,fU,eS,h5,rfl⟩;rcases zzaa i ids.length with ai|bu
 ·obtain⟨id,hx⟩:=aS ai;obtain⟨k,hy⟩:∃x,K[i]?=some x:=⟨_,zzac (by omega)⟩;have ah:Qh (ids.map Qy) i=Qy id:=Qs (by simp[hx]);have bL:nth ((K.map AV.bool).drop i) 0=.bool k:=al0 (by simp[hy]);have wZ:min 1 (K.length-i)=1:=by omega
  have an0:i<K.length:=by omega
  have aa:(i:Int)<(ids.length:Int):=by omega
  have hw:=bJ i (by omega);have bB:=BJ (w:=w) hx hy
  have gP:(Xb w (ids.take i) (K.take i)).length<=1000:=by
   have:=(j8 w (ids.take i) (K.take i)).length_le;simp at this;omega
  obtain⟨S,hS⟩:∃S,Xb w (ids.take i) (K.take i)=S:=⟨_,rfl⟩;rw[hS]at h5 bB gP |-
  cases hc:(k==w)with
  |false=>
   rw[hc]at bB;have bB:Xb w (ids.take (i+1)) (K.take (i+1))=S:=by rw[bB];simp
   simp[fU,h5,ai,aa,an0,ah,Qy,vw,hw,hc,h2,h3,g2,g3,bL,wZ,show 1<=K.length-i by omega];refine⟨aO,⟨i+1,by simp,by omega,by rw[bB];simp[h5,Qy],by rw[bB]⟩,by omega⟩
  |true=>
   rw[hc]at bB;have bB:Xb w (ids.take (i+1)) (K.take (i+1))=S++[id]:=by rw[bB];simp
   by_cases hSe:S=[]
   ·subst hSe;simp only[rS,ou,if_true,zzcf,zzau]at h5 |-
    simp[fU,h5,ai,aa,an0,ah,Qy,vw,hw,hc,h2,h3,g2,g3,bL,wZ,show 1<=K.length-i by omega];refine⟨aO,⟨i+1,by simp,by omega,by rw[bB];simp[Qy,rS],by rw[bB];simp[ou]⟩,by omega⟩
   simp only[rS,ou,if_neg hSe]at h5 |-
   have cc:(m.lens++[S.length]).set m.lens.length (S.length+1)=m.lens++[S.length+1]:=by rw[List.set_append,if_neg (by omega)];simp
   simp[fU,h5,ai,aa,an0,ah,Qy,vw,hw,hc,h2,h3,g2,g3,bL,wZ,show 1<=K.length-i by omega];refine⟨⟨?_,by omega⟩,aO,⟨i+1,by simp,by omega,by rw[bB];simp[Qy,rS],by rw[bB];simp[ou]⟩,by omega⟩
   ·rintro row (⟨a,_,rfl⟩|rfl)<;>rfl
 have bI:¬(i:Int)<(ids.length:Int):=by omega
 rw[zzap (by omega),zzap (by omega)]at h5 |-
 simp[fU,h5,bI,zzbm.2 bu,vw,aio];exact hQ
open Go Go.Abs
def stF(ok:List Int->Bool)(rd:Int->Nat)(ids:List Int)(r:Nat):Nat->Nat->List Bool->List Bool
 |0,_,K=>K
 |n+1,i,K=>stF ok rd ids r n (i+1) (Jv ok rd ids r K i)
def S7(ok:List Int->Bool)(rd:Int->Nat)(ids:List Int)(r:Nat)(K:List Bool):Jb ok rd ids r K=stF ok rd ids r ids.length 0 K:=by
 have:∀(n i:Nat)(K:List Bool),(List.range' i n).foldl (Jv ok rd ids r) K=stF ok rd ids r n i K:=by
  intro n;induction n with
  |zero=>intro i K;rfl
  |succ n ih=>intro i K;rw[zzgx,zzcz,ih];rfl
 unfold Jb;rw[zzfv];exact this _ _ _
def abt{ok:List Int->Bool}{rd:Int->Nat}{ids:List Int}{r:Nat}{K:List Bool}{i:Nat}{id:Int}(h:ids[i]?=some id):Jv ok rd ids r K i=if rd id=r then K.set i (ok (Xb true ids (K.set i true)))else K:=by
 unfold Jv;rw[h]
def chF(ok:List Int->Bool)(rd:Int->Nat)(ids:List Int):Nat->Nat->List Bool->List Bool
 |0,_,K=>K
 |n+1,r,K=>chF ok rd ids n (r+1) (Jb ok rd ids r K)
def yX(p:Pl)(ids:List Int):List (List AV):=[Qb p,[.sl .ro (ids.map Qy)]]
def cS(E:List (List AV))(n:Nat)(K:List Bool)(ex:List (List AV)):List (List AV):=E++(K.map AV.bool::[.bs (E.length+12) 0 n 1]::ex)
def zf(p:Pl)(ids:List Int)(b:Bd)(E:List (List AV))(K:List Bool)(ex:List (List AV))(ls:List Nat):AM:=aP (yX p ids) b (cS E ids.length K ex) ls
def mh(b:Bd)(rv:List (Int×(Rt×List Sp)))(li:List (Int×Int))(pm:List ((Int×Int)×List Sp)):Bd:={b with rv:=rv,li:=li,pm:=pm}
def auk(p:Pl)(ids:List Int)(b:Bd)(E:List (List AV))(T:List Bool)(f:Nat->AV)(m:AM):Prop:=
 ∃(r:Nat)(K:List Bool)(rv:List (Int×(Rt×List Sp)))(li:List (Int×Int))(pm:List ((Int×Int)×List Sp))(ex:List (List AV))(ls:List Nat),f 36=I r/\r<=3/\K.length=ids.length/\chF (oA b) (S4 p) ids (3-r) r K=T/\Bl (mh b rv li pm)/\m=zf p ids (mh b rv li pm) E K ex ls
def aul(p:Pl)(ids:List Int)(b:Bd)(E:List (List AV))(r:Nat)(T:List Bool)(f:Nat->AV)(m:AM):Prop:=
 ∃(i:Nat)(K:List Bool)(rv:List (Int×(Rt×List Sp)))(li:List (Int×Int))(pm:List ((Int×Int)×List Sp))(ex:List (List AV))(ls:List Nat),f 41=I i/\i<=ids.length/\K.length=ids.length/\stF (oA b) (S4 p) ids r (ids.length-i) i K=T/\Bl (mh b rv li pm)/\m=zf p ids (mh b rv li pm) E K ex ls
def ax0(p:Pl)(ids:List Int)(b:Bd)(E:List (List AV))(K:List Bool)(ex:List (List AV))(ls:List Nat)(S:List Int)(v:AV)(m:AM):Prop:=
 ∃(a:AV)(rv:List (Int×(Rt×List Sp)))(li:List (Int×Int))(pm:List ((Int×Int)×List Sp))(eO:List (List AV))(exl:List Nat),v=.aW [a,.bool (oA b S)]/\Bl (mh b rv li pm)/\m=zf p ids (mh b rv li pm) E K (ex++eO) (ls++exl)
def kH:Nat->FuncId->List AV->AV:=fun d f _=>if f=999999 then(if d=34 then .aJ 0 []else .junk)else .gd false .junk
def abu{p:Pl}{ids:List Int}(hi:ids.length<=1000)(b:Bd)(E:List (List AV))(K:List Bool)(hk:K.length=ids.length)(ex:List (List AV))(ls:List Nat)(w:Bool)(Y:YT)(Q:AV->AM->Prop)
  (hQ:Q (.sl (rS ls.length (Xb w ids K)) ((Xb w ids K).map Qy)) (zf p ids b E K ex (ls++ou (Xb w ids K)))):
  an Tryz.prog az Y 227 [.bool w,.ptr 1 0,.ptr (E.length+13) 0] (zf p ids b E K ex ls) Q:=by
 refine S6 ids K w hi hk (zf p ids b E K ex ls) 1 (E.length+13) (E.length+12) ?_ ?_ ?_ ?_ ?_ ?_ Y Q hQ;all_goals simp[zf,aP,aU,yX,cS]
 all_goals omega
def qW(a:AV):∀n:Nat,bG n [a]=List.replicate n a
 |0=>rfl
 |n+1=>by rw[bG,qW a n];rfl
def abv{p:Pl}(h:PlK p){at_:Int}(ha:anj at_){past:List Ad}(hp:past.length<=1000)(pre post:List (List AV))(ls:List Nat)(rv:List (Int×(Rt×List Sp)))(li:List (Int×Int))(pm:List ((Int×Int)×List Sp))(hB:Bl (mh (gL p at_ past) rv li pm))
  (S:List Int)(hS:S.length<=1000)(rt0:Rt)(Y:YT)(K:AV->AM->Prop)
  (
   hK:∀a rv li pm ex exl,Bl (mh (gL p at_ past) rv li pm)->((Yq p at_ past S=none/\a=.sl .nil [])\/∃l rt,Yq p at_ past S=some l/\Dn 2 ls.length (ls++exl) rt l/\a=.sl rt (l.map Qe))->
   K (.aW [a,.bool (oA (gL p at_ past) S)]) (aP pre (mh (gL p at_ past) rv li pm) (post++ex) (ls++exl))):
  an Tryz.prog az Y 122 [.ptr (pre.length+9) 0,.sl rt0 (S.map Qy)] (aP pre (mh (gL p at_ past) rv li pm) post ls) K:=by
 have mN:=h.spn;obtain⟨l1,l2,l3,l4,l5,l6,l7,l8,l9,l10⟩:=h;have hU:=abp past;have hE:=abq p past;refine Qeb pre post ls (mh (gL p at_ past) rv li pm) S rt0 past.length (by omega) (by omega) (show p.cls.length<=1000000 by omega) (show p.sh.length<=1000000000 by omega) (show p.aL.length<=1000000000 by omega) (show p.ens.length<=1000000000 by omega) (show(Ub p).length<=1000000000 by omega) l7.2 (fun e he=>(l8 e he).2) ha.2 hU hE hB Y K (fun h0 rv li pm eO exl hB=>?_) (fun l h1 rv li pm eO exl JR hB K5=>?_)
 ·have h0:Yq p at_ past S=none:=h0;have:=hK (.sl .nil []) rv li pm eO exl hB (.inl ⟨h0,rfl⟩);rw[uX,h0]at this;exact this
 have h1:Yq p at_ past S=some l:=h1;have:=hK (.sl JR (l.map Qe)) rv li pm eO exl hB (.inr ⟨l,JR,h1,K5,rfl⟩);rw[uX,h1]at this;exact this
def qf(w:Bool)(ids:List Int)(K:List Bool):(Xb w ids K).length<=ids.length:=(j8 w ids K).length_le
def aaq{p:Pl}(h:PlK p){at_:Int}(ha:anj at_){past:List Ad}(hp:past.length<=1000){ids:List Int}(hi:ids.length<=1000):
  Pure Tryz.prog az 158 [.agg (Qb p),.sl .ro (ids.map Qy),I at_,.sl .ro (past.map Vi)] (Sl p at_ past ids):=by
 have Fa:=h;obtain⟨l1,l2,l3,l4,l5,l6,l7,l8,l9,l10⟩:=h;refine Qn acP kH (by simp) ?_;simp[Na,Qb,kH];have k41:=fun K'=>xR (yX p ids) [] p at_ past .ro (by omega) (by omega) (by omega) Y0 K';simp only[yX,Qb]at k41;refine k41 _ fun ex=>?_;clear k41;simp[kH,aP,aU,Qp,Qb];refine abv Fa ha hp (yX p ids) ex [] [] [] [] (anZ p at_ past) ids hi .ro Y0 _ (fun a rv li pm eO exl hB hr=>?_);obtain⟨h0,rfl⟩|⟨l,rt,h1,hO,rfl⟩:=hr
 ·have bQ:oA (gL p at_ past) ids=false:=by rw[uX,h0];rfl
  rw[bQ];obtain⟨E,hE⟩:∃E,ex++eO=E:=⟨_,rfl⟩;rw[hE];simp[kH,aP,aU,Qp,yX,Qb,mh,gL];refine⟨by omega,?_⟩;refine Qi BU (auk p ids (gL p at_ past) E (Kq p at_ past ids)) (fun f _=>(3-numOf (f 36)).toNat) ?_ ?_
  ·exact⟨0,List.replicate ids.length false,rv,li,pm,[],exl,by simp,by omega,by simp,rfl,hB,by simp[zf,aP,aU,Qp,yX,cS,Qb,mh,gL,qW]⟩
  clear hB;rintro f m ⟨r,K,rv,li,pm,y8,ls,h36,Tz,hK,hT,hB,rfl⟩;rcases zzaa r 3 with rlt|rge
  ·have ax1:(r:Int)<3:=by omega
   have pG:=bJ r (by omega);obtain⟨n,hn⟩:∃n,3-r=n+1:=⟨2-r,by omega⟩;rw[hn,chF]at hT;obtain⟨T,hTr⟩:∃T,Jb (oA (gL p at_ past)) (S4 p) ids r K=T:=⟨_,rfl⟩;rw[hTr]at hT;rw[S7]at hTr;simp[h36,rlt,ax1,BU,zf,aP,aU,yX,cS,mh,gL];refine Qi JF (aul p ids (gL p at_ past) E r T) (fun f _=>ids.length-(numOf (f 41)).toNat) ?_ ?_
   ·exact⟨0,K,rv,li,pm,y8,ls,by simp,by omega,hK,by simpa using hTr,hB,by simp[zf,aP,aU,yX,cS,mh,gL]⟩
   clear hTr hK hB;rintro g m ⟨i,K,rv,li,pm,y8,ls,g41,eS,hK,hTi,hB,rfl⟩;rcases zzaa i ids.length with ai|bu
   ·obtain⟨id,hx⟩:=aS ai;have ah:Qh (ids.map Qy) i=Qy id:=Qs (by simp[hx]);have aa:(i:Int)<(ids.length:Int):=by omega
    have hw:=bJ i (by omega);obtain⟨n2,qL⟩:∃n2,ids.length-i=n2+1:=⟨ids.length-i-1,by omega⟩;have hn3:ids.length-(i+1)=n2:=by omega
    rw[qL,stF,abt hx]at hTi;simp[g41,ai,aa,ah,Qy,JF,zf,aP,aU,yX,cS,mh,gL,kH];refine ag6 (yX p ids) (cS E ids.length K y8) ls (mh (gL p at_ past) rv li pm) id Y0 _ (fun exr=>?_);have hpb:(mh (gL p at_ past) rv li pm).p=p:=rfl;rw[hpb];by_cases fB:S4 p id=r
    ·rw[if_pos fB]at hTi;have an1:((S4 p id:Nat):Int)=(r:Int):=by omega
     have hms:(K.map AV.bool).set i (.bool true)=(K.set i true).map AV.bool:=by rw[zzfi]
     simp[an1,aP,aU,yX,cS,mh,gL,kH];refine⟨ai,by omega,?_⟩;rw[hms];obtain⟨S,hS⟩:∃S,Xb true ids (K.set i true)=S:=⟨_,rfl⟩;have hSl:S.length<=1000:=by have:=qf true ids (K.set i true);rw[hS]at this;omega
     have hK2:(K.set i true).length=ids.length:=by simpa using hK
     rw[hS]at hTi;obtain⟨ok,agy⟩:∃ok,oA (gL p at_ past) S=ok:=⟨_,rfl⟩;rw[agy]at hTi
     refine XR rfl [(.sl (rS ls.length S) (S.map Qy),zf p ids (mh (gL p at_ past) rv li pm) E (K.set i true) (y8++exr) (ls++ou S))] (ax0 p ids (gL p at_ past) E (K.set i true) (y8++exr) (ls++ou S) S)
      ⟨(.aW [.sl .nil [],.bool (oA (gL p at_ past) S)],zf p ids (mh (gL p at_ past) rv li pm) E (K.set i true) ((y8++exr)++[]) ((ls++ou S)++[])),.sl .nil [],rv,li,pm,[],[],rfl,hB,rfl⟩ (fun v m' hv=>?_)
     obtain⟨a,rv2,sR,Oz,IQ,an2,rfl,ri,rfl⟩:=hv;rw[agy];simp[zf,aP,aU,yX,cS,mh,gL,kH,hw];rw[hms];have ayz:(K.map AV.bool).set i (.bool ok)=(K.set i ok).map AV.bool:=by rw[zzfi]
     refine⟨?_,?_,ai,by omega,aO,⟨i+1,K.set i ok,rv2,sR,Oz,(y8++exr)++IQ,ls++ou S++an2,by simp,by omega,by simpa using hK,by rw[hn3];exact hTi,ri,by simp[zf,aP,aU,yX,cS,mh,gL]⟩,by simp[g41];omega⟩
     ·refine abu (p:=p) hi (mh (gL p at_ past) rv li pm) E (K.set i true) hK2 (y8++exr) ls true Y0 _ ?_;rw[hS];exact⟨rfl,rfl⟩
     refine abv Fa ha hp (yX p ids) (cS E ids.length (K.set i true) (y8++exr)) (ls++ou S) rv li pm hB S hSl _ Y0 _ (fun a rv li pm ex exl hB _=>⟨a,rv,li,pm,ex,exl,rfl,hB,by simp[zf,cS];rfl⟩)
    rw[if_neg fB]at hTi;have an1:¬((S4 p id:Nat):Int)=(r:Int):=by omega
    simp[an1,aP,aU,yX,cS,mh,gL,kH,hw];refine⟨aO,⟨i+1,K,rv,li,pm,y8++exr,ls,by simp,by omega,hK,by rw[hn3];exact hTi,hB,by simp[zf,aP,aU,yX,cS,mh,gL]⟩,by omega⟩
   have bI:¬(i:Int)<(ids.length:Int):=by omega
   have hz:ids.length-i=0:=by omega
   rw[hz,stF]at hTi;subst hTi;simp[g41,bI,zzbm.2 bu,JF,BU,h36,zf,aP,aU,yX,cS,mh,gL,pG];refine⟨aO,⟨r+1,K,rv,li,pm,y8,ls,by simp,by omega,hK,by rw[show 3-(r+1)=n by omega];exact hT,hB,by simp[zf,aP,aU,yX,cS,mh,gL]⟩,by omega⟩
  have rin:¬(r:Int)<3:=by omega
  obtain rfl:r=3:=by omega
  have hT:K=Kq p at_ past ids:=hT;subst hT;obtain⟨ka,kb,kc⟩:=My p at_ past ids;obtain⟨L,hL⟩:=zzcj.1 kb;simp[h36,BU,zf,aP,aU,yX,cS,mh,gL,kH];refine abu (p:=p) hi (mh (gL p at_ past) rv li pm) E (Kq p at_ past ids) ka y8 ls true Y0 _ ?_;obtain⟨S,hS⟩:∃S,Xb true ids (Kq p at_ past ids)=S:=⟨_,rfl⟩;have hSl:S.length<=1000:=by have:=qf true ids (Kq p at_ past ids);rw[hS]at this;omega
  have hr:Sl p at_ past ids=.aW [IT L,Hp (Xb false ids (Kq p at_ past ids))]:=by rw[Sl,hL];rfl
  rw[hr];rw[hS]at hL |-
  simp[zf,aP,aU,yX,cS,mh,gL,kH];refine abv Fa ha hp (yX p ids) (cS E ids.length (Kq p at_ past ids) y8) (ls++ou S) rv li pm hB S hSl _ Y0 _ (fun a rv li pm IQ an2 hB hv=>?_);obtain⟨h0,_⟩|⟨l,rt,h1,hO,rfl⟩:=hv
  ·rw[hL]at h0;cases h0
  rw[hL]at h1;cases h1;simp[zf,aP,aU,yX,cS,mh,gL,kH];refine abu (p:=p) hi (mh (gL p at_ past) rv li pm) E (Kq p at_ past ids) ka (y8++IQ) (ls++(ou S++an2)) false Y0 _ ?_;obtain⟨D,hD⟩:∃D,Xb false ids (Kq p at_ past ids)=D:=⟨_,rfl⟩;rw[hD];by_cases hDe:D=[]
  ·subst hDe;obtain⟨rfl,rfl⟩|⟨k2,rfl,_,_,aK⟩:=hO
   ·simp[vi,IT,Hp,rS]
   simp[vi,IT,Hp,rS,aK]
  obtain⟨rfl,rfl⟩|⟨k2,rfl,_,_,aK⟩:=hO
  ·simp[vi,IT,Hp,rS,hDe]
  simp[vi,IT,Hp,rS,hDe,aK]
 have bQ:oA (gL p at_ past) ids=true:=by rw[uX,h1];rfl
 obtain⟨cV,dw⟩:=S5 p at_ past ids (by rw[h1];rfl);have hr:Sl p at_ past ids=.aW [IT l,.sl .nil []]:=by rw[Sl,cV,dw,h1];rfl
 rw[bQ,hr];obtain⟨rfl,rfl⟩|⟨k2,rfl,_,_,aK⟩:=hO
 ·simp[vi,IT]
 simp[vi,IT,aK]
end Go.Proofs.YtnopaopphmjnmaaGreatDoor
