import Derived.Test.YtnopaopphmjnmaaGreatDoorMDMcY
set_option linter.all false
set_option maxRecDepth 100000
set_option maxHeartbeats 64000000
namespace Go.Proofs.YtnopaopphmjnmaaGreatDoor
open Go Go.Abs
def ME(p:Pl)(e:En)(f:Int):Option Int:=
 if e.fr<1\/1000000<e.fr\/p.ln<e.fr then none else
 if max f 0<1000000/\0<=mH p e/\mH p e<1000000 then(match lR (Xw p e.it 0) (max f 0) e.fr with
  |none=>none
  |some s=>if mH p e<s then none else some s)else Vz p e f
def SV(p:Pl)(e:En)(f:Int):ME p e f=Vz p e f:=by
 unfold ME;split
 ·rename_i h;rw[Vz,if_pos h]
 rename_i h;split
 ·rename_i h2;rw[Vz,if_neg h];have hz:(max f 0).tdiv 1000000=0:=Int.tdiv_eq_zero_of_lt (by omega) (by omega);rw[hz]
  conv=>rhs;unfold Tq
  rw[if_pos (by omega)];cases lR (Xw p e.it 0) (max f 0) e.fr with
  |none=>
   simp only;unfold Tq;rw[if_neg (by omega)]
  |some s=>rfl
 rfl
def aoZ(p:Pl):List Int->List (Int×Int)->List (Int×Int)->Int->Int->Option (List Sp)
 |[],_,_,_,_=>some []
 |id::r,us,en,free,last=>match zI id p.ens 0 with
  |none=>none
  |some k=>if(k:Int)<=last then none else match p.ens[k]? with
   |none=>none
   |some e=>if Wn p e.it≠ -1/\Wn p e.it<=(af e.it us).getD 0 then none else
    match ME p e (Uh en (Kq p e.it) (max e.ea free))with
    |none=>none
    |some s=>match aoZ p r (Vr us e.it) (Zl p en e.it (s+e.fr)) (s+e.fr) k with
     |none=>none
     |some l=>some ((id,s)::l)
def DK(p:Pl):∀(ids:List Int)(us en:List (Int×Int))(free last:Int),aoZ p ids us en free last=Uy p ids us en free last
 |[],_,_,_,_=>rfl
 |id::r,us,en,free,last=>by
  rw[aoZ,Uy];simp only[SV,DK p r];rfl
open Go Go.Abs
def an9(n:Int):Prop:= -9223372036854775808<=n/\n<=9223372036854775807
structure Ca where
 p:Pl
 ids:List Int
 wh:Int
 at_:Int
 past:List Ad
structure PlK (p:Pl):Prop where
 cls:p.cls.length<=1000
 sh:p.sh.length<=1000
 aL:p.aL.length<=1000
 ens:p.ens.length<=1000
 bks:p.bks.length<=1000
 als:∀e∈p.ens,e.al.length<=1000
 ln: -9223372036854775808<=p.ln/\p.ln<=9223372036854775807
 ea:∀e∈p.ens,-9223372036854775808<=e.ea/\e.ea<=9223372036854775807
 la:∀e∈p.ens,-9223372036854775808<=e.la/\e.la<=9223372036854775807
 fr:∀e∈p.ens,-9223372036854775808<=e.fr/\e.fr<=2000
def PlK.spn{p:Pl}(h:PlK p):(Yy p).length<=1000:=by
 have:=pM p.aL [] [];have:=h.aL;simp only[Yy];simp at*;omega
def HY:∀(l:List Ad)(us:List (Int×Int))(n:Int),0<=n->pL n us->pL (n+l.length) (Oz l us)
 |[],us,n,_,h=>by simpa[Oz]using h
 |a::r,us,n,hn,h=>by
  rw[Oz]
  have h1:pL (n+1) (if rz a=true then Vr us a.it else us):=by
   split
   ·exact h.note hn a.it
   exact fun k v hk=>by have:=h k v hk;omega
  have h2:=HY r _ (n+1) (by omega) h1;have:n+((a::r).length:Int)=n+1+(r.length:Int):=by simp;omega
  rw[this];exact h2
def HZ(p:Pl):∀(l:List Ad)(en:List (Int×Int)),tU en->tU (OA p l en)
 |[],en,h=>by simpa[OA]using h
 |a::r,en,h=>by
  rw[OA];refine HZ p r _ ?_;cases hc:rz a with
  |false=>simpa[hc]using h
  |true=>
   simp only[if_true];refine h.note a.it _ ?_;simp[rz]at hc;omega
open Go Go.Abs
def Hr(l:List Int):AV:=if l=[]then .sl .nil []else .sl .ro (l.map Qy)
def iI(p:Pl)(at_:Int)(past:List Ad):Bd:=⟨p,at_,Oz past [],OA p past [],[],[],[]⟩
def ao0(p:Pl)(at_:Int)(past:List Ad):Bc (iI p at_ past):=⟨fun _ _ h=>(by cases h),fun _ _ h=>(by cases h),fun _ _ h=>(by cases h)⟩
def SX(p:Pl)(id:Int):Nat:=match Zf id p.ens with
 |none=>2
 |some e=>if e.bo≠0 then 0 else match Xg e.it p.aL with
  |none=>2
  |some x=>if x.ki=1\/x.ki=4 then 1 else 2
def Kn(p:Pl)(at_:Int)(past:List Ad)(ids:List Int):List Bool:=Jj (om (iI p at_ past)) (SX p) ids
def Sk(p:Pl)(at_:Int)(past:List Ad)(ids:List Int):AV:=
 .aU [II ((Yn p at_ past (Xc true ids (Kn p at_ past ids))).getD []),Hr (Xc false ids (Kn p at_ past ids))]
theorem uL(p:Pl)(at_:Int)(past:List Ad)(ids:List Int):om (iI p at_ past) ids=(Yn p at_ past ids).isSome:=rfl
def abx(p:Pl)(id:Int):SX p id<=2:=by
 unfold SX;cases Zf id p.ens with
 |none=>exact zzab _
 |some e=>
  simp only;split
  ·omega
  cases Xg e.it p.aL with
  |none=>exact zzab _
  |some x=>simp only;split<;>omega
def MF(p:Pl)(at_:Int)(past:List Ad)(ids:List Int):(Kn p at_ past ids).length=ids.length/\(Yn p at_ past (Xc true ids (Kn p at_ past ids))).isSome=true/\
  ∀(j:Nat)(id:Int),ids[j]?=some id->(Kn p at_ past ids).getD j false=true\/(Yn p at_ past (Xc true ids ((Kn p at_ past ids).set j true))).isSome=false:=
 tc (HW _) (Px _) (SX p) ids fun id _=>abx p id
def SY(p:Pl)(at_:Int)(past:List Ad)(ids:List Int)(h:(Yn p at_ past ids).isSome=true):Xc true ids (Kn p at_ past ids)=ids/\Xc false ids (Kn p at_ past ids)=[]:=
 Mr (HW _) (Px _) (SX p) ids (fun id _=>abx p id) h
open Go Go.Abs
open Go Go.Abs
def aby(past:List Ad):pL (past.length:Int) (Oz past []):=by
 have h:=HY past [] 0 (by omega) (fun k v h=>by cases h);rwa [Int.zero_add]at h
def abz(p:Pl)(past:List Ad):tU (OA p past []):=HZ p past [] (fun k v h=>by cases h)
open Go Go.Abs
open Go Go.Abs
open Go Go.Abs
def ami(p:Pl)(id:Int):Int:=match zI id p.ens 0 with
 |none=> -1
 |some k=>(k:Int)
open Go Go.Abs
open Go Go.Abs
open Go Go.Abs
def BI{w:Bool}:∀{ids:List Int}{K:List Bool}{i:Nat}{id:Int}{k:Bool},ids[i]?=some id->K[i]?=some k->Xc w (ids.take (i+1)) (K.take (i+1))=Xc w (ids.take i) (K.take i)++if(k==w)=true then[id]else[]
 |[],_,_,_,_,h,_=>by simp at h
 |_::_,[],_,_,_,_,h=>by simp at h
 |x::r,y::ks,0,id,k,h1,h2=>by
  simp at h1 h2;subst h1;subst h2;simp[Xc]
 |x::r,y::ks,i+1,id,k,h1,h2=>by
  have ih:=BI (w:=w) (ids:=r) (K:=ks) (i:=i) (by simpa using h1) (by simpa using h2);rw[zzeh,zzeh,zzeh,zzeh,Xc,Xc,ih];split<;>simp
open Go Go.Abs
def abA(p:Pl)(id:Int):(∃(n k:Nat)(e:En),Zf id p.ens=some e/\p.ens[k]?=some e/\Xh [id] (bI iA (Da p)) 0=some (n,I k))\/(Zf id p.ens=none/\Xh [id] (bI iA (Da p)) 0=none):=by
 have key:∀(l:List En)(i:Nat),zI id l i=none->Zf id l=none:=by
  intro l;induction l with
  |nil=>intro i _;rfl
  |cons x r ih=>
   intro i h;rw[zI]at h;split at h
   ·cases h
   rename_i hn;rw[Zf,if_neg hn];exact ih _ h
 rcases Xp iA id (Da p) 0 with⟨p1,p2,_⟩|⟨u,n,p1,p2,_⟩
 ·rw[uz]at p1;cases hx:zI id p.ens 0 with
  |none=>exact .inr ⟨key _ _ hx,p2⟩
  |some k=>rw[hx]at p1;cases p1
 rw[uz]at p1;cases hx:zI id p.ens 0 with
 |none=>rw[hx]at p1;cases p1
 |some k=>
  rw[hx]at p1;cases p1;obtain⟨_,e,h2,h3,h4⟩:=rA hx;rw[zzfb]at h2;exact .inl ⟨_,k,e,h4,h2,p2⟩
def ahq(pre post:List (List AV))(ls:List Nat)(b:Bd)(id:Int)(Y:YT)(K:AV->AM->Prop)(hK:∀ex,K (I (SX b.p id:Nat)) (aR pre b (post++ex) ls)):
  an Tryz.prog aq Y 228 [.ptr (pre.length+9) 0,I id] (aR pre b post ls) K:=by
 refine Xe ad0 (fun _ _ _=>.junk) (by simp) ?_;unfold SX at hK;rcases abA b.p id with⟨n,k,e,he,hk,hp⟩|⟨he,hp⟩
 ·rw[he]at hK;simp only at hK;have zj:=(zza.1 hk).1;have zo:(k:Int)<(b.p.ens.length:Int):=by omega
  have xG:=Qcv hk;by_cases b1:e.bo=0
  ·rw[if_neg (by simp[b1])]at hK;rcases Qct b.p e.it with⟨ni,y,hy,hi⟩|⟨hy,hi⟩
   ·rw[hy]at hK;simp only at hK;by_cases c1:y.ki=1
    ·rw[if_pos (.inl c1)]at hK;simp[vk,aR,bq,Qq,Qc,hp,zo,xG,Qd,b1];refine Xz ?_;simp[vl,hi,rB,Qm,c1];simpa[aR,bq,Qq,Qc,Qm,Qd,b1,c1]using hK [Qd e,Qm y]
    by_cases c2:y.ki=4
    ·rw[if_pos (.inr c2)]at hK;simp[vk,aR,bq,Qq,Qc,hp,zo,xG,Qd,b1];refine Xz ?_;simp[vl,hi,rB,Qm,c2];simpa[aR,bq,Qq,Qc,Qm,Qd,b1,c1,c2]using hK [Qd e,Qm y]
    rw[if_neg (by rintro(h|h);exact c1 h;exact c2 h)]at hK;simp[vk,aR,bq,Qq,Qc,hp,zo,xG,Qd,b1];refine Xz ?_;simp[vl,hi,rB,Qm,c1,c2];simpa[aR,bq,Qq,Qc,Qm,Qd,b1,c1,c2]using hK [Qd e,Qm y]
   rw[hy]at hK;simp only at hK;simp[vk,aR,bq,Qq,Qc,hp,zo,xG,Qd,b1];refine Xz ?_;simp[vl,hi];simpa[aR,bq,Qq,Qc,Qd,b1]using hK [Qd e,[I 0,I 0,I 0,I 0,I 0]]
  rw[if_pos b1]at hK;simp[vk,vl,aR,bq,Qq,Qc,hp,zo,xG,Qd,b1];simpa[aR,bq,Qq,Qc,Qd]using hK [Qd e]
 rw[he]at hK;simp only at hK;simp[vk,vl,aR,bq,Qq,Qc,hp];simpa[aR,bq,Qq,Qc]using hK []
def rO(n:Nat)(S:List Int):Rt:=if S=[]then .nil else .own n 1
def nY(S:List Int):List Nat:=if S=[]then[]else[S.length]
def avm(ids:List Int)(K:List Bool)(w:Bool)(m0:AM)(f:Nat->AV)(m:AM):Prop:=
 ∃(i:Nat),f 10=I i/\i<=ids.length/\f 5=.sl (rO m0.lens.length (Xc w (ids.take i) (K.take i))) ((Xc w (ids.take i) (K.take i)).map Qy)/\m={m0 with lens:=m0.lens++nY (Xc w (ids.take i) (K.take i))}
def SZ(ids:List Int)(K:List Bool)(w:Bool)(hi:ids.length<=1000)(hk:K.length=ids.length)(m:AM)(ia ib kb:Nat)(h1:Qh m.boxes ia=[.sl .ro (ids.map Qy)])(h2:Qh m.boxes ib=[.bs kb 0 ids.length 1])(h3:Qh m.boxes kb=K.map .bool)
  (g1:ia<m.boxes.length)(g2:ib<m.boxes.length)(g3:kb<m.boxes.length)(Y:YT)(Q:AV->AM->Prop)(hQ:Q (.sl (rO m.lens.length (Xc w ids K)) ((Xc w ids K).map Qy)) {m with lens:=m.lens++nY (Xc w ids K)}):
  an Tryz.prog aq Y 227 [.bool w,.ptr ia 0,.ptr ib 0] m Q:=by
 refine Xe adZ (fun _ _ _=>.junk) (by simp) ?_;simp[VC,h1];refine Qi vj (avm ids K w m) (fun f _=>ids.length-(numOf (f 10)).toNat) ?_ ?_
 ·exact⟨0,by simp,by omega,by simp[Xc,rO],by simp[Xc,nY]⟩
 rintro f m' ⟨i,kS,gL,h5,rfl⟩;rcases zzaa i ids.length with ai|bw
 ·obtain⟨id,hx⟩:=aP ai;obtain⟨k,hy⟩:∃x,K[i]?=some x:=⟨_,zzad (by omega)⟩;have aa:Qh (ids.map Qy) i=Qy id:=Qr (by simp[hx]);have bK:nth ((K.map AV.bool).drop i) 0=.bool k:=amK (by simp[hy]);have FL:min 1 (K.length-i)=1:=by omega
  have azE:i<K.length:=by omega
  have ah:(i:Int)<(ids.length:Int):=by omega
  have hw:=bH i (by omega);have bA:=BI (w:=w) hx hy
  have r8:(Xc w (ids.take i) (K.take i)).length<=1000:=by
   have:=(j9 w (ids.take i) (K.take i)).length_le;simp at this;omega
  obtain⟨S,hS⟩:∃S,Xc w (ids.take i) (K.take i)=S:=⟨_,rfl⟩;rw[hS]at h5 bA r8 |-
  cases hc:(k==w)with
  |false=>
   rw[hc]at bA;have bA:Xc w (ids.take (i+1)) (K.take (i+1))=S:=by rw[bA];simp
   simp[kS,h5,ah,aa,Qy,vj,hw,hc,h2,h3,bK,FL];refine⟨aN,⟨i+1,by simp,by omega,by rw[bA];simp,by rw[bA]⟩,by omega⟩
  |true=>
   rw[hc]at bA;have bA:Xc w (ids.take (i+1)) (K.take (i+1))=S++[id]:=by rw[bA];simp
   by_cases hSe:S=[]
   ·subst hSe;simp only[rO,nY,if_true,zzce,zzat]at h5 |-
    simp[kS,h5,ah,aa,Qy,vj,hw,hc,h2,h3,bK,FL];refine⟨aN,⟨i+1,by simp,by omega,by rw[bA];simp[Qy,rO],by rw[bA];simp[nY]⟩,by omega⟩
   simp only[rO,nY,if_neg hSe]at h5 |-
   have cc:(m.lens++[S.length]).set m.lens.length (S.length+1)=m.lens++[S.length+1]:=by rw[List.set_append,if_neg (by omega)];simp
   simp[kS,h5,ah,aa,Qy,vj,hw,hc,h2,h3,bK,FL];refine⟨⟨?_,by omega⟩,aN,⟨i+1,by simp,by omega,by rw[bA];simp[Qy,rO],by rw[bA];simp[nY]⟩,by omega⟩
   ·rintro row (⟨a,_,rfl⟩|rfl)<;>rfl
 have bJ:¬(i:Int)<(ids.length:Int):=by omega
 rw[zzam (by omega),zzam (by omega)]at h5 |-
 simp[kS,h5,bJ,vj,aiY];exact hQ
open Go Go.Abs
def stF(ok:List Int->Bool)(rd:Int->Nat)(ids:List Int)(r:Nat):Nat->Nat->List Bool->List Bool
 |0,_,K=>K
 |n+1,i,K=>stF ok rd ids r n (i+1) (Jq ok rd ids r K i)
def S0(ok:List Int->Bool)(rd:Int->Nat)(ids:List Int)(r:Nat)(K:List Bool):Ja ok rd ids r K=stF ok rd ids r ids.length 0 K:=by
 have:∀(n i:Nat)(K:List Bool),(List.range' i n).foldl (Jq ok rd ids r) K=stF ok rd ids r n i K:=by
  intro n;induction n with
  |zero=>intro i K;rfl
  |succ n ih=>intro i K;rw[zzgm,zzcx,ih];rfl
 unfold Ja;rw[zzfn];exact this _ _ _
def abB{ok:List Int->Bool}{rd:Int->Nat}{ids:List Int}{r:Nat}{K:List Bool}{i:Nat}{id:Int}(h:ids[i]?=some id):Jq ok rd ids r K i=if rd id=r then K.set i (ok (Xc true ids (K.set i true)))else K:=by
 unfold Jq;rw[h]
def chF(ok:List Int->Bool)(rd:Int->Nat)(ids:List Int):Nat->Nat->List Bool->List Bool
 |0,_,K=>K
 |n+1,r,K=>chF ok rd ids n (r+1) (Ja ok rd ids r K)
def yN(p:Pl)(ids:List Int):List (List AV):=[Qc p,[.sl .ro (ids.map Qy)]]
def cU(E:List (List AV))(n:Nat)(K:List Bool)(ex:List (List AV)):List (List AV):=E++(K.map AV.bool::[.bs (E.length+12) 0 n 1]::ex)
def zS(p:Pl)(ids:List Int)(b:Bd)(E:List (List AV))(K:List Bool)(ex:List (List AV))(ls:List Nat):AM:=aR (yN p ids) b (cU E ids.length K ex) ls
def lV(b:Bd)(rv:List (Int×(Rt×List Sp)))(li:List (Int×Int))(pm:List ((Int×Int)×List Sp)):Bd:={b with rv:=rv,li:=li,pm:=pm}
def avn(p:Pl)(ids:List Int)(b:Bd)(E:List (List AV))(T:List Bool)(f:Nat->AV)(m:AM):Prop:=
 ∃(r:Nat)(K:List Bool)(rv:List (Int×(Rt×List Sp)))(li:List (Int×Int))(pm:List ((Int×Int)×List Sp))(ex:List (List AV))(ls:List Nat),f 36=I r/\r<=3/\K.length=ids.length/\chF (om b) (SX p) ids (3-r) r K=T/\Bc (lV b rv li pm)/\m=zS p ids (lV b rv li pm) E K ex ls
def avo(p:Pl)(ids:List Int)(b:Bd)(E:List (List AV))(r:Nat)(T:List Bool)(f:Nat->AV)(m:AM):Prop:=
 ∃(i:Nat)(K:List Bool)(rv:List (Int×(Rt×List Sp)))(li:List (Int×Int))(pm:List ((Int×Int)×List Sp))(ex:List (List AV))(ls:List Nat),f 41=I i/\i<=ids.length/\K.length=ids.length/\stF (om b) (SX p) ids r (ids.length-i) i K=T/\Bc (lV b rv li pm)/\m=zS p ids (lV b rv li pm) E K ex ls
def ay5(p:Pl)(ids:List Int)(b:Bd)(E:List (List AV))(K:List Bool)(ex:List (List AV))(ls:List Nat)(S:List Int)(v:AV)(m:AM):Prop:=
 ∃(a:AV)(rv:List (Int×(Rt×List Sp)))(li:List (Int×Int))(pm:List ((Int×Int)×List Sp))(eD:List (List AV))(exl:List Nat),v=.aU [a,.bool (om b S)]/\Bc (lV b rv li pm)/\m=zS p ids (lV b rv li pm) E K (ex++eD) (ls++exl)
def Py:Nat->FuncId->List AV->AV:=fun d f _=>if f=999999 then(if d=34 then .aK 0 []else .junk)else .gd false .junk
def abC{p:Pl}{ids:List Int}(hi:ids.length<=1000)(b:Bd)(E:List (List AV))(K:List Bool)(hk:K.length=ids.length)(ex:List (List AV))(ls:List Nat)(w:Bool)(Y:YT)(Q:AV->AM->Prop)
  (hQ:Q (.sl (rO ls.length (Xc w ids K)) ((Xc w ids K).map Qy)) (zS p ids b E K ex (ls++nY (Xc w ids K)))):
  an Tryz.prog aq Y 227 [.bool w,.ptr 1 0,.ptr (E.length+13) 0] (zS p ids b E K ex ls) Q:=by
 refine SZ ids K w hi hk (zS p ids b E K ex ls) 1 (E.length+13) (E.length+12) ?_ ?_ ?_ ?_ ?_ ?_ Y Q hQ;all_goals simp[zS,aR,bq,yN,cU]
 all_goals omega
def qU(a:AV):∀n:Nat,bG n [a]=List.replicate n a
 |0=>rfl
 |n+1=>by rw[bG,qU a n];rfl
def abD{p:Pl}(h:PlK p){at_:Int}(ha:an9 at_){past:List Ad}(hp:past.length<=1000)(pre post:List (List AV))(ls:List Nat)(rv:List (Int×(Rt×List Sp)))(li:List (Int×Int))(pm:List ((Int×Int)×List Sp))(hB:Bc (lV (iI p at_ past) rv li pm))
  (S:List Int)(hS:S.length<=1000)(rt0:Rt)(Y:YT)(K:AV->AM->Prop)
  (
   hK:∀a rv li pm ex exl,Bc (lV (iI p at_ past) rv li pm)->((Yn p at_ past S=none/\a=.sl .nil [])\/∃l rt,Yn p at_ past S=some l/\De 2 ls.length (ls++exl) rt l/\a=.sl rt (l.map Qe))->
   K (.aU [a,.bool (om (iI p at_ past) S)]) (aR pre (lV (iI p at_ past) rv li pm) (post++ex) (ls++exl))):
  an Tryz.prog aq Y 122 [.ptr (pre.length+9) 0,.sl rt0 (S.map Qy)] (aR pre (lV (iI p at_ past) rv li pm) post ls) K:=by
 have mD:=h.spn;obtain⟨l1,l2,l3,l4,l5,l6,l7,l8,l9,l10⟩:=h;have hU:=aby past;have hE:=abz p past;refine Qdt pre post ls (lV (iI p at_ past) rv li pm) S rt0 past.length (by omega) (by omega) (show p.cls.length<=1000000 by omega) (show p.sh.length<=1000000000 by omega) (show p.aL.length<=1000000000 by omega) (show p.ens.length<=1000000000 by omega) (show(Yy p).length<=1000000000 by omega) l7.2 (fun e he=>(l8 e he).2) ha.2 hU hE hB Y K (fun h0 rv li pm eD exl hB=>?_) (fun l h1 rv li pm eD exl JX hB F7=>?_)
 ·have h0:Yn p at_ past S=none:=h0;have:=hK (.sl .nil []) rv li pm eD exl hB (.inl ⟨h0,rfl⟩);rw[uL,h0]at this;exact this
 have h1:Yn p at_ past S=some l:=h1;have:=hK (.sl JX (l.map Qe)) rv li pm eD exl hB (.inr ⟨l,JX,h1,F7,rfl⟩);rw[uL,h1]at this;exact this
def p6(w:Bool)(ids:List Int)(K:List Bool):(Xc w ids K).length<=ids.length:=(j9 w ids K).length_le
def aaD{p:Pl}(h:PlK p){at_:Int}(ha:an9 at_){past:List Ad}(hp:past.length<=1000){ids:List Int}(hi:ids.length<=1000):
  Pure Tryz.prog aq 158 [.agg (Qc p),.sl .ro (ids.map Qy),I at_,.sl .ro (past.map Vh)] (Sk p at_ past ids):=by
 have Fb:=h;obtain⟨l1,l2,l3,l4,l5,l6,l7,l8,l9,l10⟩:=h;refine Qn ac9 Py (by simp) ?_;simp[Nh,Qc,Py];have k41:=fun K'=>xE (yN p ids) [] p at_ past .ro (by omega) (by omega) (by omega) Y0 K';simp only[yN,Qc]at k41;refine k41 _ fun ex=>?_;clear k41;simp[aR,bq,Qq,Qc];refine abD Fb ha hp (yN p ids) ex [] [] [] [] (ao0 p at_ past) ids hi .ro Y0 _ (fun a rv li pm eD exl hB hr=>?_);obtain⟨h0,rfl⟩|⟨l,rt,h1,hO,rfl⟩:=hr
 ·have bT:om (iI p at_ past) ids=false:=by rw[uL,h0];rfl
  rw[bT];obtain⟨E,hE⟩:∃E,ex++eD=E:=⟨_,rfl⟩;rw[hE];simp[aR,bq,Qq,yN,Qc,lV,iI];refine⟨by omega,?_⟩;refine Qi JG (avn p ids (iI p at_ past) E (Kn p at_ past ids)) (fun f _=>(3-numOf (f 36)).toNat) ?_ ?_
  ·exact⟨0,List.replicate ids.length false,rv,li,pm,[],exl,by simp,by omega,by simp,rfl,hB,by simp[zS,aR,bq,Qq,yN,cU,Qc,lV,iI,qU]⟩
  clear hB;rintro f m ⟨r,K,rv,li,pm,xH,ls,h36,Tv,hK,hT,hB,rfl⟩;rcases zzaa r 3 with rlt|rge
  ·have ay6:(r:Int)<3:=by omega
   have qo:=bH r (by omega);obtain⟨n,hn⟩:∃n,3-r=n+1:=⟨2-r,by omega⟩;rw[hn,chF]at hT;obtain⟨T,hTr⟩:∃T,Ja (om (iI p at_ past)) (SX p) ids r K=T:=⟨_,rfl⟩;rw[hTr]at hT;rw[S0]at hTr;simp[h36,ay6,JG,zS,aR,bq,yN,cU,lV,iI];refine Qi JH (avo p ids (iI p at_ past) E r T) (fun f _=>ids.length-(numOf (f 41)).toNat) ?_ ?_
   ·exact⟨0,K,rv,li,pm,xH,ls,by simp,by omega,hK,by simpa using hTr,hB,by simp[zS,aR,bq,yN,cU,lV,iI]⟩
   clear hTr hK hB;rintro g m ⟨i,K,rv,li,pm,xH,ls,g41,gL,hK,hTi,hB,rfl⟩;rcases zzaa i ids.length with ai|bw
   ·obtain⟨id,hx⟩:=aP ai;have aa:Qh (ids.map Qy) i=Qy id:=Qr (by simp[hx]);have ah:(i:Int)<(ids.length:Int):=by omega
    have hw:=bH i (by omega);obtain⟨n2,r6⟩:∃n2,ids.length-i=n2+1:=⟨ids.length-i-1,by omega⟩;have hn3:ids.length-(i+1)=n2:=by omega
    rw[r6,stF,abB hx]at hTi;simp[g41,ah,aa,Qy,JH,zS,aR,bq,yN,cU,lV,iI,Py];refine ahq (yN p ids) (cU E ids.length K xH) ls (lV (iI p at_ past) rv li pm) id Y0 _ (fun exr=>?_);have hpb:(lV (iI p at_ past) rv li pm).p=p:=rfl;rw[hpb];by_cases gG:SX p id=r
    ·rw[if_pos gG]at hTi;have ao1:((SX p id:Nat):Int)=(r:Int):=by omega
     have hms:(K.map AV.bool).set i (.bool true)=(K.set i true).map AV.bool:=by rw[zzfd]
     simp[ao1,aR,bq,yN,cU,lV,iI];refine⟨ai,by omega,?_⟩;rw[hms];obtain⟨S,hS⟩:∃S,Xc true ids (K.set i true)=S:=⟨_,rfl⟩;have hSl:S.length<=1000:=by have:=p6 true ids (K.set i true);rw[hS]at this;omega
     have hK2:(K.set i true).length=ids.length:=by simpa using hK
     rw[hS]at hTi;obtain⟨ok,agX⟩:∃ok,om (iI p at_ past) S=ok:=⟨_,rfl⟩;rw[agX]at hTi
     refine X1 rfl [(.sl (rO ls.length S) (S.map Qy),zS p ids (lV (iI p at_ past) rv li pm) E (K.set i true) (xH++exr) (ls++nY S))] (ay5 p ids (iI p at_ past) E (K.set i true) (xH++exr) (ls++nY S) S)
      ⟨(.aU [.sl .nil [],.bool (om (iI p at_ past) S)],zS p ids (lV (iI p at_ past) rv li pm) E (K.set i true) ((xH++exr)++[]) ((ls++nY S)++[])),.sl .nil [],rv,li,pm,[],[],rfl,hB,rfl⟩ (fun v m' hv=>?_)
     obtain⟨a,rv2,sN,OG,IF,ao2,rfl,oZ,rfl⟩:=hv;rw[agX];simp[zS,aR,bq,yN,cU,lV,iI,hw];rw[hms];have azF:(K.map AV.bool).set i (.bool ok)=(K.set i ok).map AV.bool:=by rw[zzfd]
     refine⟨?_,?_,ai,by omega,aN,⟨i+1,K.set i ok,rv2,sN,OG,(xH++exr)++IF,ls++nY S++ao2,by simp,by omega,by simpa using hK,by rw[hn3];exact hTi,oZ,by simp[zS,aR,bq,yN,cU,lV]⟩,by simp[g41];omega⟩
     ·refine abC (p:=p) hi (lV (iI p at_ past) rv li pm) E (K.set i true) hK2 (xH++exr) ls true Y0 _ ?_;rw[hS];exact⟨rfl,rfl⟩
     refine abD Fb ha hp (yN p ids) (cU E ids.length (K.set i true) (xH++exr)) (ls++nY S) rv li pm hB S hSl _ Y0 _ (fun a rv li pm ex exl hB _=>⟨a,rv,li,pm,ex,exl,rfl,hB,by simp[zS,cU];rfl⟩)
    rw[if_neg gG]at hTi;have ao1:¬((SX p id:Nat):Int)=(r:Int):=by omega
    simp[ao1,aR,bq,yN,cU,lV,iI,hw];refine⟨aN,⟨i+1,K,rv,li,pm,xH++exr,ls,by simp,by omega,hK,by rw[hn3];exact hTi,hB,by simp[zS,aR,bq,yN,cU,lV]⟩,by omega⟩
   have bJ:¬(i:Int)<(ids.length:Int):=by omega
   have hz:ids.length-i=0:=by omega
   rw[hz,stF]at hTi;subst hTi;simp[g41,bJ,JH,h36,zS,aR,bq,yN,cU,lV,iI,qo];refine⟨aN,⟨r+1,K,rv,li,pm,xH,ls,by simp,by omega,hK,by rw[show 3-(r+1)=n by omega];exact hT,hB,by simp[zS,aR,bq,yN,cU,lV]⟩,by omega⟩
  have rin:¬(r:Int)<3:=by omega
  obtain rfl:r=3:=by omega
  have hT:K=Kn p at_ past ids:=hT;subst hT;obtain⟨ka,kb,kc⟩:=MF p at_ past ids;obtain⟨L,hL⟩:=zzcp.1 kb;simp[h36,JG,zS,aR,bq,yN,cU,lV,iI,Py];refine abC (p:=p) hi (lV (iI p at_ past) rv li pm) E (Kn p at_ past ids) ka xH ls true Y0 _ ?_;obtain⟨S,hS⟩:∃S,Xc true ids (Kn p at_ past ids)=S:=⟨_,rfl⟩;have hSl:S.length<=1000:=by have:=p6 true ids (Kn p at_ past ids);rw[hS]at this;omega
  have hr:Sk p at_ past ids=.aU [II L,Hr (Xc false ids (Kn p at_ past ids))]:=by rw[Sk,hL];rfl
  rw[hr];rw[hS]at hL |-
  simp[zS,aR,bq,yN,cU,lV,iI];refine abD Fb ha hp (yN p ids) (cU E ids.length (Kn p at_ past ids) xH) (ls++nY S) rv li pm hB S hSl _ Y0 _ (fun a rv li pm IF ao2 hB hv=>?_);obtain⟨h0,_⟩|⟨l,rt,h1,hO,rfl⟩:=hv
  ·rw[hL]at h0;cases h0
  rw[hL]at h1;cases h1;simp[aR,bq,yN,cU,lV,iI];refine abC (p:=p) hi (lV (iI p at_ past) rv li pm) E (Kn p at_ past ids) ka (xH++IF) (ls++(nY S++ao2)) false Y0 _ ?_;obtain⟨D,hD⟩:∃D,Xc false ids (Kn p at_ past ids)=D:=⟨_,rfl⟩;rw[hD];by_cases hDe:D=[]
  ·subst hDe;obtain⟨rfl,rfl⟩|⟨k2,rfl,_,_,aJ⟩:=hO
   ·simp[uX,II,Hr,rO]
   simp[uX,II,Hr,rO,aJ]
  obtain⟨rfl,rfl⟩|⟨k2,rfl,_,_,aJ⟩:=hO
  ·simp[uX,II,Hr,rO,hDe]
  simp[uX,II,Hr,rO,hDe,aJ]
 have bT:om (iI p at_ past) ids=true:=by rw[uL,h1];rfl
 obtain⟨cZ,dw⟩:=SY p at_ past ids (by rw[h1];rfl);have hr:Sk p at_ past ids=.aU [II l,.sl .nil []]:=by rw[Sk,cZ,dw,h1];rfl
 rw[bT,hr];obtain⟨rfl,rfl⟩|⟨k2,rfl,_,_,aJ⟩:=hO
 ·simp[uX,II]
 simp[uX,II,aJ]
end Go.Proofs.YtnopaopphmjnmaaGreatDoor
