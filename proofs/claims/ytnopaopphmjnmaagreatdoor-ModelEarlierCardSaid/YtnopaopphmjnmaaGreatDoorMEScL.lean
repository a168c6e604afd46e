import Derived.Test.YtnopaopphmjnmaaGreatDoorMEMcY
set_option linter.all false
set_option maxRecDepth 100000
set_option maxHeartbeats 64000000
namespace Go.Proofs.YtnopaopphmjnmaaGreatDoor
open Go Go.Abs
def MH(p:Pl)(e:En)(f:Int):Option Int:=
 if e.fr<1\/1000000<e.fr\/p.ln<e.fr then none else
 if max f 0<1000000/\0<=mV p e/\mV p e<1000000 then(match mj (Za p e.it 0) (max f 0) e.fr with
  |none=>none
  |some s=>if mV p e<s then none else some s)else Yh p e f
def SZ(p:Pl)(e:En)(f:Int):MH p e f=Yh p e f:=by
 unfold MH;split
 ·rename_i h;rw[Yh,if_pos h]
 rename_i h;split
 ·rename_i h2;rw[Yh,if_neg h];have hz:(max f 0).tdiv 1000000=0:=Int.tdiv_eq_zero_of_lt (by omega) (by omega);rw[hz]
  conv=>rhs;unfold Tq
  rw[if_pos (by omega)];cases mj (Za p e.it 0) (max f 0) e.fr with
  |none=>
   simp only;unfold Tq;rw[if_neg (by omega)]
  |some s=>rfl
 rfl
def an0(p:Pl):List Int->List (Int×Int)->List (Int×Int)->Int->Int->Option (List Sp)
 |[],_,_,_,_=>some []
 |id::r,us,en,free,last=>match zT id p.ens 0 with
  |none=>none
  |some k=>if(k:Int)<=last then none else match p.ens[k]? with
   |none=>none
   |some e=>if Wv p e.it≠ -1/\Wv p e.it<=(af e.it us).getD 0 then none else
    match MH p e (Un en (Kz p e.it) (max e.ea free))with
    |none=>none
    |some s=>match an0 p r (Vx us e.it) (Zn p en e.it (s+e.fr)) (s+e.fr) k with
     |none=>none
     |some l=>some ((id,s)::l)
def Po(p:Pl):∀(ids:List Int)(us en:List (Int×Int))(free last:Int),an0 p ids us en free last=Jp p ids us en free last
 |[],_,_,_,_=>rfl
 |id::r,us,en,free,last=>by
  rw[an0,Jp];simp only[SZ,Po p r];rfl
open Go Go.Abs
def anl(n:Int):Prop:= -9223372036854775808<=n/\n<=9223372036854775807
structure Ca where
 p:Pl
 ids:List Int
 wh:Int
 at_:Int
 past:List Ad
structure PlK (p:Pl):Prop where
 cls:p.cls.length<=1000
 sh:p.sh.length<=1000
 aM:p.aM.length<=1000
 ens:p.ens.length<=1000
 bks:p.bks.length<=1000
 als:∀e∈p.ens,e.al.length<=1000
 ln: -9223372036854775808<=p.ln/\p.ln<=9223372036854775807
 ea:∀e∈p.ens,-9223372036854775808<=e.ea/\e.ea<=9223372036854775807
 la:∀e∈p.ens,-9223372036854775808<=e.la/\e.la<=9223372036854775807
 fr:∀e∈p.ens,-9223372036854775808<=e.fr/\e.fr<=2000
def PlK.spn{p:Pl}(h:PlK p):(Uf p).length<=1000:=by
 have:=pW p.aM [] [];have:=h.aM;simp only[Uf];simp at*;omega
def Ic:∀(l:List Ad)(us:List (Int×Int))(n:Int),0<=n->pV n us->pV (n+l.length) (OF l us)
 |[],us,n,_,h=>by simpa[OF]using h
 |a::r,us,n,hn,h=>by
  rw[OF]
  have h1:pV (n+1) (if rF a=true then Vx us a.it else us):=by
   split
   ·exact h.note hn a.it
   exact fun k v hk=>by have:=h k v hk;omega
  have h2:=Ic r _ (n+1) (by omega) h1;have:n+((a::r).length:Int)=n+1+(r.length:Int):=by simp;omega
  rw[this];exact h2
def Ie(p:Pl):∀(l:List Ad)(en:List (Int×Int)),uh en->uh (OG p l en)
 |[],en,h=>by simpa[OG]using h
 |a::r,en,h=>by
  rw[OG];refine Ie p r _ ?_;cases hc:rF a with
  |false=>simpa[hc]using h
  |true=>
   simp only[if_true];refine h.note a.it _ ?_;simp[rF]at hc;omega
open Go Go.Abs
def Hz(l:List Int):AV:=if l=[]then .sl .nil []else .sl .ro (l.map Qy)
def gP(p:Pl)(at_:Int)(past:List Ad):Bd:=⟨p,at_,OF past [],OG p past [],[],[],[]⟩
def an1(p:Pl)(at_:Int)(past:List Ad):Bj (gP p at_ past):=⟨fun _ _ h=>(by cases h),fun _ _ h=>(by cases h),fun _ _ h=>(by cases h)⟩
def S0(p:Pl)(id:Int):Nat:=match Zf id p.ens with
 |none=>2
 |some e=>if e.bo≠0 then 0 else match Xj e.it p.aM with
  |none=>2
  |some x=>if x.ki=1\/x.ki=4 then 1 else 2
def Kv(p:Pl)(at_:Int)(past:List Ad)(ids:List Int):List Bool:=Jr (oC (gP p at_ past)) (S0 p) ids
def Sr(p:Pl)(at_:Int)(past:List Ad)(ids:List Int):AV:=
 .aW [IZ ((Yw p at_ past (Xc true ids (Kv p at_ past ids))).getD []),Hz (Xc false ids (Kv p at_ past ids))]
theorem u5(p:Pl)(at_:Int)(past:List Ad)(ids:List Int):oC (gP p at_ past) ids=(Yw p at_ past ids).isSome:=rfl
def abq(p:Pl)(id:Int):S0 p id<=2:=by
 unfold S0;cases Zf id p.ens with
 |none=>exact zzab _
 |some e=>
  simp only;split
  ·omega
  cases Xj e.it p.aM with
  |none=>exact zzab _
  |some x=>simp only;split<;>omega
def MI(p:Pl)(at_:Int)(past:List Ad)(ids:List Int):(Kv p at_ past ids).length=ids.length/\(Yw p at_ past (Xc true ids (Kv p at_ past ids))).isSome=true/\
  ∀(j:Nat)(id:Int),ids[j]?=some id->(Kv p at_ past ids).getD j false=true\/(Yw p at_ past (Xc true ids ((Kv p at_ past ids).set j true))).isSome=false:=
 tw (Ia _) (PC _) (S0 p) ids fun id _=>abq p id
def S1(p:Pl)(at_:Int)(past:List Ad)(ids:List Int)(h:(Yw p at_ past ids).isSome=true):Xc true ids (Kv p at_ past ids)=ids/\Xc false ids (Kv p at_ past ids)=[]:=
 Mx (Ia _) (PC _) (S0 p) ids (fun id _=>abq p id) h
open Go Go.Abs
open Go Go.Abs
def abr(past:List Ad):pV (past.length:Int) (OF past []):=by
 have h:=Ic past [] 0 (by omega) (fun k v h=>by cases h);rwa [Int.zero_add]at h
def abt(p:Pl)(past:List Ad):uh (OG p past []):=Ie p past [] (fun k v h=>by cases h)
open Go Go.Abs
open Go Go.Abs
open Go Go.Abs
def aly(p:Pl)(id:Int):Int:=match zT id p.ens 0 with
 |none=> -1
 |some k=>(k:Int)
open Go Go.Abs
open Go Go.Abs
open Go Go.Abs
def BL{w:Bool}:∀{ids:List Int}{K:List Bool}{i:Nat}{id:Int}{k:Bool},ids[i]?=some id->K[i]?=some k->Xc w (ids.take (i+1)) (K.take (i+1))=Xc w (ids.take i) (K.take i)++if(k==w)=true then[id]else[]
 |[],_,_,_,_,h,_=>by simp at h
 |_::_,[],_,_,_,_,h=>by simp at h
 |x::r,y::ks,0,id,k,h1,h2=>by
  simp at h1 h2;subst h1;subst h2;simp[Xc]
 |x::r,y::ks,i+1,id,k,h1,h2=>by
  have ih:=BL (w:=w) (ids:=r) (K:=ks) (i:=i) (by simpa using h1) (by simpa using h2);rw[zzej,zzej,zzej,zzej,Xc,Xc,ih];split<;>simp
open Go Go.Abs
def abu(p:Pl)(id:Int):(∃(n k:Nat)(e:En),Zf id p.ens=some e/\p.ens[k]?=some e/\Xk [id] (bH iA (Dj p)) 0=some (n,I k))\/(Zf id p.ens=none/\Xk [id] (bH iA (Dj p)) 0=none):=by
 have key:∀(l:List En)(i:Nat),zT id l i=none->Zf id l=none:=by
  intro l;induction l with
  |nil=>intro i _;rfl
  |cons x r ih=>
   intro i h;rw[zT]at h;split at h
   ·cases h
   rename_i hn;rw[Zf,if_neg hn];exact ih _ h
 rcases Xq iA id (Dj p) 0 with⟨p1,p2,_⟩|⟨u,n,p1,p2,_⟩
 ·rw[uN]at p1;cases hx:zT id p.ens 0 with
  |none=>exact .inr ⟨key _ _ hx,p2⟩
  |some k=>rw[hx]at p1;cases p1
 rw[uN]at p1;cases hx:zT id p.ens 0 with
 |none=>rw[hx]at p1;cases p1
 |some k=>
  rw[hx]at p1;cases p1;obtain⟨_,e,h2,h3,h4⟩:=rG hx;rw[zzfg]at h2;exact .inl ⟨_,k,e,h4,h2,p2⟩
def ag2(pre post:List (List AV))(ls:List Nat)(b:Bd)(id:Int)(Y:YT)(K:AV->AM->Prop)(hK:∀ex,K (I (S0 b.p id:Nat)) (aP pre b (post++ex) ls)):
  an Tryz.prog az Y 228 [.ptr (pre.length+9) 0,I id] (aP pre b post ls) K:=by
 refine Xe adH (fun _ _ _=>.junk) (by simp) ?_;unfold S0 at hK;rcases abu b.p id with⟨n,k,e,he,hk,hp⟩|⟨he,hp⟩
 ·rw[he]at hK;simp only at hK;have qv:=(zza.1 hk).1;have zG:(k:Int)<(b.p.ens.length:Int):=by omega
  have xY:=Qdn hk;by_cases b1:e.bo=0
  ·rw[if_neg (by simp[b1])]at hK;rcases Qdk b.p e.it with⟨ni,y,hy,hi⟩|⟨hy,hi⟩
   ·rw[hy]at hK;simp only at hK;by_cases c1:y.ki=1
    ·rw[if_pos (.inl c1)]at hK;simp[vC,aP,aU,Qp,Qc,hp,qv,zG,xY,Qd,b1];refine Xy ?_;simp[vD,aP,aU,Qp,Qc,Qd,hi,rH,Qm,c1];simpa[aP,aU,Qp,Qc,Qm,Qd,b1,c1]using hK [Qd e,Qm y]
    by_cases c2:y.ki=4
    ·rw[if_pos (.inr c2)]at hK;simp[vC,aP,aU,Qp,Qc,hp,qv,zG,xY,Qd,b1];refine Xy ?_;simp[vD,aP,aU,Qp,Qc,Qd,hi,rH,Qm,c1,c2];simpa[aP,aU,Qp,Qc,Qm,Qd,b1,c1,c2]using hK [Qd e,Qm y]
    rw[if_neg (by rintro(h|h);exact c1 h;exact c2 h)]at hK;simp[vC,aP,aU,Qp,Qc,hp,qv,zG,xY,Qd,b1];refine Xy ?_;simp[vD,aP,aU,Qp,Qc,Qd,hi,rH,Qm,c1,c2];simpa[aP,aU,Qp,Qc,Qm,Qd,b1,c1,c2]using hK [Qd e,Qm y]
   rw[hy]at hK;simp only at hK;simp[vC,aP,aU,Qp,Qc,hp,qv,zG,xY,Qd,b1];refine Xy ?_;simp[vD,aP,aU,Qp,Qc,Qd,hi];simpa[aP,aU,Qp,Qc,Qd,b1]using hK [Qd e,[I 0,I 0,I 0,I 0,I 0]]
  rw[if_pos b1]at hK;simp[vC,vD,aP,aU,Qp,Qc,hp,qv,zG,xY,Qd,b1];simpa[aP,aU,Qp,Qc,Qd]using hK [Qd e]
 rw[he]at hK;simp only at hK;simp[vC,vD,aP,aU,Qp,Qc,hp];simpa[aP,aU,Qp,Qc]using hK []
def rU(n:Nat)(S:List Int):Rt:=if S=[]then .nil else .own n 1
def ow(S:List Int):List Nat:=if S=[]then[]else[S.length]
def auo(ids:List Int)(K:List Bool)(w:Bool)(m0:AM)(f:Nat->AV)(m:AM):Prop:=
 ∃(i:Nat),f 10=I i/\i<=ids.length/\f 5=.sl (rU m0.lens.length (Xc w (ids.take i) (K.take i))) ((Xc w (ids.take i) (K.take i)).map Qy)/\m={m0 with lens:=m0.lens++ow (Xc w (ids.take i) (K.take i))}
def S2(ids:List Int)(K:List Bool)(w:Bool)(hi:ids.length<=1000)(hk:K.length=ids.length)(m:AM)(ia ib kb:Nat)(h1:Qh m.boxes ia=[.sl .ro (ids.map Qy)])(h2:Qh m.boxes ib=[.bs kb 0 ids.length 1])(h3:Qh m.boxes kb=K.map .bool)
  (g1:ia<m.boxes.length)(g2:ib<m.boxes.length)(g3:kb<m.boxes.length)(Y:YT)(Q:AV->AM->Prop)(hQ:Q (.sl (rU m.lens.length (Xc w ids K)) ((Xc w ids K).map Qy)) {m with lens:=m.lens++ow (Xc w ids K)}):
  an Tryz.prog az Y 227 [.bool w,.ptr ia 0,.ptr ib 0] m Q:=by
 refine Xe adG (fun _ _ _=>.junk) (by simp) ?_;simp[U2,h1,g1];refine Qj vB (auo ids K w m) (fun f _=>ids.length-(numOf (f 10)).toNat) ?_ ?_
 ·exact⟨0,by simp,by omega,by simp[Xc,rU],by simp[Xc,ow]⟩
 rintro f m' ⟨i,gi,gr,h5,rfl⟩;rcases zzaa i ids.length with ai|bu
 ·obtain⟨id,hx⟩:=aR ai;obtain⟨k,hy⟩:∃x,K[i]?=some x:=⟨_,zzad (by omega)⟩;have ah:Qh (ids.map Qy) i=Qy id:=Qs (by simp[hx]);have bM:nth ((K.map AV.bool).drop i) 0=.bool k:=al1 (by simp[hy]);have xd:min 1 (K.length-i)=1:=by omega
  have an2:i<K.length:=by omega
  have aa:(i:Int)<(ids.length:Int):=by omega
  have hw:=bK i (by omega);have bB:=BL (w:=w) hx hy
  have qs:(Xc w (ids.take i) (K.take i)).length<=1000:=by
   have:=(kN w (ids.take i) (K.take i)).length_le;simp at this;omega
  obtain⟨S,hS⟩:∃S,Xc w (ids.take i) (K.take i)=S:=⟨_,rfl⟩;rw[hS]at h5 bB qs |-
  cases hc:(k==w)with
  |false=>
   rw[hc]at bB;have bB:Xc w (ids.take (i+1)) (K.take (i+1))=S:=by rw[bB];simp
   simp[gi,h5,ai,aa,an2,ah,Qy,vB,hw,hc,h2,h3,g2,g3,bM,xd,show 1<=K.length-i by omega];refine⟨aO,⟨i+1,by simp,by omega,by rw[bB];simp[h5,Qy],by rw[bB]⟩,by omega⟩
  |true=>
   rw[hc]at bB;have bB:Xc w (ids.take (i+1)) (K.take (i+1))=S++[id]:=by rw[bB];simp
   by_cases hSe:S=[]
   ·subst hSe;simp only[rU,ow,if_true,zzcg,zzat]at h5 |-
    simp[gi,h5,ai,aa,an2,ah,Qy,vB,hw,hc,h2,h3,g2,g3,bM,xd,show 1<=K.length-i by omega];refine⟨aO,⟨i+1,by simp,by omega,by rw[bB];simp[Qy,rU],by rw[bB];simp[ow]⟩,by omega⟩
   simp only[rU,ow,if_neg hSe]at h5 |-
   have cm:(m.lens++[S.length]).set m.lens.length (S.length+1)=m.lens++[S.length+1]:=by rw[List.set_append,if_neg (by omega)];simp
   simp[gi,h5,ai,aa,an2,ah,Qy,vB,hw,hc,h2,h3,g2,g3,bM,xd,show 1<=K.length-i by omega];refine⟨⟨?_,by omega⟩,aO,⟨i+1,by simp,by omega,by rw[bB];simp[Qy,rU],by rw[bB];simp[ow]⟩,by omega⟩
   ·rintro row (⟨a,_,rfl⟩|rfl)<;>rfl
 have bJ:¬(i:Int)<(ids.length:Int):=by omega
 rw[zzap (by omega),zzap (by omega)]at h5 |-
 simp[gi,h5,bJ,zzbl.2 bu,vB,aim];exact hQ
open Go Go.Abs
def stF(ok:List Int->Bool)(rd:Int->Nat)(ids:List Int)(r:Nat):Nat->Nat->List Bool->List Bool
 |0,_,K=>K
 |n+1,i,K=>stF ok rd ids r n (i+1) (Ka ok rd ids r K i)
def S3(ok:List Int->Bool)(rd:Int->Nat)(ids:List Int)(r:Nat)(K:List Bool):Jh ok rd ids r K=stF ok rd ids r ids.length 0 K:=by
 have:∀(n i:Nat)(K:List Bool),(List.range' i n).foldl (Ka ok rd ids r) K=stF ok rd ids r n i K:=by
  intro n;induction n with
  |zero=>intro i K;rfl
  |succ n ih=>intro i K;rw[zzgq,zzd,ih];rfl
 unfold Jh;rw[zzfr];exact this _ _ _
def abv{ok:List Int->Bool}{rd:Int->Nat}{ids:List Int}{r:Nat}{K:List Bool}{i:Nat}{id:Int}(h:ids[i]?=some id):Ka ok rd ids r K i=if rd id=r then K.set i (ok (Xc true ids (K.set i true)))else K:=by
 unfold Ka;rw[h]
def chF(ok:List Int->Bool)(rd:Int->Nat)(ids:List Int):Nat->Nat->List Bool->List Bool
 |0,_,K=>K
 |n+1,r,K=>chF ok rd ids n (r+1) (Jh ok rd ids r K)
def y7(p:Pl)(ids:List Int):List (List AV):=[Qc p,[.sl .ro (ids.map Qy)]]
def c9(E:List (List AV))(n:Nat)(K:List Bool)(ex:List (List AV)):List (List AV):=E++(K.map AV.bool::[.bs (E.length+12) 0 n 1]::ex)
def zj(p:Pl)(ids:List Int)(b:Bd)(E:List (List AV))(K:List Bool)(ex:List (List AV))(ls:List Nat):AM:=aP (y7 p ids) b (c9 E ids.length K ex) ls
def mz(b:Bd)(rv:List (Int×(Rt×List Sp)))(li:List (Int×Int))(pm:List ((Int×Int)×List Sp)):Bd:={b with rv:=rv,li:=li,pm:=pm}
def aup(p:Pl)(ids:List Int)(b:Bd)(E:List (List AV))(T:List Bool)(f:Nat->AV)(m:AM):Prop:=
 ∃(r:Nat)(K:List Bool)(rv:List (Int×(Rt×List Sp)))(li:List (Int×Int))(pm:List ((Int×Int)×List Sp))(ex:List (List AV))(ls:List Nat),f 36=I r/\r<=3/\K.length=ids.length/\chF (oC b) (S0 p) ids (3-r) r K=T/\Bj (mz b rv li pm)/\m=zj p ids (mz b rv li pm) E K ex ls
def auq(p:Pl)(ids:List Int)(b:Bd)(E:List (List AV))(r:Nat)(T:List Bool)(f:Nat->AV)(m:AM):Prop:=
 ∃(i:Nat)(K:List Bool)(rv:List (Int×(Rt×List Sp)))(li:List (Int×Int))(pm:List ((Int×Int)×List Sp))(ex:List (List AV))(ls:List Nat),f 41=I i/\i<=ids.length/\K.length=ids.length/\stF (oC b) (S0 p) ids r (ids.length-i) i K=T/\Bj (mz b rv li pm)/\m=zj p ids (mz b rv li pm) E K ex ls
def ax0(p:Pl)(ids:List Int)(b:Bd)(E:List (List AV))(K:List Bool)(ex:List (List AV))(ls:List Nat)(S:List Int)(v:AV)(m:AM):Prop:=
 ∃(a:AV)(rv:List (Int×(Rt×List Sp)))(li:List (Int×Int))(pm:List ((Int×Int)×List Sp))(dW:List (List AV))(exl:List Nat),v=.aW [a,.bool (oC b S)]/\Bj (mz b rv li pm)/\m=zj p ids (mz b rv li pm) E K (ex++dW) (ls++exl)
def kS:Nat->FuncId->List AV->AV:=fun d f _=>if f=999999 then(if d=34 then .aJ 0 []else .junk)else .gd false .junk
def abw{p:Pl}{ids:List Int}(hi:ids.length<=1000)(b:Bd)(E:List (List AV))(K:List Bool)(hk:K.length=ids.length)(ex:List (List AV))(ls:List Nat)(w:Bool)(Y:YT)(Q:AV->AM->Prop)
  (hQ:Q (.sl (rU ls.length (Xc w ids K)) ((Xc w ids K).map Qy)) (zj p ids b E K ex (ls++ow (Xc w ids K)))):
  an Tryz.prog az Y 227 [.bool w,.ptr 1 0,.ptr (E.length+13) 0] (zj p ids b E K ex ls) Q:=by
 refine S2 ids K w hi hk (zj p ids b E K ex ls) 1 (E.length+13) (E.length+12) ?_ ?_ ?_ ?_ ?_ ?_ Y Q hQ;all_goals simp[zj,aP,aU,y7,c9]
 all_goals omega
def qZ(a:AV):∀n:Nat,bG n [a]=List.replicate n a
 |0=>rfl
 |n+1=>by rw[bG,qZ a n];rfl
def abx{p:Pl}(h:PlK p){at_:Int}(ha:anl at_){past:List Ad}(hp:past.length<=1000)(pre post:List (List AV))(ls:List Nat)(rv:List (Int×(Rt×List Sp)))(li:List (Int×Int))(pm:List ((Int×Int)×List Sp))(hB:Bj (mz (gP p at_ past) rv li pm))
  (S:List Int)(hS:S.length<=1000)(rt0:Rt)(Y:YT)(K:AV->AM->Prop)
  (
   hK:∀a rv li pm ex exl,Bj (mz (gP p at_ past) rv li pm)->((Yw p at_ past S=none/\a=.sl .nil [])\/∃l rt,Yw p at_ past S=some l/\Dn 2 ls.length (ls++exl) rt l/\a=.sl rt (l.map Qe))->
   K (.aW [a,.bool (oC (gP p at_ past) S)]) (aP pre (mz (gP p at_ past) rv li pm) (post++ex) (ls++exl))):
  an Tryz.prog az Y 122 [.ptr (pre.length+9) 0,.sl rt0 (S.map Qy)] (aP pre (mz (gP p at_ past) rv li pm) post ls) K:=by
 have mQ:=h.spn;obtain⟨l1,l2,l3,l4,l5,l6,l7,l8,l9,l10⟩:=h;have hU:=abr past;have hE:=abt p past;refine Qel pre post ls (mz (gP p at_ past) rv li pm) S rt0 past.length (by omega) (by omega) (show p.cls.length<=1000000 by omega) (show p.sh.length<=1000000000 by omega) (show p.aM.length<=1000000000 by omega) (show p.ens.length<=1000000000 by omega) (show(Uf p).length<=1000000000 by omega) l7.2 (fun e he=>(l8 e he).2) ha.2 hU hE hB Y K (fun h0 rv li pm dW exl hB=>?_) (fun l h1 rv li pm dW exl JZ hB Lh=>?_)
 ·have h0:Yw p at_ past S=none:=h0;have:=hK (.sl .nil []) rv li pm dW exl hB (.inl ⟨h0,rfl⟩);rw[u5,h0]at this;exact this
 have h1:Yw p at_ past S=some l:=h1;have:=hK (.sl JZ (l.map Qe)) rv li pm dW exl hB (.inr ⟨l,JZ,h1,Lh,rfl⟩);rw[u5,h1]at this;exact this
def qg(w:Bool)(ids:List Int)(K:List Bool):(Xc w ids K).length<=ids.length:=(kN w ids K).length_le
def aam{p:Pl}(h:PlK p){at_:Int}(ha:anl at_){past:List Ad}(hp:past.length<=1000){ids:List Int}(hi:ids.length<=1000):
  Pure Tryz.prog az 158 [.agg (Qc p),.sl .ro (ids.map Qy),I at_,.sl .ro (past.map Vj)] (Sr p at_ past ids):=by
 have Fi:=h;obtain⟨l1,l2,l3,l4,l5,l6,l7,l8,l9,l10⟩:=h;refine Qn acR kS (by simp) ?_;simp[Np,Qc,kS];have k41:=fun K'=>xW (y7 p ids) [] p at_ past .ro (by omega) (by omega) (by omega) Y0 K';simp only[y7,Qc]at k41;refine k41 _ fun ex=>?_;clear k41;simp[kS,aP,aU,Qp,Qc];refine abx Fi ha hp (y7 p ids) ex [] [] [] [] (an1 p at_ past) ids hi .ro Y0 _ (fun a rv li pm dW exl hB hr=>?_);obtain⟨h0,rfl⟩|⟨l,rt,h1,hO,rfl⟩:=hr
 ·have bV:oC (gP p at_ past) ids=false:=by rw[u5,h0];rfl
  rw[bV];obtain⟨E,hE⟩:∃E,ex++dW=E:=⟨_,rfl⟩;rw[hE];simp[kS,aP,aU,Qp,y7,Qc,mz,gP];refine⟨by omega,?_⟩;refine Qj BX (aup p ids (gP p at_ past) E (Kv p at_ past ids)) (fun f _=>(3-numOf (f 36)).toNat) ?_ ?_
  ·exact⟨0,List.replicate ids.length false,rv,li,pm,[],exl,by simp,by omega,by simp,rfl,hB,by simp[zj,aP,aU,Qp,y7,c9,Qc,mz,gP,qZ]⟩
  clear hB;rintro f m ⟨r,K,rv,li,pm,zf,ls,h36,Tv,hK,hT,hB,rfl⟩;rcases zzaa r 3 with rlt|rge
  ·have ax1:(r:Int)<3:=by omega
   have pG:=bK r (by omega);obtain⟨n,hn⟩:∃n,3-r=n+1:=⟨2-r,by omega⟩;rw[hn,chF]at hT;obtain⟨T,hTr⟩:∃T,Jh (oC (gP p at_ past)) (S0 p) ids r K=T:=⟨_,rfl⟩;rw[hTr]at hT;rw[S3]at hTr;simp[h36,rlt,ax1,BX,zj,aP,aU,y7,c9,mz,gP];refine Qj JN (auq p ids (gP p at_ past) E r T) (fun f _=>ids.length-(numOf (f 41)).toNat) ?_ ?_
   ·exact⟨0,K,rv,li,pm,zf,ls,by simp,by omega,hK,by simpa using hTr,hB,by simp[zj,aP,aU,y7,c9,mz,gP]⟩
   clear hTr hK hB;rintro g m ⟨i,K,rv,li,pm,zf,ls,g41,gr,hK,hTi,hB,rfl⟩;rcases zzaa i ids.length with ai|bu
   ·obtain⟨id,hx⟩:=aR ai;have ah:Qh (ids.map Qy) i=Qy id:=Qs (by simp[hx]);have aa:(i:Int)<(ids.length:Int):=by omega
    have hw:=bK i (by omega);obtain⟨n2,nA⟩:∃n2,ids.length-i=n2+1:=⟨ids.length-i-1,by omega⟩;have hn3:ids.length-(i+1)=n2:=by omega
    rw[nA,stF,abv hx]at hTi;simp[g41,ai,aa,ah,Qy,JN,zj,aP,aU,y7,c9,mz,gP,kS];refine ag2 (y7 p ids) (c9 E ids.length K zf) ls (mz (gP p at_ past) rv li pm) id Y0 _ (fun exr=>?_);have hpb:(mz (gP p at_ past) rv li pm).p=p:=rfl;rw[hpb];by_cases fI:S0 p id=r
    ·rw[if_pos fI]at hTi;have an3:((S0 p id:Nat):Int)=(r:Int):=by omega
     have hms:(K.map AV.bool).set i (.bool true)=(K.set i true).map AV.bool:=by rw[zzfi]
     simp[an3,aP,aU,y7,c9,mz,gP,kS];refine⟨ai,by omega,?_⟩;rw[hms];obtain⟨S,hS⟩:∃S,Xc true ids (K.set i true)=S:=⟨_,rfl⟩;have hSl:S.length<=1000:=by have:=qg true ids (K.set i true);rw[hS]at this;omega
     have hK2:(K.set i true).length=ids.length:=by simpa using hK
     rw[hS]at hTi;obtain⟨ok,agB⟩:∃ok,oC (gP p at_ past) S=ok:=⟨_,rfl⟩;rw[agB]at hTi
     refine XP rfl [(.sl (rU ls.length S) (S.map Qy),zj p ids (mz (gP p at_ past) rv li pm) E (K.set i true) (zf++exr) (ls++ow S))] (ax0 p ids (gP p at_ past) E (K.set i true) (zf++exr) (ls++ow S) S)
      ⟨(.aW [.sl .nil [],.bool (oC (gP p at_ past) S)],zj p ids (mz (gP p at_ past) rv li pm) E (K.set i true) ((zf++exr)++[]) ((ls++ow S)++[])),.sl .nil [],rv,li,pm,[],[],rfl,hB,rfl⟩ (fun v m' hv=>?_)
     obtain⟨a,rv2,sU,ON,IX,an4,rfl,oB,rfl⟩:=hv;rw[agB];simp[zj,aP,aU,y7,c9,mz,gP,kS,hw];rw[hms];have ayz:(K.map AV.bool).set i (.bool ok)=(K.set i ok).map AV.bool:=by rw[zzfi]
     refine⟨?_,?_,ai,by omega,aO,⟨i+1,K.set i ok,rv2,sU,ON,(zf++exr)++IX,ls++ow S++an4,by simp,by omega,by simpa using hK,by rw[hn3];exact hTi,oB,by simp[zj,aP,aU,y7,c9,mz,gP]⟩,by simp[g41];omega⟩
     ·refine abw (p:=p) hi (mz (gP p at_ past) rv li pm) E (K.set i true) hK2 (zf++exr) ls true Y0 _ ?_;rw[hS];exact⟨rfl,rfl⟩
     refine abx Fi ha hp (y7 p ids) (c9 E ids.length (K.set i true) (zf++exr)) (ls++ow S) rv li pm hB S hSl _ Y0 _ (fun a rv li pm ex exl hB _=>⟨a,rv,li,pm,ex,exl,rfl,hB,by simp[zj,c9];rfl⟩)
    rw[if_neg fI]at hTi;have an3:¬((S0 p id:Nat):Int)=(r:Int):=by omega
    simp[an3,aP,aU,y7,c9,mz,gP,kS,hw];refine⟨aO,⟨i+1,K,rv,li,pm,zf++exr,ls,by simp,by omega,hK,by rw[hn3];exact hTi,hB,by simp[zj,aP,aU,y7,c9,mz,gP]⟩,by omega⟩
   have bJ:¬(i:Int)<(ids.length:Int):=by omega
   have hz:ids.length-i=0:=by omega
   rw[hz,stF]at hTi;subst hTi;simp[g41,bJ,zzbl.2 bu,JN,BX,h36,zj,aP,aU,y7,c9,mz,gP,pG];refine⟨aO,⟨r+1,K,rv,li,pm,zf,ls,by simp,by omega,hK,by rw[show 3-(r+1)=n by omega];exact hT,hB,by simp[zj,aP,aU,y7,c9,mz,gP]⟩,by omega⟩
  have rin:¬(r:Int)<3:=by omega
  obtain rfl:r=3:=by omega
  have hT:K=Kv p at_ past ids:=hT;subst hT;obtain⟨ka,kb,kc⟩:=MI p at_ past ids;obtain⟨L,hL⟩:=zzci.1 kb;simp[h36,BX,zj,aP,aU,y7,c9,mz,gP,kS];refine abw (p:=p) hi (mz (gP p at_ past) rv li pm) E (Kv p at_ past ids) ka zf ls true Y0 _ ?_;obtain⟨S,hS⟩:∃S,Xc true ids (Kv p at_ past ids)=S:=⟨_,rfl⟩;have hSl:S.length<=1000:=by have:=qg true ids (Kv p at_ past ids);rw[hS]at this;omega
  have hr:Sr p at_ past ids=.aW [IZ L,Hz (Xc false ids (Kv p at_ past ids))]:=by rw[Sr,hL];rfl
  rw[hr];rw[hS]at hL |-
  simp[zj,aP,aU,y7,c9,mz,gP,kS];refine abx Fi ha hp (y7 p ids) (c9 E ids.length (Kv p at_ past ids) zf) (ls++ow S) rv li pm hB S hSl _ Y0 _ (fun a rv li pm IX an4 hB hv=>?_);obtain⟨h0,_⟩|⟨l,rt,h1,hO,rfl⟩:=hv
  ·rw[hL]at h0;cases h0
  rw[hL]at h1;cases h1;simp[zj,aP,aU,y7,c9,mz,gP,kS];refine abw (p:=p) hi (mz (gP p at_ past) rv li pm) E (Kv p at_ past ids) ka (zf++IX) (ls++(ow S++an4)) false Y0 _ ?_;obtain⟨D,hD⟩:∃D,Xc false ids (Kv p at_ past ids)=D:=⟨_,rfl⟩;rw[hD];by_cases hDe:D=[]
  ·subst hDe;obtain⟨rfl,rfl⟩|⟨k2,rfl,_,_,aK⟩:=hO
   ·simp[vl,IZ,Hz,rU]
   simp[vl,IZ,Hz,rU,aK]
  obtain⟨rfl,rfl⟩|⟨k2,rfl,_,_,aK⟩:=hO
  ·simp[vl,IZ,Hz,rU,hDe]
  simp[vl,IZ,Hz,rU,hDe,aK]
 have bV:oC (gP p at_ past) ids=true:=by rw[u5,h1];rfl
 obtain⟨cQ,cV⟩:=S1 p at_ past ids (by rw[h1];rfl);have hr:Sr p at_ past ids=.aW [IZ l,.sl .nil []]:=by rw[Sr,cQ,cV,h1];rfl
 rw[bV,hr];obtain⟨rfl,rfl⟩|⟨k2,rfl,_,_,aK⟩:=hO
 ·simp[vl,IZ]
 simp[vl,IZ,aK]
end Go.Proofs.YtnopaopphmjnmaaGreatDoor
