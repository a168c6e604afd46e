import Derived.Test.YtnopaopphmjnmaaGreatDoorMDSpG
set_option linter.all false
set_option maxRecDepth 100000
set_option maxHeartbeats 64000000
namespace Go.Proofs.YtnopaopphmjnmaaGreatDoor
noncomputable section
open Go Go.Abs
def Ue(l:List Int):(aj l).length=l.length:=by simp[aj]
def ny{l:List Int}{i:Nat}{x:Int}(h:l[i]?=some x):(aj l).drop i=I x::aj (l.drop (i+1)):=by
 unfold aj;rw[<- zzgb];have ai:=(zza.1 h).1;rw[zzaf ai,(zza.1 h).2];rfl
def KN(l:List Int)(i:Nat)(x:Int):(aj l).set i (I x)=aj (l.set i x):=by simp[aj,zzfd]
def nA(a b:List Int):aj (a++b)=aj a++aj b:=by simp[aj]
def X2(l:List Int):Zg (aj l)=true:=by
 simp[Zg,aj]
def wA:∀(l:List Int)(r:List AV),aV 1 l.length (aj l++r)=l.map fun x=>[I x]
 |[],_=>rfl
 |s::l,r=>by simpa[aj]using wA l r
def FA(n:Nat):bG n [I 0]=aj (List.replicate n 0):=by
 induction n with
 |zero=>rfl
 |succ n ih=>rw[bG,ih];rfl
def FB{l:List Int}{i:Nat}{x:Int}(h:l[i]?=some x):Qh (l.map fun x=>[I x]) i=[I x]:=Qr (by simp[h])
def dd:List Int->List Int
 |[]=>[]
 |[x]=>[x]
 |x::y::r=>if x=y then dd (y::r)else x::dd (y::r)
theorem FC(x y:Int)(r:List Int):dd (x::y::r)=if x=y then dd (y::r)else x::dd (y::r):=rfl
def CN:∀(p:List Int)(a b:Int),dd (p++[a]++[b])=dd (p++[a])++(if b=a then[]else[b])
 |[],a,b=>by
  by_cases h:b=a
  ·subst h;simp[dd]
  have:¬a=b:=fun e=>h e.symm;simp[dd,h,this]
 |[x],a,b=>by
  have ih:=CN [] a b;simp only[zzah,zzae]at ih |-
  rw[FC x a [b],FC x a [],ih];by_cases hx:x=a
  ·rw[if_pos hx,if_pos hx]
  rw[if_neg hx,if_neg hx];rfl
 |x::y::p,a,b=>by
  have ih:=CN (y::p) a b;simp only[zzae]at ih |-
  rw[FC x y (p++[a]++[b]),FC x y (p++[a]),ih];by_cases hx:x=y
  ·rw[if_pos hx,if_pos hx]
  rw[if_neg hx,if_neg hx];rfl
def Ob{l:List Int}{j:Nat}{a b:Int}(ha:l[j]?=some a)(hb:l[j+1]?=some b):dd (l.take (j+2))=dd (l.take (j+1))++(if b=a then[]else[b]):=by
 have e1:l.take (j+1)=l.take j++[a]:=by rw[zzar,ha];rfl
 have e2:l.take (j+2)=l.take j++[a]++[b]:=by rw[show j+2=(j+1)+1 from rfl,zzar,hb,e1];rfl
 rw[e2,e1,CN]
def KO:∀l:List Int,(dd l).length<=l.length
 |[]=>by simp[dd]
 |[x]=>by simp[dd]
 |x::y::r=>by
  have:=KO (y::r);rw[dd];split<;>simp at*<;>omega
def KP:∀(l:List Int)(x:Int),x∈dd l<->x∈l
 |[],x=>by simp[dd]
 |[y],x=>by simp[dd]
 |a::b::r,x=>by
  have ih:=KP (b::r) x;rw[dd];split
  ·rename_i h;subst h;rw[ih];simp
  rw[zzau,ih,zzau (a:=x) (b:=a)]
def X3:∀{l:List Int},l.Pairwise (·<=·)->(dd l).Pairwise (·<·)
 |[],_=>by simp[dd]
 |[x],_=>by simp[dd]
 |x::y::r,h=>by
  obtain⟨h1,h2⟩:=zzbz.1 h;have ih:=X3 h2;rw[dd];split
  ·exact ih
  rename_i aJ;refine zzbz.2 ⟨fun z hz=>?_,ih⟩;have hz':=(KP _ _).1 hz;have hxy:=h1 y (by simp);rcases zzau.1 hz' with rfl|hz'
  ·omega
  have:=(zzbz.1 h2).1 z hz';omega
def sA(Y:YT)(l:List Int)(hl:l.length<=1000000000)(B:List (List AV))(L:List Nat)(st:Nat->LS)(n id:Nat)(aO:id<B.length)(aJ:l≠[])(hB:Qh B id=aj l)(K:AV->AM->Prop)
  (hK:∀(B':List (List AV))(z:List Int),aZ (·=id) B B'->Qh B' id=aj (dd l++z)->(dd l).length+z.length=l.length->K (.bs id 0 (dd l).length 1) ⟨B',L,st,n⟩):
  an Tryz.prog aq Y 161 [.bs id 0 l.length 1] ⟨B,L,st,n⟩ K:=by
 have aI:=Ue l;have eS:0<l.length:=zzcu.2 aJ;refine Xe BT (fun _ _ _=>.junk) (by simp) ?_;by_cases h2:l.length<2
 ·have D4:(l.length:Int)<2:=by omega
  have hd:dd l=l:=by
   match l,aJ,h2 with
   |[x],_,_=>rfl
  have:=hK B [] (aZ.refl _ _) (by rw[hd,zzat];exact hB) (by rw[hd];simp);rw[hd]at this;simp[uY,zY,D4];exact this
 have D4:¬(l.length:Int)<2:=by omega
 simp[uY,D4];refine Qi BU (fun f m=>∃k:Nat,f 3=I k/\1<=k/\k<=l.length/\m=⟨B,L,st,n⟩/\dd (l.take k)=l.take k) (fun f _=>l.length-(numOf (f 3)).toNat) ?_ ?_
 ·refine⟨1,by simp,by omega,by omega,rfl,?_⟩
  match l,aJ with
  |x::r,_=>rfl
 rintro f m ⟨k,h3,cZ,hk,rfl,Te⟩;rcases zzaa k l.length with ai|bw
 ·obtain⟨k',rfl⟩:∃k',k=k'+1:=⟨k-1,by omega⟩;obtain⟨a,ha⟩:∃a,l[k']?=some a:=⟨_,zzad (by omega)⟩;obtain⟨b,hb⟩:∃b,l[k'+1]?=some b:=⟨_,zzad ai⟩;have ga:=ny ha;have gb:=ny hb;have afm:((k':Int)+1)<(l.length:Int):=by omega
  have akr:(k':Int)<(l.length:Int):=by omega
  have WY:k'<l.length:=by omega
  have eO:IntKind.i64.wrap ((k':Int)+1-1)=(k':Int):=by rw[Qk]<;>omega
  have asT:IntKind.i64.wrap (k':Int)=(k':Int):=by rw[Qk]<;>omega
  have eC:IntKind.i64.wrap ((k':Int)+1+1)=((k'+1+1:Nat):Int):=by rw[Qk]<;>omega
  have Ap:(0:Int)<=(k':Int)+1:=by omega
  have htn:((k':Int)+1).toNat=k'+1:=by omega
  have hdt:=Ob ha hb;by_cases XD:b=a
  ·rw[if_pos XD,zzat]at hdt;simp[h3,afm,akr,hB,ga,gb,asT,Ap,htn,XD,BU];have bX:(k':Int)+1<=(l.length:Int):=by omega
   refine⟨bX,?_⟩
   refine Qi BV (fun f m=>∃(k t:Nat)(B':List (List AV))(L':List Int),f 3=I k/\f 5=I ((t+1:Nat):Int)/\k'+1+(t+1)<=l.length/\1<=k/\k<=k'+1+t/\m=⟨B',L,st,n⟩/\aZ (·=id) B B'/\Qh B' id=aj L'/\L'.length=l.length/\
    L'.take k=dd (l.take (k'+1+(t+1)))/\L'.drop (k'+1+t)=l.drop (k'+1+t)) (fun f _=>l.length-(k'+1)-(numOf (f 5)).toNat) ?_ ?_
   ·refine⟨k'+1,0,B,l,by simp,by simp,by omega,by omega,by omega,rfl,aZ.refl _ _,hB,rfl,?_,rfl⟩;rw[show k'+1+(0+1)=k'+2 by omega,hdt,Te]
   rintro g m ⟨k,t,B',L',g3,g5,ht,X4,hkt,rfl,eU,tI,tK,bA,KQ⟩;have cE:id<B'.length:=zzbb aO eU.1;have jq:=Ue L';rcases zzaa (k'+1+(t+1)) l.length with AD|hjg
   ·obtain⟨x,hx⟩:∃x,l[k'+1+t]?=some x:=⟨_,zzad (by omega)⟩;obtain⟨y,hy⟩:∃y,l[k'+1+t+1]?=some y:=⟨_,zzad (by omega)⟩
    have oD:L'[k'+1+t]?=some x:=by
     have:=congrArg (fun q=>q[0]?) KQ;simpa[hx]using this
    have hy':L'[k'+1+t+1]?=some y:=by
     have:=congrArg (fun q=>q[1]?) KQ;simpa[hy]using this
    have gx:=ny oD;have gy:(aj L').drop (k'+1+(t+1))=I y::aj (L'.drop (k'+1+t+1+1)):=ny hy';have X5:=Ob hx hy;rw[show k'+1+t+2=k'+1+(t+1+1) by omega,show k'+1+t+1=k'+1+(t+1) by omega,<- bA]at X5
    have hdn:L'.drop (k'+1+(t+1))=l.drop (k'+1+(t+1)):=by
     have:=congrArg (List.drop 1) KQ;simpa[zzdp,zzao,zzfa,Nat.add_left_comm]using this
    have fP:(t+1:Nat)<l.length-(k'+1):=by omega
    have Oc:((t:Int)+1)<((l.length-(k'+1):Nat):Int):=by omega
    have aks:(t:Int)<((l.length-(k'+1):Nat):Int):=by omega
    have azb:t<l.length-(k'+1):=by omega
    have hwt:IntKind.i64.wrap (t:Int)=(t:Int):=by rw[Qk]<;>omega
    have asU:IntKind.i64.wrap ((t:Int)+1+1)=((t+1+1:Nat):Int):=by rw[Qk]<;>omega
    have Oe:=bH k (by omega);have am9:((t:Int)+1).toNat=t+1:=by omega
    have asV:(0:Int)<=(t:Int)+1:=by omega
    have X6:(k:Int)<(l.length:Int):=by omega
    have ana:k<l.length:=by omega
    have bW:=KN L' k y;by_cases hyx:y=x
    ·rw[if_pos hyx,zzat]at X5;simp[g3,g5,tI,gx,gy,Oc,aks,hwt,asU,am9,asV,hyx,BV];refine⟨aN,⟨k,rfl,t+1,by simp,by omega,X4,by omega,eU,L',rfl,tK,X5.symm,hdn⟩,by omega⟩
    rw[if_neg hyx]at X5;simp[g3,g5,tI,gx,gy,Oc,aks,hwt,asU,Oe,am9,asV,hyx,X6,bW,cE,BV];refine⟨by rw[jq];omega,aN,⟨k+1,by simp,t+1,by simp,by omega,by omega,by omega,eU.set (.inl rfl) _,L'.set k y,Vn _ cE,by simpa using tK,?_,?_⟩,by omega⟩
    ·rw[zzar,zzaz (by omega),zzfu (by omega)];exact X5.symm
    rw[show k'+1+(t+1)=k'+1+(t+1)from rfl,zzfv (by omega)];exact hdn
   have bJ:¬(t:Int)+1<((l.length-(k'+1):Nat):Int):=by omega
   have X6:(k:Int)<(l.length:Int):=by omega
   have ana:k<l.length:=by omega
   have axi:(k:Int)<=(l.length:Int):=by omega
   have akt:dd l=L'.take k:=by rw[bA,zzam (by omega)]
   have asW:(dd l).length=k:=by rw[akt,zzaq];omega
   have eu:aj L'≠[]:=by
    intro h;have:=congrArg List.length h;rw[jq,tK]at this;simp at this;exact aJ this
   have qj:setA (aj L') k (bG (l.length-k) [I 0])=aj (dd l++List.replicate (l.length-k) 0):=by
    have e1:L'=L'.take k++L'.drop k:=by simp
    conv=>lhs;rw[e1]
    rw[nA,nA,FA,akt];have e2:(aj (L'.take k)).length=k:=by rw[Ue,zzaq];omega
    have:=oR (aj (List.replicate (l.length-k) 0)) (aj (L'.take k)) (aj (L'.drop k)) (by rw[Ue,Ue,zzdv,zzco,tK]);rw[e2]at this;exact this
   simp[g3,g5,tI,BV,zY,bJ,X6,axi,cE,eu,jq,tK,qj];refine⟨by omega,?_⟩;have:=hK (B'.set id (aj (dd l++List.replicate (l.length-k) 0))) (List.replicate (l.length-k) 0) (eU.set (.inl rfl) _) (Vn _ cE) (by rw[asW];simp;omega);rw[asW]at this;exact this
  rw[if_neg XD]at hdt;simp[h3,afm,akr,hB,ga,gb,asT,eC,Ap,htn,XD,BU];refine⟨aN,⟨k'+1+1,by omega,by omega,by omega,?_⟩,by omega⟩
  ·rw[show k'+1+1=k'+2 by omega,hdt,Te,zzar (l:=l) (i:=k'+1),hb];rfl
 obtain rfl:k=l.length:=by omega
 rw[zzbn]at Te;have D3:¬((l.length:Nat):Int)<(l.length:Int):=by omega
 have:=hK B [] (aZ.refl _ _) (by rw[Te,zzat];exact hB) (by rw[Te];simp);rw[Te]at this;simp[h3,BU,zY];exact this
def FD(a:Int):Pure Tryz.prog aq 328 [I a] (.bool false):=by
 refine Qn aeK (fun _ _ _=>.junk) (by simp) ?_;simp[ajO,ajP]
def FE(a:Int):Pure Tryz.prog aq 311 [I a] (.bool false):=by
 refine Qn aez (fun _ _ _=>.junk) (by simp) ?_;simp[ajx,ajy]
def Q6(a b:Int):Pure Tryz.prog aq 289 [I a,I b] (.bool (decide (a<b))):=by
 have h:=FD a;refine Qn aev (fun _ _ _=>.bool false) (by simp) ?_;simp[ajr,ajs];exact h
def qW(l:List Int)(x:Int):Nat:=(l.filter fun y=>decide (y<x)).length
def anb{l:List Int}{x:Int}{i:Nat}(hi:i<=l.length)(h1:∀(k:Nat)(y:Int),k<i->l[k]?=some y->y<x)(h2:∀(k:Nat)(y:Int),i<=k->l[k]?=some y->x<=y):qW l x=i:=by
 unfold qW;have e:l=l.take i++l.drop i:=by simp
 rw[e,zzcr]
 have e1:(l.take i).filter (fun y=>decide (y<x))=l.take i:=by
  rw[zzfw];intro y hy;obtain⟨k,hk⟩:=zzca.1 hy;rw[zzbj]at hk;split at hk
  ·simpa using h1 k y (by assumption) hk
  cases hk
 have e2:(l.drop i).filter (fun y=>decide (y<x))=[]:=by
  rw[zzgz];intro y hy;obtain⟨k,hk⟩:=zzca.1 hy;rw[zzbk]at hk;have:=h2 (i+k) y (by omega) hk;simp;omega
 rw[e1,e2];simp;omega
def oS(l:List Int)(x:Int)(hl:l.length<=1000000000)(hs:l.Pairwise (·<=·)):Pure Tryz.prog aq 258 [.sl .ro (l.map fun y=>[I y]),I x] (.aU [I (qW l x:Nat),.bool (decide (l[qW l x]?=some x))]):=by
 refine Qn aeb (fun _ f a=>if f=289 then(match a with|[.int _ a,.int _ b]=>.bool (decide (a<b))|_=>.junk)else .bool false) (by simp) ?_;simp[VG]
 refine Qi qy (fun f m=>∃i j:Nat,f 7=I i/\f 8=I j/\i<=j/\j<=l.length/\m=⟨[],[],fun _=>.gone,0⟩/\(∀(k:Nat)(y:Int),k<i->l[k]?=some y->y<x)/\∀(k:Nat)(y:Int),j<=k->l[k]?=some y->x<=y)
  (fun f _=>(numOf (f 8)).toNat-(numOf (f 7)).toNat) ?_ ?_
 ·refine⟨0,l.length,by simp,by simp,by omega,by omega,rfl,fun k y h=>by omega,fun k y h1 h2=>?_⟩;rw[zzax h1]at h2;cases h2
 rintro f m ⟨i,j,h7,h8,fc,hj,rfl,ha,hb⟩;rcases zzaa i j with ai|bw
 ·have W3:(i+j)/2<l.length:=by omega
  obtain⟨y,hy⟩:∃y,l[(i+j)/2]?=some y:=⟨_,zzad W3⟩;obtain⟨s,hse⟩:∃s,s=(i+j)/2:=⟨_,rfl⟩;rw[<- hse]at hy;have aa:=FB hy;have aku:(i:Int)<(j:Int):=by omega
  have w1:IntKind.i64.wrap ((i:Int)+(j:Int))=((i+j:Nat):Int):=by rw[Qk]<;>omega
  have w2:IntKind.u64.wrap ((i+j:Nat):Int)=((i+j:Nat):Int):=by simp[IntKind.wrap,IntKind.bits,IntKind.signed];omega
  have w3:Int.fdiv ((i:Int)+(j:Int)) (2 ^ min 1 IntKind.u64.bits)=(s:Int):=by
   rw[show(2:Int) ^ min 1 IntKind.u64.bits=2 from rfl,Int.fdiv_eq_ediv_of_nonneg _ (by omega)];omega
  have w4:IntKind.i64.wrap (s:Int)=(s:Int):=by rw[Qk]<;>omega
  have w5:=bH s (by omega);have r8:s<l.length:=by omega
  have asX:(s:Int)<(l.length:Int):=by omega
  have hp:=Q6 y x
  have mono:∀(p q:Nat)(u v:Int),p<=q->l[p]?=some u->l[q]?=some v->u<=v:=by
   intro p q u v hpq hu hv;rcases zzaa p q with h|h
   ·obtain⟨hp1,hu⟩:=zza.1 hu;obtain⟨hq1,hv⟩:=zza.1 hv;have:=(zzdi.1 hs) p q hp1 hq1 h;omega
   obtain rfl:p=q:=by omega
   rw[hu]at hv;cases hv;omega
  by_cases hyx:y<x
  ·have anc:decide (y<x)=true:=decide_eq_true hyx;rw[anc]at hp;simp only[Int.natCast_add]at w1 w2;simp[h7,h8,aku,aa,qy,w1,w2,w3,w4,w5,asX,hyx];refine⟨hp,aN,⟨s+1,by simp,j,rfl,by omega,by omega,fun k z hk hz=>?_,hb⟩,by omega⟩
   ·have:=mono k s z y (by omega) hz hy;omega
  have anc:decide (y<x)=false:=decide_eq_false hyx;rw[anc]at hp;simp only[Int.natCast_add]at w1 w2;simp[h7,h8,aku,aa,qy,w1,w2,w3,w4,asX,hyx];refine⟨hp,aN,⟨i,rfl,s,rfl,by omega,by omega,ha,fun k z hk hz=>?_⟩,by omega⟩
  ·have:=mono s k y z hk hy hz;omega
 obtain rfl:i=j:=by omega
 have iy:=anb hj ha hb;rw[iy];have PV:¬(i:Int)<(i:Int):=by omega
 rcases zzaa i l.length with ai|hge'
 ·obtain⟨y,hy⟩:=aP ai;have aa:=FB hy;have ah:(i:Int)<(l.length:Int):=by omega
  have hn:=FE y;have hli:l[i]=y:=(zza.1 hy).2;by_cases hyx:y=x
  ·subst hyx;simp[h7,h8,ai,ah,aa,qy,NF,hli]
  simp[h7,h8,ai,ah,aa,qy,NF,hli,hyx];exact hn
 have ah:¬(i:Int)<(l.length:Int):=by omega
 have:l[i]?=none:=zzax hge';simp[h7,h8,ah,qy,NF,this]
def Q7(cs:List Cl)(n:Nat):List (List AV):=((List.range n).reverse).map fun(k:Nat)=>[I (k:Int),.agg (Qg (cs.getD k ⟨0,0,0,0,0,0,0,0⟩))]
def nB(cs:List Cl)(n:Nat):Q7 cs (n+1)=[I (n:Int),.agg (Qg (cs.getD n ⟨0,0,0,0,0,0,0,0⟩))]::Q7 cs n:=by
 simp[Q7,zzej]
def mB(cs:List Cl):Pure Tryz.prog aq 257 [.sl .ro (cs.map Qg)] (.fn 310 [] [.ep [.sl .ro (cs.map Qg)] 0]):=by
 refine Qn aea (fun _ _ _=>.junk) (by simp) ?_;simp[ajb,ajc]
def mC(cs:List Cl)(hl:cs.length<=1000000000):Iter Tryz.prog aq 310 [] [.ep [.sl .ro (cs.map Qg)] 0] (Q7 cs cs.length):=by
 intro Y l m K hF;refine Xe aey (fun _ _ _=>.junk) (by simp) ?_;have hw0:IntKind.i64.wrap ((cs.length:Int)-1)=(cs.length:Int)-1:=by rw[Qk]<;>omega
 simp[ajw,hw0];refine Qi JR (fun f mm=>∃i:Nat,f 3=I ((i:Int)-1)/\i<=cs.length/\wj (Y l) K (Q7 cs i) mm) (fun f _=>(numOf (f 3)+1).toNat) ?_ ?_
 ·exact⟨cs.length,by simp,by omega,hF⟩
 rintro f mm ⟨i,h3,hi,hF⟩;cases i with
 |zero=>
  have hK:K mm:=hF mm (fF.refl _);simp[h3,JR,VT];exact hK
 |succ i=>
  obtain⟨c,hc⟩:∃c,cs[i]?=some c:=⟨_,zzad (by omega)⟩;have aa:Qh (cs.map Qg) i=Qg c:=Qr (by simp[hc]);have WH:cs.getD i ⟨0,0,0,0,0,0,0,0⟩=c:=by simp[zzas,hc]
  rw[nB,WH]at hF;have S9:f 3=I i:=by rw[h3];congr 1;omega
  have ah:i<cs.length:=by omega
  have FF:(i:Int)<(cs.length:Int):=by omega
  have hw:IntKind.i64.wrap ((i:Int)-1)=(i:Int)-1:=by rw[Qk]<;>omega
  have Ap:(0:Int)<=(i:Int):=by omega
  simp only[Qg]at hF aa;simp[S9,JR,aa,FF,hw,Ap];refine hF _ (fF.refl _) _ (fun m2 qm=>?_) (fun m2 hK=>?_)
  ·simp;refine⟨aN,⟨i,rfl,by omega,qm⟩⟩
  simp[VT];exact hK _ (fF.refl _)
open Go Go.Abs
def Xn(L:List Nat):List AV:=aj (L.map fun(k:Nat)=>(k:Int))
def X7(L:List Nat):(Xn L).length=L.length:=by simp[Xn,Ue]
def KR{L:List Nat}{i v:Nat}(h:L[i]?=some v):(Xn L).drop i=I (v:Int)::Xn (L.drop (i+1)):=by
 unfold Xn;rw[ny (x:=(v:Int)) (by simp[h]),zzgb]
def X8(L:List Nat)(i v:Nat):(Xn L).set i (I (v:Int))=Xn (L.set i v):=by
 unfold Xn;rw[KN,zzfd]
def WF(L:List Nat)(d:Nat->Bool)(n:Nat):Prop:=L.length=n+1/\∀i v,L[i]?=some v->i<=v/\v<=n/\(v=i<->d i=false)/\∀j,i<=j->j<v->d j=true
def WF.jump{L:List Nat}{d:Nat->Bool}{n i v u:Nat}(h:WF L d n)(h1:L[i]?=some v)(h2:L[v]?=some u)(aJ:v≠i):WF (L.set i u) d n:=by
 obtain⟨hl,hw⟩:=h;refine⟨by simpa using hl,fun k x hk=>?_⟩;have gL:i<L.length:=(zza.1 h1).1;obtain⟨a1,a2,a3,a4⟩:=hw i v h1;obtain⟨b1,b2,b3,b4⟩:=hw v u h2;by_cases eT:k=i
 ·subst eT;rw[zzaz gL]at hk;cases hk;refine⟨by omega,b2,?_,fun j ew qg=>?_⟩
  ·have hd:d k≠false:=fun h=>aJ (a3.2 h);constructor
   ·intro h;omega
   intro h;exact absurd h hd
  rcases zzaa j v with h|h
  ·exact a4 j ew h
  exact b4 j h qg
 rw[zzbe (fun h=>eT h.symm)]at hk;exact hw k x hk
def Of(Y:YT)(i n c Is:Nat)(L:List Nat)(d:Nat->Bool)(hw:WF L d n)(hi:i<=n)(hn:n<=1000000000)(B:List (List AV))(Lm:List Nat)(st:Nat->LS)(ln:Nat)(hc:c<B.length)(axj:Is<B.length)(aJ:c≠Is)
  (hBc:Qh B c=[.bs Is 0 (n+1) 1])(X9:Qh B Is=Xn L)(K:AV->AM->Prop)
  (hK:∀(B':List (List AV))(L':List Nat)(r:Nat),aZ (·=Is) B B'->Qh B' Is=Xn L'->WF L' d n->i<=r->r<=n->d r=false->(∀j,i<=j->j<r->d j=true)->K (I r) ⟨B',Lm,st,ln⟩):
  an Tryz.prog aq Y 256 [I i,.ptr c 0] ⟨B,Lm,st,ln⟩ K:=by
 refine Xe ad9 (fun _ _ _=>.junk) (by simp) ?_;simp[VF];refine Qi JQ (fun f m=>∃(k:Nat)(B':List (List AV))(L':List Nat),f 0=I k/\i<=k/\k<=n/\m=⟨B',Lm,st,ln⟩/\aZ (·=Is) B B'/\Qh B' Is=Xn L'/\WF L' d n/\∀j,i<=j->j<k->d j=true) (fun f _=>n-(numOf (f 0)).toNat) ?_ ?_
 ·exact⟨i,B,L,by simp,by omega,hi,rfl,aZ.refl _ _,X9,hw,fun j h1 h2=>by omega⟩
 rintro f m ⟨k,B',L',h0,qO,D3,rfl,eU,hBl',Iu,hd⟩;have Ys:Is<B'.length:=zzbb axj eU.1;have ane:Qh B' c=[.bs Is 0 (n+1) 1]:=by rw[eU.2 c hc aJ];exact hBc
 obtain⟨ez,eC⟩:=Iu;obtain⟨v,hv⟩:∃v,L'[k]?=some v:=⟨_,zzad (by omega)⟩;obtain⟨v1,v2,v3,v4⟩:=eC k v hv;obtain⟨u,hu⟩:∃u,L'[v]?=some u:=⟨_,zzad (by omega)⟩;obtain⟨u1,u2,u3,u4⟩:=eC v u hu;have gv:=KR hv;have gu:=KR hu;have zj:k<n+1:=by omega
 have zo:(k:Int)<(n:Int)+1:=by omega
 have hvl:v<n+1:=by omega
 have axk:(v:Int)<(n:Int)+1:=by omega
 have aI:=X7 L';by_cases hvk:v=k
 ·subst hvk;simp[h0,ane,hBl',gv,zo,JQ,aja];exact hK B' L' v eU hBl' ⟨ez,eC⟩ qO D3 (v3.1 rfl) hd
 have axl:¬(v:Int)=(k:Int):=by omega
 have bW:=X8 L' k u;have hW:=WF.jump ⟨ez,eC⟩ hv hu hvk;have J6:(L'.set k u)[k]?=some u:=zzaz (by omega);have gu2:=KR J6;have azc:Is<(B'.set Is (Xn (L'.set k u))).length:=by simpa using Ys
 have yS:Qh (B'.set Is (Xn (L'.set k u))) Is=Xn (L'.set k u):=Vn _ Ys;have iw:Qh (B'.set Is (Xn (L'.set k u))) c=[.bs Is 0 (n+1) 1]:=by rw[Zu _ (fun h=>aJ h.symm)];exact ane
 simp[h0,ane,hBl',gv,gu,zo,axk,axl,JQ,bW,yS,iw,gu2,aI,ez,Ys];refine⟨by omega,aN,⟨u,rfl,by omega,by omega,eU.set (.inl rfl) _,_,rfl,hW,fun j h1 h2=>?_⟩,by omega⟩
 ·rcases zzaa j k with h|h
  ·exact hd j h1 h
  rcases zzaa j v with h3|h3
  ·exact v4 j h h3
  exact u4 j h3 h2
open Go Go.Abs
def FG(item region:Int)(c:Cl):Bool:=decide (c.ki=1\/c.ki=2)&&(gP c item region&&Xi c)
def Kz(cs:List Cl)(item region:Int):List Cl:=cs.filter (FG item region)
def eV:List Cl->List Int
 |[]=>[]
 |c::r=>c.fr::c.to::eV r
def oT:∀a b:List Cl,eV (a++b)=eV a++eV b
 |[],_=>rfl
 |c::r,b=>by simp[eV,oT r b]
def oU:∀a:List Cl,(eV a).length=2*a.length
 |[]=>rfl
 |c::r=>by simp[eV,oU r];omega
def oV{c:Cl}:∀{a:List Cl},c∈a->c.fr∈eV a/\c.to∈eV a
 |[],h=>by cases h
 |d::r,h=>by
  rcases zzau.1 h with rfl|h
  ·simp[eV]
  have:=oV h;simp[eV,this.1,this.2]
def dB(C:List Cl):List Int:=dd ((eV C).mergeSort fun x y=>decide (x<=y))
def Og(C:List Cl):(dB C).Pairwise (·<·):=by
 refine X3 ?_;have:=zzgr (le:=fun x y:Int=>decide (x<=y)) (fun a b c h1 h2=>by simp at*;omega) (fun a b=>by simp;omega) (eV C);exact this.imp (by simp)
def uo(C:List Cl)(x:Int):x∈dB C<->x∈eV C:=by
 unfold dB;rw[KP,(zzfx _ _).mem_iff]
def Oh(C:List Cl):(dB C).length<=2*C.length:=by
 have h1:=KO ((eV C).mergeSort fun x y=>decide (x<=y));rw[zzeq,oU]at h1;exact h1
abbrev GS:=List (Option Bool)
def stepG(s:GS)(a b:Nat)(v:Bool):GS:=s.mapIdx fun j o=>if a<=j/\j<b/\o=none then some v else o
def Q8(Bd:List Int)(s:GS)(c:Cl):GS:=stepG s (qW Bd c.fr) (qW Bd c.to) (decide (c.ki=1))
def wB(C:List Cl):GS:=C.reverse.foldl (Q8 (dB C)) (List.replicate (dB C).length none)
def CO(Bd:List Int)(s:GS)(i:Nat):List Sp:=if s[i]?=some (some true)then[(Bd.getD i 0,Bd.getD (i+1) 0)]else[]
def nC(Bd:List Int)(s:GS)(n:Nat):List Sp:=(List.range n).flatMap (CO Bd s)
def Qcb(cs:List Cl)(item region:Int):List Sp:=Xk (nC (dB (Kz cs item region)) (wB (Kz cs item region)) (dB (Kz cs item region)).length)
def qX(s:GS)(a b:Nat)(v:Bool):(stepG s a b v).length=s.length:=by simp[stepG]
def Uu(s:GS)(a b:Nat)(v:Bool)(j:Nat):(stepG s a b v)[j]?=(s[j]?).map fun o=>if a<=j/\j<b/\o=none then some v else o:=by simp[stepG]
def AQ(s:GS)(a b:Nat)(v:Bool)(h:b<=a):stepG s a b v=s:=by
 apply zzcj;intro j;rw[Uu];cases s[j]? with
 |none=>rfl
 |some o=>simp;intro h1 h2;omega
def KS(s:GS)(a k:Nat)(v:Bool)(hak:a<=k)(hk:s[k]?=some none):stepG s a (k+1) v=(stepG s a k v).set k (some v):=by
 have ai:k<s.length:=(zza.1 hk).1;apply zzcj;intro j;rw[Uu];by_cases yU:j=k
 ·subst yU;rw[zzaz (by rw[qX];exact ai),hk];simp[hak]
 rw[zzbe (fun h=>yU h.symm),Uu];cases s[j]? with
 |none=>rfl
 |some o=>
  simp only[zzcs];congr 1;by_cases h:a<=j/\j<k/\o=none
  ·rw[if_pos h,if_pos ⟨h.1,by omega,h.2.2⟩]
  rw[if_neg h,if_neg (fun h'=>h ⟨h'.1,by omega,h'.2.2⟩)]
def wC(s:GS)(a k r:Nat)(v:Bool)(hkr:k<=r)(h:∀j,k<=j->j<r->s[j]?≠some none):stepG s a r v=stepG s a k v:=by
 apply zzcj;intro j;rw[Uu,Uu];cases hj:s[j]? with
 |none=>rfl
 |some o=>
  simp only[zzcs];congr 1;by_cases h1:a<=j/\j<k/\o=none
  ·rw[if_pos h1,if_pos ⟨h1.1,by omega,h1.2.2⟩]
  rw[if_neg h1];by_cases h2:a<=j/\j<r/\o=none
  ·exfalso
   have hkj:k<=j:=by
    rcases zzaa j k with h3|h3
    ·exact absurd ⟨h2.1,h3,h2.2.2⟩ h1
    exact h3
   exact h j hkj h2.2.1 (by rw[hj,h2.2.2])
  rw[if_neg h2]
def gB(s:GS):List Bool:=s.map fun o=>o==some true
def nD(s:GS)(j:Nat):Bool:=match s[j]? with
 |some (some _)=>true
 |_=>false
def Zh(l:List Bool):List AV:=l.map AV.bool
def anf(l:List Bool):(Zh l).length=l.length:=by simp[Zh]
def ang{l:List Bool}{i:Nat}{x:Bool}(h:l[i]?=some x):(Zh l).drop i=.bool x::Zh (l.drop (i+1)):=by
 unfold Zh;rw[<- zzgb];have ai:=(zza.1 h).1;rw[zzaf ai,(zza.1 h).2];rfl
def anh(l:List Bool)(i:Nat)(x:Bool):(Zh l).set i (.bool x)=Zh (l.set i x):=by simp[Zh,zzfd]
def YA(n:Nat):bG n [.bool false]=Zh (List.replicate n false):=by
 induction n with
 |zero=>rfl
 |succ n ih=>rw[bG,ih];rfl
def ani(s:GS)(k:Nat)(v:Bool):gB (s.set k (some v))=(gB s).set k v:=by
 unfold gB;rw[zzfd];cases v<;>rfl
def afn(n:Nat):gB (List.replicate n none)=List.replicate n false:=by
 unfold gB;rw[List.map_replicate];rfl
def WF.init(n:Nat)(d:Nat->Bool)(hd:∀j,d j=false):WF (List.range (n+1)) d n:=by
 refine⟨by simp,fun i v h=>?_⟩;obtain⟨h1,h2⟩:=zza.1 h;simp at h1 h2;subst h2;exact⟨by omega,by omega,⟨fun _=>hd _,fun _=>rfl⟩,fun j h3 h4=>by omega⟩
def WF.dec{L:List Nat}{d d':Nat->Bool}{n k:Nat}(h:WF L d n)(hk:k<n)(hd:d' k=true)(hd2:∀j,j≠k->d' j=d j):WF (L.set k (k+1)) d' n:=by
 obtain⟨hl,hw⟩:=h;refine⟨by simpa using hl,fun i v hv=>?_⟩;by_cases qO:i=k
 ·subst qO;rw[zzaz (by omega)]at hv;cases hv;refine⟨by omega,by omega,?_,fun j h1 h2=>?_⟩
  ·constructor
   ·intro h;omega
   intro h;rw[hd]at h;cases h
  obtain rfl:j=i:=by omega
  exact hd
 rw[zzbe (fun h=>qO h.symm)]at hv;obtain⟨a1,a2,a3,a4⟩:=hw i v hv;refine⟨a1,a2,by rw[hd2 i qO];exact a3,fun j h1 h2=>?_⟩;by_cases yU:j=k
 ·subst yU;exact hd
 rw[hd2 j yU];exact a4 j h1 h2
def YB(s:GS)(k:Nat)(v:Bool)(hk:k<s.length):nD (s.set k (some v)) k=true/\∀j,j≠k->nD (s.set k (some v)) j=nD s j:=by
 constructor
 ·unfold nD;rw[zzaz hk]
 intro j hj;unfold nD;rw[zzbe (fun h=>hj h.symm)]
def anj(l:List Int)(x:Int):qW l x<=l.length:=zzbs _ _
def KT{l:List Int}{x:Int}(h:x∈l):qW l x<l.length:=by
 unfold qW;have h1:=zzbs (fun y=>decide (y<x)) l;rcases zzaa (l.filter fun y=>decide (y<x)).length l.length with h2|h2
 ·exact h2
 have h3:(l.filter fun y=>decide (y<x)).length=l.length:=by omega
 have h4:=(List.length_filter_eq_length_iff.1 h3) x h;simp at h4
open Go Go.Abs
def CP(Y:YT)(m:AM)(K:AV->AM->Prop)(hK:K (.sl .nil []) m):an Tryz.prog aq Y 161 [.sl .nil []] m K:=by
 refine Xe BT (fun _ _ _=>.junk) (by simp) ?_;simp[uY,zY];exact hK
def yV(Bd:List Int)(R:List Sp):Nat->FuncId->List AV->AV:=fun d f l=>
 if f=999999 then(if d=59 then .aK 0 []else .junk)else
 if f=255 then(match l with
  |[.agg [.int _ a,.int _ b,.int _ c,.int _ d,.int _ e,.int _ f,.int _ g,.int _ h],.int _ i,.int _ r]=>.bool (gP ⟨a,b,c,d,e,f,g,h⟩ i r)
  |_=>.junk)else
 if f=83 then(match l with
  |[.agg [.int _ a,.int _ b,.int _ c,.int _ d,.int _ e,.int _ f,.int _ g,.int _ h]]=>.bool (Xi ⟨a,b,c,d,e,f,g,h⟩)
  |_=>.junk)else
 if f=257 then(match l with
  |[.sl _ rows]=>.fn 310 [] [.ep [.sl .ro rows] 0]
  |_=>.junk)else
 if f=258 then(match l with
  |[_,.int _ x]=>.aU [I (qW Bd x:Nat),.bool (decide (Bd[qW Bd x]?=some x))]
  |_=>.junk)else
 if f=182 then .sl .ro (R.map Qe)else .gd false .junk
def afo(B:List (List AV))(C:List Cl):Prop:=(C=[]/\Qh B 0=[.sl .nil []])\/(C≠[]/\∃aQ,Qh B 0=[.bs aQ 0 (eV C).length 1]/\aQ≠0/\aQ<B.length/\Qh B aQ=aj (eV C))
def afo.app{B:List (List AV)}{C:List Cl}(h:afo B C)(h0:0<B.length)(x:List (List AV)):afo (B++x) C:=by
 obtain⟨h1,h2⟩|⟨h1,aQ,h2,h3,h4,h5⟩:=h
 ·exact .inl ⟨h1,by rw[Ql h0];exact h2⟩
 exact .inr ⟨h1,aQ,by rw[Ql h0];exact h2,h3,by simp;omega,by rw[Ql h4];exact h5⟩
def CQ:SC:=(⟨_,by cbv⟩:tJ [1,1,1,1,1,1,1,1,1,1,1] rV).1
def YC:SC->SC:=(⟨_,fun _=>by cbv⟩:Kt [1,1,1] (Kj [1,1,1,1,1,1,1,1] rV)).1
def akv:SC->SC:=(⟨_,fun _=>by cbv⟩:Kt [1,1,1,1,1,1,1,1] rV).1
theorem YD:rV=akv (YC CQ):=rfl
def YF(Bd:List Int)(s:GS)(i:Nat):(CO Bd s i).length<=1:=by unfold CO;split<;>simp
def qY(Bd:List Int)(s:GS)(n:Nat):nC Bd s (n+1)=nC Bd s n++CO Bd s n:=by simp[nC,zzej]
def wD(Bd:List Int)(s:GS):∀n,(nC Bd s n).length<=n
 |0=>by simp[nC]
 |n+1=>by
  have h1:=wD Bd s n;have h2:=YF Bd s n;rw[qY,zzai];omega
def wE(Bd z:List Int)(s:GS)(R:List Sp)(n:Nat)(hn:s.length=n)(hn9:n<=10000000)(hR:R=Xk (nC Bd s n))(E:List (Nat×AV))(B:List (List AV))(Lm:List Nat)(st:Nat->LS)(ln:Nat)(g g1:Nat)(Bd0:List Int)
  (h8:Abs.look E 8=.ptr 0 0)(iz:Abs.look E 11=.ptr g1 0)(hg1:Qh B g1=[.bs g 0 n 1])(hg:Qh B g=Zh (gB s))
  (hb:∀i,s[i]?=some (some true)->∃aQ,Qh B 0=[.bs aQ 0 n 1]/\Qh B aQ=aj (Bd++z)/\i+1<Bd.length/\Bd.length=n):
  vc Tryz.prog aq (yV Bd0 R) Y0 CQ ⟨Zb 145 E,⟨B,Lm,st,ln⟩⟩ (post Tryz.prog aq (yV Bd0 R) EA (.sl .ro (R.map Qe))):=by
 have iV:(gB s).length=n:=by simp[gB,hn]
 simp[CQ,iz,hg1]
 refine Qi qx (fun f m=>∃(i:Nat)(o:List Sp)(rt:Rt)(Lm':List Nat),i<=n/\f 123=I i/\f 22=.sl rt (o.map Qe)/\m=⟨B,Lm',st,ln⟩/\o=nC Bd s i/\((o=[]/\rt=.nil/\Lm'=Lm)\/(o≠[]/\rt=.own Lm.length 2/\Lm'=Lm++[o.length])))
  (fun f _=>n-(numOf (f 123)).toNat) ?_ ?_
 ·exact⟨0,[],.nil,Lm,by omega,by simp,by simp,rfl,by simp[nC],.inl ⟨rfl,rfl,rfl⟩⟩
 rintro f m ⟨i,o,rt,Lm',hi,h123,h22,rfl,ho,aT⟩;have Iv:o.length<=i:=by rw[ho];exact wD Bd s i
 rcases zzaa i n with ai|bw
 ·obtain⟨v,hv⟩:∃v,s[i]?=some v:=⟨_,zzad (by omega)⟩;have hgv:(gB s)[i]?=some (v==some true):=by simp[gB,hv]
  have gg:=ang hgv;have ah:(i:Int)<(n:Int):=by omega
  have hw:=bH i (by omega);have dL:=qY Bd s i;rw[<- ho]at dL;by_cases hvt:v=some true
  ·subst hvt;obtain⟨aQ,b1,b2,b3,b4⟩:=hb i hv;obtain⟨x,hx⟩:∃x,Bd[i]?=some x:=⟨_,zzad (by omega)⟩;obtain⟨y,hy⟩:∃y,Bd[i+1]?=some y:=⟨_,zzad b3⟩;have gx:=ny (l:=Bd++z) (i:=i) (x:=x) (by rw[zzag (by omega)];exact hx);have gy:=ny (l:=Bd++z) (i:=i+1) (x:=y) (by rw[zzag (by omega)];exact hy);have hou:CO Bd s i=[(x,y)]:=by simp[CO,hv,hx,hy]
   rw[hou]at dL;simp at gg;have hi1:i+1<n:=by omega
   have asY:(i:Int)+1<(n:Int):=by omega
   have Ap:(0:Int)<=(i:Int)+1:=by omega
   have htn:((i:Int)+1).toNat=i+1:=by omega
   have iw:∀row∈o.map Qe,row.length=2:=by
    intro row h;rw[zzaw]at h;obtain⟨a,_,rfl⟩:=h;rfl
   obtain⟨rfl,rfl,rfl⟩|⟨aJ,rfl,rfl⟩:=aT
   ·simp[h123,h22,ah,hg,gg,qx,hw,h8,b1,b2,gx,gy,asY,Ap,htn,yV];refine⟨aN,⟨i+1,by omega,by simp,[(x,y)],_,⟨rfl,rfl⟩,by rw[dL];rfl,by simp⟩,by omega⟩
   simp[h123,h22,ah,hg,gg,qx,hw,h8,b1,b2,gx,gy,asY,Ap,htn];refine⟨⟨?_,by omega⟩,aN,⟨i+1,by omega,by simp,o++[(x,y)],_,⟨rfl,by simp[Qe]⟩,dL.symm,by simp⟩,by omega⟩
   ·rintro row (⟨a,b,_,rfl⟩|rfl)<;>rfl
  have hou:CO Bd s i=[]:=by
   unfold CO;rw[hv,if_neg];intro h;cases h;exact hvt rfl
  rw[hou,zzat]at dL;have hvb:(v==some true)=false:=by simpa using hvt
  rw[hvb]at gg;simp[h123,h22,ah,hg,gg,qx,hw];refine⟨aN,⟨i+1,by omega,by simp,o,rt,⟨rfl,rfl⟩,dL.symm,aT⟩,by omega⟩
 obtain rfl:i=n:=by omega
 rw[<- ho]at hR;have ank:=Um o (by omega);rw[<- hR]at ank;obtain⟨rfl,rfl,rfl⟩|⟨aJ,rfl,rfl⟩:=aT
 ·simp[h123,h22,qx,EA,yV];exact Zj ank ⟨Wk.sl _ _,trivial⟩
 simp[h123,h22,qx,EA,yV];exact ank
end
end Go.Proofs.YtnopaopphmjnmaaGreatDoor
