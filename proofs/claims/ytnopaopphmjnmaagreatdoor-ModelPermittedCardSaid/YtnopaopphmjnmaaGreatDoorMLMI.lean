import Derived.Test.YtnopaopphmjnmaaGreatDoorMLSpG
set_option linter.all false
set_option maxRecDepth 100000
set_option maxHeartbeats 64000000
namespace Go.Proofs.YtnopaopphmjnmaaGreatDoor
noncomputable section
open Go Go.Abs
def Ug(l:List Int):(aj l).length=l.length:=by simp[aj]
def nF{l:List Int}{i:Nat}{x:Int}(h:l[i]?=some x):(aj l).drop i=I x::aj (l.drop (i+1)):=by
 unfold aj;rw[<- zzgk];have ai:=(zza.1 h).1;rw[zzaf ai,(zza.1 h).2];rfl
def KG(l:List Int)(i:Nat)(x:Int):(aj l).set i (I x)=aj (l.set i x):=by simp[aj,zzfi]
def nG(a b:List Int):aj (a++b)=aj a++aj b:=by simp[aj]
def XS(l:List Int):Zg (aj l)=true:=by
 simp[Zg,aj]
def wO:∀(l:List Int)(r:List AV),aV 1 l.length (aj l++r)=l.map fun x=>[I x]
 |[],_=>rfl
 |s::l,r=>by simpa[aj]using wO l r
def Fz(n:Nat):bG n [I 0]=aj (List.replicate n 0):=by
 induction n with
 |zero=>rfl
 |succ n ih=>rw[bG,ih];rfl
def FA{l:List Int}{i:Nat}{x:Int}(h:l[i]?=some x):Qh (l.map fun x=>[I x]) i=[I x]:=Qs (by simp[h])
def dd:List Int->List Int
 |[]=>[]
 |[x]=>[x]
 |x::y::r=>if x=y then dd (y::r)else x::dd (y::r)
theorem FB(x y:Int)(r:List Int):dd (x::y::r)=if x=y then dd (y::r)else x::dd (y::r):=rfl
def CW:∀(p:List Int)(a b:Int),dd (p++[a]++[b])=dd (p++[a])++(if b=a then[]else[b])
 |[],a,b=>by
  by_cases h:b=a
  ·subst h;simp[dd]
  have:¬a=b:=fun e=>h e.symm;simp[dd,h,this]
 |[x],a,b=>by
  have ih:=CW [] a b;simp only[zzai,zzae]at ih |-
  rw[FB x a [b],FB x a [],ih];by_cases hx:x=a
  ·rw[if_pos hx,if_pos hx]
  rw[if_neg hx,if_neg hx];rfl
 |x::y::p,a,b=>by
  have ih:=CW (y::p) a b;simp only[zzae]at ih |-
  rw[FB x y (p++[a]++[b]),FB x y (p++[a]),ih];by_cases hx:x=y
  ·rw[if_pos hx,if_pos hx]
  rw[if_neg hx,if_neg hx];rfl
def N7{l:List Int}{j:Nat}{a b:Int}(ha:l[j]?=some a)(hb:l[j+1]?=some b):dd (l.take (j+2))=dd (l.take (j+1))++(if b=a then[]else[b]):=by
 have e1:l.take (j+1)=l.take j++[a]:=by rw[zzas,ha];rfl
 have e2:l.take (j+2)=l.take j++[a]++[b]:=by rw[show j+2=(j+1)+1 from rfl,zzas,hb,e1];rfl
 rw[e2,e1,CW]
def KH:∀l:List Int,(dd l).length<=l.length
 |[]=>by simp[dd]
 |[x]=>by simp[dd]
 |x::y::r=>by
  have:=KH (y::r);rw[dd];split<;>simp at*<;>omega
def KI:∀(l:List Int)(x:Int),x∈dd l<->x∈l
 |[],x=>by simp[dd]
 |[y],x=>by simp[dd]
 |a::b::r,x=>by
  have ih:=KI (b::r) x;rw[dd];split
  ·rename_i h;subst h;rw[ih];simp
  rw[zzat,ih,zzat (a:=x) (b:=a)]
def XT:∀{l:List Int},l.Pairwise (·<=·)->(dd l).Pairwise (·<·)
 |[],_=>by simp[dd]
 |[x],_=>by simp[dd]
 |x::y::r,h=>by
  obtain⟨h1,h2⟩:=zzbx.1 h;have ih:=XT h2;rw[dd];split
  ·exact ih
  rename_i aK;refine zzbx.2 ⟨fun z hz=>?_,ih⟩;have hz':=(KI _ _).1 hz;have hxy:=h1 y (by simp);rcases zzat.1 hz' with rfl|hz'
  ·omega
  have:=(zzbx.1 h2).1 z hz';omega
def sD(Y:YT)(l:List Int)(hl:l.length<=1000000000)(B:List (List AV))(L:List Nat)(st:Nat->LS)(n id:Nat)(aN:id<B.length)(aK:l≠[])(hB:Qh B id=aj l)(K:AV->AM->Prop)
  (hK:∀(B':List (List AV))(z:List Int),bn (·=id) B B'->Qh B' id=aj (dd l++z)->(dd l).length+z.length=l.length->K (.bs id 0 (dd l).length 1) ⟨B',L,st,n⟩):
  an Tryz.prog az Y 161 [.bs id 0 l.length 1] ⟨B,L,st,n⟩ K:=by
 have aH:=Ug l;have eR:0<l.length:=zzcw.2 aK;refine Xe BV (fun _ _ _=>.junk) (by simp) ?_;by_cases h2:l.length<2
 ·have D6:(l.length:Int)<2:=by omega
  have hd:dd l=l:=by
   match l,aK,h2 with
   |[x],_,_=>rfl
  have:=hK B [] (bn.refl _ _) (by rw[hd,zzau];exact hB) (by rw[hd];simp);rw[hd]at this;simp[vj,Af,D6,h2];exact this
 have D6:¬(l.length:Int)<2:=by omega
 simp[vj,D6,h2];refine Qi BW (fun f m=>∃k:Nat,f 3=I k/\1<=k/\k<=l.length/\m=⟨B,L,st,n⟩/\dd (l.take k)=l.take k) (fun f _=>l.length-(numOf (f 3)).toNat) ?_ ?_
 ·refine⟨1,by simp,by omega,by omega,rfl,?_⟩
  match l,aK with
  |x::r,_=>rfl
 rintro f m ⟨k,h3,cV,hk,rfl,Ti⟩;rcases zzaa k l.length with ai|bu
 ·obtain⟨k',rfl⟩:∃k',k=k'+1:=⟨k-1,by omega⟩;obtain⟨a,ha⟩:∃a,l[k']?=some a:=⟨_,zzac (by omega)⟩;obtain⟨b,hb⟩:∃b,l[k'+1]?=some b:=⟨_,zzac ai⟩;have ga:=nF ha;have gb:=nF hb;have aeZ:((k':Int)+1)<(l.length:Int):=by omega
  have ajR:(k':Int)<(l.length:Int):=by omega
  have QL:k'<l.length:=by omega
  have fC:IntKind.i64.wrap ((k':Int)+1-1)=(k':Int):=by rw[Qk]<;>omega
  have arT:IntKind.i64.wrap (k':Int)=(k':Int):=by rw[Qk]<;>omega
  have ee:IntKind.i64.wrap ((k':Int)+1+1)=((k'+1+1:Nat):Int):=by rw[Qk]<;>omega
  have Az:(0:Int)<=(k':Int)+1:=by omega
  have htn:((k':Int)+1).toNat=k'+1:=by omega
  have hdt:=N7 ha hb;by_cases hab:b=a
  ·rw[if_pos hab,zzau]at hdt;simp[h3,ai,aeZ,ajR,QL,hB,ga,gb,fC,arT,ee,Az,htn,hab,BW];have ck:(k':Int)+1<=(l.length:Int):=by omega
   refine⟨ck,?_⟩
   refine Qi BY (fun f m=>∃(k t:Nat)(B':List (List AV))(L':List Int),f 3=I k/\f 5=I ((t+1:Nat):Int)/\k'+1+(t+1)<=l.length/\1<=k/\k<=k'+1+t/\m=⟨B',L,st,n⟩/\bn (·=id) B B'/\Qh B' id=aj L'/\L'.length=l.length/\
    L'.take k=dd (l.take (k'+1+(t+1)))/\L'.drop (k'+1+t)=l.drop (k'+1+t)) (fun f _=>l.length-(k'+1)-(numOf (f 5)).toNat) ?_ ?_
   ·refine⟨k'+1,0,B,l,by simp[h3],by simp,by omega,by omega,by omega,rfl,bn.refl _ _,hB,rfl,?_,rfl⟩;rw[show k'+1+(0+1)=k'+2 by omega,hdt,Ti]
   rintro g m ⟨k,t,B',L',g3,g5,ht,XU,hkt,rfl,fG,tK,tN,bB,FC⟩;have cE:id<B'.length:=zzbc aN fG.1;have jv:=Ug L';rcases zzaa (k'+1+(t+1)) l.length with uj|hjg
   ·obtain⟨x,hx⟩:∃x,l[k'+1+t]?=some x:=⟨_,zzac (by omega)⟩;obtain⟨y,hy⟩:∃y,l[k'+1+t+1]?=some y:=⟨_,zzac (by omega)⟩
    have kL:L'[k'+1+t]?=some x:=by
     have:=congrArg (fun q=>q[0]?) FC;simpa[hx]using this
    have hy':L'[k'+1+t+1]?=some y:=by
     have:=congrArg (fun q=>q[1]?) FC;simpa[hy]using this
    have gx:=nF kL;have gy:(aj L').drop (k'+1+(t+1))=I y::aj (L'.drop (k'+1+t+1+1)):=nF hy';have XV:=N7 hx hy;rw[show k'+1+t+2=k'+1+(t+1+1) by omega,show k'+1+t+1=k'+1+(t+1) by omega,<- bB]at XV
    have hdn:L'.drop (k'+1+(t+1))=l.drop (k'+1+(t+1)):=by
     have:=congrArg (List.drop 1) FC;simpa[zzds,zzan,zzff,Nat.add_left_comm]using this
    have eE:(t+1:Nat)<l.length-(k'+1):=by omega
    have N8:((t:Int)+1)<((l.length-(k'+1):Nat):Int):=by omega
    have ajS:(t:Int)<((l.length-(k'+1):Nat):Int):=by omega
    have ajT:t<l.length-(k'+1):=by omega
    have hwt:IntKind.i64.wrap (t:Int)=(t:Int):=by rw[Qk]<;>omega
    have arU:IntKind.i64.wrap ((t:Int)+1+1)=((t+1+1:Nat):Int):=by rw[Qk]<;>omega
    have Q3:=bJ k (by omega);have ams:((t:Int)+1).toNat=t+1:=by omega
    have arV:(0:Int)<=(t:Int)+1:=by omega
    have XW:(k:Int)<(l.length:Int):=by omega
    have KJ:k<l.length:=by omega
    have bV:=KG L' k y;by_cases hyx:y=x
    ·rw[if_pos hyx,zzau]at XV;simp[g3,g5,tK,gx,gy,eE,N8,ajS,ajT,hwt,arU,ams,arV,hyx,BY];refine⟨aO,⟨k,rfl,t+1,by simp,by omega,XU,by omega,fG,L',rfl,tN,XV.symm,hdn⟩,by omega⟩
    rw[if_neg hyx]at XV;simp[g3,g5,tK,gx,gy,eE,N8,ajS,ajT,hwt,arU,Q3,ams,arV,hyx,XW,KJ,bV,cE,BY];refine⟨by rw[jv];omega,aO,⟨k+1,by simp,t+1,by simp,by omega,by omega,by omega,fG.set (.inl rfl) _,L'.set k y,Vp _ cE,by simpa using tN,?_,?_⟩,by omega⟩
    ·rw[zzas,zzb (by omega),zzga (by omega)];exact XV.symm
    rw[show k'+1+(t+1)=k'+1+(t+1)from rfl,zzgb (by omega)];exact hdn
   have bI:¬(t:Int)+1<((l.length-(k'+1):Nat):Int):=by omega
   have XW:(k:Int)<(l.length:Int):=by omega
   have KJ:k<l.length:=by omega
   have awj:(k:Int)<=(l.length:Int):=by omega
   have ajU:dd l=L'.take k:=by rw[bB,zzap (by omega)]
   have arW:(dd l).length=k:=by rw[ajU,zzaq];omega
   have ei:aj L'≠[]:=by
    intro h;have:=congrArg List.length h;rw[jv,tN]at this;simp at this;exact aK this
   have qo:setA (aj L') k (bG (l.length-k) [I 0])=aj (dd l++List.replicate (l.length-k) 0):=by
    have e1:L'=L'.take k++L'.drop k:=by simp
    conv=>lhs;rw[e1]
    rw[nG,nG,Fz,ajU];have e2:(aj (L'.take k)).length=k:=by rw[Ug,zzaq];omega
    have:=o8 (aj (List.replicate (l.length-k) 0)) (aj (L'.take k)) (aj (L'.drop k)) (by rw[Ug,Ug,zzdx,zzcr,tN]);rw[e2]at this;exact this
   simp[g3,g5,tK,BY,Af,bI,XW,KJ,awj,cE,ei,jv,tN,qo];refine⟨by omega,?_⟩;have:=hK (B'.set id (aj (dd l++List.replicate (l.length-k) 0))) (List.replicate (l.length-k) 0) (fG.set (.inl rfl) _) (Vp _ cE) (by rw[arW];simp;omega);rw[arW]at this;exact this
  rw[if_neg hab]at hdt;simp[h3,ai,aeZ,ajR,QL,hB,ga,gb,fC,arT,ee,Az,htn,hab,BW];refine⟨aO,⟨k'+1+1,by omega,by omega,by omega,?_⟩,by omega⟩
  ·rw[show k'+1+1=k'+2 by omega,hdt,Ti,zzas (l:=l) (i:=k'+1),hb];rfl
 obtain rfl:k=l.length:=by omega
 rw[zzbs]at Ti;have D5:¬((l.length:Nat):Int)<(l.length:Int):=by omega
 have:=hK B [] (bn.refl _ _) (by rw[Ti,zzau];exact hB) (by rw[Ti];simp);rw[Ti]at this;simp[h3,BW,Af];exact this
def FD(a:Int):Pure Tryz.prog az 328 [I a] (.bool false):=by
 refine Qn aep (fun _ _ _=>.junk) (by simp) ?_;simp[aje,ajf]
def FE(a:Int):Pure Tryz.prog az 311 [I a] (.bool false):=by
 refine Qn aee (fun _ _ _=>.junk) (by simp) ?_;simp[aiX,aiY]
def Q4(a b:Int):Pure Tryz.prog az 289 [I a,I b] (.bool (decide (a<b))):=by
 have h:=FD a;refine Qn aea (fun _ _ _=>.bool false) (by simp) ?_;simp[aiR,aiS];exact h
def qX(l:List Int)(x:Int):Nat:=(l.filter fun y=>decide (y<x)).length
def amt{l:List Int}{x:Int}{i:Nat}(hi:i<=l.length)(h1:∀(k:Nat)(y:Int),k<i->l[k]?=some y->y<x)(h2:∀(k:Nat)(y:Int),i<=k->l[k]?=some y->x<=y):qX l x=i:=by
 unfold qX;have e:l=l.take i++l.drop i:=by simp
 rw[e,zzcu]
 have e1:(l.take i).filter (fun y=>decide (y<x))=l.take i:=by
  rw[zzgc];intro y hy;obtain⟨k,hk⟩:=zzby.1 hy;rw[zzbj]at hk;split at hk
  ·simpa using h1 k y (by assumption) hk
  cases hk
 have e2:(l.drop i).filter (fun y=>decide (y<x))=[]:=by
  rw[zzfn];intro y hy;obtain⟨k,hk⟩:=zzby.1 hy;rw[zzbk]at hk;have:=h2 (i+k) y (by omega) hk;simp;omega
 rw[e1,e2];simp;omega
def o9(l:List Int)(x:Int)(hl:l.length<=1000000000)(hs:l.Pairwise (·<=·)):Pure Tryz.prog az 258 [.sl .ro (l.map fun y=>[I y]),I x] (.aW [I (qX l x:Nat),.bool (decide (l[qX l x]?=some x))]):=by
 refine Qn adQ (fun _ f a=>if f=289 then(match a with|[.int _ a,.int _ b]=>.bool (decide (a<b))|_=>.junk)else .bool false) (by simp) ?_;simp[U8]
 refine Qi qD (fun f m=>∃i j:Nat,f 7=I i/\f 8=I j/\i<=j/\j<=l.length/\m=⟨[],[],fun _=>.gone,0⟩/\(∀(k:Nat)(y:Int),k<i->l[k]?=some y->y<x)/\∀(k:Nat)(y:Int),j<=k->l[k]?=some y->x<=y)
  (fun f _=>(numOf (f 8)).toNat-(numOf (f 7)).toNat) ?_ ?_
 ·refine⟨0,l.length,by simp,by simp,by omega,by omega,rfl,fun k y h=>by omega,fun k y h1 h2=>?_⟩;rw[zzay h1]at h2;cases h2
 rintro f m ⟨i,j,h7,h8,eM,hj,rfl,ha,hb⟩;rcases zzaa i j with ai|bu
 ·have WQ:(i+j)/2<l.length:=by omega
  obtain⟨y,hy⟩:∃y,l[(i+j)/2]?=some y:=⟨_,zzac WQ⟩;obtain⟨s,hse⟩:∃s,s=(i+j)/2:=⟨_,rfl⟩;rw[<- hse]at hy;have ah:=FA hy;have ajV:(i:Int)<(j:Int):=by omega
  have w1:IntKind.i64.wrap ((i:Int)+(j:Int))=((i+j:Nat):Int):=by rw[Qk]<;>omega
  have w2:IntKind.u64.wrap ((i+j:Nat):Int)=((i+j:Nat):Int):=by simp[IntKind.wrap,IntKind.bits,IntKind.signed];omega
  have w3:Int.fdiv ((i:Int)+(j:Int)) (2 ^ min 1 IntKind.u64.bits)=(s:Int):=by
   rw[show(2:Int) ^ min 1 IntKind.u64.bits=2 from rfl,zzgl _ (by omega)];omega
  have w4:IntKind.i64.wrap (s:Int)=(s:Int):=by rw[Qk]<;>omega
  have w5:=bJ s (by omega);have gP:s<l.length:=by omega
  have arX:(s:Int)<(l.length:Int):=by omega
  have hp:=Q4 y x
  have mono:∀(p q:Nat)(u v:Int),p<=q->l[p]?=some u->l[q]?=some v->u<=v:=by
   intro p q u v hpq hu hv;rcases zzaa p q with h|h
   ·obtain⟨hp1,hu⟩:=zza.1 hu;obtain⟨hq1,hv⟩:=zza.1 hv;have:=(zzdk.1 hs) p q hp1 hq1 h;omega
   obtain rfl:p=q:=by omega
   rw[hu]at hv;cases hv;omega
  by_cases hyx:y<x
  ·have amu:decide (y<x)=true:=decide_eq_true hyx;rw[amu]at hp;simp only[Int.natCast_add]at w1 w2;simp[h7,h8,ajV,ai,ah,qD,w1,w2,w3,w4,w5,gP,arX,hyx];refine⟨hp,aO,⟨s+1,by simp,j,rfl,by omega,by omega,fun k z hk hz=>?_,hb⟩,by omega⟩
   ·have:=mono k s z y (by omega) hz hy;omega
  have amu:decide (y<x)=false:=decide_eq_false hyx;rw[amu]at hp;simp only[Int.natCast_add]at w1 w2;simp[h7,h8,ajV,ai,ah,qD,w1,w2,w3,w4,w5,gP,arX,hyx];refine⟨hp,aO,⟨i,rfl,s,rfl,by omega,by omega,ha,fun k z hk hz=>?_⟩,by omega⟩
  ·have:=mono s k y z hk hy hz;omega
 obtain rfl:i=j:=by omega
 have iy:=amt hj ha hb;rw[iy];have PM:¬(i:Int)<(i:Int):=by omega
 rcases zzaa i l.length with ai|hge'
 ·obtain⟨y,hy⟩:=aS ai;have ah:=FA hy;have aa:(i:Int)<(l.length:Int):=by omega
  have hn:=FE y;have hli:l[i]=y:=(zza.1 hy).2;by_cases hyx:y=x
  ·subst hyx;simp[h7,h8,ai,aa,ah,qD,Ny,hli]
  simp[h7,h8,ai,aa,ah,qD,Ny,hli,hyx];exact hn
 have aa:¬(i:Int)<(l.length:Int):=by omega
 have:l[i]?=none:=zzay hge';simp[h7,h8,aa,qD,Ny,this]
def Q5(cs:List Cl)(n:Nat):List (List AV):=((List.range n).reverse).map fun(k:Nat)=>[I (k:Int),.agg (Qg (cs.getD k ⟨0,0,0,0,0,0,0,0⟩))]
def nH(cs:List Cl)(n:Nat):Q5 cs (n+1)=[I (n:Int),.agg (Qg (cs.getD n ⟨0,0,0,0,0,0,0,0⟩))]::Q5 cs n:=by
 simp[Q5,zzfb]
def mH(cs:List Cl):Pure Tryz.prog az 257 [.sl .ro (cs.map Qg)] (.fn 310 [] [.ep [.sl .ro (cs.map Qg)] 0]):=by
 refine Qn adP (fun _ _ _=>.junk) (by simp) ?_;simp[aiB,aiC]
def mJ(cs:List Cl)(hl:cs.length<=1000000000):Iter Tryz.prog az 310 [] [.ep [.sl .ro (cs.map Qg)] 0] (Q5 cs cs.length):=by
 intro Y l m K hF;refine Xe aed (fun _ _ _=>.junk) (by simp) ?_;have hw0:IntKind.i64.wrap ((cs.length:Int)-1)=(cs.length:Int)-1:=by rw[Qk]<;>omega
 simp[aiW,hw0];refine Qi JN (fun f mm=>∃i:Nat,f 3=I ((i:Int)-1)/\i<=cs.length/\wL (Y l) K (Q5 cs i) mm) (fun f _=>(numOf (f 3)+1).toNat) ?_ ?_
 ·exact⟨cs.length,by simp,by omega,hF⟩
 rintro f mm ⟨i,h3,hi,hF⟩;cases i with
 |zero=>
  have hK:K mm:=hF mm (fF.refl _);simp[h3,JN,VI];exact hK
 |succ i=>
  obtain⟨c,hc⟩:∃c,cs[i]?=some c:=⟨_,zzac (by omega)⟩;have ah:Qh (cs.map Qg) i=Qg c:=Qs (by simp[hc]);have Wc:cs.getD i ⟨0,0,0,0,0,0,0,0⟩=c:=by simp[zzar,hc]
  rw[nH,Wc]at hF;have h3':f 3=I i:=by rw[h3];congr 1;omega
  have aa:i<cs.length:=by omega
  have wP:(i:Int)<(cs.length:Int):=by omega
  have hw:IntKind.i64.wrap ((i:Int)-1)=(i:Int)-1:=by rw[Qk]<;>omega
  have Az:(0:Int)<=(i:Int):=by omega
  simp only[Qg]at hF ah;simp[h3',JN,ah,aa,wP,hw,Az];refine hF _ (fF.refl _) _ (fun m2 qs=>?_) (fun m2 hK=>?_)
  ·simp[hw];refine⟨aO,⟨i,rfl,by omega,qs⟩⟩
  simp[VI];exact hK _ (fF.refl _)
open Go Go.Abs
def Xp(L:List Nat):List AV:=aj (L.map fun(k:Nat)=>(k:Int))
def XX(L:List Nat):(Xp L).length=L.length:=by simp[Xp,Ug]
def KK{L:List Nat}{i v:Nat}(h:L[i]?=some v):(Xp L).drop i=I (v:Int)::Xp (L.drop (i+1)):=by
 unfold Xp;rw[nF (x:=(v:Int)) (by simp[h]),zzgk]
def XY(L:List Nat)(i v:Nat):(Xp L).set i (I (v:Int))=Xp (L.set i v):=by
 unfold Xp;rw[KG,zzfi]
def WF(L:List Nat)(d:Nat->Bool)(n:Nat):Prop:=L.length=n+1/\∀i v,L[i]?=some v->i<=v/\v<=n/\(v=i<->d i=false)/\∀j,i<=j->j<v->d j=true
def WF.jump{L:List Nat}{d:Nat->Bool}{n i v u:Nat}(h:WF L d n)(h1:L[i]?=some v)(h2:L[v]?=some u)(aK:v≠i):WF (L.set i u) d n:=by
 obtain⟨hl,hw⟩:=h;refine⟨by simpa using hl,fun k x hk=>?_⟩;have eS:i<L.length:=(zza.1 h1).1;obtain⟨a1,a2,a3,a4⟩:=hw i v h1;obtain⟨b1,b2,b3,b4⟩:=hw v u h2;by_cases fR:k=i
 ·subst fR;rw[zzb eS]at hk;cases hk;refine⟨by omega,b2,?_,fun j ek ql=>?_⟩
  ·have hd:d k≠false:=fun h=>aK (a3.2 h);constructor
   ·intro h;omega
   intro h;exact absurd h hd
  rcases zzaa j v with h|h
  ·exact a4 j ek h
  exact b4 j h ql
 rw[zzbe (fun h=>fR h.symm)]at hk;exact hw k x hk
def N9(Y:YT)(i n c Iz:Nat)(L:List Nat)(d:Nat->Bool)(hw:WF L d n)(hi:i<=n)(hn:n<=1000000000)(B:List (List AV))(Lm:List Nat)(st:Nat->LS)(ln:Nat)(hc:c<B.length)(awk:Iz<B.length)(aK:c≠Iz)
  (hBc:Qh B c=[.bs Iz 0 (n+1) 1])(hBl:Qh B Iz=Xp L)(K:AV->AM->Prop)
  (hK:∀(B':List (List AV))(L':List Nat)(r:Nat),bn (·=Iz) B B'->Qh B' Iz=Xp L'->WF L' d n->i<=r->r<=n->d r=false->(∀j,i<=j->j<r->d j=true)->K (I r) ⟨B',Lm,st,ln⟩):
  an Tryz.prog az Y 256 [I i,.ptr c 0] ⟨B,Lm,st,ln⟩ K:=by
 refine Xe adO (fun _ _ _=>.junk) (by simp) ?_;simp[U7];refine Qi JM (fun f m=>∃(k:Nat)(B':List (List AV))(L':List Nat),f 0=I k/\i<=k/\k<=n/\m=⟨B',Lm,st,ln⟩/\bn (·=Iz) B B'/\Qh B' Iz=Xp L'/\WF L' d n/\∀j,i<=j->j<k->d j=true) (fun f _=>n-(numOf (f 0)).toNat) ?_ ?_
 ·exact⟨i,B,L,by simp,by omega,hi,rfl,bn.refl _ _,hBl,hw,fun j h1 h2=>by omega⟩
 rintro f m ⟨k,B',L',h0,qT,D5,rfl,fG,hBl',IA,hd⟩;have XZ:Iz<B'.length:=zzbc awk fG.1;have amv:Qh B' c=[.bs Iz 0 (n+1) 1]:=by rw[fG.2 c hc aK];exact hBc
 obtain⟨ey,ee⟩:=IA;obtain⟨v,hv⟩:∃v,L'[k]?=some v:=⟨_,zzac (by omega)⟩;obtain⟨v1,v2,v3,v4⟩:=ee k v hv;obtain⟨u,hu⟩:∃u,L'[v]?=some u:=⟨_,zzac (by omega)⟩;obtain⟨u1,u2,u3,u4⟩:=ee v u hu;have gv:=KK hv;have gu:=KK hu;have oz:k<n+1:=by omega
 have zC:(k:Int)<(n:Int)+1:=by omega
 have hvl:v<n+1:=by omega
 have awl:(v:Int)<(n:Int)+1:=by omega
 have aH:=XX L';by_cases hvk:v=k
 ·subst hvk;simp[h0,amv,hBl',gv,oz,zC,JM,aiA];exact hK B' L' v fG hBl' ⟨ey,ee⟩ qT D5 (v3.1 rfl) hd
 have awm:¬(v:Int)=(k:Int):=by omega
 have bV:=XY L' k u;have hW:=WF.jump ⟨ey,ee⟩ hv hu hvk;have JZ:(L'.set k u)[k]?=some u:=zzb (by omega);have gu2:=KK JZ;have ax8:Iz<(B'.set Iz (Xp (L'.set k u))).length:=by simpa using XZ
 have y6:Qh (B'.set Iz (Xp (L'.set k u))) Iz=Xp (L'.set k u):=Vp _ XZ;have iu:Qh (B'.set Iz (Xp (L'.set k u))) c=[.bs Iz 0 (n+1) 1]:=by rw[Zy _ (fun h=>aK h.symm)];exact amv
 simp[h0,amv,hBl',gv,gu,oz,zC,hvl,awl,hvk,awm,JM,bV,y6,iu,gu2,aH,ey,XZ];refine⟨by omega,aO,⟨u,rfl,by omega,by omega,fG.set (.inl rfl) _,_,rfl,hW,fun j h1 h2=>?_⟩,by omega⟩
 ·rcases zzaa j k with h|h
  ·exact hd j h1 h
  rcases zzaa j v with h3|h3
  ·exact v4 j h h3
  exact u4 j h3 h2
open Go Go.Abs
def FF(item region:Int)(c:Cl):Bool:=decide (c.ki=1\/c.ki=2)&&(gR c item region&&Xk c)
def We(cs:List Cl)(item region:Int):List Cl:=cs.filter (FF item region)
def eU:List Cl->List Int
 |[]=>[]
 |c::r=>c.fr::c.to::eU r
def pe:∀a b:List Cl,eU (a++b)=eU a++eU b
 |[],_=>rfl
 |c::r,b=>by simp[eU,pe r b]
def pn:∀a:List Cl,(eU a).length=2*a.length
 |[]=>rfl
 |c::r=>by simp[eU,pn r];omega
def pq{c:Cl}:∀{a:List Cl},c∈a->c.fr∈eU a/\c.to∈eU a
 |[],h=>by cases h
 |d::r,h=>by
  rcases zzat.1 h with rfl|h
  ·simp[eU]
  have:=pq h;simp[eU,this.1,this.2]
def dB(C:List Cl):List Int:=dd ((eU C).mergeSort fun x y=>decide (x<=y))
def Oa(C:List Cl):(dB C).Pairwise (·<·):=by
 refine XT ?_;have:=zzhb (le:=fun x y:Int=>decide (x<=y)) (fun a b c h1 h2=>by simp at*;omega) (fun a b=>by simp;omega) (eU C);exact this.imp (by simp)
def ux(C:List Cl)(x:Int):x∈dB C<->x∈eU C:=by
 unfold dB;rw[KI,(zzgd _ _).mem_iff]
def Ob(C:List Cl):(dB C).length<=2*C.length:=by
 have h1:=KH ((eU C).mergeSort fun x y=>decide (x<=y));rw[zzep,pn]at h1;exact h1
abbrev GS:=List (Option Bool)
def stepG(s:GS)(a b:Nat)(v:Bool):GS:=s.mapIdx fun j o=>if a<=j/\j<b/\o=none then some v else o
def Q6(Bd:List Int)(s:GS)(c:Cl):GS:=stepG s (qX Bd c.fr) (qX Bd c.to) (decide (c.ki=1))
def wQ(C:List Cl):GS:=C.reverse.foldl (Q6 (dB C)) (List.replicate (dB C).length none)
def CX(Bd:List Int)(s:GS)(i:Nat):List Sp:=if s[i]?=some (some true)then[(Bd.getD i 0,Bd.getD (i+1) 0)]else[]
def nI(Bd:List Int)(s:GS)(n:Nat):List Sp:=(List.range n).flatMap (CX Bd s)
def Qcj(cs:List Cl)(item region:Int):List Sp:=Xl (nI (dB (We cs item region)) (wQ (We cs item region)) (dB (We cs item region)).length)
def qY(s:GS)(a b:Nat)(v:Bool):(stepG s a b v).length=s.length:=by simp[stepG]
def Uw(s:GS)(a b:Nat)(v:Bool)(j:Nat):(stepG s a b v)[j]?=(s[j]?).map fun o=>if a<=j/\j<b/\o=none then some v else o:=by simp[stepG]
def AX(s:GS)(a b:Nat)(v:Bool)(h:b<=a):stepG s a b v=s:=by
 apply zzcm;intro j;rw[Uw];cases s[j]? with
 |none=>rfl
 |some o=>simp;intro h1 h2;omega
def KL(s:GS)(a k:Nat)(v:Bool)(hak:a<=k)(hk:s[k]?=some none):stepG s a (k+1) v=(stepG s a k v).set k (some v):=by
 have ai:k<s.length:=(zza.1 hk).1;apply zzcm;intro j;rw[Uw];by_cases y7:j=k
 ·subst y7;rw[zzb (by rw[qY];exact ai),hk];simp[hak]
 rw[zzbe (fun h=>y7 h.symm),Uw];cases s[j]? with
 |none=>rfl
 |some o=>
  simp only[zzcv];congr 1;by_cases h:a<=j/\j<k/\o=none
  ·rw[if_pos h,if_pos ⟨h.1,by omega,h.2.2⟩]
  rw[if_neg h,if_neg (fun h'=>h ⟨h'.1,by omega,h'.2.2⟩)]
def wR(s:GS)(a k r:Nat)(v:Bool)(hkr:k<=r)(h:∀j,k<=j->j<r->s[j]?≠some none):stepG s a r v=stepG s a k v:=by
 apply zzcm;intro j;rw[Uw,Uw];cases hj:s[j]? with
 |none=>rfl
 |some o=>
  simp only[zzcv];congr 1;by_cases h1:a<=j/\j<k/\o=none
  ·rw[if_pos h1,if_pos ⟨h1.1,by omega,h1.2.2⟩]
  rw[if_neg h1];by_cases h2:a<=j/\j<r/\o=none
  ·exfalso
   have hkj:k<=j:=by
    rcases zzaa j k with h3|h3
    ·exact absurd ⟨h2.1,h3,h2.2.2⟩ h1
    exact h3
   exact h j hkj h2.2.1 (by rw[hj,h2.2.2])
  rw[if_neg h2]
def gB(s:GS):List Bool:=s.map fun o=>o==some true
def nJ(s:GS)(j:Nat):Bool:=match s[j]? with
 |some (some _)=>true
 |_=>false
def Zi(l:List Bool):List AV:=l.map AV.bool
def amw(l:List Bool):(Zi l).length=l.length:=by simp[Zi]
def amx{l:List Bool}{i:Nat}{x:Bool}(h:l[i]?=some x):(Zi l).drop i=.bool x::Zi (l.drop (i+1)):=by
 unfold Zi;rw[<- zzgk];have ai:=(zza.1 h).1;rw[zzaf ai,(zza.1 h).2];rfl
def amy(l:List Bool)(i:Nat)(x:Bool):(Zi l).set i (.bool x)=Zi (l.set i x):=by simp[Zi,zzfi]
def X0(n:Nat):bG n [.bool false]=Zi (List.replicate n false):=by
 induction n with
 |zero=>rfl
 |succ n ih=>rw[bG,ih];rfl
def amz(s:GS)(k:Nat)(v:Bool):gB (s.set k (some v))=(gB s).set k v:=by
 unfold gB;rw[zzfi];cases v<;>rfl
def ae0(n:Nat):gB (List.replicate n none)=List.replicate n false:=by
 unfold gB;rw[List.map_replicate];rfl
def WF.init(n:Nat)(d:Nat->Bool)(hd:∀j,d j=false):WF (List.range (n+1)) d n:=by
 refine⟨by simp,fun i v h=>?_⟩;obtain⟨h1,h2⟩:=zza.1 h;simp at h1 h2;subst h2;exact⟨by omega,by omega,⟨fun _=>hd _,fun _=>rfl⟩,fun j h3 h4=>by omega⟩
def WF.dec{L:List Nat}{d d':Nat->Bool}{n k:Nat}(h:WF L d n)(hk:k<n)(hd:d' k=true)(hd2:∀j,j≠k->d' j=d j):WF (L.set k (k+1)) d' n:=by
 obtain⟨hl,hw⟩:=h;refine⟨by simpa using hl,fun i v hv=>?_⟩;by_cases qT:i=k
 ·subst qT;rw[zzb (by omega)]at hv;cases hv;refine⟨by omega,by omega,?_,fun j h1 h2=>?_⟩
  ·constructor
   ·intro h;omega
   intro h;rw[hd]at h;cases h
  obtain rfl:j=i:=by omega
  exact hd
 rw[zzbe (fun h=>qT h.symm)]at hv;obtain⟨a1,a2,a3,a4⟩:=hw i v hv;refine⟨a1,a2,by rw[hd2 i qT];exact a3,fun j h1 h2=>?_⟩;by_cases y7:j=k
 ·subst y7;exact hd
 rw[hd2 j y7];exact a4 j h1 h2
def X1(s:GS)(k:Nat)(v:Bool)(hk:k<s.length):nJ (s.set k (some v)) k=true/\∀j,j≠k->nJ (s.set k (some v)) j=nJ s j:=by
 constructor
 ·unfold nJ;rw[zzb hk]
 intro j hj;unfold nJ;rw[zzbe (fun h=>hj h.symm)]
def amA(l:List Int)(x:Int):qX l x<=l.length:=zzbr _ _
def KM{l:List Int}{x:Int}(h:x∈l):qX l x<l.length:=by
 unfold qX;have h1:=zzbr (fun y=>decide (y<x)) l;rcases zzaa (l.filter fun y=>decide (y<x)).length l.length with h2|h2
 ·exact h2
 have h3:(l.filter fun y=>decide (y<x)).length=l.length:=by omega
 have h4:=(List.length_filter_eq_length_iff.1 h3) x h;simp at h4
open Go Go.Abs
def CY(Y:YT)(m:AM)(K:AV->AM->Prop)(hK:K (.sl .nil []) m):an Tryz.prog az Y 161 [.sl .nil []] m K:=by
 refine Xe BV (fun _ _ _=>.junk) (by simp) ?_;simp[vj,Af];exact hK
def Kv(Bd:List Int)(R:List Sp):Nat->FuncId->List AV->AV:=fun d f l=>
 if f=999999 then(if d=59 then .aJ 0 []else .junk)else
 if f=255 then(match l with
  |[.agg [.int _ a,.int _ b,.int _ c,.int _ d,.int _ e,.int _ f,.int _ g,.int _ h],.int _ i,.int _ r]=>.bool (gR ⟨a,b,c,d,e,f,g,h⟩ i r)
  |_=>.junk)else
 if f=83 then(match l with
  |[.agg [.int _ a,.int _ b,.int _ c,.int _ d,.int _ e,.int _ f,.int _ g,.int _ h]]=>.bool (Xk ⟨a,b,c,d,e,f,g,h⟩)
  |_=>.junk)else
 if f=257 then(match l with
  |[.sl _ rows]=>.fn 310 [] [.ep [.sl .ro rows] 0]
  |_=>.junk)else
 if f=258 then(match l with
  |[_,.int _ x]=>.aW [I (qX Bd x:Nat),.bool (decide (Bd[qX Bd x]?=some x))]
  |_=>.junk)else
 if f=182 then .sl .ro (R.map Qe)else .gd false .junk
def ae1(B:List (List AV))(C:List Cl):Prop:=(C=[]/\Qh B 0=[.sl .nil []])\/(C≠[]/\∃aQ,Qh B 0=[.bs aQ 0 (eU C).length 1]/\aQ≠0/\aQ<B.length/\Qh B aQ=aj (eU C))
def ae1.app{B:List (List AV)}{C:List Cl}(h:ae1 B C)(h0:0<B.length)(x:List (List AV)):ae1 (B++x) C:=by
 obtain⟨h1,h2⟩|⟨h1,aQ,h2,h3,h4,h5⟩:=h
 ·exact .inl ⟨h1,by rw[Ql h0];exact h2⟩
 exact .inr ⟨h1,aQ,by rw[Ql h0];exact h2,h3,by simp;omega,by rw[Ql h4];exact h5⟩
def CZ:SC:=(⟨_,by cbv⟩:tM [1,1,1,1,1,1,1,1,1,1,1] r6).1
def X2:SC->SC:=(⟨_,fun _=>by cbv⟩:uw [1,1,1] (tL [1,1,1,1,1,1,1,1] r6)).1
def ajW:SC->SC:=(⟨_,fun _=>by cbv⟩:uw [1,1,1,1,1,1,1,1] r6).1
theorem X3:r6=ajW (X2 CZ):=rfl
def X4(Bd:List Int)(s:GS)(i:Nat):(CX Bd s i).length<=1:=by unfold CX;split<;>simp
def qZ(Bd:List Int)(s:GS)(n:Nat):nI Bd s (n+1)=nI Bd s n++CX Bd s n:=by simp[nI,zzfb]
def wU(Bd:List Int)(s:GS):∀n,(nI Bd s n).length<=n
 |0=>by simp[nI]
 |n+1=>by
  have h1:=wU Bd s n;have h2:=X4 Bd s n;rw[qZ,zzah];omega
def wV(Bd z:List Int)(s:GS)(R:List Sp)(n:Nat)(hn:s.length=n)(hn9:n<=10000000)(hR:R=Xl (nI Bd s n))(E:List (Nat×AV))(B:List (List AV))(Lm:List Nat)(st:Nat->LS)(ln:Nat)(g g1:Nat)(Bd0:List Int)
  (h8:Abs.look E 8=.ptr 0 0)(kY:Abs.look E 11=.ptr g1 0)(hg1:Qh B g1=[.bs g 0 n 1])(hg:Qh B g=Zi (gB s))
  (hb:∀i,s[i]?=some (some true)->∃aQ,Qh B 0=[.bs aQ 0 n 1]/\Qh B aQ=aj (Bd++z)/\i+1<Bd.length/\Bd.length=n):
  vc Tryz.prog az (Kv Bd0 R) Y0 CZ ⟨Zf 145 E,⟨B,Lm,st,ln⟩⟩ (post Tryz.prog az (Kv Bd0 R) EA (.sl .ro (R.map Qe))):=by
 have lM:(gB s).length=n:=by simp[gB,hn]
 simp[CZ,kY,hg1]
 refine Qi qB (fun f m=>∃(i:Nat)(o:List Sp)(rt:Rt)(Lm':List Nat),i<=n/\f 123=I i/\f 22=.sl rt (o.map Qe)/\m=⟨B,Lm',st,ln⟩/\o=nI Bd s i/\((o=[]/\rt=.nil/\Lm'=Lm)\/(o≠[]/\rt=.own Lm.length 2/\Lm'=Lm++[o.length])))
  (fun f _=>n-(numOf (f 123)).toNat) ?_ ?_
 ·exact⟨0,[],.nil,Lm,by omega,by simp,by simp,rfl,by simp[nI],.inl ⟨rfl,rfl,rfl⟩⟩
 rintro f m ⟨i,o,rt,Lm',hi,h123,h22,rfl,ho,aR⟩;have Oc:o.length<=i:=by rw[ho];exact wU Bd s i
 rcases zzaa i n with ai|bu
 ·obtain⟨v,hv⟩:∃v,s[i]?=some v:=⟨_,zzac (by omega)⟩;have hgv:(gB s)[i]?=some (v==some true):=by simp[gB,hv]
  have gg:=amx hgv;have aa:(i:Int)<(n:Int):=by omega
  have hw:=bJ i (by omega);have dJ:=qZ Bd s i;rw[<- ho]at dJ;by_cases hvt:v=some true
  ·subst hvt;obtain⟨aQ,b1,b2,b3,b4⟩:=hb i hv;obtain⟨x,hx⟩:∃x,Bd[i]?=some x:=⟨_,zzac (by omega)⟩;obtain⟨y,hy⟩:∃y,Bd[i+1]?=some y:=⟨_,zzac b3⟩;have gx:=nF (l:=Bd++z) (i:=i) (x:=x) (by rw[zzag (by omega)];exact hx);have gy:=nF (l:=Bd++z) (i:=i+1) (x:=y) (by rw[zzag (by omega)];exact hy);have hou:CX Bd s i=[(x,y)]:=by simp[CX,hv,hx,hy]
   rw[hou]at dJ;simp at gg;have hi1:i+1<n:=by omega
   have arY:(i:Int)+1<(n:Int):=by omega
   have Az:(0:Int)<=(i:Int)+1:=by omega
   have htn:((i:Int)+1).toNat=i+1:=by omega
   have iu:∀row∈o.map Qe,row.length=2:=by
    intro row h;rw[zzax]at h;obtain⟨a,_,rfl⟩:=h;rfl
   obtain⟨rfl,rfl,rfl⟩|⟨aK,rfl,rfl⟩:=aR
   ·simp[h123,h22,ai,aa,hg,gg,qB,hw,h8,b1,b2,gx,gy,hi1,arY,Az,htn,Kv];refine⟨aO,⟨i+1,by omega,by simp,[(x,y)],_,⟨rfl,rfl⟩,by rw[dJ];rfl,by simp⟩,by omega⟩
   simp[h123,h22,ai,aa,hg,gg,qB,hw,h8,b1,b2,gx,gy,hi1,arY,Az,htn,Kv];refine⟨⟨?_,by omega⟩,aO,⟨i+1,by omega,by simp,o++[(x,y)],_,⟨rfl,by simp[Qe]⟩,dJ.symm,by simp⟩,by omega⟩
   ·rintro row (⟨a,b,_,rfl⟩|rfl)<;>rfl
  have hou:CX Bd s i=[]:=by
   unfold CX;rw[hv,if_neg];intro h;cases h;exact hvt rfl
  rw[hou,zzau]at dJ;have X5:(v==some true)=false:=by simpa using hvt
  rw[X5]at gg;simp[h123,h22,ai,aa,hg,gg,qB,hw];refine⟨aO,⟨i+1,by omega,by simp,o,rt,⟨rfl,rfl⟩,dJ.symm,aR⟩,by omega⟩
 obtain rfl:i=n:=by omega
 rw[<- ho]at hR;have amB:=Uq o (by omega);rw[<- hR]at amB;obtain⟨rfl,rfl,rfl⟩|⟨aK,rfl,rfl⟩:=aR
 ·simp[h123,h22,qB,EA,Kv];exact Zt amB ⟨Wk.sl _ _,trivial⟩
 simp[h123,h22,qB,EA,Kv];exact amB
end
end Go.Proofs.YtnopaopphmjnmaaGreatDoor
