import Derived.Test.YthjppoincojfkaaGreatDoorRTSpG
set_option linter.all false
set_option maxRecDepth 100000
set_option maxHeartbeats 64000000
namespace Go.Proofs.YthjppoincojfkaaGreatDoor
noncomputable section
open Go Go.Abs
def Uj(l:Pi):(aj l).length=l.length:=by simp[aj]
def mZ{l:Pi}{i:Nat}{x:Int}(h:l[i]?=some x):(aj l).drop i=I x::aj (l.drop (i+1)):=by
 unfold aj;rw[<- zzgm];have ah:=(zza.1 h).1;rw[zzai ah,(zza.1 h).2];rfl
def J9(l:Pi)(i:Nat)(x:Int):(aj l).set i (I x)=aj (l.set i x):=by simp[aj,zzfp]
def nc(a b:Pi):aj (a++b)=aj a++aj b:=by simp[aj]
def W9(l:Pi):Zl (aj l)=true:=by
 simp[Zl,aj]
def wJ:∀(l:Pi)(r:P2),aZ 1 l.length (aj l++r)=l.map fun x=>[I x]
 |[],_=>rfl
 |s::l,r=>by simpa[aj]using wJ l r
def FF(n:Nat):bF n [I 0]=aj (List.replicate n 0):=by
 induction n with
 |zero=>rfl
 |succ n ih=>rw[bF,ih];rfl
def FG{l:Pi}{i:Nat}{x:Int}(h:l[i]?=some x):Qi (l.map fun x=>[I x]) i=[I x]:=Qw (by simp[h])
def dd:Pi->Pi
 |[]=>[]
 |[x]=>[x]
 |x::y::r=>if x=y then dd (y::r)else x::dd (y::r)
theorem FH(x y:Int)(r:Pi):dd (x::y::r)=if x=y then dd (y::r)else x::dd (y::r):=rfl
def CX:∀(p:Pi)(a b:Int),dd (p++[a]++[b])=dd (p++[a])++(if b=a then[]else[b])
 |[],a,b=>by
  by_cases h:b=a
  ·subst h;simp[dd]
  have:¬a=b:=fun e=>h e.symm;simp[dd,h,this]
 |[x],a,b=>by
  have ih:=CX [] a b;simp only[zzag,zzae]at ih |-
  rw[FH x a [b],FH x a [],ih];by_cases hx:x=a
  ·rw[ac hx,ac hx]
  rw[ab hx,ab hx];rfl
 |x::y::p,a,b=>by
  have ih:=CX (y::p) a b;simp only[zzae]at ih |-
  rw[FH x y (p++[a]++[b]),FH x y (p++[a]),ih];by_cases hx:x=y
  ·rw[ac hx,ac hx]
  rw[ab hx,ab hx];rfl
def NU{l:Pi}{j:Nat}{a b:Int}(ha:l[j]?=some a)(hb:l[j+1]?=some b):dd (l.take (j+2))=dd (l.take (j+1))++(if b=a then[]else[b]):=by
 have e1:l.take (j+1)=l.take j++[a]:=by rw[zzay,ha];rfl
 have e2:l.take (j+2)=l.take j++[a]++[b]:=by rw[show j+2=(j+1)+1 from rfl,zzay,hb,e1];rfl
 rw[e2,e1,CX]
def Kf:∀l:Pi,(dd l).length<=l.length
 |[]=>by simp[dd]
 |[x]=>by simp[dd]
 |x::y::r=>by
  have:=Kf (y::r);rw[dd];split<;>simp at*<;>omega
def wK:∀(l:Pi)(x:Int),x∈dd l<->x∈l
 |[],x=>by simp[dd]
 |[y],x=>by simp[dd]
 |a::b::r,x=>by
  have ih:=wK (b::r) x;rw[dd];split
  ·rename_i h;subst h;rw[ih];simp
  rw[zzao,ih,zzao (a:=x) (b:=a)]
def XA:∀{l:Pi},l.Pairwise (·<=·)->(dd l).Pairwise (·<·)
 |[],_=>by simp[dd]
 |[x],_=>by simp[dd]
 |x::y::r,h=>by
  obtain⟨h1,h2⟩:=zzcg.1 h;have ih:=XA h2;rw[dd];split
  ·exact ih
  rename_i aO;refine zzcg.2 ⟨fun z hz=>?_,ih⟩;have hz':=(wK _ _).1 hz;have hxy:=h1 y zd;rcases zzao.1 hz' with rfl|hz'
  ·omega
  have:=(zzcg.1 h2).1 z hz';omega
def sB(Y:YT)(l:Pi)(hl:l.length<=1000000000)(B:T5)(L:Pa)(st:Nat->LS)(n id:Nat)(aK:id<B.length)(aO:l≠[])(hB:Qi B id=aj l)(K:So)
  (hK:∀(B':T5)(z:Pi),bC (·=id) B B'->Qi B' id=aj (dd l++z)->(dd l).length+z.length=l.length->K (.bs id 0 (dd l).length 1) ⟨B',L,st,n⟩):
  aB Tryz.prog aD Y 111 [.bs id 0 l.length 1] ⟨B,L,st,n⟩ K:=by
 have aH:=Uj l;have kW:0<l.length:=zzdf.2 aO;refine Xo BU (fun _ _ _=>.junk) zd ?_;by_cases h2:l.length<2
 ·have Nw:(l.length:Int)<2:=zE
  have hd:dd l=l:=by
   match l,aO,h2 with
   |[x],_,_=>rfl
  have:=hK B [] (bC.refl _ _) (by rw[hd,zzat];exact hB) (by rw[hd];simp);rw[hd]at this;simp[vg,Ai,Nw,h2];exact this
 have Nw:¬(l.length:Int)<2:=zE
 simp[vg,Nw,h2];refine Qj BV (fun f m=>∃k:Nat,f 3=I k/\1<=k/\k<=l.length/\m=⟨B,L,st,n⟩/\dd (l.take k)=l.take k) (fun f _=>l.length-(numOf (f 3)).toNat) ?_ ?_
 ·refine⟨1,zd,zE,zE,rfl,?_⟩
  match l,aO with
  |x::r,_=>rfl
 rintro f m ⟨k,h3,dK,hk,rfl,Fk⟩;rcases zzaa k l.length with ah|bu
 ·obtain⟨k',rfl⟩:∃k',k=k'+1:=⟨k-1,zE⟩;obtain⟨a,ha⟩:∃a,l[k']?=some a:=⟨_,zzaf zE⟩;obtain⟨b,hb⟩:∃b,l[k'+1]?=some b:=⟨_,zzaf ah⟩;have ga:=mZ ha;have gb:=mZ hb;have Ks:((k':Int)+1)<(l.length:Int):=zE
  have aiR:(k':Int)<(l.length:Int):=zE
  have Ny:k'<l.length:=zE
  have lq:IntKind.i64.wrap ((k':Int)+1-1)=(k':Int):=by rw[Ql]<;>omega
  have arS:IntKind.i64.wrap (k':Int)=(k':Int):=by rw[Ql]<;>omega
  have fV:IntKind.i64.wrap ((k':Int)+1+1)=((k'+1+1:Nat):Int):=by rw[Ql]<;>omega
  have AD:(0:Int)<=(k':Int)+1:=zE
  have htn:((k':Int)+1).toNat=k'+1:=zE
  have hdt:=NU ha hb;by_cases hab:b=a
  ·rw[ac hab,zzat]at hdt;simp[h3,ah,Ks,aiR,Ny,hB,ga,gb,lq,arS,fV,AD,htn,hab,BV];have cw:(k':Int)+1<=(l.length:Int):=zE
   refine⟨cw,?_⟩
   refine Qj BW (fun f m=>∃(k t:Nat)(B':T5)(L':Pi),f 3=I k/\f 5=I ((t+1:Nat):Int)/\k'+1+(t+1)<=l.length/\1<=k/\k<=k'+1+t/\m=⟨B',L,st,n⟩/\bC (·=id) B B'/\Qi B' id=aj L'/\L'.length=l.length/\
    L'.take k=dd (l.take (k'+1+(t+1)))/\L'.drop (k'+1+t)=l.drop (k'+1+t)) (fun f _=>l.length-(k'+1)-(numOf (f 5)).toNat) ?_ ?_
   ·refine⟨k'+1,0,B,l,by simp[h3],zd,zE,zE,zE,rfl,bC.refl _ _,hB,rfl,?_,rfl⟩;rw[show k'+1+(0+1)=k'+2 by omega,hdt,Fk]
   rintro g m ⟨k,t,B',L',g3,g5,ht,XB,hkt,rfl,ng,eP,tK,bz,hdp⟩;have cG:id<B'.length:=zzaz aK ng.1;have jc:=Uj L';rcases zzaa (k'+1+(t+1)) l.length with um|hjg
   ·obtain⟨x,hx⟩:∃x,l[k'+1+t]?=some x:=⟨_,zzaf zE⟩;obtain⟨y,hy⟩:∃y,l[k'+1+t+1]?=some y:=⟨_,zzaf zE⟩
    have jY:L'[k'+1+t]?=some x:=by
     have:=congrArg (fun q=>q[0]?) hdp;simpa[hx]using this
    have hy':L'[k'+1+t+1]?=some y:=by
     have:=congrArg (fun q=>q[1]?) hdp;simpa[hy]using this
    have gx:=mZ jY;have gy:(aj L').drop (k'+1+(t+1))=I y::aj (L'.drop (k'+1+t+1+1)):=mZ hy';have J2:=NU hx hy;rw[show k'+1+t+2=k'+1+(t+1+1) by omega,show k'+1+t+1=k'+1+(t+1) by omega,<- bz]at J2
    have hdn:L'.drop (k'+1+(t+1))=l.drop (k'+1+(t+1)):=by
     have:=congrArg (List.drop 1) hdp;simpa[zzdr,zzap,zzfn,Nat.add_left_comm]using this
    have ez:(t+1:Nat)<l.length-(k'+1):=zE
    have aiS:((t:Int)+1)<((l.length-(k'+1):Nat):Int):=zE
    have aiT:(t:Int)<((l.length-(k'+1):Nat):Int):=zE
    have aiU:t<l.length-(k'+1):=zE
    have hwt:IntKind.i64.wrap (t:Int)=(t:Int):=by rw[Ql]<;>omega
    have arT:IntKind.i64.wrap ((t:Int)+1+1)=((t+1+1:Nat):Int):=by rw[Ql]<;>omega
    have NV:=bO k zE;have alH:((t:Int)+1).toNat=t+1:=zE
    have arU:(0:Int)<=(t:Int)+1:=zE
    have XC:(k:Int)<(l.length:Int):=zE
    have Kx:k<l.length:=zE
    have bR:=J9 L' k y;by_cases hyx:y=x
    ·rw[ac hyx,zzat]at J2;simp[g3,g5,eP,gx,gy,ez,aiS,aiT,aiU,hwt,arT,alH,arU,hyx,BW];refine⟨aQ,⟨k,rfl,t+1,zd,zE,XB,zE,ng,L',rfl,tK,J2.symm,hdn⟩,zE⟩
    rw[ab hyx]at J2;simp[g3,g5,eP,gx,gy,ez,aiS,aiT,aiU,hwt,arT,NV,alH,arU,hyx,XC,Kx,bR,cG,BW];refine⟨by rw[jc];omega,aQ,⟨k+1,zd,t+1,zd,zE,zE,zE,ng.set (.inl rfl) _,L'.set k y,Yi _ cG,Nm tK,?_,?_⟩,zE⟩
    ·rw[zzay,zzbh zE,zzgd zE];exact J2.symm
    rw[show k'+1+(t+1)=k'+1+(t+1)from rfl,zzge zE];exact hdn
   have bP:¬(t:Int)+1<((l.length-(k'+1):Nat):Int):=zE
   have XC:(k:Int)<(l.length:Int):=zE
   have Kx:k<l.length:=zE
   have awZ:(k:Int)<=(l.length:Int):=zE
   have FB:dd l=L'.take k:=by rw[bz,zzau zE]
   have arV:(dd l).length=k:=by rw[FB,zzas];omega
   have fI:aj L'≠[]:=by
    intro h;have:=congrArg List.length h;rw[jc,tK]at this;simp at this;exact aO this
   have qj:setA (aj L') k (bF (l.length-k) [I 0])=aj (dd l++List.replicate (l.length-k) 0):=by
    have e1:L'=L'.take k++L'.drop k:=zd
    conv=>lhs;rw[e1]
    rw[nc,nc,FF,FB];have e2:(aj (L'.take k)).length=k:=by rw[Uj,zzas];omega
    have:=oQ (aj (List.replicate (l.length-k) 0)) (aj (L'.take k)) (aj (L'.drop k)) (by rw[Uj,Uj,zzee,zzcy,tK]);rw[e2]at this;exact this
   simp[g3,g5,eP,BW,Ai,bP,XC,Kx,awZ,cG,fI,jc,tK,qj];refine⟨zE,?_⟩;have:=hK (B'.set id (aj (dd l++List.replicate (l.length-k) 0))) (List.replicate (l.length-k) 0) (ng.set (.inl rfl) _) (Yi _ cG) (by rw[arV];simp;omega);rw[arV]at this;exact this
  rw[ab hab]at hdt;simp[h3,ah,Ks,aiR,Ny,hB,ga,gb,lq,arS,fV,AD,htn,hab,BV];refine⟨aQ,⟨k'+1+1,zE,zE,zE,?_⟩,zE⟩
  ·rw[show k'+1+1=k'+2 by omega,hdt,Fk,zzay (l:=l) (i:=k'+1),hb];rfl
 obtain rfl:k=l.length:=zE
 rw[zzbu]at Fk;have Eg:¬((l.length:Nat):Int)<(l.length:Int):=zE
 have:=hK B [] (bC.refl _ _) (by rw[Fk,zzat];exact hB) (by rw[Fk];simp);rw[Fk]at this;simp[h3,BV,Ai];exact this
def FI(a:Int):Pure Tryz.prog aD 248 [I a] (.bool false):=by
 refine Qp adT (fun _ _ _=>.junk) zd ?_;simp[aio,aip]
def FJ(a:Int):Pure Tryz.prog aD 235 [I a] (.bool false):=by
 refine Qp adM (fun _ _ _=>.junk) zd ?_;simp[aid,aie]
def QM(a b:Int):Pure Tryz.prog aD 220 [I a,I b] (.bool (decide (a<b))):=by
 have h:=FI a;refine Qp adD (fun _ _ _=>.bool false) zd ?_;simp[ah8,ah9];exact h
def qR(l:Pi)(x:Int):Nat:=(l.filter fun y=>decide (y<x)).length
def alI{l:Pi}{x:Int}{i:Nat}(hi:i<=l.length)(h1:∀(k:Nat)(y:Int),k<i->l[k]?=some y->y<x)(h2:∀(k:Nat)(y:Int),i<=k->l[k]?=some y->x<=y):qR l x=i:=by
 unfold qR;have e:l=l.take i++l.drop i:=zd
 rw[e,zzdb]
 have e1:(l.take i).filter (fun y=>decide (y<x))=l.take i:=by
  rw[zzgf];intro y hy;obtain⟨k,hk⟩:=zzcp.1 hy;rw[zzbk]at hk;split at hk
  ·simpa using h1 k y (by assumption) hk
  cases hk
 have e2:(l.drop i).filter (fun y=>decide (y<x))=[]:=by
  rw[zzfs];intro y hy;obtain⟨k,hk⟩:=zzcp.1 hy;rw[zzbl]at hk;have:=h2 (i+k) y zE hk;simp;omega
 rw[e1,e2];simp;omega
def oR(l:Pi)(x:Int)(hl:l.length<=1000000000)(hs:l.Pairwise (·<=·)):Pure Tryz.prog aD 194 [.sl .ro (l.map fun y=>[I y]),I x] (.aS [I (qR l x:Nat),.bool (decide (l[qR l x]?=some x))]):=by
 refine Qp adn (fun _ f a=>if f=220 then(match a with|[.int _ a,.int _ b]=>.bool (decide (a<b))|_=>.junk)else .bool false) zd ?_;simp[UI]
 refine Qj qv (fun f m=>∃i j:Nat,f 7=I i/\f 8=I j/\i<=j/\j<=l.length/\m=⟨[],[],fun _=>.gone,0⟩/\(∀(k:Nat)(y:Int),k<i->l[k]?=some y->y<x)/\∀(k:Nat)(y:Int),j<=k->l[k]?=some y->x<=y)
  (fun f _=>(numOf (f 8)).toNat-(numOf (f 7)).toNat) ?_ ?_
 ·refine⟨0,l.length,zd,zd,zE,zE,rfl,fun k y h=>zE,fun k y h1 h2=>?_⟩;rw[zzav h1]at h2;cases h2
 rintro f m ⟨i,j,h7,h8,fu,hj,rfl,ha,hb⟩;rcases zzaa i j with ah|bu
 ·have V0:(i+j)/2<l.length:=zE
  obtain⟨y,hy⟩:∃y,l[(i+j)/2]?=some y:=⟨_,zzaf V0⟩;obtain⟨s,hse⟩:∃s,s=(i+j)/2:=⟨_,rfl⟩;rw[<- hse]at hy;have ai:=FG hy;have aiV:(i:Int)<(j:Int):=zE
  have w1:IntKind.i64.wrap ((i:Int)+(j:Int))=((i+j:Nat):Int):=by rw[Ql]<;>omega
  have w2:IntKind.u64.wrap ((i+j:Nat):Int)=((i+j:Nat):Int):=by simp[IntKind.wrap,IntKind.bits,IntKind.signed];omega
  have w3:Int.fdiv ((i:Int)+(j:Int)) (2 ^ min 1 IntKind.u64.bits)=(s:Int):=by
   rw[show(2:Int) ^ min 1 IntKind.u64.bits=2 from rfl,Int.fdiv_eq_ediv_of_nonneg _ zE];omega
  have w4:IntKind.i64.wrap (s:Int)=(s:Int):=by rw[Ql]<;>omega
  have w5:=bO s zE;have fU:s<l.length:=zE
  have arW:(s:Int)<(l.length:Int):=zE
  have hp:=QM y x
  have mono:∀(p q:Nat)(u v:Int),p<=q->l[p]?=some u->l[q]?=some v->u<=v:=by
   intro p q u v hpq hu hv;rcases zzaa p q with h|h
   ·obtain⟨hp1,hu⟩:=zza.1 hu;obtain⟨hq1,hv⟩:=zza.1 hv;have:=(zzdu.1 hs) p q hp1 hq1 h;omega
   obtain rfl:p=q:=zE
   rw[hu]at hv;cases hv;omega
  by_cases hyx:y<x
  ·have alJ:decide (y<x)=true:=decide_eq_true hyx;rw[alJ]at hp;simp only[Int.natCast_add]at w1 w2;simp[h7,h8,aiV,ah,ai,qv,w1,w2,w3,w4,w5,fU,arW,hyx];refine⟨hp,aQ,⟨s+1,zd,j,rfl,zE,zE,fun k z hk hz=>?_,hb⟩,zE⟩
   ·have:=mono k s z y zE hz hy;omega
  have alJ:decide (y<x)=false:=decide_eq_false hyx;rw[alJ]at hp;simp only[Int.natCast_add]at w1 w2;simp[h7,h8,aiV,ah,ai,qv,w1,w2,w3,w4,w5,fU,arW,hyx];refine⟨hp,aQ,⟨i,rfl,s,rfl,zE,zE,ha,fun k z hk hz=>?_⟩,zE⟩
  ·have:=mono s k y z hk hy hz;omega
 obtain rfl:i=j:=zE
 have jd:=alI hj ha hb;rw[jd];have Pw:¬(i:Int)<(i:Int):=zE
 rcases zzaa i l.length with ah|hge'
 ·obtain⟨y,hy⟩:=aV ah;have ai:=FG hy;have aa:(i:Int)<(l.length:Int):=zE
  have hn:=FJ y;have hli:l[i]=y:=(zza.1 hy).2;by_cases hyx:y=x
  ·subst hyx;simp[h7,h8,ah,aa,ai,qv,Na,hli]
  simp[h7,h8,ah,aa,ai,qv,Na,hli,hyx];exact hn
 have aa:¬(i:Int)<(l.length:Int):=zE
 have:l[i]?=none:=zzav hge';simp[h7,h8,aa,qv,Na,this]
def QN(cs:List Cl)(n:Nat):T5:=((List.range n).reverse).map fun(k:Nat)=>[I (k:Int),.agg (Qg (cs.getD k ⟨0,0,0,0,0,0,0,0⟩))]
def nh(cs:List Cl)(n:Nat):QN cs (n+1)=[I (n:Int),.agg (Qg (cs.getD n ⟨0,0,0,0,0,0,0,0⟩))]::QN cs n:=by
 simp[QN,zzfj]
def lS(cs:List Cl):Pure Tryz.prog aD 193 [.sl .ro (cs.map Qg)] (.fn 234 [] [.ep [.sl .ro (cs.map Qg)] 0]):=by
 refine Qp adm (fun _ _ _=>.junk) zd ?_;simp[ahS,ahT]
def lT(cs:List Cl)(hl:cs.length<=1000000000):Iter Tryz.prog aD 234 [] [.ep [.sl .ro (cs.map Qg)] 0] (QN cs cs.length):=by
 intro Y l m K hF;refine Xo adL (fun _ _ _=>.junk) zd ?_;have hw0:IntKind.i64.wrap ((cs.length:Int)-1)=(cs.length:Int)-1:=by rw[Ql]<;>omega
 simp[aic,hw0];refine Qj JB (fun f mm=>∃i:Nat,f 3=I ((i:Int)-1)/\i<=cs.length/\wL (Y l) K (QN cs i) mm) (fun f _=>(numOf (f 3)+1).toNat) ?_ ?_
 ·exact⟨cs.length,zd,zE,hF⟩
 rintro f mm ⟨i,h3,hi,hF⟩;cases i with
 |zero=>
  have hK:K mm:=hF mm (fB.refl _);simp[h3,JB,UT];exact hK
 |succ i=>
  obtain⟨c,hc⟩:∃c,cs[i]?=some c:=⟨_,zzaf zE⟩;have ai:Qi (cs.map Qg) i=Qg c:=Qw (by simp[hc]);have JN:cs.getD i ⟨0,0,0,0,0,0,0,0⟩=c:=by simp[zzaw,hc]
  rw[nh,JN]at hF;have h3':f 3=I i:=by rw[h3];congr 1;omega
  have aa:i<cs.length:=zE
  have wM:(i:Int)<(cs.length:Int):=zE
  have hw:IntKind.i64.wrap ((i:Int)-1)=(i:Int)-1:=by rw[Ql]<;>omega
  have AD:(0:Int)<=(i:Int):=zE
  simp only[Qg]at hF ai;simp[h3',JB,ai,aa,wM,hw,AD];refine hF _ (fB.refl _) _ (fun m2 AW=>?_) (fun m2 hK=>?_)
  ·simp[hw];refine⟨aQ,⟨i,rfl,zE,AW⟩⟩
  simp[UT];exact hK _ (fB.refl _)
end
end Go.Proofs.YthjppoincojfkaaGreatDoor
namespace Go.Proofs.YthjppoincojfkaaGreatDoor
noncomputable section
open Go Go.Abs
def Xq(L:Pa):P2:=aj (L.map fun(k:Nat)=>(k:Int))
def XD(L:Pa):(Xq L).length=L.length:=by simp[Xq,Uj]
def KA{L:Pa}{i v:Nat}(h:L[i]?=some v):(Xq L).drop i=I (v:Int)::Xq (L.drop (i+1)):=by
 unfold Xq;rw[mZ (x:=(v:Int)) (by simp[h]),zzgm]
def XE(L:Pa)(i v:Nat):(Xq L).set i (I (v:Int))=Xq (L.set i v):=by
 unfold Xq;rw[J9,zzfp]
def WF(L:Pa)(d:Nat->Bool)(n:Nat):Prop:=L.length=n+1/\∀i v,L[i]?=some v->i<=v/\v<=n/\(v=i<->d i=false)/\∀j,i<=j->j<v->d j=true
def WF.jump{L:Pa}{d:Nat->Bool}{n i v u:Nat}(h:WF L d n)(h1:L[i]?=some v)(h2:L[v]?=some u)(aO:v≠i):WF (L.set i u) d n:=by
 obtain⟨hl,hw⟩:=h;refine⟨Nm hl,fun k x hk=>?_⟩;have iT:i<L.length:=(zza.1 h1).1;obtain⟨a1,a2,a3,a4⟩:=hw i v h1;obtain⟨b1,b2,b3,b4⟩:=hw v u h2;by_cases dP:k=i
 ·subst dP;rw[zzbh iT]at hk;cases hk;refine⟨zE,b2,?_,fun j dX nV=>?_⟩
  ·have hd:d k≠false:=fun h=>aO (a3.2 h);constructor
   ·intro h;omega
   intro h;exact absurd h hd
  rcases zzaa j v with h|h
  ·exact a4 j dX h
  exact b4 j h nV
 rw[zzbo (fun h=>dP h.symm)]at hk;exact hw k x hk
def NW(Y:YT)(i n c IB:Nat)(L:Pa)(d:Nat->Bool)(hw:WF L d n)(hi:i<=n)(hn:n<=1000000000)(B:T5)(Lm:Pa)(st:Nat->LS)(ln:Nat)(hc:c<B.length)(aw0:IB<B.length)(aO:c≠IB)
  (hBc:Qi B c=[.bs IB 0 (n+1) 1])(wN:Qi B IB=Xq L)(K:So)
  (hK:∀(B':T5)(L':Pa)(r:Nat),bC (·=IB) B B'->Qi B' IB=Xq L'->WF L' d n->i<=r->r<=n->d r=false->(∀j,i<=j->j<r->d j=true)->K (I r) ⟨B',Lm,st,ln⟩):
  aB Tryz.prog aD Y 192 [I i,.ptr c 0] ⟨B,Lm,st,ln⟩ K:=by
 refine Xo adl (fun _ _ _=>.junk) zd ?_;simp[UH];refine Qj JA (fun f m=>∃(k:Nat)(B':T5)(L':Pa),f 0=I k/\i<=k/\k<=n/\m=⟨B',Lm,st,ln⟩/\bC (·=IB) B B'/\Qi B' IB=Xq L'/\WF L' d n/\∀j,i<=j->j<k->d j=true) (fun f _=>n-(numOf (f 0)).toNat) ?_ ?_
 ·exact⟨i,B,L,zd,zE,hi,rfl,bC.refl _ _,wN,hw,fun j h1 h2=>zE⟩
 rintro f m ⟨k,B',L',h0,qJ,Eg,rfl,ng,FK,hw',hd⟩;have XF:IB<B'.length:=zzaz aw0 ng.1;have alK:Qi B' c=[.bs IB 0 (n+1) 1]:=by rw[ng.2 c hc aO];exact hBc
 obtain⟨eH,fV⟩:=hw';obtain⟨v,hv⟩:∃v,L'[k]?=some v:=⟨_,zzaf zE⟩;obtain⟨v1,v2,v3,v4⟩:=fV k v hv;obtain⟨u,hu⟩:∃u,L'[v]?=some u:=⟨_,zzaf zE⟩;obtain⟨u1,u2,u3,u4⟩:=fV v u hu;have gv:=KA hv;have gu:=KA hu;have ur:k<n+1:=zE
 have zK:(k:Int)<(n:Int)+1:=zE
 have hvl:v<n+1:=zE
 have aw1:(v:Int)<(n:Int)+1:=zE
 have aH:=XD L';by_cases hvk:v=k
 ·subst hvk;simp[h0,alK,FK,gv,ur,zK,JA,ahR];exact hK B' L' v ng FK ⟨eH,fV⟩ qJ Eg (v3.1 rfl) hd
 have aw2:¬(v:Int)=(k:Int):=zE
 have bR:=XE L' k u;have hW:=WF.jump ⟨eH,fV⟩ hv hu hvk;have JM:(L'.set k u)[k]?=some u:=zzbh zE;have gu2:=KA JM;have ay4:IB<(B'.set IB (Xq (L'.set k u))).length:=by simpa using XF
 have SA:Qi (B'.set IB (Xq (L'.set k u))) IB=Xq (L'.set k u):=Yi _ XF;have ou:Qi (B'.set IB (Xq (L'.set k u))) c=[.bs IB 0 (n+1) 1]:=by rw[Ya _ (fun h=>aO h.symm)];exact alK
 simp[h0,alK,FK,gv,gu,ur,zK,hvl,aw1,hvk,aw2,JA,bR,SA,ou,gu2,aH,eH,XF];refine⟨zE,aQ,⟨u,rfl,zE,zE,ng.set (.inl rfl) _,_,rfl,hW,fun j h1 h2=>?_⟩,zE⟩
 ·rcases zzaa j k with h|h
  ·exact hd j h1 h
  rcases zzaa j v with h3|h3
  ·exact v4 j h h3
  exact u4 j h3 h2
def FL(item region:Int)(c:Cl):Bool:=decide (c.ki=1\/c.ki=2)&&(gN c item region&&Zd c)
def Wj(cs:List Cl)(item region:Int):List Cl:=cs.filter (FL item region)
def eL:List Cl->Pi
 |[]=>[]
 |c::r=>c.fr::c.to::eL r
def oS:∀a b:List Cl,eL (a++b)=eL a++eL b
 |[],_=>rfl
 |c::r,b=>by simp[eL,oS r b]
def oT:∀a:List Cl,(eL a).length=2*a.length
 |[]=>rfl
 |c::r=>by simp[eL,oT r];omega
def oU{c:Cl}:∀{a:List Cl},c∈a->c.fr∈eL a/\c.to∈eL a
 |[],h=>by cases h
 |d::r,h=>by
  rcases zzao.1 h with rfl|h
  ·simp[eL]
  have:=oU h;simp[eL,this.1,this.2]
def dD(C:List Cl):Pi:=dd ((eL C).mergeSort fun x y=>decide (x<=y))
def NX(C:List Cl):(dD C).Pairwise (·<·):=by
 refine XA ?_;have:=zzfq (le:=fun x y:Int=>decide (x<=y)) (fun a b c h1 h2=>by simp at*;omega) (fun a b=>by simp;omega) (eL C);exact this.imp zd
def uB(C:List Cl)(x:Int):x∈dD C<->x∈eL C:=by
 unfold dD;rw[wK,(zzgg _ _).mem_iff]
def NY(C:List Cl):(dD C).length<=2*C.length:=by
 have h1:=Kf ((eL C).mergeSort fun x y=>decide (x<=y));rw[zzf,oT]at h1;exact h1
abbrev GS:=List (Option Bool)
def stepG(s:GS)(a b:Nat)(v:Bool):GS:=s.mapIdx fun j o=>if a<=j/\j<b/\o=none then some v else o
def QO(Bd:Pi)(s:GS)(c:Cl):GS:=stepG s (qR Bd c.fr) (qR Bd c.to) (decide (c.ki=1))
def wO(C:List Cl):GS:=C.reverse.foldl (QO (dD C)) (List.replicate (dD C).length none)
def CY(Bd:Pi)(s:GS)(i:Nat):List Sp:=if s[i]?=some (some true)then[(Bd.getD i 0,Bd.getD (i+1) 0)]else[]
def nj(Bd:Pi)(s:GS)(n:Nat):List Sp:=(List.range n).flatMap (CY Bd s)
def Qck(cs:List Cl)(item region:Int):List Sp:=Xm (nj (dD (Wj cs item region)) (wO (Wj cs item region)) (dD (Wj cs item region)).length)
def qS(s:GS)(a b:Nat)(v:Bool):(stepG s a b v).length=s.length:=by simp[stepG]
def Ux(s:GS)(a b:Nat)(v:Bool)(j:Nat):(stepG s a b v)[j]?=(s[j]?).map fun o=>if a<=j/\j<b/\o=none then some v else o:=by simp[stepG]
def AX(s:GS)(a b:Nat)(v:Bool)(h:b<=a):stepG s a b v=s:=by
 apply zzdc;intro j;rw[Ux];cases s[j]? with
 |none=>rfl
 |some o=>simp;intro h1 h2;omega
def KB(s:GS)(a k:Nat)(v:Bool)(hak:a<=k)(hk:s[k]?=some none):stepG s a (k+1) v=(stepG s a k v).set k (some v):=by
 have ah:k<s.length:=(zza.1 hk).1;apply zzdc;intro j;rw[Ux];by_cases za:j=k
 ·subst za;rw[zzbh (by rw[qS];exact ah),hk];simp[hak]
 rw[zzbo (fun h=>za h.symm),Ux];cases s[j]? with
 |none=>rfl
 |some o=>
  simp only[zzcv];congr 1;by_cases h:a<=j/\j<k/\o=none
  ·rw[ac h,ac ⟨h.1,zE,h.2.2⟩]
  rw[ab h,ab (fun h'=>h ⟨h'.1,zE,h'.2.2⟩)]
def wP(s:GS)(a k r:Nat)(v:Bool)(hkr:k<=r)(h:∀j,k<=j->j<r->s[j]?≠some none):stepG s a r v=stepG s a k v:=by
 apply zzdc;intro j;rw[Ux,Ux];cases hj:s[j]? with
 |none=>rfl
 |some o=>
  simp only[zzcv];congr 1;by_cases h1:a<=j/\j<k/\o=none
  ·rw[ac h1,ac ⟨h1.1,zE,h1.2.2⟩]
  rw[ab h1];by_cases h2:a<=j/\j<r/\o=none
  ·exfalso
   have hkj:k<=j:=by
    rcases zzaa j k with h3|h3
    ·exact absurd ⟨h2.1,h3,h2.2.2⟩ h1
    exact h3
   exact h j hkj h2.2.1 (by rw[hj,h2.2.2])
  rw[ab h2]
def gB(s:GS):List Bool:=s.map fun o=>o==some true
def nk(s:GS)(j:Nat):Bool:=match s[j]? with
 |some (some _)=>true
 |_=>false
def Zh(l:List Bool):P2:=l.map AV.bool
def alL(l:List Bool):(Zh l).length=l.length:=by simp[Zh]
def alM{l:List Bool}{i:Nat}{x:Bool}(h:l[i]?=some x):(Zh l).drop i=.bool x::Zh (l.drop (i+1)):=by
 unfold Zh;rw[<- zzgm];have ah:=(zza.1 h).1;rw[zzai ah,(zza.1 h).2];rfl
def alN(l:List Bool)(i:Nat)(x:Bool):(Zh l).set i (.bool x)=Zh (l.set i x):=by simp[Zh,zzfp]
def XG(n:Nat):bF n [.bool false]=Zh (List.replicate n false):=by
 induction n with
 |zero=>rfl
 |succ n ih=>rw[bF,ih];rfl
def alO(s:GS)(k:Nat)(v:Bool):gB (s.set k (some v))=(gB s).set k v:=by
 unfold gB;rw[zzfp];cases v<;>rfl
def aer(n:Nat):gB (List.replicate n none)=List.replicate n false:=by
 unfold gB;rw[List.map_replicate];rfl
def WF.init(n:Nat)(d:Nat->Bool)(hd:∀j,d j=false):WF (List.range (n+1)) d n:=by
 refine⟨zd,fun i v h=>?_⟩;obtain⟨h1,h2⟩:=zza.1 h;simp at h1 h2;subst h2;exact⟨zE,zE,⟨fun _=>hd _,fun _=>rfl⟩,fun j h3 h4=>zE⟩
def WF.dec{L:Pa}{d d':Nat->Bool}{n k:Nat}(h:WF L d n)(hk:k<n)(hd:d' k=true)(hd2:∀j,j≠k->d' j=d j):WF (L.set k (k+1)) d' n:=by
 obtain⟨hl,hw⟩:=h;refine⟨Nm hl,fun i v hv=>?_⟩;by_cases qJ:i=k
 ·subst qJ;rw[zzbh zE]at hv;cases hv;refine⟨zE,zE,?_,fun j h1 h2=>?_⟩
  ·constructor
   ·intro h;omega
   intro h;rw[hd]at h;cases h
  obtain rfl:j=i:=zE
  exact hd
 rw[zzbo (fun h=>qJ h.symm)]at hv;obtain⟨a1,a2,a3,a4⟩:=hw i v hv;refine⟨a1,a2,by rw[hd2 i qJ];exact a3,fun j h1 h2=>?_⟩;by_cases za:j=k
 ·subst za;exact hd
 rw[hd2 j za];exact a4 j h1 h2
def XH(s:GS)(k:Nat)(v:Bool)(hk:k<s.length):nk (s.set k (some v)) k=true/\∀j,j≠k->nk (s.set k (some v)) j=nk s j:=by
 constructor
 ·unfold nk;rw[zzbh hk]
 intro j hj;unfold nk;rw[zzbo (fun h=>hj h.symm)]
def alP(l:Pi)(x:Int):qR l x<=l.length:=zzcf _ _
def KC{l:Pi}{x:Int}(h:x∈l):qR l x<l.length:=by
 unfold qR;have h1:=zzcf (fun y=>decide (y<x)) l;rcases zzaa (l.filter fun y=>decide (y<x)).length l.length with h2|h2
 ·exact h2
 have h3:(l.filter fun y=>decide (y<x)).length=l.length:=zE
 have h4:=(List.length_filter_eq_length_iff.1 h3) x h;simp at h4
def CZ(Y:YT)(m:AM)(K:So)(hK:K (.sl .nil []) m):aB Tryz.prog aD Y 111 [.sl .nil []] m K:=by
 refine Xo BU (fun _ _ _=>.junk) zd ?_;simp[vg,Ai];exact hK
def Kz(Bd:Pi)(R:List Sp):UV:=fun d f l=>
 if f=999999 then(if d=59 then .aJ 0 []else .junk)else
 if f=191 then(match l with
  |[.agg [.int _ a,.int _ b,.int _ c,.int _ d,.int _ e,.int _ f,.int _ g,.int _ h],.int _ i,.int _ r]=>.bool (gN ⟨a,b,c,d,e,f,g,h⟩ i r)
  |_=>.junk)else
 if f=48 then(match l with
  |[.agg [.int _ a,.int _ b,.int _ c,.int _ d,.int _ e,.int _ f,.int _ g,.int _ h]]=>.bool (Zd ⟨a,b,c,d,e,f,g,h⟩)
  |_=>.junk)else
 if f=193 then(match l with
  |[.sl _ rows]=>.fn 234 [] [.ep [.sl .ro rows] 0]
  |_=>.junk)else
 if f=194 then(match l with
  |[_,.int _ x]=>.aS [I (qR Bd x:Nat),.bool (decide (Bd[qR Bd x]?=some x))]
  |_=>.junk)else
 if f=131 then .sl .ro (R.map Qe)else .gd false .junk
def aes(B:T5)(C:List Cl):Prop:=(C=[]/\Qi B 0=[.sl .nil []])\/(C≠[]/\∃cD,Qi B 0=[.bs cD 0 (eL C).length 1]/\cD≠0/\cD<B.length/\Qi B cD=aj (eL C))
def aes.app{B:T5}{C:List Cl}(h:aes B C)(h0:0<B.length)(x:T5):aes (B++x) C:=by
 obtain⟨h1,h2⟩|⟨h1,cD,h2,h3,h4,h5⟩:=h
 ·exact .inl ⟨h1,by rw[Qn h0];exact h2⟩
 exact .inr ⟨h1,cD,by rw[Qn h0];exact h2,h3,by simp;omega,by rw[Qn h4];exact h5⟩
def C0:SC:=(⟨_,by cbv⟩:J3 [1,1,1,1,1,1,1,1,1,1,1] r8).1
def XI:SC->SC:=(⟨_,fun _=>by cbv⟩:Ft [1,1,1] (oJ [1,1,1,1,1,1,1,1] r8)).1
def aiW:SC->SC:=(⟨_,fun _=>by cbv⟩:Ft [1,1,1,1,1,1,1,1] r8).1
theorem XJ:r8=aiW (XI C0):=rfl
def XK(Bd:Pi)(s:GS)(i:Nat):(CY Bd s i).length<=1:=by unfold CY;split<;>simp
def qT(Bd:Pi)(s:GS)(n:Nat):nj Bd s (n+1)=nj Bd s n++CY Bd s n:=by simp[nj,zzfj]
def wQ(Bd:Pi)(s:GS):∀n,(nj Bd s n).length<=n
 |0=>by simp[nj]
 |n+1=>by
  have h1:=wQ Bd s n;have h2:=XK Bd s n;rw[qT,zzal];omega
def wR(Bd z:Pi)(s:GS)(R:List Sp)(n:Nat)(hn:s.length=n)(hn9:n<=10000000)(hR:R=Xm (nj Bd s n))(E:QQ)(B:T5)(Lm:Pa)(st:Nat->LS)(ln:Nat)(g g1:Nat)(Bd0:Pi)
  (h8:Abs.look E 8=.ptr 0 0)(nq:Abs.look E 11=.ptr g1 0)(hg1:Qi B g1=[.bs g 0 n 1])(hg:Qi B g=Zh (gB s))
  (hb:∀i,s[i]?=some (some true)->∃cD,Qi B 0=[.bs cD 0 n 1]/\Qi B cD=aj (Bd++z)/\i+1<Bd.length/\Bd.length=n):
  vc Tryz.prog aD (Kz Bd0 R) Y0 C0 ⟨Vw 145 E,⟨B,Lm,st,ln⟩⟩ (post Tryz.prog aD (Kz Bd0 R) EB (.sl .ro (R.map Qe))):=by
 have iN:(gB s).length=n:=by simp[gB,hn]
 simp[C0,nq,hg1]
 refine Qj qt (fun f m=>∃(i:Nat)(o:List Sp)(rt:Rt)(Lm':Pa),i<=n/\f 123=I i/\f 22=.sl rt (o.map Qe)/\m=⟨B,Lm',st,ln⟩/\o=nj Bd s i/\((o=[]/\rt=.nil/\Lm'=Lm)\/(o≠[]/\rt=.own Lm.length 2/\Lm'=Lm++[o.length])))
  (fun f _=>n-(numOf (f 123)).toNat) ?_ ?_
 ·exact⟨0,[],.nil,Lm,zE,zd,zd,rfl,by simp[nj],.inl ⟨rfl,rfl,rfl⟩⟩
 rintro f m ⟨i,o,rt,Lm',hi,h123,h22,rfl,ho,aY⟩;have FM:o.length<=i:=by rw[ho];exact wQ Bd s i
 rcases zzaa i n with ah|bu
 ·obtain⟨v,hv⟩:∃v,s[i]?=some v:=⟨_,zzaf zE⟩;have hgv:(gB s)[i]?=some (v==some true):=by simp[gB,hv]
  have gg:=alM hgv;have aa:(i:Int)<(n:Int):=zE
  have hw:=bO i zE;have dL:=qT Bd s i;rw[<- ho]at dL;by_cases hvt:v=some true
  ·subst hvt;obtain⟨cD,b1,b2,b3,b4⟩:=hb i hv;obtain⟨x,hx⟩:∃x,Bd[i]?=some x:=⟨_,zzaf zE⟩;obtain⟨y,hy⟩:∃y,Bd[i+1]?=some y:=⟨_,zzaf b3⟩;have gx:=mZ (l:=Bd++z) (i:=i) (x:=x) (by rw[zzak zE];exact hx);have gy:=mZ (l:=Bd++z) (i:=i+1) (x:=y) (by rw[zzak zE];exact hy);have hou:CY Bd s i=[(x,y)]:=by simp[CY,hv,hx,hy]
   rw[hou]at dL;simp at gg;have hi1:i+1<n:=zE
   have arX:(i:Int)+1<(n:Int):=zE
   have AD:(0:Int)<=(i:Int)+1:=zE
   have htn:((i:Int)+1).toNat=i+1:=zE
   have ou:∀row∈o.map Qe,row.length=2:=by
    intro row h;rw[zzan]at h;obtain⟨a,_,rfl⟩:=h;rfl
   obtain⟨rfl,rfl,rfl⟩|⟨aO,rfl,rfl⟩:=aY
   ·simp[h123,h22,ah,aa,hg,gg,qt,hw,h8,b1,b2,gx,gy,hi1,arX,AD,htn,Kz];refine⟨aQ,⟨i+1,zE,zd,[(x,y)],_,⟨rfl,rfl⟩,by rw[dL];rfl,zd⟩,zE⟩
   simp[h123,h22,ah,aa,hg,gg,qt,hw,h8,b1,b2,gx,gy,hi1,arX,AD,htn,Kz];refine⟨⟨?_,zE⟩,aQ,⟨i+1,zE,zd,o++[(x,y)],_,⟨rfl,by simp[Qe]⟩,dL.symm,zd⟩,zE⟩
   ·rintro row (⟨a,b,_,rfl⟩|rfl)<;>rfl
  have hou:CY Bd s i=[]:=by
   unfold CY;rw[hv,ab];intro h;cases h;exact hvt rfl
  rw[hou,zzat]at dL;have hvb:(v==some true)=false:=by simpa using hvt
  rw[hvb]at gg;simp[h123,h22,ah,aa,hg,gg,qt,hw];refine⟨aQ,⟨i+1,zE,zd,o,rt,⟨rfl,rfl⟩,dL.symm,aY⟩,zE⟩
 obtain rfl:i=n:=zE
 rw[<- ho]at hR;have alQ:=Us o zE;rw[<- hR]at alQ;obtain⟨rfl,rfl,rfl⟩|⟨aO,rfl,rfl⟩:=aY
 ·simp[h123,h22,qt,EB,Kz];exact Zb alQ ⟨Wk.sl _ _,trivial⟩
 simp[h123,h22,qt,EB,Kz];exact alQ
def wU:∀(cs:List Cl)(n i:Nat)(x:P2),n<=cs.length->(QN cs n)[i]?=some x->∃(k:Nat)(c:Cl),cs[k]?=some c/\k+1+i=n/\x=[I (k:Int),.agg (Qg c)]
 |cs,0,i,x,_,h=>by simp[QN]at h
 |cs,n+1,0,x,hn,h=>by
  rw[nh]at h;simp at h;obtain⟨c,hc⟩:∃c,cs[n]?=some c:=⟨_,zzaf zE⟩;refine⟨n,c,hc,zE,?_⟩;rw[<- h];simp[hc]
 |cs,n+1,i+1,x,hn,h=>by
  rw[nh]at h;obtain⟨k,c,h1,h2,h3⟩:=wU cs n i x zE (Nm h);exact⟨k,c,h1,zE,h3⟩
def FN(cs:List Cl)(n:Nat):(QN cs n).length=n:=by simp[QN]
def FO{cs:List Cl}{n:Nat}:∀x∈QN cs n,x.length=2:=by
 intro x hx;simp[QN]at hx;obtain⟨k,_,rfl⟩:=hx;rfl
structure SG (C:List Cl) (Bd z:Pi) (n b:Nat) (s:GS) (L:Pa) (bx:T5):Prop where
 len:b+4<bx.length
 g1:Qi bx (b+1)=[.bs b 0 n 1]
 g:Qi bx b=Zh (gB s)
 l1:Qi bx (b+3)=[.bs (b+2) 0 (n+1) 1]
 l:Qi bx (b+2)=Xq L
 f:Qi bx (b+4)=[.fn 192 [] [.ptr (b+3) 0]]
 bd:C≠[]->∃cD,Qi bx 0=[.bs cD 0 n 1]/\Qi bx cD=aj (Bd++z)/\0<cD/\cD<b
def SG.app{C:List Cl}{Bd z:Pi}{n b:Nat}{s:GS}{L:Pa}{bx:T5}(h:SG C Bd z n b s L bx)(x:T5):SG C Bd z n b s L (bx++x):=by
 have hl:=h.len;refine⟨by simp;omega,by rw[Qn zE];exact h.g1,by rw[Qn zE];exact h.g,by rw[Qn zE];exact h.l1,by rw[Qn zE];exact h.l,by rw[Qn zE];exact h.f,fun hc=>?_⟩;obtain⟨cD,h1,h2,h3,h4⟩:=h.bd hc;exact⟨cD,by rw[Qn zE];exact h1,by rw[Qn zE];exact h2,h3,h4⟩
def SG.later{C:List Cl}{Bd z:Pi}{n b:Nat}{s:GS}{L L':Pa}{bx bx':T5}(h:SG C Bd z n b s L bx)(hb:0<b)(hk:bC (·=b+2) bx bx')(hl:Qi bx' (b+2)=Xq L'):SG C Bd z n b s L' bx':=by
 have aH:=h.len;have k:∀j,j<bx.length->j≠b+2->Qi bx' j=Qi bx j:=hk.2;refine⟨by have:=hk.1;omega,by rw[k _ zE zE];exact h.g1,by rw[k _ zE zE];exact h.g,by rw[k _ zE zE];exact h.l1,hl,by rw[k _ zE zE];exact h.f,fun hc=>?_⟩;obtain⟨cD,h1,h2,h3,h4⟩:=h.bd hc;exact⟨cD,by rw[k _ zE zE];exact h1,by rw[k _ zE zE];exact h2,h3,h4⟩
def SG.put{C:List Cl}{Bd z:Pi}{n b:Nat}{s:GS}{L:Pa}{bx:T5}(h:SG C Bd z n b s L bx)(hb:0<b)(k:Nat)(v:Bool):
  SG C Bd z n b (s.set k (some v)) (L.set k (k+1)) ((bx.set b (Zh ((gB s).set k v))).set (b+2) (Xq (L.set k (k+1)))):=by
 have aH:=h.len
 have e:∀j,j≠b->j≠b+2->Qi ((bx.set b (Zh ((gB s).set k v))).set (b+2) (Xq (L.set k (k+1)))) j=Qi bx j:=fun j h1 h2=>by
  rw[Ya _ (fun h=>h2 h.symm),Ya _ (fun h=>h1 h.symm)]
 refine⟨Nm aH,by rw[e _ zE zE];exact h.g1,?_,by rw[e _ zE zE];exact h.l1,by rw[Yi _ (by simp;omega)],by rw[e _ zE zE];exact h.f,fun hc=>?_⟩
 ·rw[Ya _ zE,Yi _ zE,alO]
 obtain⟨cD,h1,h2,h3,h4⟩:=h.bd hc;exact⟨cD,by rw[e _ zE zE];exact h1,by rw[e _ zE zE];exact h2,h3,h4⟩
def aet(Bd:Pi)(s:GS)(c:Cl):(QO Bd s c).length=s.length:=by simp[QO,qS]
def wV(Bd:Pi):∀(l:List Cl)(s:GS),(l.foldl (QO Bd) s).length=s.length
 |[],_=>rfl
 |c::l,s=>by rw[zzda,wV Bd l,aet]
def AY(Bd:Pi):∀(l:List Cl)(s:GS)(i:Nat)(v:Bool),(∀c∈l,c.to∈Bd)->(∀v,s[i]?≠some (some v))->(l.foldl (QO Bd) s)[i]?=some (some v)->i+1<Bd.length+0\/i+1<=Bd.length-1
 |[],s,i,v,_,h0,h=>absurd h (h0 v)
 |c::l,s,i,v,hc,h0,h=>by
  rw[zzda]at h;by_cases h1:∃v,(QO Bd s c)[i]?=some (some v)
  ·obtain⟨v',h2⟩:=h1;unfold QO at h2;rw[Ux]at h2;cases hs:s[i]? with
   |none=>rw[hs]at h2;cases h2
   |some o=>
    rw[hs]at h2;simp only[zzcv,Option.some.injEq]at h2;split at h2
    ·rename_i h3;have:=KC (hc c zd);exact .inl zE
    subst h2;exact absurd hs (h0 v')
  exact AY Bd l _ i v (fun c h=>hc c (by simp[h])) (fun v hv=>h1 ⟨v,hv⟩) h
def NZ(s:GS)(j:Nat)(h:nk s j=true):s[j]?≠some none:=by
 intro h';unfold nk at h;rw[h']at h;cases h
def XL{s:GS}{j:Nat}(h:nk s j=false)(hj:j<s.length):s[j]?=some none:=by
 unfold nk at h;obtain⟨o,ho⟩:=aV hj;rw[ho]at h |-
 cases o with
 |none=>rfl
 |some v=>cases h
def KD(s:GS)(a q r:Nat)(v:Bool)(hq:q<=r)(h:∀j,a<=j->j<r->nk s j=true):stepG s a q v=s:=by
 rcases zzhm a q with h1|h1
 ·rw[wP s a a q v h1 (fun j h2 h3=>NZ s j (h j h2 zE)),AX _ _ _ _ (zzab _)]
 exact AX _ _ _ _ h1
def AZ(C:List Cl)(Bd z:Pi)(R:List Sp)(n:Nat)(hBd:Bd=dD C)(hn:Bd.length=n)(hn9:n<=10000000)(hCl:C.length<=1000000)(hR:R=Xm (nj Bd (wO C) n))(E:QQ)(B:T5)(Lm:Pa)(st:Nat->LS)(ln:Nat)(b:Nat)(rt y6:Rt)
  (hb:0<b)(wN:B.length=b+4)(h7:Abs.look E 7=.sl rt (C.map Qg))(aY:∀m,bB m 6 (.sl rt (C.map Qg))=.sl y6 (C.map Qg))(h8:Abs.look E 8=.ptr 0 0)(nq:Abs.look E 11=.ptr (b+1) 0)(qm:Abs.look E 12=.ptr (b+3) 0)
  (hg1:Qi B (b+1)=[.bs b 0 n 1])(hg:Qi B b=Zh (List.replicate n false))(gK:Qi B (b+3)=[.bs (b+2) 0 (n+1) 1])(hl:Qi B (b+2)=aj (List.replicate (n+1) 0))
  (dU:C≠[]->∃cD,Qi B 0=[.bs cD 0 n 1]/\Qi B cD=aj (Bd++z)/\0<cD/\cD<b):
  vc Tryz.prog aD (Kz Bd R) Y0 (XI C0) ⟨Vw 145 E,⟨B,Lm,st,ln⟩⟩ (post Tryz.prog aD (Kz Bd R) EB (.sl .ro (R.map Qe))):=by
 simp[XI,qm,gK]
 refine Qj I6 (fun f m=>∃(i:Nat)(B':T5)(L':Pi),i<=n+1/\f 74=I i/\m=⟨B',Lm,st,ln⟩/\bC (·=b+2) B B'/\B'.length=B.length/\Qi B' (b+2)=aj L'/\L'.length=n+1/\∀j:Nat,j<i->L'[j]?=some (j:Int))
  (fun f _=>n+1-(numOf (f 74)).toNat) ?_ ?_
 ·exact⟨0,B,List.replicate (n+1) 0,zE,zd,rfl,bC.refl _ _,rfl,hl,zd,fun j h=>zE⟩
 rintro f m ⟨i,B',L',hi,h74,rfl,ng,FK,eH,tK,Aw⟩;have arY:Qi B' (b+3)=[.bs (b+2) 0 (n+1) 1]:=by rw[ng.2 _ zE zE];exact gK
 rcases zzaa i (n+1)with ah|bu
 ·have aa:(i:Int)<(n:Int)+1:=zE
  have hw:=bO i zE;have bR:=J9 L' i (i:Int);have aH:=Uj L';have fh:b+2<B'.length:=zE
  simp[h74,aa,ah,I6,qm,arY,eH,hw,bR,aH,tK,fh];refine⟨zE,aQ,⟨i+1,zE,zd,ng.set (.inl rfl) _,FK,L'.set i (i:Int),Yi _ fh,Nm tK,fun j hj=>?_⟩,zE⟩
  ·by_cases hji':j=i
   ·subst hji';rw[zzbh zE]
   rw[zzbo (fun h=>hji' h.symm)];exact Aw j zE
 obtain rfl:i=n+1:=zE
 have hLr:L'=(List.range (n+1)).map fun(k:Nat)=>(k:Int):=by
  apply zzdc;intro j;by_cases hj:j<n+1
  ·rw[Aw j hj];simp[hj]
  rw[zzav zE,zzav (by simp;omega)]
 have aw3:Qi B' (b+2)=Xq (List.range (n+1)):=by rw[eH,hLr];rfl
 have bP:¬((n:Int)+1)<(n:Int)+1:=zE
 have aw4:SG C Bd z n b (List.replicate n none) (List.range (n+1)) (B'++[[.fn 192 [] [.ptr (b+3) 0]]]):=by
  have k:∀j,j<B.length->j≠b+2->Qi B' j=Qi B j:=ng.2;refine⟨by simp;omega,?_,?_,?_,?_,?_,fun hc=>?_⟩
  ·rw[Qn zE,k _ zE zE];exact hg1
  ·rw[Qn zE,k _ zE zE,aer];exact hg
  ·rw[Qn zE];exact arY
  ·rw[Qn zE];exact aw3
  ·have:b+4=B'.length:=zE
   rw[this];simp
  obtain⟨cD,h1,h2,h3,h4⟩:=dU hc;exact⟨cD,by rw[Qn zE,k _ zE zE];exact h1,by rw[Qn zE,k _ zE zE];exact h2,h3,h4⟩
 have alR:=Zb (l:=[.sl y6 (C.map Qg)]) (lS C) ⟨Wk.sl _ _,trivial⟩;have cR:=lT C zE;have WA:=fun s hs hR E=>wR Bd z s R n hs hn9 hR E
 have A0:∀y,Qi (B'++[y]) (b+4)=y:=fun y=>by
  have:b+4=B'.length:=zE
  rw[this];simp
 simp[h74,I6,h7,qm,aY,FK,wN,A0,Kz];refine⟨alR,?_⟩;refine je (xs:=QN C C.length) zd cR FO (fun i m=>∃(s:GS)(L:Pa),s=(C.reverse.take i).foldl (QO Bd) (List.replicate n none)/\WF L (nk s) n/\SG C Bd z n b s L m.boxes) (fun _ _=>False) ?_ ?_ (fun _ _ _ h=>h.elim) ?_ ?_ (fun _ _ h=>h.elim)
 ·exact⟨_,_,zd,WF.init n _ (fun j=>by simp[nk,zzck]),aw4⟩
 ·rintro i m m' ⟨s,L,h1,h2,h3⟩ ⟨⟨bx,e1⟩,_,_⟩;exact⟨s,L,h1,h2,by rw[e1];exact h3.app bx⟩
 ·rintro l i m x hg hr ⟨s,L,hs,hWF,hSt⟩ hx K' k1 _ _;obtain⟨k,c,hc,hk,rfl⟩:=wU C C.length i x (zzab _) hx;rw[Jp]at hSt;have hcm:c∈C:=zzad hc;have alS:C≠[]:=List.ne_nil_of_mem hcm
  have aw5:C.reverse[i]?=some c:=by
   rw[List.getElem?_reverse zE];rw[show C.length-1-i=k by omega];exact hc
  have FP:s.length=n:=by rw[hs,wV];simp
  have dz:(C.reverse.take (i+1)).foldl (QO Bd) (List.replicate n none)=QO Bd s c:=by
   rw[zzay,aw5,zzeh,<- hs];rfl
  obtain⟨cD,d1,d2,d3,d4⟩:=hSt.bd alS;have gA:∀m,(aj (Bd++z)).map (bB m 5)=aj (Bd++z):=fun m=>Ve m 4 (W9 _);have gY:aZ 1 n (aj (Bd++z))=Bd.map fun x=>[I x]:=by rw[<- hn,nc];exact wJ Bd _
  have qj:n<=(aj (Bd++z)).length:=by rw[Uj];simp;omega
  have nr:Bd.Pairwise (·<=·):=by rw[hBd];exact(NX C).imp (fun h=>Int.le_of_lt h)
  have b1:=oR Bd c.fr zE nr;have b2:=oR Bd c.to zE nr;have hto:c.to∈Bd:=by rw[hBd,uB];exact(oU hcm).2
  have he:=KC hto;have ha:=alP Bd c.fr;have bM:QO Bd s c=stepG s (qR Bd c.fr) (qR Bd c.to) (decide (c.ki=1)):=rfl;rw[bM]at dz;obtain⟨a,hae⟩:∃a,qR Bd c.fr=a:=⟨_,rfl⟩;obtain⟨e,hee⟩:∃e,qR Bd c.to=e:=⟨_,rfl⟩;obtain⟨v,hv⟩:∃v,(c.ki==1)=v:=⟨_,rfl⟩;have EX:decide (c.ki=1)=v:=hv;rw[hae,hee,EX]at dz;rw[hae]at b1 ha;rw[hee]at b2 he;have aH:=hSt.len;have f0:∀x,Qi (m.boxes++x) 0=[.bs cD 0 n 1]:=fun x=>by rw[Qn zE];exact d1
  have fb:∀x,Qi (m.boxes++x) cD=aj (Bd++z):=fun x=>by rw[Qn zE];exact d2
  have ff:∀x,Qi (m.boxes++x) (b+4)=[.fn 192 [] [.ptr (b+3) 0]]:=fun x=>by rw[Qn zE];exact hSt.f
  simp[hr,Zt,Qg,h8,Kz,f0,fb,ff,gA,gY,qj,hae,hee];refine⟨b1,b2,?_⟩;have alT:=hSt.app [[I c.ki,I c.it,I c.fr,I c.to,I c.re,I c.n,I c.a,I c.b]];refine NW Y0 a n (b+3) (b+2) L (nk s) hWF zE zE _ _ _ _ (by simp;omega) (by simp;omega) zE alT.l1 alT.l _ ?_;intro B1 L1 r dK gK QS har hrn fk Fk;have aw6:=alT.later hb dK gK;have alU:m.boxes.length<B1.length:=by have:=dK.1;simp at this;omega
  have arZ:Qi B1 m.boxes.length=[I c.ki,I c.it,I c.fr,I c.to,I c.re,I c.n,I c.a,I c.b]:=by
   rw[dK.2 _ zd zE];simp
  have Ee:stepG s a (min r e) v=s:=KD s a _ r v zE Fk;simp
  refine Qj I7 (fun g m2=>∃(k:Nat)(B2:T5)(L2:Pa),g 21=I k/\a<=k/\k<=n/\m2=⟨B2,m.lens,uw m.st l .busy,m.ln⟩/\WF L2 (nk (stepG s a (min k e) v)) n/\nk (stepG s a (min k e) v) k=false/\
   SG C Bd z n b (stepG s a (min k e) v) L2 B2/\m.boxes.length<B2.length/\Qi B2 m.boxes.length=[I c.ki,I c.it,I c.fr,I c.to,I c.re,I c.n,I c.a,I c.b]) (fun g _=>n-(numOf (g 21)).toNat) ?_ ?_
  ·exact⟨r,B1,L1,zd,har,hrn,rfl,by rw[Ee];exact QS,by rw[Ee];exact fk,by rw[Ee];exact aw6,alU,arZ⟩
  rintro g m2 ⟨k,B2,L2,g21,hak,Eg,rfl,QT,hd2,A3,hlt2,hrow2⟩;rcases zzaa k e with hke|hke
  ·have wW:min k e=k:=zE
   rw[wW]at QT hd2 A3;have aw7:(stepG s a k v).length=n:=by rw[qS,FP]
   have ar0:k<n:=zE
   have XM:=XL hd2 zE
   have hsk:s[k]?=some none:=by
    rw[Ux]at XM;cases hq:s[k]? with
    |none=>rw[hq]at XM;cases XM
    |some o=>rw[hq]at XM;simpa using XM
   have dL:=KB s a k v hak hsk;obtain⟨sC,C1⟩:=XH (stepG s a k v) k v zE;have hW3:=WF.dec QT ar0 sC C1;have hS3:=A3.put hb k v;have ar1:(k:Int)<(e:Int):=zE
   have ar2:(k:Int)<(n:Int):=zE
   have alV:(k:Int)<(n:Int)+1:=zE
   have aw8:k<n+1:=zE
   have NV:IntKind.i64.wrap ((k:Int)+1)=(k:Int)+1:=by rw[Ql]<;>omega
   have jd:=alN (gB (stepG s a k v)) k v;have Sy:(Xq L2).set k (I ((k:Int)+1))=Xq (L2.set k (k+1)):=by have:=XE L2 k (k+1);simpa using this
   have fT:=alL (gB (stepG s a k v));have iN:(gB (stepG s a k v)).length=n:=by simp[gB,aw7]
   have hnl:=XD L2;have hL2:=QT.1;have ez:=A3.len;have q1:∀X,Qi (B2.set b X) (b+3)=[.bs (b+2) 0 (n+1) 1]:=fun X=>by rw[Ya _ zE];exact A3.l1
   have q2:∀X,Qi (B2.set b X) (b+2)=Xq L2:=fun X=>by rw[Ya _ zE];exact A3.l
   have q3:∀X Z,Qi ((B2.set b X).set (b+2) Z) (b+4)=[.fn 192 [] [.ptr (b+3) 0]]:=fun X Z=>by rw[Ya _ zE,Ya _ zE];exact A3.f
   have dx:b<B2.length:=zE
   have fh:b+2<B2.length:=zE
   simp[g21,ar1,hke,I7,nq,qm,A3.g1,A3.g,hrow2,hv,ar2,ar0,alV,aw8,NV,jd,Sy,fT,iN,hnl,hL2,q1,q2,q3,dx,fh,Kz];have hl3:=hS3.len
   have ar3:Qi ((B2.set b (Zh ((gB (stepG s a k v)).set k v))).set (b+2) (Xq (L2.set k (k+1)))) m.boxes.length=[I c.ki,I c.it,I c.fr,I c.to,I c.re,I c.n,I c.a,I c.b]:=by
    rw[Ya _ zE,Ya _ zE];exact hrow2
   have alW:m.boxes.length<((B2.set b (Zh ((gB (stepG s a k v)).set k v))).set (b+2) (Xq (L2.set k (k+1)))).length:=by simpa using hlt2
   refine⟨zE,zE,NW Y0 k n (b+3) (b+2) _ _ hW3 Eg zE _ _ _ _ zE zE zE hS3.l1 hS3.l _ ?_⟩;intro B4 L4 r4 N0 hl4 hW4 aw9 axa alX axb;have hS4:=hS3.later hb N0 hl4;have axc:m.boxes.length<B4.length:=by have:=N0.1;omega
   have ar4:Qi B4 m.boxes.length=[I c.ki,I c.it,I c.fr,I c.to,I c.re,I c.n,I c.a,I c.b]:=by
    rw[N0.2 _ alW zE];exact ar3
   have hr4:k+1<=r4:=by
    rcases Nat.eq_or_lt_of_le aw9 with h|h
    ·subst h;rw[sC]at alX;cases alX
    exact h
   have FQ:stepG s a (min r4 e) v=(stepG s a k v).set k (some v):=by
    rw[<- dL];refine wP s a (k+1) (min r4 e) v zE (fun j dX nV=>?_);have h1:=NZ _ j (axb j zE zE);rw[zzbo zE,Ux]at h1;intro h2;rw[h2]at h1;simp at h1;omega
   simp;refine⟨aQ,⟨r4,rfl,zE,axa,L4,by rw[FQ];exact hW4,by rw[FQ];exact alX,by rw[FQ];exact hS4,axc,ar4⟩,zE⟩
  have wW:min k e=e:=zE
  rw[wW]at QT hd2 A3;have axd:¬(k:Int)<(e:Int):=zE
  simp[g21,axd,zzbm.2 hke,I7];exact k1 _ ⟨stepG s a e v,L2,dz.symm,QT,A3⟩
 rintro m ⟨s,L,hs,hWF,hSt⟩;rw[FN]at hs;rw[zzau zd]at hs;have hsf:s=wO C:=by rw[hs];unfold wO;rw[<- hBd,hn]
 rw[<- hsf]at hR;have FP:s.length=n:=by rw[hs,wV];simp
 refine wR Bd z s R n FP hn9 hR _ m.boxes m.lens m.st m.ln b (b+1) Bd ?_ ?_ hSt.g1 hSt.g ?_
 ·simp[h8]
 ·simp[nq]
 intro i hi
 have alS:C≠[]:=by
  rintro rfl;rw[hs]at hi;simp[zzck]at hi
 obtain⟨cD,d1,d2,_,_⟩:=hSt.bd alS;refine⟨cD,d1,d2,?_,hn⟩;rw[hs]at hi;have:=AY Bd C.reverse _ i true (fun c hc=>by rw[hBd,uB];exact(oU (zzft.1 hc)).2) (fun v=>by simp[zzck]) hi;omega
section
variable (cs:List Cl) (item region:Int)
def axe(C:List Cl)(rt:Rt)(Lm:Pa):Prop:=(C=[]/\rt=.nil/\Lm=[])\/(C≠[]/\rt=.own 0 8/\Lm=[C.length])
end
def XN{B:T5}{i:Nat}{v:P2}(h:Qi B i=v)(hi:i<B.length):B.set i v=B:=by
 apply zzdc;intro j;by_cases hj:j=i
 ·subst hj;rw[zzbh hi,Jn hi,h]
 rw[zzbo (fun e=>hj e.symm)]
def KE(cs:List Cl)(item region:Int)(hl:cs.length<=1000000):Pure Tryz.prog aD 136 [.sl .ro (cs.map Qg),I item,I region] (.sl .ro ((Qck cs item region).map Qe)):=by
 have hR:Qck cs item region=Xm (nj (dD (Wj cs item region)) (wO (Wj cs item region)) (dD (Wj cs item region)).length):=rfl;have hCl:(Wj cs item region).length<=cs.length:=zzcf _ _;obtain⟨CC,hCC⟩:∃CC,Wj cs item region=CC:=⟨_,rfl⟩;rw[hCC]at hR hCl;generalize Qck cs item region=R at hR;refine Qp acD (Kz (dD CC) R) zd ?_;rw[XJ];simp[aiW]
 refine Qj dW (fun f m=>∃(i:Nat)(C:List Cl)(rt:Rt)(Lm:Pa)(B:T5),i<=cs.length/\f 27=I i/\f 7=.sl rt (C.map Qg)/\m=⟨B,Lm,fun _=>.gone,0⟩/\C++Wj (cs.drop i) item region=CC/\
   C.length<=i/\0<B.length/\axe C rt Lm/\aes B C) (fun f _=>cs.length-(numOf (f 27)).toNat) ?_ ?_
 ·exact⟨0,[],.nil,[],[[.sl .nil []]],zE,zd,zd,rfl,Nm hCC,zd,zd,.inl ⟨rfl,rfl,rfl⟩,.inl ⟨rfl,rfl⟩⟩
 rintro f m ⟨i,C,rt,Lm,B,hi,h27,h7,rfl,hC,hCi,gC,aY,dU⟩;rcases zzaa i cs.length with ah|bu
 ·obtain⟨c,hc⟩:=aV ah;have ai:Qi (cs.map Qg) i=Qg c:=Qw (by simp[hc]);have aa:(i:Int)<(cs.length:Int):=zE
  have hw:=bO i zE;have hd:cs.drop i=c::cs.drop (i+1):=by rw[zzai ah,(zza.1 hc).2]
  have hcp:=lU c item region;have XO:=Kv c;rw[hd]at hC
  have skip:FL item region c=false->C++Wj (cs.drop (i+1)) item region=CC:=by
   intro hb;rw[<- hC];simp[Wj,hb]
  have take:FL item region c=true->(C++[c])++Wj (cs.drop (i+1)) item region=CC:=by
   intro hb;rw[<- hC];simp[Wj,hb]
  have gX:∀x,Qi (B++x) 0=Qi B 0:=fun x=>Qn gC;by_cases hk:c.ki=1\/c.ki=2
  ·cases e1:gN c item region with
   |false=>
    have hs:=skip (by simp[FL,e1]);rw[e1]at hcp;obtain hk|hk:=hk
    ·have j6:(⟨1,c.it,c.fr,c.to,c.re,c.n,c.a,c.b⟩:Cl)=c:=by cases c;simp at hk;subst hk;rfl
     have qU:Pure Tryz.prog aD 191 [.agg [I 1,I c.it,I c.fr,I c.to,I c.re,I c.n,I c.a,I c.b],I item,I region] (.bool false):=by simpa[Qg,hk]using hcp
     simp[h27,h7,ah,aa,ai,Qg,hk,j6,e1,dW,hw,Kz];refine⟨qU,aQ,⟨i+1,zE,zd,C,rt,⟨rfl,rfl⟩,Lm,_,⟨rfl,rfl⟩,hs,zE,zd,aY,dU.app gC _⟩,zE⟩
    have j6:(⟨2,c.it,c.fr,c.to,c.re,c.n,c.a,c.b⟩:Cl)=c:=by cases c;simp at hk;subst hk;rfl
    have qU:Pure Tryz.prog aD 191 [.agg [I 2,I c.it,I c.fr,I c.to,I c.re,I c.n,I c.a,I c.b],I item,I region] (.bool false):=by simpa[Qg,hk]using hcp
    simp[h27,h7,ah,aa,ai,Qg,hk,j6,e1,dW,hw,Kz];refine⟨qU,aQ,⟨i+1,zE,zd,C,rt,⟨rfl,rfl⟩,Lm,_,⟨rfl,rfl⟩,hs,zE,zd,aY,dU.app gC _⟩,zE⟩
   |true=>
    rw[e1]at hcp;cases e2:Zd c with
    |false=>
     have hs:=skip (by simp[FL,e2]);rw[e2]at XO;obtain hk|hk:=hk
     ·have j6:(⟨1,c.it,c.fr,c.to,c.re,c.n,c.a,c.b⟩:Cl)=c:=by cases c;simp at hk;subst hk;rfl
      have qU:Pure Tryz.prog aD 191 [.agg [I 1,I c.it,I c.fr,I c.to,I c.re,I c.n,I c.a,I c.b],I item,I region] (.bool true):=by simpa[Qg,hk]using hcp
      have nt:Pure Tryz.prog aD 48 [.agg [I 1,I c.it,I c.fr,I c.to,I c.re,I c.n,I c.a,I c.b]] (.bool false):=by simpa[Qg,hk]using XO
      simp[h27,h7,ah,aa,ai,Qg,hk,j6,e1,e2,dW,hw,Kz];refine⟨qU,nt,aQ,⟨i+1,zE,zd,C,rt,⟨rfl,rfl⟩,Lm,_,⟨rfl,rfl⟩,hs,zE,zd,aY,dU.app gC _⟩,zE⟩
     have j6:(⟨2,c.it,c.fr,c.to,c.re,c.n,c.a,c.b⟩:Cl)=c:=by cases c;simp at hk;subst hk;rfl
     have qU:Pure Tryz.prog aD 191 [.agg [I 2,I c.it,I c.fr,I c.to,I c.re,I c.n,I c.a,I c.b],I item,I region] (.bool true):=by simpa[Qg,hk]using hcp
     have nt:Pure Tryz.prog aD 48 [.agg [I 2,I c.it,I c.fr,I c.to,I c.re,I c.n,I c.a,I c.b]] (.bool false):=by simpa[Qg,hk]using XO
     simp[h27,h7,ah,aa,ai,Qg,hk,j6,e1,e2,dW,hw,Kz];refine⟨qU,nt,aQ,⟨i+1,zE,zd,C,rt,⟨rfl,rfl⟩,Lm,_,⟨rfl,rfl⟩,hs,zE,zd,aY,dU.app gC _⟩,zE⟩
    |true=>
     have ht:=take (by simp[FL,e1,e2,hk]);rw[e2]at XO;obtain hk|hk:=hk
     ·have j6:(⟨1,c.it,c.fr,c.to,c.re,c.n,c.a,c.b⟩:Cl)=c:=by cases c;simp at hk;subst hk;rfl
      have qU:Pure Tryz.prog aD 191 [.agg [I 1,I c.it,I c.fr,I c.to,I c.re,I c.n,I c.a,I c.b],I item,I region] (.bool true):=by simpa[Qg,hk]using hcp
      have nt:Pure Tryz.prog aD 48 [.agg [I 1,I c.it,I c.fr,I c.to,I c.re,I c.n,I c.a,I c.b]] (.bool true):=by simpa[Qg,hk]using XO
      obtain⟨rfl,rfl,rfl⟩|⟨aO,rfl,rfl⟩:=aY
      ·obtain⟨_,dZ⟩|⟨hx,_⟩:=dU
       ·have KF:∀x,Qi (B++x) 0=[.sl .nil []]:=fun x=>by rw[Qn gC];exact dZ
        have lu:∀x y,(B++x).set 0 y=B.set 0 y++x:=fun x y=>Yl y gC;simp[h27,h7,ah,aa,ai,Qg,hk,j6,e1,e2,dW,hw,KF,lu,gC,Kz];refine⟨qU,nt,aQ,⟨i+1,zE,zd,[c],.own 0 8,⟨rfl,by simp[Qg,hk]⟩,[1],_,⟨rfl,rfl⟩,ht,zd,zd,.inr ⟨zd,rfl,rfl⟩,.inr ⟨zd,B.length+1,?_,zE,zd,?_⟩⟩,zE⟩
        ·rw[Qn (Nm gC),Yi _ gC];rfl
        have:=Vp (B.set 0 [AV.bs (B.length+1) 0 2 1]) [[I 1,I c.it,I c.fr,I c.to,I c.re,I c.n,I c.a,I c.b],[AV.int IntKind.i64 c.fr,AV.int IntKind.i64 c.to]] 1;rw[zzcq]at this;rw[this];rfl
       exact absurd rfl hx
      obtain⟨hx,_⟩|⟨_,cD,dZ,dx,fh,hb3⟩:=dU
      ·exact absurd hx aO
      have KF:∀x,Qi (B++x) 0=[.bs cD 0 (eL C).length 1]:=fun x=>by rw[Qn gC];exact dZ
      have alY:∀x,Qi (B++x) cD=aj (eL C):=fun x=>by rw[Qn fh];exact hb3
      have lu:∀x y,(B++x).set 0 y=B.set 0 y++x:=fun x y=>Yl y gC;have hsb:∀x y,(B++x).set cD y=B.set cD y++x:=fun x y=>Yl y fh;have fT:=oT C;have iT:=Uj (eL C);have zL:∀x,Qi (B.set cD []++x) 0=[.bs cD 0 (eL C).length 1]:=fun x=>by rw[Qn (Nm gC),Ya _ dx,dZ]
      have hss:∀x y,(B.set cD []++x).set 0 y=(B.set cD []).set 0 y++x:=fun x y=>Yl y (Nm gC);have bz:(aj (eL C)).take (eL C).length=aj (eL C):=zzau (by rw[iT];exact zzab _)
      have IA:aj (eL C)≠[]:=by
       intro h;have:=congrArg List.length h;rw[iT,fT]at this;exact aO (zzcd.1 (by simp at this;omega))
      simp[h27,h7,ah,aa,ai,Qg,hk,j6,e1,e2,dW,hw,KF,alY,lu,hsb,zL,hss,bz,IA,gC,fh,iT,Kz];refine⟨qU,nt,⟨?_,zE⟩,⟨zE,zE⟩,aQ,⟨i+1,zE,zd,C++[c],.own 0 8,⟨rfl,by simp[Qg,hk]⟩,[C.length+1],_,⟨rfl,rfl⟩,ht,by simp;omega,zd,.inr ⟨zd,rfl,zd⟩,.inr ⟨zd,B.length+1,?_,zE,zd,?_⟩⟩,zE⟩
      ·rintro row (⟨a,_,rfl⟩|rfl)<;>rfl
      ·rw[Qn (Nm gC),Yi _ (Nm gC),oS];simp[eL]
      have:=Vp ((B.set cD []).set 0 [AV.bs (B.length+1) 0 ((eL C).length+2) 1]) [[I 1,I c.it,I c.fr,I c.to,I c.re,I c.n,I c.a,I c.b],aj (eL C)++[AV.int IntKind.i64 c.fr,AV.int IntKind.i64 c.to]] 1;rw[zzcq,zzcq]at this;rw[this,oS,nc];rfl
     have j6:(⟨2,c.it,c.fr,c.to,c.re,c.n,c.a,c.b⟩:Cl)=c:=by cases c;simp at hk;subst hk;rfl
     have qU:Pure Tryz.prog aD 191 [.agg [I 2,I c.it,I c.fr,I c.to,I c.re,I c.n,I c.a,I c.b],I item,I region] (.bool true):=by simpa[Qg,hk]using hcp
     have nt:Pure Tryz.prog aD 48 [.agg [I 2,I c.it,I c.fr,I c.to,I c.re,I c.n,I c.a,I c.b]] (.bool true):=by simpa[Qg,hk]using XO
     obtain⟨rfl,rfl,rfl⟩|⟨aO,rfl,rfl⟩:=aY
     ·obtain⟨_,dZ⟩|⟨hx,_⟩:=dU
      ·have KF:∀x,Qi (B++x) 0=[.sl .nil []]:=fun x=>by rw[Qn gC];exact dZ
       have lu:∀x y,(B++x).set 0 y=B.set 0 y++x:=fun x y=>Yl y gC;simp[h27,h7,ah,aa,ai,Qg,hk,j6,e1,e2,dW,hw,KF,lu,gC,Kz];refine⟨qU,nt,aQ,⟨i+1,zE,zd,[c],.own 0 8,⟨rfl,by simp[Qg,hk]⟩,[1],_,⟨rfl,rfl⟩,ht,zd,zd,.inr ⟨zd,rfl,rfl⟩,.inr ⟨zd,B.length+1,?_,zE,zd,?_⟩⟩,zE⟩
       ·rw[Qn (Nm gC),Yi _ gC];rfl
       have:=Vp (B.set 0 [AV.bs (B.length+1) 0 2 1]) [[I 2,I c.it,I c.fr,I c.to,I c.re,I c.n,I c.a,I c.b],[AV.int IntKind.i64 c.fr,AV.int IntKind.i64 c.to]] 1;rw[zzcq]at this;rw[this];rfl
      exact absurd rfl hx
     obtain⟨hx,_⟩|⟨_,cD,dZ,dx,fh,hb3⟩:=dU
     ·exact absurd hx aO
     have KF:∀x,Qi (B++x) 0=[.bs cD 0 (eL C).length 1]:=fun x=>by rw[Qn gC];exact dZ
     have alY:∀x,Qi (B++x) cD=aj (eL C):=fun x=>by rw[Qn fh];exact hb3
     have lu:∀x y,(B++x).set 0 y=B.set 0 y++x:=fun x y=>Yl y gC;have hsb:∀x y,(B++x).set cD y=B.set cD y++x:=fun x y=>Yl y fh;have fT:=oT C;have iT:=Uj (eL C);have zL:∀x,Qi (B.set cD []++x) 0=[.bs cD 0 (eL C).length 1]:=fun x=>by rw[Qn (Nm gC),Ya _ dx,dZ]
     have hss:∀x y,(B.set cD []++x).set 0 y=(B.set cD []).set 0 y++x:=fun x y=>Yl y (Nm gC);have bz:(aj (eL C)).take (eL C).length=aj (eL C):=zzau (by rw[iT];exact zzab _)
     have IA:aj (eL C)≠[]:=by
      intro h;have:=congrArg List.length h;rw[iT,fT]at this;exact aO (zzcd.1 (by simp at this;omega))
     simp[h27,h7,ah,aa,ai,Qg,hk,j6,e1,e2,dW,hw,KF,alY,lu,hsb,zL,hss,bz,IA,gC,fh,iT,Kz];refine⟨qU,nt,⟨?_,zE⟩,⟨zE,zE⟩,aQ,⟨i+1,zE,zd,C++[c],.own 0 8,⟨rfl,by simp[Qg,hk]⟩,[C.length+1],_,⟨rfl,rfl⟩,ht,by simp;omega,zd,.inr ⟨zd,rfl,zd⟩,.inr ⟨zd,B.length+1,?_,zE,zd,?_⟩⟩,zE⟩
     ·rintro row (⟨a,_,rfl⟩|rfl)<;>rfl
     ·rw[Qn (Nm gC),Yi _ (Nm gC),oS];simp[eL]
     have:=Vp ((B.set cD []).set 0 [AV.bs (B.length+1) 0 ((eL C).length+2) 1]) [[I 2,I c.it,I c.fr,I c.to,I c.re,I c.n,I c.a,I c.b],aj (eL C)++[AV.int IntKind.i64 c.fr,AV.int IntKind.i64 c.to]] 1;rw[zzcq,zzcq]at this;rw[this,oS,nc];rfl
  have h1:¬c.ki=1:=fun h=>hk (.inl h);have h2:¬c.ki=2:=fun h=>hk (.inr h);have hs:=skip (by simp[FL,h1,h2]);simp[h27,h7,ah,aa,ai,Qg,h1,h2,dW,hw,Kz];refine⟨aQ,⟨i+1,zE,zd,C,rt,⟨rfl,rfl⟩,Lm,_,⟨rfl,rfl⟩,hs,zE,zd,aY,dU.app gC _⟩,zE⟩
 obtain rfl:i=cs.length:=zE
 have hCe:C=CC:=by rw[<- hC];simp[Wj]
 subst hCe;have w11:IntKind.i64.wrap 1=1:=by rw[Ql]<;>omega
 obtain⟨rfl,rfl,rfl⟩|⟨aO,rfl,rfl⟩:=aY
 ·obtain⟨_,dZ⟩|⟨h,_⟩:=dU
  ·have ar5:dD []=[]:=by simp[dD,eL,dd]
   simp[h27,h7,dW,dZ,Kz];refine oV _ _ _ _ ?_;simp[dZ,Kz];refine CZ _ _ _ ?_;have axf:=XN dZ gC;have gX:∀x,Qi (B++x) 0=[.sl .nil []]:=fun x=>by rw[Qn gC,dZ]
   simp[dZ,axf,gC,gX,Kz,w11,bF];refine AZ [] (dD []) [] R 0 rfl (by rw[ar5];rfl) zE zd (by rw[hR,ar5];rfl) _ _ _ _ _ B.length .nil .nil gC zd ?_ (fun _=>rfl) ?_ ?_ ?_ ?_ ?_ ?_ ?_ (fun h=>absurd rfl h);all_goals simp[Zh,aj]
  exact absurd rfl h
 obtain⟨h,_⟩|⟨_,cD,dZ,dx,fh,hb3⟩:=dU
 ·exact absurd h aO
 simp[h27,h7,dW,dZ,Kz];have fT:=oT C
 have IA:aj (eL C)≠[]:=by
  intro h;have:=congrArg List.length h;rw[Uj,fT]at this;exact aO (zzcd.1 (by simp at this;omega))
 refine sD _ (eL C) (by rw[fT];omega) _ cD [] ?_ (Nm IA) _ ?_
 ·show B[cD]?=_;rw[Jn fh,hb3,zzat]
 obtain⟨l,ze⟩:∃l,(eL C).mergeSort (fun x y=>decide (x<=y))=l:=⟨_,rfl⟩;have Ei:(eL C).length=l.length:=by rw[<- ze,zzf]
 have hdl:dd l=dD C:=by rw[<- ze];rfl
 have KG:∀X,Qi (B.set cD X) 0=[.bs cD 0 (eL C).length 1]:=fun X=>by rw[Ya _ dx];exact dZ
 have axg:l≠[]:=by
  intro h;have:=congrArg List.length h;rw[<- Ei,fT]at this;exact aO (zzcd.1 (by simp at this;omega))
 simp[AM.wr,ze,KG,Ei,Kz];refine sB _ l (by rw[<- Ei,fT];omega) _ _ _ _ cD (Nm fh) axg (Yi _ fh) _ ?_;intro B2 z eE A4 hz;rw[hdl]at A4 hz |-
 have ar6:0<B2.length:=by have:=eE.1;simp at this;omega
 have axh:Qi B2 0=[.bs cD 0 l.length 1]:=by rw[eE.2 0 (Nm gC) (fun h=>dx h.symm),KG,Ei]
 have azi:cD<B2.length:=by have:=eE.1;simp at this;omega
 obtain⟨B3,SH⟩:∃B3,B2.set 0 [.bs cD 0 (dD C).length 1]=B3:=⟨_,rfl⟩;have axi:B3.length=B2.length:=by rw[<- SH];simp
 have alZ:Qi B3 0=[.bs cD 0 (dD C).length 1]:=by rw[<- SH];exact Yi _ ar6
 have axj:Qi B3 cD=aj (dD C++z):=by rw[<- SH,Ya _ (fun h=>dx h.symm)];exact A4
 have axk:∀x,Qi (B3++x) 0=[.bs cD 0 (dD C).length 1]:=fun x=>by rw[Qn zE];exact alZ
 have axl:0<B3.length:=zE
 have azj:=NY C;have hwn:IntKind.i64.wrap (((dD C).length:Int)+1)=((dD C).length:Int)+1:=by rw[Ql]<;>omega
 have htn:(((dD C).length:Int)+1).toNat=(dD C).length+1:=zE
 have AD:(0:Int)<=((dD C).length:Int)+1:=zE
 have hf1:=XG (dD C).length;have hf2:=FF ((dD C).length+1);simp[axh,ar6,SH,alZ,axk,hwn,htn,AD,hf1,hf2,axi.symm,axl,Kz];refine⟨⟨zE,zE⟩,⟨zE,zE⟩,?_⟩;refine AZ C (dD C) z R (dD C).length rfl rfl zE zE hR _ _ _ _ _ B3.length (.own 0 8) .ro zE zd ?_ (fun _=>rfl) ?_ ?_ ?_ ?_ ?_ ?_ ?_ (fun _=>⟨cD,by rw[Qn zE];exact alZ,by rw[Qn zE];exact axj,zE,zE⟩);all_goals simp
end
