import Derived.Test.YthjppoincojfkaaGreatDoorRPSpG
set_option linter.all false
set_option maxRecDepth 100000
set_option maxHeartbeats 64000000
namespace Go.Proofs.YthjppoincojfkaaGreatDoor
noncomputable section
open Go Go.Abs
def Uh(l:Pi):(aj l).length=l.length:=by simp[aj]
def nC{l:Pi}{i:Nat}{x:Int}(h:l[i]?=some x):(aj l).drop i=I x::aj (l.drop (i+1)):=by
 unfold aj;rw[<- zzge];have ai:=(zza.1 h).1;rw[zzag ai,(zza.1 h).2];rfl
def KA(l:Pi)(i:Nat)(x:Int):(aj l).set i (I x)=aj (l.set i x):=by simp[aj,zzfg]
def nD(a b:Pi):aj (a++b)=aj a++aj b:=by simp[aj]
def WY(l:Pi):Zm (aj l)=true:=by
 simp[Zm,aj]
def wM:∀(l:Pi)(r:P2),aY 1 l.length (aj l++r)=l.map fun x=>[I x]
 |[],_=>rfl
 |s::l,r=>by simpa[aj]using wM l r
def FH(n:Nat):bF n [I 0]=aj (List.replicate n 0):=by
 induction n with
 |zero=>rfl
 |succ n ih=>rw[bF,ih];rfl
def FI{l:Pi}{i:Nat}{x:Int}(h:l[i]?=some x):Qh (l.map fun x=>[I x]) i=[I x]:=Qu (by simp[h])
def dd:Pi->Pi
 |[]=>[]
 |[x]=>[x]
 |x::y::r=>if x=y then dd (y::r)else x::dd (y::r)
theorem FJ(x y:Int)(r:Pi):dd (x::y::r)=if x=y then dd (y::r)else x::dd (y::r):=rfl
def CZ:∀(p:Pi)(a b:Int),dd (p++[a]++[b])=dd (p++[a])++(if b=a then[]else[b])
 |[],a,b=>by
  by_cases h:b=a
  ·subst h;simp[dd]
  have:¬a=b:=fun e=>h e.symm;simp[dd,h,this]
 |[x],a,b=>by
  have ih:=CZ [] a b;simp only[zzai,zzae]at ih |-
  rw[FJ x a [b],FJ x a [],ih];by_cases hx:x=a
  ·rw[if_pos hx,if_pos hx]
  rw[if_neg hx,if_neg hx];rfl
 |x::y::p,a,b=>by
  have ih:=CZ (y::p) a b;simp only[zzae]at ih |-
  rw[FJ x y (p++[a]++[b]),FJ x y (p++[a]),ih];by_cases hx:x=y
  ·rw[if_pos hx,if_pos hx]
  rw[if_neg hx,if_neg hx];rfl
def NU{l:Pi}{j:Nat}{a b:Int}(ha:l[j]?=some a)(hb:l[j+1]?=some b):dd (l.take (j+2))=dd (l.take (j+1))++(if b=a then[]else[b]):=by
 have e1:l.take (j+1)=l.take j++[a]:=by rw[zzb,ha];rfl
 have e2:l.take (j+2)=l.take j++[a]++[b]:=by rw[show j+2=(j+1)+1 from rfl,zzb,hb,e1];rfl
 rw[e2,e1,CZ]
def KB:∀l:Pi,(dd l).length<=l.length
 |[]=>by simp[dd]
 |[x]=>by simp[dd]
 |x::y::r=>by
  have:=KB (y::r);rw[dd];split<;>simp at*<;>omega
def KC:∀(l:Pi)(x:Int),x∈dd l<->x∈l
 |[],x=>by simp[dd]
 |[y],x=>by simp[dd]
 |a::b::r,x=>by
  have ih:=KC (b::r) x;rw[dd];split
  ·rename_i h;subst h;rw[ih];simp
  rw[zzap,ih,zzap (a:=x) (b:=a)]
def WZ:∀{l:Pi},l.Pairwise (·<=·)->(dd l).Pairwise (·<·)
 |[],_=>by simp[dd]
 |[x],_=>by simp[dd]
 |x::y::r,h=>by
  obtain⟨h1,h2⟩:=zzby.1 h;have ih:=WZ h2;rw[dd];split
  ·exact ih
  rename_i aO;refine zzby.2 ⟨fun z hz=>?_,ih⟩;have hz':=(KC _ _).1 hz;have hxy:=h1 y zd;rcases zzap.1 hz' with rfl|hz'
  ·omega
  have:=(zzby.1 h2).1 z hz';omega
def sE(Y:YT)(l:Pi)(hl:l.length<=1000000000)(B:T5)(L:Pa)(st:Nat->LS)(n id:Nat)(aL:id<B.length)(aO:l≠[])(hB:Qh B id=aj l)(K:So)
  (hK:∀(B':T5)(z:Pi),bB (·=id) B B'->Qh B' id=aj (dd l++z)->(dd l).length+z.length=l.length->K (.bs id 0 (dd l).length 1) ⟨B',L,st,n⟩):
  aB Tryz.prog aD Y 111 [.bs id 0 l.length 1] ⟨B,L,st,n⟩ K:=by
 have aH:=Uh l;have lF:0<l.length:=zzdb.2 aO;refine Xn BT (fun _ _ _=>.junk) zd ?_;by_cases h2:l.length<2
 ·have Nx:(l.length:Int)<2:=zE
  have hd:dd l=l:=by
   match l,aO,h2 with
   |[x],_,_=>rfl
  have:=hK B [] (bB.refl _ _) (by rw[hd,zzau];exact hB) (by rw[hd];simp);rw[hd]at this;simp[va,Ac,Nx,h2];exact this
 have Nx:¬(l.length:Int)<2:=zE
 simp[va,Nx,h2];refine Qi BU (fun f m=>∃k:Nat,f 3=I k/\1<=k/\k<=l.length/\m=⟨B,L,st,n⟩/\dd (l.take k)=l.take k) (fun f _=>l.length-(numOf (f 3)).toNat) ?_ ?_
 ·refine⟨1,zd,zE,zE,rfl,?_⟩
  match l,aO with
  |x::r,_=>rfl
 rintro f m ⟨k,h3,dA,hk,rfl,CG⟩;rcases zzaa k l.length with ai|bq
 ·obtain⟨k',rfl⟩:∃k',k=k'+1:=⟨k-1,zE⟩;obtain⟨a,ha⟩:∃a,l[k']?=some a:=⟨_,zzaf zE⟩;obtain⟨b,hb⟩:∃b,l[k'+1]?=some b:=⟨_,zzaf ai⟩;have ga:=nC ha;have gb:=nC hb;have C0:((k':Int)+1)<(l.length:Int):=zE
  have aiZ:(k':Int)<(l.length:Int):=zE
  have Nz:k'<l.length:=zE
  have lM:IntKind.i64.wrap ((k':Int)+1-1)=(k':Int):=by rw[Ql]<;>omega
  have asu:IntKind.i64.wrap (k':Int)=(k':Int):=by rw[Ql]<;>omega
  have fQ:IntKind.i64.wrap ((k':Int)+1+1)=((k'+1+1:Nat):Int):=by rw[Ql]<;>omega
  have vJ:(0:Int)<=(k':Int)+1:=zE
  have htn:((k':Int)+1).toNat=k'+1:=zE
  have hdt:=NU ha hb;by_cases hab:b=a
  ·rw[if_pos hab,zzau]at hdt;simp[h3,ai,C0,aiZ,Nz,hB,ga,gb,lM,asu,fQ,vJ,htn,hab,BU];have cn:(k':Int)+1<=(l.length:Int):=zE
   refine⟨cn,?_⟩
   refine Qi BV (fun f m=>∃(k t:Nat)(B':T5)(L':Pi),f 3=I k/\f 5=I ((t+1:Nat):Int)/\k'+1+(t+1)<=l.length/\1<=k/\k<=k'+1+t/\m=⟨B',L,st,n⟩/\bB (·=id) B B'/\Qh B' id=aj L'/\L'.length=l.length/\
    L'.take k=dd (l.take (k'+1+(t+1)))/\L'.drop (k'+1+t)=l.drop (k'+1+t)) (fun f _=>l.length-(k'+1)-(numOf (f 5)).toNat) ?_ ?_
   ·refine⟨k'+1,0,B,l,by simp[h3],zd,zE,zE,zE,rfl,bB.refl _ _,hB,rfl,?_,rfl⟩;rw[show k'+1+(0+1)=k'+2 by omega,hdt,CG]
   rintro g m ⟨k,t,B',L',g3,g5,ht,W4,hkt,rfl,nE,eP,tN,bA,P5⟩;have cH:id<B'.length:=zzba aL nE.1;have jm:=Uh L';rcases zzaa (k'+1+(t+1)) l.length with gK|hjg
   ·obtain⟨x,hx⟩:∃x,l[k'+1+t]?=some x:=⟨_,zzaf zE⟩;obtain⟨y,hy⟩:∃y,l[k'+1+t+1]?=some y:=⟨_,zzaf zE⟩
    have iy:L'[k'+1+t]?=some x:=by
     have:=congrArg (fun q=>q[0]?) P5;simpa[hx]using this
    have hy':L'[k'+1+t+1]?=some y:=by
     have:=congrArg (fun q=>q[1]?) P5;simpa[hy]using this
    have gx:=nC iy;have gy:(aj L').drop (k'+1+(t+1))=I y::aj (L'.drop (k'+1+t+1+1)):=nC hy';have J3:=NU hx hy;rw[show k'+1+t+2=k'+1+(t+1+1) by omega,show k'+1+t+1=k'+1+(t+1) by omega,<- bA]at J3
    have hdn:L'.drop (k'+1+(t+1))=l.drop (k'+1+(t+1)):=by
     have:=congrArg (List.drop 1) P5;simpa[zze,zzan,zzfe,Nat.add_left_comm]using this
    have eD:(t+1:Nat)<l.length-(k'+1):=zE
    have ai0:((t:Int)+1)<((l.length-(k'+1):Nat):Int):=zE
    have ai1:(t:Int)<((l.length-(k'+1):Nat):Int):=zE
    have ai2:t<l.length-(k'+1):=zE
    have hwt:IntKind.i64.wrap (t:Int)=(t:Int):=by rw[Ql]<;>omega
    have asv:IntKind.i64.wrap ((t:Int)+1+1)=((t+1+1:Nat):Int):=by rw[Ql]<;>omega
    have KD:=bP k zE;have al3:((t:Int)+1).toNat=t+1:=zE
    have asw:(0:Int)<=(t:Int)+1:=zE
    have W5:(k:Int)<(l.length:Int):=zE
    have KE:k<l.length:=zE
    have bR:=KA L' k y;by_cases hyx:y=x
    ·rw[if_pos hyx,zzau]at J3;simp[g3,g5,eP,gx,gy,eD,ai0,ai1,ai2,hwt,asv,al3,asw,hyx,BV];refine⟨aQ,⟨k,rfl,t+1,zd,zE,W4,zE,nE,L',rfl,tN,J3.symm,hdn⟩,zE⟩
    rw[if_neg hyx]at J3;simp[g3,g5,eP,gx,gy,eD,ai0,ai1,ai2,hwt,asv,KD,al3,asw,hyx,W5,KE,bR,cH,BV];refine⟨by rw[jm];omega,aQ,⟨k+1,zd,t+1,zd,zE,zE,zE,nE.set (.inl rfl) _,L'.set k y,Yg _ cH,Nm tN,?_,?_⟩,zE⟩
    ·rw[zzb,zzbg zE,zzfv zE];exact J3.symm
    rw[show k'+1+(t+1)=k'+1+(t+1)from rfl,zzfw zE];exact hdn
   have bO:¬(t:Int)+1<((l.length-(k'+1):Nat):Int):=zE
   have W5:(k:Int)<(l.length:Int):=zE
   have KE:k<l.length:=zE
   have aw8:(k:Int)<=(l.length:Int):=zE
   have FC:dd l=L'.take k:=by rw[bA,zzat zE]
   have asx:(dd l).length=k:=by rw[FC,zzaq];omega
   have fG:aj L'≠[]:=by
    intro h;have:=congrArg List.length h;rw[jm,tN]at this;simp at this;exact aO this
   have qu:setA (aj L') k (bF (l.length-k) [I 0])=aj (dd l++List.replicate (l.length-k) 0):=by
    have e1:L'=L'.take k++L'.drop k:=zd
    conv=>lhs;rw[e1]
    rw[nD,nD,FH,FC];have e2:(aj (L'.take k)).length=k:=by rw[Uh,zzaq];omega
    have:=pn (aj (List.replicate (l.length-k) 0)) (aj (L'.take k)) (aj (L'.drop k)) (by rw[Uh,Uh,zzeb,zzcw,tN]);rw[e2]at this;exact this
   simp[g3,g5,eP,BV,Ac,bO,W5,KE,aw8,cH,fG,jm,tN,qu];refine⟨zE,?_⟩;have:=hK (B'.set id (aj (dd l++List.replicate (l.length-k) 0))) (List.replicate (l.length-k) 0) (nE.set (.inl rfl) _) (Yg _ cH) (by rw[asx];simp;omega);rw[asx]at this;exact this
  rw[if_neg hab]at hdt;simp[h3,ai,C0,aiZ,Nz,hB,ga,gb,lM,asu,fQ,vJ,htn,hab,BU];refine⟨aQ,⟨k'+1+1,zE,zE,zE,?_⟩,zE⟩
  ·rw[show k'+1+1=k'+2 by omega,hdt,CG,zzb (l:=l) (i:=k'+1),hb];rfl
 obtain rfl:k=l.length:=zE
 rw[zzbz]at CG;have Eb:¬((l.length:Nat):Int)<(l.length:Int):=zE
 have:=hK B [] (bB.refl _ _) (by rw[CG,zzau];exact hB) (by rw[CG];simp);rw[CG]at this;simp[h3,BU,Ac];exact this
def FK(a:Int):Pure Tryz.prog aD 248 [I a] (.bool false):=by
 refine Qp adC (fun _ _ _=>.junk) zd ?_;simp[ah9,aia]
def FL(a:Int):Pure Tryz.prog aD 235 [I a] (.bool false):=by
 refine Qp adv (fun _ _ _=>.junk) zd ?_;simp[ahZ,ah0]
def P6(a b:Int):Pure Tryz.prog aD 220 [I a,I b] (.bool (decide (a<b))):=by
 have h:=FK a;refine Qp ado (fun _ _ _=>.bool false) zd ?_;simp[ahU,ahV];exact h
def qX(l:Pi)(x:Int):Nat:=(l.filter fun y=>decide (y<x)).length
def al4{l:Pi}{x:Int}{i:Nat}(hi:i<=l.length)(h1:∀(k:Nat)(y:Int),k<i->l[k]?=some y->y<x)(h2:∀(k:Nat)(y:Int),i<=k->l[k]?=some y->x<=y):qX l x=i:=by
 unfold qX;have e:l=l.take i++l.drop i:=zd
 rw[e,zzdg]
 have e1:(l.take i).filter (fun y=>decide (y<x))=l.take i:=by
  rw[zzfx];intro y hy;obtain⟨k,hk⟩:=zzcq.1 hy;rw[zzbj]at hk;split at hk
  ·simpa using h1 k y (by assumption) hk
  cases hk
 have e2:(l.drop i).filter (fun y=>decide (y<x))=[]:=by
  rw[zzgy];intro y hy;obtain⟨k,hk⟩:=zzcq.1 hy;rw[zzbl]at hk;have:=h2 (i+k) y zE hk;simp;omega
 rw[e1,e2];simp;omega
def pq(l:Pi)(x:Int)(hl:l.length<=1000000000)(hs:l.Pairwise (·<=·)):Pure Tryz.prog aD 194 [.sl .ro (l.map fun y=>[I y]),I x] (.aS [I (qX l x:Nat),.bool (decide (l[qX l x]?=some x))]):=by
 refine Qp ac6 (fun _ f a=>if f=220 then(match a with|[.int _ a,.int _ b]=>.bool (decide (a<b))|_=>.junk)else .bool false) zd ?_;simp[T1]
 refine Qi qC (fun f m=>∃i j:Nat,f 7=I i/\f 8=I j/\i<=j/\j<=l.length/\m=⟨[],[],fun _=>.gone,0⟩/\(∀(k:Nat)(y:Int),k<i->l[k]?=some y->y<x)/\∀(k:Nat)(y:Int),j<=k->l[k]?=some y->x<=y)
  (fun f _=>(numOf (f 8)).toNat-(numOf (f 7)).toNat) ?_ ?_
 ·refine⟨0,l.length,zd,zd,zE,zE,rfl,fun k y h=>zE,fun k y h1 h2=>?_⟩;rw[zzas h1]at h2;cases h2
 rintro f m ⟨i,j,h7,h8,eF,hj,rfl,ha,hb⟩;rcases zzaa i j with ai|bq
 ·have VH:(i+j)/2<l.length:=zE
  obtain⟨y,hy⟩:∃y,l[(i+j)/2]?=some y:=⟨_,zzaf VH⟩;obtain⟨s,hse⟩:∃s,s=(i+j)/2:=⟨_,rfl⟩;rw[<- hse]at hy;have ah:=FI hy;have ai3:(i:Int)<(j:Int):=zE
  have w1:IntKind.i64.wrap ((i:Int)+(j:Int))=((i+j:Nat):Int):=by rw[Ql]<;>omega
  have w2:IntKind.u64.wrap ((i+j:Nat):Int)=((i+j:Nat):Int):=by simp[IntKind.wrap,IntKind.bits,IntKind.signed];omega
  have w3:Int.fdiv ((i:Int)+(j:Int)) (2 ^ min 1 IntKind.u64.bits)=(s:Int):=by
   rw[show(2:Int) ^ min 1 IntKind.u64.bits=2 from rfl,zzgf _ zE];omega
  have w4:IntKind.i64.wrap (s:Int)=(s:Int):=by rw[Ql]<;>omega
  have w5:=bP s zE;have iB:s<l.length:=zE
  have asy:(s:Int)<(l.length:Int):=zE
  have hp:=P6 y x
  have mono:∀(p q:Nat)(u v:Int),p<=q->l[p]?=some u->l[q]?=some v->u<=v:=by
   intro p q u v hpq hu hv;rcases zzaa p q with h|h
   ·obtain⟨hp1,hu⟩:=zza.1 hu;obtain⟨hq1,hv⟩:=zza.1 hv;have:=(zzdr.1 hs) p q hp1 hq1 h;omega
   obtain rfl:p=q:=zE
   rw[hu]at hv;cases hv;omega
  by_cases hyx:y<x
  ·have al5:decide (y<x)=true:=decide_eq_true hyx;rw[al5]at hp;simp only[Int.natCast_add]at w1 w2;simp[h7,h8,ai3,ai,ah,qC,w1,w2,w3,w4,w5,iB,asy,hyx];refine⟨hp,aQ,⟨s+1,zd,j,rfl,zE,zE,fun k z hk hz=>?_,hb⟩,zE⟩
   ·have:=mono k s z y zE hz hy;omega
  have al5:decide (y<x)=false:=decide_eq_false hyx;rw[al5]at hp;simp only[Int.natCast_add]at w1 w2;simp[h7,h8,ai3,ai,ah,qC,w1,w2,w3,w4,w5,iB,asy,hyx];refine⟨hp,aQ,⟨i,rfl,s,rfl,zE,zE,ha,fun k z hk hz=>?_⟩,zE⟩
  ·have:=mono s k y z hk hy hz;omega
 obtain rfl:i=j:=zE
 have jo:=al4 hj ha hb;rw[jo];have Pb:¬(i:Int)<(i:Int):=zE
 rcases zzaa i l.length with ai|hge'
 ·obtain⟨y,hy⟩:=aV ai;have ah:=FI hy;have aa:(i:Int)<(l.length:Int):=zE
  have hn:=FL y;have hli:l[i]=y:=(zza.1 hy).2;by_cases hyx:y=x
  ·subst hyx;simp[h7,h8,ai,aa,ah,qC,Na,hli]
  simp[h7,h8,ai,aa,ah,qC,Na,hli,hyx];exact hn
 have aa:¬(i:Int)<(l.length:Int):=zE
 have:l[i]?=none:=zzas hge';simp[h7,h8,aa,qC,Na,this]
def P7(cs:List Cl)(n:Nat):T5:=((List.range n).reverse).map fun(k:Nat)=>[I (k:Int),.agg (Qg (cs.getD k ⟨0,0,0,0,0,0,0,0⟩))]
def nF(cs:List Cl)(n:Nat):P7 cs (n+1)=[I (n:Int),.agg (Qg (cs.getD n ⟨0,0,0,0,0,0,0,0⟩))]::P7 cs n:=by
 simp[P7,zzfc]
def mz(cs:List Cl):Pure Tryz.prog aD 193 [.sl .ro (cs.map Qg)] (.fn 234 [] [.ep [.sl .ro (cs.map Qg)] 0]):=by
 refine Qp ac5 (fun _ _ _=>.junk) zd ?_;simp[ahE,ahF]
def mA(cs:List Cl)(hl:cs.length<=1000000000):Iter Tryz.prog aD 234 [] [.ep [.sl .ro (cs.map Qg)] 0] (P7 cs cs.length):=by
 intro Y l m K hF;refine Xn adu (fun _ _ _=>.junk) zd ?_;have hw0:IntKind.i64.wrap ((cs.length:Int)-1)=(cs.length:Int)-1:=by rw[Ql]<;>omega
 simp[ahY,hw0];refine Qi JB (fun f mm=>∃i:Nat,f 3=I ((i:Int)-1)/\i<=cs.length/\wG (Y l) K (P7 cs i) mm) (fun f _=>(numOf (f 3)+1).toNat) ?_ ?_
 ·exact⟨cs.length,zd,zE,hF⟩
 rintro f mm ⟨i,h3,hi,hF⟩;cases i with
 |zero=>
  have hK:K mm:=hF mm (fu.refl _);simp[h3,JB,UC];exact hK
 |succ i=>
  obtain⟨c,hc⟩:∃c,cs[i]?=some c:=⟨_,zzaf zE⟩;have ah:Qh (cs.map Qg) i=Qg c:=Qu (by simp[hc]);have JM:cs.getD i ⟨0,0,0,0,0,0,0,0⟩=c:=by simp[zzax,hc]
  rw[nF,JM]at hF;have h3':f 3=I i:=by rw[h3];congr 1;omega
  have aa:i<cs.length:=zE
  have wN:(i:Int)<(cs.length:Int):=zE
  have hw:IntKind.i64.wrap ((i:Int)-1)=(i:Int)-1:=by rw[Ql]<;>omega
  have vJ:(0:Int)<=(i:Int):=zE
  simp only[Qg]at hF ah;simp[h3',JB,ah,aa,wN,hw,vJ];refine hF _ (fu.refl _) _ (fun m2 AW=>?_) (fun m2 hK=>?_)
  ·simp[hw];refine⟨aQ,⟨i,rfl,zE,AW⟩⟩
  simp[UC];exact hK _ (fu.refl _)
open Go Go.Abs
def Xq(L:Pa):P2:=aj (L.map fun(k:Nat)=>(k:Int))
def W6(L:Pa):(Xq L).length=L.length:=by simp[Xq,Uh]
def KF{L:Pa}{i v:Nat}(h:L[i]?=some v):(Xq L).drop i=I (v:Int)::Xq (L.drop (i+1)):=by
 unfold Xq;rw[nC (x:=(v:Int)) (by simp[h]),zzge]
def W7(L:Pa)(i v:Nat):(Xq L).set i (I (v:Int))=Xq (L.set i v):=by
 unfold Xq;rw[KA,zzfg]
def WF(L:Pa)(d:Nat->Bool)(n:Nat):Prop:=L.length=n+1/\∀i v,L[i]?=some v->i<=v/\v<=n/\(v=i<->d i=false)/\∀j,i<=j->j<v->d j=true
def WF.jump{L:Pa}{d:Nat->Bool}{n i v u:Nat}(h:WF L d n)(h1:L[i]?=some v)(h2:L[v]?=some u)(aO:v≠i):WF (L.set i u) d n:=by
 obtain⟨hl,hw⟩:=h;refine⟨Nm hl,fun k x hk=>?_⟩;have iV:i<L.length:=(zza.1 h1).1;obtain⟨a1,a2,a3,a4⟩:=hw i v h1;obtain⟨b1,b2,b3,b4⟩:=hw v u h2;by_cases eO:k=i
 ·subst eO;rw[zzbg iV]at hk;cases hk;refine⟨zE,b2,?_,fun j dW ov=>?_⟩
  ·have hd:d k≠false:=fun h=>aO (a3.2 h);constructor
   ·intro h;omega
   intro h;exact absurd h hd
  rcases zzaa j v with h|h
  ·exact a4 j dW h
  exact b4 j h ov
 rw[zzbn (fun h=>eO h.symm)]at hk;exact hw k x hk
def NV(Y:YT)(i n c Iz:Nat)(L:Pa)(d:Nat->Bool)(hw:WF L d n)(hi:i<=n)(hn:n<=1000000000)(B:T5)(Lm:Pa)(st:Nat->LS)(ln:Nat)(hc:c<B.length)(aw9:Iz<B.length)(aO:c≠Iz)
  (hBc:Qh B c=[.bs Iz 0 (n+1) 1])(wO:Qh B Iz=Xq L)(K:So)
  (hK:∀(B':T5)(L':Pa)(r:Nat),bB (·=Iz) B B'->Qh B' Iz=Xq L'->WF L' d n->i<=r->r<=n->d r=false->(∀j,i<=j->j<r->d j=true)->K (I r) ⟨B',Lm,st,ln⟩):
  aB Tryz.prog aD Y 192 [I i,.ptr c 0] ⟨B,Lm,st,ln⟩ K:=by
 refine Xn ac4 (fun _ _ _=>.junk) zd ?_;simp[TZ];refine Qi JA (fun f m=>∃(k:Nat)(B':T5)(L':Pa),f 0=I k/\i<=k/\k<=n/\m=⟨B',Lm,st,ln⟩/\bB (·=Iz) B B'/\Qh B' Iz=Xq L'/\WF L' d n/\∀j,i<=j->j<k->d j=true) (fun f _=>n-(numOf (f 0)).toNat) ?_ ?_
 ·exact⟨i,B,L,zd,zE,hi,rfl,bB.refl _ _,wO,hw,fun j h1 h2=>zE⟩
 rintro f m ⟨k,B',L',h0,qP,Eb,rfl,nE,FM,hw',hd⟩;have W8:Iz<B'.length:=zzba aw9 nE.1;have al6:Qh B' c=[.bs Iz 0 (n+1) 1]:=by rw[nE.2 c hc aO];exact hBc
 obtain⟨eV,fQ⟩:=hw';obtain⟨v,hv⟩:∃v,L'[k]?=some v:=⟨_,zzaf zE⟩;obtain⟨v1,v2,v3,v4⟩:=fQ k v hv;obtain⟨u,hu⟩:∃u,L'[v]?=some u:=⟨_,zzaf zE⟩;obtain⟨u1,u2,u3,u4⟩:=fQ v u hu;have gv:=KF hv;have gu:=KF hu;have qv:k<n+1:=zE
 have zD:(k:Int)<(n:Int)+1:=zE
 have hvl:v<n+1:=zE
 have axa:(v:Int)<(n:Int)+1:=zE
 have aH:=W6 L';by_cases hvk:v=k
 ·subst hvk;simp[h0,al6,FM,gv,qv,zD,JA,ahD];exact hK B' L' v nE FM ⟨eV,fQ⟩ qP Eb (v3.1 rfl) hd
 have axb:¬(v:Int)=(k:Int):=zE
 have bR:=W7 L' k u;have hW:=WF.jump ⟨eV,fQ⟩ hv hu hvk;have JL:(L'.set k u)[k]?=some u:=zzbg zE;have gu2:=KF JL;have ayX:Iz<(B'.set Iz (Xq (L'.set k u))).length:=by simpa using W8
 have Sl:Qh (B'.set Iz (Xq (L'.set k u))) Iz=Xq (L'.set k u):=Yg _ W8;have oM:Qh (B'.set Iz (Xq (L'.set k u))) c=[.bs Iz 0 (n+1) 1]:=by rw[Ya _ (fun h=>aO h.symm)];exact al6
 simp[h0,al6,FM,gv,gu,qv,zD,hvl,axa,hvk,axb,JA,bR,Sl,oM,gu2,aH,eV,W8];refine⟨zE,aQ,⟨u,rfl,zE,zE,nE.set (.inl rfl) _,_,rfl,hW,fun j h1 h2=>?_⟩,zE⟩
 ·rcases zzaa j k with h|h
  ·exact hd j h1 h
  rcases zzaa j v with h3|h3
  ·exact v4 j h h3
  exact u4 j h3 h2
open Go Go.Abs
def FN(item region:Int)(c:Cl):Bool:=decide (c.ki=1\/c.ki=2)&&(gN c item region&&Zc c)
def Wq(cs:List Cl)(item region:Int):List Cl:=cs.filter (FN item region)
def eH:List Cl->Pi
 |[]=>[]
 |c::r=>c.fr::c.to::eH r
def pz:∀a b:List Cl,eH (a++b)=eH a++eH b
 |[],_=>rfl
 |c::r,b=>by simp[eH,pz r b]
def pE:∀a:List Cl,(eH a).length=2*a.length
 |[]=>rfl
 |c::r=>by simp[eH,pE r];omega
def pF{c:Cl}:∀{a:List Cl},c∈a->c.fr∈eH a/\c.to∈eH a
 |[],h=>by cases h
 |d::r,h=>by
  rcases zzap.1 h with rfl|h
  ·simp[eH]
  have:=pF h;simp[eH,this.1,this.2]
def dG(C:List Cl):Pi:=dd ((eH C).mergeSort fun x y=>decide (x<=y))
def NW(C:List Cl):(dG C).Pairwise (·<·):=by
 refine WZ ?_;have:=zzgv (le:=fun x y:Int=>decide (x<=y)) (fun a b c h1 h2=>by simp at*;omega) (fun a b=>by simp;omega) (eH C);exact this.imp zd
def uz(C:List Cl)(x:Int):x∈dG C<->x∈eH C:=by
 unfold dG;rw[KC,(zzfy _ _).mem_iff]
def NX(C:List Cl):(dG C).length<=2*C.length:=by
 have h1:=KB ((eH C).mergeSort fun x y=>decide (x<=y));rw[zzet,pE]at h1;exact h1
abbrev GS:=List (Option Bool)
def stepG(s:GS)(a b:Nat)(v:Bool):GS:=s.mapIdx fun j o=>if a<=j/\j<b/\o=none then some v else o
def P8(Bd:Pi)(s:GS)(c:Cl):GS:=stepG s (qX Bd c.fr) (qX Bd c.to) (decide (c.ki=1))
def wP(C:List Cl):GS:=C.reverse.foldl (P8 (dG C)) (List.replicate (dG C).length none)
def C1(Bd:Pi)(s:GS)(i:Nat):List Sp:=if s[i]?=some (some true)then[(Bd.getD i 0,Bd.getD (i+1) 0)]else[]
def nG(Bd:Pi)(s:GS)(n:Nat):List Sp:=(List.range n).flatMap (C1 Bd s)
def Qcs(cs:List Cl)(item region:Int):List Sp:=Xm (nG (dG (Wq cs item region)) (wP (Wq cs item region)) (dG (Wq cs item region)).length)
def qY(s:GS)(a b:Nat)(v:Bool):(stepG s a b v).length=s.length:=by simp[stepG]
def Ux(s:GS)(a b:Nat)(v:Bool)(j:Nat):(stepG s a b v)[j]?=(s[j]?).map fun o=>if a<=j/\j<b/\o=none then some v else o:=by simp[stepG]
def AX(s:GS)(a b:Nat)(v:Bool)(h:b<=a):stepG s a b v=s:=by
 apply zzcz;intro j;rw[Ux];cases s[j]? with
 |none=>rfl
 |some o=>simp;intro h1 h2;omega
def KG(s:GS)(a k:Nat)(v:Bool)(hak:a<=k)(hk:s[k]?=some none):stepG s a (k+1) v=(stepG s a k v).set k (some v):=by
 have ai:k<s.length:=(zza.1 hk).1;apply zzcz;intro j;rw[Ux];by_cases tH:j=k
 ·subst tH;rw[zzbg (by rw[qY];exact ai),hk];simp[hak]
 rw[zzbn (fun h=>tH h.symm),Ux];cases s[j]? with
 |none=>rfl
 |some o=>
  simp only[zzct];congr 1;by_cases h:a<=j/\j<k/\o=none
  ·rw[if_pos h,if_pos ⟨h.1,zE,h.2.2⟩]
  rw[if_neg h,if_neg (fun h'=>h ⟨h'.1,zE,h'.2.2⟩)]
def wQ(s:GS)(a k r:Nat)(v:Bool)(hkr:k<=r)(h:∀j,k<=j->j<r->s[j]?≠some none):stepG s a r v=stepG s a k v:=by
 apply zzcz;intro j;rw[Ux,Ux];cases hj:s[j]? with
 |none=>rfl
 |some o=>
  simp only[zzct];congr 1;by_cases h1:a<=j/\j<k/\o=none
  ·rw[if_pos h1,if_pos ⟨h1.1,zE,h1.2.2⟩]
  rw[if_neg h1];by_cases h2:a<=j/\j<r/\o=none
  ·exfalso
   have hkj:k<=j:=by
    rcases zzaa j k with h3|h3
    ·exact absurd ⟨h2.1,h3,h2.2.2⟩ h1
    exact h3
   exact h j hkj h2.2.1 (by rw[hj,h2.2.2])
  rw[if_neg h2]
def gB(s:GS):List Bool:=s.map fun o=>o==some true
def nH(s:GS)(j:Nat):Bool:=match s[j]? with
 |some (some _)=>true
 |_=>false
def Zi(l:List Bool):P2:=l.map AV.bool
def al7(l:List Bool):(Zi l).length=l.length:=by simp[Zi]
def al8{l:List Bool}{i:Nat}{x:Bool}(h:l[i]?=some x):(Zi l).drop i=.bool x::Zi (l.drop (i+1)):=by
 unfold Zi;rw[<- zzge];have ai:=(zza.1 h).1;rw[zzag ai,(zza.1 h).2];rfl
def al9(l:List Bool)(i:Nat)(x:Bool):(Zi l).set i (.bool x)=Zi (l.set i x):=by simp[Zi,zzfg]
def W9(n:Nat):bF n [.bool false]=Zi (List.replicate n false):=by
 induction n with
 |zero=>rfl
 |succ n ih=>rw[bF,ih];rfl
def ama(s:GS)(k:Nat)(v:Bool):gB (s.set k (some v))=(gB s).set k v:=by
 unfold gB;rw[zzfg];cases v<;>rfl
def aeq(n:Nat):gB (List.replicate n none)=List.replicate n false:=by
 unfold gB;rw[List.map_replicate];rfl
def WF.init(n:Nat)(d:Nat->Bool)(hd:∀j,d j=false):WF (List.range (n+1)) d n:=by
 refine⟨zd,fun i v h=>?_⟩;obtain⟨h1,h2⟩:=zza.1 h;simp at h1 h2;subst h2;exact⟨zE,zE,⟨fun _=>hd _,fun _=>rfl⟩,fun j h3 h4=>zE⟩
def WF.dec{L:Pa}{d d':Nat->Bool}{n k:Nat}(h:WF L d n)(hk:k<n)(hd:d' k=true)(hd2:∀j,j≠k->d' j=d j):WF (L.set k (k+1)) d' n:=by
 obtain⟨hl,hw⟩:=h;refine⟨Nm hl,fun i v hv=>?_⟩;by_cases qP:i=k
 ·subst qP;rw[zzbg zE]at hv;cases hv;refine⟨zE,zE,?_,fun j h1 h2=>?_⟩
  ·constructor
   ·intro h;omega
   intro h;rw[hd]at h;cases h
  obtain rfl:j=i:=zE
  exact hd
 rw[zzbn (fun h=>qP h.symm)]at hv;obtain⟨a1,a2,a3,a4⟩:=hw i v hv;refine⟨a1,a2,by rw[hd2 i qP];exact a3,fun j h1 h2=>?_⟩;by_cases tH:j=k
 ·subst tH;exact hd
 rw[hd2 j tH];exact a4 j h1 h2
def XA(s:GS)(k:Nat)(v:Bool)(hk:k<s.length):nH (s.set k (some v)) k=true/\∀j,j≠k->nH (s.set k (some v)) j=nH s j:=by
 constructor
 ·unfold nH;rw[zzbg hk]
 intro j hj;unfold nH;rw[zzbn (fun h=>hj h.symm)]
def amb(l:Pi)(x:Int):qX l x<=l.length:=zzce _ _
def KH{l:Pi}{x:Int}(h:x∈l):qX l x<l.length:=by
 unfold qX;have h1:=zzce (fun y=>decide (y<x)) l;rcases zzaa (l.filter fun y=>decide (y<x)).length l.length with h2|h2
 ·exact h2
 have h3:(l.filter fun y=>decide (y<x)).length=l.length:=zE
 have h4:=(List.length_filter_eq_length_iff.1 h3) x h;simp at h4
open Go Go.Abs
def C2(Y:YT)(m:AM)(K:So)(hK:K (.sl .nil []) m):aB Tryz.prog aD Y 111 [.sl .nil []] m K:=by
 refine Xn BT (fun _ _ _=>.junk) zd ?_;simp[va,Ac];exact hK
def Wm(Bd:Pi)(R:List Sp):UV:=fun d f l=>
 if f=999999 then(if d=59 then .aJ 0 []else .junk)else
 if f=191 then(match l with
  |[.agg [.int _ a,.int _ b,.int _ c,.int _ d,.int _ e,.int _ f,.int _ g,.int _ h],.int _ i,.int _ r]=>.bool (gN ⟨a,b,c,d,e,f,g,h⟩ i r)
  |_=>.junk)else
 if f=48 then(match l with
  |[.agg [.int _ a,.int _ b,.int _ c,.int _ d,.int _ e,.int _ f,.int _ g,.int _ h]]=>.bool (Zc ⟨a,b,c,d,e,f,g,h⟩)
  |_=>.junk)else
 if f=193 then(match l with
  |[.sl _ rows]=>.fn 234 [] [.ep [.sl .ro rows] 0]
  |_=>.junk)else
 if f=194 then(match l with
  |[_,.int _ x]=>.aS [I (qX Bd x:Nat),.bool (decide (Bd[qX Bd x]?=some x))]
  |_=>.junk)else
 if f=131 then .sl .ro (R.map Qf)else .gd false .junk
def aer(B:T5)(C:List Cl):Prop:=(C=[]/\Qh B 0=[.sl .nil []])\/(C≠[]/\∃cE,Qh B 0=[.bs cE 0 (eH C).length 1]/\cE≠0/\cE<B.length/\Qh B cE=aj (eH C))
def aer.app{B:T5}{C:List Cl}(h:aer B C)(h0:0<B.length)(x:T5):aer (B++x) C:=by
 obtain⟨h1,h2⟩|⟨h1,cE,h2,h3,h4,h5⟩:=h
 ·exact .inl ⟨h1,by rw[Qn h0];exact h2⟩
 exact .inr ⟨h1,cE,by rw[Qn h0];exact h2,h3,by simp;omega,by rw[Qn h4];exact h5⟩
def C3:SC:=(⟨_,by cbv⟩:J4 [1,1,1,1,1,1,1,1,1,1,1] rZ).1
def XB:SC->SC:=(⟨_,fun _=>by cbv⟩:Fm [1,1,1] (oU [1,1,1,1,1,1,1,1] rZ)).1
def ai4:SC->SC:=(⟨_,fun _=>by cbv⟩:Fm [1,1,1,1,1,1,1,1] rZ).1
theorem XC:rZ=ai4 (XB C3):=rfl
def XD(Bd:Pi)(s:GS)(i:Nat):(C1 Bd s i).length<=1:=by unfold C1;split<;>simp
def qZ(Bd:Pi)(s:GS)(n:Nat):nG Bd s (n+1)=nG Bd s n++C1 Bd s n:=by simp[nG,zzfc]
def wR(Bd:Pi)(s:GS):∀n,(nG Bd s n).length<=n
 |0=>by simp[nG]
 |n+1=>by
  have h1:=wR Bd s n;have h2:=XD Bd s n;rw[qZ,zzak];omega
def wU(Bd z:Pi)(s:GS)(R:List Sp)(n:Nat)(hn:s.length=n)(hn9:n<=10000000)(hR:R=Xm (nG Bd s n))(E:QQ)(B:T5)(Lm:Pa)(st:Nat->LS)(ln:Nat)(g g1:Nat)(Bd0:Pi)
  (h8:Abs.look E 8=.ptr 0 0)(pG:Abs.look E 11=.ptr g1 0)(hg1:Qh B g1=[.bs g 0 n 1])(hg:Qh B g=Zi (gB s))
  (hb:∀i,s[i]?=some (some true)->∃cE,Qh B 0=[.bs cE 0 n 1]/\Qh B cE=aj (Bd++z)/\i+1<Bd.length/\Bd.length=n):
  vc Tryz.prog aD (Wm Bd0 R) Y0 C3 ⟨Vw 145 E,⟨B,Lm,st,ln⟩⟩ (post Tryz.prog aD (Wm Bd0 R) Et (.sl .ro (R.map Qf))):=by
 have lE:(gB s).length=n:=by simp[gB,hn]
 simp[C3,pG,hg1]
 refine Qi qA (fun f m=>∃(i:Nat)(o:List Sp)(rt:Rt)(Lm':Pa),i<=n/\f 123=I i/\f 22=.sl rt (o.map Qf)/\m=⟨B,Lm',st,ln⟩/\o=nG Bd s i/\((o=[]/\rt=.nil/\Lm'=Lm)\/(o≠[]/\rt=.own Lm.length 2/\Lm'=Lm++[o.length])))
  (fun f _=>n-(numOf (f 123)).toNat) ?_ ?_
 ·exact⟨0,[],.nil,Lm,zE,zd,zd,rfl,by simp[nG],.inl ⟨rfl,rfl,rfl⟩⟩
 rintro f m ⟨i,o,rt,Lm',hi,h123,h22,rfl,ho,aX⟩;have zF:o.length<=i:=by rw[ho];exact wR Bd s i
 rcases zzaa i n with ai|bq
 ·obtain⟨v,hv⟩:∃v,s[i]?=some v:=⟨_,zzaf zE⟩;have hgv:(gB s)[i]?=some (v==some true):=by simp[gB,hv]
  have gg:=al8 hgv;have aa:(i:Int)<(n:Int):=zE
  have hw:=bP i zE;have dM:=qZ Bd s i;rw[<- ho]at dM;by_cases hvt:v=some true
  ·subst hvt;obtain⟨cE,b1,b2,b3,b4⟩:=hb i hv;obtain⟨x,hx⟩:∃x,Bd[i]?=some x:=⟨_,zzaf zE⟩;obtain⟨y,hy⟩:∃y,Bd[i+1]?=some y:=⟨_,zzaf b3⟩;have gx:=nC (l:=Bd++z) (i:=i) (x:=x) (by rw[zzaj zE];exact hx);have gy:=nC (l:=Bd++z) (i:=i+1) (x:=y) (by rw[zzaj zE];exact hy);have hou:C1 Bd s i=[(x,y)]:=by simp[C1,hv,hx,hy]
   rw[hou]at dM;simp at gg;have hi1:i+1<n:=zE
   have asz:(i:Int)+1<(n:Int):=zE
   have vJ:(0:Int)<=(i:Int)+1:=zE
   have htn:((i:Int)+1).toNat=i+1:=zE
   have oM:∀row∈o.map Qf,row.length=2:=by
    intro row h;rw[zzar]at h;obtain⟨a,_,rfl⟩:=h;rfl
   obtain⟨rfl,rfl,rfl⟩|⟨aO,rfl,rfl⟩:=aX
   ·simp[h123,h22,ai,aa,hg,gg,qA,hw,h8,b1,b2,gx,gy,hi1,asz,vJ,htn,Wm];refine⟨aQ,⟨i+1,zE,zd,[(x,y)],_,⟨rfl,rfl⟩,by rw[dM];rfl,zd⟩,zE⟩
   simp[h123,h22,ai,aa,hg,gg,qA,hw,h8,b1,b2,gx,gy,hi1,asz,vJ,htn,Wm];refine⟨⟨?_,zE⟩,aQ,⟨i+1,zE,zd,o++[(x,y)],_,⟨rfl,by simp[Qf]⟩,dM.symm,zd⟩,zE⟩
   ·rintro row (⟨a,b,_,rfl⟩|rfl)<;>rfl
  have hou:C1 Bd s i=[]:=by
   unfold C1;rw[hv,if_neg];intro h;cases h;exact hvt rfl
  rw[hou,zzau]at dM;have hvb:(v==some true)=false:=by simpa using hvt
  rw[hvb]at gg;simp[h123,h22,ai,aa,hg,gg,qA,hw];refine⟨aQ,⟨i+1,zE,zd,o,rt,⟨rfl,rfl⟩,dM.symm,aX⟩,zE⟩
 obtain rfl:i=n:=zE
 rw[<- ho]at hR;have amc:=Ut o zE;rw[<- hR]at amc;obtain⟨rfl,rfl,rfl⟩|⟨aO,rfl,rfl⟩:=aX
 ·simp[h123,h22,qA,Et,Wm];exact Xz amc ⟨Wk.sl _ _,trivial⟩
 simp[h123,h22,qA,Et,Wm];exact amc
end
