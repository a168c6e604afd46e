import Derived.Test.YthjppoincojfkaaGreatDoorRASpG
set_option linter.all false
set_option maxRecDepth 100000
set_option maxHeartbeats 64000000
namespace Go.Proofs.YthjppoincojfkaaGreatDoor
noncomputable section
open Go Go.Abs
def Ui(l:Pi):(aj l).length=l.length:=by simp[aj]
def nC{l:Pi}{i:Nat}{x:Int}(h:l[i]?=some x):(aj l).drop i=I x::aj (l.drop (i+1)):=by
 unfold aj;rw[<- zzgc];have ai:=(zza.1 h).1;rw[zzag ai,(zza.1 h).2];rfl
def J8(l:Pi)(i:Nat)(x:Int):(aj l).set i (I x)=aj (l.set i x):=by simp[aj,zzfe]
def nD(a b:Pi):aj (a++b)=aj a++aj b:=by simp[aj]
def WW(l:Pi):Zm (aj l)=true:=by
 simp[Zm,aj]
def w9:∀(l:Pi)(r:P2),aY 1 l.length (aj l++r)=l.map fun x=>[I x]
 |[],_=>rfl
 |s::l,r=>by simpa[aj]using w9 l r
def FI(n:Nat):bF n [I 0]=aj (List.replicate n 0):=by
 induction n with
 |zero=>rfl
 |succ n ih=>rw[bF,ih];rfl
def FJ{l:Pi}{i:Nat}{x:Int}(h:l[i]?=some x):Qj (l.map fun x=>[I x]) i=[I x]:=Qu (by simp[h])
def dd:Pi->Pi
 |[]=>[]
 |[x]=>[x]
 |x::y::r=>if x=y then dd (y::r)else x::dd (y::r)
theorem FK(x y:Int)(r:Pi):dd (x::y::r)=if x=y then dd (y::r)else x::dd (y::r):=rfl
def C1:∀(p:Pi)(a b:Int),dd (p++[a]++[b])=dd (p++[a])++(if b=a then[]else[b])
 |[],a,b=>by
  by_cases h:b=a
  ·subst h;simp[dd]
  have:¬a=b:=fun e=>h e.symm;simp[dd,h,this]
 |[x],a,b=>by
  have ih:=C1 [] a b;simp only[zzai,zzad]at ih |-
  rw[FK x a [b],FK x a [],ih];by_cases hx:x=a
  ·rw[if_pos hx,if_pos hx]
  rw[if_neg hx,if_neg hx];rfl
 |x::y::p,a,b=>by
  have ih:=C1 (y::p) a b;simp only[zzad]at ih |-
  rw[FK x y (p++[a]++[b]),FK x y (p++[a]),ih];by_cases hx:x=y
  ·rw[if_pos hx,if_pos hx]
  rw[if_neg hx,if_neg hx];rfl
def NO{l:Pi}{j:Nat}{a b:Int}(ha:l[j]?=some a)(hb:l[j+1]?=some b):dd (l.take (j+2))=dd (l.take (j+1))++(if b=a then[]else[b]):=by
 have e1:l.take (j+1)=l.take j++[a]:=by rw[zzax,ha];rfl
 have e2:l.take (j+2)=l.take j++[a]++[b]:=by rw[show j+2=(j+1)+1 from rfl,zzax,hb,e1];rfl
 rw[e2,e1,C1]
def J9:∀l:Pi,(dd l).length<=l.length
 |[]=>by simp[dd]
 |[x]=>by simp[dd]
 |x::y::r=>by
  have:=J9 (y::r);rw[dd];split<;>simp at*<;>omega
def Kf:∀(l:Pi)(x:Int),x∈dd l<->x∈l
 |[],x=>by simp[dd]
 |[y],x=>by simp[dd]
 |a::b::r,x=>by
  have ih:=Kf (b::r) x;rw[dd];split
  ·rename_i h;subst h;rw[ih];simp
  rw[zzao,ih,zzao (a:=x) (b:=a)]
def WX:∀{l:Pi},l.Pairwise (·<=·)->(dd l).Pairwise (·<·)
 |[],_=>by simp[dd]
 |[x],_=>by simp[dd]
 |x::y::r,h=>by
  obtain⟨h1,h2⟩:=zzcb.1 h;have ih:=WX h2;rw[dd];split
  ·exact ih
  rename_i aO;refine zzcb.2 ⟨fun z hz=>?_,ih⟩;have hz':=(Kf _ _).1 hz;have hxy:=h1 y zd;rcases zzao.1 hz' with rfl|hz'
  ·omega
  have:=(zzcb.1 h2).1 z hz';omega
def sK(Y:YT)(l:Pi)(hl:l.length<=1000000000)(B:T5)(L:Pa)(st:Nat->LS)(n id:Nat)(aL:id<B.length)(aO:l≠[])(hB:Qj B id=aj l)(K:So)
  (hK:∀(B':T5)(z:Pi),bB (·=id) B B'->Qj B' id=aj (dd l++z)->(dd l).length+z.length=l.length->K (.bs id 0 (dd l).length 1) ⟨B',L,st,n⟩):
  aB Tryz.prog aD Y 111 [.bs id 0 l.length 1] ⟨B,L,st,n⟩ K:=by
 have aH:=Ui l;have lD:0<l.length:=zzdd.2 aO;refine Xn BV (fun _ _ _=>.junk) zd ?_;by_cases h2:l.length<2
 ·have Im:(l.length:Int)<2:=zE
  have hd:dd l=l:=by
   match l,aO,h2 with
   |[x],_,_=>rfl
  have:=hK B [] (bB.refl _ _) (by rw[hd,zzar];exact hB) (by rw[hd];simp);rw[hd]at this;simp[vo,Ag,Im,h2];exact this
 have Im:¬(l.length:Int)<2:=zE
 simp[vo,Im,h2];refine Qk BW (fun f m=>∃k:Nat,f 3=I k/\1<=k/\k<=l.length/\m=⟨B,L,st,n⟩/\dd (l.take k)=l.take k) (fun f _=>l.length-(numOf (f 3)).toNat) ?_ ?_
 ·refine⟨1,zd,zE,zE,rfl,?_⟩
  match l,aO with
  |x::r,_=>rfl
 rintro f m ⟨k,h3,dD,hk,rfl,CI⟩;rcases zzaa k l.length with ai|bn
 ·obtain⟨k',rfl⟩:∃k',k=k'+1:=⟨k-1,zE⟩;obtain⟨a,ha⟩:∃a,l[k']?=some a:=⟨_,zzaf zE⟩;obtain⟨b,hb⟩:∃b,l[k'+1]?=some b:=⟨_,zzaf ai⟩;have ga:=nC ha;have gb:=nC hb;have P4:((k':Int)+1)<(l.length:Int):=zE
  have aiC:(k':Int)<(l.length:Int):=zE
  have Nq:k'<l.length:=zE
  have lJ:IntKind.i64.wrap ((k':Int)+1-1)=(k':Int):=by rw[Ql]<;>omega
  have ar5:IntKind.i64.wrap (k':Int)=(k':Int):=by rw[Ql]<;>omega
  have fW:IntKind.i64.wrap ((k':Int)+1+1)=((k'+1+1:Nat):Int):=by rw[Ql]<;>omega
  have AB:(0:Int)<=(k':Int)+1:=zE
  have htn:((k':Int)+1).toNat=k'+1:=zE
  have hdt:=NO ha hb;by_cases hab:b=a
  ·rw[if_pos hab,zzar]at hdt;simp[h3,ai,P4,aiC,Nq,hB,ga,gb,lJ,ar5,fW,AB,htn,hab,BW];have cB:(k':Int)+1<=(l.length:Int):=zE
   refine⟨cB,?_⟩
   refine Qk BX (fun f m=>∃(k t:Nat)(B':T5)(L':Pi),f 3=I k/\f 5=I ((t+1:Nat):Int)/\k'+1+(t+1)<=l.length/\1<=k/\k<=k'+1+t/\m=⟨B',L,st,n⟩/\bB (·=id) B B'/\Qj B' id=aj L'/\L'.length=l.length/\
    L'.take k=dd (l.take (k'+1+(t+1)))/\L'.drop (k'+1+t)=l.drop (k'+1+t)) (fun f _=>l.length-(k'+1)-(numOf (f 5)).toNat) ?_ ?_
   ·refine⟨k'+1,0,B,l,by simp[h3],zd,zE,zE,zE,rfl,bB.refl _ _,hB,rfl,?_,rfl⟩;rw[show k'+1+(0+1)=k'+2 by omega,hdt,CI]
   rintro g m ⟨k,t,B',L',g3,g5,ht,WY,hkt,rfl,nE,eP,tV,bA,hdp⟩;have cK:id<B'.length:=zzay aL nE.1;have jy:=Ui L';rcases zzaa (k'+1+(t+1)) l.length with iH|hjg
   ·obtain⟨x,hx⟩:∃x,l[k'+1+t]?=some x:=⟨_,zzaf zE⟩;obtain⟨y,hy⟩:∃y,l[k'+1+t+1]?=some y:=⟨_,zzaf zE⟩
    have iG:L'[k'+1+t]?=some x:=by
     have:=congrArg (fun q=>q[0]?) hdp;simpa[hx]using this
    have hy':L'[k'+1+t+1]?=some y:=by
     have:=congrArg (fun q=>q[1]?) hdp;simpa[hy]using this
    have gx:=nC iG;have gy:(aj L').drop (k'+1+(t+1))=I y::aj (L'.drop (k'+1+t+1+1)):=nC hy';have JX:=NO hx hy;rw[show k'+1+t+2=k'+1+(t+1+1) by omega,show k'+1+t+1=k'+1+(t+1) by omega,<- bA]at JX
    have hdn:L'.drop (k'+1+(t+1))=l.drop (k'+1+(t+1)):=by
     have:=congrArg (List.drop 1) hdp;simpa[zzdw,zzan,zzfb,Nat.add_left_comm]using this
    have eD:(t+1:Nat)<l.length-(k'+1):=zE
    have aiD:((t:Int)+1)<((l.length-(k'+1):Nat):Int):=zE
    have aiE:(t:Int)<((l.length-(k'+1):Nat):Int):=zE
    have aiF:t<l.length-(k'+1):=zE
    have hwt:IntKind.i64.wrap (t:Int)=(t:Int):=by rw[Ql]<;>omega
    have ar6:IntKind.i64.wrap ((t:Int)+1+1)=((t+1+1:Nat):Int):=by rw[Ql]<;>omega
    have P5:=bO k zE;have alL:((t:Int)+1).toNat=t+1:=zE
    have ar7:(0:Int)<=(t:Int)+1:=zE
    have WZ:(k:Int)<(l.length:Int):=zE
    have Ks:k<l.length:=zE
    have bS:=J8 L' k y;by_cases hyx:y=x
    ·rw[if_pos hyx,zzar]at JX;simp[g3,g5,eP,gx,gy,eD,aiD,aiE,aiF,hwt,ar6,alL,ar7,hyx,BX];refine⟨aQ,⟨k,rfl,t+1,zd,zE,WY,zE,nE,L',rfl,tV,JX.symm,hdn⟩,zE⟩
    rw[if_neg hyx]at JX;simp[g3,g5,eP,gx,gy,eD,aiD,aiE,aiF,hwt,ar6,P5,alL,ar7,hyx,WZ,Ks,bS,cK,BX];refine⟨by rw[jy];omega,aQ,⟨k+1,zd,t+1,zd,zE,zE,zE,nE.set (.inl rfl) _,L'.set k y,Yi _ cK,Nm tV,?_,?_⟩,zE⟩
    ·rw[zzax,zzbf zE,zzft zE];exact JX.symm
    rw[show k'+1+(t+1)=k'+1+(t+1)from rfl,zzfu zE];exact hdn
   have bQ:¬(t:Int)+1<((l.length-(k'+1):Nat):Int):=zE
   have WZ:(k:Int)<(l.length:Int):=zE
   have Ks:k<l.length:=zE
   have awJ:(k:Int)<=(l.length:Int):=zE
   have FA:dd l=L'.take k:=by rw[bA,zzau zE]
   have ar8:(dd l).length=k:=by rw[FA,zzaq];omega
   have fJ:aj L'≠[]:=by
    intro h;have:=congrArg List.length h;rw[jy,tV]at this;simp at this;exact aO this
   have qu:setA (aj L') k (bF (l.length-k) [I 0])=aj (dd l++List.replicate (l.length-k) 0):=by
    have e1:L'=L'.take k++L'.drop k:=zd
    conv=>lhs;rw[e1]
    rw[nD,nD,FI,FA];have e2:(aj (L'.take k)).length=k:=by rw[Ui,zzaq];omega
    have:=o9 (aj (List.replicate (l.length-k) 0)) (aj (L'.take k)) (aj (L'.drop k)) (by rw[Ui,Ui,zzdz,zzcx,tV]);rw[e2]at this;exact this
   simp[g3,g5,eP,BX,Ag,bQ,WZ,Ks,awJ,cK,fJ,jy,tV,qu];refine⟨zE,?_⟩;have:=hK (B'.set id (aj (dd l++List.replicate (l.length-k) 0))) (List.replicate (l.length-k) 0) (nE.set (.inl rfl) _) (Yi _ cK) (by rw[ar8];simp;omega);rw[ar8]at this;exact this
  rw[if_neg hab]at hdt;simp[h3,ai,P4,aiC,Nq,hB,ga,gb,lJ,ar5,fW,AB,htn,hab,BW];refine⟨aQ,⟨k'+1+1,zE,zE,zE,?_⟩,zE⟩
  ·rw[show k'+1+1=k'+2 by omega,hdt,CI,zzax (l:=l) (i:=k'+1),hb];rfl
 obtain rfl:k=l.length:=zE
 rw[zzbx]at CI;have D8:¬((l.length:Nat):Int)<(l.length:Int):=zE
 have:=hK B [] (bB.refl _ _) (by rw[CI,zzar];exact hB) (by rw[CI];simp);rw[CI]at this;simp[h3,BW,Ag];exact this
def FL(a:Int):Pure Tryz.prog aD 248 [I a] (.bool false):=by
 refine Qo adk (fun _ _ _=>.junk) zd ?_;simp[ahL,ahM]
def FM(a:Int):Pure Tryz.prog aD 235 [I a] (.bool false):=by
 refine Qo adb (fun _ _ _=>.junk) zd ?_;simp[ahB,ahC]
def P6(a b:Int):Pure Tryz.prog aD 220 [I a,I b] (.bool (decide (a<b))):=by
 have h:=FL a;refine Qo ac4 (fun _ _ _=>.bool false) zd ?_;simp[ahw,ahx];exact h
def qZ(l:Pi)(x:Int):Nat:=(l.filter fun y=>decide (y<x)).length
def alM{l:Pi}{x:Int}{i:Nat}(hi:i<=l.length)(h1:∀(k:Nat)(y:Int),k<i->l[k]?=some y->y<x)(h2:∀(k:Nat)(y:Int),i<=k->l[k]?=some y->x<=y):qZ l x=i:=by
 unfold qZ;have e:l=l.take i++l.drop i:=zd
 rw[e,zzdi]
 have e1:(l.take i).filter (fun y=>decide (y<x))=l.take i:=by
  rw[zzfv];intro y hy;obtain⟨k,hk⟩:=zzcr.1 hy;rw[zzbj]at hk;split at hk
  ·simpa using h1 k y (by assumption) hk
  cases hk
 have e2:(l.drop i).filter (fun y=>decide (y<x))=[]:=by
  rw[zzgx];intro y hy;obtain⟨k,hk⟩:=zzcr.1 hy;rw[zzbl]at hk;have:=h2 (i+k) y zE hk;simp;omega
 rw[e1,e2];simp;omega
def pe(l:Pi)(x:Int)(hl:l.length<=1000000000)(hs:l.Pairwise (·<=·)):Pure Tryz.prog aD 194 [.sl .ro (l.map fun y=>[I y]),I x] (.aS [I (qZ l x:Nat),.bool (decide (l[qZ l x]?=some x))]):=by
 refine Qo acO (fun _ f a=>if f=220 then(match a with|[.int _ a,.int _ b]=>.bool (decide (a<b))|_=>.junk)else .bool false) zd ?_;simp[TT]
 refine Qk qC (fun f m=>∃i j:Nat,f 7=I i/\f 8=I j/\i<=j/\j<=l.length/\m=⟨[],[],fun _=>.gone,0⟩/\(∀(k:Nat)(y:Int),k<i->l[k]?=some y->y<x)/\∀(k:Nat)(y:Int),j<=k->l[k]?=some y->x<=y)
  (fun f _=>(numOf (f 8)).toNat-(numOf (f 7)).toNat) ?_ ?_
 ·refine⟨0,l.length,zd,zd,zE,zE,rfl,fun k y h=>zE,fun k y h1 h2=>?_⟩;rw[zzat h1]at h2;cases h2
 rintro f m ⟨i,j,h7,h8,eH,hj,rfl,ha,hb⟩;rcases zzaa i j with ai|bn
 ·have VF:(i+j)/2<l.length:=zE
  obtain⟨y,hy⟩:∃y,l[(i+j)/2]?=some y:=⟨_,zzaf VF⟩;obtain⟨s,hse⟩:∃s,s=(i+j)/2:=⟨_,rfl⟩;rw[<- hse]at hy;have ah:=FJ hy;have aiG:(i:Int)<(j:Int):=zE
  have w1:IntKind.i64.wrap ((i:Int)+(j:Int))=((i+j:Nat):Int):=by rw[Ql]<;>omega
  have w2:IntKind.u64.wrap ((i+j:Nat):Int)=((i+j:Nat):Int):=by simp[IntKind.wrap,IntKind.bits,IntKind.signed];omega
  have w3:Int.fdiv ((i:Int)+(j:Int)) (2 ^ min 1 IntKind.u64.bits)=(s:Int):=by
   rw[show(2:Int) ^ min 1 IntKind.u64.bits=2 from rfl,Int.fdiv_eq_ediv_of_nonneg _ zE];omega
  have w4:IntKind.i64.wrap (s:Int)=(s:Int):=by rw[Ql]<;>omega
  have w5:=bO s zE;have iE:s<l.length:=zE
  have ar9:(s:Int)<(l.length:Int):=zE
  have hp:=P6 y x
  have mono:∀(p q:Nat)(u v:Int),p<=q->l[p]?=some u->l[q]?=some v->u<=v:=by
   intro p q u v hpq hu hv;rcases zzaa p q with h|h
   ·obtain⟨hp1,hu⟩:=zza.1 hu;obtain⟨hq1,hv⟩:=zza.1 hv;have:=(zzdn.1 hs) p q hp1 hq1 h;omega
   obtain rfl:p=q:=zE
   rw[hu]at hv;cases hv;omega
  by_cases hyx:y<x
  ·have alN:decide (y<x)=true:=decide_eq_true hyx;rw[alN]at hp;simp only[Int.natCast_add]at w1 w2;simp[h7,h8,aiG,ai,ah,qC,w1,w2,w3,w4,w5,iE,ar9,hyx];refine⟨hp,aQ,⟨s+1,zd,j,rfl,zE,zE,fun k z hk hz=>?_,hb⟩,zE⟩
   ·have:=mono k s z y zE hz hy;omega
  have alN:decide (y<x)=false:=decide_eq_false hyx;rw[alN]at hp;simp only[Int.natCast_add]at w1 w2;simp[h7,h8,aiG,ai,ah,qC,w1,w2,w3,w4,w5,iE,ar9,hyx];refine⟨hp,aQ,⟨i,rfl,s,rfl,zE,zE,ha,fun k z hk hz=>?_⟩,zE⟩
  ·have:=mono s k y z hk hy hz;omega
 obtain rfl:i=j:=zE
 have jH:=alM hj ha hb;rw[jH];have O5:¬(i:Int)<(i:Int):=zE
 rcases zzaa i l.length with ai|hge'
 ·obtain⟨y,hy⟩:=aV ai;have ah:=FJ hy;have aa:(i:Int)<(l.length:Int):=zE
  have hn:=FM y;have hli:l[i]=y:=(zza.1 hy).2;by_cases hyx:y=x
  ·subst hyx;simp[h7,h8,ai,aa,ah,qC,MZ,hli]
  simp[h7,h8,ai,aa,ah,qC,MZ,hli,hyx];exact hn
 have aa:¬(i:Int)<(l.length:Int):=zE
 have:l[i]?=none:=zzat hge';simp[h7,h8,aa,qC,MZ,this]
def P7(cs:List Cl)(n:Nat):T5:=((List.range n).reverse).map fun(k:Nat)=>[I (k:Int),.agg (Qg (cs.getD k ⟨0,0,0,0,0,0,0,0⟩))]
def nF(cs:List Cl)(n:Nat):P7 cs (n+1)=[I (n:Int),.agg (Qg (cs.getD n ⟨0,0,0,0,0,0,0,0⟩))]::P7 cs n:=by
 simp[P7,zzez]
def mj(cs:List Cl):Pure Tryz.prog aD 193 [.sl .ro (cs.map Qg)] (.fn 234 [] [.ep [.sl .ro (cs.map Qg)] 0]):=by
 refine Qo acN (fun _ _ _=>.junk) zd ?_;simp[ahg,ahh]
def mq(cs:List Cl)(hl:cs.length<=1000000000):Iter Tryz.prog aD 234 [] [.ep [.sl .ro (cs.map Qg)] 0] (P7 cs cs.length):=by
 intro Y l m K hF;refine Xn ada (fun _ _ _=>.junk) zd ?_;have hw0:IntKind.i64.wrap ((cs.length:Int)-1)=(cs.length:Int)-1:=by rw[Ql]<;>omega
 simp[ahA,hw0];refine Qk I5 (fun f mm=>∃i:Nat,f 3=I ((i:Int)-1)/\i<=cs.length/\wR (Y l) K (P7 cs i) mm) (fun f _=>(numOf (f 3)+1).toNat) ?_ ?_
 ·exact⟨cs.length,zd,zE,hF⟩
 rintro f mm ⟨i,h3,hi,hF⟩;cases i with
 |zero=>
  have hK:K mm:=hF mm (fF.refl _);simp[h3,I5,T6];exact hK
 |succ i=>
  obtain⟨c,hc⟩:∃c,cs[i]?=some c:=⟨_,zzaf zE⟩;have ah:Qj (cs.map Qg) i=Qg c:=Qu (by simp[hc]);have JH:cs.getD i ⟨0,0,0,0,0,0,0,0⟩=c:=by simp[zzaw,hc]
  rw[nF,JH]at hF;have h3':f 3=I i:=by rw[h3];congr 1;omega
  have aa:i<cs.length:=zE
  have xb:(i:Int)<(cs.length:Int):=zE
  have hw:IntKind.i64.wrap ((i:Int)-1)=(i:Int)-1:=by rw[Ql]<;>omega
  have AB:(0:Int)<=(i:Int):=zE
  simp only[Qg]at hF ah;simp[h3',I5,ah,aa,xb,hw,AB];refine hF _ (fF.refl _) _ (fun m2 A0=>?_) (fun m2 hK=>?_)
  ·simp[hw];refine⟨aQ,⟨i,rfl,zE,A0⟩⟩
  simp[T6];exact hK _ (fF.refl _)
open Go Go.Abs
def Xr(L:Pa):P2:=aj (L.map fun(k:Nat)=>(k:Int))
def W4(L:Pa):(Xr L).length=L.length:=by simp[Xr,Ui]
def Kx{L:Pa}{i v:Nat}(h:L[i]?=some v):(Xr L).drop i=I (v:Int)::Xr (L.drop (i+1)):=by
 unfold Xr;rw[nC (x:=(v:Int)) (by simp[h]),zzgc]
def W5(L:Pa)(i v:Nat):(Xr L).set i (I (v:Int))=Xr (L.set i v):=by
 unfold Xr;rw[J8,zzfe]
def WF(L:Pa)(d:Nat->Bool)(n:Nat):Prop:=L.length=n+1/\∀i v,L[i]?=some v->i<=v/\v<=n/\(v=i<->d i=false)/\∀j,i<=j->j<v->d j=true
def WF.jump{L:Pa}{d:Nat->Bool}{n i v u:Nat}(h:WF L d n)(h1:L[i]?=some v)(h2:L[v]?=some u)(aO:v≠i):WF (L.set i u) d n:=by
 obtain⟨hl,hw⟩:=h;refine⟨Nm hl,fun k x hk=>?_⟩;have jb:i<L.length:=(zza.1 h1).1;obtain⟨a1,a2,a3,a4⟩:=hw i v h1;obtain⟨b1,b2,b3,b4⟩:=hw v u h2;by_cases fq:k=i
 ·subst fq;rw[zzbf jb]at hk;cases hk;refine⟨zE,b2,?_,fun j dW ou=>?_⟩
  ·have hd:d k≠false:=fun h=>aO (a3.2 h);constructor
   ·intro h;omega
   intro h;exact absurd h hd
  rcases zzaa j v with h|h
  ·exact a4 j dW h
  exact b4 j h ou
 rw[zzbn (fun h=>fq h.symm)]at hk;exact hw k x hk
def NP(Y:YT)(i n c Iq:Nat)(L:Pa)(d:Nat->Bool)(hw:WF L d n)(hi:i<=n)(hn:n<=1000000000)(B:T5)(Lm:Pa)(st:Nat->LS)(ln:Nat)(hc:c<B.length)(awK:Iq<B.length)(aO:c≠Iq)
  (hBc:Qj B c=[.bs Iq 0 (n+1) 1])(vN:Qj B Iq=Xr L)(K:So)
  (hK:∀(B':T5)(L':Pa)(r:Nat),bB (·=Iq) B B'->Qj B' Iq=Xr L'->WF L' d n->i<=r->r<=n->d r=false->(∀j,i<=j->j<r->d j=true)->K (I r) ⟨B',Lm,st,ln⟩):
  aB Tryz.prog aD Y 192 [I i,.ptr c 0] ⟨B,Lm,st,ln⟩ K:=by
 refine Xn acM (fun _ _ _=>.junk) zd ?_;simp[TS];refine Qk I4 (fun f m=>∃(k:Nat)(B':T5)(L':Pa),f 0=I k/\i<=k/\k<=n/\m=⟨B',Lm,st,ln⟩/\bB (·=Iq) B B'/\Qj B' Iq=Xr L'/\WF L' d n/\∀j,i<=j->j<k->d j=true) (fun f _=>n-(numOf (f 0)).toNat) ?_ ?_
 ·exact⟨i,B,L,zd,zE,hi,rfl,bB.refl _ _,vN,hw,fun j h1 h2=>zE⟩
 rintro f m ⟨k,B',L',h0,qQ,D8,rfl,nE,FN,hw',hd⟩;have W6:Iq<B'.length:=zzay awK nE.1;have alO:Qj B' c=[.bs Iq 0 (n+1) 1]:=by rw[nE.2 c hc aO];exact hBc
 obtain⟨eZ,fW⟩:=hw';obtain⟨v,hv⟩:∃v,L'[k]?=some v:=⟨_,zzaf zE⟩;obtain⟨v1,v2,v3,v4⟩:=fW k v hv;obtain⟨u,hu⟩:∃u,L'[v]?=some u:=⟨_,zzaf zE⟩;obtain⟨u1,u2,u3,u4⟩:=fW v u hu;have gv:=Kx hv;have gu:=Kx hu;have oQ:k<n+1:=zE
 have zP:(k:Int)<(n:Int)+1:=zE
 have hvl:v<n+1:=zE
 have awL:(v:Int)<(n:Int)+1:=zE
 have aH:=W4 L';by_cases hvk:v=k
 ·subst hvk;simp[h0,alO,FN,gv,oQ,zP,I4,ahf];exact hK B' L' v nE FN ⟨eZ,fW⟩ qQ D8 (v3.1 rfl) hd
 have awM:¬(v:Int)=(k:Int):=zE
 have bS:=W5 L' k u;have hW:=WF.jump ⟨eZ,fW⟩ hv hu hvk;have JG:(L'.set k u)[k]?=some u:=zzbf zE;have gu2:=Kx JG;have ayx:Iq<(B'.set Iq (Xr (L'.set k u))).length:=by simpa using W6
 have Sd:Qj (B'.set Iq (Xr (L'.set k u))) Iq=Xr (L'.set k u):=Yi _ W6;have oI:Qj (B'.set Iq (Xr (L'.set k u))) c=[.bs Iq 0 (n+1) 1]:=by rw[Yc _ (fun h=>aO h.symm)];exact alO
 simp[h0,alO,FN,gv,gu,oQ,zP,hvl,awL,hvk,awM,I4,bS,Sd,oI,gu2,aH,eZ,W6];refine⟨zE,aQ,⟨u,rfl,zE,zE,nE.set (.inl rfl) _,_,rfl,hW,fun j h1 h2=>?_⟩,zE⟩
 ·rcases zzaa j k with h|h
  ·exact hd j h1 h
  rcases zzaa j v with h3|h3
  ·exact v4 j h h3
  exact u4 j h3 h2
open Go Go.Abs
def FO(item region:Int)(c:Cl):Bool:=decide (c.ki=1\/c.ki=2)&&(gR c item region&&Zd c)
def Wm(cs:List Cl)(item region:Int):List Cl:=cs.filter (FO item region)
def eM:List Cl->Pi
 |[]=>[]
 |c::r=>c.fr::c.to::eM r
def pn:∀a b:List Cl,eM (a++b)=eM a++eM b
 |[],_=>rfl
 |c::r,b=>by simp[eM,pn r b]
def pq:∀a:List Cl,(eM a).length=2*a.length
 |[]=>rfl
 |c::r=>by simp[eM,pq r];omega
def pz{c:Cl}:∀{a:List Cl},c∈a->c.fr∈eM a/\c.to∈eM a
 |[],h=>by cases h
 |d::r,h=>by
  rcases zzao.1 h with rfl|h
  ·simp[eM]
  have:=pz h;simp[eM,this.1,this.2]
def dJ(C:List Cl):Pi:=dd ((eM C).mergeSort fun x y=>decide (x<=y))
def NQ(C:List Cl):(dJ C).Pairwise (·<·):=by
 refine WX ?_;have:=zzgs (le:=fun x y:Int=>decide (x<=y)) (fun a b c h1 h2=>by simp at*;omega) (fun a b=>by simp;omega) (eM C);exact this.imp zd
def uI(C:List Cl)(x:Int):x∈dJ C<->x∈eM C:=by
 unfold dJ;rw[Kf,(zzfw _ _).mem_iff]
def NR(C:List Cl):(dJ C).length<=2*C.length:=by
 have h1:=J9 ((eM C).mergeSort fun x y=>decide (x<=y));rw[zzer,pq]at h1;exact h1
abbrev GS:=List (Option Bool)
def stepG(s:GS)(a b:Nat)(v:Bool):GS:=s.mapIdx fun j o=>if a<=j/\j<b/\o=none then some v else o
def P8(Bd:Pi)(s:GS)(c:Cl):GS:=stepG s (qZ Bd c.fr) (qZ Bd c.to) (decide (c.ki=1))
def xd(C:List Cl):GS:=C.reverse.foldl (P8 (dJ C)) (List.replicate (dJ C).length none)
def C2(Bd:Pi)(s:GS)(i:Nat):List Sp:=if s[i]?=some (some true)then[(Bd.getD i 0,Bd.getD (i+1) 0)]else[]
def nG(Bd:Pi)(s:GS)(n:Nat):List Sp:=(List.range n).flatMap (C2 Bd s)
def Qcq(cs:List Cl)(item region:Int):List Sp:=Xl (nG (dJ (Wm cs item region)) (xd (Wm cs item region)) (dJ (Wm cs item region)).length)
def rf(s:GS)(a b:Nat)(v:Bool):(stepG s a b v).length=s.length:=by simp[stepG]
def Ux(s:GS)(a b:Nat)(v:Bool)(j:Nat):(stepG s a b v)[j]?=(s[j]?).map fun o=>if a<=j/\j<b/\o=none then some v else o:=by simp[stepG]
def A1(s:GS)(a b:Nat)(v:Bool)(h:b<=a):stepG s a b v=s:=by
 apply zzda;intro j;rw[Ux];cases s[j]? with
 |none=>rfl
 |some o=>simp;intro h1 h2;omega
def KA(s:GS)(a k:Nat)(v:Bool)(hak:a<=k)(hk:s[k]?=some none):stepG s a (k+1) v=(stepG s a k v).set k (some v):=by
 have ai:k<s.length:=(zza.1 hk).1;apply zzda;intro j;rw[Ux];by_cases tN:j=k
 ·subst tN;rw[zzbf (by rw[rf];exact ai),hk];simp[hak]
 rw[zzbn (fun h=>tN h.symm),Ux];cases s[j]? with
 |none=>rfl
 |some o=>
  simp only[zzcs];congr 1;by_cases h:a<=j/\j<k/\o=none
  ·rw[if_pos h,if_pos ⟨h.1,zE,h.2.2⟩]
  rw[if_neg h,if_neg (fun h'=>h ⟨h'.1,zE,h'.2.2⟩)]
def xe(s:GS)(a k r:Nat)(v:Bool)(hkr:k<=r)(h:∀j,k<=j->j<r->s[j]?≠some none):stepG s a r v=stepG s a k v:=by
 apply zzda;intro j;rw[Ux,Ux];cases hj:s[j]? with
 |none=>rfl
 |some o=>
  simp only[zzcs];congr 1;by_cases h1:a<=j/\j<k/\o=none
  ·rw[if_pos h1,if_pos ⟨h1.1,zE,h1.2.2⟩]
  rw[if_neg h1];by_cases h2:a<=j/\j<r/\o=none
  ·exfalso
   have hkj:k<=j:=by
    rcases zzaa j k with h3|h3
    ·exact absurd ⟨h2.1,h3,h2.2.2⟩ h1
    exact h3
   exact h j hkj h2.2.1 (by rw[hj,h2.2.2])
  rw[if_neg h2]
def gB(s:GS):List Bool:=s.map fun o=>o==some true
def nH(s:GS)(j:Nat):Bool:=match s[j]? with
 |some (some _)=>true
 |_=>false
def Zi(l:List Bool):P2:=l.map AV.bool
def alP(l:List Bool):(Zi l).length=l.length:=by simp[Zi]
def alQ{l:List Bool}{i:Nat}{x:Bool}(h:l[i]?=some x):(Zi l).drop i=.bool x::Zi (l.drop (i+1)):=by
 unfold Zi;rw[<- zzgc];have ai:=(zza.1 h).1;rw[zzag ai,(zza.1 h).2];rfl
def alR(l:List Bool)(i:Nat)(x:Bool):(Zi l).set i (.bool x)=Zi (l.set i x):=by simp[Zi,zzfe]
def W7(n:Nat):bF n [.bool false]=Zi (List.replicate n false):=by
 induction n with
 |zero=>rfl
 |succ n ih=>rw[bF,ih];rfl
def alS(s:GS)(k:Nat)(v:Bool):gB (s.set k (some v))=(gB s).set k v:=by
 unfold gB;rw[zzfe];cases v<;>rfl
def aeb(n:Nat):gB (List.replicate n none)=List.replicate n false:=by
 unfold gB;rw[List.map_replicate];rfl
def WF.init(n:Nat)(d:Nat->Bool)(hd:∀j,d j=false):WF (List.range (n+1)) d n:=by
 refine⟨zd,fun i v h=>?_⟩;obtain⟨h1,h2⟩:=zza.1 h;simp at h1 h2;subst h2;exact⟨zE,zE,⟨fun _=>hd _,fun _=>rfl⟩,fun j h3 h4=>zE⟩
def WF.dec{L:Pa}{d d':Nat->Bool}{n k:Nat}(h:WF L d n)(hk:k<n)(hd:d' k=true)(W8:∀j,j≠k->d' j=d j):WF (L.set k (k+1)) d' n:=by
 obtain⟨hl,hw⟩:=h;refine⟨Nm hl,fun i v hv=>?_⟩;by_cases qQ:i=k
 ·subst qQ;rw[zzbf zE]at hv;cases hv;refine⟨zE,zE,?_,fun j h1 h2=>?_⟩
  ·constructor
   ·intro h;omega
   intro h;rw[hd]at h;cases h
  obtain rfl:j=i:=zE
  exact hd
 rw[zzbn (fun h=>qQ h.symm)]at hv;obtain⟨a1,a2,a3,a4⟩:=hw i v hv;refine⟨a1,a2,by rw[W8 i qQ];exact a3,fun j h1 h2=>?_⟩;by_cases tN:j=k
 ·subst tN;exact hd
 rw[W8 j tN];exact a4 j h1 h2
def W9(s:GS)(k:Nat)(v:Bool)(hk:k<s.length):nH (s.set k (some v)) k=true/\∀j,j≠k->nH (s.set k (some v)) j=nH s j:=by
 constructor
 ·unfold nH;rw[zzbf hk]
 intro j hj;unfold nH;rw[zzbn (fun h=>hj h.symm)]
def alT(l:Pi)(x:Int):qZ l x<=l.length:=zzca _ _
def KB{l:Pi}{x:Int}(h:x∈l):qZ l x<l.length:=by
 unfold qZ;have h1:=zzca (fun y=>decide (y<x)) l;rcases zzaa (l.filter fun y=>decide (y<x)).length l.length with h2|h2
 ·exact h2
 have h3:(l.filter fun y=>decide (y<x)).length=l.length:=zE
 have h4:=(List.length_filter_eq_length_iff.1 h3) x h;simp at h4
open Go Go.Abs
def C3(Y:YT)(m:AM)(K:So)(hK:K (.sl .nil []) m):aB Tryz.prog aD Y 111 [.sl .nil []] m K:=by
 refine Xn BV (fun _ _ _=>.junk) zd ?_;simp[vo,Ag];exact hK
def Wh(Bd:Pi)(R:List Sp):UV:=fun d f l=>
 if f=999999 then(if d=59 then .aJ 0 []else .junk)else
 if f=191 then(match l with
  |[.agg [.int _ a,.int _ b,.int _ c,.int _ d,.int _ e,.int _ f,.int _ g,.int _ h],.int _ i,.int _ r]=>.bool (gR ⟨a,b,c,d,e,f,g,h⟩ i r)
  |_=>.junk)else
 if f=48 then(match l with
  |[.agg [.int _ a,.int _ b,.int _ c,.int _ d,.int _ e,.int _ f,.int _ g,.int _ h]]=>.bool (Zd ⟨a,b,c,d,e,f,g,h⟩)
  |_=>.junk)else
 if f=193 then(match l with
  |[.sl _ rows]=>.fn 234 [] [.ep [.sl .ro rows] 0]
  |_=>.junk)else
 if f=194 then(match l with
  |[_,.int _ x]=>.aS [I (qZ Bd x:Nat),.bool (decide (Bd[qZ Bd x]?=some x))]
  |_=>.junk)else
 if f=131 then .sl .ro (R.map Qe)else .gd false .junk
def aec(B:T5)(C:List Cl):Prop:=(C=[]/\Qj B 0=[.sl .nil []])\/(C≠[]/\∃cH,Qj B 0=[.bs cH 0 (eM C).length 1]/\cH≠0/\cH<B.length/\Qj B cH=aj (eM C))
def aec.app{B:T5}{C:List Cl}(h:aec B C)(h0:0<B.length)(x:T5):aec (B++x) C:=by
 obtain⟨h1,h2⟩|⟨h1,cH,h2,h3,h4,h5⟩:=h
 ·exact .inl ⟨h1,by rw[Qn h0];exact h2⟩
 exact .inr ⟨h1,cH,by rw[Qn h0];exact h2,h3,by simp;omega,by rw[Qn h4];exact h5⟩
def C4:SC:=(⟨_,by cbv⟩:JY [1,1,1,1,1,1,1,1,1,1,1] se).1
def XA:SC->SC:=(⟨_,fun _=>by cbv⟩:Fm [1,1,1] (oT [1,1,1,1,1,1,1,1] se)).1
def aiH:SC->SC:=(⟨_,fun _=>by cbv⟩:Fm [1,1,1,1,1,1,1,1] se).1
theorem XB:se=aiH (XA C4):=rfl
def XC(Bd:Pi)(s:GS)(i:Nat):(C2 Bd s i).length<=1:=by unfold C2;split<;>simp
def ri(Bd:Pi)(s:GS)(n:Nat):nG Bd s (n+1)=nG Bd s n++C2 Bd s n:=by simp[nG,zzez]
def xg(Bd:Pi)(s:GS):∀n,(nG Bd s n).length<=n
 |0=>by simp[nG]
 |n+1=>by
  have h1:=xg Bd s n;have h2:=XC Bd s n;rw[ri,zzak];omega
def xh(Bd z:Pi)(s:GS)(R:List Sp)(n:Nat)(hn:s.length=n)(hn9:n<=10000000)(hR:R=Xl (nG Bd s n))(E:QQ)(B:T5)(Lm:Pa)(st:Nat->LS)(ln:Nat)(g g1:Nat)(Bd0:Pi)
  (h8:Abs.look E 8=.ptr 0 0)(pE:Abs.look E 11=.ptr g1 0)(hg1:Qj B g1=[.bs g 0 n 1])(hg:Qj B g=Zi (gB s))
  (hb:∀i,s[i]?=some (some true)->∃cH,Qj B 0=[.bs cH 0 n 1]/\Qj B cH=aj (Bd++z)/\i+1<Bd.length/\Bd.length=n):
  vc Tryz.prog aD (Wh Bd0 R) Y0 C4 ⟨Vy 145 E,⟨B,Lm,st,ln⟩⟩ (post Tryz.prog aD (Wh Bd0 R) Es (.sl .ro (R.map Qe))):=by
 have gr:(gB s).length=n:=by simp[gB,hn]
 simp[C4,pE,hg1]
 refine Qk qA (fun f m=>∃(i:Nat)(o:List Sp)(rt:Rt)(Lm':Pa),i<=n/\f 123=I i/\f 22=.sl rt (o.map Qe)/\m=⟨B,Lm',st,ln⟩/\o=nG Bd s i/\((o=[]/\rt=.nil/\Lm'=Lm)\/(o≠[]/\rt=.own Lm.length 2/\Lm'=Lm++[o.length])))
  (fun f _=>n-(numOf (f 123)).toNat) ?_ ?_
 ·exact⟨0,[],.nil,Lm,zE,zd,zd,rfl,by simp[nG],.inl ⟨rfl,rfl,rfl⟩⟩
 rintro f m ⟨i,o,rt,Lm',hi,h123,h22,rfl,ho,aX⟩;have FP:o.length<=i:=by rw[ho];exact xg Bd s i
 rcases zzaa i n with ai|bn
 ·obtain⟨v,hv⟩:∃v,s[i]?=some v:=⟨_,zzaf zE⟩;have hgv:(gB s)[i]?=some (v==some true):=by simp[gB,hv]
  have gg:=alQ hgv;have aa:(i:Int)<(n:Int):=zE
  have hw:=bO i zE;have dO:=ri Bd s i;rw[<- ho]at dO;by_cases XD:v=some true
  ·subst XD;obtain⟨cH,b1,b2,b3,b4⟩:=hb i hv;obtain⟨x,hx⟩:∃x,Bd[i]?=some x:=⟨_,zzaf zE⟩;obtain⟨y,hy⟩:∃y,Bd[i+1]?=some y:=⟨_,zzaf b3⟩;have gx:=nC (l:=Bd++z) (i:=i) (x:=x) (by rw[zzaj zE];exact hx);have gy:=nC (l:=Bd++z) (i:=i+1) (x:=y) (by rw[zzaj zE];exact hy);have hou:C2 Bd s i=[(x,y)]:=by simp[C2,hv,hx,hy]
   rw[hou]at dO;simp at gg;have hi1:i+1<n:=zE
   have asa:(i:Int)+1<(n:Int):=zE
   have AB:(0:Int)<=(i:Int)+1:=zE
   have htn:((i:Int)+1).toNat=i+1:=zE
   have oI:∀row∈o.map Qe,row.length=2:=by
    intro row h;rw[zzbg]at h;obtain⟨a,_,rfl⟩:=h;rfl
   obtain⟨rfl,rfl,rfl⟩|⟨aO,rfl,rfl⟩:=aX
   ·simp[h123,h22,ai,aa,hg,gg,qA,hw,h8,b1,b2,gx,gy,hi1,asa,AB,htn,Wh];refine⟨aQ,⟨i+1,zE,zd,[(x,y)],_,⟨rfl,rfl⟩,by rw[dO];rfl,zd⟩,zE⟩
   simp[h123,h22,ai,aa,hg,gg,qA,hw,h8,b1,b2,gx,gy,hi1,asa,AB,htn,Wh];refine⟨⟨?_,zE⟩,aQ,⟨i+1,zE,zd,o++[(x,y)],_,⟨rfl,by simp[Qe]⟩,dO.symm,zd⟩,zE⟩
   ·rintro row (⟨a,b,_,rfl⟩|rfl)<;>rfl
  have hou:C2 Bd s i=[]:=by
   unfold C2;rw[hv,if_neg];intro h;cases h;exact XD rfl
  rw[hou,zzar]at dO;have hvb:(v==some true)=false:=by simpa using XD
  rw[hvb]at gg;simp[h123,h22,ai,aa,hg,gg,qA,hw];refine⟨aQ,⟨i+1,zE,zd,o,rt,⟨rfl,rfl⟩,dO.symm,aX⟩,zE⟩
 obtain rfl:i=n:=zE
 rw[<- ho]at hR;have alU:=Us o zE;rw[<- hR]at alU;obtain⟨rfl,rfl,rfl⟩|⟨aO,rfl,rfl⟩:=aX
 ·simp[h123,h22,qA,Es,Wh];exact Xp alU ⟨Wk.sl _ _,trivial⟩
 simp[h123,h22,qA,Es,Wh];exact alU
end
