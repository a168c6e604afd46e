import Derived.Test.YthjppoincojfkaaGreatDoorRSSpG
set_option linter.all false
set_option maxRecDepth 100000
set_option maxHeartbeats 64000000
namespace Go.Proofs.YthjppoincojfkaaGreatDoor
noncomputable section
open Go Go.Abs
def Uf(l:Pi):(aj l).length=l.length:=by simp[aj]
def ny{l:Pi}{i:Nat}{x:Int}(h:l[i]?=some x):(aj l).drop i=I x::aj (l.drop (i+1)):=by
 unfold aj;rw[<- zzgc];have ah:=(zza.1 h).1;rw[zzag ah,(zza.1 h).2];rfl
def Kx(l:Pi)(i:Nat)(x:Int):(aj l).set i (I x)=aj (l.set i x):=by simp[aj,zzfh]
def nA(a b:Pi):aj (a++b)=aj a++aj b:=by simp[aj]
def WY(l:Pi):Zl (aj l)=true:=by
 simp[Zl,aj]
def wX:∀(l:Pi)(r:P2),aY 1 l.length (aj l++r)=l.map fun x=>[I x]
 |[],_=>rfl
 |s::l,r=>by simpa[aj]using wX l r
def FF(n:Nat):bF n [I 0]=aj (List.replicate n 0):=by
 induction n with
 |zero=>rfl
 |succ n ih=>rw[bF,ih];rfl
def FG{l:Pi}{i:Nat}{x:Int}(h:l[i]?=some x):Qh (l.map fun x=>[I x]) i=[I x]:=Qu (by simp[h])
def dd:Pi->Pi
 |[]=>[]
 |[x]=>[x]
 |x::y::r=>if x=y then dd (y::r)else x::dd (y::r)
theorem FH(x y:Int)(r:Pi):dd (x::y::r)=if x=y then dd (y::r)else x::dd (y::r):=rfl
def C0:∀(p:Pi)(a b:Int),dd (p++[a]++[b])=dd (p++[a])++(if b=a then[]else[b])
 |[],a,b=>by
  by_cases h:b=a
  ·subst h;simp[dd]
  have:¬a=b:=fun e=>h e.symm;simp[dd,h,this]
 |[x],a,b=>by
  have ih:=C0 [] a b;simp only[zzai,zzae]at ih |-
  rw[FH x a [b],FH x a [],ih];by_cases hx:x=a
  ·rw[if_pos hx,if_pos hx]
  rw[if_neg hx,if_neg hx];rfl
 |x::y::p,a,b=>by
  have ih:=C0 (y::p) a b;simp only[zzae]at ih |-
  rw[FH x y (p++[a]++[b]),FH x y (p++[a]),ih];by_cases hx:x=y
  ·rw[if_pos hx,if_pos hx]
  rw[if_neg hx,if_neg hx];rfl
def NS{l:Pi}{j:Nat}{a b:Int}(ha:l[j]?=some a)(hb:l[j+1]?=some b):dd (l.take (j+2))=dd (l.take (j+1))++(if b=a then[]else[b]):=by
 have e1:l.take (j+1)=l.take j++[a]:=by rw[zzb,ha];rfl
 have e2:l.take (j+2)=l.take j++[a]++[b]:=by rw[show j+2=(j+1)+1 from rfl,zzb,hb,e1];rfl
 rw[e2,e1,C0]
def KA:∀l:Pi,(dd l).length<=l.length
 |[]=>by simp[dd]
 |[x]=>by simp[dd]
 |x::y::r=>by
  have:=KA (y::r);rw[dd];split<;>simp at*<;>omega
def C1:∀(l:Pi)(x:Int),x∈dd l<->x∈l
 |[],x=>by simp[dd]
 |[y],x=>by simp[dd]
 |a::b::r,x=>by
  have ih:=C1 (b::r) x;rw[dd];split
  ·rename_i h;subst h;rw[ih];simp
  rw[zzam,ih,zzam (a:=x) (b:=a)]
def WZ:∀{l:Pi},l.Pairwise (·<=·)->(dd l).Pairwise (·<·)
 |[],_=>by simp[dd]
 |[x],_=>by simp[dd]
 |x::y::r,h=>by
  obtain⟨h1,h2⟩:=zzcd.1 h;have ih:=WZ h2;rw[dd];split
  ·exact ih
  rename_i aO;refine zzcd.2 ⟨fun z hz=>?_,ih⟩;have hz':=(C1 _ _).1 hz;have hxy:=h1 y zd;rcases zzam.1 hz' with rfl|hz'
  ·omega
  have:=(zzcd.1 h2).1 z hz';omega
def sE(Y:YT)(l:Pi)(hl:l.length<=1000000000)(B:T5)(L:Pa)(st:Nat->LS)(n id:Nat)(aL:id<B.length)(aO:l≠[])(hB:Qh B id=aj l)(K:So)
  (hK:∀(B':T5)(z:Pi),bC (·=id) B B'->Qh B' id=aj (dd l++z)->(dd l).length+z.length=l.length->K (.bs id 0 (dd l).length 1) ⟨B',L,st,n⟩):
  aB Tryz.prog aD Y 111 [.bs id 0 l.length 1] ⟨B,L,st,n⟩ K:=by
 have aH:=Uf l;have ij:0<l.length:=zzdh.2 aO;refine Xl BZ (fun _ _ _=>.junk) zd ?_;by_cases h2:l.length<2
 ·have Nv:(l.length:Int)<2:=zE
  have hd:dd l=l:=by
   match l,aO,h2 with
   |[x],_,_=>rfl
  have:=hK B [] (bC.refl _ _) (by rw[hd,zzar];exact hB) (by rw[hd];simp);rw[hd]at this;simp[vq,An,Nv,h2];exact this
 have Nv:¬(l.length:Int)<2:=zE
 simp[vq,Nv,h2];refine Qi B5 (fun f m=>∃k:Nat,f 3=I k/\1<=k/\k<=l.length/\m=⟨B,L,st,n⟩/\dd (l.take k)=l.take k) (fun f _=>l.length-(numOf (f 3)).toNat) ?_ ?_
 ·refine⟨1,zd,zE,zE,rfl,?_⟩
  match l,aO with
  |x::r,_=>rfl
 rintro f m ⟨k,h3,dF,hk,rfl,CM⟩;rcases zzaa k l.length with ah|bq
 ·obtain⟨k',rfl⟩:∃k',k=k'+1:=⟨k-1,zE⟩;obtain⟨a,ha⟩:∃a,l[k']?=some a:=⟨_,zzaf zE⟩;obtain⟨b,hb⟩:∃b,l[k'+1]?=some b:=⟨_,zzaf ah⟩;have ga:=ny ha;have gb:=ny hb;have fk:((k':Int)+1)<(l.length:Int):=zE
  have aiv:(k':Int)<(l.length:Int):=zE
  have Ny:k'<l.length:=zE
  have gU:IntKind.i64.wrap ((k':Int)+1-1)=(k':Int):=by rw[Ql]<;>omega
  have arA:IntKind.i64.wrap (k':Int)=(k':Int):=by rw[Ql]<;>omega
  have eL:IntKind.i64.wrap ((k':Int)+1+1)=((k'+1+1:Nat):Int):=by rw[Ql]<;>omega
  have AI:(0:Int)<=(k':Int)+1:=zE
  have htn:((k':Int)+1).toNat=k'+1:=zE
  have hdt:=NS ha hb;by_cases hab:b=a
  ·rw[if_pos hab,zzar]at hdt;simp[h3,ah,fk,aiv,Ny,hB,ga,gb,gU,arA,eL,AI,htn,hab,B5];have cE:(k':Int)+1<=(l.length:Int):=zE
   refine⟨cE,?_⟩
   refine Qi B6 (fun f m=>∃(k t:Nat)(B':T5)(L':Pi),f 3=I k/\f 5=I ((t+1:Nat):Int)/\k'+1+(t+1)<=l.length/\1<=k/\k<=k'+1+t/\m=⟨B',L,st,n⟩/\bC (·=id) B B'/\Qh B' id=aj L'/\L'.length=l.length/\
    L'.take k=dd (l.take (k'+1+(t+1)))/\L'.drop (k'+1+t)=l.drop (k'+1+t)) (fun f _=>l.length-(k'+1)-(numOf (f 5)).toNat) ?_ ?_
   ·refine⟨k'+1,0,B,l,by simp[h3],zd,zE,zE,zE,rfl,bC.refl _ _,hB,rfl,?_,rfl⟩;rw[show k'+1+(0+1)=k'+2 by omega,hdt,CM]
   rintro g m ⟨k,t,B',L',g3,g5,ht,W4,hkt,rfl,nB,eS,tU,bB,hdp⟩;have cI:id<B'.length:=zzba aL nB.1;have jv:=Uf L';rcases zzaa (k'+1+(t+1)) l.length with gQ|hjg
   ·obtain⟨x,hx⟩:∃x,l[k'+1+t]?=some x:=⟨_,zzaf zE⟩;obtain⟨y,hy⟩:∃y,l[k'+1+t+1]?=some y:=⟨_,zzaf zE⟩
    have iJ:L'[k'+1+t]?=some x:=by
     have:=congrArg (fun q=>q[0]?) hdp;simpa[hx]using this
    have hy':L'[k'+1+t+1]?=some y:=by
     have:=congrArg (fun q=>q[1]?) hdp;simpa[hy]using this
    have gx:=ny iJ;have gy:(aj L').drop (k'+1+(t+1))=I y::aj (L'.drop (k'+1+t+1+1)):=ny hy';have J4:=NS hx hy;rw[show k'+1+t+2=k'+1+(t+1+1) by omega,show k'+1+t+1=k'+1+(t+1) by omega,<- bB]at J4
    have hdn:L'.drop (k'+1+(t+1))=l.drop (k'+1+(t+1)):=by
     have:=congrArg (List.drop 1) hdp;simpa[zze,zzan,zzff,Nat.add_left_comm]using this
    have eE:(t+1:Nat)<l.length-(k'+1):=zE
    have aiw:((t:Int)+1)<((l.length-(k'+1):Nat):Int):=zE
    have aix:(t:Int)<((l.length-(k'+1):Nat):Int):=zE
    have aiy:t<l.length-(k'+1):=zE
    have hwt:IntKind.i64.wrap (t:Int)=(t:Int):=by rw[Ql]<;>omega
    have arB:IntKind.i64.wrap ((t:Int)+1+1)=((t+1+1:Nat):Int):=by rw[Ql]<;>omega
    have sF:=bO k zE;have alp:((t:Int)+1).toNat=t+1:=zE
    have arC:(0:Int)<=(t:Int)+1:=zE
    have W5:(k:Int)<(l.length:Int):=zE
    have KB:k<l.length:=zE
    have bS:=Kx L' k y;by_cases hyx:y=x
    ·rw[if_pos hyx,zzar]at J4;simp[g3,g5,eS,gx,gy,eE,aiw,aix,aiy,hwt,arB,alp,arC,hyx,B6];refine⟨aQ,⟨k,rfl,t+1,zd,zE,W4,zE,nB,L',rfl,tU,J4.symm,hdn⟩,zE⟩
    rw[if_neg hyx]at J4;simp[g3,g5,eS,gx,gy,eE,aiw,aix,aiy,hwt,arB,sF,alp,arC,hyx,W5,KB,bS,cI,B6];refine⟨by rw[jv];omega,aQ,⟨k+1,zd,t+1,zd,zE,zE,zE,nB.set (.inl rfl) _,L'.set k y,Yf _ cI,Nm tU,?_,?_⟩,zE⟩
    ·rw[zzb,zzbg zE,zzfu zE];exact J4.symm
    rw[show k'+1+(t+1)=k'+1+(t+1)from rfl,zzfv zE];exact hdn
   have bQ:¬(t:Int)+1<((l.length-(k'+1):Nat):Int):=zE
   have W5:(k:Int)<(l.length:Int):=zE
   have KB:k<l.length:=zE
   have awJ:(k:Int)<=(l.length:Int):=zE
   have FA:dd l=L'.take k:=by rw[bB,zzau zE]
   have arD:(dd l).length=k:=by rw[FA,zzaq];omega
   have fK:aj L'≠[]:=by
    intro h;have:=congrArg List.length h;rw[jv,tU]at this;simp at this;exact aO this
   have qs:setA (aj L') k (bF (l.length-k) [I 0])=aj (dd l++List.replicate (l.length-k) 0):=by
    have e1:L'=L'.take k++L'.drop k:=zd
    conv=>lhs;rw[e1]
    rw[nA,nA,FF,FA];have e2:(aj (L'.take k)).length=k:=by rw[Uf,zzaq];omega
    have:=o6 (aj (List.replicate (l.length-k) 0)) (aj (L'.take k)) (aj (L'.drop k)) (by rw[Uf,Uf,zzeb,zzcw,tU]);rw[e2]at this;exact this
   simp[g3,g5,eS,B6,An,bQ,W5,KB,awJ,cI,fK,jv,tU,qs];refine⟨zE,?_⟩;have:=hK (B'.set id (aj (dd l++List.replicate (l.length-k) 0))) (List.replicate (l.length-k) 0) (nB.set (.inl rfl) _) (Yf _ cI) (by rw[arD];simp;omega);rw[arD]at this;exact this
  rw[if_neg hab]at hdt;simp[h3,ah,fk,aiv,Ny,hB,ga,gb,gU,arA,eL,AI,htn,hab,B5];refine⟨aQ,⟨k'+1+1,zE,zE,zE,?_⟩,zE⟩
  ·rw[show k'+1+1=k'+2 by omega,hdt,CM,zzb (l:=l) (i:=k'+1),hb];rfl
 obtain rfl:k=l.length:=zE
 rw[zzbu]at CM;have Eg:¬((l.length:Nat):Int)<(l.length:Int):=zE
 have:=hK B [] (bC.refl _ _) (by rw[CM,zzar];exact hB) (by rw[CM];simp);rw[CM]at this;simp[h3,B5,An];exact this
def FI(a:Int):Pure Tryz.prog aD 248 [I a] (.bool false):=by
 refine Qp adz (fun _ _ _=>.junk) zd ?_;simp[ah2,ah3]
def FJ(a:Int):Pure Tryz.prog aD 235 [I a] (.bool false):=by
 refine Qp ads (fun _ _ _=>.junk) zd ?_;simp[ahS,ahT]
def QC(a b:Int):Pure Tryz.prog aD 220 [I a,I b] (.bool (decide (a<b))):=by
 have h:=FI a;refine Qp adl (fun _ _ _=>.bool false) zd ?_;simp[ahN,ahO];exact h
def qV(l:Pi)(x:Int):Nat:=(l.filter fun y=>decide (y<x)).length
def alq{l:Pi}{x:Int}{i:Nat}(hi:i<=l.length)(h1:∀(k:Nat)(y:Int),k<i->l[k]?=some y->y<x)(h2:∀(k:Nat)(y:Int),i<=k->l[k]?=some y->x<=y):qV l x=i:=by
 unfold qV;have e:l=l.take i++l.drop i:=zd
 rw[e,zzde]
 have e1:(l.take i).filter (fun y=>decide (y<x))=l.take i:=by
  rw[zzfw];intro y hy;obtain⟨k,hk⟩:=zzcq.1 hy;rw[zzbj]at hk;split at hk
  ·simpa using h1 k y (by assumption) hk
  cases hk
 have e2:(l.drop i).filter (fun y=>decide (y<x))=[]:=by
  rw[zzfj];intro y hy;obtain⟨k,hk⟩:=zzcq.1 hy;rw[zzbl]at hk;have:=h2 (i+k) y zE hk;simp;omega
 rw[e1,e2];simp;omega
def o7(l:Pi)(x:Int)(hl:l.length<=1000000000)(hs:l.Pairwise (·<=·)):Pure Tryz.prog aD 194 [.sl .ro (l.map fun y=>[I y]),I x] (.aS [I (qV l x:Nat),.bool (decide (l[qV l x]?=some x))]):=by
 refine Qp ac3 (fun _ f a=>if f=220 then(match a with|[.int _ a,.int _ b]=>.bool (decide (a<b))|_=>.junk)else .bool false) zd ?_;simp[UD]
 refine Qi qB (fun f m=>∃i j:Nat,f 7=I i/\f 8=I j/\i<=j/\j<=l.length/\m=⟨[],[],fun _=>.gone,0⟩/\(∀(k:Nat)(y:Int),k<i->l[k]?=some y->y<x)/\∀(k:Nat)(y:Int),j<=k->l[k]?=some y->x<=y)
  (fun f _=>(numOf (f 8)).toNat-(numOf (f 7)).toNat) ?_ ?_
 ·refine⟨0,l.length,zd,zd,zE,zE,rfl,fun k y h=>zE,fun k y h1 h2=>?_⟩;rw[zzat h1]at h2;cases h2
 rintro f m ⟨i,j,h7,h8,eG,hj,rfl,ha,hb⟩;rcases zzaa i j with ah|bq
 ·have VV:(i+j)/2<l.length:=zE
  obtain⟨y,hy⟩:∃y,l[(i+j)/2]?=some y:=⟨_,zzaf VV⟩;obtain⟨s,hse⟩:∃s,s=(i+j)/2:=⟨_,rfl⟩;rw[<- hse]at hy;have ai:=FG hy;have aiz:(i:Int)<(j:Int):=zE
  have w1:IntKind.i64.wrap ((i:Int)+(j:Int))=((i+j:Nat):Int):=by rw[Ql]<;>omega
  have w2:IntKind.u64.wrap ((i+j:Nat):Int)=((i+j:Nat):Int):=by simp[IntKind.wrap,IntKind.bits,IntKind.signed];omega
  have w3:Int.fdiv ((i:Int)+(j:Int)) (2 ^ min 1 IntKind.u64.bits)=(s:Int):=by
   rw[show(2:Int) ^ min 1 IntKind.u64.bits=2 from rfl,Int.fdiv_eq_ediv_of_nonneg _ zE];omega
  have w4:IntKind.i64.wrap (s:Int)=(s:Int):=by rw[Ql]<;>omega
  have w5:=bO s zE;have fT:s<l.length:=zE
  have arE:(s:Int)<(l.length:Int):=zE
  have hp:=QC y x
  have mono:∀(p q:Nat)(u v:Int),p<=q->l[p]?=some u->l[q]?=some v->u<=v:=by
   intro p q u v hpq hu hv;rcases zzaa p q with h|h
   ·obtain⟨hp1,hu⟩:=zza.1 hu;obtain⟨hq1,hv⟩:=zza.1 hv;have:=(zzds.1 hs) p q hp1 hq1 h;omega
   obtain rfl:p=q:=zE
   rw[hu]at hv;cases hv;omega
  by_cases hyx:y<x
  ·have alr:decide (y<x)=true:=decide_eq_true hyx;rw[alr]at hp;simp only[Int.natCast_add]at w1 w2;simp[h7,h8,aiz,ah,ai,qB,w1,w2,w3,w4,w5,fT,arE,hyx];refine⟨hp,aQ,⟨s+1,zd,j,rfl,zE,zE,fun k z hk hz=>?_,hb⟩,zE⟩
   ·have:=mono k s z y zE hz hy;omega
  have alr:decide (y<x)=false:=decide_eq_false hyx;rw[alr]at hp;simp only[Int.natCast_add]at w1 w2;simp[h7,h8,aiz,ah,ai,qB,w1,w2,w3,w4,w5,fT,arE,hyx];refine⟨hp,aQ,⟨i,rfl,s,rfl,zE,zE,ha,fun k z hk hz=>?_⟩,zE⟩
  ·have:=mono s k y z hk hy hz;omega
 obtain rfl:i=j:=zE
 have gD:=alq hj ha hb;rw[gD];have Pn:¬(i:Int)<(i:Int):=zE
 rcases zzaa i l.length with ah|hge'
 ·obtain⟨y,hy⟩:=aV ah;have ai:=FG hy;have aa:(i:Int)<(l.length:Int):=zE
  have hn:=FJ y;have hli:l[i]=y:=(zza.1 hy).2;by_cases hyx:y=x
  ·subst hyx;simp[h7,h8,ah,aa,ai,qB,M8,hli]
  simp[h7,h8,ah,aa,ai,qB,M8,hli,hyx];exact hn
 have aa:¬(i:Int)<(l.length:Int):=zE
 have:l[i]?=none:=zzat hge';simp[h7,h8,aa,qB,M8,this]
def QD(cs:List Cl)(n:Nat):T5:=((List.range n).reverse).map fun(k:Nat)=>[I (k:Int),.agg (Qg (cs.getD k ⟨0,0,0,0,0,0,0,0⟩))]
def nC(cs:List Cl)(n:Nat):QD cs (n+1)=[I (n:Int),.agg (Qg (cs.getD n ⟨0,0,0,0,0,0,0,0⟩))]::QD cs n:=by
 simp[QD,zzfc]
def mg(cs:List Cl):Pure Tryz.prog aD 193 [.sl .ro (cs.map Qg)] (.fn 234 [] [.ep [.sl .ro (cs.map Qg)] 0]):=by
 refine Qp ac2 (fun _ _ _=>.junk) zd ?_;simp[ahx,ahy]
def mh(cs:List Cl)(hl:cs.length<=1000000000):Iter Tryz.prog aD 234 [] [.ep [.sl .ro (cs.map Qg)] 0] (QD cs cs.length):=by
 intro Y l m K hF;refine Xl adr (fun _ _ _=>.junk) zd ?_;have hw0:IntKind.i64.wrap ((cs.length:Int)-1)=(cs.length:Int)-1:=by rw[Ql]<;>omega
 simp[ahR,hw0];refine Qi JB (fun f mm=>∃i:Nat,f 3=I ((i:Int)-1)/\i<=cs.length/\wY (Y l) K (QD cs i) mm) (fun f _=>(numOf (f 3)+1).toNat) ?_ ?_
 ·exact⟨cs.length,zd,zE,hF⟩
 rintro f mm ⟨i,h3,hi,hF⟩;cases i with
 |zero=>
  have hK:K mm:=hF mm (fD.refl _);simp[h3,JB,UO];exact hK
 |succ i=>
  obtain⟨c,hc⟩:∃c,cs[i]?=some c:=⟨_,zzaf zE⟩;have ai:Qh (cs.map Qg) i=Qg c:=Qu (by simp[hc]);have JM:cs.getD i ⟨0,0,0,0,0,0,0,0⟩=c:=by simp[zzax,hc]
  rw[nC,JM]at hF;have h3':f 3=I i:=by rw[h3];congr 1;omega
  have aa:i<cs.length:=zE
  have wZ:(i:Int)<(cs.length:Int):=zE
  have hw:IntKind.i64.wrap ((i:Int)-1)=(i:Int)-1:=by rw[Ql]<;>omega
  have AI:(0:Int)<=(i:Int):=zE
  simp only[Qg]at hF ai;simp[h3',JB,ai,aa,wZ,hw,AI];refine hF _ (fD.refl _) _ (fun m2 uH=>?_) (fun m2 hK=>?_)
  ·simp[hw];refine⟨aQ,⟨i,rfl,zE,uH⟩⟩
  simp[UO];exact hK _ (fD.refl _)
end
end Go.Proofs.YthjppoincojfkaaGreatDoor
namespace Go.Proofs.YthjppoincojfkaaGreatDoor
noncomputable section
open Go Go.Abs
def Xo(L:Pa):P2:=aj (L.map fun(k:Nat)=>(k:Int))
def W6(L:Pa):(Xo L).length=L.length:=by simp[Xo,Uf]
def KC{L:Pa}{i v:Nat}(h:L[i]?=some v):(Xo L).drop i=I (v:Int)::Xo (L.drop (i+1)):=by
 unfold Xo;rw[ny (x:=(v:Int)) (by simp[h]),zzgc]
def W7(L:Pa)(i v:Nat):(Xo L).set i (I (v:Int))=Xo (L.set i v):=by
 unfold Xo;rw[Kx,zzfh]
def WF(L:Pa)(d:Nat->Bool)(n:Nat):Prop:=L.length=n+1/\∀i v,L[i]?=some v->i<=v/\v<=n/\(v=i<->d i=false)/\∀j,i<=j->j<v->d j=true
def WF.jump{L:Pa}{d:Nat->Bool}{n i v u:Nat}(h:WF L d n)(h1:L[i]?=some v)(h2:L[v]?=some u)(aO:v≠i):WF (L.set i u) d n:=by
 obtain⟨hl,hw⟩:=h;refine⟨Nm hl,fun k x hk=>?_⟩;have je:i<L.length:=(zza.1 h1).1;obtain⟨a1,a2,a3,a4⟩:=hw i v h1;obtain⟨b1,b2,b3,b4⟩:=hw v u h2;by_cases fh:k=i
 ·subst fh;rw[zzbg je]at hk;cases hk;refine⟨zE,b2,?_,fun j dX oq=>?_⟩
  ·have hd:d k≠false:=fun h=>aO (a3.2 h);constructor
   ·intro h;omega
   intro h;exact absurd h hd
  rcases zzaa j v with h|h
  ·exact a4 j dX h
  exact b4 j h oq
 rw[zzbn (fun h=>fh h.symm)]at hk;exact hw k x hk
def NT(Y:YT)(i n c IA:Nat)(L:Pa)(d:Nat->Bool)(hw:WF L d n)(hi:i<=n)(hn:n<=1000000000)(B:T5)(Lm:Pa)(st:Nat->LS)(ln:Nat)(hc:c<B.length)(awK:IA<B.length)(aO:c≠IA)
  (hBc:Qh B c=[.bs IA 0 (n+1) 1])(w8:Qh B IA=Xo L)(K:So)
  (hK:∀(B':T5)(L':Pa)(r:Nat),bC (·=IA) B B'->Qh B' IA=Xo L'->WF L' d n->i<=r->r<=n->d r=false->(∀j,i<=j->j<r->d j=true)->K (I r) ⟨B',Lm,st,ln⟩):
  aB Tryz.prog aD Y 192 [I i,.ptr c 0] ⟨B,Lm,st,ln⟩ K:=by
 refine Xl ac1 (fun _ _ _=>.junk) zd ?_;simp[UC];refine Qi JA (fun f m=>∃(k:Nat)(B':T5)(L':Pa),f 0=I k/\i<=k/\k<=n/\m=⟨B',Lm,st,ln⟩/\bC (·=IA) B B'/\Qh B' IA=Xo L'/\WF L' d n/\∀j,i<=j->j<k->d j=true) (fun f _=>n-(numOf (f 0)).toNat) ?_ ?_
 ·exact⟨i,B,L,zd,zE,hi,rfl,bC.refl _ _,w8,hw,fun j h1 h2=>zE⟩
 rintro f m ⟨k,B',L',h0,qP,Eg,rfl,nB,FK,hw',hd⟩;have W8:IA<B'.length:=zzba awK nB.1;have alu:Qh B' c=[.bs IA 0 (n+1) 1]:=by rw[nB.2 c hc aO];exact hBc
 obtain⟨eX,eL⟩:=hw';obtain⟨v,hv⟩:∃v,L'[k]?=some v:=⟨_,zzaf zE⟩;obtain⟨v1,v2,v3,v4⟩:=eL k v hv;obtain⟨u,hu⟩:∃u,L'[v]?=some u:=⟨_,zzaf zE⟩;obtain⟨u1,u2,u3,u4⟩:=eL v u hu;have gv:=KC hv;have gu:=KC hu;have qt:k<n+1:=zE
 have zS:(k:Int)<(n:Int)+1:=zE
 have hvl:v<n+1:=zE
 have awL:(v:Int)<(n:Int)+1:=zE
 have aH:=W6 L';by_cases hvk:v=k
 ·subst hvk;simp[h0,alu,FK,gv,qt,zS,JA,ahw];exact hK B' L' v nB FK ⟨eX,eL⟩ qP Eg (v3.1 rfl) hd
 have awM:¬(v:Int)=(k:Int):=zE
 have bS:=W7 L' k u;have hW:=WF.jump ⟨eX,eL⟩ hv hu hvk;have JL:(L'.set k u)[k]?=some u:=zzbg zE;have gu2:=KC JL;have ayR:IA<(B'.set IA (Xo (L'.set k u))).length:=by simpa using W8
 have Sy:Qh (B'.set IA (Xo (L'.set k u))) IA=Xo (L'.set k u):=Yf _ W8;have oI:Qh (B'.set IA (Xo (L'.set k u))) c=[.bs IA 0 (n+1) 1]:=by rw[Ya _ (fun h=>aO h.symm)];exact alu
 simp[h0,alu,FK,gv,gu,qt,zS,hvl,awL,hvk,awM,JA,bS,Sy,oI,gu2,aH,eX,W8];refine⟨zE,aQ,⟨u,rfl,zE,zE,nB.set (.inl rfl) _,_,rfl,hW,fun j h1 h2=>?_⟩,zE⟩
 ·rcases zzaa j k with h|h
  ·exact hd j h1 h
  rcases zzaa j v with h3|h3
  ·exact v4 j h h3
  exact u4 j h3 h2
def FL(item region:Int)(c:Cl):Bool:=decide (c.ki=1\/c.ki=2)&&(gV c item region&&Zc c)
def Wo(cs:List Cl)(item region:Int):List Cl:=cs.filter (FL item region)
def eM:List Cl->Pi
 |[]=>[]
 |c::r=>c.fr::c.to::eM r
def o8:∀a b:List Cl,eM (a++b)=eM a++eM b
 |[],_=>rfl
 |c::r,b=>by simp[eM,o8 r b]
def o9:∀a:List Cl,(eM a).length=2*a.length
 |[]=>rfl
 |c::r=>by simp[eM,o9 r];omega
def pe{c:Cl}:∀{a:List Cl},c∈a->c.fr∈eM a/\c.to∈eM a
 |[],h=>by cases h
 |d::r,h=>by
  rcases zzam.1 h with rfl|h
  ·simp[eM]
  have:=pe h;simp[eM,this.1,this.2]
def dK(C:List Cl):Pi:=dd ((eM C).mergeSort fun x y=>decide (x<=y))
def NU(C:List Cl):(dK C).Pairwise (·<·):=by
 refine WZ ?_;have:=zzfi (le:=fun x y:Int=>decide (x<=y)) (fun a b c h1 h2=>by simp at*;omega) (fun a b=>by simp;omega) (eM C);exact this.imp zd
def uI(C:List Cl)(x:Int):x∈dK C<->x∈eM C:=by
 unfold dK;rw[C1,(zzfx _ _).mem_iff]
def NV(C:List Cl):(dK C).length<=2*C.length:=by
 have h1:=KA ((eM C).mergeSort fun x y=>decide (x<=y));rw[zzeu,o9]at h1;exact h1
abbrev GS:=List (Option Bool)
def stepG(s:GS)(a b:Nat)(v:Bool):GS:=s.mapIdx fun j o=>if a<=j/\j<b/\o=none then some v else o
def QE(Bd:Pi)(s:GS)(c:Cl):GS:=stepG s (qV Bd c.fr) (qV Bd c.to) (decide (c.ki=1))
def w9(C:List Cl):GS:=C.reverse.foldl (QE (dK C)) (List.replicate (dK C).length none)
def C2(Bd:Pi)(s:GS)(i:Nat):List Sp:=if s[i]?=some (some true)then[(Bd.getD i 0,Bd.getD (i+1) 0)]else[]
def nD(Bd:Pi)(s:GS)(n:Nat):List Sp:=(List.range n).flatMap (C2 Bd s)
def Qcq(cs:List Cl)(item region:Int):List Sp:=Xk (nD (dK (Wo cs item region)) (w9 (Wo cs item region)) (dK (Wo cs item region)).length)
def qW(s:GS)(a b:Nat)(v:Bool):(stepG s a b v).length=s.length:=by simp[stepG]
def Ux(s:GS)(a b:Nat)(v:Bool)(j:Nat):(stepG s a b v)[j]?=(s[j]?).map fun o=>if a<=j/\j<b/\o=none then some v else o:=by simp[stepG]
def A4(s:GS)(a b:Nat)(v:Bool)(h:b<=a):stepG s a b v=s:=by
 apply zzdb;intro j;rw[Ux];cases s[j]? with
 |none=>rfl
 |some o=>simp;intro h1 h2;omega
def KD(s:GS)(a k:Nat)(v:Bool)(hak:a<=k)(hk:s[k]?=some none):stepG s a (k+1) v=(stepG s a k v).set k (some v):=by
 have ah:k<s.length:=(zza.1 hk).1;apply zzdb;intro j;rw[Ux];by_cases tM:j=k
 ·subst tM;rw[zzbg (by rw[qW];exact ah),hk];simp[hak]
 rw[zzbn (fun h=>tM h.symm),Ux];cases s[j]? with
 |none=>rfl
 |some o=>
  simp only[zzct];congr 1;by_cases h:a<=j/\j<k/\o=none
  ·rw[if_pos h,if_pos ⟨h.1,zE,h.2.2⟩]
  rw[if_neg h,if_neg (fun h'=>h ⟨h'.1,zE,h'.2.2⟩)]
def xb(s:GS)(a k r:Nat)(v:Bool)(hkr:k<=r)(h:∀j,k<=j->j<r->s[j]?≠some none):stepG s a r v=stepG s a k v:=by
 apply zzdb;intro j;rw[Ux,Ux];cases hj:s[j]? with
 |none=>rfl
 |some o=>
  simp only[zzct];congr 1;by_cases h1:a<=j/\j<k/\o=none
  ·rw[if_pos h1,if_pos ⟨h1.1,zE,h1.2.2⟩]
  rw[if_neg h1];by_cases h2:a<=j/\j<r/\o=none
  ·exfalso
   have hkj:k<=j:=by
    rcases zzaa j k with h3|h3
    ·exact absurd ⟨h2.1,h3,h2.2.2⟩ h1
    exact h3
   exact h j hkj h2.2.1 (by rw[hj,h2.2.2])
  rw[if_neg h2]
def gB(s:GS):List Bool:=s.map fun o=>o==some true
def nE(s:GS)(j:Nat):Bool:=match s[j]? with
 |some (some _)=>true
 |_=>false
def Zi(l:List Bool):P2:=l.map AV.bool
def alv(l:List Bool):(Zi l).length=l.length:=by simp[Zi]
def alw{l:List Bool}{i:Nat}{x:Bool}(h:l[i]?=some x):(Zi l).drop i=.bool x::Zi (l.drop (i+1)):=by
 unfold Zi;rw[<- zzgc];have ah:=(zza.1 h).1;rw[zzag ah,(zza.1 h).2];rfl
def alx(l:List Bool)(i:Nat)(x:Bool):(Zi l).set i (.bool x)=Zi (l.set i x):=by simp[Zi,zzfh]
def W9(n:Nat):bF n [.bool false]=Zi (List.replicate n false):=by
 induction n with
 |zero=>rfl
 |succ n ih=>rw[bF,ih];rfl
def aly(s:GS)(k:Nat)(v:Bool):gB (s.set k (some v))=(gB s).set k v:=by
 unfold gB;rw[zzfh];cases v<;>rfl
def ad9(n:Nat):gB (List.replicate n none)=List.replicate n false:=by
 unfold gB;rw[List.map_replicate];rfl
def WF.init(n:Nat)(d:Nat->Bool)(hd:∀j,d j=false):WF (List.range (n+1)) d n:=by
 refine⟨zd,fun i v h=>?_⟩;obtain⟨h1,h2⟩:=zza.1 h;simp at h1 h2;subst h2;exact⟨zE,zE,⟨fun _=>hd _,fun _=>rfl⟩,fun j h3 h4=>zE⟩
def WF.dec{L:Pa}{d d':Nat->Bool}{n k:Nat}(h:WF L d n)(hk:k<n)(hd:d' k=true)(hd2:∀j,j≠k->d' j=d j):WF (L.set k (k+1)) d' n:=by
 obtain⟨hl,hw⟩:=h;refine⟨Nm hl,fun i v hv=>?_⟩;by_cases qP:i=k
 ·subst qP;rw[zzbg zE]at hv;cases hv;refine⟨zE,zE,?_,fun j h1 h2=>?_⟩
  ·constructor
   ·intro h;omega
   intro h;rw[hd]at h;cases h
  obtain rfl:j=i:=zE
  exact hd
 rw[zzbn (fun h=>qP h.symm)]at hv;obtain⟨a1,a2,a3,a4⟩:=hw i v hv;refine⟨a1,a2,by rw[hd2 i qP];exact a3,fun j h1 h2=>?_⟩;by_cases tM:j=k
 ·subst tM;exact hd
 rw[hd2 j tM];exact a4 j h1 h2
def XA(s:GS)(k:Nat)(v:Bool)(hk:k<s.length):nE (s.set k (some v)) k=true/\∀j,j≠k->nE (s.set k (some v)) j=nE s j:=by
 constructor
 ·unfold nE;rw[zzbg hk]
 intro j hj;unfold nE;rw[zzbn (fun h=>hj h.symm)]
def alz(l:Pi)(x:Int):qV l x<=l.length:=zzcc _ _
def KE{l:Pi}{x:Int}(h:x∈l):qV l x<l.length:=by
 unfold qV;have h1:=zzcc (fun y=>decide (y<x)) l;rcases zzaa (l.filter fun y=>decide (y<x)).length l.length with h2|h2
 ·exact h2
 have h3:(l.filter fun y=>decide (y<x)).length=l.length:=zE
 have h4:=(List.length_filter_eq_length_iff.1 h3) x h;simp at h4
def C3(Y:YT)(m:AM)(K:So)(hK:K (.sl .nil []) m):aB Tryz.prog aD Y 111 [.sl .nil []] m K:=by
 refine Xl BZ (fun _ _ _=>.junk) zd ?_;simp[vq,An];exact hK
def Wj(Bd:Pi)(R:List Sp):UV:=fun d f l=>
 if f=999999 then(if d=59 then .aJ 0 []else .junk)else
 if f=191 then(match l with
  |[.agg [.int _ a,.int _ b,.int _ c,.int _ d,.int _ e,.int _ f,.int _ g,.int _ h],.int _ i,.int _ r]=>.bool (gV ⟨a,b,c,d,e,f,g,h⟩ i r)
  |_=>.junk)else
 if f=48 then(match l with
  |[.agg [.int _ a,.int _ b,.int _ c,.int _ d,.int _ e,.int _ f,.int _ g,.int _ h]]=>.bool (Zc ⟨a,b,c,d,e,f,g,h⟩)
  |_=>.junk)else
 if f=193 then(match l with
  |[.sl _ rows]=>.fn 234 [] [.ep [.sl .ro rows] 0]
  |_=>.junk)else
 if f=194 then(match l with
  |[_,.int _ x]=>.aS [I (qV Bd x:Nat),.bool (decide (Bd[qV Bd x]?=some x))]
  |_=>.junk)else
 if f=131 then .sl .ro (R.map Qe)else .gd false .junk
def aea(B:T5)(C:List Cl):Prop:=(C=[]/\Qh B 0=[.sl .nil []])\/(C≠[]/\∃cF,Qh B 0=[.bs cF 0 (eM C).length 1]/\cF≠0/\cF<B.length/\Qh B cF=aj (eM C))
def aea.app{B:T5}{C:List Cl}(h:aea B C)(h0:0<B.length)(x:T5):aea (B++x) C:=by
 obtain⟨h1,h2⟩|⟨h1,cF,h2,h3,h4,h5⟩:=h
 ·exact .inl ⟨h1,by rw[Qn h0];exact h2⟩
 exact .inr ⟨h1,cF,by rw[Qn h0];exact h2,h3,by simp;omega,by rw[Qn h4];exact h5⟩
def C4:SC:=(⟨_,by cbv⟩:J5 [1,1,1,1,1,1,1,1,1,1,1] sd).1
def XB:SC->SC:=(⟨_,fun _=>by cbv⟩:Fs [1,1,1] (oS [1,1,1,1,1,1,1,1] sd)).1
def aiA:SC->SC:=(⟨_,fun _=>by cbv⟩:Fs [1,1,1,1,1,1,1,1] sd).1
theorem XC:sd=aiA (XB C4):=rfl
def XD(Bd:Pi)(s:GS)(i:Nat):(C2 Bd s i).length<=1:=by unfold C2;split<;>simp
def qX(Bd:Pi)(s:GS)(n:Nat):nD Bd s (n+1)=nD Bd s n++C2 Bd s n:=by simp[nD,zzfc]
def xd(Bd:Pi)(s:GS):∀n,(nD Bd s n).length<=n
 |0=>by simp[nD]
 |n+1=>by
  have h1:=xd Bd s n;have h2:=XD Bd s n;rw[qX,zzak];omega
def xe(Bd z:Pi)(s:GS)(R:List Sp)(n:Nat)(hn:s.length=n)(hn9:n<=10000000)(hR:R=Xk (nD Bd s n))(E:QQ)(B:T5)(Lm:Pa)(st:Nat->LS)(ln:Nat)(g g1:Nat)(Bd0:Pi)
  (h8:Abs.look E 8=.ptr 0 0)(pn:Abs.look E 11=.ptr g1 0)(hg1:Qh B g1=[.bs g 0 n 1])(hg:Qh B g=Zi (gB s))
  (hb:∀i,s[i]?=some (some true)->∃cF,Qh B 0=[.bs cF 0 n 1]/\Qh B cF=aj (Bd++z)/\i+1<Bd.length/\Bd.length=n):
  vc Tryz.prog aD (Wj Bd0 R) Y0 C4 ⟨Vx 145 E,⟨B,Lm,st,ln⟩⟩ (post Tryz.prog aD (Wj Bd0 R) Ey (.sl .ro (R.map Qe))):=by
 have lG:(gB s).length=n:=by simp[gB,hn]
 simp[C4,pn,hg1]
 refine Qi qz (fun f m=>∃(i:Nat)(o:List Sp)(rt:Rt)(Lm':Pa),i<=n/\f 123=I i/\f 22=.sl rt (o.map Qe)/\m=⟨B,Lm',st,ln⟩/\o=nD Bd s i/\((o=[]/\rt=.nil/\Lm'=Lm)\/(o≠[]/\rt=.own Lm.length 2/\Lm'=Lm++[o.length])))
  (fun f _=>n-(numOf (f 123)).toNat) ?_ ?_
 ·exact⟨0,[],.nil,Lm,zE,zd,zd,rfl,by simp[nD],.inl ⟨rfl,rfl,rfl⟩⟩
 rintro f m ⟨i,o,rt,Lm',hi,h123,h22,rfl,ho,aX⟩;have zT:o.length<=i:=by rw[ho];exact xd Bd s i
 rcases zzaa i n with ah|bq
 ·obtain⟨v,hv⟩:∃v,s[i]?=some v:=⟨_,zzaf zE⟩;have hgv:(gB s)[i]?=some (v==some true):=by simp[gB,hv]
  have gg:=alw hgv;have aa:(i:Int)<(n:Int):=zE
  have hw:=bO i zE;have dP:=qX Bd s i;rw[<- ho]at dP;by_cases hvt:v=some true
  ·subst hvt;obtain⟨cF,b1,b2,b3,b4⟩:=hb i hv;obtain⟨x,hx⟩:∃x,Bd[i]?=some x:=⟨_,zzaf zE⟩;obtain⟨y,hy⟩:∃y,Bd[i+1]?=some y:=⟨_,zzaf b3⟩;have gx:=ny (l:=Bd++z) (i:=i) (x:=x) (by rw[zzaj zE];exact hx);have gy:=ny (l:=Bd++z) (i:=i+1) (x:=y) (by rw[zzaj zE];exact hy);have hou:C2 Bd s i=[(x,y)]:=by simp[C2,hv,hx,hy]
   rw[hou]at dP;simp at gg;have hi1:i+1<n:=zE
   have arF:(i:Int)+1<(n:Int):=zE
   have AI:(0:Int)<=(i:Int)+1:=zE
   have htn:((i:Int)+1).toNat=i+1:=zE
   have oI:∀row∈o.map Qe,row.length=2:=by
    intro row h;rw[zzav]at h;obtain⟨a,_,rfl⟩:=h;rfl
   obtain⟨rfl,rfl,rfl⟩|⟨aO,rfl,rfl⟩:=aX
   ·simp[h123,h22,ah,aa,hg,gg,qz,hw,h8,b1,b2,gx,gy,hi1,arF,AI,htn,Wj];refine⟨aQ,⟨i+1,zE,zd,[(x,y)],_,⟨rfl,rfl⟩,by rw[dP];rfl,zd⟩,zE⟩
   simp[h123,h22,ah,aa,hg,gg,qz,hw,h8,b1,b2,gx,gy,hi1,arF,AI,htn,Wj];refine⟨⟨?_,zE⟩,aQ,⟨i+1,zE,zd,o++[(x,y)],_,⟨rfl,by simp[Qe]⟩,dP.symm,zd⟩,zE⟩
   ·rintro row (⟨a,b,_,rfl⟩|rfl)<;>rfl
  have hou:C2 Bd s i=[]:=by
   unfold C2;rw[hv,if_neg];intro h;cases h;exact hvt rfl
  rw[hou,zzar]at dP;have hvb:(v==some true)=false:=by simpa using hvt
  rw[hvb]at gg;simp[h123,h22,ah,aa,hg,gg,qz,hw];refine⟨aQ,⟨i+1,zE,zd,o,rt,⟨rfl,rfl⟩,dP.symm,aX⟩,zE⟩
 obtain rfl:i=n:=zE
 rw[<- ho]at hR;have alA:=Uo o zE;rw[<- hR]at alA;obtain⟨rfl,rfl,rfl⟩|⟨aO,rfl,rfl⟩:=aX
 ·simp[h123,h22,qz,Ey,Wj];exact Xz alA ⟨Wk.sl _ _,trivial⟩
 simp[h123,h22,qz,Ey,Wj];exact alA
def xg:∀(cs:List Cl)(n i:Nat)(x:P2),n<=cs.length->(QD cs n)[i]?=some x->∃(k:Nat)(c:Cl),cs[k]?=some c/\k+1+i=n/\x=[I (k:Int),.agg (Qg c)]
 |cs,0,i,x,_,h=>by simp[QD]at h
 |cs,n+1,0,x,hn,h=>by
  rw[nC]at h;simp at h;obtain⟨c,hc⟩:∃c,cs[n]?=some c:=⟨_,zzaf zE⟩;refine⟨n,c,hc,zE,?_⟩;rw[<- h];simp[hc]
 |cs,n+1,i+1,x,hn,h=>by
  rw[nC]at h;obtain⟨k,c,h1,h2,h3⟩:=xg cs n i x zE (Nm h);exact⟨k,c,h1,zE,h3⟩
def FM(cs:List Cl)(n:Nat):(QD cs n).length=n:=by simp[QD]
def FN{cs:List Cl}{n:Nat}:∀x∈QD cs n,x.length=2:=by
 intro x hx;simp[QD]at hx;obtain⟨k,_,rfl⟩:=hx;rfl
structure SF (C:List Cl) (Bd z:Pi) (n b:Nat) (s:GS) (L:Pa) (bx:T5):Prop where
 len:b+4<bx.length
 g1:Qh bx (b+1)=[.bs b 0 n 1]
 g:Qh bx b=Zi (gB s)
 l1:Qh bx (b+3)=[.bs (b+2) 0 (n+1) 1]
 l:Qh bx (b+2)=Xo L
 f:Qh bx (b+4)=[.fn 192 [] [.ptr (b+3) 0]]
 bd:C≠[]->∃cF,Qh bx 0=[.bs cF 0 n 1]/\Qh bx cF=aj (Bd++z)/\0<cF/\cF<b
def SF.app{C:List Cl}{Bd z:Pi}{n b:Nat}{s:GS}{L:Pa}{bx:T5}(h:SF C Bd z n b s L bx)(x:T5):SF C Bd z n b s L (bx++x):=by
 have hl:=h.len;refine⟨by simp;omega,by rw[Qn zE];exact h.g1,by rw[Qn zE];exact h.g,by rw[Qn zE];exact h.l1,by rw[Qn zE];exact h.l,by rw[Qn zE];exact h.f,fun hc=>?_⟩;obtain⟨cF,h1,h2,h3,h4⟩:=h.bd hc;exact⟨cF,by rw[Qn zE];exact h1,by rw[Qn zE];exact h2,h3,h4⟩
def SF.later{C:List Cl}{Bd z:Pi}{n b:Nat}{s:GS}{L L':Pa}{bx bx':T5}(h:SF C Bd z n b s L bx)(hb:0<b)(hk:bC (·=b+2) bx bx')(hl:Qh bx' (b+2)=Xo L'):SF C Bd z n b s L' bx':=by
 have aH:=h.len;have k:∀j,j<bx.length->j≠b+2->Qh bx' j=Qh bx j:=hk.2;refine⟨by have:=hk.1;omega,by rw[k _ zE zE];exact h.g1,by rw[k _ zE zE];exact h.g,by rw[k _ zE zE];exact h.l1,hl,by rw[k _ zE zE];exact h.f,fun hc=>?_⟩;obtain⟨cF,h1,h2,h3,h4⟩:=h.bd hc;exact⟨cF,by rw[k _ zE zE];exact h1,by rw[k _ zE zE];exact h2,h3,h4⟩
def SF.put{C:List Cl}{Bd z:Pi}{n b:Nat}{s:GS}{L:Pa}{bx:T5}(h:SF C Bd z n b s L bx)(hb:0<b)(k:Nat)(v:Bool):
  SF C Bd z n b (s.set k (some v)) (L.set k (k+1)) ((bx.set b (Zi ((gB s).set k v))).set (b+2) (Xo (L.set k (k+1)))):=by
 have aH:=h.len
 have e:∀j,j≠b->j≠b+2->Qh ((bx.set b (Zi ((gB s).set k v))).set (b+2) (Xo (L.set k (k+1)))) j=Qh bx j:=fun j h1 h2=>by
  rw[Ya _ (fun h=>h2 h.symm),Ya _ (fun h=>h1 h.symm)]
 refine⟨Nm aH,by rw[e _ zE zE];exact h.g1,?_,by rw[e _ zE zE];exact h.l1,by rw[Yf _ (by simp;omega)],by rw[e _ zE zE];exact h.f,fun hc=>?_⟩
 ·rw[Ya _ zE,Yf _ zE,aly]
 obtain⟨cF,h1,h2,h3,h4⟩:=h.bd hc;exact⟨cF,by rw[e _ zE zE];exact h1,by rw[e _ zE zE];exact h2,h3,h4⟩
def aeb(Bd:Pi)(s:GS)(c:Cl):(QE Bd s c).length=s.length:=by simp[QE,qW]
def xh(Bd:Pi):∀(l:List Cl)(s:GS),(l.foldl (QE Bd) s).length=s.length
 |[],_=>rfl
 |c::l,s=>by rw[zzcz,xh Bd l,aeb]
def A5(Bd:Pi):∀(l:List Cl)(s:GS)(i:Nat)(v:Bool),(∀c∈l,c.to∈Bd)->(∀v,s[i]?≠some (some v))->(l.foldl (QE Bd) s)[i]?=some (some v)->i+1<Bd.length+0\/i+1<=Bd.length-1
 |[],s,i,v,_,h0,h=>absurd h (h0 v)
 |c::l,s,i,v,hc,h0,h=>by
  rw[zzcz]at h;by_cases h1:∃v,(QE Bd s c)[i]?=some (some v)
  ·obtain⟨v',h2⟩:=h1;unfold QE at h2;rw[Ux]at h2;cases hs:s[i]? with
   |none=>rw[hs]at h2;cases h2
   |some o=>
    rw[hs]at h2;simp only[zzct,Option.some.injEq]at h2;split at h2
    ·rename_i h3;have:=KE (hc c zd);exact .inl zE
    subst h2;exact absurd hs (h0 v')
  exact A5 Bd l _ i v (fun c h=>hc c (by simp[h])) (fun v hv=>h1 ⟨v,hv⟩) h
def NW(s:GS)(j:Nat)(h:nE s j=true):s[j]?≠some none:=by
 intro h';unfold nE at h;rw[h']at h;cases h
def XE{s:GS}{j:Nat}(h:nE s j=false)(hj:j<s.length):s[j]?=some none:=by
 unfold nE at h;obtain⟨o,ho⟩:=aV hj;rw[ho]at h |-
 cases o with
 |none=>rfl
 |some v=>cases h
def KF(s:GS)(a q r:Nat)(v:Bool)(hq:q<=r)(h:∀j,a<=j->j<r->nE s j=true):stepG s a q v=s:=by
 rcases zzhh a q with h1|h1
 ·rw[xb s a a q v h1 (fun j h2 h3=>NW s j (h j h2 zE)),A4 _ _ _ _ (zzab _)]
 exact A4 _ _ _ _ h1
def A6(C:List Cl)(Bd z:Pi)(R:List Sp)(n:Nat)(hBd:Bd=dK C)(hn:Bd.length=n)(hn9:n<=10000000)(hCl:C.length<=1000000)(hR:R=Xk (nD Bd (w9 C) n))(E:QQ)(B:T5)(Lm:Pa)(st:Nat->LS)(ln:Nat)(b:Nat)(rt zi:Rt)
  (hb:0<b)(w8:B.length=b+4)(h7:Abs.look E 7=.sl rt (C.map Qg))(aX:∀m,bA m 6 (.sl rt (C.map Qg))=.sl zi (C.map Qg))(h8:Abs.look E 8=.ptr 0 0)(pn:Abs.look E 11=.ptr (b+1) 0)(qu:Abs.look E 12=.ptr (b+3) 0)
  (hg1:Qh B (b+1)=[.bs b 0 n 1])(hg:Qh B b=Zi (List.replicate n false))(gP:Qh B (b+3)=[.bs (b+2) 0 (n+1) 1])(hl:Qh B (b+2)=aj (List.replicate (n+1) 0))
  (ek:C≠[]->∃cF,Qh B 0=[.bs cF 0 n 1]/\Qh B cF=aj (Bd++z)/\0<cF/\cF<b):
  vc Tryz.prog aD (Wj Bd R) Y0 (XB C4) ⟨Vx 145 E,⟨B,Lm,st,ln⟩⟩ (post Tryz.prog aD (Wj Bd R) Ey (.sl .ro (R.map Qe))):=by
 simp[XB,qu,gP]
 refine Qi I6 (fun f m=>∃(i:Nat)(B':T5)(L':Pi),i<=n+1/\f 74=I i/\m=⟨B',Lm,st,ln⟩/\bC (·=b+2) B B'/\B'.length=B.length/\Qh B' (b+2)=aj L'/\L'.length=n+1/\∀j:Nat,j<i->L'[j]?=some (j:Int))
  (fun f _=>n+1-(numOf (f 74)).toNat) ?_ ?_
 ·exact⟨0,B,List.replicate (n+1) 0,zE,zd,rfl,bC.refl _ _,rfl,hl,zd,fun j h=>zE⟩
 rintro f m ⟨i,B',L',hi,h74,rfl,nB,FK,eX,tU,AD⟩;have arG:Qh B' (b+3)=[.bs (b+2) 0 (n+1) 1]:=by rw[nB.2 _ zE zE];exact gP
 rcases zzaa i (n+1)with ah|bq
 ·have aa:(i:Int)<(n:Int)+1:=zE
  have hw:=bO i zE;have bS:=Kx L' i (i:Int);have aH:=Uf L';have fV:b+2<B'.length:=zE
  simp[h74,aa,ah,I6,qu,arG,eX,hw,bS,aH,tU,fV];refine⟨zE,aQ,⟨i+1,zE,zd,nB.set (.inl rfl) _,FK,L'.set i (i:Int),Yf _ fV,Nm tU,fun j hj=>?_⟩,zE⟩
  ·by_cases hji':j=i
   ·subst hji';rw[zzbg zE]
   rw[zzbn (fun h=>hji' h.symm)];exact AD j zE
 obtain rfl:i=n+1:=zE
 have hLr:L'=(List.range (n+1)).map fun(k:Nat)=>(k:Int):=by
  apply zzdb;intro j;by_cases hj:j<n+1
  ·rw[AD j hj];simp[hj]
  rw[zzat zE,zzat (by simp;omega)]
 have awN:Qh B' (b+2)=Xo (List.range (n+1)):=by rw[eX,hLr];rfl
 have bQ:¬((n:Int)+1)<(n:Int)+1:=zE
 have awO:SF C Bd z n b (List.replicate n none) (List.range (n+1)) (B'++[[.fn 192 [] [.ptr (b+3) 0]]]):=by
  have k:∀j,j<B.length->j≠b+2->Qh B' j=Qh B j:=nB.2;refine⟨by simp;omega,?_,?_,?_,?_,?_,fun hc=>?_⟩
  ·rw[Qn zE,k _ zE zE];exact hg1
  ·rw[Qn zE,k _ zE zE,ad9];exact hg
  ·rw[Qn zE];exact arG
  ·rw[Qn zE];exact awN
  ·have:b+4=B'.length:=zE
   rw[this];simp
  obtain⟨cF,h1,h2,h3,h4⟩:=ek hc;exact⟨cF,by rw[Qn zE,k _ zE zE];exact h1,by rw[Qn zE,k _ zE zE];exact h2,h3,h4⟩
 have alB:=Xz (l:=[.sl zi (C.map Qg)]) (mg C) ⟨Wk.sl _ _,trivial⟩;have cT:=mh C zE;have sy:=fun s hs hR E=>xe Bd z s R n hs hn9 hR E
 have A7:∀y,Qh (B'++[y]) (b+4)=y:=fun y=>by
  have:b+4=B'.length:=zE
  rw[this];simp
 simp[h74,I6,h7,qu,aX,FK,w8,A7,Wj];refine⟨alB,?_⟩;refine jx (xs:=QD C C.length) zd cT FN (fun i m=>∃(s:GS)(L:Pa),s=(C.reverse.take i).foldl (QE Bd) (List.replicate n none)/\WF L (nE s) n/\SF C Bd z n b s L m.boxes) (fun _ _=>False) ?_ ?_ (fun _ _ _ h=>h.elim) ?_ ?_ (fun _ _ h=>h.elim)
 ·exact⟨_,_,zd,WF.init n _ (fun j=>by simp[nE,zzcm]),awO⟩
 ·rintro i m m' ⟨s,L,h1,h2,h3⟩ ⟨⟨bx,e1⟩,_,_⟩;exact⟨s,L,h1,h2,by rw[e1];exact h3.app bx⟩
 ·rintro l i m x hg hr ⟨s,L,hs,hWF,hSt⟩ hx K' k1 _ _;obtain⟨k,c,hc,hk,rfl⟩:=xg C C.length i x (zzab _) hx;rw[Jm]at hSt;have hcm:c∈C:=zzad hc;have alC:C≠[]:=List.ne_nil_of_mem hcm
  have awP:C.reverse[i]?=some c:=by
   rw[List.getElem?_reverse zE];rw[show C.length-1-i=k by omega];exact hc
  have FO:s.length=n:=by rw[hs,xh];simp
  have dM:(C.reverse.take (i+1)).foldl (QE Bd) (List.replicate n none)=QE Bd s c:=by
   rw[zzb,awP,zzgg,<- hs];rfl
  obtain⟨cF,d1,d2,d3,d4⟩:=hSt.bd alC;have gE:∀m,(aj (Bd++z)).map (bA m 5)=aj (Bd++z):=fun m=>Va m 4 (WY _);have iu:aY 1 n (aj (Bd++z))=Bd.map fun x=>[I x]:=by rw[<- hn,nA];exact wX Bd _
  have qs:n<=(aj (Bd++z)).length:=by rw[Uf];simp;omega
  have nF:Bd.Pairwise (·<=·):=by rw[hBd];exact(NU C).imp (fun h=>Int.le_of_lt h)
  have b1:=o7 Bd c.fr zE nF;have b2:=o7 Bd c.to zE nF;have hto:c.to∈Bd:=by rw[hBd,uI];exact(pe hcm).2
  have he:=KE hto;have ha:=alz Bd c.fr;have bY:QE Bd s c=stepG s (qV Bd c.fr) (qV Bd c.to) (decide (c.ki=1)):=rfl;rw[bY]at dM;obtain⟨a,hae⟩:∃a,qV Bd c.fr=a:=⟨_,rfl⟩;obtain⟨e,hee⟩:∃e,qV Bd c.to=e:=⟨_,rfl⟩;obtain⟨v,hv⟩:∃v,(c.ki==1)=v:=⟨_,rfl⟩;have EV:decide (c.ki=1)=v:=hv;rw[hae,hee,EV]at dM;rw[hae]at b1 ha;rw[hee]at b2 he;have aH:=hSt.len;have f0:∀x,Qh (m.boxes++x) 0=[.bs cF 0 n 1]:=fun x=>by rw[Qn zE];exact d1
  have fb:∀x,Qh (m.boxes++x) cF=aj (Bd++z):=fun x=>by rw[Qn zE];exact d2
  have ff:∀x,Qh (m.boxes++x) (b+4)=[.fn 192 [] [.ptr (b+3) 0]]:=fun x=>by rw[Qn zE];exact hSt.f
  simp[hr,Zr,Qg,h8,Wj,f0,fb,ff,gE,iu,qs,hae,hee];refine⟨b1,b2,?_⟩;have alD:=hSt.app [[I c.ki,I c.it,I c.fr,I c.to,I c.re,I c.n,I c.a,I c.b]];refine NT Y0 a n (b+3) (b+2) L (nE s) hWF zE zE _ _ _ _ (by simp;omega) (by simp;omega) zE alD.l1 alD.l _ ?_;intro B1 L1 r dF gP QF har hrn ei CM;have awQ:=alD.later hb dF gP;have awR:m.boxes.length<B1.length:=by have:=dF.1;simp at this;omega
  have arH:Qh B1 m.boxes.length=[I c.ki,I c.it,I c.fr,I c.to,I c.re,I c.n,I c.a,I c.b]:=by
   rw[dF.2 _ zd zE];simp
  have Nt:stepG s a (min r e) v=s:=KF s a _ r v zE CM;simp
  refine Qi I7 (fun g m2=>∃(k:Nat)(B2:T5)(L2:Pa),g 21=I k/\a<=k/\k<=n/\m2=⟨B2,m.lens,uC m.st l .busy,m.ln⟩/\WF L2 (nE (stepG s a (min k e) v)) n/\nE (stepG s a (min k e) v) k=false/\
   SF C Bd z n b (stepG s a (min k e) v) L2 B2/\m.boxes.length<B2.length/\Qh B2 m.boxes.length=[I c.ki,I c.it,I c.fr,I c.to,I c.re,I c.n,I c.a,I c.b]) (fun g _=>n-(numOf (g 21)).toNat) ?_ ?_
  ·exact⟨r,B1,L1,zd,har,hrn,rfl,by rw[Nt];exact QF,by rw[Nt];exact ei,by rw[Nt];exact awQ,awR,arH⟩
  rintro g m2 ⟨k,B2,L2,g21,hak,Eg,rfl,QG,hd2,A8,hlt2,hrow2⟩;rcases zzaa k e with hke|hke
  ·have xk:min k e=k:=zE
   rw[xk]at QG hd2 A8;have awS:(stepG s a k v).length=n:=by rw[qW,FO]
   have arI:k<n:=zE
   have XF:=XE hd2 zE
   have hsk:s[k]?=some none:=by
    rw[Ux]at XF;cases hq:s[k]? with
    |none=>rw[hq]at XF;cases XF
    |some o=>rw[hq]at XF;simpa using XF
   have dP:=KD s a k v hak hsk;obtain⟨sG,C5⟩:=XA (stepG s a k v) k v zE;have hW3:=WF.dec QG arI sG C5;have hS3:=A8.put hb k v;have arJ:(k:Int)<(e:Int):=zE
   have arK:(k:Int)<(n:Int):=zE
   have alE:(k:Int)<(n:Int)+1:=zE
   have awT:k<n+1:=zE
   have sF:IntKind.i64.wrap ((k:Int)+1)=(k:Int)+1:=by rw[Ql]<;>omega
   have gD:=alx (gB (stepG s a k v)) k v;have Sx:(Xo L2).set k (I ((k:Int)+1))=Xo (L2.set k (k+1)):=by have:=W7 L2 k (k+1);simpa using this
   have fS:=alv (gB (stepG s a k v));have lG:(gB (stepG s a k v)).length=n:=by simp[gB,awS]
   have hnl:=W6 L2;have hL2:=QG.1;have eE:=A8.len;have q1:∀X,Qh (B2.set b X) (b+3)=[.bs (b+2) 0 (n+1) 1]:=fun X=>by rw[Ya _ zE];exact A8.l1
   have q2:∀X,Qh (B2.set b X) (b+2)=Xo L2:=fun X=>by rw[Ya _ zE];exact A8.l
   have q3:∀X Z,Qh ((B2.set b X).set (b+2) Z) (b+4)=[.fn 192 [] [.ptr (b+3) 0]]:=fun X Z=>by rw[Ya _ zE,Ya _ zE];exact A8.f
   have dz:b<B2.length:=zE
   have fV:b+2<B2.length:=zE
   simp[g21,arJ,hke,I7,pn,qu,A8.g1,A8.g,hrow2,hv,arK,arI,alE,awT,sF,gD,Sx,fS,lG,hnl,hL2,q1,q2,q3,dz,fV,Wj];have hl3:=hS3.len
   have arL:Qh ((B2.set b (Zi ((gB (stepG s a k v)).set k v))).set (b+2) (Xo (L2.set k (k+1)))) m.boxes.length=[I c.ki,I c.it,I c.fr,I c.to,I c.re,I c.n,I c.a,I c.b]:=by
    rw[Ya _ zE,Ya _ zE];exact hrow2
   have awU:m.boxes.length<((B2.set b (Zi ((gB (stepG s a k v)).set k v))).set (b+2) (Xo (L2.set k (k+1)))).length:=by simpa using hlt2
   refine⟨zE,zE,NT Y0 k n (b+3) (b+2) _ _ hW3 Eg zE _ _ _ _ zE zE zE hS3.l1 hS3.l _ ?_⟩;intro B4 L4 r4 NX hl4 hW4 awV awW alF awX;have hS4:=hS3.later hb NX hl4;have awY:m.boxes.length<B4.length:=by have:=NX.1;omega
   have arM:Qh B4 m.boxes.length=[I c.ki,I c.it,I c.fr,I c.to,I c.re,I c.n,I c.a,I c.b]:=by
    rw[NX.2 _ awU zE];exact arL
   have hr4:k+1<=r4:=by
    rcases Nat.eq_or_lt_of_le awV with h|h
    ·subst h;rw[sG]at alF;cases alF
    exact h
   have FP:stepG s a (min r4 e) v=(stepG s a k v).set k (some v):=by
    rw[<- dP];refine xb s a (k+1) (min r4 e) v zE (fun j dX oq=>?_);have h1:=NW _ j (awX j zE zE);rw[zzbn zE,Ux]at h1;intro h2;rw[h2]at h1;simp at h1;omega
   simp;refine⟨aQ,⟨r4,rfl,zE,awW,L4,by rw[FP];exact hW4,by rw[FP];exact alF,by rw[FP];exact hS4,awY,arM⟩,zE⟩
  have xk:min k e=e:=zE
  rw[xk]at QG hd2 A8;have awZ:¬(k:Int)<(e:Int):=zE
  simp[g21,awZ,zzbk.2 hke,I7];exact k1 _ ⟨stepG s a e v,L2,dM.symm,QG,A8⟩
 rintro m ⟨s,L,hs,hWF,hSt⟩;rw[FM]at hs;rw[zzau zd]at hs;have hsf:s=w9 C:=by rw[hs];unfold w9;rw[<- hBd,hn]
 rw[<- hsf]at hR;have FO:s.length=n:=by rw[hs,xh];simp
 refine xe Bd z s R n FO hn9 hR _ m.boxes m.lens m.st m.ln b (b+1) Bd ?_ ?_ hSt.g1 hSt.g ?_
 ·simp[h8]
 ·simp[pn]
 intro i hi
 have alC:C≠[]:=by
  rintro rfl;rw[hs]at hi;simp[zzcm]at hi
 obtain⟨cF,d1,d2,_,_⟩:=hSt.bd alC;refine⟨cF,d1,d2,?_,hn⟩;rw[hs]at hi;have:=A5 Bd C.reverse _ i true (fun c hc=>by rw[hBd,uI];exact(pe (zzfk.1 hc)).2) (fun v=>by simp[zzcm]) hi;omega
section
variable (cs:List Cl) (item region:Int)
def aw0(C:List Cl)(rt:Rt)(Lm:Pa):Prop:=(C=[]/\rt=.nil/\Lm=[])\/(C≠[]/\rt=.own 0 8/\Lm=[C.length])
end
def XG{B:T5}{i:Nat}{v:P2}(h:Qh B i=v)(hi:i<B.length):B.set i v=B:=by
 apply zzdb;intro j;by_cases hj:j=i
 ·subst hj;rw[zzbg hi,Jj hi,h]
 rw[zzbn (fun e=>hj e.symm)]
def KG(cs:List Cl)(item region:Int)(hl:cs.length<=1000000):Pure Tryz.prog aD 136 [.sl .ro (cs.map Qg),I item,I region] (.sl .ro ((Qcq cs item region).map Qe)):=by
 have hR:Qcq cs item region=Xk (nD (dK (Wo cs item region)) (w9 (Wo cs item region)) (dK (Wo cs item region)).length):=rfl;have hCl:(Wo cs item region).length<=cs.length:=zzcc _ _;obtain⟨CC,hCC⟩:∃CC,Wo cs item region=CC:=⟨_,rfl⟩;rw[hCC]at hR hCl;generalize Qcq cs item region=R at hR;refine Qp aci (Wj (dK CC) R) zd ?_;rw[XC];simp[aiA]
 refine Qi dW (fun f m=>∃(i:Nat)(C:List Cl)(rt:Rt)(Lm:Pa)(B:T5),i<=cs.length/\f 27=I i/\f 7=.sl rt (C.map Qg)/\m=⟨B,Lm,fun _=>.gone,0⟩/\C++Wo (cs.drop i) item region=CC/\
   C.length<=i/\0<B.length/\aw0 C rt Lm/\aea B C) (fun f _=>cs.length-(numOf (f 27)).toNat) ?_ ?_
 ·exact⟨0,[],.nil,[],[[.sl .nil []]],zE,zd,zd,rfl,Nm hCC,zd,zd,.inl ⟨rfl,rfl,rfl⟩,.inl ⟨rfl,rfl⟩⟩
 rintro f m ⟨i,C,rt,Lm,B,hi,h27,h7,rfl,hC,hCi,gF,aX,ek⟩;rcases zzaa i cs.length with ah|bq
 ·obtain⟨c,hc⟩:=aV ah;have ai:Qh (cs.map Qg) i=Qg c:=Qu (by simp[hc]);have aa:(i:Int)<(cs.length:Int):=zE
  have hw:=bO i zE;have hd:cs.drop i=c::cs.drop (i+1):=by rw[zzag ah,(zza.1 hc).2]
  have hcp:=mj c item region;have XH:=We c;rw[hd]at hC
  have skip:FL item region c=false->C++Wo (cs.drop (i+1)) item region=CC:=by
   intro hb;rw[<- hC];simp[Wo,hb]
  have take:FL item region c=true->(C++[c])++Wo (cs.drop (i+1)) item region=CC:=by
   intro hb;rw[<- hC];simp[Wo,hb]
  have iq:∀x,Qh (B++x) 0=Qh B 0:=fun x=>Qn gF;by_cases hk:c.ki=1\/c.ki=2
  ·cases e1:gV c item region with
   |false=>
    have hs:=skip (by simp[FL,e1]);rw[e1]at hcp;obtain hk|hk:=hk
    ·have gr:(⟨1,c.it,c.fr,c.to,c.re,c.n,c.a,c.b⟩:Cl)=c:=by cases c;simp at hk;subst hk;rfl
     have qY:Pure Tryz.prog aD 191 [.agg [I 1,I c.it,I c.fr,I c.to,I c.re,I c.n,I c.a,I c.b],I item,I region] (.bool false):=by simpa[Qg,hk]using hcp
     simp[h27,h7,ah,aa,ai,Qg,hk,gr,e1,dW,hw,Wj];refine⟨qY,aQ,⟨i+1,zE,zd,C,rt,⟨rfl,rfl⟩,Lm,_,⟨rfl,rfl⟩,hs,zE,zd,aX,ek.app gF _⟩,zE⟩
    have gr:(⟨2,c.it,c.fr,c.to,c.re,c.n,c.a,c.b⟩:Cl)=c:=by cases c;simp at hk;subst hk;rfl
    have qY:Pure Tryz.prog aD 191 [.agg [I 2,I c.it,I c.fr,I c.to,I c.re,I c.n,I c.a,I c.b],I item,I region] (.bool false):=by simpa[Qg,hk]using hcp
    simp[h27,h7,ah,aa,ai,Qg,hk,gr,e1,dW,hw,Wj];refine⟨qY,aQ,⟨i+1,zE,zd,C,rt,⟨rfl,rfl⟩,Lm,_,⟨rfl,rfl⟩,hs,zE,zd,aX,ek.app gF _⟩,zE⟩
   |true=>
    rw[e1]at hcp;cases e2:Zc c with
    |false=>
     have hs:=skip (by simp[FL,e2]);rw[e2]at XH;obtain hk|hk:=hk
     ·have gr:(⟨1,c.it,c.fr,c.to,c.re,c.n,c.a,c.b⟩:Cl)=c:=by cases c;simp at hk;subst hk;rfl
      have qY:Pure Tryz.prog aD 191 [.agg [I 1,I c.it,I c.fr,I c.to,I c.re,I c.n,I c.a,I c.b],I item,I region] (.bool true):=by simpa[Qg,hk]using hcp
      have nG:Pure Tryz.prog aD 48 [.agg [I 1,I c.it,I c.fr,I c.to,I c.re,I c.n,I c.a,I c.b]] (.bool false):=by simpa[Qg,hk]using XH
      simp[h27,h7,ah,aa,ai,Qg,hk,gr,e1,e2,dW,hw,Wj];refine⟨qY,nG,aQ,⟨i+1,zE,zd,C,rt,⟨rfl,rfl⟩,Lm,_,⟨rfl,rfl⟩,hs,zE,zd,aX,ek.app gF _⟩,zE⟩
     have gr:(⟨2,c.it,c.fr,c.to,c.re,c.n,c.a,c.b⟩:Cl)=c:=by cases c;simp at hk;subst hk;rfl
     have qY:Pure Tryz.prog aD 191 [.agg [I 2,I c.it,I c.fr,I c.to,I c.re,I c.n,I c.a,I c.b],I item,I region] (.bool true):=by simpa[Qg,hk]using hcp
     have nG:Pure Tryz.prog aD 48 [.agg [I 2,I c.it,I c.fr,I c.to,I c.re,I c.n,I c.a,I c.b]] (.bool false):=by simpa[Qg,hk]using XH
     simp[h27,h7,ah,aa,ai,Qg,hk,gr,e1,e2,dW,hw,Wj];refine⟨qY,nG,aQ,⟨i+1,zE,zd,C,rt,⟨rfl,rfl⟩,Lm,_,⟨rfl,rfl⟩,hs,zE,zd,aX,ek.app gF _⟩,zE⟩
    |true=>
     have ht:=take (by simp[FL,e1,e2,hk]);rw[e2]at XH;obtain hk|hk:=hk
     ·have gr:(⟨1,c.it,c.fr,c.to,c.re,c.n,c.a,c.b⟩:Cl)=c:=by cases c;simp at hk;subst hk;rfl
      have qY:Pure Tryz.prog aD 191 [.agg [I 1,I c.it,I c.fr,I c.to,I c.re,I c.n,I c.a,I c.b],I item,I region] (.bool true):=by simpa[Qg,hk]using hcp
      have nG:Pure Tryz.prog aD 48 [.agg [I 1,I c.it,I c.fr,I c.to,I c.re,I c.n,I c.a,I c.b]] (.bool true):=by simpa[Qg,hk]using XH
      obtain⟨rfl,rfl,rfl⟩|⟨aO,rfl,rfl⟩:=aX
      ·obtain⟨_,dZ⟩|⟨hx,_⟩:=ek
       ·have KH:∀x,Qh (B++x) 0=[.sl .nil []]:=fun x=>by rw[Qn gF];exact dZ
        have lM:∀x y,(B++x).set 0 y=B.set 0 y++x:=fun x y=>Yi y gF;simp[h27,h7,ah,aa,ai,Qg,hk,gr,e1,e2,dW,hw,KH,lM,gF,Wj];refine⟨qY,nG,aQ,⟨i+1,zE,zd,[c],.own 0 8,⟨rfl,by simp[Qg,hk]⟩,[1],_,⟨rfl,rfl⟩,ht,zd,zd,.inr ⟨zd,rfl,rfl⟩,.inr ⟨zd,B.length+1,?_,zE,zd,?_⟩⟩,zE⟩
        ·rw[Qn (Nm gF),Yf _ gF];rfl
        have:=Vm (B.set 0 [AV.bs (B.length+1) 0 2 1]) [[I 1,I c.it,I c.fr,I c.to,I c.re,I c.n,I c.a,I c.b],[AV.int IntKind.i64 c.fr,AV.int IntKind.i64 c.to]] 1;rw[zzch]at this;rw[this];rfl
       exact absurd rfl hx
      obtain⟨hx,_⟩|⟨_,cF,dZ,dz,fV,hb3⟩:=ek
      ·exact absurd hx aO
      have KH:∀x,Qh (B++x) 0=[.bs cF 0 (eM C).length 1]:=fun x=>by rw[Qn gF];exact dZ
      have alG:∀x,Qh (B++x) cF=aj (eM C):=fun x=>by rw[Qn fV];exact hb3
      have lM:∀x y,(B++x).set 0 y=B.set 0 y++x:=fun x y=>Yi y gF;have hsb:∀x y,(B++x).set cF y=B.set cF y++x:=fun x y=>Yi y fV;have fS:=o9 C;have je:=Uf (eM C);have zU:∀x,Qh (B.set cF []++x) 0=[.bs cF 0 (eM C).length 1]:=fun x=>by rw[Qn (Nm gF),Ya _ dz,dZ]
      have hss:∀x y,(B.set cF []++x).set 0 y=(B.set cF []).set 0 y++x:=fun x y=>Yi y (Nm gF);have bB:(aj (eM C)).take (eM C).length=aj (eM C):=zzau (by rw[je];exact zzab _)
      have NI:aj (eM C)≠[]:=by
       intro h;have:=congrArg List.length h;rw[je,fS]at this;exact aO (zzbx.1 (by simp at this;omega))
      simp[h27,h7,ah,aa,ai,Qg,hk,gr,e1,e2,dW,hw,KH,alG,lM,hsb,zU,hss,bB,NI,gF,fV,je,Wj];refine⟨qY,nG,⟨?_,zE⟩,⟨zE,zE⟩,aQ,⟨i+1,zE,zd,C++[c],.own 0 8,⟨rfl,by simp[Qg,hk]⟩,[C.length+1],_,⟨rfl,rfl⟩,ht,by simp;omega,zd,.inr ⟨zd,rfl,zd⟩,.inr ⟨zd,B.length+1,?_,zE,zd,?_⟩⟩,zE⟩
      ·rintro row (⟨a,_,rfl⟩|rfl)<;>rfl
      ·rw[Qn (Nm gF),Yf _ (Nm gF),o8];simp[eM]
      have:=Vm ((B.set cF []).set 0 [AV.bs (B.length+1) 0 ((eM C).length+2) 1]) [[I 1,I c.it,I c.fr,I c.to,I c.re,I c.n,I c.a,I c.b],aj (eM C)++[AV.int IntKind.i64 c.fr,AV.int IntKind.i64 c.to]] 1;rw[zzch,zzch]at this;rw[this,o8,nA];rfl
     have gr:(⟨2,c.it,c.fr,c.to,c.re,c.n,c.a,c.b⟩:Cl)=c:=by cases c;simp at hk;subst hk;rfl
     have qY:Pure Tryz.prog aD 191 [.agg [I 2,I c.it,I c.fr,I c.to,I c.re,I c.n,I c.a,I c.b],I item,I region] (.bool true):=by simpa[Qg,hk]using hcp
     have nG:Pure Tryz.prog aD 48 [.agg [I 2,I c.it,I c.fr,I c.to,I c.re,I c.n,I c.a,I c.b]] (.bool true):=by simpa[Qg,hk]using XH
     obtain⟨rfl,rfl,rfl⟩|⟨aO,rfl,rfl⟩:=aX
     ·obtain⟨_,dZ⟩|⟨hx,_⟩:=ek
      ·have KH:∀x,Qh (B++x) 0=[.sl .nil []]:=fun x=>by rw[Qn gF];exact dZ
       have lM:∀x y,(B++x).set 0 y=B.set 0 y++x:=fun x y=>Yi y gF;simp[h27,h7,ah,aa,ai,Qg,hk,gr,e1,e2,dW,hw,KH,lM,gF,Wj];refine⟨qY,nG,aQ,⟨i+1,zE,zd,[c],.own 0 8,⟨rfl,by simp[Qg,hk]⟩,[1],_,⟨rfl,rfl⟩,ht,zd,zd,.inr ⟨zd,rfl,rfl⟩,.inr ⟨zd,B.length+1,?_,zE,zd,?_⟩⟩,zE⟩
       ·rw[Qn (Nm gF),Yf _ gF];rfl
       have:=Vm (B.set 0 [AV.bs (B.length+1) 0 2 1]) [[I 2,I c.it,I c.fr,I c.to,I c.re,I c.n,I c.a,I c.b],[AV.int IntKind.i64 c.fr,AV.int IntKind.i64 c.to]] 1;rw[zzch]at this;rw[this];rfl
      exact absurd rfl hx
     obtain⟨hx,_⟩|⟨_,cF,dZ,dz,fV,hb3⟩:=ek
     ·exact absurd hx aO
     have KH:∀x,Qh (B++x) 0=[.bs cF 0 (eM C).length 1]:=fun x=>by rw[Qn gF];exact dZ
     have alG:∀x,Qh (B++x) cF=aj (eM C):=fun x=>by rw[Qn fV];exact hb3
     have lM:∀x y,(B++x).set 0 y=B.set 0 y++x:=fun x y=>Yi y gF;have hsb:∀x y,(B++x).set cF y=B.set cF y++x:=fun x y=>Yi y fV;have fS:=o9 C;have je:=Uf (eM C);have zU:∀x,Qh (B.set cF []++x) 0=[.bs cF 0 (eM C).length 1]:=fun x=>by rw[Qn (Nm gF),Ya _ dz,dZ]
     have hss:∀x y,(B.set cF []++x).set 0 y=(B.set cF []).set 0 y++x:=fun x y=>Yi y (Nm gF);have bB:(aj (eM C)).take (eM C).length=aj (eM C):=zzau (by rw[je];exact zzab _)
     have NI:aj (eM C)≠[]:=by
      intro h;have:=congrArg List.length h;rw[je,fS]at this;exact aO (zzbx.1 (by simp at this;omega))
     simp[h27,h7,ah,aa,ai,Qg,hk,gr,e1,e2,dW,hw,KH,alG,lM,hsb,zU,hss,bB,NI,gF,fV,je,Wj];refine⟨qY,nG,⟨?_,zE⟩,⟨zE,zE⟩,aQ,⟨i+1,zE,zd,C++[c],.own 0 8,⟨rfl,by simp[Qg,hk]⟩,[C.length+1],_,⟨rfl,rfl⟩,ht,by simp;omega,zd,.inr ⟨zd,rfl,zd⟩,.inr ⟨zd,B.length+1,?_,zE,zd,?_⟩⟩,zE⟩
     ·rintro row (⟨a,_,rfl⟩|rfl)<;>rfl
     ·rw[Qn (Nm gF),Yf _ (Nm gF),o8];simp[eM]
     have:=Vm ((B.set cF []).set 0 [AV.bs (B.length+1) 0 ((eM C).length+2) 1]) [[I 2,I c.it,I c.fr,I c.to,I c.re,I c.n,I c.a,I c.b],aj (eM C)++[AV.int IntKind.i64 c.fr,AV.int IntKind.i64 c.to]] 1;rw[zzch,zzch]at this;rw[this,o8,nA];rfl
  have h1:¬c.ki=1:=fun h=>hk (.inl h);have h2:¬c.ki=2:=fun h=>hk (.inr h);have hs:=skip (by simp[FL,h1,h2]);simp[h27,h7,ah,aa,ai,Qg,h1,h2,dW,hw,Wj];refine⟨aQ,⟨i+1,zE,zd,C,rt,⟨rfl,rfl⟩,Lm,_,⟨rfl,rfl⟩,hs,zE,zd,aX,ek.app gF _⟩,zE⟩
 obtain rfl:i=cs.length:=zE
 have hCe:C=CC:=by rw[<- hC];simp[Wo]
 subst hCe;have w11:IntKind.i64.wrap 1=1:=by rw[Ql]<;>omega
 obtain⟨rfl,rfl,rfl⟩|⟨aO,rfl,rfl⟩:=aX
 ·obtain⟨_,dZ⟩|⟨h,_⟩:=ek
  ·have arN:dK []=[]:=by simp[dK,eM,dd]
   simp[h27,h7,dW,dZ,Wj];refine pq _ _ _ _ ?_;simp[dZ,Wj];refine C3 _ _ _ ?_;have aw1:=XG dZ gF;have iq:∀x,Qh (B++x) 0=[.sl .nil []]:=fun x=>by rw[Qn gF,dZ]
   simp[dZ,aw1,gF,iq,Wj,w11,bF];refine A6 [] (dK []) [] R 0 rfl (by rw[arN];rfl) zE zd (by rw[hR,arN];rfl) _ _ _ _ _ B.length .nil .nil gF zd ?_ (fun _=>rfl) ?_ ?_ ?_ ?_ ?_ ?_ ?_ (fun h=>absurd rfl h);all_goals simp[Zi,aj]
  exact absurd rfl h
 obtain⟨h,_⟩|⟨_,cF,dZ,dz,fV,hb3⟩:=ek
 ·exact absurd h aO
 simp[h27,h7,dW,dZ,Wj];have fS:=o9 C
 have NI:aj (eM C)≠[]:=by
  intro h;have:=congrArg List.length h;rw[Uf,fS]at this;exact aO (zzbx.1 (by simp at this;omega))
 refine sH _ (eM C) (by rw[fS];omega) _ cF [] ?_ (Nm NI) _ ?_
 ·show B[cF]?=_;rw[Jj fV,hb3,zzar]
 obtain⟨l,CT⟩:∃l,(eM C).mergeSort (fun x y=>decide (x<=y))=l:=⟨_,rfl⟩;have Ei:(eM C).length=l.length:=by rw[<- CT,zzeu]
 have hdl:dd l=dK C:=by rw[<- CT];rfl
 have KI:∀X,Qh (B.set cF X) 0=[.bs cF 0 (eM C).length 1]:=fun X=>by rw[Ya _ dz];exact dZ
 have aw2:l≠[]:=by
  intro h;have:=congrArg List.length h;rw[<- Ei,fS]at this;exact aO (zzbx.1 (by simp at this;omega))
 simp[AM.wr,CT,KI,Ei,Wj];refine sE _ l (by rw[<- Ei,fS];omega) _ _ _ _ cF (Nm fV) aw2 (Yf _ fV) _ ?_;intro B2 z ef A9 hz;rw[hdl]at A9 hz |-
 have arO:0<B2.length:=by have:=ef.1;simp at this;omega
 have aw3:Qh B2 0=[.bs cF 0 l.length 1]:=by rw[ef.2 0 (Nm gF) (fun h=>dz h.symm),KI,Ei]
 have ay6:cF<B2.length:=by have:=ef.1;simp at this;omega
 obtain⟨B3,SG⟩:∃B3,B2.set 0 [.bs cF 0 (dK C).length 1]=B3:=⟨_,rfl⟩;have aw4:B3.length=B2.length:=by rw[<- SG];simp
 have alH:Qh B3 0=[.bs cF 0 (dK C).length 1]:=by rw[<- SG];exact Yf _ arO
 have aw5:Qh B3 cF=aj (dK C++z):=by rw[<- SG,Ya _ (fun h=>dz h.symm)];exact A9
 have aw6:∀x,Qh (B3++x) 0=[.bs cF 0 (dK C).length 1]:=fun x=>by rw[Qn zE];exact alH
 have aw7:0<B3.length:=zE
 have ay7:=NV C;have hwn:IntKind.i64.wrap (((dK C).length:Int)+1)=((dK C).length:Int)+1:=by rw[Ql]<;>omega
 have htn:(((dK C).length:Int)+1).toNat=(dK C).length+1:=zE
 have AI:(0:Int)<=((dK C).length:Int)+1:=zE
 have hf1:=W9 (dK C).length;have Nw:=FF ((dK C).length+1);simp[aw3,arO,SG,alH,aw6,hwn,htn,AI,hf1,Nw,aw4.symm,aw7,Wj];refine⟨⟨zE,zE⟩,⟨zE,zE⟩,?_⟩;refine A6 C (dK C) z R (dK C).length rfl rfl zE zE hR _ _ _ _ _ B3.length (.own 0 8) .ro zE zd ?_ (fun _=>rfl) ?_ ?_ ?_ ?_ ?_ ?_ ?_ (fun _=>⟨cF,by rw[Qn zE];exact alH,by rw[Qn zE];exact aw5,zE,zE⟩);all_goals simp
end
