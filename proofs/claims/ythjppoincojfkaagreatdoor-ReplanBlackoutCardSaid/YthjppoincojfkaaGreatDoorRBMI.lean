import Derived.Test.YthjppoincojfkaaGreatDoorRBSpG
set_option linter.all false
set_option maxRecDepth 100000
set_option maxHeartbeats 64000000
namespace Go.Proofs.YthjppoincojfkaaGreatDoor
noncomputable section
open Go Go.Abs
def Uf(l:Pi):(aj l).length=l.length:=by simp[aj]
def ny{l:Pi}{i:Nat}{x:Int}(h:l[i]?=some x):(aj l).drop i=I x::aj (l.drop (i+1)):=by
 unfold aj;rw[<- zzgd];have ai:=(zza.1 h).1;rw[zzah ai,(zza.1 h).2];rfl
def J3(l:Pi)(i:Nat)(x:Int):(aj l).set i (I x)=aj (l.set i x):=by simp[aj,zzfi]
def nA(a b:Pi):aj (a++b)=aj a++aj b:=by simp[aj]
def WX(l:Pi):Zl (aj l)=true:=by
 simp[Zl,aj]
def wQ:∀(l:Pi)(r:P2),aY 1 l.length (aj l++r)=l.map fun x=>[I x]
 |[],_=>rfl
 |s::l,r=>by simpa[aj]using wQ l r
def FC(n:Nat):bE n [I 0]=aj (List.replicate n 0):=by
 induction n with
 |zero=>rfl
 |succ n ih=>rw[bE,ih];rfl
def FD{l:Pi}{i:Nat}{x:Int}(h:l[i]?=some x):Qj (l.map fun x=>[I x]) i=[I x]:=Qu (by simp[h])
def dd:Pi->Pi
 |[]=>[]
 |[x]=>[x]
 |x::y::r=>if x=y then dd (y::r)else x::dd (y::r)
theorem FE(x y:Int)(r:Pi):dd (x::y::r)=if x=y then dd (y::r)else x::dd (y::r):=rfl
def CY:∀(p:Pi)(a b:Int),dd (p++[a]++[b])=dd (p++[a])++(if b=a then[]else[b])
 |[],a,b=>by
  by_cases h:b=a
  ·subst h;simp[dd]
  have:¬a=b:=fun e=>h e.symm;simp[dd,h,this]
 |[x],a,b=>by
  have ih:=CY [] a b;simp only[zzai,zzae]at ih |-
  rw[FE x a [b],FE x a [],ih];by_cases hx:x=a
  ·rw[if_pos hx,if_pos hx]
  rw[if_neg hx,if_neg hx];rfl
 |x::y::p,a,b=>by
  have ih:=CY (y::p) a b;simp only[zzae]at ih |-
  rw[FE x y (p++[a]++[b]),FE x y (p++[a]),ih];by_cases hx:x=y
  ·rw[if_pos hx,if_pos hx]
  rw[if_neg hx,if_neg hx];rfl
def NP{l:Pi}{j:Nat}{a b:Int}(ha:l[j]?=some a)(hb:l[j+1]?=some b):dd (l.take (j+2))=dd (l.take (j+1))++(if b=a then[]else[b]):=by
 have e1:l.take (j+1)=l.take j++[a]:=by rw[zzax,ha];rfl
 have e2:l.take (j+2)=l.take j++[a]++[b]:=by rw[show j+2=(j+1)+1 from rfl,zzax,hb,e1];rfl
 rw[e2,e1,CY]
def J4:∀l:Pi,(dd l).length<=l.length
 |[]=>by simp[dd]
 |[x]=>by simp[dd]
 |x::y::r=>by
  have:=J4 (y::r);rw[dd];split<;>simp at*<;>omega
def J5:∀(l:Pi)(x:Int),x∈dd l<->x∈l
 |[],x=>by simp[dd]
 |[y],x=>by simp[dd]
 |a::b::r,x=>by
  have ih:=J5 (b::r) x;rw[dd];split
  ·rename_i h;subst h;rw[ih];simp
  rw[zzaq,ih,zzaq (a:=x) (b:=a)]
def WY:∀{l:Pi},l.Pairwise (·<=·)->(dd l).Pairwise (·<·)
 |[],_=>by simp[dd]
 |[x],_=>by simp[dd]
 |x::y::r,h=>by
  obtain⟨h1,h2⟩:=zzcc.1 h;have ih:=WY h2;rw[dd];split
  ·exact ih
  rename_i aN;refine zzcc.2 ⟨fun z hz=>?_,ih⟩;have hz':=(J5 _ _).1 hz;have hxy:=h1 y zd;rcases zzaq.1 hz' with rfl|hz'
  ·omega
  have:=(zzcc.1 h2).1 z hz';omega
def sD(Y:YT)(l:Pi)(hl:l.length<=1000000000)(B:T5)(L:Pa)(st:Nat->LS)(n id:Nat)(aL:id<B.length)(aN:l≠[])(hB:Qj B id=aj l)(K:So)
  (hK:∀(B':T5)(z:Pi),bB (·=id) B B'->Qj B' id=aj (dd l++z)->(dd l).length+z.length=l.length->K (.bs id 0 (dd l).length 1) ⟨B',L,st,n⟩):
  aB Tryz.prog aD Y 111 [.bs id 0 l.length 1] ⟨B,L,st,n⟩ K:=by
 have aH:=Uf l;have lF:0<l.length:=zzdc.2 aN;refine Xn BQ (fun _ _ _=>.junk) zd ?_;by_cases h2:l.length<2
 ·have No:(l.length:Int)<2:=zE
  have hd:dd l=l:=by
   match l,aN,h2 with
   |[x],_,_=>rfl
  have:=hK B [] (bB.refl _ _) (by rw[hd,zzat];exact hB) (by rw[hd];simp);rw[hd]at this;simp[va,Ac,No,h2];exact this
 have No:¬(l.length:Int)<2:=zE
 simp[va,No,h2];refine Qk BR (fun f m=>∃k:Nat,f 3=I k/\1<=k/\k<=l.length/\m=⟨B,L,st,n⟩/\dd (l.take k)=l.take k) (fun f _=>l.length-(numOf (f 3)).toNat) ?_ ?_
 ·refine⟨1,zd,zE,zE,rfl,?_⟩
  match l,aN with
  |x::r,_=>rfl
 rintro f m ⟨k,h3,dB,hk,rfl,CD⟩;rcases zzaa k l.length with ai|bn
 ·obtain⟨k',rfl⟩:∃k',k=k'+1:=⟨k-1,zE⟩;obtain⟨a,ha⟩:∃a,l[k']?=some a:=⟨_,zzaf zE⟩;obtain⟨b,hb⟩:∃b,l[k'+1]?=some b:=⟨_,zzaf ai⟩;have ga:=ny ha;have gb:=ny hb;have o7:((k':Int)+1)<(l.length:Int):=zE
  have aiG:(k':Int)<(l.length:Int):=zE
  have Nq:k'<l.length:=zE
  have dU:IntKind.i64.wrap ((k':Int)+1-1)=(k':Int):=by rw[Ql]<;>omega
  have asd:IntKind.i64.wrap (k':Int)=(k':Int):=by rw[Ql]<;>omega
  have fE:IntKind.i64.wrap ((k':Int)+1+1)=((k'+1+1:Nat):Int):=by rw[Ql]<;>omega
  have Ay:(0:Int)<=(k':Int)+1:=zE
  have htn:((k':Int)+1).toNat=k'+1:=zE
  have hdt:=NP ha hb;by_cases hab:b=a
  ·rw[if_pos hab,zzat]at hdt;simp[h3,ai,o7,aiG,Nq,hB,ga,gb,dU,asd,fE,Ay,htn,hab,BR];have cm:(k':Int)+1<=(l.length:Int):=zE
   refine⟨cm,?_⟩
   refine Qk BS (fun f m=>∃(k t:Nat)(B':T5)(L':Pi),f 3=I k/\f 5=I ((t+1:Nat):Int)/\k'+1+(t+1)<=l.length/\1<=k/\k<=k'+1+t/\m=⟨B',L,st,n⟩/\bB (·=id) B B'/\Qj B' id=aj L'/\L'.length=l.length/\
    L'.take k=dd (l.take (k'+1+(t+1)))/\L'.drop (k'+1+t)=l.drop (k'+1+t)) (fun f _=>l.length-(k'+1)-(numOf (f 5)).toNat) ?_ ?_
   ·refine⟨k'+1,0,B,l,by simp[h3],zd,zE,zE,zE,rfl,bB.refl _ _,hB,rfl,?_,rfl⟩;rw[show k'+1+(0+1)=k'+2 by omega,hdt,CD]
   rintro g m ⟨k,t,B',L',g3,g5,ht,WZ,hkt,rfl,nB,eP,tP,bA,hdp⟩;have cI:id<B'.length:=zzay aL nB.1;have jv:=Uf L';rcases zzaa (k'+1+(t+1)) l.length with eT|hjg
   ·obtain⟨x,hx⟩:∃x,l[k'+1+t]?=some x:=⟨_,zzaf zE⟩;obtain⟨y,hy⟩:∃y,l[k'+1+t+1]?=some y:=⟨_,zzaf zE⟩
    have iD:L'[k'+1+t]?=some x:=by
     have:=congrArg (fun q=>q[0]?) hdp;simpa[hx]using this
    have hy':L'[k'+1+t+1]?=some y:=by
     have:=congrArg (fun q=>q[1]?) hdp;simpa[hy]using this
    have gx:=ny iD;have gy:(aj L').drop (k'+1+(t+1))=I y::aj (L'.drop (k'+1+t+1+1)):=ny hy';have JS:=NP hx hy;rw[show k'+1+t+2=k'+1+(t+1+1) by omega,show k'+1+t+1=k'+1+(t+1) by omega,<- bA]at JS
    have hdn:L'.drop (k'+1+(t+1))=l.drop (k'+1+(t+1)):=by
     have:=congrArg (List.drop 1) hdp;simpa[zzdw,zzan,zzfg,Nat.add_left_comm]using this
    have eE:(t+1:Nat)<l.length-(k'+1):=zE
    have aiH:((t:Int)+1)<((l.length-(k'+1):Nat):Int):=zE
    have aiI:(t:Int)<((l.length-(k'+1):Nat):Int):=zE
    have aiJ:t<l.length-(k'+1):=zE
    have hwt:IntKind.i64.wrap (t:Int)=(t:Int):=by rw[Ql]<;>omega
    have ase:IntKind.i64.wrap ((t:Int)+1+1)=((t+1+1:Nat):Int):=by rw[Ql]<;>omega
    have W4:=bO k zE;have alK:((t:Int)+1).toNat=t+1:=zE
    have asf:(0:Int)<=(t:Int)+1:=zE
    have W5:(k:Int)<(l.length:Int):=zE
    have J6:k<l.length:=zE
    have bR:=J3 L' k y;by_cases hyx:y=x
    ·rw[if_pos hyx,zzat]at JS;simp[g3,g5,eP,gx,gy,eE,aiH,aiI,aiJ,hwt,ase,alK,asf,hyx,BS];refine⟨aQ,⟨k,rfl,t+1,zd,zE,WZ,zE,nB,L',rfl,tP,JS.symm,hdn⟩,zE⟩
    rw[if_neg hyx]at JS;simp[g3,g5,eP,gx,gy,eE,aiH,aiI,aiJ,hwt,ase,W4,alK,asf,hyx,W5,J6,bR,cI,BS];refine⟨by rw[jv];omega,aQ,⟨k+1,zd,t+1,zd,zE,zE,zE,nB.set (.inl rfl) _,L'.set k y,Yg _ cI,Nm tP,?_,?_⟩,zE⟩
    ·rw[zzax,zzbf zE,zzfu zE];exact JS.symm
    rw[show k'+1+(t+1)=k'+1+(t+1)from rfl,zzfv zE];exact hdn
   have bP:¬(t:Int)+1<((l.length-(k'+1):Nat):Int):=zE
   have W5:(k:Int)<(l.length:Int):=zE
   have J6:k<l.length:=zE
   have awO:(k:Int)<=(l.length:Int):=zE
   have Fu:dd l=L'.take k:=by rw[bA,zzas zE]
   have ash:(dd l).length=k:=by rw[Fu,zzap];omega
   have fI:aj L'≠[]:=by
    intro h;have:=congrArg List.length h;rw[jv,tP]at this;simp at this;exact aN this
   have qj:setA (aj L') k (bE (l.length-k) [I 0])=aj (dd l++List.replicate (l.length-k) 0):=by
    have e1:L'=L'.take k++L'.drop k:=zd
    conv=>lhs;rw[e1]
    rw[nA,nA,FC,Fu];have e2:(aj (L'.take k)).length=k:=by rw[Uf,zzap];omega
    have:=o6 (aj (List.replicate (l.length-k) 0)) (aj (L'.take k)) (aj (L'.drop k)) (by rw[Uf,Uf,zzdz,zzcv,tP]);rw[e2]at this;exact this
   simp[g3,g5,eP,BS,Ac,bP,W5,J6,awO,cI,fI,jv,tP,qj];refine⟨zE,?_⟩;have:=hK (B'.set id (aj (dd l++List.replicate (l.length-k) 0))) (List.replicate (l.length-k) 0) (nB.set (.inl rfl) _) (Yg _ cI) (by rw[ash];simp;omega);rw[ash]at this;exact this
  rw[if_neg hab]at hdt;simp[h3,ai,o7,aiG,Nq,hB,ga,gb,dU,asd,fE,Ay,htn,hab,BR];refine⟨aQ,⟨k'+1+1,zE,zE,zE,?_⟩,zE⟩
  ·rw[show k'+1+1=k'+2 by omega,hdt,CD,zzax (l:=l) (i:=k'+1),hb];rfl
 obtain rfl:k=l.length:=zE
 rw[zzbw]at CD;have D2:¬((l.length:Nat):Int)<(l.length:Int):=zE
 have:=hK B [] (bB.refl _ _) (by rw[CD,zzat];exact hB) (by rw[CD];simp);rw[CD]at this;simp[h3,BR,Ac];exact this
def FF(a:Int):Pure Tryz.prog aD 248 [I a] (.bool false):=by
 refine Qp ado (fun _ _ _=>.junk) zd ?_;simp[ahP,ahQ]
def FG(a:Int):Pure Tryz.prog aD 235 [I a] (.bool false):=by
 refine Qp adh (fun _ _ _=>.junk) zd ?_;simp[ahF,ahG]
def P7(a b:Int):Pure Tryz.prog aD 220 [I a,I b] (.bool (decide (a<b))):=by
 have h:=FF a;refine Qp ac8 (fun _ _ _=>.bool false) zd ?_;simp[ahA,ahB];exact h
def qS(l:Pi)(x:Int):Nat:=(l.filter fun y=>decide (y<x)).length
def alL{l:Pi}{x:Int}{i:Nat}(hi:i<=l.length)(h1:∀(k:Nat)(y:Int),k<i->l[k]?=some y->y<x)(h2:∀(k:Nat)(y:Int),i<=k->l[k]?=some y->x<=y):qS l x=i:=by
 unfold qS;have e:l=l.take i++l.drop i:=zd
 rw[e,zzdb]
 have e1:(l.take i).filter (fun y=>decide (y<x))=l.take i:=by
  rw[zzfw];intro y hy;obtain⟨k,hk⟩:=zzcp.1 hy;rw[zzbj]at hk;split at hk
  ·simpa using h1 k y (by assumption) hk
  cases hk
 have e2:(l.drop i).filter (fun y=>decide (y<x))=[]:=by
  rw[zzgz];intro y hy;obtain⟨k,hk⟩:=zzcp.1 hy;rw[zzbl]at hk;have:=h2 (i+k) y zE hk;simp;omega
 rw[e1,e2];simp;omega
def o8(l:Pi)(x:Int)(hl:l.length<=1000000000)(hs:l.Pairwise (·<=·)):Pure Tryz.prog aD 194 [.sl .ro (l.map fun y=>[I y]),I x] (.aS [I (qS l x:Nat),.bool (decide (l[qS l x]?=some x))]):=by
 refine Qp acS (fun _ f a=>if f=220 then(match a with|[.int _ a,.int _ b]=>.bool (decide (a<b))|_=>.junk)else .bool false) zd ?_;simp[TT]
 refine Qk qv (fun f m=>∃i j:Nat,f 7=I i/\f 8=I j/\i<=j/\j<=l.length/\m=⟨[],[],fun _=>.gone,0⟩/\(∀(k:Nat)(y:Int),k<i->l[k]?=some y->y<x)/\∀(k:Nat)(y:Int),j<=k->l[k]?=some y->x<=y)
  (fun f _=>(numOf (f 8)).toNat-(numOf (f 7)).toNat) ?_ ?_
 ·refine⟨0,l.length,zd,zd,zE,zE,rfl,fun k y h=>zE,fun k y h1 h2=>?_⟩;rw[zzar h1]at h2;cases h2
 rintro f m ⟨i,j,h7,h8,eH,hj,rfl,ha,hb⟩;rcases zzaa i j with ai|bn
 ·have VF:(i+j)/2<l.length:=zE
  obtain⟨y,hy⟩:∃y,l[(i+j)/2]?=some y:=⟨_,zzaf VF⟩;obtain⟨s,hse⟩:∃s,s=(i+j)/2:=⟨_,rfl⟩;rw[<- hse]at hy;have ah:=FD hy;have aiK:(i:Int)<(j:Int):=zE
  have w1:IntKind.i64.wrap ((i:Int)+(j:Int))=((i+j:Nat):Int):=by rw[Ql]<;>omega
  have w2:IntKind.u64.wrap ((i+j:Nat):Int)=((i+j:Nat):Int):=by simp[IntKind.wrap,IntKind.bits,IntKind.signed];omega
  have w3:Int.fdiv ((i:Int)+(j:Int)) (2 ^ min 1 IntKind.u64.bits)=(s:Int):=by
   rw[show(2:Int) ^ min 1 IntKind.u64.bits=2 from rfl,zzge _ zE];omega
  have w4:IntKind.i64.wrap (s:Int)=(s:Int):=by rw[Ql]<;>omega
  have w5:=bO s zE;have iC:s<l.length:=zE
  have asi:(s:Int)<(l.length:Int):=zE
  have hp:=P7 y x
  have mono:∀(p q:Nat)(u v:Int),p<=q->l[p]?=some u->l[q]?=some v->u<=v:=by
   intro p q u v hpq hu hv;rcases zzaa p q with h|h
   ·obtain⟨hp1,hu⟩:=zza.1 hu;obtain⟨hq1,hv⟩:=zza.1 hv;have:=(zzdp.1 hs) p q hp1 hq1 h;omega
   obtain rfl:p=q:=zE
   rw[hu]at hv;cases hv;omega
  by_cases hyx:y<x
  ·have alM:decide (y<x)=true:=decide_eq_true hyx;rw[alM]at hp;simp only[Int.natCast_add]at w1 w2;simp[h7,h8,aiK,ai,ah,qv,w1,w2,w3,w4,w5,iC,asi,hyx];refine⟨hp,aQ,⟨s+1,zd,j,rfl,zE,zE,fun k z hk hz=>?_,hb⟩,zE⟩
   ·have:=mono k s z y zE hz hy;omega
  have alM:decide (y<x)=false:=decide_eq_false hyx;rw[alM]at hp;simp only[Int.natCast_add]at w1 w2;simp[h7,h8,aiK,ai,ah,qv,w1,w2,w3,w4,w5,iC,asi,hyx];refine⟨hp,aQ,⟨i,rfl,s,rfl,zE,zE,ha,fun k z hk hz=>?_⟩,zE⟩
  ·have:=mono s k y z hk hy hz;omega
 obtain rfl:i=j:=zE
 have jx:=alL hj ha hb;rw[jx];have O9:¬(i:Int)<(i:Int):=zE
 rcases zzaa i l.length with ai|hge'
 ·obtain⟨y,hy⟩:=aV ai;have ah:=FD hy;have aa:(i:Int)<(l.length:Int):=zE
  have hn:=FG y;have hli:l[i]=y:=(zza.1 hy).2;by_cases hyx:y=x
  ·subst hyx;simp[h7,h8,ai,aa,ah,qv,MY,hli]
  simp[h7,h8,ai,aa,ah,qv,MY,hli,hyx];exact hn
 have aa:¬(i:Int)<(l.length:Int):=zE
 have:l[i]?=none:=zzar hge';simp[h7,h8,aa,qv,MY,this]
def P8(cs:List Cl)(n:Nat):T5:=((List.range n).reverse).map fun(k:Nat)=>[I (k:Int),.agg (Qi (cs.getD k ⟨0,0,0,0,0,0,0,0⟩))]
def nC(cs:List Cl)(n:Nat):P8 cs (n+1)=[I (n:Int),.agg (Qi (cs.getD n ⟨0,0,0,0,0,0,0,0⟩))]::P8 cs n:=by
 simp[P8,zzfe]
def mj(cs:List Cl):Pure Tryz.prog aD 193 [.sl .ro (cs.map Qi)] (.fn 234 [] [.ep [.sl .ro (cs.map Qi)] 0]):=by
 refine Qp acR (fun _ _ _=>.junk) zd ?_;simp[ahk,ahl]
def mq(cs:List Cl)(hl:cs.length<=1000000000):Iter Tryz.prog aD 234 [] [.ep [.sl .ro (cs.map Qi)] 0] (P8 cs cs.length):=by
 intro Y l m K hF;refine Xn adg (fun _ _ _=>.junk) zd ?_;have hw0:IntKind.i64.wrap ((cs.length:Int)-1)=(cs.length:Int)-1:=by rw[Ql]<;>omega
 simp[ahE,hw0];refine Qk IZ (fun f mm=>∃i:Nat,f 3=I ((i:Int)-1)/\i<=cs.length/\wI (Y l) K (P8 cs i) mm) (fun f _=>(numOf (f 3)+1).toNat) ?_ ?_
 ·exact⟨cs.length,zd,zE,hF⟩
 rintro f mm ⟨i,h3,hi,hF⟩;cases i with
 |zero=>
  have hK:K mm:=hF mm (fD.refl _);simp[h3,IZ,T6];exact hK
 |succ i=>
  obtain⟨c,hc⟩:∃c,cs[i]?=some c:=⟨_,zzaf zE⟩;have ah:Qj (cs.map Qi) i=Qi c:=Qu (by simp[hc]);have JC:cs.getD i ⟨0,0,0,0,0,0,0,0⟩=c:=by simp[zzav,hc]
  rw[nC,JC]at hF;have h3':f 3=I i:=by rw[h3];congr 1;omega
  have aa:i<cs.length:=zE
  have wR:(i:Int)<(cs.length:Int):=zE
  have hw:IntKind.i64.wrap ((i:Int)-1)=(i:Int)-1:=by rw[Ql]<;>omega
  have Ay:(0:Int)<=(i:Int):=zE
  simp only[Qi]at hF ah;simp[h3',IZ,ah,aa,wR,hw,Ay];refine hF _ (fD.refl _) _ (fun m2 AW=>?_) (fun m2 hK=>?_)
  ·simp[hw];refine⟨aQ,⟨i,rfl,zE,AW⟩⟩
  simp[T6];exact hK _ (fD.refl _)
open Go Go.Abs
def Xq(L:Pa):P2:=aj (L.map fun(k:Nat)=>(k:Int))
def W6(L:Pa):(Xq L).length=L.length:=by simp[Xq,Uf]
def J7{L:Pa}{i v:Nat}(h:L[i]?=some v):(Xq L).drop i=I (v:Int)::Xq (L.drop (i+1)):=by
 unfold Xq;rw[ny (x:=(v:Int)) (by simp[h]),zzgd]
def W7(L:Pa)(i v:Nat):(Xq L).set i (I (v:Int))=Xq (L.set i v):=by
 unfold Xq;rw[J3,zzfi]
def WF(L:Pa)(d:Nat->Bool)(n:Nat):Prop:=L.length=n+1/\∀i v,L[i]?=some v->i<=v/\v<=n/\(v=i<->d i=false)/\∀j,i<=j->j<v->d j=true
def WF.jump{L:Pa}{d:Nat->Bool}{n i v u:Nat}(h:WF L d n)(h1:L[i]?=some v)(h2:L[v]?=some u)(aN:v≠i):WF (L.set i u) d n:=by
 obtain⟨hl,hw⟩:=h;refine⟨Nm hl,fun k x hk=>?_⟩;have iZ:i<L.length:=(zza.1 h1).1;obtain⟨a1,a2,a3,a4⟩:=hw i v h1;obtain⟨b1,b2,b3,b4⟩:=hw v u h2;by_cases eM:k=i
 ·subst eM;rw[zzbf iZ]at hk;cases hk;refine⟨zE,b2,?_,fun j dX om=>?_⟩
  ·have hd:d k≠false:=fun h=>aN (a3.2 h);constructor
   ·intro h;omega
   intro h;exact absurd h hd
  rcases zzaa j v with h|h
  ·exact a4 j dX h
  exact b4 j h om
 rw[zzbn (fun h=>eM h.symm)]at hk;exact hw k x hk
def NQ(Y:YT)(i n c Ik:Nat)(L:Pa)(d:Nat->Bool)(hw:WF L d n)(hi:i<=n)(hn:n<=1000000000)(B:T5)(Lm:Pa)(st:Nat->LS)(ln:Nat)(hc:c<B.length)(awP:Ik<B.length)(aN:c≠Ik)
  (hBc:Qj B c=[.bs Ik 0 (n+1) 1])(vD:Qj B Ik=Xq L)(K:So)
  (hK:∀(B':T5)(L':Pa)(r:Nat),bB (·=Ik) B B'->Qj B' Ik=Xq L'->WF L' d n->i<=r->r<=n->d r=false->(∀j,i<=j->j<r->d j=true)->K (I r) ⟨B',Lm,st,ln⟩):
  aB Tryz.prog aD Y 192 [I i,.ptr c 0] ⟨B,Lm,st,ln⟩ K:=by
 refine Xn acQ (fun _ _ _=>.junk) zd ?_;simp[TS];refine Qk IY (fun f m=>∃(k:Nat)(B':T5)(L':Pa),f 0=I k/\i<=k/\k<=n/\m=⟨B',Lm,st,ln⟩/\bB (·=Ik) B B'/\Qj B' Ik=Xq L'/\WF L' d n/\∀j,i<=j->j<k->d j=true) (fun f _=>n-(numOf (f 0)).toNat) ?_ ?_
 ·exact⟨i,B,L,zd,zE,hi,rfl,bB.refl _ _,vD,hw,fun j h1 h2=>zE⟩
 rintro f m ⟨k,B',L',h0,qJ,D2,rfl,nB,FH,hw',hd⟩;have W8:Ik<B'.length:=zzay awP nB.1;have alN:Qj B' c=[.bs Ik 0 (n+1) 1]:=by rw[nB.2 c hc aN];exact hBc
 obtain⟨eY,fE⟩:=hw';obtain⟨v,hv⟩:∃v,L'[k]?=some v:=⟨_,zzaf zE⟩;obtain⟨v1,v2,v3,v4⟩:=fE k v hv;obtain⟨u,hu⟩:∃u,L'[v]?=some u:=⟨_,zzaf zE⟩;obtain⟨u1,u2,u3,u4⟩:=fE v u hu;have gv:=J7 hv;have gu:=J7 hu;have sj:k<n+1:=zE
 have zH:(k:Int)<(n:Int)+1:=zE
 have hvl:v<n+1:=zE
 have awQ:(v:Int)<(n:Int)+1:=zE
 have aH:=W6 L';by_cases hvk:v=k
 ·subst hvk;simp[h0,alN,FH,gv,sj,zH,IY,ahj];exact hK B' L' v nB FH ⟨eY,fE⟩ qJ D2 (v3.1 rfl) hd
 have awR:¬(v:Int)=(k:Int):=zE
 have bR:=W7 L' k u;have hW:=WF.jump ⟨eY,fE⟩ hv hu hvk;have JB:(L'.set k u)[k]?=some u:=zzbf zE;have gu2:=J7 JB;have ayz:Ik<(B'.set Ik (Xq (L'.set k u))).length:=by simpa using W8
 have Sd:Qj (B'.set Ik (Xq (L'.set k u))) Ik=Xq (L'.set k u):=Yg _ W8;have oF:Qj (B'.set Ik (Xq (L'.set k u))) c=[.bs Ik 0 (n+1) 1]:=by rw[Vz _ (fun h=>aN h.symm)];exact alN
 simp[h0,alN,FH,gv,gu,sj,zH,hvl,awQ,hvk,awR,IY,bR,Sd,oF,gu2,aH,eY,W8];refine⟨zE,aQ,⟨u,rfl,zE,zE,nB.set (.inl rfl) _,_,rfl,hW,fun j h1 h2=>?_⟩,zE⟩
 ·rcases zzaa j k with h|h
  ·exact hd j h1 h
  rcases zzaa j v with h3|h3
  ·exact v4 j h h3
  exact u4 j h3 h2
open Go Go.Abs
def tQ(item region:Int)(c:Cl):Bool:=decide (c.ki=1\/c.ki=2)&&(P9 c item region&&Xu c)
def Jl(cs:List Cl)(item region:Int):List Cl:=cs.filter (tQ item region)
def eN:List Cl->Pi
 |[]=>[]
 |c::r=>c.fr::c.to::eN r
def o9:∀a b:List Cl,eN (a++b)=eN a++eN b
 |[],_=>rfl
 |c::r,b=>by simp[eN,o9 r b]
def pe:∀a:List Cl,(eN a).length=2*a.length
 |[]=>rfl
 |c::r=>by simp[eN,pe r];omega
def pn{c:Cl}:∀{a:List Cl},c∈a->c.fr∈eN a/\c.to∈eN a
 |[],h=>by cases h
 |d::r,h=>by
  rcases zzaq.1 h with rfl|h
  ·simp[eN]
  have:=pn h;simp[eN,this.1,this.2]
def dJ(C:List Cl):Pi:=dd ((eN C).mergeSort fun x y=>decide (x<=y))
def NR(C:List Cl):(dJ C).Pairwise (·<·):=by
 refine WY ?_;have:=zzgu (le:=fun x y:Int=>decide (x<=y)) (fun a b c h1 h2=>by simp at*;omega) (fun a b=>by simp;omega) (eN C);exact this.imp zd
def uC(C:List Cl)(x:Int):x∈dJ C<->x∈eN C:=by
 unfold dJ;rw[J5,(zzfx _ _).mem_iff]
def NS(C:List Cl):(dJ C).length<=2*C.length:=by
 have h1:=J4 ((eN C).mergeSort fun x y=>decide (x<=y));rw[zzev,pe]at h1;exact h1
abbrev GS:=List (Option Bool)
def stepG(s:GS)(a b:Nat)(v:Bool):GS:=s.mapIdx fun j o=>if a<=j/\j<b/\o=none then some v else o
def QA(Bd:Pi)(s:GS)(c:Cl):GS:=stepG s (qS Bd c.fr) (qS Bd c.to) (decide (c.ki=1))
def wU(C:List Cl):GS:=C.reverse.foldl (QA (dJ C)) (List.replicate (dJ C).length none)
def CZ(Bd:Pi)(s:GS)(i:Nat):List Sp:=if s[i]?=some (some true)then[(Bd.getD i 0,Bd.getD (i+1) 0)]else[]
def nD(Bd:Pi)(s:GS)(n:Nat):List Sp:=(List.range n).flatMap (CZ Bd s)
def Qcq(cs:List Cl)(item region:Int):List Sp:=Xm (nD (dJ (Jl cs item region)) (wU (Jl cs item region)) (dJ (Jl cs item region)).length)
def qT(s:GS)(a b:Nat)(v:Bool):(stepG s a b v).length=s.length:=by simp[stepG]
def Uv(s:GS)(a b:Nat)(v:Bool)(j:Nat):(stepG s a b v)[j]?=(s[j]?).map fun o=>if a<=j/\j<b/\o=none then some v else o:=by simp[stepG]
def AX(s:GS)(a b:Nat)(v:Bool)(h:b<=a):stepG s a b v=s:=by
 apply zzcz;intro j;rw[Uv];cases s[j]? with
 |none=>rfl
 |some o=>simp;intro h1 h2;omega
def J8(s:GS)(a k:Nat)(v:Bool)(hak:a<=k)(hk:s[k]?=some none):stepG s a (k+1) v=(stepG s a k v).set k (some v):=by
 have ai:k<s.length:=(zza.1 hk).1;apply zzcz;intro j;rw[Uv];by_cases tJ:j=k
 ·subst tJ;rw[zzbf (by rw[qT];exact ai),hk];simp[hak]
 rw[zzbn (fun h=>tJ h.symm),Uv];cases s[j]? with
 |none=>rfl
 |some o=>
  simp only[zzcs];congr 1;by_cases h:a<=j/\j<k/\o=none
  ·rw[if_pos h,if_pos ⟨h.1,zE,h.2.2⟩]
  rw[if_neg h,if_neg (fun h'=>h ⟨h'.1,zE,h'.2.2⟩)]
def wV(s:GS)(a k r:Nat)(v:Bool)(hkr:k<=r)(h:∀j,k<=j->j<r->s[j]?≠some none):stepG s a r v=stepG s a k v:=by
 apply zzcz;intro j;rw[Uv,Uv];cases hj:s[j]? with
 |none=>rfl
 |some o=>
  simp only[zzcs];congr 1;by_cases h1:a<=j/\j<k/\o=none
  ·rw[if_pos h1,if_pos ⟨h1.1,zE,h1.2.2⟩]
  rw[if_neg h1];by_cases h2:a<=j/\j<r/\o=none
  ·exfalso
   have hkj:k<=j:=by
    rcases zzaa j k with h3|h3
    ·exact absurd ⟨h2.1,h3,h2.2.2⟩ h1
    exact h3
   exact h j hkj h2.2.1 (by rw[hj,h2.2.2])
  rw[if_neg h2]
def gB(s:GS):List Bool:=s.map fun o=>o==some true
def nE(s:GS)(j:Nat):Bool:=match s[j]? with
 |some (some _)=>true
 |_=>false
def Zh(l:List Bool):P2:=l.map AV.bool
def alO(l:List Bool):(Zh l).length=l.length:=by simp[Zh]
def alP{l:List Bool}{i:Nat}{x:Bool}(h:l[i]?=some x):(Zh l).drop i=.bool x::Zh (l.drop (i+1)):=by
 unfold Zh;rw[<- zzgd];have ai:=(zza.1 h).1;rw[zzah ai,(zza.1 h).2];rfl
def alQ(l:List Bool)(i:Nat)(x:Bool):(Zh l).set i (.bool x)=Zh (l.set i x):=by simp[Zh,zzfi]
def W9(n:Nat):bE n [.bool false]=Zh (List.replicate n false):=by
 induction n with
 |zero=>rfl
 |succ n ih=>rw[bE,ih];rfl
def alR(s:GS)(k:Nat)(v:Bool):gB (s.set k (some v))=(gB s).set k v:=by
 unfold gB;rw[zzfi];cases v<;>rfl
def aef(n:Nat):gB (List.replicate n none)=List.replicate n false:=by
 unfold gB;rw[List.map_replicate];rfl
def WF.init(n:Nat)(d:Nat->Bool)(hd:∀j,d j=false):WF (List.range (n+1)) d n:=by
 refine⟨zd,fun i v h=>?_⟩;obtain⟨h1,h2⟩:=zza.1 h;simp at h1 h2;subst h2;exact⟨zE,zE,⟨fun _=>hd _,fun _=>rfl⟩,fun j h3 h4=>zE⟩
def WF.dec{L:Pa}{d d':Nat->Bool}{n k:Nat}(h:WF L d n)(hk:k<n)(hd:d' k=true)(hd2:∀j,j≠k->d' j=d j):WF (L.set k (k+1)) d' n:=by
 obtain⟨hl,hw⟩:=h;refine⟨Nm hl,fun i v hv=>?_⟩;by_cases qJ:i=k
 ·subst qJ;rw[zzbf zE]at hv;cases hv;refine⟨zE,zE,?_,fun j h1 h2=>?_⟩
  ·constructor
   ·intro h;omega
   intro h;rw[hd]at h;cases h
  obtain rfl:j=i:=zE
  exact hd
 rw[zzbn (fun h=>qJ h.symm)]at hv;obtain⟨a1,a2,a3,a4⟩:=hw i v hv;refine⟨a1,a2,by rw[hd2 i qJ];exact a3,fun j h1 h2=>?_⟩;by_cases tJ:j=k
 ·subst tJ;exact hd
 rw[hd2 j tJ];exact a4 j h1 h2
def XA(s:GS)(k:Nat)(v:Bool)(hk:k<s.length):nE (s.set k (some v)) k=true/\∀j,j≠k->nE (s.set k (some v)) j=nE s j:=by
 constructor
 ·unfold nE;rw[zzbf hk]
 intro j hj;unfold nE;rw[zzbn (fun h=>hj h.symm)]
def alS(l:Pi)(x:Int):qS l x<=l.length:=zzcb _ _
def J9{l:Pi}{x:Int}(h:x∈l):qS l x<l.length:=by
 unfold qS;have h1:=zzcb (fun y=>decide (y<x)) l;rcases zzaa (l.filter fun y=>decide (y<x)).length l.length with h2|h2
 ·exact h2
 have h3:(l.filter fun y=>decide (y<x)).length=l.length:=zE
 have h4:=(List.length_filter_eq_length_iff.1 h3) x h;simp at h4
open Go Go.Abs
def C0(Y:YT)(m:AM)(K:So)(hK:K (.sl .nil []) m):aB Tryz.prog aD Y 111 [.sl .nil []] m K:=by
 refine Xn BQ (fun _ _ _=>.junk) zd ?_;simp[va,Ac];exact hK
def Wh(Bd:Pi)(R:List Sp):UV:=fun d f l=>
 if f=999999 then(if d=59 then .aJ 0 []else .junk)else
 if f=191 then(match l with
  |[.agg [.int _ a,.int _ b,.int _ c,.int _ d,.int _ e,.int _ f,.int _ g,.int _ h],.int _ i,.int _ r]=>.bool (P9 ⟨a,b,c,d,e,f,g,h⟩ i r)
  |_=>.junk)else
 if f=48 then(match l with
  |[.agg [.int _ a,.int _ b,.int _ c,.int _ d,.int _ e,.int _ f,.int _ g,.int _ h]]=>.bool (Xu ⟨a,b,c,d,e,f,g,h⟩)
  |_=>.junk)else
 if f=193 then(match l with
  |[.sl _ rows]=>.fn 234 [] [.ep [.sl .ro rows] 0]
  |_=>.junk)else
 if f=194 then(match l with
  |[_,.int _ x]=>.aS [I (qS Bd x:Nat),.bool (decide (Bd[qS Bd x]?=some x))]
  |_=>.junk)else
 if f=131 then .sl .ro (R.map Qf)else .gd false .junk
def aeg(B:T5)(C:List Cl):Prop:=(C=[]/\Qj B 0=[.sl .nil []])\/(C≠[]/\∃cG,Qj B 0=[.bs cG 0 (eN C).length 1]/\cG≠0/\cG<B.length/\Qj B cG=aj (eN C))
def aeg.app{B:T5}{C:List Cl}(h:aeg B C)(h0:0<B.length)(x:T5):aeg (B++x) C:=by
 obtain⟨h1,h2⟩|⟨h1,cG,h2,h3,h4,h5⟩:=h
 ·exact .inl ⟨h1,by rw[Qn h0];exact h2⟩
 exact .inr ⟨h1,cG,by rw[Qn h0];exact h2,h3,by simp;omega,by rw[Qn h4];exact h5⟩
def C1:SC:=(⟨_,by cbv⟩:JT [1,1,1,1,1,1,1,1,1,1,1] rX).1
def XB:SC->SC:=(⟨_,fun _=>by cbv⟩:Fe [1,1,1] (oP [1,1,1,1,1,1,1,1] rX)).1
def aiL:SC->SC:=(⟨_,fun _=>by cbv⟩:Fe [1,1,1,1,1,1,1,1] rX).1
theorem XC:rX=aiL (XB C1):=rfl
def XD(Bd:Pi)(s:GS)(i:Nat):(CZ Bd s i).length<=1:=by unfold CZ;split<;>simp
def qU(Bd:Pi)(s:GS)(n:Nat):nD Bd s (n+1)=nD Bd s n++CZ Bd s n:=by simp[nD,zzfe]
def wW(Bd:Pi)(s:GS):∀n,(nD Bd s n).length<=n
 |0=>by simp[nD]
 |n+1=>by
  have h1:=wW Bd s n;have h2:=XD Bd s n;rw[qU,zzak];omega
def wX(Bd z:Pi)(s:GS)(R:List Sp)(n:Nat)(hn:s.length=n)(hn9:n<=10000000)(hR:R=Xm (nD Bd s n))(E:QQ)(B:T5)(Lm:Pa)(st:Nat->LS)(ln:Nat)(g g1:Nat)(Bd0:Pi)
  (h8:Abs.look E 8=.ptr 0 0)(pq:Abs.look E 11=.ptr g1 0)(hg1:Qj B g1=[.bs g 0 n 1])(hg:Qj B g=Zh (gB s))
  (hb:∀i,s[i]?=some (some true)->∃cG,Qj B 0=[.bs cG 0 n 1]/\Qj B cG=aj (Bd++z)/\i+1<Bd.length/\Bd.length=n):
  vc Tryz.prog aD (Wh Bd0 R) Y0 C1 ⟨Vw 145 E,⟨B,Lm,st,ln⟩⟩ (post Tryz.prog aD (Wh Bd0 R) Ej (.sl .ro (R.map Qf))):=by
 have lE:(gB s).length=n:=by simp[gB,hn]
 simp[C1,pq,hg1]
 refine Qk qt (fun f m=>∃(i:Nat)(o:List Sp)(rt:Rt)(Lm':Pa),i<=n/\f 123=I i/\f 22=.sl rt (o.map Qf)/\m=⟨B,Lm',st,ln⟩/\o=nD Bd s i/\((o=[]/\rt=.nil/\Lm'=Lm)\/(o≠[]/\rt=.own Lm.length 2/\Lm'=Lm++[o.length])))
  (fun f _=>n-(numOf (f 123)).toNat) ?_ ?_
 ·exact⟨0,[],.nil,Lm,zE,zd,zd,rfl,by simp[nD],.inl ⟨rfl,rfl,rfl⟩⟩
 rintro f m ⟨i,o,rt,Lm',hi,h123,h22,rfl,ho,aX⟩;have FI:o.length<=i:=by rw[ho];exact wW Bd s i
 rcases zzaa i n with ai|bn
 ·obtain⟨v,hv⟩:∃v,s[i]?=some v:=⟨_,zzaf zE⟩;have hgv:(gB s)[i]?=some (v==some true):=by simp[gB,hv]
  have gg:=alP hgv;have aa:(i:Int)<(n:Int):=zE
  have hw:=bO i zE;have dO:=qU Bd s i;rw[<- ho]at dO;by_cases hvt:v=some true
  ·subst hvt;obtain⟨cG,b1,b2,b3,b4⟩:=hb i hv;obtain⟨x,hx⟩:∃x,Bd[i]?=some x:=⟨_,zzaf zE⟩;obtain⟨y,hy⟩:∃y,Bd[i+1]?=some y:=⟨_,zzaf b3⟩;have gx:=ny (l:=Bd++z) (i:=i) (x:=x) (by rw[zzaj zE];exact hx);have gy:=ny (l:=Bd++z) (i:=i+1) (x:=y) (by rw[zzaj zE];exact hy);have hou:CZ Bd s i=[(x,y)]:=by simp[CZ,hv,hx,hy]
   rw[hou]at dO;simp at gg;have hi1:i+1<n:=zE
   have asj:(i:Int)+1<(n:Int):=zE
   have Ay:(0:Int)<=(i:Int)+1:=zE
   have htn:((i:Int)+1).toNat=i+1:=zE
   have oF:∀row∈o.map Qf,row.length=2:=by
    intro row h;rw[zzb]at h;obtain⟨a,_,rfl⟩:=h;rfl
   obtain⟨rfl,rfl,rfl⟩|⟨aN,rfl,rfl⟩:=aX
   ·simp[h123,h22,ai,aa,hg,gg,qt,hw,h8,b1,b2,gx,gy,hi1,asj,Ay,htn,Wh];refine⟨aQ,⟨i+1,zE,zd,[(x,y)],_,⟨rfl,rfl⟩,by rw[dO];rfl,zd⟩,zE⟩
   simp[h123,h22,ai,aa,hg,gg,qt,hw,h8,b1,b2,gx,gy,hi1,asj,Ay,htn,Wh];refine⟨⟨?_,zE⟩,aQ,⟨i+1,zE,zd,o++[(x,y)],_,⟨rfl,by simp[Qf]⟩,dO.symm,zd⟩,zE⟩
   ·rintro row (⟨a,b,_,rfl⟩|rfl)<;>rfl
  have hou:CZ Bd s i=[]:=by
   unfold CZ;rw[hv,if_neg];intro h;cases h;exact hvt rfl
  rw[hou,zzat]at dO;have hvb:(v==some true)=false:=by simpa using hvt
  rw[hvb]at gg;simp[h123,h22,ai,aa,hg,gg,qt,hw];refine⟨aQ,⟨i+1,zE,zd,o,rt,⟨rfl,rfl⟩,dO.symm,aX⟩,zE⟩
 obtain rfl:i=n:=zE
 rw[<- ho]at hR;have alT:=Un o zE;rw[<- hR]at alT;obtain⟨rfl,rfl,rfl⟩|⟨aN,rfl,rfl⟩:=aX
 ·simp[h123,h22,qt,Ej,Wh];exact Xw alT ⟨Wk.sl _ _,trivial⟩
 simp[h123,h22,qt,Ej,Wh];exact alT
end
