import Derived.Test.YtfliagpjbbkijaaGreatDoorVAMK
set_option linter.all false
set_option maxRecDepth 100000
set_option maxHeartbeats 64000000
namespace Go.Proofs.YtfliagpjbbkijaaGreatDoor
noncomputable section
open Go Go.Abs
def Ub(l:P2):(aj l).length=l.length:=by simp[aj]
def nG{l:P2}{i:Nat}{x:Int}(h:l[i]?=some x):(aj l).drop i=I x::aj (l.drop (i+1)):=by
 unfold aj;rw[<- zzfq];have aa:=(zza.1 h).1;rw[zzaf aa,(zza.1 h).2];rfl
def K5(l:P2)(i:Nat)(x:Int):(aj l).set i (I x)=aj (l.set i x):=by simp[aj,zzfl]
def nH(a b:P2):aj (a++b)=aj a++aj b:=by simp[aj]
def XJ(l:P2):Zl (aj l)=true:=by
 simp[Zl,aj]
def xk:∀(l:P2)(r:PQ),aW 1 l.length (aj l++r)=l.map fun x=>[I x]
 |[],_=>rfl
 |s::l,r=>by simpa[aj]using xk l r
def Gi(n:Nat):bG n [I 0]=aj (List.replicate n 0):=by
 induction n with
 |zero=>rfl
 |succ n ih=>rw[bG,ih];rfl
def Gj{l:P2}{i:Nat}{x:Int}(h:l[i]?=some x):Qg (l.map fun x=>[I x]) i=[I x]:=Qv (by simp[h])
def dd:P2->P2
 |[]=>[]
 |[x]=>[x]
 |x::y::r=>if x=y then dd (y::r)else x::dd (y::r)
theorem Gk(x y:Int)(r:P2):dd (x::y::r)=if x=y then dd (y::r)else x::dd (y::r):=rfl
def Dw:∀(p:P2)(a b:Int),dd (p++[a]++[b])=dd (p++[a])++(if b=a then[]else[b])
 |[],a,b=>by
  by_cases h:b=a
  ·subst h;simp[dd]
  have:¬a=b:=fun e=>h e.symm;simp[dd,h,this]
 |[x],a,b=>by
  have ih:=Dw [] a b;simp only[zzaj,zzae]at ih |-
  rw[Gk x a [b],Gk x a [],ih];by_cases hx:x=a
  ·rw[if_pos hx,if_pos hx]
  rw[if_neg hx,if_neg hx];rfl
 |x::y::p,a,b=>by
  have ih:=Dw (y::p) a b;simp only[zzae]at ih |-
  rw[Gk x y (p++[a]++[b]),Gk x y (p++[a]),ih];by_cases hx:x=y
  ·rw[if_pos hx,if_pos hx]
  rw[if_neg hx,if_neg hx];rfl
def Oa{l:P2}{j:Nat}{a b:Int}(ha:l[j]?=some a)(hb:l[j+1]?=some b):dd (l.take (j+2))=dd (l.take (j+1))++(if b=a then[]else[b]):=by
 have e1:l.take (j+1)=l.take j++[a]:=by rw[zzax,ha];rfl
 have e2:l.take (j+2)=l.take j++[a]++[b]:=by rw[show j+2=(j+1)+1 from rfl,zzax,hb,e1];rfl
 rw[e2,e1,Dw]
def K6:∀l:P2,(dd l).length<=l.length
 |[]=>by simp[dd]
 |[x]=>by simp[dd]
 |x::y::r=>by
  have:=K6 (y::r);rw[dd];split<;>simp at*<;>omega
def K7:∀(l:P2)(x:Int),x∈dd l<->x∈l
 |[],x=>by simp[dd]
 |[y],x=>by simp[dd]
 |a::b::r,x=>by
  have ih:=K7 (b::r) x;rw[dd];split
  ·rename_i h;subst h;rw[ih];simp
  rw[zzao,ih,zzao (a:=x) (b:=a)]
def XK:∀{l:P2},l.Pairwise (·<=·)->(dd l).Pairwise (·<·)
 |[],_=>by simp[dd]
 |[x],_=>by simp[dd]
 |x::y::r,h=>by
  obtain⟨h1,h2⟩:=zzbz.1 h;have ih:=XK h2;rw[dd];split
  ·exact ih
  rename_i aJ;refine zzbz.2 ⟨fun z hz=>?_,ih⟩;have hz':=(K7 _ _).1 hz;have hxy:=h1 y zd;rcases zzao.1 hz' with rfl|hz'
  ·omega
  have:=(zzbz.1 h2).1 z hz';omega
def sS(Y:YT)(l:P2)(hl:l.length<=1000000000)(B:X2)(L:P1)(st:Nat->LS)(n id:Nat)(aM:id<B.length)(aJ:l≠[])(hB:Qg B id=aj l)(K:UV)
  (hK:∀(B':X2)(z:P2),bC (·=id) B B'->Qg B' id=aj (dd l++z)->(dd l).length+z.length=l.length->K (.bs id 0 (dd l).length 1) ⟨B',L,st,n⟩):
  aA Tryz.prog aD Y 114 [.bs id 0 l.length 1] ⟨B,L,st,n⟩ K:=by
 have aH:=Ub l;have iW:0<l.length:=zzdf.2 aJ;refine Xh Cr (fun _ _ _=>.junk) zd ?_;by_cases h2:l.length<2
 ·have Fm:(l.length:Int)<2:=zE
  have hd:dd l=l:=by
   match l,aJ,h2 with
   |[x],_,_=>rfl
  have:=hK B [] (bC.refl _ _) (by rw[hd,zzas];exact hB) (by rw[hd];simp);rw[hd]at this;simp[vm,Az,Fm,h2];exact this
 have Fm:¬(l.length:Int)<2:=zE
 simp[vm,Fm,h2];refine Qj Cs (fun f m=>∃k:Nat,f 3=I k/\1<=k/\k<=l.length/\m=⟨B,L,st,n⟩/\dd (l.take k)=l.take k) (fun f _=>l.length-(numOf (f 3)).toNat) ?_ ?_
 ·refine⟨1,zd,zE,zE,rfl,?_⟩
  match l,aJ with
  |x::r,_=>rfl
 rintro f m ⟨k,h3,dF,hk,rfl,FH⟩;rcases zzab k l.length with aa|bu
 ·obtain⟨k',rfl⟩:∃k',k=k'+1:=⟨k-1,zE⟩;obtain⟨a,ha⟩:∃a,l[k']?=some a:=⟨_,zzad zE⟩;obtain⟨b,hb⟩:∃b,l[k'+1]?=some b:=⟨_,zzad aa⟩;have ga:=nG ha;have gb:=nG hb;have aez:((k':Int)+1)<(l.length:Int):=zE
  have ajb:(k':Int)<(l.length:Int):=zE
  have Kx:k'<l.length:=zE
  have iL:IntKind.i64.wrap ((k':Int)+1-1)=(k':Int):=by rw[Qi]<;>omega
  have ar0:IntKind.i64.wrap (k':Int)=(k':Int):=by rw[Qi]<;>omega
  have fE:IntKind.i64.wrap ((k':Int)+1+1)=((k'+1+1:Nat):Int):=by rw[Qi]<;>omega
  have A2:(0:Int)<=(k':Int)+1:=zE
  have htn:((k':Int)+1).toNat=k'+1:=zE
  have hdt:=Oa ha hb;by_cases C9:b=a
  ·rw[if_pos C9,zzas]at hdt;simp[h3,aa,aez,ajb,Kx,hB,ga,gb,iL,ar0,fE,A2,htn,C9,Cs];have cR:(k':Int)+1<=(l.length:Int):=zE
   refine⟨cR,?_⟩
   refine Qj Ct (fun f m=>∃(k t:Nat)(B':X2)(L':P2),f 3=I k/\f 5=I ((t+1:Nat):Int)/\k'+1+(t+1)<=l.length/\1<=k/\k<=k'+1+t/\m=⟨B',L,st,n⟩/\bC (·=id) B B'/\Qg B' id=aj L'/\L'.length=l.length/\
    L'.take k=dd (l.take (k'+1+(t+1)))/\L'.drop (k'+1+t)=l.drop (k'+1+t)) (fun f _=>l.length-(k'+1)-(numOf (f 5)).toNat) ?_ ?_
   ·refine⟨k'+1,0,B,l,by simp[h3],zd,zE,zE,zE,rfl,bC.refl _ _,hB,rfl,?_,rfl⟩;rw[show k'+1+(0+1)=k'+2 by omega,hdt,FH]
   rintro g m ⟨k,t,B',L',g3,g5,ht,XL,hkt,rfl,nB,zu,tV,bB,hdp⟩;have cQ:id<B'.length:=zzar aM nB.1;have jr:=Ub L';rcases zzab (k'+1+(t+1)) l.length with uy|hjg
   ·obtain⟨x,hx⟩:∃x,l[k'+1+t]?=some x:=⟨_,zzad zE⟩;obtain⟨y,hy⟩:∃y,l[k'+1+t+1]?=some y:=⟨_,zzad zE⟩
    have kH:L'[k'+1+t]?=some x:=by
     have:=congrArg (fun q=>q[0]?) hdp;simpa[hx]using this
    have hy':L'[k'+1+t+1]?=some y:=by
     have:=congrArg (fun q=>q[1]?) hdp;simpa[hy]using this
    have gx:=nG kH;have gy:(aj L').drop (k'+1+(t+1))=I y::aj (L'.drop (k'+1+t+1+1)):=nG hy';have KL:=Oa hx hy;rw[show k'+1+t+2=k'+1+(t+1+1) by omega,show k'+1+t+1=k'+1+(t+1) by omega,<- bB]at KL
    have hdn:L'.drop (k'+1+(t+1))=l.drop (k'+1+(t+1)):=by
     have:=congrArg (List.drop 1) hdp;simpa[zzdi,zzan,zzer,Nat.add_left_comm]using this
    have eR:(t+1:Nat)<l.length-(k'+1):=zE
    have ajc:((t:Int)+1)<((l.length-(k'+1):Nat):Int):=zE
    have ajd:(t:Int)<((l.length-(k'+1):Nat):Int):=zE
    have aje:t<l.length-(k'+1):=zE
    have hwt:IntKind.i64.wrap (t:Int)=(t:Int):=by rw[Qi]<;>omega
    have ar1:IntKind.i64.wrap ((t:Int)+1+1)=((t+1+1:Nat):Int):=by rw[Qi]<;>omega
    have W8:=bR k zE;have alZ:((t:Int)+1).toNat=t+1:=zE
    have ar2:(0:Int)<=(t:Int)+1:=zE
    have XM:(k:Int)<(l.length:Int):=zE
    have K8:k<l.length:=zE
    have bW:=K5 L' k y;by_cases hyx:y=x
    ·rw[if_pos hyx,zzas]at KL;simp[g3,g5,zu,gx,gy,eR,ajc,ajd,aje,hwt,ar1,alZ,ar2,hyx,Ct];refine⟨aR,⟨k,rfl,t+1,zd,zE,XL,zE,nB,L',rfl,tV,KL.symm,hdn⟩,zE⟩
    rw[if_neg hyx]at KL;simp[g3,g5,zu,gx,gy,eR,ajc,ajd,aje,hwt,ar1,W8,alZ,ar2,hyx,XM,K8,bW,cQ,Ct];refine⟨by rw[jr];omega,aR,⟨k+1,zd,t+1,zd,zE,zE,zE,nB.set (.inl rfl) _,L'.set k y,Zg _ cQ,Pi tV,?_,?_⟩,zE⟩
    ·rw[zzax,zzbg zE,zzg zE];exact KL.symm
    rw[show k'+1+(t+1)=k'+1+(t+1)from rfl,zzga zE];exact hdn
   have bU:¬(t:Int)+1<((l.length-(k'+1):Nat):Int):=zE
   have XM:(k:Int)<(l.length:Int):=zE
   have K8:k<l.length:=zE
   have axb:(k:Int)<=(l.length:Int):=zE
   have ajf:dd l=L'.take k:=by rw[bB,zzal zE]
   have ar3:(dd l).length=k:=by rw[ajf,zzaq];omega
   have fU:aj L'≠[]:=by
    intro h;have:=congrArg List.length h;rw[jr,tV]at this;simp at this;exact aJ this
   have oU:setA (aj L') k (bG (l.length-k) [I 0])=aj (dd l++List.replicate (l.length-k) 0):=by
    have e1:L'=L'.take k++L'.drop k:=zd
    conv=>lhs;rw[e1]
    rw[nH,nH,Gi,ajf];have e2:(aj (L'.take k)).length=k:=by rw[Ub,zzaq];omega
    have:=pN (aj (List.replicate (l.length-k) 0)) (aj (L'.take k)) (aj (L'.drop k)) (by rw[Ub,Ub,zze,zzcb,tV]);rw[e2]at this;exact this
   simp[g3,g5,zu,Ct,Az,bU,XM,K8,axb,cQ,fU,jr,tV,oU];refine⟨zE,?_⟩;have:=hK (B'.set id (aj (dd l++List.replicate (l.length-k) 0))) (List.replicate (l.length-k) 0) (nB.set (.inl rfl) _) (Zg _ cQ) (by rw[ar3];simp;omega);rw[ar3]at this;exact this
  rw[if_neg C9]at hdt;simp[h3,aa,aez,ajb,Kx,hB,ga,gb,iL,ar0,fE,A2,htn,C9,Cs];refine⟨aR,⟨k'+1+1,zE,zE,zE,?_⟩,zE⟩
  ·rw[show k'+1+1=k'+2 by omega,hdt,FH,zzax (l:=l) (i:=k'+1),hb];rfl
 obtain rfl:k=l.length:=zE
 rw[zzbs]at FH;have Ez:¬((l.length:Nat):Int)<(l.length:Int):=zE
 have:=hK B [] (bC.refl _ _) (by rw[FH,zzas];exact hB) (by rw[FH];simp);rw[FH]at this;simp[h3,Cs,Az];exact this
def Gl(a:Int):Pure Tryz.prog aD 238 [I a] (.bool false):=by
 refine Qn adL (fun _ _ _=>.junk) zd ?_;simp[aiz,aiA]
def Gm(a:Int):Pure Tryz.prog aD 280 [I a] (.bool false):=by
 refine Qn aeb (fun _ _ _=>.junk) zd ?_;simp[aiW,aiX]
def Q3(a b:Int):Pure Tryz.prog aD 206 [I a,I b] (.bool (decide (a<b))):=by
 have h:=Gl a;refine Qn adm (fun _ _ _=>.bool false) zd ?_;simp[ah4,ah5];exact h
def ru(l:P2)(x:Int):Nat:=(l.filter fun y=>decide (y<x)).length
def al0{l:P2}{x:Int}{i:Nat}(hi:i<=l.length)(h1:∀(k:Nat)(y:Int),k<i->l[k]?=some y->y<x)(h2:∀(k:Nat)(y:Int),i<=k->l[k]?=some y->x<=y):ru l x=i:=by
 unfold ru;have e:l=l.take i++l.drop i:=zd
 rw[e,zzdh]
 have e1:(l.take i).filter (fun y=>decide (y<x))=l.take i:=by
  rw[zzgb];intro y hy;obtain⟨k,hk⟩:=zzcq.1 hy;rw[zzbk]at hk;split at hk
  ·simpa using h1 k y (by assumption) hk
  cases hk
 have e2:(l.drop i).filter (fun y=>decide (y<x))=[]:=by
  rw[zzha];intro y hy;obtain⟨k,hk⟩:=zzcq.1 hy;rw[zzbo]at hk;have:=h2 (i+k) y zE hk;simp;omega
 rw[e1,e2];simp;omega
def pO(l:P2)(x:Int)(hl:l.length<=1000000000)(hs:l.Pairwise (·<=·)):Pure Tryz.prog aD 264 [.sl .ro (l.map fun y=>[I y]),I x] (.aQ [I (ru l x:Nat),.bool (decide (l[ru l x]?=some x))]):=by
 refine Qn ad3 (fun _ f a=>if f=206 then(match a with|[.int _ a,.int _ b]=>.bool (decide (a<b))|_=>.junk)else .bool false) zd ?_;simp[UP]
 refine Qj qJ (fun f m=>∃i j:Nat,f 7=I i/\f 8=I j/\i<=j/\j<=l.length/\m=⟨[],[],fun _=>.gone,0⟩/\(∀(k:Nat)(y:Int),k<i->l[k]?=some y->y<x)/\∀(k:Nat)(y:Int),j<=k->l[k]?=some y->x<=y)
  (fun f _=>(numOf (f 8)).toNat-(numOf (f 7)).toNat) ?_ ?_
 ·refine⟨0,l.length,zd,zd,zE,zE,rfl,fun k y h=>zE,fun k y h1 h2=>?_⟩;rw[zzau h1]at h2;cases h2
 rintro f m ⟨i,j,h7,h8,fL,hj,rfl,ha,hb⟩;rcases zzab i j with aa|bu
 ·have V3:(i+j)/2<l.length:=zE
  obtain⟨y,hy⟩:∃y,l[(i+j)/2]?=some y:=⟨_,zzad V3⟩;obtain⟨s,hse⟩:∃s,s=(i+j)/2:=⟨_,rfl⟩;rw[<- hse]at hy;have ai:=Gj hy;have ajg:(i:Int)<(j:Int):=zE
  have w1:IntKind.i64.wrap ((i:Int)+(j:Int))=((i+j:Nat):Int):=by rw[Qi]<;>omega
  have w2:IntKind.u64.wrap ((i+j:Nat):Int)=((i+j:Nat):Int):=by simp[IntKind.wrap,IntKind.bits,IntKind.signed];omega
  have w3:Int.fdiv ((i:Int)+(j:Int)) (2 ^ min 1 IntKind.u64.bits)=(s:Int):=by
   rw[show(2:Int) ^ min 1 IntKind.u64.bits=2 from rfl,zzgk _ zE];omega
  have w4:IntKind.i64.wrap (s:Int)=(s:Int):=by rw[Qi]<;>omega
  have w5:=bR s zE;have iZ:s<l.length:=zE
  have ar4:(s:Int)<(l.length:Int):=zE
  have hp:=Q3 y x
  have mono:∀(p q:Nat)(u v:Int),p<=q->l[p]?=some u->l[q]?=some v->u<=v:=by
   intro p q u v hpq hu hv;rcases zzab p q with h|h
   ·obtain⟨hp1,hu⟩:=zza.1 hu;obtain⟨hq1,hv⟩:=zza.1 hv;have:=(zzdr.1 hs) p q hp1 hq1 h;omega
   obtain rfl:p=q:=zE
   rw[hu]at hv;cases hv;omega
  by_cases hyx:y<x
  ·have al1:decide (y<x)=true:=decide_eq_true hyx;rw[al1]at hp;simp only[Int.natCast_add]at w1 w2;simp[h7,h8,ajg,aa,ai,qJ,w1,w2,w3,w4,w5,iZ,ar4,hyx];refine⟨hp,aR,⟨s+1,zd,j,rfl,zE,zE,fun k z hk hz=>?_,hb⟩,zE⟩
   ·have:=mono k s z y zE hz hy;omega
  have al1:decide (y<x)=false:=decide_eq_false hyx;rw[al1]at hp;simp only[Int.natCast_add]at w1 w2;simp[h7,h8,ajg,aa,ai,qJ,w1,w2,w3,w4,w5,iZ,ar4,hyx];refine⟨hp,aR,⟨i,rfl,s,rfl,zE,zE,ha,fun k z hk hz=>?_⟩,zE⟩
  ·have:=mono s k y z hk hy hz;omega
 obtain rfl:i=j:=zE
 have ic:=al0 hj ha hb;rw[ic];have PG:¬(i:Int)<(i:Int):=zE
 rcases zzab i l.length with aa|hge'
 ·obtain⟨y,hy⟩:=aY aa;have ai:=Gj hy;have ah:(i:Int)<(l.length:Int):=zE
  have hn:=Gm y;have hli:l[i]=y:=(zza.1 hy).2;by_cases hyx:y=x
  ·subst hyx;simp[h7,h8,aa,ah,ai,qJ,NH,hli]
  simp[h7,h8,aa,ah,ai,qJ,NH,hli,hyx];exact hn
 have ah:¬(i:Int)<(l.length:Int):=zE
 have:l[i]?=none:=zzau hge';simp[h7,h8,ah,qJ,NH,this]
def Q4(cs:List Cl)(n:Nat):X2:=((List.range n).reverse).map fun(k:Nat)=>[I (k:Int),.agg (Qh (cs.getD k ⟨0,0,0,0,0,0,0,0⟩))]
def nI(cs:List Cl)(n:Nat):Q4 cs (n+1)=[I (n:Int),.agg (Qh (cs.getD n ⟨0,0,0,0,0,0,0,0⟩))]::Q4 cs n:=by
 simp[Q4,zzfh]
def mw(cs:List Cl):Pure Tryz.prog aD 256 [.sl .ro (cs.map Qh)] (.fn 271 [] [.ep [.sl .ro (cs.map Qh)] 0]):=by
 refine Qn adY (fun _ _ _=>.junk) zd ?_;simp[aiK,aiL]
def mz(cs:List Cl)(hl:cs.length<=1000000000):Iter Tryz.prog aD 271 [] [.ep [.sl .ro (cs.map Qh)] 0] (Q4 cs cs.length):=by
 intro Y l m K hF;refine Xh aea (fun _ _ _=>.junk) zd ?_;have hw0:IntKind.i64.wrap ((cs.length:Int)-1)=(cs.length:Int)-1:=by rw[Qi]<;>omega
 simp[aiV,hw0];refine Qj JX (fun f mm=>∃i:Nat,f 3=I ((i:Int)-1)/\i<=cs.length/\wQ (Y l) K (Q4 cs i) mm) (fun f _=>(numOf (f 3)+1).toNat) ?_ ?_
 ·exact⟨cs.length,zd,zE,hF⟩
 rintro f mm ⟨i,h3,hi,hF⟩;cases i with
 |zero=>
  have hK:K mm:=hF mm (fN.refl _);simp[h3,JX,UT];exact hK
 |succ i=>
  obtain⟨c,hc⟩:∃c,cs[i]?=some c:=⟨_,zzad zE⟩;have ai:Qg (cs.map Qh) i=Qh c:=Qv (by simp[hc]);have VH:cs.getD i ⟨0,0,0,0,0,0,0,0⟩=c:=by simp[zzaw,hc]
  rw[nI,VH]at hF;have h3':f 3=I i:=by rw[h3];congr 1;omega
  have ah:i<cs.length:=zE
  have xm:(i:Int)<(cs.length:Int):=zE
  have hw:IntKind.i64.wrap ((i:Int)-1)=(i:Int)-1:=by rw[Qi]<;>omega
  have A2:(0:Int)<=(i:Int):=zE
  simp only[Qh]at hF ai;simp[h3',JX,ai,ah,xm,hw,A2];refine hF _ (fN.refl _) _ (fun m2 gL=>?_) (fun m2 hK=>?_)
  ·simp[hw];refine⟨aR,⟨i,rfl,zE,gL⟩⟩
  simp[UT];exact hK _ (fN.refl _)
end
end Go.Proofs.YtfliagpjbbkijaaGreatDoor
namespace Go.Proofs.YtfliagpjbbkijaaGreatDoor
noncomputable section
open Go Go.Abs
def Xn(L:P1):PQ:=aj (L.map fun(k:Nat)=>(k:Int))
def XN(L:P1):(Xn L).length=L.length:=by simp[Xn,Ub]
def K9{L:P1}{i v:Nat}(h:L[i]?=some v):(Xn L).drop i=I (v:Int)::Xn (L.drop (i+1)):=by
 unfold Xn;rw[nG (x:=(v:Int)) (by simp[h]),zzfq]
def XO(L:P1)(i v:Nat):(Xn L).set i (I (v:Int))=Xn (L.set i v):=by
 unfold Xn;rw[K5,zzfl]
def WF(L:P1)(d:Nat->Bool)(n:Nat):Prop:=L.length=n+1/\∀i v,L[i]?=some v->i<=v/\v<=n/\(v=i<->d i=false)/\∀j,i<=j->j<v->d j=true
def WF.jump{L:P1}{d:Nat->Bool}{n i v u:Nat}(h:WF L d n)(h1:L[i]?=some v)(h2:L[v]?=some u)(aJ:v≠i):WF (L.set i u) d n:=by
 obtain⟨hl,hw⟩:=h;refine⟨Pi hl,fun k x hk=>?_⟩;have iI:i<L.length:=(zza.1 h1).1;obtain⟨a1,a2,a3,a4⟩:=hw i v h1;obtain⟨b1,b2,b3,b4⟩:=hw v u h2;by_cases fM:k=i
 ·subst fM;rw[zzbg iI]at hk;cases hk;refine⟨zE,b2,?_,fun j dL ot=>?_⟩
  ·have hd:d k≠false:=fun h=>aJ (a3.2 h);constructor
   ·intro h;omega
   intro h;exact absurd h hd
  rcases zzab j v with h|h
  ·exact a4 j dL h
  exact b4 j h ot
 rw[zzbq (fun h=>fM h.symm)]at hk;exact hw k x hk
def Ob(Y:YT)(i n c IU:Nat)(L:P1)(d:Nat->Bool)(hw:WF L d n)(hi:i<=n)(hn:n<=1000000000)(B:X2)(Lm:P1)(st:Nat->LS)(ln:Nat)(hc:c<B.length)(axc:IU<B.length)(aJ:c≠IU)
  (hBc:Qg B c=[.bs IU 0 (n+1) 1])(Bs:Qg B IU=Xn L)(K:UV)
  (hK:∀(B':X2)(L':P1)(r:Nat),bC (·=IU) B B'->Qg B' IU=Xn L'->WF L' d n->i<=r->r<=n->d r=false->(∀j,i<=j->j<r->d j=true)->K (I r) ⟨B',Lm,st,ln⟩):
  aA Tryz.prog aD Y 263 [I i,.ptr c 0] ⟨B,Lm,st,ln⟩ K:=by
 refine Xh ad2 (fun _ _ _=>.junk) zd ?_;simp[UO];refine Qj JW (fun f m=>∃(k:Nat)(B':X2)(L':P1),f 0=I k/\i<=k/\k<=n/\m=⟨B',Lm,st,ln⟩/\bC (·=IU) B B'/\Qg B' IU=Xn L'/\WF L' d n/\∀j,i<=j->j<k->d j=true) (fun f _=>n-(numOf (f 0)).toNat) ?_ ?_
 ·exact⟨i,B,L,zd,zE,hi,rfl,bC.refl _ _,Bs,hw,fun j h1 h2=>zE⟩
 rintro f m ⟨k,B',L',h0,qW,Ez,rfl,nB,xq,hw',hd⟩;have XP:IU<B'.length:=zzar axc nB.1;have al2:Qg B' c=[.bs IU 0 (n+1) 1]:=by rw[nB.2 c hc aJ];exact hBc
 obtain⟨fG,fE⟩:=hw';obtain⟨v,hv⟩:∃v,L'[k]?=some v:=⟨_,zzad zE⟩;obtain⟨v1,v2,v3,v4⟩:=fE k v hv;obtain⟨u,hu⟩:∃u,L'[v]?=some u:=⟨_,zzad zE⟩;obtain⟨u1,u2,u3,u4⟩:=fE v u hu;have gv:=K9 hv;have gu:=K9 hu;have sM:k<n+1:=zE
 have z8:(k:Int)<(n:Int)+1:=zE
 have hvl:v<n+1:=zE
 have axd:(v:Int)<(n:Int)+1:=zE
 have aH:=XN L';by_cases hvk:v=k
 ·subst hvk;simp[h0,al2,xq,gv,sM,z8,JW,aiQ];exact hK B' L' v nB xq ⟨fG,fE⟩ qW Ez (v3.1 rfl) hd
 have axe:¬(v:Int)=(k:Int):=zE
 have bW:=XO L' k u;have hW:=WF.jump ⟨fG,fE⟩ hv hu hvk;have J9:(L'.set k u)[k]?=some u:=zzbg zE;have gu2:=K9 J9;have ay3:IU<(B'.set IU (Xn (L'.set k u))).length:=by simpa using XP
 have lG:Qg (B'.set IU (Xn (L'.set k u))) IU=Xn (L'.set k u):=Zg _ XP;have gX:Qg (B'.set IU (Xn (L'.set k u))) c=[.bs IU 0 (n+1) 1]:=by rw[Xl _ (fun h=>aJ h.symm)];exact al2
 simp[h0,al2,xq,gv,gu,sM,z8,hvl,axd,hvk,axe,JW,bW,lG,gX,gu2,aH,fG,XP];refine⟨zE,aR,⟨u,rfl,zE,zE,nB.set (.inl rfl) _,_,rfl,hW,fun j h1 h2=>?_⟩,zE⟩
 ·rcases zzab j k with h|h
  ·exact hd j h1 h
  rcases zzab j v with h3|h3
  ·exact v4 j h h3
  exact u4 j h3 h2
def Gn(item region:Int)(c:Cl):Bool:=decide (c.ki=1\/c.ki=2)&&(gZ c item region&&Xv c)
def Wd(cs:List Cl)(item region:Int):List Cl:=cs.filter (Gn item region)
def fh:List Cl->P2
 |[]=>[]
 |c::r=>c.fr::c.to::fh r
def pP:∀a b:List Cl,fh (a++b)=fh a++fh b
 |[],_=>rfl
 |c::r,b=>by simp[fh,pP r b]
def pQ:∀a:List Cl,(fh a).length=2*a.length
 |[]=>rfl
 |c::r=>by simp[fh,pQ r];omega
def pR{c:Cl}:∀{a:List Cl},c∈a->c.fr∈fh a/\c.to∈fh a
 |[],h=>by cases h
 |d::r,h=>by
  rcases zzao.1 h with rfl|h
  ·simp[fh]
  have:=pR h;simp[fh,this.1,this.2]
def dM(C:List Cl):P2:=dd ((fh C).mergeSort fun x y=>decide (x<=y))
def Oc(C:List Cl):(dM C).Pairwise (·<·):=by
 refine XK ?_;have:=zzgw (le:=fun x y:Int=>decide (x<=y)) (fun a b c h1 h2=>by simp at*;omega) (fun a b=>by simp;omega) (fh C);exact this.imp zd
def uM(C:List Cl)(x:Int):x∈dM C<->x∈fh C:=by
 unfold dM;rw[K7,(zzgc _ _).mem_iff]
def Oe(C:List Cl):(dM C).length<=2*C.length:=by
 have h1:=K6 ((fh C).mergeSort fun x y=>decide (x<=y));rw[zzex,pQ]at h1;exact h1
abbrev GS:=List (Option Bool)
def stepG(s:GS)(a b:Nat)(v:Bool):GS:=s.mapIdx fun j o=>if a<=j/\j<b/\o=none then some v else o
def Q5(Bd:P2)(s:GS)(c:Cl):GS:=stepG s (ru Bd c.fr) (ru Bd c.to) (decide (c.ki=1))
def xu(C:List Cl):GS:=C.reverse.foldl (Q5 (dM C)) (List.replicate (dM C).length none)
def Dx(Bd:P2)(s:GS)(i:Nat):List Sp:=if s[i]?=some (some true)then[(Bd.getD i 0,Bd.getD (i+1) 0)]else[]
def nJ(Bd:P2)(s:GS)(n:Nat):List Sp:=(List.range n).flatMap (Dx Bd s)
def Qck(cs:List Cl)(item region:Int):List Sp:=Xj (nJ (dM (Wd cs item region)) (xu (Wd cs item region)) (dM (Wd cs item region)).length)
def ry(s:GS)(a b:Nat)(v:Bool):(stepG s a b v).length=s.length:=by simp[stepG]
def Ut(s:GS)(a b:Nat)(v:Bool)(j:Nat):(stepG s a b v)[j]?=(s[j]?).map fun o=>if a<=j/\j<b/\o=none then some v else o:=by simp[stepG]
def Bt(s:GS)(a b:Nat)(v:Bool)(h:b<=a):stepG s a b v=s:=by
 apply zzcz;intro j;rw[Ut];cases s[j]? with
 |none=>rfl
 |some o=>simp;intro h1 h2;omega
def La(s:GS)(a k:Nat)(v:Bool)(hak:a<=k)(hk:s[k]?=some none):stepG s a (k+1) v=(stepG s a k v).set k (some v):=by
 have aa:k<s.length:=(zza.1 hk).1;apply zzcz;intro j;rw[Ut];by_cases zo:j=k
 ·subst zo;rw[zzbg (by rw[ry];exact aa),hk];simp[hak]
 rw[zzbq (fun h=>zo h.symm),Ut];cases s[j]? with
 |none=>rfl
 |some o=>
  simp only[zzcf];congr 1;by_cases h:a<=j/\j<k/\o=none
  ·rw[if_pos h,if_pos ⟨h.1,zE,h.2.2⟩]
  rw[if_neg h,if_neg (fun h'=>h ⟨h'.1,zE,h'.2.2⟩)]
def xw(s:GS)(a k r:Nat)(v:Bool)(hkr:k<=r)(h:∀j,k<=j->j<r->s[j]?≠some none):stepG s a r v=stepG s a k v:=by
 apply zzcz;intro j;rw[Ut,Ut];cases hj:s[j]? with
 |none=>rfl
 |some o=>
  simp only[zzcf];congr 1;by_cases h1:a<=j/\j<k/\o=none
  ·rw[if_pos h1,if_pos ⟨h1.1,zE,h1.2.2⟩]
  rw[if_neg h1];by_cases h2:a<=j/\j<r/\o=none
  ·exfalso
   have hkj:k<=j:=by
    rcases zzab j k with h3|h3
    ·exact absurd ⟨h2.1,h3,h2.2.2⟩ h1
    exact h3
   exact h j hkj h2.2.1 (by rw[hj,h2.2.2])
  rw[if_neg h2]
def gB(s:GS):List Bool:=s.map fun o=>o==some true
def nK(s:GS)(j:Nat):Bool:=match s[j]? with
 |some (some _)=>true
 |_=>false
def Zh(l:List Bool):PQ:=l.map AV.bool
def al3(l:List Bool):(Zh l).length=l.length:=by simp[Zh]
def al4{l:List Bool}{i:Nat}{x:Bool}(h:l[i]?=some x):(Zh l).drop i=.bool x::Zh (l.drop (i+1)):=by
 unfold Zh;rw[<- zzfq];have aa:=(zza.1 h).1;rw[zzaf aa,(zza.1 h).2];rfl
def al5(l:List Bool)(i:Nat)(x:Bool):(Zh l).set i (.bool x)=Zh (l.set i x):=by simp[Zh,zzfl]
def XQ(n:Nat):bG n [.bool false]=Zh (List.replicate n false):=by
 induction n with
 |zero=>rfl
 |succ n ih=>rw[bG,ih];rfl
def al6(s:GS)(k:Nat)(v:Bool):gB (s.set k (some v))=(gB s).set k v:=by
 unfold gB;rw[zzfl];cases v<;>rfl
def aeH(n:Nat):gB (List.replicate n none)=List.replicate n false:=by
 unfold gB;rw[List.map_replicate];rfl
def WF.init(n:Nat)(d:Nat->Bool)(hd:∀j,d j=false):WF (List.range (n+1)) d n:=by
 refine⟨zd,fun i v h=>?_⟩;obtain⟨h1,h2⟩:=zza.1 h;simp at h1 h2;subst h2;exact⟨zE,zE,⟨fun _=>hd _,fun _=>rfl⟩,fun j h3 h4=>zE⟩
def WF.dec{L:P1}{d d':Nat->Bool}{n k:Nat}(h:WF L d n)(hk:k<n)(hd:d' k=true)(hd2:∀j,j≠k->d' j=d j):WF (L.set k (k+1)) d' n:=by
 obtain⟨hl,hw⟩:=h;refine⟨Pi hl,fun i v hv=>?_⟩;by_cases qW:i=k
 ·subst qW;rw[zzbg zE]at hv;cases hv;refine⟨zE,zE,?_,fun j h1 h2=>?_⟩
  ·constructor
   ·intro h;omega
   intro h;rw[hd]at h;cases h
  obtain rfl:j=i:=zE
  exact hd
 rw[zzbq (fun h=>qW h.symm)]at hv;obtain⟨a1,a2,a3,a4⟩:=hw i v hv;refine⟨a1,a2,by rw[hd2 i qW];exact a3,fun j h1 h2=>?_⟩;by_cases zo:j=k
 ·subst zo;exact hd
 rw[hd2 j zo];exact a4 j h1 h2
def XR(s:GS)(k:Nat)(v:Bool)(hk:k<s.length):nK (s.set k (some v)) k=true/\∀j,j≠k->nK (s.set k (some v)) j=nK s j:=by
 constructor
 ·unfold nK;rw[zzbg hk]
 intro j hj;unfold nK;rw[zzbq (fun h=>hj h.symm)]
def al7(l:P2)(x:Int):ru l x<=l.length:=zzca _ _
def Lb{l:P2}{x:Int}(h:x∈l):ru l x<l.length:=by
 unfold ru;have h1:=zzca (fun y=>decide (y<x)) l;rcases zzab (l.filter fun y=>decide (y<x)).length l.length with h2|h2
 ·exact h2
 have h3:(l.filter fun y=>decide (y<x)).length=l.length:=zE
 have h4:=(List.length_filter_eq_length_iff.1 h3) x h;simp at h4
def Dy(Y:YT)(m:AM)(K:UV)(hK:K (.sl .nil []) m):aA Tryz.prog aD Y 114 [.sl .nil []] m K:=by
 refine Xh Cr (fun _ _ _=>.junk) zd ?_;simp[vm,Az];exact hK
def Ku(Bd:P2)(R:List Sp):X1:=fun d f l=>
 if f=999999 then(if d=59 then .aL 0 []else .junk)else
 if f=257 then(match l with
  |[.agg [.int _ a,.int _ b,.int _ c,.int _ d,.int _ e,.int _ f,.int _ g,.int _ h],.int _ i,.int _ r]=>.bool (gZ ⟨a,b,c,d,e,f,g,h⟩ i r)
  |_=>.junk)else
 if f=31 then(match l with
  |[.agg [.int _ a,.int _ b,.int _ c,.int _ d,.int _ e,.int _ f,.int _ g,.int _ h]]=>.bool (Xv ⟨a,b,c,d,e,f,g,h⟩)
  |_=>.junk)else
 if f=256 then(match l with
  |[.sl _ rows]=>.fn 271 [] [.ep [.sl .ro rows] 0]
  |_=>.junk)else
 if f=264 then(match l with
  |[_,.int _ x]=>.aQ [I (ru Bd x:Nat),.bool (decide (Bd[ru Bd x]?=some x))]
  |_=>.junk)else
 if f=222 then .sl .ro (R.map Qe)else .gd false .junk
def aeI(B:X2)(C:List Cl):Prop:=(C=[]/\Qg B 0=[.sl .nil []])\/(C≠[]/\∃cO,Qg B 0=[.bs cO 0 (fh C).length 1]/\cO≠0/\cO<B.length/\Qg B cO=aj (fh C))
def aeI.app{B:X2}{C:List Cl}(h:aeI B C)(h0:0<B.length)(x:X2):aeI (B++x) C:=by
 obtain⟨h1,h2⟩|⟨h1,cO,h2,h3,h4,h5⟩:=h
 ·exact .inl ⟨h1,by rw[Qk h0];exact h2⟩
 exact .inr ⟨h1,cO,by rw[Qk h0];exact h2,h3,by simp;omega,by rw[Qk h4];exact h5⟩
def Dz:SC:=(⟨_,by cbv⟩:KM [1,1,1,1,1,1,1,1,1,1,1] sG).1
def XS:SC->SC:=(⟨_,fun _=>by cbv⟩:FO [1,1,1] (pE [1,1,1,1,1,1,1,1] sG)).1
def ajh:SC->SC:=(⟨_,fun _=>by cbv⟩:FO [1,1,1,1,1,1,1,1] sG).1
theorem XT:sG=ajh (XS Dz):=rfl
def XU(Bd:P2)(s:GS)(i:Nat):(Dx Bd s i).length<=1:=by unfold Dx;split<;>simp
def rz(Bd:P2)(s:GS)(n:Nat):nJ Bd s (n+1)=nJ Bd s n++Dx Bd s n:=by simp[nJ,zzfh]
def xx(Bd:P2)(s:GS):∀n,(nJ Bd s n).length<=n
 |0=>by simp[nJ]
 |n+1=>by
  have h1:=xx Bd s n;have h2:=XU Bd s n;rw[rz,zzah];omega
def xy(Bd z:P2)(s:GS)(R:List Sp)(n:Nat)(hn:s.length=n)(hn9:n<=10000000)(hR:R=Xj (nJ Bd s n))(E:R0)(B:X2)(Lm:P1)(st:Nat->LS)(ln:Nat)(g g1:Nat)(Bd0:P2)
  (h8:Abs.look E 8=.ptr 0 0)(pL:Abs.look E 11=.ptr g1 0)(hg1:Qg B g1=[.bs g 0 n 1])(hg:Qg B g=Zh (gB s))
  (hb:∀i,s[i]?=some (some true)->∃cO,Qg B 0=[.bs cO 0 n 1]/\Qg B cO=aj (Bd++z)/\i+1<Bd.length/\Bd.length=n):
  vc Tryz.prog aD (Ku Bd0 R) Y0 Dz ⟨Zr 145 E,⟨B,Lm,st,ln⟩⟩ (post Tryz.prog aD (Ku Bd0 R) E6 (.sl .ro (R.map Qe))):=by
 have eG:(gB s).length=n:=by simp[gB,hn]
 simp[Dz,pL,hg1]
 refine Qj qI (fun f m=>∃(i:Nat)(o:List Sp)(rt:Rt)(Lm':P1),i<=n/\f 123=I i/\f 22=.sl rt (o.map Qe)/\m=⟨B,Lm',st,ln⟩/\o=nJ Bd s i/\((o=[]/\rt=.nil/\Lm'=Lm)\/(o≠[]/\rt=.own Lm.length 2/\Lm'=Lm++[o.length])))
  (fun f _=>n-(numOf (f 123)).toNat) ?_ ?_
 ·exact⟨0,[],.nil,Lm,zE,zd,zd,rfl,by simp[nJ],.inl ⟨rfl,rfl,rfl⟩⟩
 rintro f m ⟨i,o,rt,Lm',hi,h123,h22,rfl,ho,bk⟩;have hol:o.length<=i:=by rw[ho];exact xx Bd s i
 rcases zzab i n with aa|bu
 ·obtain⟨v,hv⟩:∃v,s[i]?=some v:=⟨_,zzad zE⟩;have hgv:(gB s)[i]?=some (v==some true):=by simp[gB,hv]
  have gg:=al4 hgv;have ah:(i:Int)<(n:Int):=zE
  have hw:=bR i zE;have dR:=rz Bd s i;rw[<- ho]at dR;by_cases hvt:v=some true
  ·subst hvt;obtain⟨cO,b1,b2,b3,b4⟩:=hb i hv;obtain⟨x,hx⟩:∃x,Bd[i]?=some x:=⟨_,zzad zE⟩;obtain⟨y,hy⟩:∃y,Bd[i+1]?=some y:=⟨_,zzad b3⟩;have gx:=nG (l:=Bd++z) (i:=i) (x:=x) (by rw[zzak zE];exact hx);have gy:=nG (l:=Bd++z) (i:=i+1) (x:=y) (by rw[zzak zE];exact hy);have hou:Dx Bd s i=[(x,y)]:=by simp[Dx,hv,hx,hy]
   rw[hou]at dR;simp at gg;have hi1:i+1<n:=zE
   have ar5:(i:Int)+1<(n:Int):=zE
   have A2:(0:Int)<=(i:Int)+1:=zE
   have htn:((i:Int)+1).toNat=i+1:=zE
   have gX:∀row∈o.map Qe,row.length=2:=by
    intro row h;rw[zzbh]at h;obtain⟨a,_,rfl⟩:=h;rfl
   obtain⟨rfl,rfl,rfl⟩|⟨aJ,rfl,rfl⟩:=bk
   ·simp[h123,h22,aa,ah,hg,gg,qI,hw,h8,b1,b2,gx,gy,hi1,ar5,A2,htn,Ku];refine⟨aR,⟨i+1,zE,zd,[(x,y)],_,⟨rfl,rfl⟩,by rw[dR];rfl,zd⟩,zE⟩
   simp[h123,h22,aa,ah,hg,gg,qI,hw,h8,b1,b2,gx,gy,hi1,ar5,A2,htn,Ku];refine⟨⟨?_,zE⟩,aR,⟨i+1,zE,zd,o++[(x,y)],_,⟨rfl,by simp[Qe]⟩,dR.symm,zd⟩,zE⟩
   ·rintro row (⟨a,b,_,rfl⟩|rfl)<;>rfl
  have hou:Dx Bd s i=[]:=by
   unfold Dx;rw[hv,if_neg];intro h;cases h;exact hvt rfl
  rw[hou,zzas]at dR;have SX:(v==some true)=false:=by simpa using hvt
  rw[SX]at gg;simp[h123,h22,aa,ah,hg,gg,qI,hw];refine⟨aR,⟨i+1,zE,zd,o,rt,⟨rfl,rfl⟩,dR.symm,bk⟩,zE⟩
 obtain rfl:i=n:=zE
 rw[<- ho]at hR;have al8:=Uo o zE;rw[<- hR]at al8;obtain⟨rfl,rfl,rfl⟩|⟨aJ,rfl,rfl⟩:=bk
 ·simp[h123,h22,qI,E6,Ku];exact Xp al8 ⟨Wk.sl _ _,trivial⟩
 simp[h123,h22,qI,E6,Ku];exact al8
def xA:∀(cs:List Cl)(n i:Nat)(x:PQ),n<=cs.length->(Q4 cs n)[i]?=some x->∃(k:Nat)(c:Cl),cs[k]?=some c/\k+1+i=n/\x=[I (k:Int),.agg (Qh c)]
 |cs,0,i,x,_,h=>by simp[Q4]at h
 |cs,n+1,0,x,hn,h=>by
  rw[nI]at h;simp at h;obtain⟨c,hc⟩:∃c,cs[n]?=some c:=⟨_,zzad zE⟩;refine⟨n,c,hc,zE,?_⟩;rw[<- h];simp[hc]
 |cs,n+1,i+1,x,hn,h=>by
  rw[nI]at h;obtain⟨k,c,h1,h2,h3⟩:=xA cs n i x zE (Pi h);exact⟨k,c,h1,zE,h3⟩
def Gp(cs:List Cl)(n:Nat):(Q4 cs n).length=n:=by simp[Q4]
def Gq{cs:List Cl}{n:Nat}:∀x∈Q4 cs n,x.length=2:=by
 intro x hx;simp[Q4]at hx;obtain⟨k,_,rfl⟩:=hx;rfl
structure SY (C:List Cl) (Bd z:P2) (n b:Nat) (s:GS) (L:P1) (bx:X2):Prop where
 len:b+4<bx.length
 g1:Qg bx (b+1)=[.bs b 0 n 1]
 g:Qg bx b=Zh (gB s)
 l1:Qg bx (b+3)=[.bs (b+2) 0 (n+1) 1]
 l:Qg bx (b+2)=Xn L
 f:Qg bx (b+4)=[.fn 263 [] [.ptr (b+3) 0]]
 bd:C≠[]->∃cO,Qg bx 0=[.bs cO 0 n 1]/\Qg bx cO=aj (Bd++z)/\0<cO/\cO<b
def SY.app{C:List Cl}{Bd z:P2}{n b:Nat}{s:GS}{L:P1}{bx:X2}(h:SY C Bd z n b s L bx)(x:X2):SY C Bd z n b s L (bx++x):=by
 have hl:=h.len;refine⟨by simp;omega,by rw[Qk zE];exact h.g1,by rw[Qk zE];exact h.g,by rw[Qk zE];exact h.l1,by rw[Qk zE];exact h.l,by rw[Qk zE];exact h.f,fun hc=>?_⟩;obtain⟨cO,h1,h2,h3,h4⟩:=h.bd hc;exact⟨cO,by rw[Qk zE];exact h1,by rw[Qk zE];exact h2,h3,h4⟩
def SY.later{C:List Cl}{Bd z:P2}{n b:Nat}{s:GS}{L L':P1}{bx bx':X2}(h:SY C Bd z n b s L bx)(hb:0<b)(hk:bC (·=b+2) bx bx')(hl:Qg bx' (b+2)=Xn L'):SY C Bd z n b s L' bx':=by
 have aH:=h.len;have k:∀j,j<bx.length->j≠b+2->Qg bx' j=Qg bx j:=hk.2;refine⟨by have:=hk.1;omega,by rw[k _ zE zE];exact h.g1,by rw[k _ zE zE];exact h.g,by rw[k _ zE zE];exact h.l1,hl,by rw[k _ zE zE];exact h.f,fun hc=>?_⟩;obtain⟨cO,h1,h2,h3,h4⟩:=h.bd hc;exact⟨cO,by rw[k _ zE zE];exact h1,by rw[k _ zE zE];exact h2,h3,h4⟩
def SY.put{C:List Cl}{Bd z:P2}{n b:Nat}{s:GS}{L:P1}{bx:X2}(h:SY C Bd z n b s L bx)(hb:0<b)(k:Nat)(v:Bool):
  SY C Bd z n b (s.set k (some v)) (L.set k (k+1)) ((bx.set b (Zh ((gB s).set k v))).set (b+2) (Xn (L.set k (k+1)))):=by
 have aH:=h.len
 have e:∀j,j≠b->j≠b+2->Qg ((bx.set b (Zh ((gB s).set k v))).set (b+2) (Xn (L.set k (k+1)))) j=Qg bx j:=fun j h1 h2=>by
  rw[Xl _ (fun h=>h2 h.symm),Xl _ (fun h=>h1 h.symm)]
 refine⟨Pi aH,by rw[e _ zE zE];exact h.g1,?_,by rw[e _ zE zE];exact h.l1,by rw[Zg _ (by simp;omega)],by rw[e _ zE zE];exact h.f,fun hc=>?_⟩
 ·rw[Xl _ zE,Zg _ zE,al6]
 obtain⟨cO,h1,h2,h3,h4⟩:=h.bd hc;exact⟨cO,by rw[e _ zE zE];exact h1,by rw[e _ zE zE];exact h2,h3,h4⟩
def aeJ(Bd:P2)(s:GS)(c:Cl):(Q5 Bd s c).length=s.length:=by simp[Q5,ry]
def xB(Bd:P2):∀(l:List Cl)(s:GS),(l.foldl (Q5 Bd) s).length=s.length
 |[],_=>rfl
 |c::l,s=>by rw[zzda,xB Bd l,aeJ]
def Bu(Bd:P2):∀(l:List Cl)(s:GS)(i:Nat)(v:Bool),(∀c∈l,c.to∈Bd)->(∀v,s[i]?≠some (some v))->(l.foldl (Q5 Bd) s)[i]?=some (some v)->i+1<Bd.length+0\/i+1<=Bd.length-1
 |[],s,i,v,_,h0,h=>absurd h (h0 v)
 |c::l,s,i,v,hc,h0,h=>by
  rw[zzda]at h;by_cases h1:∃v,(Q5 Bd s c)[i]?=some (some v)
  ·obtain⟨v',h2⟩:=h1;unfold Q5 at h2;rw[Ut]at h2;cases hs:s[i]? with
   |none=>rw[hs]at h2;cases h2
   |some o=>
    rw[hs]at h2;simp only[zzcf,Option.some.injEq]at h2;split at h2
    ·rename_i h3;have:=Lb (hc c zd);exact .inl zE
    subst h2;exact absurd hs (h0 v')
  exact Bu Bd l _ i v (fun c h=>hc c (by simp[h])) (fun v hv=>h1 ⟨v,hv⟩) h
def Of(s:GS)(j:Nat)(h:nK s j=true):s[j]?≠some none:=by
 intro h';unfold nK at h;rw[h']at h;cases h
def XV{s:GS}{j:Nat}(h:nK s j=false)(hj:j<s.length):s[j]?=some none:=by
 unfold nK at h;obtain⟨o,ho⟩:=aY hj;rw[ho]at h |-
 cases o with
 |none=>rfl
 |some v=>cases h
def Lc(s:GS)(a q r:Nat)(v:Bool)(hq:q<=r)(h:∀j,a<=j->j<r->nK s j=true):stepG s a q v=s:=by
 rcases zzhp a q with h1|h1
 ·rw[xw s a a q v h1 (fun j h2 h3=>Of s j (h j h2 zE)),Bt _ _ _ _ (zzaa _)]
 exact Bt _ _ _ _ h1
def Bv(C:List Cl)(Bd z:P2)(R:List Sp)(n:Nat)(hBd:Bd=dM C)(hn:Bd.length=n)(hn9:n<=10000000)(hCl:C.length<=1000000)(hR:R=Xj (nJ Bd (xu C) n))(E:R0)(B:X2)(Lm:P1)(st:Nat->LS)(ln:Nat)(b:Nat)(rt AZ:Rt)
  (hb:0<b)(Bs:B.length=b+4)(h7:Abs.look E 7=.sl rt (C.map Qh))(bk:∀m,bE m 6 (.sl rt (C.map Qh))=.sl AZ (C.map Qh))(h8:Abs.look E 8=.ptr 0 0)(pL:Abs.look E 11=.ptr (b+1) 0)(oA:Abs.look E 12=.ptr (b+3) 0)
  (hg1:Qg B (b+1)=[.bs b 0 n 1])(hg:Qg B b=Zh (List.replicate n false))(gr:Qg B (b+3)=[.bs (b+2) 0 (n+1) 1])(hl:Qg B (b+2)=aj (List.replicate (n+1) 0))
  (sU:C≠[]->∃cO,Qg B 0=[.bs cO 0 n 1]/\Qg B cO=aj (Bd++z)/\0<cO/\cO<b):
  vc Tryz.prog aD (Ku Bd R) Y0 (XS Dz) ⟨Zr 145 E,⟨B,Lm,st,ln⟩⟩ (post Tryz.prog aD (Ku Bd R) E6 (.sl .ro (R.map Qe))):=by
 simp[XS,oA,gr]
 refine Qj JS (fun f m=>∃(i:Nat)(B':X2)(L':P2),i<=n+1/\f 74=I i/\m=⟨B',Lm,st,ln⟩/\bC (·=b+2) B B'/\B'.length=B.length/\Qg B' (b+2)=aj L'/\L'.length=n+1/\∀j:Nat,j<i->L'[j]?=some (j:Int))
  (fun f _=>n+1-(numOf (f 74)).toNat) ?_ ?_
 ·exact⟨0,B,List.replicate (n+1) 0,zE,zd,rfl,bC.refl _ _,rfl,hl,zd,fun j h=>zE⟩
 rintro f m ⟨i,B',L',hi,h74,rfl,nB,xq,fG,tV,AU⟩;have ar6:Qg B' (b+3)=[.bs (b+2) 0 (n+1) 1]:=by rw[nB.2 _ zE zE];exact gr
 rcases zzab i (n+1)with aa|bu
 ·have ah:(i:Int)<(n:Int)+1:=zE
  have hw:=bR i zE;have bW:=K5 L' i (i:Int);have aH:=Ub L';have fO:b+2<B'.length:=zE
  simp[h74,ah,aa,JS,oA,ar6,fG,hw,bW,aH,tV,fO];refine⟨zE,aR,⟨i+1,zE,zd,nB.set (.inl rfl) _,xq,L'.set i (i:Int),Zg _ fO,Pi tV,fun j hj=>?_⟩,zE⟩
  ·by_cases hji':j=i
   ·subst hji';rw[zzbg zE]
   rw[zzbq (fun h=>hji' h.symm)];exact AU j zE
 obtain rfl:i=n+1:=zE
 have hLr:L'=(List.range (n+1)).map fun(k:Nat)=>(k:Int):=by
  apply zzcz;intro j;by_cases hj:j<n+1
  ·rw[AU j hj];simp[hj]
  rw[zzau zE,zzau (by simp;omega)]
 have axf:Qg B' (b+2)=Xn (List.range (n+1)):=by rw[fG,hLr];rfl
 have bU:¬((n:Int)+1)<(n:Int)+1:=zE
 have axg:SY C Bd z n b (List.replicate n none) (List.range (n+1)) (B'++[[.fn 263 [] [.ptr (b+3) 0]]]):=by
  have k:∀j,j<B.length->j≠b+2->Qg B' j=Qg B j:=nB.2;refine⟨by simp;omega,?_,?_,?_,?_,?_,fun hc=>?_⟩
  ·rw[Qk zE,k _ zE zE];exact hg1
  ·rw[Qk zE,k _ zE zE,aeH];exact hg
  ·rw[Qk zE];exact ar6
  ·rw[Qk zE];exact axf
  ·have:b+4=B'.length:=zE
   rw[this];simp
  obtain⟨cO,h1,h2,h3,h4⟩:=sU hc;exact⟨cO,by rw[Qk zE,k _ zE zE];exact h1,by rw[Qk zE,k _ zE zE];exact h2,h3,h4⟩
 have al9:=Xp (l:=[.sl AZ (C.map Qh)]) (mw C) ⟨Wk.sl _ _,trivial⟩;have cN:=mz C zE;have WE:=fun s hs hR E=>xy Bd z s R n hs hn9 hR E
 have Bq:∀y,Qg (B'++[y]) (b+4)=y:=fun y=>by
  have:b+4=B'.length:=zE
  rw[this];simp
 simp[h74,JS,h7,oA,bk,xq,Bs,Bq,Ku];refine⟨al9,?_⟩;refine jm (xs:=Q4 C C.length) zd cN Gq (fun i m=>∃(s:GS)(L:P1),s=(C.reverse.take i).foldl (Q5 Bd) (List.replicate n none)/\WF L (nK s) n/\SY C Bd z n b s L m.boxes) (fun _ _=>False) ?_ ?_ (fun _ _ _ h=>h.elim) ?_ ?_ (fun _ _ h=>h.elim)
 ·exact⟨_,_,zd,WF.init n _ (fun j=>by simp[nK,zzck]),axg⟩
 ·rintro i m m' ⟨s,L,h1,h2,h3⟩ ⟨⟨bx,e1⟩,_,_⟩;exact⟨s,L,h1,h2,by rw[e1];exact h3.app bx⟩
 ·rintro l i m x hg hr ⟨s,L,hs,hWF,hSt⟩ hx K' k1 _ _;obtain⟨k,c,hc,hk,rfl⟩:=xA C C.length i x (zzaa _) hx;rw[Us]at hSt;have hcm:c∈C:=zzac hc;have ama:C≠[]:=List.ne_nil_of_mem hcm
  have axh:C.reverse[i]?=some c:=by
   rw[List.getElem?_reverse zE];rw[show C.length-1-i=k by omega];exact hc
  have Gr:s.length=n:=by rw[hs,xB];simp
  have ef:(C.reverse.take (i+1)).foldl (Q5 Bd) (List.replicate n none)=Q5 Bd s c:=by
   rw[zzax,axh,zzgo,<- hs];rfl
  obtain⟨cO,d1,d2,d3,d4⟩:=hSt.bd ama;have gK:∀m,(aj (Bd++z)).map (bE m 5)=aj (Bd++z):=fun m=>Vd m 4 (XJ _);have mg:aW 1 n (aj (Bd++z))=Bd.map fun x=>[I x]:=by rw[<- hn,nH];exact xk Bd _
  have oU:n<=(aj (Bd++z)).length:=by rw[Ub];simp;omega
  have nL:Bd.Pairwise (·<=·):=by rw[hBd];exact(Oc C).imp (fun h=>Int.le_of_lt h)
  have b1:=pO Bd c.fr zE nL;have b2:=pO Bd c.to zE nL;have hto:c.to∈Bd:=by rw[hBd,uM];exact(pR hcm).2
  have he:=Lb hto;have ha:=al7 Bd c.fr;have cc:Q5 Bd s c=stepG s (ru Bd c.fr) (ru Bd c.to) (decide (c.ki=1)):=rfl;rw[cc]at ef;obtain⟨a,hae⟩:∃a,ru Bd c.fr=a:=⟨_,rfl⟩;obtain⟨e,hee⟩:∃e,ru Bd c.to=e:=⟨_,rfl⟩;obtain⟨v,hv⟩:∃v,(c.ki==1)=v:=⟨_,rfl⟩;have A7:decide (c.ki=1)=v:=hv;rw[hae,hee,A7]at ef;rw[hae]at b1 ha;rw[hee]at b2 he;have aH:=hSt.len;have f0:∀x,Qg (m.boxes++x) 0=[.bs cO 0 n 1]:=fun x=>by rw[Qk zE];exact d1
  have fb:∀x,Qg (m.boxes++x) cO=aj (Bd++z):=fun x=>by rw[Qk zE];exact d2
  have ff:∀x,Qg (m.boxes++x) (b+4)=[.fn 263 [] [.ptr (b+3) 0]]:=fun x=>by rw[Qk zE];exact hSt.f
  simp[hr,Zi,Qh,h8,Ku,f0,fb,ff,gK,mg,oU,hae,hee];refine⟨b1,b2,?_⟩;have amb:=hSt.app [[I c.ki,I c.it,I c.fr,I c.to,I c.re,I c.n,I c.a,I c.b]];refine Ob Y0 a n (b+3) (b+2) L (nK s) hWF zE zE _ _ _ _ (by simp;omega) (by simp;omega) zE amb.l1 amb.l _ ?_;intro B1 L1 r dF gr Q6 har hrn eY FH;have axi:=amb.later hb dF gr;have axj:m.boxes.length<B1.length:=by have:=dF.1;simp at this;omega
  have ar7:Qg B1 m.boxes.length=[I c.ki,I c.it,I c.fr,I c.to,I c.re,I c.n,I c.a,I c.b]:=by
   rw[dF.2 _ zd zE];simp
  have J6:stepG s a (min r e) v=s:=Lc s a _ r v zE FH;simp
  refine Qj JT (fun g m2=>∃(k:Nat)(B2:X2)(L2:P1),g 21=I k/\a<=k/\k<=n/\m2=⟨B2,m.lens,uD m.st l .busy,m.ln⟩/\WF L2 (nK (stepG s a (min k e) v)) n/\nK (stepG s a (min k e) v) k=false/\
   SY C Bd z n b (stepG s a (min k e) v) L2 B2/\m.boxes.length<B2.length/\Qg B2 m.boxes.length=[I c.ki,I c.it,I c.fr,I c.to,I c.re,I c.n,I c.a,I c.b]) (fun g _=>n-(numOf (g 21)).toNat) ?_ ?_
  ·exact⟨r,B1,L1,zd,har,hrn,rfl,by rw[J6];exact Q6,by rw[J6];exact eY,by rw[J6];exact axi,axj,ar7⟩
  rintro g m2 ⟨k,B2,L2,g21,hak,Ez,rfl,uL,hd2,zw,hlt2,hrow2⟩;rcases zzab k e with hke|hke
  ·have wW:min k e=k:=zE
   rw[wW]at uL hd2 zw;have axk:(stepG s a k v).length=n:=by rw[ry,Gr]
   have ar8:k<n:=zE
   have XW:=XV hd2 zE
   have hsk:s[k]?=some none:=by
    rw[Ut]at XW;cases hq:s[k]? with
    |none=>rw[hq]at XW;cases XW
    |some o=>rw[hq]at XW;simpa using XW
   have dR:=La s a k v hak hsk;obtain⟨ig,rA⟩:=XR (stepG s a k v) k v zE;have hW3:=WF.dec uL ar8 ig rA;have hS3:=zw.put hb k v;have ar9:(k:Int)<(e:Int):=zE
   have asa:(k:Int)<(n:Int):=zE
   have amc:(k:Int)<(n:Int)+1:=zE
   have axl:k<n+1:=zE
   have W8:IntKind.i64.wrap ((k:Int)+1)=(k:Int)+1:=by rw[Qi]<;>omega
   have ic:=al5 (gB (stepG s a k v)) k v;have hns:(Xn L2).set k (I ((k:Int)+1))=Xn (L2.set k (k+1)):=by have:=XO L2 k (k+1);simpa using this
   have eW:=al3 (gB (stepG s a k v));have eG:(gB (stepG s a k v)).length=n:=by simp[gB,axk]
   have hnl:=XN L2;have hL2:=uL.1;have eR:=zw.len;have q1:∀X,Qg (B2.set b X) (b+3)=[.bs (b+2) 0 (n+1) 1]:=fun X=>by rw[Xl _ zE];exact zw.l1
   have q2:∀X,Qg (B2.set b X) (b+2)=Xn L2:=fun X=>by rw[Xl _ zE];exact zw.l
   have q3:∀X Z,Qg ((B2.set b X).set (b+2) Z) (b+4)=[.fn 263 [] [.ptr (b+3) 0]]:=fun X Z=>by rw[Xl _ zE,Xl _ zE];exact zw.f
   have di:b<B2.length:=zE
   have fO:b+2<B2.length:=zE
   simp[g21,ar9,hke,JT,pL,oA,zw.g1,zw.g,hrow2,hv,asa,ar8,amc,axl,W8,ic,hns,eW,eG,hnl,hL2,q1,q2,q3,di,fO,Ku];have hl3:=hS3.len
   have asb:Qg ((B2.set b (Zh ((gB (stepG s a k v)).set k v))).set (b+2) (Xn (L2.set k (k+1)))) m.boxes.length=[I c.ki,I c.it,I c.fr,I c.to,I c.re,I c.n,I c.a,I c.b]:=by
    rw[Xl _ zE,Xl _ zE];exact hrow2
   have axm:m.boxes.length<((B2.set b (Zh ((gB (stepG s a k v)).set k v))).set (b+2) (Xn (L2.set k (k+1)))).length:=by simpa using hlt2
   refine⟨zE,zE,Ob Y0 k n (b+3) (b+2) _ _ hW3 Ez zE _ _ _ _ zE zE zE hS3.l1 hS3.l _ ?_⟩;intro B4 L4 r4 DA hl4 hW4 axn axo amd axp;have hS4:=hS3.later hb DA hl4;have axq:m.boxes.length<B4.length:=by have:=DA.1;omega
   have asc:Qg B4 m.boxes.length=[I c.ki,I c.it,I c.fr,I c.to,I c.re,I c.n,I c.a,I c.b]:=by
    rw[DA.2 _ axm zE];exact asb
   have hr4:k+1<=r4:=by
    rcases Nat.eq_or_lt_of_le axn with h|h
    ·subst h;rw[ig]at amd;cases amd
    exact h
   have ud:stepG s a (min r4 e) v=(stepG s a k v).set k (some v):=by
    rw[<- dR];refine xw s a (k+1) (min r4 e) v zE (fun j dL ot=>?_);have h1:=Of _ j (axp j zE zE);rw[zzbq zE,Ut]at h1;intro h2;rw[h2]at h1;simp at h1;omega
   simp;refine⟨aR,⟨r4,rfl,zE,axo,L4,by rw[ud];exact hW4,by rw[ud];exact amd,by rw[ud];exact hS4,axq,asc⟩,zE⟩
  have wW:min k e=e:=zE
  rw[wW]at uL hd2 zw;have axr:¬(k:Int)<(e:Int):=zE
  simp[g21,axr,zzbn.2 hke,JT];exact k1 _ ⟨stepG s a e v,L2,ef.symm,uL,zw⟩
 rintro m ⟨s,L,hs,hWF,hSt⟩;rw[Gp]at hs;rw[zzal zd]at hs;have hsf:s=xu C:=by rw[hs];unfold xu;rw[<- hBd,hn]
 rw[<- hsf]at hR;have Gr:s.length=n:=by rw[hs,xB];simp
 refine xy Bd z s R n Gr hn9 hR _ m.boxes m.lens m.st m.ln b (b+1) Bd ?_ ?_ hSt.g1 hSt.g ?_
 ·simp[h8]
 ·simp[pL]
 intro i hi
 have ama:C≠[]:=by
  rintro rfl;rw[hs]at hi;simp[zzck]at hi
 obtain⟨cO,d1,d2,_,_⟩:=hSt.bd ama;refine⟨cO,d1,d2,?_,hn⟩;rw[hs]at hi;have:=Bu Bd C.reverse _ i true (fun c hc=>by rw[hBd,uM];exact(pR (zzfr.1 hc)).2) (fun v=>by simp[zzck]) hi;omega
section
variable (cs:List Cl) (item region:Int)
def axt(C:List Cl)(rt:Rt)(Lm:P1):Prop:=(C=[]/\rt=.nil/\Lm=[])\/(C≠[]/\rt=.own 0 8/\Lm=[C.length])
end
def XX{B:X2}{i:Nat}{v:PQ}(h:Qg B i=v)(hi:i<B.length):B.set i v=B:=by
 apply zzcz;intro j;by_cases hj:j=i
 ·subst hj;rw[zzbg hi,Je hi,h]
 rw[zzbq (fun e=>hj e.symm)]
def Ld(cs:List Cl)(item region:Int)(hl:cs.length<=1000000):Pure Tryz.prog aD 250 [.sl .ro (cs.map Qh),I item,I region] (.sl .ro ((Qck cs item region).map Qe)):=by
 have hR:Qck cs item region=Xj (nJ (dM (Wd cs item region)) (xu (Wd cs item region)) (dM (Wd cs item region)).length):=rfl;have hCl:(Wd cs item region).length<=cs.length:=zzca _ _;obtain⟨CC,hCC⟩:∃CC,Wd cs item region=CC:=⟨_,rfl⟩;rw[hCC]at hR hCl;generalize Qck cs item region=R at hR;refine Qn adU (Ku (dM CC) R) zd ?_;rw[XT];simp[ajh]
 refine Qj dZ (fun f m=>∃(i:Nat)(C:List Cl)(rt:Rt)(Lm:P1)(B:X2),i<=cs.length/\f 27=I i/\f 7=.sl rt (C.map Qh)/\m=⟨B,Lm,fun _=>.gone,0⟩/\C++Wd (cs.drop i) item region=CC/\
   C.length<=i/\0<B.length/\axt C rt Lm/\aeI B C) (fun f _=>cs.length-(numOf (f 27)).toNat) ?_ ?_
 ·exact⟨0,[],.nil,[],[[.sl .nil []]],zE,zd,zd,rfl,Pi hCC,zd,zd,.inl ⟨rfl,rfl,rfl⟩,.inl ⟨rfl,rfl⟩⟩
 rintro f m ⟨i,C,rt,Lm,B,hi,h27,h7,rfl,hC,hCi,gM,bk,sU⟩;rcases zzab i cs.length with aa|bu
 ·obtain⟨c,hc⟩:=aY aa;have ai:Qg (cs.map Qh) i=Qh c:=Qv (by simp[hc]);have ah:(i:Int)<(cs.length:Int):=zE
  have hw:=bR i zE;have hd:cs.drop i=c::cs.drop (i+1):=by rw[zzaf aa,(zza.1 hc).2]
  have hcp:=mj c item region;have XA:=Kq c;rw[hd]at hC
  have skip:Gn item region c=false->C++Wd (cs.drop (i+1)) item region=CC:=by
   intro hb;rw[<- hC];simp[Wd,hb]
  have take:Gn item region c=true->(C++[c])++Wd (cs.drop (i+1)) item region=CC:=by
   intro hb;rw[<- hC];simp[Wd,hb]
  have eX:∀x,Qg (B++x) 0=Qg B 0:=fun x=>Qk gM;by_cases hk:c.ki=1\/c.ki=2
  ·cases e1:gZ c item region with
   |false=>
    have hs:=skip (by simp[Gn,e1]);rw[e1]at hcp;obtain hk|hk:=hk
    ·have kM:(⟨1,c.it,c.fr,c.to,c.re,c.n,c.a,c.b⟩:Cl)=c:=by cases c;simp at hk;subst hk;rfl
     have rC:Pure Tryz.prog aD 257 [.agg [I 1,I c.it,I c.fr,I c.to,I c.re,I c.n,I c.a,I c.b],I item,I region] (.bool false):=by simpa[Qh,hk]using hcp
     simp[h27,h7,aa,ah,ai,Qh,hk,kM,e1,dZ,hw,Ku];refine⟨rC,aR,⟨i+1,zE,zd,C,rt,⟨rfl,rfl⟩,Lm,_,⟨rfl,rfl⟩,hs,zE,zd,bk,sU.app gM _⟩,zE⟩
    have kM:(⟨2,c.it,c.fr,c.to,c.re,c.n,c.a,c.b⟩:Cl)=c:=by cases c;simp at hk;subst hk;rfl
    have rC:Pure Tryz.prog aD 257 [.agg [I 2,I c.it,I c.fr,I c.to,I c.re,I c.n,I c.a,I c.b],I item,I region] (.bool false):=by simpa[Qh,hk]using hcp
    simp[h27,h7,aa,ah,ai,Qh,hk,kM,e1,dZ,hw,Ku];refine⟨rC,aR,⟨i+1,zE,zd,C,rt,⟨rfl,rfl⟩,Lm,_,⟨rfl,rfl⟩,hs,zE,zd,bk,sU.app gM _⟩,zE⟩
   |true=>
    rw[e1]at hcp;cases e2:Xv c with
    |false=>
     have hs:=skip (by simp[Gn,e2]);rw[e2]at XA;obtain hk|hk:=hk
     ·have kM:(⟨1,c.it,c.fr,c.to,c.re,c.n,c.a,c.b⟩:Cl)=c:=by cases c;simp at hk;subst hk;rfl
      have rC:Pure Tryz.prog aD 257 [.agg [I 1,I c.it,I c.fr,I c.to,I c.re,I c.n,I c.a,I c.b],I item,I region] (.bool true):=by simpa[Qh,hk]using hcp
      have nC:Pure Tryz.prog aD 31 [.agg [I 1,I c.it,I c.fr,I c.to,I c.re,I c.n,I c.a,I c.b]] (.bool false):=by simpa[Qh,hk]using XA
      simp[h27,h7,aa,ah,ai,Qh,hk,kM,e1,e2,dZ,hw,Ku];refine⟨rC,nC,aR,⟨i+1,zE,zd,C,rt,⟨rfl,rfl⟩,Lm,_,⟨rfl,rfl⟩,hs,zE,zd,bk,sU.app gM _⟩,zE⟩
     have kM:(⟨2,c.it,c.fr,c.to,c.re,c.n,c.a,c.b⟩:Cl)=c:=by cases c;simp at hk;subst hk;rfl
     have rC:Pure Tryz.prog aD 257 [.agg [I 2,I c.it,I c.fr,I c.to,I c.re,I c.n,I c.a,I c.b],I item,I region] (.bool true):=by simpa[Qh,hk]using hcp
     have nC:Pure Tryz.prog aD 31 [.agg [I 2,I c.it,I c.fr,I c.to,I c.re,I c.n,I c.a,I c.b]] (.bool false):=by simpa[Qh,hk]using XA
     simp[h27,h7,aa,ah,ai,Qh,hk,kM,e1,e2,dZ,hw,Ku];refine⟨rC,nC,aR,⟨i+1,zE,zd,C,rt,⟨rfl,rfl⟩,Lm,_,⟨rfl,rfl⟩,hs,zE,zd,bk,sU.app gM _⟩,zE⟩
    |true=>
     have ht:=take (by simp[Gn,e1,e2,hk]);rw[e2]at XA;obtain hk|hk:=hk
     ·have kM:(⟨1,c.it,c.fr,c.to,c.re,c.n,c.a,c.b⟩:Cl)=c:=by cases c;simp at hk;subst hk;rfl
      have rC:Pure Tryz.prog aD 257 [.agg [I 1,I c.it,I c.fr,I c.to,I c.re,I c.n,I c.a,I c.b],I item,I region] (.bool true):=by simpa[Qh,hk]using hcp
      have nC:Pure Tryz.prog aD 31 [.agg [I 1,I c.it,I c.fr,I c.to,I c.re,I c.n,I c.a,I c.b]] (.bool true):=by simpa[Qh,hk]using XA
      obtain⟨rfl,rfl,rfl⟩|⟨aJ,rfl,rfl⟩:=bk
      ·obtain⟨_,dG⟩|⟨hx,_⟩:=sU
       ·have Le:∀x,Qg (B++x) 0=[.sl .nil []]:=fun x=>by rw[Qk gM];exact dG
        have lM:∀x y,(B++x).set 0 y=B.set 0 y++x:=fun x y=>Yi y gM;simp[h27,h7,aa,ah,ai,Qh,hk,kM,e1,e2,dZ,hw,Le,lM,gM,Ku];refine⟨rC,nC,aR,⟨i+1,zE,zd,[c],.own 0 8,⟨rfl,by simp[Qh,hk]⟩,[1],_,⟨rfl,rfl⟩,ht,zd,zd,.inr ⟨zd,rfl,rfl⟩,.inr ⟨zd,B.length+1,?_,zE,zd,?_⟩⟩,zE⟩
        ·rw[Qk (Pi gM),Zg _ gM];rfl
        have:=Zk (B.set 0 [AV.bs (B.length+1) 0 2 1]) [[I 1,I c.it,I c.fr,I c.to,I c.re,I c.n,I c.a,I c.b],[AV.int IntKind.i64 c.fr,AV.int IntKind.i64 c.to]] 1;rw[zzcm]at this;rw[this];rfl
       exact absurd rfl hx
      obtain⟨hx,_⟩|⟨_,cO,dG,di,fO,Og⟩:=sU
      ·exact absurd hx aJ
      have Le:∀x,Qg (B++x) 0=[.bs cO 0 (fh C).length 1]:=fun x=>by rw[Qk gM];exact dG
      have ame:∀x,Qg (B++x) cO=aj (fh C):=fun x=>by rw[Qk fO];exact Og
      have lM:∀x y,(B++x).set 0 y=B.set 0 y++x:=fun x y=>Yi y gM;have hsb:∀x y,(B++x).set cO y=B.set cO y++x:=fun x y=>Yi y fO;have eW:=pQ C;have iI:=Ub (fh C);have zT:∀x,Qg (B.set cO []++x) 0=[.bs cO 0 (fh C).length 1]:=fun x=>by rw[Qk (Pi gM),Xl _ di,dG]
      have hss:∀x y,(B.set cO []++x).set 0 y=(B.set cO []).set 0 y++x:=fun x y=>Yi y (Pi gM);have bB:(aj (fh C)).take (fh C).length=aj (fh C):=zzal (by rw[iI];exact zzaa _)
      have hnb:aj (fh C)≠[]:=by
       intro h;have:=congrArg List.length h;rw[iI,eW]at this;exact aJ (zzc.1 (by simp at this;omega))
      simp[h27,h7,aa,ah,ai,Qh,hk,kM,e1,e2,dZ,hw,Le,ame,lM,hsb,zT,hss,bB,hnb,gM,fO,iI,Ku];refine⟨rC,nC,⟨?_,zE⟩,⟨zE,zE⟩,aR,⟨i+1,zE,zd,C++[c],.own 0 8,⟨rfl,by simp[Qh,hk]⟩,[C.length+1],_,⟨rfl,rfl⟩,ht,by simp;omega,zd,.inr ⟨zd,rfl,zd⟩,.inr ⟨zd,B.length+1,?_,zE,zd,?_⟩⟩,zE⟩
      ·rintro row (⟨a,_,rfl⟩|rfl)<;>rfl
      ·rw[Qk (Pi gM),Zg _ (Pi gM),pP];simp[fh]
      have:=Zk ((B.set cO []).set 0 [AV.bs (B.length+1) 0 ((fh C).length+2) 1]) [[I 1,I c.it,I c.fr,I c.to,I c.re,I c.n,I c.a,I c.b],aj (fh C)++[AV.int IntKind.i64 c.fr,AV.int IntKind.i64 c.to]] 1;rw[zzcm,zzcm]at this;rw[this,pP,nH];rfl
     have kM:(⟨2,c.it,c.fr,c.to,c.re,c.n,c.a,c.b⟩:Cl)=c:=by cases c;simp at hk;subst hk;rfl
     have rC:Pure Tryz.prog aD 257 [.agg [I 2,I c.it,I c.fr,I c.to,I c.re,I c.n,I c.a,I c.b],I item,I region] (.bool true):=by simpa[Qh,hk]using hcp
     have nC:Pure Tryz.prog aD 31 [.agg [I 2,I c.it,I c.fr,I c.to,I c.re,I c.n,I c.a,I c.b]] (.bool true):=by simpa[Qh,hk]using XA
     obtain⟨rfl,rfl,rfl⟩|⟨aJ,rfl,rfl⟩:=bk
     ·obtain⟨_,dG⟩|⟨hx,_⟩:=sU
      ·have Le:∀x,Qg (B++x) 0=[.sl .nil []]:=fun x=>by rw[Qk gM];exact dG
       have lM:∀x y,(B++x).set 0 y=B.set 0 y++x:=fun x y=>Yi y gM;simp[h27,h7,aa,ah,ai,Qh,hk,kM,e1,e2,dZ,hw,Le,lM,gM,Ku];refine⟨rC,nC,aR,⟨i+1,zE,zd,[c],.own 0 8,⟨rfl,by simp[Qh,hk]⟩,[1],_,⟨rfl,rfl⟩,ht,zd,zd,.inr ⟨zd,rfl,rfl⟩,.inr ⟨zd,B.length+1,?_,zE,zd,?_⟩⟩,zE⟩
       ·rw[Qk (Pi gM),Zg _ gM];rfl
       have:=Zk (B.set 0 [AV.bs (B.length+1) 0 2 1]) [[I 2,I c.it,I c.fr,I c.to,I c.re,I c.n,I c.a,I c.b],[AV.int IntKind.i64 c.fr,AV.int IntKind.i64 c.to]] 1;rw[zzcm]at this;rw[this];rfl
      exact absurd rfl hx
     obtain⟨hx,_⟩|⟨_,cO,dG,di,fO,Og⟩:=sU
     ·exact absurd hx aJ
     have Le:∀x,Qg (B++x) 0=[.bs cO 0 (fh C).length 1]:=fun x=>by rw[Qk gM];exact dG
     have ame:∀x,Qg (B++x) cO=aj (fh C):=fun x=>by rw[Qk fO];exact Og
     have lM:∀x y,(B++x).set 0 y=B.set 0 y++x:=fun x y=>Yi y gM;have hsb:∀x y,(B++x).set cO y=B.set cO y++x:=fun x y=>Yi y fO;have eW:=pQ C;have iI:=Ub (fh C);have zT:∀x,Qg (B.set cO []++x) 0=[.bs cO 0 (fh C).length 1]:=fun x=>by rw[Qk (Pi gM),Xl _ di,dG]
     have hss:∀x y,(B.set cO []++x).set 0 y=(B.set cO []).set 0 y++x:=fun x y=>Yi y (Pi gM);have bB:(aj (fh C)).take (fh C).length=aj (fh C):=zzal (by rw[iI];exact zzaa _)
     have hnb:aj (fh C)≠[]:=by
      intro h;have:=congrArg List.length h;rw[iI,eW]at this;exact aJ (zzc.1 (by simp at this;omega))
     simp[h27,h7,aa,ah,ai,Qh,hk,kM,e1,e2,dZ,hw,Le,ame,lM,hsb,zT,hss,bB,hnb,gM,fO,iI,Ku];refine⟨rC,nC,⟨?_,zE⟩,⟨zE,zE⟩,aR,⟨i+1,zE,zd,C++[c],.own 0 8,⟨rfl,by simp[Qh,hk]⟩,[C.length+1],_,⟨rfl,rfl⟩,ht,by simp;omega,zd,.inr ⟨zd,rfl,zd⟩,.inr ⟨zd,B.length+1,?_,zE,zd,?_⟩⟩,zE⟩
     ·rintro row (⟨a,_,rfl⟩|rfl)<;>rfl
     ·rw[Qk (Pi gM),Zg _ (Pi gM),pP];simp[fh]
     have:=Zk ((B.set cO []).set 0 [AV.bs (B.length+1) 0 ((fh C).length+2) 1]) [[I 2,I c.it,I c.fr,I c.to,I c.re,I c.n,I c.a,I c.b],aj (fh C)++[AV.int IntKind.i64 c.fr,AV.int IntKind.i64 c.to]] 1;rw[zzcm,zzcm]at this;rw[this,pP,nH];rfl
  have h1:¬c.ki=1:=fun h=>hk (.inl h);have h2:¬c.ki=2:=fun h=>hk (.inr h);have hs:=skip (by simp[Gn,h1,h2]);simp[h27,h7,aa,ah,ai,Qh,h1,h2,dZ,hw,Ku];refine⟨aR,⟨i+1,zE,zd,C,rt,⟨rfl,rfl⟩,Lm,_,⟨rfl,rfl⟩,hs,zE,zd,bk,sU.app gM _⟩,zE⟩
 obtain rfl:i=cs.length:=zE
 have hCe:C=CC:=by rw[<- hC];simp[Wd]
 subst hCe;have w11:IntKind.i64.wrap 1=1:=by rw[Qi]<;>omega
 obtain⟨rfl,rfl,rfl⟩|⟨aJ,rfl,rfl⟩:=bk
 ·obtain⟨_,dG⟩|⟨h,_⟩:=sU
  ·have asd:dM []=[]:=by simp[dM,fh,dd]
   simp[h27,h7,dZ,dG,Ku];refine pI _ _ _ _ ?_;simp[dG,Ku];refine Dy _ _ _ ?_;have axu:=XX dG gM;have eX:∀x,Qg (B++x) 0=[.sl .nil []]:=fun x=>by rw[Qk gM,dG]
   simp[dG,axu,gM,eX,Ku,w11,bG];refine Bv [] (dM []) [] R 0 rfl (by rw[asd];rfl) zE zd (by rw[hR,asd];rfl) _ _ _ _ _ B.length .nil .nil gM zd ?_ (fun _=>rfl) ?_ ?_ ?_ ?_ ?_ ?_ ?_ (fun h=>absurd rfl h);all_goals simp[Zh,aj]
  exact absurd rfl h
 obtain⟨h,_⟩|⟨_,cO,dG,di,fO,Og⟩:=sU
 ·exact absurd h aJ
 simp[h27,h7,dZ,dG,Ku];have eW:=pQ C
 have hnb:aj (fh C)≠[]:=by
  intro h;have:=congrArg List.length h;rw[Ub,eW]at this;exact aJ (zzc.1 (by simp at this;omega))
 refine sO _ (fh C) (by rw[eW];omega) _ cO [] ?_ (Pi hnb) _ ?_
 ·show B[cO]?=_;rw[Je fO,Og,zzas]
 obtain⟨l,uF⟩:∃l,(fh C).mergeSort (fun x y=>decide (x<=y))=l:=⟨_,rfl⟩;have EB:(fh C).length=l.length:=by rw[<- uF,zzex]
 have hdl:dd l=dM C:=by rw[<- uF];rfl
 have Gs:∀X,Qg (B.set cO X) 0=[.bs cO 0 (fh C).length 1]:=fun X=>by rw[Xl _ di];exact dG
 have axv:l≠[]:=by
  intro h;have:=congrArg List.length h;rw[<- EB,eW]at this;exact aJ (zzc.1 (by simp at this;omega))
 simp[AM.wr,uF,Gs,EB,Ku];refine sS _ l (by rw[<- EB,eW];omega) _ _ _ _ cO (Pi fO) axv (Zg _ fO) _ ?_;intro B2 z ey tQ hz;rw[hdl]at tQ hz |-
 have ase:0<B2.length:=by have:=ey.1;simp at this;omega
 have axw:Qg B2 0=[.bs cO 0 l.length 1]:=by rw[ey.2 0 (Pi gM) (fun h=>di h.symm),Gs,EB]
 have azf:cO<B2.length:=by have:=ey.1;simp at this;omega
 obtain⟨B3,Oh⟩:∃B3,B2.set 0 [.bs cO 0 (dM C).length 1]=B3:=⟨_,rfl⟩;have axx:B3.length=B2.length:=by rw[<- Oh];simp
 have amf:Qg B3 0=[.bs cO 0 (dM C).length 1]:=by rw[<- Oh];exact Zg _ ase
 have axy:Qg B3 cO=aj (dM C++z):=by rw[<- Oh,Xl _ (fun h=>di h.symm)];exact tQ
 have axz:∀x,Qg (B3++x) 0=[.bs cO 0 (dM C).length 1]:=fun x=>by rw[Qk zE];exact amf
 have axA:0<B3.length:=zE
 have azg:=Oe C;have hwn:IntKind.i64.wrap (((dM C).length:Int)+1)=((dM C).length:Int)+1:=by rw[Qi]<;>omega
 have htn:(((dM C).length:Int)+1).toNat=(dM C).length+1:=zE
 have A2:(0:Int)<=((dM C).length:Int)+1:=zE
 have hf1:=XQ (dM C).length;have hf2:=Gi ((dM C).length+1);simp[axw,ase,Oh,amf,axz,hwn,htn,A2,hf1,hf2,axx.symm,axA,Ku];refine⟨⟨zE,zE⟩,⟨zE,zE⟩,?_⟩;refine Bv C (dM C) z R (dM C).length rfl rfl zE zE hR _ _ _ _ _ B3.length (.own 0 8) .ro zE zd ?_ (fun _=>rfl) ?_ ?_ ?_ ?_ ?_ ?_ ?_ (fun _=>⟨cO,by rw[Qk zE];exact amf,by rw[Qk zE];exact axy,zE,zE⟩);all_goals simp
def pS(nu de f:Int): -1<=Yk nu de f/\Yk nu de f<=100000000:=by
 unfold Yk;split
 ·rename_i h;obtain⟨h1,h2,h3⟩:=h;obtain⟨b1,b2,b3,b4,b5⟩:=Jp h1;have q0:0<=f*de:=zzeh h2 zE;have q1:f*de<=f*nu:=zzfy zE h2;have q2:0<=(f*de).tdiv nu:=Int.tdiv_nonneg q0 zE
  have q3:(f*de).tdiv nu<=f:=by
   rw[zzcj q0];exact Int.ediv_le_of_le_mul zE q1
  omega
 omega
def sV(p:Pl)(f:Int)(ht:0<=p.ep/\p.ep<=9000000000):Pure Tryz.prog aD 228 [.agg (Qa p),I f] (I (p.ep+Yk p.nu p.de f)):=by
 have h:=Q0 p.nu p.de f;have hb:=pS p.nu p.de f;have hw:IntKind.i64.wrap (p.ep+Yk p.nu p.de f)=p.ep+Yk p.nu p.de f:=by rw[Qi]<;>omega
 refine Qn adH (fun _ f' l=>if f'=248 then I (Yk p.nu p.de f)else .junk) zd ?_;simp[ais,Qa,ait,hw];exact h
def xC(p:Pl)(n:Int)(hn: -1000000000000<=n-p.ep/\n-p.ep<=1000000000000)(Y:YT)(m:AM)(b:Nat)(hb:b<m.boxes.length)(hr:Qg m.boxes b=Qa p)(K:UV)(hK:K (I (wX p.nu p.de (n-p.ep))) m):
  aA Tryz.prog aD Y 231 [I n,.ptr b 0] m K:=by
 have h:=Bo p.nu p.de (n-p.ep);have hw:IntKind.i64.wrap (n-p.ep)=n-p.ep:=by rw[Qi]<;>omega
 refine Xh adK (fun _ f' l=>if f'=220 then I (wX p.nu p.de (n-p.ep))else .junk) zd ?_;simp[aix,hr,Qa,aiy,hw,hb];exact⟨h,hK⟩
def lP(p:Pl)(x:It)(region:Int)(s:Sp):List (List Sp):=Qck p.cls x.id region::(uI p.cls x.ra).map fun w=>iD p.of p.sh s w.1 w.2
def Gt(l:List Sp):PQ:=[.sl .ro (l.map Qe)]
def Gu(p:Pl)(x:It)(region:Int)(s:Sp):Pure Tryz.prog aD 229 [.agg (Qa p),.agg (Qm x),I region,.agg [I s.1,I s.2]] (.fn 249 [] [.ep (Qa p) 0,.ep (Qm x) 0,.ep [I region] 0,.ep [I s.1,I s.2] 0]):=by
 refine Qn adI (fun _ _ _=>.junk) zd ?_;simp[aiu,aiv,Qa,Qm]
def Gv(p:Pl)(x:It)(region:Int)(s:Sp)(hc:p.cls.length<=1000000)(fP:p.sh.length<=1000000000)(h1: -9223372036854775808<=s.1/\s.1<=9223372036854775807)(h2: -9223372036854775808<=s.2/\s.2<=9223372036854775807):
  Iter Tryz.prog aD 249 [] [.ep (Qa p) 0,.ep (Qm x) 0,.ep [I region] 0,.ep [I s.1,I s.2] 0] ((lP p x region s).map Gt):=by
 intro Y l m K hF;have asf:=Ld p.cls x.id region hc;have ash:=tZ p.cls x.ra zE
 have hwl:(uI p.cls x.ra).length<=1000000:=by
  unfold uI;rw[zzbu];exact zzb (zzca _ _) hc
 refine Xh adT (fun d f' l=>if f'=250 then .sl .ro ((Qck p.cls x.id region).map Qe)else if f'=251 then .sl .ro ((uI p.cls x.ra).map Qe)else
  if f'=252 then(match l with|[_,_,.int _ a,.int _ b]=>.sl .ro ((iD p.of p.sh s a b).map Qe)|_=>.junk)else .junk) zd ?_
 unfold lP at hF;generalize hS:Qck p.cls x.id region=S at hF asf;generalize hW:uI p.cls x.ra=W at hF ash hwl;simp only[zzay,Gt]at hF;simp[UL,Qa,Qm,hS,hW];refine⟨asf,?_⟩;refine hF _ (fN.refl _) _ (fun m2 gL=>?_) (fun m2 hK=>?_)
 ·rw[zzdc]at gL;simp[hW];refine⟨ash,?_⟩;refine Qj JR (fun f mm=>∃i:Nat,f 23=I i/\i<=W.length/\wQ (Y l) K ((W.drop i).map (Gt ∘ fun w=>iD p.of p.sh s w.1 w.2)) mm) (fun f _=>W.length-(numOf (f 23)).toNat) ?_ ?_
  ·exact⟨0,zd,zE,Pi gL⟩
  rintro f mm ⟨i,h23,hi,hF3⟩;rcases zzab i W.length with aa|bu
  ·obtain⟨w,hw⟩:=aY aa;have zT:=Zv hw;have ah:(i:Int)<(W.length:Int):=zE
   have rE:=bR i zE;have hd:W.drop i=w::W.drop (i+1):=by rw[zzaf aa,(zza.1 hw).2]
   rw[hd,zzay]at hF3;simp only[Function.comp_apply,Gt]at hF3;have axB:=z7 p.of p.sh s w.1 w.2 fP h1 h2
   have fB:∀x,Qg (mm.boxes++[x]) mm.boxes.length=x:=fun x=>by
    simp
   simp[h23,JR,aa,ah,zT,fB];refine⟨axB,?_⟩;refine hF3 _ (fN.box mm [[I w.1,I w.2]]) _ (fun m3 XY=>?_) (fun m3 hK=>?_)
   ·simp[rE];refine⟨aR,⟨i+1,zE,zE,by rw[<- zzfq];exact XY⟩,zE⟩
   simp[NG];exact hK _ (fN.refl _)
  obtain rfl:i=W.length:=zE
  rw[zzbx,zzcu]at hF3;simp[h23,JR,NG];exact hF3 _ (fN.refl _)
 simp[NG];exact hK _ (fN.refl _)
def XZ:SC:=(⟨_,by cbv⟩:KM [1,1,1,1,1,1,1,1,1,1,1,1,0,1] EY).1
def pT:SC->SC:=(⟨_,fun _=>by cbv⟩:FO [1,1,1,1,1,1,1,1,1,1,1,1,0,1] EY).1
theorem jt:EY=pT XZ:=rfl
def uN(p:Pl)(w:Sp):Sp:=(wX p.nu p.de (w.1-p.ep),wX p.nu p.de (w.2-p.ep))
def Bw(Y:YT)(p:Pl)(orc:X1)(ho:∀d l,orc d 74 l=.gd false .junk)(ho9:∀d l,orc d 999999 l=.junk)(E:R0)(m:AM)(U:List Sp)(rt:Rt)(Q:T5)
  (h85:Abs.look E 85=.sl rt (U.map Qe))(h86:Abs.look E 86=I U.length)(h87:Abs.look E 87=I 0)(ue:Abs.look E 14=.fn 231 [] [.ptr 0 0])(sP:Abs.look E 15=.sl .nil [])
  (h0:0<m.boxes.length)(hr:Qg m.boxes 0=Qa p)(hU:U.length<=10000000)(hUb:∀w∈U,(-1000000000000<=w.1-p.ep/\w.1-p.ep<=1000000000000)/\(-1000000000000<=w.2-p.ep/\w.2-p.ep<=1000000000000))
  (hQ:∀E' bx Lm AZ,gj vH E' E->Abs.look E' 15=.sl AZ ((U.map (uN p)).map Qe)->(AZ=.nil/\U=[]\/U≠[]/\∃k,AZ=.own k 2)->Q .normal ⟨Zr 108 E',⟨m.boxes++bx,Lm,m.st,m.ln⟩⟩):
  vc Tryz.prog aD orc Y XZ ⟨Zr 108 E,m⟩ Q:=by
 simp[XZ];refine Qj vH (fun f mm=>∃(i:Nat)(bx:X2)(Lm:P1)(AZ:Rt),f 87=I i/\i<=U.length/\mm=⟨m.boxes++bx,Lm,m.st,m.ln⟩/\f 15=.sl AZ ((U.map (Qe ∘ uN p)).take i)/\(i=0/\AZ=.nil\/i≠0/\∃k,AZ=.own k 2/\Lm[k]?=some i)) (fun f _=>U.length-(numOf (f 87)).toNat) ?_ ?_
 ·exact⟨0,[],m.lens,.nil,by simp[h87],zE,zd,by simp[sP],.inl ⟨rfl,rfl⟩⟩
 rintro f mm ⟨i,bx,Lm,AZ,h87',hi,rfl,h15',bk⟩;rcases zzab i U.length with aa|bu
 ·obtain⟨w,hw⟩:=aY aa;have zT:=Zv hw;obtain⟨c1,c2⟩:=hUb w (zzac hw);have ah:(i:Int)<(U.length:Int):=zE
  have rE:=bR i zE;have iL:IntKind.i64.wrap 1=1:=by rw[Qi]<;>omega
  have bB:U.take (i+1)=U.take i++[w]:=by rw[zzax,hw];rfl
  have iJ:(U.take i).length=i:=by rw[zzaq];omega
  have Bq:∀x,Qg (m.boxes++(bx++[x])) (m.boxes.length+bx.length)=x:=fun x=>by
   simp
  have CX:∀x,Qg (m.boxes++x) 0=Qa p:=fun x=>by rw[Qk h0];exact hr
  have e1:=fun m' h1 h2 K hK=>xC p w.1 c1 Y m' 0 h1 h2 K hK;have e2:=fun m' h1 h2 K hK=>xC p w.2 c2 Y m' 0 h1 h2 K hK;have hG:(U.map (Qe ∘ uN p)).take (i+1)=(U.map (Qe ∘ uN p)).take i++[[I (wX p.nu p.de (w.1-p.ep)),I (wX p.nu p.de (w.2-p.ep))]]:=by rw[zzax,zzbf,hw];rfl
  have hGl:((U.map (Qe ∘ uN p)).take i).length=i:=by rw[zzaq,zzbu];omega
  have hG2:∀row∈(U.map (Qe ∘ uN p)).take i,row.length=2:=by
   intro row h;obtain⟨a,_,rfl⟩:=zzbh.1 (zzce h);rfl
  generalize hGG:(U.map (Qe ∘ uN p)).take i=G at*
  obtain⟨rfl,rfl⟩|⟨aJ,k,rfl,hk⟩:=bk
  ·simp[h87',h85,h86,ue,h15',vH,aa,ah,zT,Bq,ho,ho9];refine Qaw [(I (wX p.nu p.de (w.1-p.ep)),⟨m.boxes++(bx++[[I w.1,I w.2]]),Lm,m.st,m.ln⟩),(I (wX p.nu p.de (w.2-p.ep)),⟨m.boxes++(bx++[[I w.1,I w.2]]),Lm,m.st,m.ln⟩)] ?_;simp[h87',h85,h86,ue,h15',aa,ah,zT,Bq,ho,ho9,rE,iL];refine⟨e1 _ (by simp;omega) (CX _) _ ⟨rfl,rfl⟩,e2 _ (by simp;omega) (CX _) _ ⟨rfl,rfl⟩,⟨by rintro row (h|rfl);exact hG2 row h;rfl,zE⟩,ag ?_,?_,zE⟩
   ·repeat(first|exact Qb _ _|refine Qc _ rfl ?_)
   exact⟨1,rfl,zE,_,_,⟨rfl,rfl⟩,_,⟨rfl,hG.symm⟩,.inr ⟨zE,Lm.length,rfl,by simp[hGl]⟩⟩
  simp[h87',h85,h86,ue,h15',vH,aa,ah,zT,Bq,ho,ho9];refine Qaw [(I (wX p.nu p.de (w.1-p.ep)),⟨m.boxes++(bx++[[I w.1,I w.2]]),Lm,m.st,m.ln⟩),(I (wX p.nu p.de (w.2-p.ep)),⟨m.boxes++(bx++[[I w.1,I w.2]]),Lm,m.st,m.ln⟩)] ?_;simp[h87',h85,h86,ue,h15',aa,ah,zT,Bq,ho,ho9,rE,hk];refine⟨e1 _ (by simp;omega) (CX _) _ ⟨rfl,rfl⟩,e2 _ (by simp;omega) (CX _) _ ⟨rfl,rfl⟩,⟨hGl.symm,by rintro row (h|rfl);exact hG2 row h;rfl,zE⟩,ag ?_,?_,zE⟩
  ·repeat(first|exact Qb _ _|refine Qc _ rfl ?_)
  exact⟨i+1,zE,zE,_,_,⟨rfl,rfl⟩,_,⟨rfl,hG.symm⟩,.inr ⟨zE,k,rfl,by simp[hGl,(zza.1 hk).1]⟩⟩
 obtain rfl:i=U.length:=zE
 rw[zzal zd]at h15';simp[h87',h86,vH];refine hQ _ bx Lm AZ ?_ ?_ ?_
 ·repeat(first|exact Qb _ _|refine Qc _ rfl ?_)
 ·simp[h15']
 obtain⟨h1,h2⟩|⟨h1,k,h2,h3⟩:=bk
 ·exact .inl ⟨h2,zzc.1 h1⟩
 exact .inr ⟨fun h=>h1 (by rw[h];rfl),k,h2⟩
def Lg:∀(l:List Sp)(lo hi:Int),VS l->(∀w∈l,lo<=w.1/\w.2<=hi)->(l.length:Int)<=max 0 (hi-lo)
 |[],lo,hi,_,_=>by simp only[zzcd];omega
 |s::l,lo,hi,h,hb=>by
  obtain⟨h1,h2,h3⟩:=dm.1 h;have:=Lg l (s.2+1) hi h3 (fun w hw=>⟨by have:=h2 w hw;omega,(hb w (by simp[hw])).2⟩);have b:=hb s zd;simp only[zzav];omega
def SZ(lo hi:Int)(l:List Sp):Prop:=∀w∈l,lo<=w.1/\w.1<=hi/\lo<=w.2/\w.2<=hi
def uO{lo hi:Int}{a b:List Sp}(h:SZ lo hi a):SZ lo hi (zV a b):=by
 obtain⟨⟨h1,_⟩,h2⟩:=kU a b;intro w hw;have aa:=h1 w hw;obtain⟨s,hs,s1,s2⟩:=((h2 w.1).1 ⟨w,hw,zE,aa⟩).1;obtain⟨t,ht,t1,t2⟩:=((h2 (w.2-1)).1 ⟨w,hw,zE,zE⟩).1;have:=h s hs;have:=h t ht;omega
def X0{lo hi:Int}{a b:List Sp}(h:SZ lo hi a):((zV a b).length:Int)<=max 0 (hi-lo):=
 Lg _ _ _ (kU a b).1 (fun w hw=>⟨(uO h w hw).1,(uO h w hw).2.2.2⟩)
def kV{nu de f g:Int}(hv:Vg nu de=true)(h0:0<=f)(hfg:f<=g)(hg:g<=100000000):Yk nu de f<=Yk nu de g/\Yk nu de g<=Yk nu de f+(g-f):=by
 obtain⟨b1,b2,b3,b4,b5⟩:=Jp hv;rw[Yk,Yk,if_pos ⟨hv,h0,zE⟩,if_pos ⟨hv,zE,hg⟩];have q0:0<=f*de:=zzeh h0 zE;have q1:0<=g*de:=zzeh zE zE;rw[zzcj q0,zzcj q1];have m1:f*de<=g*de:=Int.mul_le_mul_of_nonneg_right hfg zE;have m2:(g-f)*de<=(g-f)*nu:=zzfy zE zE
 have m3:g*de<=f*de+(g-f)*nu:=by
  have:g*de=f*de+(g-f)*de:=by rw[<- Int.add_mul];congr 1;omega
  omega
 constructor
 ·exact Int.ediv_le_ediv zE m1
 have:=Int.ediv_le_ediv (c:=nu) zE m3;rw[Int.add_mul_ediv_right _ _ zE]at this;exact this
def Q7(s:Sp):Sp:=(max s.1 0,min s.2 100000001)
def uS(p:Pl)(c:Sp):Sp:=(p.ep+Yk p.nu p.de c.1,p.ep+Yk p.nu p.de (c.2-1)+1)
def iE(p:Pl)(x:It)(region:Int)(u:Sp)(i:Nat):List Sp:=((lP p x region u).take i).foldl zV [u]
def Vo(p:Pl)(id region:Int)(s:Sp):List Sp:=
 let c:=Q7 s
 match Xg id p.aO with
 |none=>[]
 |some x=>if region<0\/8<=region\/c.2<=c.1\/1000000<c.2-c.1 then[]else if x.ki=5 then[c]else if Jz p=false then[]else
  zV ((iE p x region (uS p c) (lP p x region (uS p c)).length).map (uN p)) [c]
def rF:PQ->Sp
 |[.int _ a,.int _ b]=>(a,b)
 |_=>(0,0)
@[simp] def aeK(l:List Sp):(l.map Qe).map rF=l:=by
 induction l with
 |nil=>rfl
 |cons a l ih=>simp only[zzay,ih];rfl
@[simp] def asi(l:List Sp):l.map (rF ∘ Qe)=l:=by rw[<- zzdc];exact aeK l
@[simp] theorem asj(a b:Int):rF [I a,I b]=(a,b):=rfl
def Aa(p:Pl)(id region:Int)(s:Sp):X1:=fun d f l=>
 if f=999999 then .junk else
 if f=218 then Zq (Xg id p.aO)else
 if f=227 then .bool (Jz p)else
 if f=228 then(match l with|[_,.int _ n]=>I (p.ep+Yk p.nu p.de n)|_=>.junk)else
 if f=229 then(match l with|[_,.agg x,_,.agg u]=>.fn 249 [] [.ep (Qa p) 0,.ep x 0,.ep [I region] 0,.ep u 0]|_=>.junk)else
 if f=230 then(match l with|[.sl _ A,.sl _ B]=>.sl .ro ((zV (A.map rF) (B.map rF)).map Qe)|_=>.junk)else .gd false .junk
def Lh(cs:List Cl)(item region:Int)(h:cs.length<=1000000):(Qck cs item region).length<=2000000:=by
 have h1:=Yt (nJ (dM (Wd cs item region)) (xu (Wd cs item region)) (dM (Wd cs item region)).length);have h2:=xx (dM (Wd cs item region)) (xu (Wd cs item region)) (dM (Wd cs item region)).length;have h3:=Oe (Wd cs item region);have h4:(Wd cs item region).length<=cs.length:=zzca _ _;unfold Qck;omega
def X3(p:Pl)(x:It)(region:Int)(u:Sp)(h:p.cls.length<=1000000):∀l∈lP p x region u,l.length<=2000000:=by
 intro l hl;rw[lP,zzao,zzbh]at hl;obtain rfl|⟨w,_,rfl⟩:=hl
 ·exact Lh _ _ _ h
 have:=XI p.of p.sh u w.1 w.2;omega
def DB{lo hi:Int}:∀(ls:List (List Sp))(a:List Sp),SZ lo hi a->SZ lo hi (ls.foldl zV a)
 |[],a,h=>h
 |l::r,a,h=>DB r _ (uO h)
def Bx{lo hi:Int}:∀(ls:List (List Sp))(a:List Sp),SZ lo hi a->(a.length:Int)<=max 1 (hi-lo)->((ls.foldl zV a).length:Int)<=max 1 (hi-lo)
 |[],a,_,h=>h
 |l::r,a,h,hl=>Bx r _ (uO h) (by have:=X0 (b:=l) h;omega)
def Gw(p:Pl)(id region:Int)(s:Sp)(hc:p.cls.length<=1000000)(fP:p.sh.length<=1000000000)(cN:p.aO.length<=1000000000)(h1: -9223372036854775808<=s.1/\s.1<=9223372036854775807)(h2: -9223372036854775808<=s.2/\s.2<=9223372036854775807):
  ∃rt,Pure Tryz.prog aD 194 [.agg (Qa p),I id,I region,.agg [I s.1,I s.2]] (.sl rt ((Vo p id region s).map Qe)):=by
 have sW:=kS p id cN;have k70:=KX p fP;obtain⟨c,hcS⟩:∃c,Q7 s=c:=⟨_,rfl⟩;have hcb:0<=c.1/\c.2<=100000001/\c.1<=9223372036854775807/\ -9223372036854775808<=c.2:=by rw[<- hcS,Q7];simp only;omega
 have hmx:max s.1 0=c.1:=by rw[<- hcS];rfl
 have hmn:min s.2 100000001=c.2:=by rw[<- hcS];rfl
 have Gx:(if s.1<0 then 0 else s.1)=c.1:=zE
 have Gy:(if 100000001<s.2 then 100000001 else s.2)=c.2:=zE
 cases hfx:Xg id p.aO with
 |none=>
  have hP:Vo p id region s=[]:=by simp[Vo,hfx]
  rw[hP];refine⟨.nil,Qn oI (Aa p id region s) zd ?_⟩;rw[jt];simp[pT,Qa,Aa,hfx,Zq,gT,Gx,Gy];simpa[hfx,Zq,Qa]using sW
 |some x=>
  rw[hfx]at sW;by_cases hb:region<0\/8<=region\/c.2<=c.1\/1000000<c.2-c.1
  ·have hP:Vo p id region s=[]:=by simp only[Vo,hfx,hcS,if_pos hb]
   rw[hP];refine⟨.nil,Qn oI (Aa p id region s) zd ?_⟩;have Li:Abs.Pure Tryz.prog aD 218 [.agg (Qa p),I id] (.aQ [.agg (Qm x),.bool true]):=sW;rw[jt];by_cases b1:region<0
   ·simp[pT,Qa,Aa,hfx,Zq,Qm,gT,Gx,Gy,b1,Qe];exact Li
   by_cases b2:8<=region
   ·simp[pT,Qa,Aa,hfx,Zq,Qm,gT,Gx,Gy,b1,b2,Qe];exact Li
   by_cases b3:c.2<=c.1
   ·simp[pT,Qa,Aa,hfx,Zq,Qm,gT,Gx,Gy,b1,b2,b3,Qe];exact Li
   have b4:1000000<c.2-c.1:=zE
   have hw:IntKind.i64.wrap (c.2-c.1)=c.2-c.1:=by rw[Qi]<;>omega
   simp[pT,Qa,Aa,hfx,Zq,Qm,gT,Gx,Gy,b1,b2,b3,b4,hw,Qe];exact Li
  simp only[not_or]at hb;obtain⟨b1,b2,b3,b4⟩:=hb;have hw:IntKind.i64.wrap (c.2-c.1)=c.2-c.1:=by rw[Qi]<;>omega
  by_cases hk:x.ki=5
  ·have hP:Vo p id region s=[c]:=by simp only[Vo,hfx,hcS,if_neg (show¬(region<0\/8<=region\/c.2<=c.1\/1000000<c.2-c.1) by omega),if_pos hk]
   rw[hP];refine⟨.full,Qn oI (Aa p id region s) zd ?_⟩;rw[jt];simp[pT,Qa,Aa,hfx,Zq,Qm,gT,Gx,Gy,b1,b2,b3,b4,hw,hk,Qe];rw[Zq,Qm,hk]at sW;exact sW
  have axC:=pS p.nu p.de c.1;have avw:=pS p.nu p.de (c.2-1);have iL:IntKind.i64.wrap (c.2-1)=c.2-1:=by rw[Qi]<;>omega
  have Li:Abs.Pure Tryz.prog aD 218 [.agg (Qa p),I id] (.aQ [.agg (Qm x),.bool true]):=sW;by_cases ht:Jz p=true
  ·have hte:Vg p.nu p.de=true/\0<=p.ep/\p.ep<=9000000000:=by
    simp only[Jz,zzai,decide_eq_true_eq]at ht;exact⟨ht.1.1,ht.2⟩
   have fE:IntKind.i64.wrap (p.ep+Yk p.nu p.de (c.2-1)+1)=p.ep+Yk p.nu p.de (c.2-1)+1:=by rw[Qi]<;>omega
   have S0:IntKind.i64.wrap (p.ep+Yk p.nu p.de c.1)=p.ep+Yk p.nu p.de c.1:=by rw[Qi]<;>omega
   have asl:=k70;rw[ht]at asl;have k71:=sV p c.1 hte.2;have axD:=sV p (c.2-1) hte.2;obtain⟨u,hu⟩:∃u,uS p c=u:=⟨_,rfl⟩;have hu1:p.ep+Yk p.nu p.de c.1=u.1:=by rw[<- hu];rfl
   have J9:p.ep+Yk p.nu p.de (c.2-1)+1=u.2:=by rw[<- hu];rfl
   have hu3:IntKind.i64.wrap u.2=u.2:=by rw[<- J9];exact fE
   have hdf:=kV (f:=c.1) (g:=c.2-1) hte.1 zE zE zE;have k72:=Gu p x region u
   have hP:Vo p id region s=zV ((iE p x region u (lP p x region u).length).map (uN p)) [c]:=by
    simp only[Vo,hfx,hcS,hu,if_neg (show¬(region<0\/8<=region\/c.2<=c.1\/1000000<c.2-c.1) by omega),if_neg hk,ht];simp
   rw[hP];refine⟨.ro,Qn oI (Aa p id region s) zd ?_⟩;rw[jt];simp[pT,Qa,Aa,hfx,Zq,Qm,Gx,Gy,b1,b2,b3,b4,hw,hk,Qe,ht,iL,fE,hu1,J9,hu3];rw[hu1]at k71;refine⟨Li,asl,k71,axD,k72,?_⟩;have hub: -9223372036854775808<=u.1/\u.1<=9223372036854775807/\ -9223372036854775808<=u.2/\u.2<=9223372036854775807:=zE
   have hLi:=Gv p x region u hc fP ⟨hub.1,hub.2.1⟩ hub.2.2;have hLl:=X3 p x region u hc;have asm:SZ u.1 u.2 [u]:=by intro w hw;simp at hw;subst hw;omega
   have axE:∀i,SZ u.1 u.2 (iE p x region u i):=fun i=>DB _ _ asm
   have oU:∀i,(iE p x region u i).length<=2000000:=fun i=>by
    have:=Bx ((lP p x region u).take i) [u] asm (by simp;omega);unfold iE;omega
   have qC:∀i l,(lP p x region u)[i]?=some l->iE p x region u (i+1)=zV (iE p x region u i) l:=fun i l h=>by
    unfold iE;rw[zzax,h,zzgo];rfl
   have hc0:iE p x region u 0=[u]:=by simp[iE]
   have hps:∀y,uN p y=uN p y:=fun _=>rfl;generalize hXs:lP p x region u=Xs at*
   refine jm (xs:=Xs.map Gt) (by simp;exact⟨rfl,rfl⟩) hLi (by intro y hy;simp[Gt]at hy;obtain⟨a,_,rfl⟩:=hy;rfl)
    (fun i m=>∃(bx:X2)(rt:Rt),m.boxes=Qa p::[I c.1,I c.2]::Qm x::[I u.1,I u.2]::[.sl rt ((iE p x region u i).map Qe)]::bx/\(rt=.full\/rt=.ro)) (fun _ _=>False) ?_ ?_ (fun _ _ _ h=>h.elim) ?_ ?_ (fun _ _ h=>h.elim)
   ·refine⟨[],.full,?_,.inl rfl⟩;rw[hc0];rfl
   ·rintro i m m' ⟨bx,rt,hb,bk⟩ ⟨⟨b2,e1⟩,_,_⟩;exact⟨bx++b2,rt,by rw[e1,hb];rfl,bk⟩
   ·rintro l i m y hg hr ⟨bx,rt,hb,bk⟩ hy K' q1 _ _;rw[zzbf,zzbd]at hy;obtain⟨y,hy,rfl⟩:=hy;rw[Us]at hb;have hyl:=hLl y (zzac hy);have k73:=jk (iE p x region u i) y (by have:=oU i;omega) zE;have hn:=qC i y hy;generalize iE p x region u i=C at*
    obtain rfl|rfl:=bk
    ·have axF:=Xp (l:=[.sl .full (C.map Qe),.sl .ro (y.map Qe)]) k73 ⟨Wk.sl _ _,Pa,trivial⟩;simp[hr,Zi,Gt,hb,Aa];refine⟨axF,q1 _ ⟨bx,.ro,?_,.inr rfl⟩⟩;simp[hb,hn]
    simp[hr,Zi,Gt,hb,Aa];refine⟨k73,q1 _ ⟨bx,.ro,?_,.inr rfl⟩⟩;simp[hb,hn]
   rintro m ⟨bx,rt,hb,bk⟩;have hcU:=oU Xs.length;have hcI:=axE Xs.length;rw[zzbu]at hb;generalize iE p x region u Xs.length=C at*
   have k73:=jk (C.map (uN p)) [c] (by simp;omega) zd;have sU:∀w∈C,(-1000000000000<=w.1-p.ep/\w.1-p.ep<=1000000000000)/\(-1000000000000<=w.2-p.ep/\w.2-p.ep<=1000000000000):=fun w hw=>by have:=hcI w hw;omega
   have leaf:∀rt,Abs.Pure Tryz.prog aD 230 [.sl rt (C.map (Qe ∘ uN p)),.sl .full [[I c.1,I c.2]]] (.sl .ro ((zV (C.map (rF ∘ Qe ∘ uN p)) [(c.1,c.2)]).map Qe))/\(zV (C.map (rF ∘ Qe ∘ uN p)) [(c.1,c.2)]).map Qe=(zV (C.map (uN p)) [c]).map Qe:=by
    have e1:C.map (rF ∘ Qe ∘ uN p)=C.map (uN p):=zzde fun _ _=>rfl;intro rt;rw[e1];refine⟨?_,rfl⟩;have:=Xp (l:=[.sl rt ((C.map (uN p)).map Qe),.sl .full ([c].map Qe)]) k73 ⟨Wk.sl _ _,Wk.sl _ _,trivial⟩;rw[zzdc]at this;exact this
   obtain rfl|rfl:=bk
   ·simp[hb];refine Bw Y0 p (Aa p id region s) (fun _ _=>rfl) (fun _ _=>rfl) _ _ C .full _ zd zd zd zd zd (by simp[hb]) (by simp[hb]) zE sU ?_;intro E' bx' Lm AZ hA sP X4;have h7:Abs.look E' 7=.ptr 1 0:=by rw[hA 7 (by decide)];simp
    obtain⟨rfl,hC⟩|⟨hC,k,rfl⟩:=X4
    ·simp[h7,sP,hb,Aa,gT];exact leaf _
    simp[h7,sP,hb,Aa,gT];exact leaf _
   simp[hb];refine Bw Y0 p (Aa p id region s) (fun _ _=>rfl) (fun _ _=>rfl) _ _ C .ro _ zd zd zd zd zd (by simp[hb]) (by simp[hb]) zE sU ?_;intro E' bx' Lm AZ hA sP X4;have h7:Abs.look E' 7=.ptr 1 0:=by rw[hA 7 (by decide)];simp
   obtain⟨rfl,hC⟩|⟨hC,k,rfl⟩:=X4
   ·simp[h7,sP,hb,Aa,gT];exact leaf _
   simp[h7,sP,hb,Aa,gT];exact leaf _
  have X5:Jz p=false:=by simpa using ht
  rw[X5]at k70;have hP:Vo p id region s=[]:=by simp only[Vo,hfx,hcS,if_neg (show¬(region<0\/8<=region\/c.2<=c.1\/1000000<c.2-c.1) by omega),if_neg hk,if_pos X5]
  rw[hP];refine⟨.nil,Qn oI (Aa p id region s) zd ?_⟩;rw[jt];simp[pT,Qa,Aa,hfx,Zq,Qm,gT,Gx,Gy,b1,b2,b3,b4,hw,hk,Qe,X5];exact⟨Li,k70⟩
def nM(p:Pl)(id region:Int)(s:Sp)(hc:p.cls.length<=1000000)(fP:p.sh.length<=1000000000)(cN:p.aO.length<=1000000000)(h1: -9223372036854775808<=s.1/\s.1<=9223372036854775807)(h2: -9223372036854775808<=s.2/\s.2<=9223372036854775807):
  Pure Tryz.prog aD 194 [.agg (Qa p),I id,I region,.agg [I s.1,I s.2]] (.sl .ro ((Vo p id region s).map Qe)):=by
 obtain⟨rt,h⟩:=Gw p id region s hc fP cN h1 h2;exact Zx h (Wk.sl _ _)
def X6{lo hi:Int}{a b:List Sp}(h:SZ lo hi b):SZ lo hi (zV a b):=by
 obtain⟨⟨h1,_⟩,h2⟩:=kU a b;intro w hw;have aa:=h1 w hw;obtain⟨s,hs,s1,s2⟩:=((h2 w.1).1 ⟨w,hw,zE,aa⟩).2;obtain⟨t,ht,t1,t2⟩:=((h2 (w.2-1)).1 ⟨w,hw,zE,zE⟩).2;have:=h s hs;have:=h t ht;omega
def Qcu(p:Pl)(id region:Int)(s:Sp):(Vo p id region s).length<=1000000:=by
 unfold Vo;simp only;generalize Q7 s=c;cases Xg id p.aO with
 |none=>simp
 |some x=>
  simp only;split
  ·simp
  rename_i hb;simp only[not_or]at hb;split
  ·simp
  split
  ·simp
  have bU:SZ c.1 c.2 [c]:=by intro w hw;simp at hw;subst hw;omega
  have:=Lg _ c.1 c.2 (kU ((iE p x region (uS p c) (lP p x region (uS p c)).length).map (uN p)) [c]).1 (fun w hw=>by have:=X6 bU w hw;omega);omega
def X7(f:Int):Bool:=decide (0<=f/\f<=100000000)
def Xx(p:Pl)(id region f n:Int):Bool:=
 if n<1\/1000000<n\/X7 f=false\/X7 (f+n-1)=false then false else(Dq [(f,f+n)] (Vo p id region (f,f+n))).isEmpty
def By(p:Pl)(id region f n:Int):X1:=fun d g l=>
 if g=192 then(match l with|[.int _ n]=>.bool (X7 n)|_=>.junk)else
 if g=194 then .sl .ro ((Vo p id region (f,f+n)).map Qe)else
 if g=193 then .bool (Dq [(f,f+n)] (Vo p id region (f,f+n))).isEmpty else .junk
def Qee(p:Pl)(id region f n:Int)(hc:p.cls.length<=1000000)(fP:p.sh.length<=1000000000)(cN:p.aO.length<=1000000000):
  Pure Tryz.prog aD 151 [.agg (Qa p),I id,I region,I f,I n] (.bool (Xx p id region f n)):=by
 have k34:=sQ f;have aeL:=sQ (f+n-1);refine Qn acJ (By p id region f n) zd ?_;by_cases b1:n<1
 ·simp[AF,Qa,By,AG,b1,Xx]
 by_cases b2:1000000<n
 ·simp[AF,Qa,By,AG,b1,b2,Xx]
 by_cases b3:X7 f=true
 ·have b3':0<=f/\f<=100000000:=by simpa[X7]using b3
  have iL:IntKind.i64.wrap (f+n)=f+n:=by rw[Qi]<;>omega
  have fE:IntKind.i64.wrap (f+n-1)=f+n-1:=by rw[Qi]<;>omega
  rw[show decide (0<=f/\f<=100000000)=true from b3]at k34;by_cases b4:X7 (f+n-1)=true
  ·rw[show decide (0<=f+n-1/\f+n-1<=100000000)=true from b4]at aeL;have k36:=nM p id region (f,f+n) hc fP cN (by simp only;omega) (by simp only;omega);have k35:=F6 (Vo p id region (f,f+n)) (f,f+n) (by have:=Qcu p id region (f,f+n);omega);simp[AF,Qa,By,AG,b1,b2,b3,b4,iL,fE,Xx];exact⟨k34,aeL,k36,k35⟩
  have b4':X7 (f+n-1)=false:=by simpa using b4
  rw[show decide (0<=f+n-1/\f+n-1<=100000000)=false from b4']at aeL;simp[AF,Qa,By,AG,b1,b2,b3,b4',iL,fE,Xx];exact⟨k34,aeL⟩
 have b3':X7 f=false:=by simpa using b3
 rw[show decide (0<=f/\f<=100000000)=false from b3']at k34;simp[AF,Qa,By,AG,b1,b2,b3',Xx];exact k34
def Zf(id:Int):List En->Option En
 |[]=>none
 |x::r=>if x.id=id then some x else Zf id r
def Ws:Option En->AV
 |some x=>.aQ [.agg (Qd x),.bool true]
 |none=>.aQ [.agg [I 0,I 0,I 0,I 0,I 0,I 0,.sl .nil []],.bool false]
def nN(e:En):Pure Tryz.prog aD 145 [.agg (Qd e)] (I e.id):=by
 refine Qn acE (fun _ _ _=>.junk) zd ?_;simp[aho,Qd,ahp]
def Lj(L:List En)(id:Int)(hl:L.length<=1000000000):Pure Tryz.prog aD 144 [.sl .ro (L.map Qd),I id,.fn 145 [] []] (Ws (Zf id L)):=by
 refine Qn Cz (fun _ f l=>if f=145 then(match l with|[.agg (c::_)]=>c|_=>.junk)else .junk) zd ?_;simp[Nd];refine Qj dY (fun f m=>∃(i:Nat)(bx:X2),f 13=I i/\i<=L.length/\Zf id (L.drop i)=Zf id L/\m=⟨[I 0,I 0,I 0,I 0,I 0,I 0,.sl .nil []]::bx,[],fun _=>.gone,0⟩) (fun f _=>L.length-(numOf (f 13)).toNat) ?_ ?_
 ·exact⟨0,[],zd,zE,rfl,rfl⟩
 rintro f m ⟨i,bx,fD,hi,hf,rfl⟩;rcases zzab i L.length with aa|bu
 ·obtain⟨x,hx⟩:=aY aa;have ai:Qg (L.map Qd) i=Qd x:=Qv (by simp[hx]);have ah:(i:Int)<(L.length:Int):=zE
  have hw:=bR i zE;have hd:L.drop i=x::L.drop (i+1):=by rw[zzaf aa,(zza.1 hx).2]
  have hk:=nN x;rw[hd,Zf]at hf;by_cases aM:x.id=id
  ·rw[if_pos aM]at hf;simp[fD,aa,ah,ai,Qd,aM,dY,vw,<- hf,Ws];simpa[Qd,aM]using hk
  rw[if_neg aM]at hf;simp[fD,aa,ah,ai,Qd,aM,dY,hw];refine⟨hk,aR,⟨i+1,zd,zE,hf⟩,zE⟩
 rw[zzam bu]at hf;have bU:¬(i:Int)<(L.length:Int):=zE
 simp[fD,zzbn.2 bu,bU,dY,vw,<- hf,Ws,Zf]
def Ll{w:World}{γ:G}{rows:X2}{v:Value}(h:au w γ (.sl .ro rows) v):au w γ (.sl .nil rows) v\/au w γ (.sl .nn rows) v:=by
 cases h with
 |sl b off sz cv hcap hnil ha hsz hc hr bk=>
  rename_i a cap;by_cases e:a=none
  ·exact .inl (.sl b off sz cv hcap hnil ha hsz hc hr e)
  exact .inr (.sl b off sz cv hcap hnil ha hsz hc hr e)
def sX{P:Program}{gl:Nat->AV}{f:FuncId}{rows:X2}{r:AV}(h:Pure P gl f [.sl .nil rows] r)(k:Pure P gl f [.sl .nn rows] r):Pure P gl f [.sl .ro rows] r:=
 ⟨h.1,fun ro w vs eG hr=>by
  match vs,hr with
  |[v],hr=>
   rcases Ll (hr.2 0 _ v rfl rfl)with h1|h1
   ·exact h.2 ro w [v] eG ⟨rfl,fun i x y hx hy=>by
     cases i with
     |zero=>cases hx;cases hy;exact h1
     |succ i=>cases hx⟩
   exact k.2 ro w [v] eG ⟨rfl,fun i x y hx hy=>by
    cases i with
    |zero=>cases hx;cases hy;exact h1
    |succ i=>cases hx⟩
  |[],hr=>exact absurd hr.1 zd
  |_::_::_,hr=>exact absurd hr.1 zd⟩
def DC:Pure Tryz.prog aD 60 [.sl .nn []] (.sl .ro []):=by
 have:∃rt,Pure Tryz.prog aD 60 [.sl .nn []] (.sl rt []):=by
  refine⟨.ro,Qn JD (fun _ _ _=>.junk) zd ?_⟩;simp[abW,abX]
 obtain⟨rt,h⟩:=this;exact Zx h (Wk.sl _ _)
def Qcf(l:List Sp)(hl:l.length<=8796093022208):Pure Tryz.prog aD 60 [.sl .ro (l.map Qe)] (.sl .ro (l.map Qe)):=by
 cases l with
 |nil=>exact sX (Zx jv (Wk.sl _ _)) DC
 |cons x r=>
  refine Qn JD (fun _ _ _=>.junk) zd ?_;simp[abW,abX];simp at hl;refine⟨⟨rfl,?_⟩,zE⟩;rintro row a b _ rfl;rfl
def Ln(p:Pl)(id:Int)(hl:p.ens.length<=1000000000)(ha:∀e∈p.ens,e.al.length<=8796093022208):Pure Tryz.prog aD 93 [.agg (Qa p),I id] (Ws (Zf id p.ens)):=by
 have h59:=Lj p.ens id hl;refine Qn Tt (fun _ f l=>if f=144 then Ws (Zf id p.ens)else l.headD .junk) zd ?_;cases hf:Zf id p.ens with
 |none=>
  rw[hf]at h59;simp[ab1,ab2,Qa,Ws,hf];exact⟨h59,jv⟩
 |some x=>
  rw[hf]at h59
  have hx:x∈p.ens:=by
   have:∀l:List En,Zf id l=some x->x∈l:=by
    intro l;induction l with
    |nil=>intro h;cases h
    |cons y r ih=>
     intro h;simp only[Zf]at h;split at h
     ·cases h;simp
     simp[ih h]
   exact this _ hf
  have hc:=Qcf x.al (ha x hx);simp[ab1,ab2,Qa,Ws,Qd,hf];exact⟨h59,hc⟩
def Lo(e:It):Pure Tryz.prog aD 179 [.agg (Qm e)] (I e.id):=by
 refine Qn Nk (fun _ _ _=>.junk) zd ?_;simp[T4,Qm,T6]
def xD(L:List It)(id:Int)(hl:L.length<=1000000000):Pure Tryz.prog aD 191 [.sl .ro (L.map Qm),I id,.fn 179 [] []] (Zq (Xg id L)):=by
 refine Qn adg (fun _ f l=>if f=179 then(match l with|[.agg (c::_)]=>c|_=>.junk)else .junk) zd ?_;simp[ahX];refine Qj CH (fun f m=>∃(i:Nat)(bx:X2),f 13=I i/\i<=L.length/\Xg id (L.drop i)=Xg id L/\m=⟨[I 0,I 0,I 0,I 0,I 0]::bx,[],fun _=>.gone,0⟩) (fun f _=>L.length-(numOf (f 13)).toNat) ?_ ?_
 ·exact⟨0,[],zd,zE,rfl,rfl⟩
 rintro f m ⟨i,bx,fD,hi,hf,rfl⟩;rcases zzab i L.length with aa|bu
 ·obtain⟨x,hx⟩:=aY aa;have ai:Qg (L.map Qm) i=Qm x:=Qv (by simp[hx]);have ah:(i:Int)<(L.length:Int):=zE
  have hw:=bR i zE;have hd:L.drop i=x::L.drop (i+1):=by rw[zzaf aa,(zza.1 hx).2]
  have hk:=Lo x;rw[hd,Xg]at hf;by_cases aM:x.id=id
  ·rw[if_pos aM]at hf;simp[fD,aa,ah,ai,Qm,aM,CH,UB,<- hf,Zq];simpa[Qm,aM]using hk
  rw[if_neg aM]at hf;simp[fD,aa,ah,ai,Qm,aM,CH,hw];refine⟨hk,aR,⟨i+1,zd,zE,hf⟩,zE⟩
 rw[zzam bu]at hf;have bU:¬(i:Int)<(L.length:Int):=zE
 simp[fD,zzbn.2 bu,bU,CH,UB,<- hf,Zq,Xg]
def Q8(p:Pl)(id:Int)(hl:p.aO.length<=1000000000):Pure Tryz.prog aD 147 [.agg (Qa p),I id] (Zq (Xg id p.aO)):=by
 have h:=xD p.aO id hl;refine Qn Ng (fun _ f l=>if f=191 then Zq (Xg id p.aO)else .junk) zd ?_;cases hf:Xg id p.aO with
 |none=>
  rw[hf]at h;simp[EV,EW,Qa,Zq,hf];exact h
 |some x=>
  rw[hf]at h;simp[EV,EW,Qa,Zq,Qm,hf];exact h
def xE(p:Pl)(f t:Int):Pure Tryz.prog aD 94 [.agg (Qa p),I f,I t] (.fn 146 [] [.ep (Qa p) 0,.ep [I f] 0,.ep [I t] 0]):=by
 refine Qn ald (fun _ _ _=>.junk) zd ?_;simp[apC,apD,Qa]
def Uq(b:Nat->Bool):Nat->Int
 |0=>0
 |n+1=>Uq b n+if b n then 2 ^ n else 0
def DD(b:Nat->Bool):∀n,0<=Uq b n/\Uq b n<2 ^ n
 |0=>by simp[Uq]
 |n+1=>by
  have:=DD b n;have h2:(2:Int) ^ (n+1)=2*2 ^ n:=by rw[Int.pow_succ];omega
  rw[Uq,h2];split<;>omega
def X8:∀i:Nat,i<8->∀x:Nat,x<2 ^ i->IntKind.i64.wrap (((((x:Int)%2 ^ IntKind.i64.bits).toNat|||(IntKind.i64.wrap (2 ^ min i IntKind.i64.bits)%2 ^ IntKind.i64.bits).toNat:Nat)):Int)=(x:Int)+2 ^ i:=by
 decide+kernel
def sY(Y:YT)(p:Pl)(h:FuncId)(cap:PQ)(b:Nat->Bool)(m:AM)(K:UV)
  (hg:∀(i:Nat)(mm:AM),i<8->(i:Int)<p.rg->(∃bx,mm=⟨m.boxes++bx,m.lens,m.st,m.ln⟩)->∀K':UV,K' (.bool (b i)) mm->aA Tryz.prog aD Y h ([I i]++cap) mm K')
  (hK:∀bx,K (I (Uq b (min p.rg 8).toNat)) ⟨m.boxes++bx,m.lens,m.st,m.ln⟩):aA Tryz.prog aD Y 148 [.agg (Qa p),.fn h [] cap] m K:=by
 refine Xh acG (fun _ _ _=>.gd false .junk) zd ?_;obtain⟨n,hn⟩:∃n,(min p.rg 8).toNat=n:=⟨_,rfl⟩
 have CX:Qg (m.boxes++[Qa p]) m.boxes.length=Qa p:=by
  simp
 rw[hn]at hK;have hmn:(if 8<p.rg then 8 else p.rg)=min p.rg 8:=zE
 simp only[Qa]at CX;simp[ahq,Qa,CX];refine Qj JP (fun f mm=>∃(i:Nat)(bx:X2),f 10=I i/\(i=0\/i<=n)/\mm=⟨m.boxes++bx,m.lens,m.st,m.ln⟩/\f 5=I (Uq b i)) (fun f _=>n-(numOf (f 10)).toNat) ?_ ?_
 ·exact⟨0,_,zd,.inl rfl,rfl,by simp[Uq]⟩
 rintro f mm ⟨i,bx,lN,hi,rfl,h5⟩;by_cases aa:(i:Int)<min p.rg 8
 ·have bU:i<n:=zE
  have hw:=bR i zE;have gV:=DD b i;have hg':=hg i ⟨m.boxes++bx,m.lens,m.st,m.ln⟩ zE zE ⟨_,rfl⟩
  have hor:IntKind.i64.wrap ((((Uq b i%2 ^ IntKind.i64.bits).toNat|||(IntKind.i64.wrap (2 ^ min i IntKind.i64.bits)%2 ^ IntKind.i64.bits).toNat:Nat)):Int)=Uq b i+2 ^ i:=by
   obtain⟨x,hx⟩:∃x:Nat,Uq b i=(x:Int):=⟨(Uq b i).toNat,zE⟩
   have hx2:x<2 ^ i:=by
    have h2:=gV.2;rw[hx]at h2
    exact_mod_cast h2
   rw[hx];exact X8 i zE x hx2
  have hms:Uq b (i+1)=Uq b i+if b i then 2 ^ i else 0:=rfl;simp[lN,h5,JP,hmn,aa];refine hg' _ ?_;cases hb:b i with
  |true=>
   rw[hb]at hms;simp[hor,hw];refine⟨aR,⟨i+1,zE,zE,by rw[hms];rfl⟩,zE⟩
  |false=>
   rw[hb]at hms;simp[hw];refine⟨aR,⟨i+1,zE,zE,by rw[hms];simp⟩,zE⟩
 have bU:i=n:=zE
 subst bU;simp[lN,h5,JP,hmn,aa,ahr];exact hK _
def Yz(fr t a:Int):Int:=if 1<=fr then min (t-a) fr else t-a
def Vl(fr t a:Int):List (Int×Int):=if a<t then(a,Yz fr t a)::Vl fr t (a+Yz fr t a)else[]
termination_by(t-a).toNat
decreasing_by simp only[Yz];split<;>omega
def Vz(p:Pl):Int:=match Xg p.fi p.aO with|some x=>x.fr|none=>0
def Gz(p:Pl):Int:=Uq (fun _=>true) (min p.rg 8).toNat
def Qas(p:Pl)(x:Int×Int):PQ:=[.agg [I 0,I p.fi,I x.1,I x.2,I 0,I (Gz p),.sl .nil []]]
def asn(p:Pl):X1:=fun _ f _=>if f=147 then Zq (Xg p.fi p.aO)else .gd false .junk
def xF(p:Pl)(f t:Int)(hl:p.aO.length<=1000000000)(hb: -1000000000<=f/\t<=1000000000)(hf:f<=1000000000/\ -1000000000<=t):
  Gd Tryz.prog aD 146 [] [.ep (Qa p) 0,.ep [I f] 0,.ep [I t] 0] ((Vl (Vz p) t f).map (Qas p)):=by
 intro Y l m K hF;have X9:=Q8 p p.fi hl;refine Xh acF (asn p) zd ?_
 obtain⟨b,row,aso,ai⟩:∃(b:Bool)(y:It),Zq (Xg p.fi p.aO)=.aQ [.agg (Qm y),.bool b]/\y.fr=Vz p:=by
  unfold Vz;cases Xg p.fi p.aO with
  |none=>exact⟨false,⟨0,0,0,0,0⟩,rfl,rfl⟩
  |some x=>exact⟨true,x,rfl,rfl⟩
 rw[aso]at X9;simp[TP,Qa,asn,aso,Qm]
 refine⟨X9,sY Y p 149 [] (fun _=>true) _ _ (fun i mm _ _ _ K' h=>by
  show aA _ _ _ _ [I (i:Int)] _ _;refine Xh acH (fun _ _ _=>.junk) zd ?_;simp[ahs,aht];exact h) fun bx=>?_⟩
 obtain⟨B0,gM⟩:∃B0,m.boxes.length=B0:=⟨_,rfl⟩;have mA:=hF.ext (m':=⟨m.boxes++[[I row.id,I row.ki,I row.fr,I row.sp,I row.ra]]++bx,m.lens,m.st,m.ln⟩) ⟨zd,fun j hj _=>by rw[zzaz];exact Qk hj,⟨[],zd⟩,fun _ _=>rfl⟩;simp only[gM];refine Qj CA (fun g mm=>∃(a:Int)(O:Nat->Prop),g 8=I a/\ -1000000000<=a/\a<=1000000000/\B0<mm.boxes.length/\Qg mm.boxes B0=[I row.id,I row.ki,I row.fr,I row.sp,I row.ra]/\O B0/\mq (Y l) K ((Vl (Vz p) t a).map (Qas p)) O mm) (fun g _=>(t-numOf (g 8)).toNat) ?_ ?_
 ·refine⟨f,_,zd,zE,zE,by simp[gM],?_,.inr ⟨zE,by simp;omega⟩,mA⟩;show Qg (m.boxes++[_]++bx) B0=_;rw[Qk (by simp;omega)];subst gM;simp
 rintro g mm ⟨a,O,h8,a1,a2,KY,SV,zZ,hFo⟩;by_cases aa:a<t
 ·rw[Vl,if_pos aa]at hFo;simp only[zzay,Qas]at hFo;have iL:IntKind.i64.wrap (t-a)=t-a:=by rw[Qi]<;>omega
  have S1:Yz (Vz p) t a=if 1<=row.fr then min (t-a) row.fr else t-a:=by rw[Yz,ai]
  have IV:1<=Yz (Vz p) t a/\Yz (Vz p) t a<=t-a:=by rw[S1];split<;>omega
  have fE:IntKind.i64.wrap (a+Yz (Vz p) t a)=a+Yz (Vz p) t a:=by rw[Qi]<;>omega
  have hmn:(if row.fr<t-a then row.fr else t-a)=min (t-a) row.fr:=zE
  have hM:Uq (fun _=>true) (min p.rg 8).toNat=Gz p:=rfl;generalize hN:Yz (Vz p) t a=N at*
  have key:∀g1,(1<=row.fr->g1=min (t-a) row.fr)->True:=fun _ _=>trivial;have hwN:IntKind.i64.wrap N=N:=by rw[Qi]<;>omega
  by_cases zQ:1<=row.fr
  ·rw[if_pos zQ]at S1;simp[h8,CA,aa,SV,zQ,iL,hmn,<- S1,hwN,hM,KY];refine hFo _ (bQ.refl _ _) _ (fun m2 zw gL=>?_) (fun m2 hK=>?_)
   ·have q1:Qg m2.boxes B0=[I row.id,I row.ki,I row.fr,I row.sp,I row.ra]:=by rw[zw.2 B0 (.inl zZ)];exact SV
    have uF:=zw.1;simp[fE];refine⟨aR,⟨zE,zE,zE,q1,_,.inl zZ,gL⟩,zE⟩
   simp[Nf];exact hK _ (bQ.refl _ _)
  rw[if_neg zQ]at S1;simp[h8,CA,aa,SV,zQ,iL,<- S1,hwN,hM,KY];refine hFo _ (bQ.refl _ _) _ (fun m2 zw gL=>?_) (fun m2 hK=>?_)
  ·have q1:Qg m2.boxes B0=[I row.id,I row.ki,I row.fr,I row.sp,I row.ra]:=by rw[zw.2 B0 (.inl zZ)];exact SV
   have uF:=zw.1;simp[fE];refine⟨aR,⟨zE,zE,zE,q1,_,.inl zZ,gL⟩,zE⟩
  simp[Nf];exact hK _ (bQ.refl _ _)
 rw[Vl,if_neg aa]at hFo;simp only[zzcu]at hFo;simp[h8,CA,aa,Nf];exact hFo _ (bQ.refl _ _)
def GA(Y:YT)(p:Pl)(e:En)(a r fr:Int)(m:AM)(bp bf be:Nat)(hc:p.cls.length<=1000000)(fP:p.sh.length<=1000000000)(cN:p.aO.length<=1000000000)
  (h1:Qg m.boxes bp=Qa p)(h2:Qg m.boxes bf=[I fr])(h3:Qg m.boxes be=Qd e)(K:UV)(hK:K (.bool (Xx p a r fr e.fr)) m):
  aA Tryz.prog aD Y 150 [I a,I r,.ptr bp 0,.ptr bf 0,.ptr be 0] m K:=by
 have k:=Qee p a r fr e.fr hc fP cN;refine Xh acI (fun _ f _=>if f=151 then .bool (Xx p a r fr e.fr)else .junk) zd ?_;simp only[Qa]at h1;simp only[Qd]at h3;simp[ahu,ahv,h1,h2,h3];exact⟨k,hK⟩
def Ys(Y:YT)(p:Pl)(e:En)(r fr:Int)(m:AM)(bp bf be bg:Nat)(hc:p.cls.length<=1000000)(fP:p.sh.length<=1000000000)(cN:p.aO.length<=1000000000)
  (h1:Qg m.boxes bp=Qa p)(h2:Qg m.boxes bf=[I fr])(h3:Qg m.boxes be=Qd e)(h4:Qg m.boxes bg=[.fn 150 [] [.ptr bp 0,.ptr bf 0,.ptr be 0]])(K:UV)(hK:K (.bool (Xx p e.it r fr e.fr)) m):
  aA Tryz.prog aD Y 152 [I r,.ptr bg 0,.ptr be 0] m K:=by
 have k:=GA Y p e e.it r fr m bp bf be hc fP cN h1 h2 h3;refine Xh acK (fun _ _ _=>.gd false .junk) zd ?_;simp only[Qd]at h3;simp[ahw,h4,h3];refine k _ ?_;simp[ahx];exact hK
end
