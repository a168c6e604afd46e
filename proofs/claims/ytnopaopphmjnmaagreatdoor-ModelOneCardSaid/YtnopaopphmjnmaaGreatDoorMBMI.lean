import Derived.Test.YtnopaopphmjnmaaGreatDoorMBSpG
set_option linter.all false
set_option maxRecDepth 100000
set_option maxHeartbeats 64000000
namespace Go.Proofs.YtnopaopphmjnmaaGreatDoor
noncomputable section
open Go Go.Abs
def Ud(l:List Int):(aj l).length=l.length:=by simp[aj]
def nj{l:List Int}{i:Nat}{x:Int}(h:l[i]?=some x):(aj l).drop i=I x::aj (l.drop (i+1)):=by
 unfold aj;rw[<- zzgd];have ai:=(zza.1 h).1;rw[zzaf ai,(zza.1 h).2];rfl
def J9(l:List Int)(i:Nat)(x:Int):(aj l).set i (I x)=aj (l.set i x):=by simp[aj,zzfd]
def nk(a b:List Int):aj (a++b)=aj a++aj b:=by simp[aj]
def W5(l:List Int):Zg (aj l)=true:=by
 simp[Zg,aj]
def vX:∀(l:List Int)(r:List AV),aU 1 l.length (aj l++r)=l.map fun x=>[I x]
 |[],_=>rfl
 |s::l,r=>by simpa[aj]using vX l r
def Fm(n:Nat):bG n [I 0]=aj (List.replicate n 0):=by
 induction n with
 |zero=>rfl
 |succ n ih=>rw[bG,ih];rfl
def Fo{l:List Int}{i:Nat}{x:Int}(h:l[i]?=some x):Qh (l.map fun x=>[I x]) i=[I x]:=Qs (by simp[h])
def dd:List Int->List Int
 |[]=>[]
 |[x]=>[x]
 |x::y::r=>if x=y then dd (y::r)else x::dd (y::r)
theorem Fp(x y:Int)(r:List Int):dd (x::y::r)=if x=y then dd (y::r)else x::dd (y::r):=rfl
def Cw:∀(p:List Int)(a b:Int),dd (p++[a]++[b])=dd (p++[a])++(if b=a then[]else[b])
 |[],a,b=>by
  by_cases h:b=a
  ·subst h;simp[dd]
  have:¬a=b:=fun e=>h e.symm;simp[dd,h,this]
 |[x],a,b=>by
  have ih:=Cw [] a b;simp only[zzai,zzae]at ih |-
  rw[Fp x a [b],Fp x a [],ih];by_cases hx:x=a
  ·rw[if_pos hx,if_pos hx]
  rw[if_neg hx,if_neg hx];rfl
 |x::y::p,a,b=>by
  have ih:=Cw (y::p) a b;simp only[zzae]at ih |-
  rw[Fp x y (p++[a]++[b]),Fp x y (p++[a]),ih];by_cases hx:x=y
  ·rw[if_pos hx,if_pos hx]
  rw[if_neg hx,if_neg hx];rfl
def NP{l:List Int}{j:Nat}{a b:Int}(ha:l[j]?=some a)(hb:l[j+1]?=some b):dd (l.take (j+2))=dd (l.take (j+1))++(if b=a then[]else[b]):=by
 have e1:l.take (j+1)=l.take j++[a]:=by rw[zzar,ha];rfl
 have e2:l.take (j+2)=l.take j++[a]++[b]:=by rw[show j+2=(j+1)+1 from rfl,zzar,hb,e1];rfl
 rw[e2,e1,Cw]
def Kf:∀l:List Int,(dd l).length<=l.length
 |[]=>by simp[dd]
 |[x]=>by simp[dd]
 |x::y::r=>by
  have:=Kf (y::r);rw[dd];split<;>simp at*<;>omega
def Ks:∀(l:List Int)(x:Int),x∈dd l<->x∈l
 |[],x=>by simp[dd]
 |[y],x=>by simp[dd]
 |a::b::r,x=>by
  have ih:=Ks (b::r) x;rw[dd];split
  ·rename_i h;subst h;rw[ih];simp
  rw[zzau,ih,zzau (a:=x) (b:=a)]
def W6:∀{l:List Int},l.Pairwise (·<=·)->(dd l).Pairwise (·<·)
 |[],_=>by simp[dd]
 |[x],_=>by simp[dd]
 |x::y::r,h=>by
  obtain⟨h1,h2⟩:=zzbw.1 h;have ih:=W6 h2;rw[dd];split
  ·exact ih
  rename_i aJ;refine zzbw.2 ⟨fun z hz=>?_,ih⟩;have hz':=(Ks _ _).1 hz;have hxy:=h1 y (by simp);rcases zzau.1 hz' with rfl|hz'
  ·omega
  have:=(zzbw.1 h2).1 z hz';omega
def r9(Y:YT)(l:List Int)(hl:l.length<=1000000000)(B:List (List AV))(L:List Nat)(st:Nat->LS)(n id:Nat)(aO:id<B.length)(aJ:l≠[])(hB:Qh B id=aj l)(K:AV->AM->Prop)
  (hK:∀(B':List (List AV))(z:List Int),aZ (·=id) B B'->Qh B' id=aj (dd l++z)->(dd l).length+z.length=l.length->K (.bs id 0 (dd l).length 1) ⟨B',L,st,n⟩):
  an Tryz.prog az Y 161 [.bs id 0 l.length 1] ⟨B,L,st,n⟩ K:=by
 have aH:=Ud l;have eO:0<l.length:=zzct.2 aJ;refine Xd BC (fun _ _ _=>.junk) (by simp) ?_;by_cases h2:l.length<2
 ·have DN:(l.length:Int)<2:=by omega
  have hd:dd l=l:=by
   match l,aJ,h2 with
   |[x],_,_=>rfl
  have:=hK B [] (aZ.refl _ _) (by rw[hd,zzat];exact hB) (by rw[hd];simp);rw[hd]at this;simp[uJ,zN,DN];exact this
 have DN:¬(l.length:Int)<2:=by omega
 simp[uJ,DN];refine Qj BD (fun f m=>∃k:Nat,f 3=I k/\1<=k/\k<=l.length/\m=⟨B,L,st,n⟩/\dd (l.take k)=l.take k) (fun f _=>l.length-(numOf (f 3)).toNat) ?_ ?_
 ·refine⟨1,by simp,by omega,by omega,rfl,?_⟩
  match l,aJ with
  |x::r,_=>rfl
 rintro f m ⟨k,h3,cV,hk,rfl,SR⟩;rcases zzaa k l.length with ai|bB
 ·obtain⟨k',rfl⟩:∃k',k=k'+1:=⟨k-1,by omega⟩;obtain⟨a,ha⟩:∃a,l[k']?=some a:=⟨_,zzad (by omega)⟩;obtain⟨b,hb⟩:∃b,l[k'+1]?=some b:=⟨_,zzad ai⟩;have ga:=nj ha;have gb:=nj hb;have aeF:((k':Int)+1)<(l.length:Int):=by omega
  have ajq:(k':Int)<(l.length:Int):=by omega
  have V4:k'<l.length:=by omega
  have eU:IntKind.i64.wrap ((k':Int)+1-1)=(k':Int):=by rw[Qi]<;>omega
  have arl:IntKind.i64.wrap (k':Int)=(k':Int):=by rw[Qi]<;>omega
  have ee:IntKind.i64.wrap ((k':Int)+1+1)=((k'+1+1:Nat):Int):=by rw[Qi]<;>omega
  have Ae:(0:Int)<=(k':Int)+1:=by omega
  have htn:((k':Int)+1).toNat=k'+1:=by omega
  have hdt:=NP ha hb;by_cases WC:b=a
  ·rw[if_pos WC,zzat]at hdt;simp[h3,aeF,ajq,hB,ga,gb,arl,Ae,htn,WC,BD];have cc:(k':Int)+1<=(l.length:Int):=by omega
   refine⟨cc,?_⟩
   refine Qj BE (fun f m=>∃(k t:Nat)(B':List (List AV))(L':List Int),f 3=I k/\f 5=I ((t+1:Nat):Int)/\k'+1+(t+1)<=l.length/\1<=k/\k<=k'+1+t/\m=⟨B',L,st,n⟩/\aZ (·=id) B B'/\Qh B' id=aj L'/\L'.length=l.length/\
    L'.take k=dd (l.take (k'+1+(t+1)))/\L'.drop (k'+1+t)=l.drop (k'+1+t)) (fun f _=>l.length-(k'+1)-(numOf (f 5)).toNat) ?_ ?_
   ·refine⟨k'+1,0,B,l,by simp,by simp,by omega,by omega,by omega,rfl,aZ.refl _ _,hB,rfl,?_,rfl⟩;rw[show k'+1+(0+1)=k'+2 by omega,hdt,SR]
   rintro g m ⟨k,t,B',L',g3,g5,ht,W7,hkt,rfl,fq,td,tg,bz,W8⟩;have cE:id<B'.length:=zzbb aO fq.1;have jh:=Ud L';rcases zzaa (k'+1+(t+1)) l.length with Ao|hjg
   ·obtain⟨x,hx⟩:∃x,l[k'+1+t]?=some x:=⟨_,zzad (by omega)⟩;obtain⟨y,hy⟩:∃y,l[k'+1+t+1]?=some y:=⟨_,zzad (by omega)⟩
    have ov:L'[k'+1+t]?=some x:=by
     have:=congrArg (fun q=>q[0]?) W8;simpa[hx]using this
    have hy':L'[k'+1+t+1]?=some y:=by
     have:=congrArg (fun q=>q[1]?) W8;simpa[hy]using this
    have gx:=nj ov;have gy:(aj L').drop (k'+1+(t+1))=I y::aj (L'.drop (k'+1+t+1+1)):=nj hy';have W9:=NP hx hy;rw[show k'+1+t+2=k'+1+(t+1+1) by omega,show k'+1+t+1=k'+1+(t+1) by omega,<- bz]at W9
    have hdn:L'.drop (k'+1+(t+1))=l.drop (k'+1+(t+1)):=by
     have:=congrArg (List.drop 1) W8;simpa[zzdo,zzao,zzfa,Nat.add_left_comm]using this
    have fI:(t+1:Nat)<l.length-(k'+1):=by omega
    have NQ:((t:Int)+1)<((l.length-(k'+1):Nat):Int):=by omega
    have ajr:(t:Int)<((l.length-(k'+1):Nat):Int):=by omega
    have axo:t<l.length-(k'+1):=by omega
    have hwt:IntKind.i64.wrap (t:Int)=(t:Int):=by rw[Qi]<;>omega
    have arn:IntKind.i64.wrap ((t:Int)+1+1)=((t+1+1:Nat):Int):=by rw[Qi]<;>omega
    have XA:=bJ k (by omega);have alZ:((t:Int)+1).toNat=t+1:=by omega
    have aro:(0:Int)<=(t:Int)+1:=by omega
    have XB:(k:Int)<(l.length:Int):=by omega
    have al0:k<l.length:=by omega
    have bZ:=J9 L' k y;by_cases hyx:y=x
    ·rw[if_pos hyx,zzat]at W9;simp[g3,g5,td,gx,gy,NQ,ajr,hwt,arn,alZ,aro,hyx,BE];refine⟨aN,⟨k,rfl,t+1,by simp,by omega,W7,by omega,fq,L',rfl,tg,W9.symm,hdn⟩,by omega⟩
    rw[if_neg hyx]at W9;simp[g3,g5,td,gx,gy,NQ,ajr,hwt,arn,XA,alZ,aro,hyx,XB,bZ,cE,BE];refine⟨by rw[jh];omega,aN,⟨k+1,by simp,t+1,by simp,by omega,by omega,by omega,fq.set (.inl rfl) _,L'.set k y,Vp _ cE,by simpa using tg,?_,?_⟩,by omega⟩
    ·rw[zzar,zzaz (by omega),zzfw (by omega)];exact W9.symm
    rw[show k'+1+(t+1)=k'+1+(t+1)from rfl,zzfx (by omega)];exact hdn
   have bI:¬(t:Int)+1<((l.length-(k'+1):Nat):Int):=by omega
   have XB:(k:Int)<(l.length:Int):=by omega
   have al0:k<l.length:=by omega
   have avD:(k:Int)<=(l.length:Int):=by omega
   have ajs:dd l=L'.take k:=by rw[bz,zzam (by omega)]
   have arp:(dd l).length=k:=by rw[ajs,zzaq];omega
   have ei:aj L'≠[]:=by
    intro h;have:=congrArg List.length h;rw[jh,tg]at this;simp at this;exact aJ this
   have p6:setA (aj L') k (bG (l.length-k) [I 0])=aj (dd l++List.replicate (l.length-k) 0):=by
    have e1:L'=L'.take k++L'.drop k:=by simp
    conv=>lhs;rw[e1]
    rw[nk,nk,Fm,ajs];have e2:(aj (L'.take k)).length=k:=by rw[Ud,zzaq];omega
    have:=oI (aj (List.replicate (l.length-k) 0)) (aj (L'.take k)) (aj (L'.drop k)) (by rw[Ud,Ud,zzdu,zzcn,tg]);rw[e2]at this;exact this
   simp[g3,g5,td,BE,zN,bI,XB,avD,cE,ei,jh,tg,p6];refine⟨by omega,?_⟩;have:=hK (B'.set id (aj (dd l++List.replicate (l.length-k) 0))) (List.replicate (l.length-k) 0) (fq.set (.inl rfl) _) (Vp _ cE) (by rw[arp];simp;omega);rw[arp]at this;exact this
  rw[if_neg WC]at hdt;simp[h3,aeF,ajq,hB,ga,gb,arl,ee,Ae,htn,WC,BD];refine⟨aN,⟨k'+1+1,by omega,by omega,by omega,?_⟩,by omega⟩
  ·rw[show k'+1+1=k'+2 by omega,hdt,SR,zzar (l:=l) (i:=k'+1),hb];rfl
 obtain rfl:k=l.length:=by omega
 rw[zzbm]at SR;have DM:¬((l.length:Nat):Int)<(l.length:Int):=by omega
 have:=hK B [] (aZ.refl _ _) (by rw[SR,zzat];exact hB) (by rw[SR];simp);rw[SR]at this;simp[h3,BD,zN];exact this
def Fq(a:Int):Pure Tryz.prog az 328 [I a] (.bool false):=by
 refine Qn ad3 (fun _ _ _=>.junk) (by simp) ?_;simp[aiN,aiO]
def Fs(a:Int):Pure Tryz.prog az 311 [I a] (.bool false):=by
 refine Qn adS (fun _ _ _=>.junk) (by simp) ?_;simp[aiw,aix]
def QF(a b:Int):Pure Tryz.prog az 289 [I a,I b] (.bool (decide (a<b))):=by
 have h:=Fq a;refine Qn adO (fun _ _ _=>.bool false) (by simp) ?_;simp[aiq,air];exact h
def qK(l:List Int)(x:Int):Nat:=(l.filter fun y=>decide (y<x)).length
def al1{l:List Int}{x:Int}{i:Nat}(hi:i<=l.length)(h1:∀(k:Nat)(y:Int),k<i->l[k]?=some y->y<x)(h2:∀(k:Nat)(y:Int),i<=k->l[k]?=some y->x<=y):qK l x=i:=by
 unfold qK;have e:l=l.take i++l.drop i:=by simp
 rw[e,zzcp]
 have e1:(l.take i).filter (fun y=>decide (y<x))=l.take i:=by
  rw[zzfy];intro y hy;obtain⟨k,hk⟩:=zzby.1 hy;rw[zzbi]at hk;split at hk
  ·simpa using h1 k y (by assumption) hk
  cases hk
 have e2:(l.drop i).filter (fun y=>decide (y<x))=[]:=by
  rw[zzeh];intro y hy;obtain⟨k,hk⟩:=zzby.1 hy;rw[zzbj]at hk;have:=h2 (i+k) y (by omega) hk;simp;omega
 rw[e1,e2];simp;omega
def oJ(l:List Int)(x:Int)(hl:l.length<=1000000000)(hs:l.Pairwise (·<=·)):Pure Tryz.prog az 258 [.sl .ro (l.map fun y=>[I y]),I x] (.aV [I (qK l x:Nat),.bool (decide (l[qK l x]?=some x))]):=by
 refine Qn ads (fun _ f a=>if f=289 then(match a with|[.int _ a,.int _ b]=>.bool (decide (a<b))|_=>.junk)else .bool false) (by simp) ?_;simp[UJ]
 refine Qj qm (fun f m=>∃i j:Nat,f 7=I i/\f 8=I j/\i<=j/\j<=l.length/\m=⟨[],[],fun _=>.gone,0⟩/\(∀(k:Nat)(y:Int),k<i->l[k]?=some y->y<x)/\∀(k:Nat)(y:Int),j<=k->l[k]?=some y->x<=y)
  (fun f _=>(numOf (f 8)).toNat-(numOf (f 7)).toNat) ?_ ?_
 ·refine⟨0,l.length,by simp,by simp,by omega,by omega,rfl,fun k y h=>by omega,fun k y h1 h2=>?_⟩;rw[zzax h1]at h2;cases h2
 rintro f m ⟨i,j,h7,h8,eM,hj,rfl,ha,hb⟩;rcases zzaa i j with ai|bB
 ·have V7:(i+j)/2<l.length:=by omega
  obtain⟨y,hy⟩:∃y,l[(i+j)/2]?=some y:=⟨_,zzad V7⟩;obtain⟨s,hse⟩:∃s,s=(i+j)/2:=⟨_,rfl⟩;rw[<- hse]at hy;have aa:=Fo hy;have ajt:(i:Int)<(j:Int):=by omega
  have w1:IntKind.i64.wrap ((i:Int)+(j:Int))=((i+j:Nat):Int):=by rw[Qi]<;>omega
  have w2:IntKind.u64.wrap ((i+j:Nat):Int)=((i+j:Nat):Int):=by simp[IntKind.wrap,IntKind.bits,IntKind.signed];omega
  have w3:Int.fdiv ((i:Int)+(j:Int)) (2 ^ min 1 IntKind.u64.bits)=(s:Int):=by
   rw[show(2:Int) ^ min 1 IntKind.u64.bits=2 from rfl,Int.fdiv_eq_ediv_of_nonneg _ (by omega)];omega
  have w4:IntKind.i64.wrap (s:Int)=(s:Int):=by rw[Qi]<;>omega
  have w5:=bJ s (by omega);have rP:s<l.length:=by omega
  have arq:(s:Int)<(l.length:Int):=by omega
  have hp:=QF y x
  have mono:∀(p q:Nat)(u v:Int),p<=q->l[p]?=some u->l[q]?=some v->u<=v:=by
   intro p q u v hpq hu hv;rcases zzaa p q with h|h
   ·obtain⟨hp1,hu⟩:=zza.1 hu;obtain⟨hq1,hv⟩:=zza.1 hv;have:=(zzd.1 hs) p q hp1 hq1 h;omega
   obtain rfl:p=q:=by omega
   rw[hu]at hv;cases hv;omega
  by_cases hyx:y<x
  ·have al2:decide (y<x)=true:=decide_eq_true hyx;rw[al2]at hp;simp only[Int.natCast_add]at w1 w2;simp[h7,h8,ajt,aa,qm,w1,w2,w3,w4,w5,arq,hyx];refine⟨hp,aN,⟨s+1,by simp,j,rfl,by omega,by omega,fun k z hk hz=>?_,hb⟩,by omega⟩
   ·have:=mono k s z y (by omega) hz hy;omega
  have al2:decide (y<x)=false:=decide_eq_false hyx;rw[al2]at hp;simp only[Int.natCast_add]at w1 w2;simp[h7,h8,ajt,aa,qm,w1,w2,w3,w4,arq,hyx];refine⟨hp,aN,⟨i,rfl,s,rfl,by omega,by omega,ha,fun k z hk hz=>?_⟩,by omega⟩
  ·have:=mono s k y z hk hy hz;omega
 obtain rfl:i=j:=by omega
 have ic:=al1 hj ha hb;rw[ic];have Pu:¬(i:Int)<(i:Int):=by omega
 rcases zzaa i l.length with ai|hge'
 ·obtain⟨y,hy⟩:=aR ai;have aa:=Fo hy;have ah:(i:Int)<(l.length:Int):=by omega
  have hn:=Fs y;have hli:l[i]=y:=(zza.1 hy).2;by_cases hyx:y=x
  ·subst hyx;simp[h7,h8,ai,ah,aa,qm,Ng,hli]
  simp[h7,h8,ai,ah,aa,qm,Ng,hli,hyx];exact hn
 have ah:¬(i:Int)<(l.length:Int):=by omega
 have:l[i]?=none:=zzax hge';simp[h7,h8,ah,qm,Ng,this]
def QG(cs:List Cl)(n:Nat):List (List AV):=((List.range n).reverse).map fun(k:Nat)=>[I (k:Int),.agg (Qg (cs.getD k ⟨0,0,0,0,0,0,0,0⟩))]
def nq(cs:List Cl)(n:Nat):QG cs (n+1)=[I (n:Int),.agg (Qg (cs.getD n ⟨0,0,0,0,0,0,0,0⟩))]::QG cs n:=by
 simp[QG,zzex]
def mh(cs:List Cl):Pure Tryz.prog az 257 [.sl .ro (cs.map Qg)] (.fn 310 [] [.ep [.sl .ro (cs.map Qg)] 0]):=by
 refine Qn adr (fun _ _ _=>.junk) (by simp) ?_;simp[ah9,aia]
def mj(cs:List Cl)(hl:cs.length<=1000000000):Iter Tryz.prog az 310 [] [.ep [.sl .ro (cs.map Qg)] 0] (QG cs cs.length):=by
 intro Y l m K hF;refine Xd adR (fun _ _ _=>.junk) (by simp) ?_;have hw0:IntKind.i64.wrap ((cs.length:Int)-1)=(cs.length:Int)-1:=by rw[Qi]<;>omega
 simp[aiv,hw0];refine Qj JB (fun f mm=>∃i:Nat,f 3=I ((i:Int)-1)/\i<=cs.length/\vT (Y l) K (QG cs i) mm) (fun f _=>(numOf (f 3)+1).toNat) ?_ ?_
 ·exact⟨cs.length,by simp,by omega,hF⟩
 rintro f mm ⟨i,h3,hi,hF⟩;cases i with
 |zero=>
  have hK:K mm:=hF mm (fk.refl _);simp[h3,JB,UU];exact hK
 |succ i=>
  obtain⟨c,hc⟩:∃c,cs[i]?=some c:=⟨_,zzad (by omega)⟩;have aa:Qh (cs.map Qg) i=Qg c:=Qs (by simp[hc]);have VL:cs.getD i ⟨0,0,0,0,0,0,0,0⟩=c:=by simp[zzas,hc]
  rw[nq,VL]at hF;have SM:f 3=I i:=by rw[h3];congr 1;omega
  have ah:i<cs.length:=by omega
  have Ft:(i:Int)<(cs.length:Int):=by omega
  have hw:IntKind.i64.wrap ((i:Int)-1)=(i:Int)-1:=by rw[Qi]<;>omega
  have Ae:(0:Int)<=(i:Int):=by omega
  simp only[Qg]at hF aa;simp[SM,JB,aa,Ft,hw,Ae];refine hF _ (fk.refl _) _ (fun m2 p9=>?_) (fun m2 hK=>?_)
  ·simp;refine⟨aN,⟨i,rfl,by omega,p9⟩⟩
  simp[UU];exact hK _ (fk.refl _)
open Go Go.Abs
def Xo(L:List Nat):List AV:=aj (L.map fun(k:Nat)=>(k:Int))
def XC(L:List Nat):(Xo L).length=L.length:=by simp[Xo,Ud]
def Kx{L:List Nat}{i v:Nat}(h:L[i]?=some v):(Xo L).drop i=I (v:Int)::Xo (L.drop (i+1)):=by
 unfold Xo;rw[nj (x:=(v:Int)) (by simp[h]),zzgd]
def XD(L:List Nat)(i v:Nat):(Xo L).set i (I (v:Int))=Xo (L.set i v):=by
 unfold Xo;rw[J9,zzfd]
def WF(L:List Nat)(d:Nat->Bool)(n:Nat):Prop:=L.length=n+1/\∀i v,L[i]?=some v->i<=v/\v<=n/\(v=i<->d i=false)/\∀j,i<=j->j<v->d j=true
def WF.jump{L:List Nat}{d:Nat->Bool}{n i v u:Nat}(h:WF L d n)(h1:L[i]?=some v)(h2:L[v]?=some u)(aJ:v≠i):WF (L.set i u) d n:=by
 obtain⟨hl,hw⟩:=h;refine⟨by simpa using hl,fun k x hk=>?_⟩;have fR:i<L.length:=(zza.1 h1).1;obtain⟨a1,a2,a3,a4⟩:=hw i v h1;obtain⟨b1,b2,b3,b4⟩:=hw v u h2;by_cases fL:k=i
 ·subst fL;rw[zzaz fR]at hk;cases hk;refine⟨by omega,b2,?_,fun j ek pY=>?_⟩
  ·have hd:d k≠false:=fun h=>aJ (a3.2 h);constructor
   ·intro h;omega
   intro h;exact absurd h hd
  rcases zzaa j v with h|h
  ·exact a4 j ek h
  exact b4 j h pY
 rw[zzbd (fun h=>fL h.symm)]at hk;exact hw k x hk
def NR(Y:YT)(i n c Il:Nat)(L:List Nat)(d:Nat->Bool)(hw:WF L d n)(hi:i<=n)(hn:n<=1000000000)(B:List (List AV))(Lm:List Nat)(st:Nat->LS)(ln:Nat)(hc:c<B.length)(avE:Il<B.length)(aJ:c≠Il)
  (hBc:Qh B c=[.bs Il 0 (n+1) 1])(hBl:Qh B Il=Xo L)(K:AV->AM->Prop)
  (hK:∀(B':List (List AV))(L':List Nat)(r:Nat),aZ (·=Il) B B'->Qh B' Il=Xo L'->WF L' d n->i<=r->r<=n->d r=false->(∀j,i<=j->j<r->d j=true)->K (I r) ⟨B',Lm,st,ln⟩):
  an Tryz.prog az Y 256 [I i,.ptr c 0] ⟨B,Lm,st,ln⟩ K:=by
 refine Xd adq (fun _ _ _=>.junk) (by simp) ?_;simp[UI];refine Qj JA (fun f m=>∃(k:Nat)(B':List (List AV))(L':List Nat),f 0=I k/\i<=k/\k<=n/\m=⟨B',Lm,st,ln⟩/\aZ (·=Il) B B'/\Qh B' Il=Xo L'/\WF L' d n/\∀j,i<=j->j<k->d j=true) (fun f _=>n-(numOf (f 0)).toNat) ?_ ?_
 ·exact⟨i,B,L,by simp,by omega,hi,rfl,aZ.refl _ _,hBl,hw,fun j h1 h2=>by omega⟩
 rintro f m ⟨k,B',L',h0,qD,DM,rfl,fq,hBl',Im,hd⟩;have XE:Il<B'.length:=zzbb avE fq.1;have al3:Qh B' c=[.bs Il 0 (n+1) 1]:=by rw[fq.2 c hc aJ];exact hBc
 obtain⟨ew,ee⟩:=Im;obtain⟨v,hv⟩:∃v,L'[k]?=some v:=⟨_,zzad (by omega)⟩;obtain⟨v1,v2,v3,v4⟩:=ee k v hv;obtain⟨u,hu⟩:∃u,L'[v]?=some u:=⟨_,zzad (by omega)⟩;obtain⟨u1,u2,u3,u4⟩:=ee v u hu;have gv:=Kx hv;have gu:=Kx hu;have DQ:k<n+1:=by omega
 have za:(k:Int)<(n:Int)+1:=by omega
 have hvl:v<n+1:=by omega
 have avF:(v:Int)<(n:Int)+1:=by omega
 have aH:=XC L';by_cases hvk:v=k
 ·subst hvk;simp[h0,al3,hBl',gv,za,JA,ah8];exact hK B' L' v fq hBl' ⟨ew,ee⟩ qD DM (v3.1 rfl) hd
 have avG:¬(v:Int)=(k:Int):=by omega
 have bZ:=XD L' k u;have hW:=WF.jump ⟨ew,ee⟩ hv hu hvk;have JP:(L'.set k u)[k]?=some u:=zzaz (by omega);have gu2:=Kx JP;have axp:Il<(B'.set Il (Xo (L'.set k u))).length:=by simpa using XE
 have yJ:Qh (B'.set Il (Xo (L'.set k u))) Il=Xo (L'.set k u):=Vp _ XE;have gZ:Qh (B'.set Il (Xo (L'.set k u))) c=[.bs Il 0 (n+1) 1]:=by rw[Zv _ (fun h=>aJ h.symm)];exact al3
 simp[h0,al3,hBl',gv,gu,za,avF,avG,JA,bZ,yJ,gZ,gu2,aH,ew,XE];refine⟨by omega,aN,⟨u,rfl,by omega,by omega,fq.set (.inl rfl) _,_,rfl,hW,fun j h1 h2=>?_⟩,by omega⟩
 ·rcases zzaa j k with h|h
  ·exact hd j h1 h
  rcases zzaa j v with h3|h3
  ·exact v4 j h h3
  exact u4 j h3 h2
open Go Go.Abs
def Fu(item region:Int)(c:Cl):Bool:=decide (c.ki=1\/c.ki=2)&&(gL c item region&&Xj c)
def Ky(cs:List Cl)(item region:Int):List Cl:=cs.filter (Fu item region)
def eP:List Cl->List Int
 |[]=>[]
 |c::r=>c.fr::c.to::eP r
def oK:∀a b:List Cl,eP (a++b)=eP a++eP b
 |[],_=>rfl
 |c::r,b=>by simp[eP,oK r b]
def oM:∀a:List Cl,(eP a).length=2*a.length
 |[]=>rfl
 |c::r=>by simp[eP,oM r];omega
def oN{c:Cl}:∀{a:List Cl},c∈a->c.fr∈eP a/\c.to∈eP a
 |[],h=>by cases h
 |d::r,h=>by
  rcases zzau.1 h with rfl|h
  ·simp[eP]
  have:=oN h;simp[eP,this.1,this.2]
def dA(C:List Cl):List Int:=dd ((eP C).mergeSort fun x y=>decide (x<=y))
def NS(C:List Cl):(dA C).Pairwise (·<·):=by
 refine W6 ?_;have:=zzgu (le:=fun x y:Int=>decide (x<=y)) (fun a b c h1 h2=>by simp at*;omega) (fun a b=>by simp;omega) (eP C);exact this.imp (by simp)
def tU(C:List Cl)(x:Int):x∈dA C<->x∈eP C:=by
 unfold dA;rw[Ks,(zzfz _ _).mem_iff]
def NT(C:List Cl):(dA C).length<=2*C.length:=by
 have h1:=Kf ((eP C).mergeSort fun x y=>decide (x<=y));rw[zzem,oM]at h1;exact h1
abbrev GS:=List (Option Bool)
def stepG(s:GS)(a b:Nat)(v:Bool):GS:=s.mapIdx fun j o=>if a<=j/\j<b/\o=none then some v else o
def QH(Bd:List Int)(s:GS)(c:Cl):GS:=stepG s (qK Bd c.fr) (qK Bd c.to) (decide (c.ki=1))
def vY(C:List Cl):GS:=C.reverse.foldl (QH (dA C)) (List.replicate (dA C).length none)
def Cx(Bd:List Int)(s:GS)(i:Nat):List Sp:=if s[i]?=some (some true)then[(Bd.getD i 0,Bd.getD (i+1) 0)]else[]
def nr(Bd:List Int)(s:GS)(n:Nat):List Sp:=(List.range n).flatMap (Cx Bd s)
def Qcc(cs:List Cl)(item region:Int):List Sp:=Xl (nr (dA (Ky cs item region)) (vY (Ky cs item region)) (dA (Ky cs item region)).length)
def qL(s:GS)(a b:Nat)(v:Bool):(stepG s a b v).length=s.length:=by simp[stepG]
def Uv(s:GS)(a b:Nat)(v:Bool)(j:Nat):(stepG s a b v)[j]?=(s[j]?).map fun o=>if a<=j/\j<b/\o=none then some v else o:=by simp[stepG]
def AD(s:GS)(a b:Nat)(v:Bool)(h:b<=a):stepG s a b v=s:=by
 apply zzci;intro j;rw[Uv];cases s[j]? with
 |none=>rfl
 |some o=>simp;intro h1 h2;omega
def KA(s:GS)(a k:Nat)(v:Bool)(hak:a<=k)(hk:s[k]?=some none):stepG s a (k+1) v=(stepG s a k v).set k (some v):=by
 have ai:k<s.length:=(zza.1 hk).1;apply zzci;intro j;rw[Uv];by_cases yL:j=k
 ·subst yL;rw[zzaz (by rw[qL];exact ai),hk];simp[hak]
 rw[zzbd (fun h=>yL h.symm),Uv];cases s[j]? with
 |none=>rfl
 |some o=>
  simp only[zzcr];congr 1;by_cases h:a<=j/\j<k/\o=none
  ·rw[if_pos h,if_pos ⟨h.1,by omega,h.2.2⟩]
  rw[if_neg h,if_neg (fun h'=>h ⟨h'.1,by omega,h'.2.2⟩)]
def vZ(s:GS)(a k r:Nat)(v:Bool)(hkr:k<=r)(h:∀j,k<=j->j<r->s[j]?≠some none):stepG s a r v=stepG s a k v:=by
 apply zzci;intro j;rw[Uv,Uv];cases hj:s[j]? with
 |none=>rfl
 |some o=>
  simp only[zzcr];congr 1;by_cases h1:a<=j/\j<k/\o=none
  ·rw[if_pos h1,if_pos ⟨h1.1,by omega,h1.2.2⟩]
  rw[if_neg h1];by_cases h2:a<=j/\j<r/\o=none
  ·exfalso
   have hkj:k<=j:=by
    rcases zzaa j k with h3|h3
    ·exact absurd ⟨h2.1,h3,h2.2.2⟩ h1
    exact h3
   exact h j hkj h2.2.1 (by rw[hj,h2.2.2])
  rw[if_neg h2]
def gB(s:GS):List Bool:=s.map fun o=>o==some true
def nt(s:GS)(j:Nat):Bool:=match s[j]? with
 |some (some _)=>true
 |_=>false
def Zh(l:List Bool):List AV:=l.map AV.bool
def al4(l:List Bool):(Zh l).length=l.length:=by simp[Zh]
def al5{l:List Bool}{i:Nat}{x:Bool}(h:l[i]?=some x):(Zh l).drop i=.bool x::Zh (l.drop (i+1)):=by
 unfold Zh;rw[<- zzgd];have ai:=(zza.1 h).1;rw[zzaf ai,(zza.1 h).2];rfl
def al6(l:List Bool)(i:Nat)(x:Bool):(Zh l).set i (.bool x)=Zh (l.set i x):=by simp[Zh,zzfd]
def XF(n:Nat):bG n [.bool false]=Zh (List.replicate n false):=by
 induction n with
 |zero=>rfl
 |succ n ih=>rw[bG,ih];rfl
def al7(s:GS)(k:Nat)(v:Bool):gB (s.set k (some v))=(gB s).set k v:=by
 unfold gB;rw[zzfd];cases v<;>rfl
def aeG(n:Nat):gB (List.replicate n none)=List.replicate n false:=by
 unfold gB;rw[List.map_replicate];rfl
def WF.init(n:Nat)(d:Nat->Bool)(hd:∀j,d j=false):WF (List.range (n+1)) d n:=by
 refine⟨by simp,fun i v h=>?_⟩;obtain⟨h1,h2⟩:=zza.1 h;simp at h1 h2;subst h2;exact⟨by omega,by omega,⟨fun _=>hd _,fun _=>rfl⟩,fun j h3 h4=>by omega⟩
def WF.dec{L:List Nat}{d d':Nat->Bool}{n k:Nat}(h:WF L d n)(hk:k<n)(hd:d' k=true)(hd2:∀j,j≠k->d' j=d j):WF (L.set k (k+1)) d' n:=by
 obtain⟨hl,hw⟩:=h;refine⟨by simpa using hl,fun i v hv=>?_⟩;by_cases qD:i=k
 ·subst qD;rw[zzaz (by omega)]at hv;cases hv;refine⟨by omega,by omega,?_,fun j h1 h2=>?_⟩
  ·constructor
   ·intro h;omega
   intro h;rw[hd]at h;cases h
  obtain rfl:j=i:=by omega
  exact hd
 rw[zzbd (fun h=>qD h.symm)]at hv;obtain⟨a1,a2,a3,a4⟩:=hw i v hv;refine⟨a1,a2,by rw[hd2 i qD];exact a3,fun j h1 h2=>?_⟩;by_cases yL:j=k
 ·subst yL;exact hd
 rw[hd2 j yL];exact a4 j h1 h2
def XG(s:GS)(k:Nat)(v:Bool)(hk:k<s.length):nt (s.set k (some v)) k=true/\∀j,j≠k->nt (s.set k (some v)) j=nt s j:=by
 constructor
 ·unfold nt;rw[zzaz hk]
 intro j hj;unfold nt;rw[zzbd (fun h=>hj h.symm)]
def al8(l:List Int)(x:Int):qK l x<=l.length:=zzbn _ _
def KB{l:List Int}{x:Int}(h:x∈l):qK l x<l.length:=by
 unfold qK;have h1:=zzbn (fun y=>decide (y<x)) l;rcases zzaa (l.filter fun y=>decide (y<x)).length l.length with h2|h2
 ·exact h2
 have h3:(l.filter fun y=>decide (y<x)).length=l.length:=by omega
 have h4:=(List.length_filter_eq_length_iff.1 h3) x h;simp at h4
open Go Go.Abs
def Cy(Y:YT)(m:AM)(K:AV->AM->Prop)(hK:K (.sl .nil []) m):an Tryz.prog az Y 161 [.sl .nil []] m K:=by
 refine Xd BC (fun _ _ _=>.junk) (by simp) ?_;simp[uJ,zN];exact hK
def yM(Bd:List Int)(R:List Sp):Nat->FuncId->List AV->AV:=fun d f l=>
 if f=999999 then(if d=59 then .aK 0 []else .junk)else
 if f=255 then(match l with
  |[.agg [.int _ a,.int _ b,.int _ c,.int _ d,.int _ e,.int _ f,.int _ g,.int _ h],.int _ i,.int _ r]=>.bool (gL ⟨a,b,c,d,e,f,g,h⟩ i r)
  |_=>.junk)else
 if f=83 then(match l with
  |[.agg [.int _ a,.int _ b,.int _ c,.int _ d,.int _ e,.int _ f,.int _ g,.int _ h]]=>.bool (Xj ⟨a,b,c,d,e,f,g,h⟩)
  |_=>.junk)else
 if f=257 then(match l with
  |[.sl _ rows]=>.fn 310 [] [.ep [.sl .ro rows] 0]
  |_=>.junk)else
 if f=258 then(match l with
  |[_,.int _ x]=>.aV [I (qK Bd x:Nat),.bool (decide (Bd[qK Bd x]?=some x))]
  |_=>.junk)else
 if f=182 then .sl .ro (R.map Qe)else .gd false .junk
def aeH(B:List (List AV))(C:List Cl):Prop:=(C=[]/\Qh B 0=[.sl .nil []])\/(C≠[]/\∃aQ,Qh B 0=[.bs aQ 0 (eP C).length 1]/\aQ≠0/\aQ<B.length/\Qh B aQ=aj (eP C))
def aeH.app{B:List (List AV)}{C:List Cl}(h:aeH B C)(h0:0<B.length)(x:List (List AV)):aeH (B++x) C:=by
 obtain⟨h1,h2⟩|⟨h1,aQ,h2,h3,h4,h5⟩:=h
 ·exact .inl ⟨h1,by rw[Ql h0];exact h2⟩
 exact .inr ⟨h1,aQ,by rw[Ql h0];exact h2,h3,by simp;omega,by rw[Ql h4];exact h5⟩
def Cz:SC:=(⟨_,by cbv⟩:vO [1,1,1,1,1,1,1,1,1,1,1] rJ).1
def XH:SC->SC:=(⟨_,fun _=>by cbv⟩:vP [1,1,1] (tf [1,1,1,1,1,1,1,1] rJ)).1
def aju:SC->SC:=(⟨_,fun _=>by cbv⟩:vP [1,1,1,1,1,1,1,1] rJ).1
theorem XI:rJ=aju (XH Cz):=rfl
def XJ(Bd:List Int)(s:GS)(i:Nat):(Cx Bd s i).length<=1:=by unfold Cx;split<;>simp
def qM(Bd:List Int)(s:GS)(n:Nat):nr Bd s (n+1)=nr Bd s n++Cx Bd s n:=by simp[nr,zzex]
def v7(Bd:List Int)(s:GS):∀n,(nr Bd s n).length<=n
 |0=>by simp[nr]
 |n+1=>by
  have h1:=v7 Bd s n;have h2:=XJ Bd s n;rw[qM,zzag];omega
def v8(Bd z:List Int)(s:GS)(R:List Sp)(n:Nat)(hn:s.length=n)(hn9:n<=10000000)(hR:R=Xl (nr Bd s n))(E:List (Nat×AV))(B:List (List AV))(Lm:List Nat)(st:Nat->LS)(ln:Nat)(g g1:Nat)(Bd0:List Int)
  (h8:Abs.look E 8=.ptr 0 0)(qN:Abs.look E 11=.ptr g1 0)(hg1:Qh B g1=[.bs g 0 n 1])(hg:Qh B g=Zh (gB s))
  (hb:∀i,s[i]?=some (some true)->∃aQ,Qh B 0=[.bs aQ 0 n 1]/\Qh B aQ=aj (Bd++z)/\i+1<Bd.length/\Bd.length=n):
  vc Tryz.prog az (yM Bd0 R) Y0 Cz ⟨Zi 145 E,⟨B,Lm,st,ln⟩⟩ (post Tryz.prog az (yM Bd0 R) Ej (.sl .ro (R.map Qe))):=by
 have iQ:(gB s).length=n:=by simp[gB,hn]
 simp[Cz,qN,hg1]
 refine Qj ql (fun f m=>∃(i:Nat)(o:List Sp)(rt:Rt)(Lm':List Nat),i<=n/\f 123=I i/\f 22=.sl rt (o.map Qe)/\m=⟨B,Lm',st,ln⟩/\o=nr Bd s i/\((o=[]/\rt=.nil/\Lm'=Lm)\/(o≠[]/\rt=.own Lm.length 2/\Lm'=Lm++[o.length])))
  (fun f _=>n-(numOf (f 123)).toNat) ?_ ?_
 ·exact⟨0,[],.nil,Lm,by omega,by simp,by simp,rfl,by simp[nr],.inl ⟨rfl,rfl,rfl⟩⟩
 rintro f m ⟨i,o,rt,Lm',hi,h123,h22,rfl,ho,aT⟩;have Fv:o.length<=i:=by rw[ho];exact v7 Bd s i
 rcases zzaa i n with ai|bB
 ·obtain⟨v,hv⟩:∃v,s[i]?=some v:=⟨_,zzad (by omega)⟩;have hgv:(gB s)[i]?=some (v==some true):=by simp[gB,hv]
  have gg:=al5 hgv;have ah:(i:Int)<(n:Int):=by omega
  have hw:=bJ i (by omega);have dJ:=qM Bd s i;rw[<- ho]at dJ;by_cases hvt:v=some true
  ·subst hvt;obtain⟨aQ,b1,b2,b3,b4⟩:=hb i hv;obtain⟨x,hx⟩:∃x,Bd[i]?=some x:=⟨_,zzad (by omega)⟩;obtain⟨y,hy⟩:∃y,Bd[i+1]?=some y:=⟨_,zzad b3⟩;have gx:=nj (l:=Bd++z) (i:=i) (x:=x) (by rw[zzah (by omega)];exact hx);have gy:=nj (l:=Bd++z) (i:=i+1) (x:=y) (by rw[zzah (by omega)];exact hy);have hou:Cx Bd s i=[(x,y)]:=by simp[Cx,hv,hx,hy]
   rw[hou]at dJ;simp at gg;have hi1:i+1<n:=by omega
   have ars:(i:Int)+1<(n:Int):=by omega
   have Ae:(0:Int)<=(i:Int)+1:=by omega
   have htn:((i:Int)+1).toNat=i+1:=by omega
   have gZ:∀row∈o.map Qe,row.length=2:=by
    intro row h;rw[zzay]at h;obtain⟨a,_,rfl⟩:=h;rfl
   obtain⟨rfl,rfl,rfl⟩|⟨aJ,rfl,rfl⟩:=aT
   ·simp[h123,h22,ah,hg,gg,ql,hw,h8,b1,b2,gx,gy,ars,Ae,htn,yM];refine⟨aN,⟨i+1,by omega,by simp,[(x,y)],_,⟨rfl,rfl⟩,by rw[dJ];rfl,by simp⟩,by omega⟩
   simp[h123,h22,ah,hg,gg,ql,hw,h8,b1,b2,gx,gy,ars,Ae,htn];refine⟨⟨?_,by omega⟩,aN,⟨i+1,by omega,by simp,o++[(x,y)],_,⟨rfl,by simp[Qe]⟩,dJ.symm,by simp⟩,by omega⟩
   ·rintro row (⟨a,b,_,rfl⟩|rfl)<;>rfl
  have hou:Cx Bd s i=[]:=by
   unfold Cx;rw[hv,if_neg];intro h;cases h;exact hvt rfl
  rw[hou,zzat]at dJ;have hvb:(v==some true)=false:=by simpa using hvt
  rw[hvb]at gg;simp[h123,h22,ah,hg,gg,ql,hw];refine⟨aN,⟨i+1,by omega,by simp,o,rt,⟨rfl,rfl⟩,dJ.symm,aT⟩,by omega⟩
 obtain rfl:i=n:=by omega
 rw[<- ho]at hR;have al9:=Un o (by omega);rw[<- hR]at al9;obtain⟨rfl,rfl,rfl⟩|⟨aJ,rfl,rfl⟩:=aT
 ·simp[h123,h22,ql,Ej,yM];exact Zk al9 ⟨Wk.sl _ _,trivial⟩
 simp[h123,h22,ql,Ej,yM];exact al9
end
end Go.Proofs.YtnopaopphmjnmaaGreatDoor
