import Derived.Test.YtfliagpjbbkijaaGreatDoorVBMK
set_option linter.all false
set_option maxRecDepth 100000
set_option maxHeartbeats 64000000
namespace Go.Proofs.YtfliagpjbbkijaaGreatDoor
noncomputable section
open Go Go.Abs
def Ue(l:Pi):(aj l).length=l.length:=by simp[aj]
def nc{l:Pi}{i:Nat}{x:Int}(h:l[i]?=some x):(aj l).drop i=I x::aj (l.drop (i+1)):=by
 unfold aj;rw[<- zzfp];have ah:=(zza.1 h).1;rw[zzae ah,(zza.1 h).2];rfl
def KB(l:Pi)(i:Nat)(x:Int):(aj l).set i (I x)=aj (l.set i x):=by simp[aj,zzfk]
def ng(a b:Pi):aj (a++b)=aj a++aj b:=by simp[aj]
def WU(l:Pi):Zw (aj l)=true:=by
 simp[Zw,aj]
def wo:∀(l:Pi)(r:P1),aY 1 l.length (aj l++r)=l.map fun x=>[I x]
 |[],_=>rfl
 |s::l,r=>by simpa[aj]using wo l r
def FN(n:Nat):bH n [I 0]=aj (List.replicate n 0):=by
 induction n with
 |zero=>rfl
 |succ n ih=>rw[bH,ih];rfl
def FO{l:Pi}{i:Nat}{x:Int}(h:l[i]?=some x):Qf (l.map fun x=>[I x]) i=[I x]:=Qv (by simp[h])
def dd:Pi->Pi
 |[]=>[]
 |[x]=>[x]
 |x::y::r=>if x=y then dd (y::r)else x::dd (y::r)
theorem FP(x y:Int)(r:Pi):dd (x::y::r)=if x=y then dd (y::r)else x::dd (y::r):=rfl
def C1:∀(p:Pi)(a b:Int),dd (p++[a]++[b])=dd (p++[a])++(if b=a then[]else[b])
 |[],a,b=>by
  by_cases h:b=a
  ·subst h;simp[dd]
  have:¬a=b:=fun e=>h e.symm;simp[dd,h,this]
 |[x],a,b=>by
  have ih:=C1 [] a b;simp only[zzah,zzaf]at ih |-
  rw[FP x a [b],FP x a [],ih];by_cases hx:x=a
  ·rw[if_pos hx,if_pos hx]
  rw[if_neg hx,if_neg hx];rfl
 |x::y::p,a,b=>by
  have ih:=C1 (y::p) a b;simp only[zzaf]at ih |-
  rw[FP x y (p++[a]++[b]),FP x y (p++[a]),ih];by_cases hx:x=y
  ·rw[if_pos hx,if_pos hx]
  rw[if_neg hx,if_neg hx];rfl
def NY{l:Pi}{j:Nat}{a b:Int}(ha:l[j]?=some a)(hb:l[j+1]?=some b):dd (l.take (j+2))=dd (l.take (j+1))++(if b=a then[]else[b]):=by
 have e1:l.take (j+1)=l.take j++[a]:=by rw[zzap,ha];rfl
 have e2:l.take (j+2)=l.take j++[a]++[b]:=by rw[show j+2=(j+1)+1 from rfl,zzap,hb,e1];rfl
 rw[e2,e1,C1]
def WV:∀l:Pi,(dd l).length<=l.length
 |[]=>by simp[dd]
 |[x]=>by simp[dd]
 |x::y::r=>by
  have:=WV (y::r);rw[dd];split<;>simp at*<;>omega
def KC:∀(l:Pi)(x:Int),x∈dd l<->x∈l
 |[],x=>by simp[dd]
 |[y],x=>by simp[dd]
 |a::b::r,x=>by
  have ih:=KC (b::r) x;rw[dd];split
  ·rename_i h;subst h;rw[ih];simp
  rw[zzao,ih,zzao (a:=x) (b:=a)]
def WW:∀{l:Pi},l.Pairwise (·<=·)->(dd l).Pairwise (·<·)
 |[],_=>by simp[dd]
 |[x],_=>by simp[dd]
 |x::y::r,h=>by
  obtain⟨h1,h2⟩:=zzc.1 h;have ih:=WW h2;rw[dd];split
  ·exact ih
  rename_i aK;refine zzc.2 ⟨fun z hz=>?_,ih⟩;have hz':=(KC _ _).1 hz;have hxy:=h1 y zd;rcases zzao.1 hz' with rfl|hz'
  ·omega
  have:=(zzc.1 h2).1 z hz';omega
def sH(Y:YT)(l:Pi)(hl:l.length<=1000000000)(B:X2)(L:P2)(st:Nat->LS)(n id:Nat)(aL:id<B.length)(aK:l≠[])(hB:Qf B id=aj l)(K:UV)
  (hK:∀(B':X2)(z:Pi),bE (·=id) B B'->Qf B' id=aj (dd l++z)->(dd l).length+z.length=l.length->K (.bs id 0 (dd l).length 1) ⟨B',L,st,n⟩):
  aF Tryz.prog aD Y 114 [.bs id 0 l.length 1] ⟨B,L,st,n⟩ K:=by
 have aH:=Ue l;have oC:0<l.length:=zzdi.2 aK;refine Xn BV (fun _ _ _=>.junk) zd ?_;by_cases h2:l.length<2
 ·have ze:(l.length:Int)<2:=zE
  have hd:dd l=l:=by
   match l,aK,h2 with
   |[x],_,_=>rfl
  have:=hK B [] (bE.refl _ _) (by rw[hd,zzau];exact hB) (by rw[hd];simp);rw[hd]at this;simp[uX,z8,ze,h2];exact this
 have ze:¬(l.length:Int)<2:=zE
 simp[uX,ze,h2];refine Qk BW (fun f m=>∃k:Nat,f 3=I k/\1<=k/\k<=l.length/\m=⟨B,L,st,n⟩/\dd (l.take k)=l.take k) (fun f _=>l.length-(numOf (f 3)).toNat) ?_ ?_
 ·refine⟨1,zd,zE,zE,rfl,?_⟩
  match l,aK with
  |x::r,_=>rfl
 rintro f m ⟨k,h3,cZ,hk,rfl,Ft⟩;rcases zzab k l.length with ah|bu
 ·obtain⟨k',rfl⟩:∃k',k=k'+1:=⟨k-1,zE⟩;obtain⟨a,ha⟩:∃a,l[k']?=some a:=⟨_,zzac zE⟩;obtain⟨b,hb⟩:∃b,l[k'+1]?=some b:=⟨_,zzac ah⟩;have ga:=nc ha;have gb:=nc hb;have aeG:((k':Int)+1)<(l.length:Int):=zE
  have ajl:(k':Int)<(l.length:Int):=zE
  have AJ:k'<l.length:=zE
  have gm:IntKind.i64.wrap ((k':Int)+1-1)=(k':Int):=by rw[Qh]<;>omega
  have atd:IntKind.i64.wrap (k':Int)=(k':Int):=by rw[Qh]<;>omega
  have eY:IntKind.i64.wrap ((k':Int)+1+1)=((k'+1+1:Nat):Int):=by rw[Qh]<;>omega
  have AA:(0:Int)<=(k':Int)+1:=zE
  have htn:((k':Int)+1).toNat=k'+1:=zE
  have hdt:=NY ha hb;by_cases SP:b=a
  ·rw[if_pos SP,zzau]at hdt;simp[h3,ah,aeG,ajl,AJ,hB,ga,gb,gm,atd,eY,AA,htn,SP,BW];have cw:(k':Int)+1<=(l.length:Int):=zE
   refine⟨cw,?_⟩
   refine Qk BX (fun f m=>∃(k t:Nat)(B':X2)(L':Pi),f 3=I k/\f 5=I ((t+1:Nat):Int)/\k'+1+(t+1)<=l.length/\1<=k/\k<=k'+1+t/\m=⟨B',L,st,n⟩/\bE (·=id) B B'/\Qf B' id=aj L'/\L'.length=l.length/\
    L'.take k=dd (l.take (k'+1+(t+1)))/\L'.drop (k'+1+t)=l.drop (k'+1+t)) (fun f _=>l.length-(k'+1)-(numOf (f 5)).toNat) ?_ ?_
   ·refine⟨k'+1,0,B,l,by simp[h3],zd,zE,zE,zE,rfl,bE.refl _ _,hB,rfl,?_,rfl⟩;rw[show k'+1+(0+1)=k'+2 by omega,hdt,Ft]
   rintro g m ⟨k,t,B',L',g3,g5,ht,WX,hkt,rfl,nh,yO,tM,bD,hdp⟩;have dc:id<B'.length:=zzan aL nh.1;have jo:=Ue L';rcases zzab (k'+1+(t+1)) l.length with ug|hjg
   ·obtain⟨x,hx⟩:∃x,l[k'+1+t]?=some x:=⟨_,zzac zE⟩;obtain⟨y,hy⟩:∃y,l[k'+1+t+1]?=some y:=⟨_,zzac zE⟩
    have j8:L'[k'+1+t]?=some x:=by
     have:=congrArg (fun q=>q[0]?) hdp;simpa[hx]using this
    have hy':L'[k'+1+t+1]?=some y:=by
     have:=congrArg (fun q=>q[1]?) hdp;simpa[hy]using this
    have gx:=nc j8;have gy:(aj L').drop (k'+1+(t+1))=I y::aj (L'.drop (k'+1+t+1+1)):=nc hy';have J9:=NY hx hy;rw[show k'+1+t+2=k'+1+(t+1+1) by omega,show k'+1+t+1=k'+1+(t+1) by omega,<- bD]at J9
    have hdn:L'.drop (k'+1+(t+1))=l.drop (k'+1+(t+1)):=by
     have:=congrArg (List.drop 1) hdp;simpa[zzdw,zzas,zzer,Nat.add_left_comm]using this
    have eW:(t+1:Nat)<l.length-(k'+1):=zE
    have ajm:((t:Int)+1)<((l.length-(k'+1):Nat):Int):=zE
    have ajn:(t:Int)<((l.length-(k'+1):Nat):Int):=zE
    have ajo:t<l.length-(k'+1):=zE
    have hwt:IntKind.i64.wrap (t:Int)=(t:Int):=by rw[Qh]<;>omega
    have ate:IntKind.i64.wrap ((t:Int)+1+1)=((t+1+1:Nat):Int):=by rw[Qh]<;>omega
    have WY:=bO k zE;have atf:((t:Int)+1).toNat=t+1:=zE
    have atg:(0:Int)<=(t:Int)+1:=zE
    have WZ:(k:Int)<(l.length:Int):=zE
    have KD:k<l.length:=zE
    have bQ:=KB L' k y;by_cases hyx:y=x
    ·rw[if_pos hyx,zzau]at J9;simp[g3,g5,yO,gx,gy,eW,ajm,ajn,ajo,hwt,ate,atf,atg,hyx,BX];refine⟨aP,⟨k,rfl,t+1,zd,zE,WX,zE,nh,L',rfl,tM,J9.symm,hdn⟩,zE⟩
    rw[if_neg hyx]at J9;simp[g3,g5,yO,gx,gy,eW,ajm,ajn,ajo,hwt,ate,WY,atf,atg,hyx,WZ,KD,bQ,dc,BX];refine⟨by rw[jo];omega,aP,⟨k+1,zd,t+1,zd,zE,zE,zE,nh.set (.inl rfl) _,L'.set k y,Xj _ dc,Nm tM,?_,?_⟩,zE⟩
    ·rw[zzap,zzbg zE,zzfz zE];exact J9.symm
    rw[show k'+1+(t+1)=k'+1+(t+1)from rfl,zzg zE];exact hdn
   have bT:¬(t:Int)+1<((l.length-(k'+1):Nat):Int):=zE
   have WZ:(k:Int)<(l.length:Int):=zE
   have KD:k<l.length:=zE
   have ax8:(k:Int)<=(l.length:Int):=zE
   have ajp:dd l=L'.take k:=by rw[bD,zzai zE]
   have ath:(dd l).length=k:=by rw[ajp,zzav];omega
   have dW:aj L'≠[]:=by
    intro h;have:=congrArg List.length h;rw[jo,tM]at this;simp at this;exact aK this
   have oJ:setA (aj L') k (bH (l.length-k) [I 0])=aj (dd l++List.replicate (l.length-k) 0):=by
    have e1:L'=L'.take k++L'.drop k:=zd
    conv=>lhs;rw[e1]
    rw[ng,ng,FN,ajp];have e2:(aj (L'.take k)).length=k:=by rw[Ue,zzav];omega
    have:=pn (aj (List.replicate (l.length-k) 0)) (aj (L'.take k)) (aj (L'.drop k)) (by rw[Ue,Ue,List.length_replicate,zzcw,tM]);rw[e2]at this;exact this
   simp[g3,g5,yO,BX,z8,bT,WZ,KD,ax8,dc,dW,jo,tM,oJ];refine⟨zE,?_⟩;have:=hK (B'.set id (aj (dd l++List.replicate (l.length-k) 0))) (List.replicate (l.length-k) 0) (nh.set (.inl rfl) _) (Xj _ dc) (by rw[ath];simp;omega);rw[ath]at this;exact this
  rw[if_neg SP]at hdt;simp[h3,ah,aeG,ajl,AJ,hB,ga,gb,gm,atd,eY,AA,htn,SP,BW];refine⟨aP,⟨k'+1+1,zE,zE,zE,?_⟩,zE⟩
  ·rw[show k'+1+1=k'+2 by omega,hdt,Ft,zzap (l:=l) (i:=k'+1),hb];rfl
 obtain rfl:k=l.length:=zE
 rw[zzbp]at Ft;have Ip:¬((l.length:Nat):Int)<(l.length:Int):=zE
 have:=hK B [] (bE.refl _ _) (by rw[Ft,zzau];exact hB) (by rw[Ft];simp);rw[Ft]at this;simp[h3,BW,z8];exact this
def FQ(a:Int):Pure Tryz.prog aD 238 [I a] (.bool false):=by
 refine Qm adH (fun _ _ _=>.junk) zd ?_;simp[aip,aiq]
def FR(a:Int):Pure Tryz.prog aD 280 [I a] (.bool false):=by
 refine Qm ad7 (fun _ _ _=>.junk) zd ?_;simp[aiM,aiN]
def QL(a b:Int):Pure Tryz.prog aD 206 [I a,I b] (.bool (decide (a<b))):=by
 have h:=FQ a;refine Qm adi (fun _ _ _=>.bool false) zd ?_;simp[ahU,ahV];exact h
def qV(l:Pi)(x:Int):Nat:=(l.filter fun y=>decide (y<x)).length
def amB{l:Pi}{x:Int}{i:Nat}(hi:i<=l.length)(h1:∀(k:Nat)(y:Int),k<i->l[k]?=some y->y<x)(h2:∀(k:Nat)(y:Int),i<=k->l[k]?=some y->x<=y):qV l x=i:=by
 unfold qV;have e:l=l.take i++l.drop i:=zd
 rw[e,zzdd]
 have e1:(l.take i).filter (fun y=>decide (y<x))=l.take i:=by
  rw[zzga];intro y hy;obtain⟨k,hk⟩:=zzcl.1 hy;rw[zzbw]at hk;split at hk
  ·simpa using h1 k y (by assumption) hk
  cases hk
 have e2:(l.drop i).filter (fun y=>decide (y<x))=[]:=by
  rw[zzgz];intro y hy;obtain⟨k,hk⟩:=zzcl.1 hy;rw[zzbr]at hk;have:=h2 (i+k) y zE hk;simp;omega
 rw[e1,e2];simp;omega
def pq(l:Pi)(x:Int)(hl:l.length<=1000000000)(hs:l.Pairwise (·<=·)):Pure Tryz.prog aD 264 [.sl .ro (l.map fun y=>[I y]),I x] (.aS [I (qV l x:Nat),.bool (decide (l[qV l x]?=some x))]):=by
 refine Qm adZ (fun _ f a=>if f=206 then(match a with|[.int _ a,.int _ b]=>.bool (decide (a<b))|_=>.junk)else .bool false) zd ?_;simp[UC]
 refine Qk qB (fun f m=>∃i j:Nat,f 7=I i/\f 8=I j/\i<=j/\j<=l.length/\m=⟨[],[],fun _=>.gone,0⟩/\(∀(k:Nat)(y:Int),k<i->l[k]?=some y->y<x)/\∀(k:Nat)(y:Int),j<=k->l[k]?=some y->x<=y)
  (fun f _=>(numOf (f 8)).toNat-(numOf (f 7)).toNat) ?_ ?_
 ·refine⟨0,l.length,zd,zd,zE,zE,rfl,fun k y h=>zE,fun k y h1 h2=>?_⟩;rw[zzar h1]at h2;cases h2
 rintro f m ⟨i,j,h7,h8,fP,hj,rfl,ha,hb⟩;rcases zzab i j with ah|bu
 ·have VM:(i+j)/2<l.length:=zE
  obtain⟨y,hy⟩:∃y,l[(i+j)/2]?=some y:=⟨_,zzac VM⟩;obtain⟨s,hse⟩:∃s,s=(i+j)/2:=⟨_,rfl⟩;rw[<- hse]at hy;have ai:=FO hy;have ajq:(i:Int)<(j:Int):=zE
  have w1:IntKind.i64.wrap ((i:Int)+(j:Int))=((i+j:Nat):Int):=by rw[Qh]<;>omega
  have w2:IntKind.u64.wrap ((i+j:Nat):Int)=((i+j:Nat):Int):=by simp[IntKind.wrap,IntKind.bits,IntKind.signed];omega
  have w3:Int.fdiv ((i:Int)+(j:Int)) (2 ^ min 1 IntKind.u64.bits)=(s:Int):=by
   rw[show(2:Int) ^ min 1 IntKind.u64.bits=2 from rfl,zzgj _ zE];omega
  have w4:IntKind.i64.wrap (s:Int)=(s:Int):=by rw[Qh]<;>omega
  have w5:=bO s zE;have fQ:s<l.length:=zE
  have ati:(s:Int)<(l.length:Int):=zE
  have hp:=QL y x
  have mono:∀(p q:Nat)(u v:Int),p<=q->l[p]?=some u->l[q]?=some v->u<=v:=by
   intro p q u v hpq hu hv;rcases zzab p q with h|h
   ·obtain⟨hp1,hu⟩:=zza.1 hu;obtain⟨hq1,hv⟩:=zza.1 hv;have:=(zzdo.1 hs) p q hp1 hq1 h;omega
   obtain rfl:p=q:=zE
   rw[hu]at hv;cases hv;omega
  by_cases hyx:y<x
  ·have amC:decide (y<x)=true:=decide_eq_true hyx;rw[amC]at hp;simp only[Int.natCast_add]at w1 w2;simp[h7,h8,ajq,ah,ai,qB,w1,w2,w3,w4,w5,fQ,ati,hyx];refine⟨hp,aP,⟨s+1,zd,j,rfl,zE,zE,fun k z hk hz=>?_,hb⟩,zE⟩
   ·have:=mono k s z y zE hz hy;omega
  have amC:decide (y<x)=false:=decide_eq_false hyx;rw[amC]at hp;simp only[Int.natCast_add]at w1 w2;simp[h7,h8,ajq,ah,ai,qB,w1,w2,w3,w4,w5,fQ,ati,hyx];refine⟨hp,aP,⟨i,rfl,s,rfl,zE,zE,ha,fun k z hk hz=>?_⟩,zE⟩
  ·have:=mono s k y z hk hy hz;omega
 obtain rfl:i=j:=zE
 have C2:=amB hj ha hb;rw[C2];have PA:¬(i:Int)<(i:Int):=zE
 rcases zzab i l.length with ah|hge'
 ·obtain⟨y,hy⟩:=aX ah;have ai:=FO hy;have aa:(i:Int)<(l.length:Int):=zE
  have hn:=FR y;have hli:l[i]=y:=(zza.1 hy).2;by_cases hyx:y=x
  ·subst hyx;simp[h7,h8,ah,aa,ai,qB,Nt,hli]
  simp[h7,h8,ah,aa,ai,qB,Nt,hli,hyx];exact hn
 have aa:¬(i:Int)<(l.length:Int):=zE
 have:l[i]?=none:=zzar hge';simp[h7,h8,aa,qB,Nt,this]
def QM(cs:List Cl)(n:Nat):X2:=((List.range n).reverse).map fun(k:Nat)=>[I (k:Int),.agg (Qj (cs.getD k ⟨0,0,0,0,0,0,0,0⟩))]
def nj(cs:List Cl)(n:Nat):QM cs (n+1)=[I (n:Int),.agg (Qj (cs.getD n ⟨0,0,0,0,0,0,0,0⟩))]::QM cs n:=by
 simp[QM,zzff]
def lY(cs:List Cl):Pure Tryz.prog aD 256 [.sl .ro (cs.map Qj)] (.fn 271 [] [.ep [.sl .ro (cs.map Qj)] 0]):=by
 refine Qm adU (fun _ _ _=>.junk) zd ?_;simp[aiA,aiB]
def lZ(cs:List Cl)(hl:cs.length<=1000000000):Iter Tryz.prog aD 271 [] [.ep [.sl .ro (cs.map Qj)] 0] (QM cs cs.length):=by
 intro Y l m K hF;refine Xn ad6 (fun _ _ _=>.junk) zd ?_;have hw0:IntKind.i64.wrap ((cs.length:Int)-1)=(cs.length:Int)-1:=by rw[Qh]<;>omega
 simp[aiL,hw0];refine Qk JJ (fun f mm=>∃i:Nat,f 3=I ((i:Int)-1)/\i<=cs.length/\wk (Y l) K (QM cs i) mm) (fun f _=>(numOf (f 3)+1).toNat) ?_ ?_
 ·exact⟨cs.length,zd,zE,hF⟩
 rintro f mm ⟨i,h3,hi,hF⟩;cases i with
 |zero=>
  have hK:K mm:=hF mm (fR.refl _);simp[h3,JJ,UG];exact hK
 |succ i=>
  obtain⟨c,hc⟩:∃c,cs[i]?=some c:=⟨_,zzac zE⟩;have ai:Qf (cs.map Qj) i=Qj c:=Qv (by simp[hc]);have hgd:cs.getD i ⟨0,0,0,0,0,0,0,0⟩=c:=by simp[zzaq,hc]
  rw[nj,hgd]at hF;have h3':f 3=I i:=by rw[h3];congr 1;omega
  have aa:i<cs.length:=zE
  have wq:(i:Int)<(cs.length:Int):=zE
  have hw:IntKind.i64.wrap ((i:Int)-1)=(i:Int)-1:=by rw[Qh]<;>omega
  have AA:(0:Int)<=(i:Int):=zE
  simp only[Qj]at hF ai;simp[h3',JJ,ai,aa,wq,hw,AA];refine hF _ (fR.refl _) _ (fun m2 gL=>?_) (fun m2 hK=>?_)
  ·simp[hw];refine⟨aP,⟨i,rfl,zE,gL⟩⟩
  simp[UG];exact hK _ (fR.refl _)
end
end Go.Proofs.YtfliagpjbbkijaaGreatDoor
namespace Go.Proofs.YtfliagpjbbkijaaGreatDoor
noncomputable section
open Go Go.Abs
def Xq(L:P2):P1:=aj (L.map fun(k:Nat)=>(k:Int))
def W4(L:P2):(Xq L).length=L.length:=by simp[Xq,Ue]
def KE{L:P2}{i v:Nat}(h:L[i]?=some v):(Xq L).drop i=I (v:Int)::Xq (L.drop (i+1)):=by
 unfold Xq;rw[nc (x:=(v:Int)) (by simp[h]),zzfp]
def W5(L:P2)(i v:Nat):(Xq L).set i (I (v:Int))=Xq (L.set i v):=by
 unfold Xq;rw[KB,zzfk]
def WF(L:P2)(d:Nat->Bool)(n:Nat):Prop:=L.length=n+1/\∀i v,L[i]?=some v->i<=v/\v<=n/\(v=i<->d i=false)/\∀j,i<=j->j<v->d j=true
def WF.jump{L:P2}{d:Nat->Bool}{n i v u:Nat}(h:WF L d n)(h1:L[i]?=some v)(h2:L[v]?=some u)(aK:v≠i):WF (L.set i u) d n:=by
 obtain⟨hl,hw⟩:=h;refine⟨Nm hl,fun k x hk=>?_⟩;have lu:i<L.length:=(zza.1 h1).1;obtain⟨a1,a2,a3,a4⟩:=hw i v h1;obtain⟨b1,b2,b3,b4⟩:=hw v u h2;by_cases gU:k=i
 ·subst gU;rw[zzbg lu]at hk;cases hk;refine⟨zE,b2,?_,fun j ek nY=>?_⟩
  ·have hd:d k≠false:=fun h=>aK (a3.2 h);constructor
   ·intro h;omega
   intro h;exact absurd h hd
  rcases zzab j v with h|h
  ·exact a4 j ek h
  exact b4 j h nY
 rw[zzbm (fun h=>gU h.symm)]at hk;exact hw k x hk
def NZ(Y:YT)(i n c Iv:Nat)(L:P2)(d:Nat->Bool)(hw:WF L d n)(hi:i<=n)(hn:n<=1000000000)(B:X2)(Lm:P2)(st:Nat->LS)(ln:Nat)(hc:c<B.length)(ax9:Iv<B.length)(aK:c≠Iv)
  (hBc:Qf B c=[.bs Iv 0 (n+1) 1])(wv:Qf B Iv=Xq L)(K:UV)
  (hK:∀(B':X2)(L':P2)(r:Nat),bE (·=Iv) B B'->Qf B' Iv=Xq L'->WF L' d n->i<=r->r<=n->d r=false->(∀j,i<=j->j<r->d j=true)->K (I r) ⟨B',Lm,st,ln⟩):
  aF Tryz.prog aD Y 263 [I i,.ptr c 0] ⟨B,Lm,st,ln⟩ K:=by
 refine Xn adY (fun _ _ _=>.junk) zd ?_;simp[UB];refine Qk JI (fun f m=>∃(k:Nat)(B':X2)(L':P2),f 0=I k/\i<=k/\k<=n/\m=⟨B',Lm,st,ln⟩/\bE (·=Iv) B B'/\Qf B' Iv=Xq L'/\WF L' d n/\∀j,i<=j->j<k->d j=true) (fun f _=>n-(numOf (f 0)).toNat) ?_ ?_
 ·exact⟨i,B,L,zd,zE,hi,rfl,bE.refl _ _,wv,hw,fun j h1 h2=>zE⟩
 rintro f m ⟨k,B',L',h0,vO,Ip,rfl,nh,wz,KF,hd⟩;have W6:Iv<B'.length:=zzan ax9 nh.1;have amD:Qf B' c=[.bs Iv 0 (n+1) 1]:=by rw[nh.2 c hc aK];exact hBc
 obtain⟨fA,eY⟩:=KF;obtain⟨v,hv⟩:∃v,L'[k]?=some v:=⟨_,zzac zE⟩;obtain⟨v1,v2,v3,v4⟩:=eY k v hv;obtain⟨u,hu⟩:∃u,L'[v]?=some u:=⟨_,zzac zE⟩;obtain⟨u1,u2,u3,u4⟩:=eY v u hu;have gv:=KE hv;have gu:=KE hu;have qu:k<n+1:=zE
 have zn:(k:Int)<(n:Int)+1:=zE
 have hvl:v<n+1:=zE
 have aya:(v:Int)<(n:Int)+1:=zE
 have aH:=W4 L';by_cases hvk:v=k
 ·subst hvk;simp[h0,amD,wz,gv,qu,zn,JI,aiG];exact hK B' L' v nh wz ⟨fA,eY⟩ vO Ip (v3.1 rfl) hd
 have ayb:¬(v:Int)=(k:Int):=zE
 have bQ:=W5 L' k u;have hW:=WF.jump ⟨fA,eY⟩ hv hu hvk;have JU:(L'.set k u)[k]?=some u:=zzbg zE;have gu2:=KE JU;have azO:Iv<(B'.set Iv (Xq (L'.set k u))).length:=by simpa using W6
 have sC:Qf (B'.set Iv (Xq (L'.set k u))) Iv=Xq (L'.set k u):=Xj _ W6;have dB:Qf (B'.set Iv (Xq (L'.set k u))) c=[.bs Iv 0 (n+1) 1]:=by rw[Qx _ (fun h=>aK h.symm)];exact amD
 simp[h0,amD,wz,gv,gu,qu,zn,hvl,aya,hvk,ayb,JI,bQ,sC,dB,gu2,aH,fA,W6];refine⟨zE,aP,⟨u,rfl,zE,zE,nh.set (.inl rfl) _,_,rfl,hW,fun j h1 h2=>?_⟩,zE⟩
 ·rcases zzab j k with h|h
  ·exact hd j h1 h
  rcases zzab j v with h3|h3
  ·exact v4 j h h3
  exact u4 j h3 h2
def FT(item region:Int)(c:Cl):Bool:=decide (c.ki=1\/c.ki=2)&&(gV c item region&&Xe c)
def Ku(cs:List Cl)(item region:Int):List Cl:=cs.filter (FT item region)
def fC:List Cl->Pi
 |[]=>[]
 |c::r=>c.fr::c.to::fC r
def pz:∀a b:List Cl,fC (a++b)=fC a++fC b
 |[],_=>rfl
 |c::r,b=>by simp[fC,pz r b]
def pE:∀a:List Cl,(fC a).length=2*a.length
 |[]=>rfl
 |c::r=>by simp[fC,pE r];omega
def pF{c:Cl}:∀{a:List Cl},c∈a->c.fr∈fC a/\c.to∈fC a
 |[],h=>by cases h
 |d::r,h=>by
  rcases zzao.1 h with rfl|h
  ·simp[fC]
  have:=pF h;simp[fC,this.1,this.2]
def dN(C:List Cl):Pi:=dd ((fC C).mergeSort fun x y=>decide (x<=y))
def N0(C:List Cl):(dN C).Pairwise (·<·):=by
 refine WW ?_;have:=zzgu (le:=fun x y:Int=>decide (x<=y)) (fun a b c h1 h2=>by simp at*;omega) (fun a b=>by simp;omega) (fC C);exact this.imp zd
def ur(C:List Cl)(x:Int):x∈dN C<->x∈fC C:=by
 unfold dN;rw[KC,(zzgb _ _).mem_iff]
def N1(C:List Cl):(dN C).length<=2*C.length:=by
 have h1:=WV ((fC C).mergeSort fun x y=>decide (x<=y));rw[zzeu,pE]at h1;exact h1
abbrev GS:=List (Option Bool)
def stepG(s:GS)(a b:Nat)(v:Bool):GS:=s.mapIdx fun j o=>if a<=j/\j<b/\o=none then some v else o
def QN(Bd:Pi)(s:GS)(c:Cl):GS:=stepG s (qV Bd c.fr) (qV Bd c.to) (decide (c.ki=1))
def wA(C:List Cl):GS:=C.reverse.foldl (QN (dN C)) (List.replicate (dN C).length none)
def C3(Bd:Pi)(s:GS)(i:Nat):List Sp:=if s[i]?=some (some true)then[(Bd.getD i 0,Bd.getD (i+1) 0)]else[]
def nk(Bd:Pi)(s:GS)(n:Nat):List Sp:=(List.range n).flatMap (C3 Bd s)
def Qci(cs:List Cl)(item region:Int):List Sp:=Xi (nk (dN (Ku cs item region)) (wA (Ku cs item region)) (dN (Ku cs item region)).length)
def qW(s:GS)(a b:Nat)(v:Bool):(stepG s a b v).length=s.length:=by simp[stepG]
def Uv(s:GS)(a b:Nat)(v:Bool)(j:Nat):(stepG s a b v)[j]?=(s[j]?).map fun o=>if a<=j/\j<b/\o=none then some v else o:=by simp[stepG]
def AY(s:GS)(a b:Nat)(v:Bool)(h:b<=a):stepG s a b v=s:=by
 apply zzct;intro j;rw[Uv];cases s[j]? with
 |none=>rfl
 |some o=>simp;intro h1 h2;omega
def KG(s:GS)(a k:Nat)(v:Bool)(hak:a<=k)(hk:s[k]?=some none):stepG s a (k+1) v=(stepG s a k v).set k (some v):=by
 have ah:k<s.length:=(zza.1 hk).1;apply zzct;intro j;rw[Uv];by_cases yM:j=k
 ·subst yM;rw[zzbg (by rw[qW];exact ah),hk];simp[hak]
 rw[zzbm (fun h=>yM h.symm),Uv];cases s[j]? with
 |none=>rfl
 |some o=>
  simp only[zzcb];congr 1;by_cases h:a<=j/\j<k/\o=none
  ·rw[if_pos h,if_pos ⟨h.1,zE,h.2.2⟩]
  rw[if_neg h,if_neg (fun h'=>h ⟨h'.1,zE,h'.2.2⟩)]
def wB(s:GS)(a k r:Nat)(v:Bool)(hkr:k<=r)(h:∀j,k<=j->j<r->s[j]?≠some none):stepG s a r v=stepG s a k v:=by
 apply zzct;intro j;rw[Uv,Uv];cases hj:s[j]? with
 |none=>rfl
 |some o=>
  simp only[zzcb];congr 1;by_cases h1:a<=j/\j<k/\o=none
  ·rw[if_pos h1,if_pos ⟨h1.1,zE,h1.2.2⟩]
  rw[if_neg h1];by_cases h2:a<=j/\j<r/\o=none
  ·exfalso
   have hkj:k<=j:=by
    rcases zzab j k with h3|h3
    ·exact absurd ⟨h2.1,h3,h2.2.2⟩ h1
    exact h3
   exact h j hkj h2.2.1 (by rw[hj,h2.2.2])
  rw[if_neg h2]
def gB(s:GS):List Bool:=s.map fun o=>o==some true
def nq(s:GS)(j:Nat):Bool:=match s[j]? with
 |some (some _)=>true
 |_=>false
def Zj(l:List Bool):P1:=l.map AV.bool
def amE(l:List Bool):(Zj l).length=l.length:=by simp[Zj]
def amF{l:List Bool}{i:Nat}{x:Bool}(h:l[i]?=some x):(Zj l).drop i=.bool x::Zj (l.drop (i+1)):=by
 unfold Zj;rw[<- zzfp];have ah:=(zza.1 h).1;rw[zzae ah,(zza.1 h).2];rfl
def amG(l:List Bool)(i:Nat)(x:Bool):(Zj l).set i (.bool x)=Zj (l.set i x):=by simp[Zj,zzfk]
def W7(n:Nat):bH n [.bool false]=Zj (List.replicate n false):=by
 induction n with
 |zero=>rfl
 |succ n ih=>rw[bH,ih];rfl
def amH(s:GS)(k:Nat)(v:Bool):gB (s.set k (some v))=(gB s).set k v:=by
 unfold gB;rw[zzfk];cases v<;>rfl
def aeH(n:Nat):gB (List.replicate n none)=List.replicate n false:=by
 unfold gB;rw[List.map_replicate];rfl
def WF.init(n:Nat)(d:Nat->Bool)(hd:∀j,d j=false):WF (List.range (n+1)) d n:=by
 refine⟨zd,fun i v h=>?_⟩;obtain⟨h1,h2⟩:=zza.1 h;simp at h1 h2;subst h2;exact⟨zE,zE,⟨fun _=>hd _,fun _=>rfl⟩,fun j h3 h4=>zE⟩
def WF.dec{L:P2}{d d':Nat->Bool}{n k:Nat}(h:WF L d n)(hk:k<n)(hd:d' k=true)(hd2:∀j,j≠k->d' j=d j):WF (L.set k (k+1)) d' n:=by
 obtain⟨hl,hw⟩:=h;refine⟨Nm hl,fun i v hv=>?_⟩;by_cases vO:i=k
 ·subst vO;rw[zzbg zE]at hv;cases hv;refine⟨zE,zE,?_,fun j h1 h2=>?_⟩
  ·constructor
   ·intro h;omega
   intro h;rw[hd]at h;cases h
  obtain rfl:j=i:=zE
  exact hd
 rw[zzbm (fun h=>vO h.symm)]at hv;obtain⟨a1,a2,a3,a4⟩:=hw i v hv;refine⟨a1,a2,by rw[hd2 i vO];exact a3,fun j h1 h2=>?_⟩;by_cases yM:j=k
 ·subst yM;exact hd
 rw[hd2 j yM];exact a4 j h1 h2
def W8(s:GS)(k:Nat)(v:Bool)(hk:k<s.length):nq (s.set k (some v)) k=true/\∀j,j≠k->nq (s.set k (some v)) j=nq s j:=by
 constructor
 ·unfold nq;rw[zzbg hk]
 intro j hj;unfold nq;rw[zzbm (fun h=>hj h.symm)]
def amI(l:Pi)(x:Int):qV l x<=l.length:=zzci _ _
def KH{l:Pi}{x:Int}(h:x∈l):qV l x<l.length:=by
 unfold qV;have h1:=zzci (fun y=>decide (y<x)) l;rcases zzab (l.filter fun y=>decide (y<x)).length l.length with h2|h2
 ·exact h2
 have h3:(l.filter fun y=>decide (y<x)).length=l.length:=zE
 have h4:=(List.length_filter_eq_length_iff.1 h3) x h;simp at h4
def C4(Y:YT)(m:AM)(K:UV)(hK:K (.sl .nil []) m):aF Tryz.prog aD Y 114 [.sl .nil []] m K:=by
 refine Xn BV (fun _ _ _=>.junk) zd ?_;simp[uX,z8];exact hK
def Kn(Bd:Pi)(R:List Sp):X1:=fun d f l=>
 if f=999999 then(if d=59 then .aM 0 []else .junk)else
 if f=257 then(match l with
  |[.agg [.int _ a,.int _ b,.int _ c,.int _ d,.int _ e,.int _ f,.int _ g,.int _ h],.int _ i,.int _ r]=>.bool (gV ⟨a,b,c,d,e,f,g,h⟩ i r)
  |_=>.junk)else
 if f=31 then(match l with
  |[.agg [.int _ a,.int _ b,.int _ c,.int _ d,.int _ e,.int _ f,.int _ g,.int _ h]]=>.bool (Xe ⟨a,b,c,d,e,f,g,h⟩)
  |_=>.junk)else
 if f=256 then(match l with
  |[.sl _ rows]=>.fn 271 [] [.ep [.sl .ro rows] 0]
  |_=>.junk)else
 if f=264 then(match l with
  |[_,.int _ x]=>.aS [I (qV Bd x:Nat),.bool (decide (Bd[qV Bd x]?=some x))]
  |_=>.junk)else
 if f=222 then .sl .ro (R.map Qe)else .gd false .junk
def aeI(B:X2)(C:List Cl):Prop:=(C=[]/\Qf B 0=[.sl .nil []])\/(C≠[]/\∃cK,Qf B 0=[.bs cK 0 (fC C).length 1]/\cK≠0/\cK<B.length/\Qf B cK=aj (fC C))
def aeI.app{B:X2}{C:List Cl}(h:aeI B C)(h0:0<B.length)(x:X2):aeI (B++x) C:=by
 obtain⟨h1,h2⟩|⟨h1,cK,h2,h3,h4,h5⟩:=h
 ·exact .inl ⟨h1,by rw[Qi h0];exact h2⟩
 exact .inr ⟨h1,cK,by rw[Qi h0];exact h2,h3,by simp;omega,by rw[Qi h4];exact h5⟩
def C5:SC:=(⟨_,by cbv⟩:we [1,1,1,1,1,1,1,1,1,1,1] sw).1
def W9:SC->SC:=(⟨_,fun _=>by cbv⟩:jh [1,1,1] (AT [1,1,1,1,1,1,1,1] sw)).1
def ajr:SC->SC:=(⟨_,fun _=>by cbv⟩:jh [1,1,1,1,1,1,1,1] sw).1
theorem XA:sw=ajr (W9 C5):=rfl
def XB(Bd:Pi)(s:GS)(i:Nat):(C3 Bd s i).length<=1:=by unfold C3;split<;>simp
def qX(Bd:Pi)(s:GS)(n:Nat):nk Bd s (n+1)=nk Bd s n++C3 Bd s n:=by simp[nk,zzff]
def wC(Bd:Pi)(s:GS):∀n,(nk Bd s n).length<=n
 |0=>by simp[nk]
 |n+1=>by
  have h1:=wC Bd s n;have h2:=XB Bd s n;rw[qX,zzal];omega
def wD(Bd z:Pi)(s:GS)(R:List Sp)(n:Nat)(hn:s.length=n)(hn9:n<=10000000)(hR:R=Xi (nk Bd s n))(E:QP)(B:X2)(Lm:P2)(st:Nat->LS)(ln:Nat)(g g1:Nat)(Bd0:Pi)
  (h8:Abs.look E 8=.ptr 0 0)(pG:Abs.look E 11=.ptr g1 0)(hg1:Qf B g1=[.bs g 0 n 1])(hg:Qf B g=Zj (gB s))
  (hb:∀i,s[i]?=some (some true)->∃cK,Qf B 0=[.bs cK 0 n 1]/\Qf B cK=aj (Bd++z)/\i+1<Bd.length/\Bd.length=n):
  vc Tryz.prog aD (Kn Bd0 R) Y0 C5 ⟨Za 145 E,⟨B,Lm,st,ln⟩⟩ (post Tryz.prog aD (Kn Bd0 R) EN (.sl .ro (R.map Qe))):=by
 have fh:(gB s).length=n:=by simp[gB,hn]
 simp[C5,pG,hg1]
 refine Qk qA (fun f m=>∃(i:Nat)(o:List Sp)(rt:Rt)(Lm':P2),i<=n/\f 123=I i/\f 22=.sl rt (o.map Qe)/\m=⟨B,Lm',st,ln⟩/\o=nk Bd s i/\((o=[]/\rt=.nil/\Lm'=Lm)\/(o≠[]/\rt=.own Lm.length 2/\Lm'=Lm++[o.length])))
  (fun f _=>n-(numOf (f 123)).toNat) ?_ ?_
 ·exact⟨0,[],.nil,Lm,zE,zd,zd,rfl,by simp[nk],.inl ⟨rfl,rfl,rfl⟩⟩
 rintro f m ⟨i,o,rt,Lm',hi,h123,h22,rfl,ho,bn⟩;have XC:o.length<=i:=by rw[ho];exact wC Bd s i
 rcases zzab i n with ah|bu
 ·obtain⟨v,hv⟩:∃v,s[i]?=some v:=⟨_,zzac zE⟩;have hgv:(gB s)[i]?=some (v==some true):=by simp[gB,hv]
  have gg:=amF hgv;have aa:(i:Int)<(n:Int):=zE
  have hw:=bO i zE;have dX:=qX Bd s i;rw[<- ho]at dX;by_cases hvt:v=some true
  ·subst hvt;obtain⟨cK,b1,b2,b3,b4⟩:=hb i hv;obtain⟨x,hx⟩:∃x,Bd[i]?=some x:=⟨_,zzac zE⟩;obtain⟨y,hy⟩:∃y,Bd[i+1]?=some y:=⟨_,zzac b3⟩;have gx:=nc (l:=Bd++z) (i:=i) (x:=x) (by rw[zzam zE];exact hx);have gy:=nc (l:=Bd++z) (i:=i+1) (x:=y) (by rw[zzam zE];exact hy);have hou:C3 Bd s i=[(x,y)]:=by simp[C3,hv,hx,hy]
   rw[hou]at dX;simp at gg;have hi1:i+1<n:=zE
   have atj:(i:Int)+1<(n:Int):=zE
   have AA:(0:Int)<=(i:Int)+1:=zE
   have htn:((i:Int)+1).toNat=i+1:=zE
   have dB:∀row∈o.map Qe,row.length=2:=by
    intro row h;rw[zzbk]at h;obtain⟨a,_,rfl⟩:=h;rfl
   obtain⟨rfl,rfl,rfl⟩|⟨aK,rfl,rfl⟩:=bn
   ·simp[h123,h22,ah,aa,hg,gg,qA,hw,h8,b1,b2,gx,gy,hi1,atj,AA,htn,Kn];refine⟨aP,⟨i+1,zE,zd,[(x,y)],_,⟨rfl,rfl⟩,by rw[dX];rfl,zd⟩,zE⟩
   simp[h123,h22,ah,aa,hg,gg,qA,hw,h8,b1,b2,gx,gy,hi1,atj,AA,htn,Kn];refine⟨⟨?_,zE⟩,aP,⟨i+1,zE,zd,o++[(x,y)],_,⟨rfl,by simp[Qe]⟩,dX.symm,zd⟩,zE⟩
   ·rintro row (⟨a,b,_,rfl⟩|rfl)<;>rfl
  have hou:C3 Bd s i=[]:=by
   unfold C3;rw[hv,if_neg];intro h;cases h;exact hvt rfl
  rw[hou,zzau]at dX;have hvb:(v==some true)=false:=by simpa using hvt
  rw[hvb]at gg;simp[h123,h22,ah,aa,hg,gg,qA,hw];refine⟨aP,⟨i+1,zE,zd,o,rt,⟨rfl,rfl⟩,dX.symm,bn⟩,zE⟩
 obtain rfl:i=n:=zE
 rw[<- ho]at hR;have amJ:=Un o zE;rw[<- hR]at amJ;obtain⟨rfl,rfl,rfl⟩|⟨aK,rfl,rfl⟩:=bn
 ·simp[h123,h22,qA,EN,Kn];exact Xl amJ ⟨Wk.sl _ _,trivial⟩
 simp[h123,h22,qA,EN,Kn];exact amJ
def wE:∀(cs:List Cl)(n i:Nat)(x:P1),n<=cs.length->(QM cs n)[i]?=some x->∃(k:Nat)(c:Cl),cs[k]?=some c/\k+1+i=n/\x=[I (k:Int),.agg (Qj c)]
 |cs,0,i,x,_,h=>by simp[QM]at h
 |cs,n+1,0,x,hn,h=>by
  rw[nj]at h;simp at h;obtain⟨c,hc⟩:∃c,cs[n]?=some c:=⟨_,zzac zE⟩;refine⟨n,c,hc,zE,?_⟩;rw[<- h];simp[hc]
 |cs,n+1,i+1,x,hn,h=>by
  rw[nj]at h;obtain⟨k,c,h1,h2,h3⟩:=wE cs n i x zE (Nm h);exact⟨k,c,h1,zE,h3⟩
def FU(cs:List Cl)(n:Nat):(QM cs n).length=n:=by simp[QM]
def FV{cs:List Cl}{n:Nat}:∀x∈QM cs n,x.length=2:=by
 intro x hx;simp[QM]at hx;obtain⟨k,_,rfl⟩:=hx;rfl
structure SR (C:List Cl) (Bd z:Pi) (n b:Nat) (s:GS) (L:P2) (bx:X2):Prop where
 len:b+4<bx.length
 g1:Qf bx (b+1)=[.bs b 0 n 1]
 g:Qf bx b=Zj (gB s)
 l1:Qf bx (b+3)=[.bs (b+2) 0 (n+1) 1]
 l:Qf bx (b+2)=Xq L
 f:Qf bx (b+4)=[.fn 263 [] [.ptr (b+3) 0]]
 bd:C≠[]->∃cK,Qf bx 0=[.bs cK 0 n 1]/\Qf bx cK=aj (Bd++z)/\0<cK/\cK<b
def SR.app{C:List Cl}{Bd z:Pi}{n b:Nat}{s:GS}{L:P2}{bx:X2}(h:SR C Bd z n b s L bx)(x:X2):SR C Bd z n b s L (bx++x):=by
 have hl:=h.len;refine⟨by simp;omega,by rw[Qi zE];exact h.g1,by rw[Qi zE];exact h.g,by rw[Qi zE];exact h.l1,by rw[Qi zE];exact h.l,by rw[Qi zE];exact h.f,fun hc=>?_⟩;obtain⟨cK,h1,h2,h3,h4⟩:=h.bd hc;exact⟨cK,by rw[Qi zE];exact h1,by rw[Qi zE];exact h2,h3,h4⟩
def SR.later{C:List Cl}{Bd z:Pi}{n b:Nat}{s:GS}{L L':P2}{bx bx':X2}(h:SR C Bd z n b s L bx)(hb:0<b)(hk:bE (·=b+2) bx bx')(hl:Qf bx' (b+2)=Xq L'):SR C Bd z n b s L' bx':=by
 have aH:=h.len;have k:∀j,j<bx.length->j≠b+2->Qf bx' j=Qf bx j:=hk.2;refine⟨by have:=hk.1;omega,by rw[k _ zE zE];exact h.g1,by rw[k _ zE zE];exact h.g,by rw[k _ zE zE];exact h.l1,hl,by rw[k _ zE zE];exact h.f,fun hc=>?_⟩;obtain⟨cK,h1,h2,h3,h4⟩:=h.bd hc;exact⟨cK,by rw[k _ zE zE];exact h1,by rw[k _ zE zE];exact h2,h3,h4⟩
def SR.put{C:List Cl}{Bd z:Pi}{n b:Nat}{s:GS}{L:P2}{bx:X2}(h:SR C Bd z n b s L bx)(hb:0<b)(k:Nat)(v:Bool):
  SR C Bd z n b (s.set k (some v)) (L.set k (k+1)) ((bx.set b (Zj ((gB s).set k v))).set (b+2) (Xq (L.set k (k+1)))):=by
 have aH:=h.len
 have e:∀j,j≠b->j≠b+2->Qf ((bx.set b (Zj ((gB s).set k v))).set (b+2) (Xq (L.set k (k+1)))) j=Qf bx j:=fun j h1 h2=>by
  rw[Qx _ (fun h=>h2 h.symm),Qx _ (fun h=>h1 h.symm)]
 refine⟨Nm aH,by rw[e _ zE zE];exact h.g1,?_,by rw[e _ zE zE];exact h.l1,by rw[Xj _ (by simp;omega)],by rw[e _ zE zE];exact h.f,fun hc=>?_⟩
 ·rw[Qx _ zE,Xj _ zE,amH]
 obtain⟨cK,h1,h2,h3,h4⟩:=h.bd hc;exact⟨cK,by rw[e _ zE zE];exact h1,by rw[e _ zE zE];exact h2,h3,h4⟩
def aeJ(Bd:Pi)(s:GS)(c:Cl):(QN Bd s c).length=s.length:=by simp[QN,qW]
def wG(Bd:Pi):∀(l:List Cl)(s:GS),(l.foldl (QN Bd) s).length=s.length
 |[],_=>rfl
 |c::l,s=>by rw[zzcu,wG Bd l,aeJ]
def AZ(Bd:Pi):∀(l:List Cl)(s:GS)(i:Nat)(v:Bool),(∀c∈l,c.to∈Bd)->(∀v,s[i]?≠some (some v))->(l.foldl (QN Bd) s)[i]?=some (some v)->i+1<Bd.length+0\/i+1<=Bd.length-1
 |[],s,i,v,_,h0,h=>absurd h (h0 v)
 |c::l,s,i,v,hc,h0,h=>by
  rw[zzcu]at h;by_cases h1:∃v,(QN Bd s c)[i]?=some (some v)
  ·obtain⟨v',h2⟩:=h1;unfold QN at h2;rw[Uv]at h2;cases hs:s[i]? with
   |none=>rw[hs]at h2;cases h2
   |some o=>
    rw[hs]at h2;simp only[zzcb,Option.some.injEq]at h2;split at h2
    ·rename_i h3;have:=KH (hc c zd);exact .inl zE
    subst h2;exact absurd hs (h0 v')
  exact AZ Bd l _ i v (fun c h=>hc c (by simp[h])) (fun v hv=>h1 ⟨v,hv⟩) h
def N2(s:GS)(j:Nat)(h:nq s j=true):s[j]?≠some none:=by
 intro h';unfold nq at h;rw[h']at h;cases h
def XD{s:GS}{j:Nat}(h:nq s j=false)(hj:j<s.length):s[j]?=some none:=by
 unfold nq at h;obtain⟨o,ho⟩:=aX hj;rw[ho]at h |-
 cases o with
 |none=>rfl
 |some v=>cases h
def KI(s:GS)(a q r:Nat)(v:Bool)(hq:q<=r)(h:∀j,a<=j->j<r->nq s j=true):stepG s a q v=s:=by
 rcases zzhn a q with h1|h1
 ·rw[wB s a a q v h1 (fun j h2 h3=>N2 s j (h j h2 zE)),AY _ _ _ _ (zzaa _)]
 exact AY _ _ _ _ h1
def A0(C:List Cl)(Bd z:Pi)(R:List Sp)(n:Nat)(hBd:Bd=dN C)(hn:Bd.length=n)(hn9:n<=10000000)(hCl:C.length<=1000000)(hR:R=Xi (nk Bd (wA C) n))(E:QP)(B:X2)(Lm:P2)(st:Nat->LS)(ln:Nat)(b:Nat)(rt dA:Rt)
  (hb:0<b)(wv:B.length=b+4)(h7:Abs.look E 7=.sl rt (C.map Qj))(bn:∀m,bG m 6 (.sl rt (C.map Qj))=.sl dA (C.map Qj))(h8:Abs.look E 8=.ptr 0 0)(pG:Abs.look E 11=.ptr (b+1) 0)(oe:Abs.look E 12=.ptr (b+3) 0)
  (hg1:Qf B (b+1)=[.bs b 0 n 1])(hg:Qf B b=Zj (List.replicate n false))(eR:Qf B (b+3)=[.bs (b+2) 0 (n+1) 1])(hl:Qf B (b+2)=aj (List.replicate (n+1) 0))
  (yP:C≠[]->∃cK,Qf B 0=[.bs cK 0 n 1]/\Qf B cK=aj (Bd++z)/\0<cK/\cK<b):
  vc Tryz.prog aD (Kn Bd R) Y0 (W9 C5) ⟨Za 145 E,⟨B,Lm,st,ln⟩⟩ (post Tryz.prog aD (Kn Bd R) EN (.sl .ro (R.map Qe))):=by
 simp[W9,oe,eR]
 refine Qk JE (fun f m=>∃(i:Nat)(B':X2)(L':Pi),i<=n+1/\f 74=I i/\m=⟨B',Lm,st,ln⟩/\bE (·=b+2) B B'/\B'.length=B.length/\Qf B' (b+2)=aj L'/\L'.length=n+1/\∀j:Nat,j<i->L'[j]?=some (j:Int))
  (fun f _=>n+1-(numOf (f 74)).toNat) ?_ ?_
 ·exact⟨0,B,List.replicate (n+1) 0,zE,zd,rfl,bE.refl _ _,rfl,hl,zd,fun j h=>zE⟩
 rintro f m ⟨i,B',L',hi,h74,rfl,nh,wz,fA,tM,As⟩;have atk:Qf B' (b+3)=[.bs (b+2) 0 (n+1) 1]:=by rw[nh.2 _ zE zE];exact eR
 rcases zzab i (n+1)with ah|bu
 ·have aa:(i:Int)<(n:Int)+1:=zE
  have hw:=bO i zE;have bQ:=KB L' i (i:Int);have aH:=Ue L';have iI:b+2<B'.length:=zE
  simp[h74,aa,ah,JE,oe,atk,fA,hw,bQ,aH,tM,iI];refine⟨zE,aP,⟨i+1,zE,zd,nh.set (.inl rfl) _,wz,L'.set i (i:Int),Xj _ iI,Nm tM,fun j hj=>?_⟩,zE⟩
  ·by_cases hji':j=i
   ·subst hji';rw[zzbg zE]
   rw[zzbm (fun h=>hji' h.symm)];exact As j zE
 obtain rfl:i=n+1:=zE
 have hLr:L'=(List.range (n+1)).map fun(k:Nat)=>(k:Int):=by
  apply zzct;intro j;by_cases hj:j<n+1
  ·rw[As j hj];simp[hj]
  rw[zzar zE,zzar (by simp;omega)]
 have ayc:Qf B' (b+2)=Xq (List.range (n+1)):=by rw[fA,hLr];rfl
 have bT:¬((n:Int)+1)<(n:Int)+1:=zE
 have ayd:SR C Bd z n b (List.replicate n none) (List.range (n+1)) (B'++[[.fn 263 [] [.ptr (b+3) 0]]]):=by
  have k:∀j,j<B.length->j≠b+2->Qf B' j=Qf B j:=nh.2;refine⟨by simp;omega,?_,?_,?_,?_,?_,fun hc=>?_⟩
  ·rw[Qi zE,k _ zE zE];exact hg1
  ·rw[Qi zE,k _ zE zE,aeH];exact hg
  ·rw[Qi zE];exact atk
  ·rw[Qi zE];exact ayc
  ·have:b+4=B'.length:=zE
   rw[this];simp
  obtain⟨cK,h1,h2,h3,h4⟩:=yP hc;exact⟨cK,by rw[Qi zE,k _ zE zE];exact h1,by rw[Qi zE,k _ zE zE];exact h2,h3,h4⟩
 have amK:=Xl (l:=[.sl dA (C.map Qj)]) (lY C) ⟨Wk.sl _ _,trivial⟩;have cV:=lZ C zE;have V5:=fun s hs hR E=>wD Bd z s R n hs hn9 hR E
 have A1:∀y,Qf (B'++[y]) (b+4)=y:=fun y=>by
  have:b+4=B'.length:=zE
  rw[this];simp
 simp[h74,JE,h7,oe,bn,wz,wv,A1,Kn];refine⟨amK,?_⟩;refine ji (xs:=QM C C.length) zd cV FV (fun i m=>∃(s:GS)(L:P2),s=(C.reverse.take i).foldl (QN Bd) (List.replicate n none)/\WF L (nq s) n/\SR C Bd z n b s L m.boxes) (fun _ _=>False) ?_ ?_ (fun _ _ _ h=>h.elim) ?_ ?_ (fun _ _ h=>h.elim)
 ·exact⟨_,_,zd,WF.init n _ (fun j=>by simp[nq,zzcn]),ayd⟩
 ·rintro i m m' ⟨s,L,h1,h2,h3⟩ ⟨⟨bx,e1⟩,_,_⟩;exact⟨s,L,h1,h2,by rw[e1];exact h3.app bx⟩
 ·rintro l i m x hg hr ⟨s,L,hs,hWF,hSt⟩ hx K' k1 _ _;obtain⟨k,c,hc,hk,rfl⟩:=wE C C.length i x (zzaa _) hx;rw[Ut]at hSt;have hcm:c∈C:=zzad hc;have amL:C≠[]:=List.ne_nil_of_mem hcm
  have aye:C.reverse[i]?=some c:=by
   rw[List.getElem?_reverse zE];rw[show C.length-1-i=k by omega];exact hc
  have FX:s.length=n:=by rw[hs,wG];simp
  have dR:(C.reverse.take (i+1)).foldl (QN Bd) (List.replicate n none)=QN Bd s c:=by
   rw[zzap,aye,zzgm,<- hs];rfl
  obtain⟨cK,d1,d2,d3,d4⟩:=hSt.bd amL;have nr:∀m,(aj (Bd++z)).map (bG m 5)=aj (Bd++z):=fun m=>Vn m 4 (WU _);have kL:aY 1 n (aj (Bd++z))=Bd.map fun x=>[I x]:=by rw[<- hn,ng];exact wo Bd _
  have oJ:n<=(aj (Bd++z)).length:=by rw[Ue];simp;omega
  have nt:Bd.Pairwise (·<=·):=by rw[hBd];exact(N0 C).imp (fun h=>Int.le_of_lt h)
  have b1:=pq Bd c.fr zE nt;have b2:=pq Bd c.to zE nt;have hto:c.to∈Bd:=by rw[hBd,ur];exact(pF hcm).2
  have he:=KH hto;have ha:=amI Bd c.fr;have cI:QN Bd s c=stepG s (qV Bd c.fr) (qV Bd c.to) (decide (c.ki=1)):=rfl;rw[cI]at dR;obtain⟨a,hae⟩:∃a,qV Bd c.fr=a:=⟨_,rfl⟩;obtain⟨e,hee⟩:∃e,qV Bd c.to=e:=⟨_,rfl⟩;obtain⟨v,hv⟩:∃v,(c.ki==1)=v:=⟨_,rfl⟩;have AG:decide (c.ki=1)=v:=hv;rw[hae,hee,AG]at dR;rw[hae]at b1 ha;rw[hee]at b2 he;have aH:=hSt.len;have f0:∀x,Qf (m.boxes++x) 0=[.bs cK 0 n 1]:=fun x=>by rw[Qi zE];exact d1
  have fb:∀x,Qf (m.boxes++x) cK=aj (Bd++z):=fun x=>by rw[Qi zE];exact d2
  have ff:∀x,Qf (m.boxes++x) (b+4)=[.fn 263 [] [.ptr (b+3) 0]]:=fun x=>by rw[Qi zE];exact hSt.f
  simp[hr,Zk,Qj,h8,Kn,f0,fb,ff,nr,kL,oJ,hae,hee];refine⟨b1,b2,?_⟩;have amM:=hSt.app [[I c.ki,I c.it,I c.fr,I c.to,I c.re,I c.n,I c.a,I c.b]];refine NZ Y0 a n (b+3) (b+2) L (nq s) hWF zE zE _ _ _ _ (by simp;omega) (by simp;omega) zE amM.l1 amM.l _ ?_;intro B1 L1 r cZ eR hW1 har hrn fD Ft;have ayf:=amM.later hb cZ eR;have ayg:m.boxes.length<B1.length:=by have:=cZ.1;simp at this;omega
  have atl:Qf B1 m.boxes.length=[I c.ki,I c.it,I c.fr,I c.to,I c.re,I c.n,I c.a,I c.b]:=by
   rw[cZ.2 _ zd zE];simp
  have JR:stepG s a (min r e) v=s:=KI s a _ r v zE Ft;simp
  refine Qk JF (fun g m2=>∃(k:Nat)(B2:X2)(L2:P2),g 21=I k/\a<=k/\k<=n/\m2=⟨B2,m.lens,uo m.st l .busy,m.ln⟩/\WF L2 (nq (stepG s a (min k e) v)) n/\nq (stepG s a (min k e) v) k=false/\
   SR C Bd z n b (stepG s a (min k e) v) L2 B2/\m.boxes.length<B2.length/\Qf B2 m.boxes.length=[I c.ki,I c.it,I c.fr,I c.to,I c.re,I c.n,I c.a,I c.b]) (fun g _=>n-(numOf (g 21)).toNat) ?_ ?_
  ·exact⟨r,B1,L1,zd,har,hrn,rfl,by rw[JR];exact hW1,by rw[JR];exact fD,by rw[JR];exact ayf,ayg,atl⟩
  rintro g m2 ⟨k,B2,L2,g21,hak,Ip,rfl,FY,hd2,yQ,hlt2,hrow2⟩;rcases zzab k e with hke|hke
  ·have wH:min k e=k:=zE
   rw[wH]at FY hd2 yQ;have ayh:(stepG s a k v).length=n:=by rw[qW,FX]
   have atm:k<n:=zE
   have XE:=XD hd2 zE
   have hsk:s[k]?=some none:=by
    rw[Uv]at XE;cases hq:s[k]? with
    |none=>rw[hq]at XE;cases XE
    |some o=>rw[hq]at XE;simpa using XE
   have dX:=KG s a k v hak hsk;obtain⟨gX,qY⟩:=W8 (stepG s a k v) k v zE;have hW3:=WF.dec FY atm gX qY;have hS3:=yQ.put hb k v;have atn:(k:Int)<(e:Int):=zE
   have ato:(k:Int)<(n:Int):=zE
   have amN:(k:Int)<(n:Int)+1:=zE
   have ayi:k<n+1:=zE
   have WY:IntKind.i64.wrap ((k:Int)+1)=(k:Int)+1:=by rw[Qh]<;>omega
   have C2:=amG (gB (stepG s a k v)) k v;have sA:(Xq L2).set k (I ((k:Int)+1))=Xq (L2.set k (k+1)):=by have:=W5 L2 k (k+1);simpa using this
   have gI:=amE (gB (stepG s a k v));have fh:(gB (stepG s a k v)).length=n:=by simp[gB,ayh]
   have hnl:=W4 L2;have hL2:=FY.1;have eW:=yQ.len;have q1:∀X,Qf (B2.set b X) (b+3)=[.bs (b+2) 0 (n+1) 1]:=fun X=>by rw[Qx _ zE];exact yQ.l1
   have q2:∀X,Qf (B2.set b X) (b+2)=Xq L2:=fun X=>by rw[Qx _ zE];exact yQ.l
   have q3:∀X Z,Qf ((B2.set b X).set (b+2) Z) (b+4)=[.fn 263 [] [.ptr (b+3) 0]]:=fun X Z=>by rw[Qx _ zE,Qx _ zE];exact yQ.f
   have dI:b<B2.length:=zE
   have iI:b+2<B2.length:=zE
   simp[g21,atn,hke,JF,pG,oe,yQ.g1,yQ.g,hrow2,hv,ato,atm,amN,ayi,WY,C2,sA,gI,fh,hnl,hL2,q1,q2,q3,dI,iI,Kn];have hl3:=hS3.len
   have atp:Qf ((B2.set b (Zj ((gB (stepG s a k v)).set k v))).set (b+2) (Xq (L2.set k (k+1)))) m.boxes.length=[I c.ki,I c.it,I c.fr,I c.to,I c.re,I c.n,I c.a,I c.b]:=by
    rw[Qx _ zE,Qx _ zE];exact hrow2
   have ayj:m.boxes.length<((B2.set b (Zj ((gB (stepG s a k v)).set k v))).set (b+2) (Xq (L2.set k (k+1)))).length:=by simpa using hlt2
   refine⟨zE,zE,NZ Y0 k n (b+3) (b+2) _ _ hW3 Ip zE _ _ _ _ zE zE zE hS3.l1 hS3.l _ ?_⟩;intro B4 L4 r4 C6 hl4 hW4 ayk ayl amO aym;have hS4:=hS3.later hb C6 hl4;have ayn:m.boxes.length<B4.length:=by have:=C6.1;omega
   have atq:Qf B4 m.boxes.length=[I c.ki,I c.it,I c.fr,I c.to,I c.re,I c.n,I c.a,I c.b]:=by
    rw[C6.2 _ ayj zE];exact atp
   have hr4:k+1<=r4:=by
    rcases Nat.eq_or_lt_of_le ayk with h|h
    ·subst h;rw[gX]at amO;cases amO
    exact h
   have nx:stepG s a (min r4 e) v=(stepG s a k v).set k (some v):=by
    rw[<- dX];refine wB s a (k+1) (min r4 e) v zE (fun j ek nY=>?_);have h1:=N2 _ j (aym j zE zE);rw[zzbm zE,Uv]at h1;intro h2;rw[h2]at h1;simp at h1;omega
   simp;refine⟨aP,⟨r4,rfl,zE,ayl,L4,by rw[nx];exact hW4,by rw[nx];exact amO,by rw[nx];exact hS4,ayn,atq⟩,zE⟩
  have wH:min k e=e:=zE
  rw[wH]at FY hd2 yQ;have ayo:¬(k:Int)<(e:Int):=zE
  simp[g21,ayo,zzbj.2 hke,JF];exact k1 _ ⟨stepG s a e v,L2,dR.symm,FY,yQ⟩
 rintro m ⟨s,L,hs,hWF,hSt⟩;rw[FU]at hs;rw[zzai zd]at hs;have hsf:s=wA C:=by rw[hs];unfold wA;rw[<- hBd,hn]
 rw[<- hsf]at hR;have FX:s.length=n:=by rw[hs,wG];simp
 refine wD Bd z s R n FX hn9 hR _ m.boxes m.lens m.st m.ln b (b+1) Bd ?_ ?_ hSt.g1 hSt.g ?_
 ·simp[h8]
 ·simp[pG]
 intro i hi
 have amL:C≠[]:=by
  rintro rfl;rw[hs]at hi;simp[zzcn]at hi
 obtain⟨cK,d1,d2,_,_⟩:=hSt.bd amL;refine⟨cK,d1,d2,?_,hn⟩;rw[hs]at hi;have:=AZ Bd C.reverse _ i true (fun c hc=>by rw[hBd,ur];exact(pF (zzfq.1 hc)).2) (fun v=>by simp[zzcn]) hi;omega
section
variable (cs:List Cl) (item region:Int)
def ayp(C:List Cl)(rt:Rt)(Lm:P2):Prop:=(C=[]/\rt=.nil/\Lm=[])\/(C≠[]/\rt=.own 0 8/\Lm=[C.length])
end
def XF{B:X2}{i:Nat}{v:P1}(h:Qf B i=v)(hi:i<B.length):B.set i v=B:=by
 apply zzct;intro j;by_cases hj:j=i
 ·subst hj;rw[zzbg hi,Jf hi,h]
 rw[zzbm (fun e=>hj e.symm)]
def KJ(cs:List Cl)(item region:Int)(hl:cs.length<=1000000):Pure Tryz.prog aD 250 [.sl .ro (cs.map Qj),I item,I region] (.sl .ro ((Qci cs item region).map Qe)):=by
 have hR:Qci cs item region=Xi (nk (dN (Ku cs item region)) (wA (Ku cs item region)) (dN (Ku cs item region)).length):=rfl;have hCl:(Ku cs item region).length<=cs.length:=zzci _ _;obtain⟨CC,hCC⟩:∃CC,Ku cs item region=CC:=⟨_,rfl⟩;rw[hCC]at hR hCl;generalize Qci cs item region=R at hR;refine Qm adQ (Kn (dN CC) R) zd ?_;rw[XA];simp[ajr]
 refine Qk ei (fun f m=>∃(i:Nat)(C:List Cl)(rt:Rt)(Lm:P2)(B:X2),i<=cs.length/\f 27=I i/\f 7=.sl rt (C.map Qj)/\m=⟨B,Lm,fun _=>.gone,0⟩/\C++Ku (cs.drop i) item region=CC/\
   C.length<=i/\0<B.length/\ayp C rt Lm/\aeI B C) (fun f _=>cs.length-(numOf (f 27)).toNat) ?_ ?_
 ·exact⟨0,[],.nil,[],[[.sl .nil []]],zE,zd,zd,rfl,Nm hCC,zd,zd,.inl ⟨rfl,rfl,rfl⟩,.inl ⟨rfl,rfl⟩⟩
 rintro f m ⟨i,C,rt,Lm,B,hi,h27,h7,rfl,hC,hCi,dZ,bn,yP⟩;rcases zzab i cs.length with ah|bu
 ·obtain⟨c,hc⟩:=aX ah;have ai:Qf (cs.map Qj) i=Qj c:=Qv (by simp[hc]);have aa:(i:Int)<(cs.length:Int):=zE
  have hw:=bO i zE;have hd:cs.drop i=c::cs.drop (i+1):=by rw[zzae ah,(zza.1 hc).2]
  have hcp:=me c item region;have hvp:=Kj c;rw[hd]at hC
  have skip:FT item region c=false->C++Ku (cs.drop (i+1)) item region=CC:=by
   intro hb;rw[<- hC];simp[Ku,hb]
  have take:FT item region c=true->(C++[c])++Ku (cs.drop (i+1)) item region=CC:=by
   intro hb;rw[<- hC];simp[Ku,hb]
  have fk:∀x,Qf (B++x) 0=Qf B 0:=fun x=>Qi dZ;by_cases hk:c.ki=1\/c.ki=2
  ·cases e1:gV c item region with
   |false=>
    have hs:=skip (by simp[FT,e1]);rw[e1]at hcp;obtain hk|hk:=hk
    ·have ku:(⟨1,c.it,c.fr,c.to,c.re,c.n,c.a,c.b⟩:Cl)=c:=by cases c;simp at hk;subst hk;rfl
     have qZ:Pure Tryz.prog aD 257 [.agg [I 1,I c.it,I c.fr,I c.to,I c.re,I c.n,I c.a,I c.b],I item,I region] (.bool false):=by simpa[Qj,hk]using hcp
     simp[h27,h7,ah,aa,ai,Qj,hk,ku,e1,ei,hw,Kn];refine⟨qZ,aP,⟨i+1,zE,zd,C,rt,⟨rfl,rfl⟩,Lm,_,⟨rfl,rfl⟩,hs,zE,zd,bn,yP.app dZ _⟩,zE⟩
    have ku:(⟨2,c.it,c.fr,c.to,c.re,c.n,c.a,c.b⟩:Cl)=c:=by cases c;simp at hk;subst hk;rfl
    have qZ:Pure Tryz.prog aD 257 [.agg [I 2,I c.it,I c.fr,I c.to,I c.re,I c.n,I c.a,I c.b],I item,I region] (.bool false):=by simpa[Qj,hk]using hcp
    simp[h27,h7,ah,aa,ai,Qj,hk,ku,e1,ei,hw,Kn];refine⟨qZ,aP,⟨i+1,zE,zd,C,rt,⟨rfl,rfl⟩,Lm,_,⟨rfl,rfl⟩,hs,zE,zd,bn,yP.app dZ _⟩,zE⟩
   |true=>
    rw[e1]at hcp;cases e2:Xe c with
    |false=>
     have hs:=skip (by simp[FT,e2]);rw[e2]at hvp;obtain hk|hk:=hk
     ·have ku:(⟨1,c.it,c.fr,c.to,c.re,c.n,c.a,c.b⟩:Cl)=c:=by cases c;simp at hk;subst hk;rfl
      have qZ:Pure Tryz.prog aD 257 [.agg [I 1,I c.it,I c.fr,I c.to,I c.re,I c.n,I c.a,I c.b],I item,I region] (.bool true):=by simpa[Qj,hk]using hcp
      have ny:Pure Tryz.prog aD 31 [.agg [I 1,I c.it,I c.fr,I c.to,I c.re,I c.n,I c.a,I c.b]] (.bool false):=by simpa[Qj,hk]using hvp
      simp[h27,h7,ah,aa,ai,Qj,hk,ku,e1,e2,ei,hw,Kn];refine⟨qZ,ny,aP,⟨i+1,zE,zd,C,rt,⟨rfl,rfl⟩,Lm,_,⟨rfl,rfl⟩,hs,zE,zd,bn,yP.app dZ _⟩,zE⟩
     have ku:(⟨2,c.it,c.fr,c.to,c.re,c.n,c.a,c.b⟩:Cl)=c:=by cases c;simp at hk;subst hk;rfl
     have qZ:Pure Tryz.prog aD 257 [.agg [I 2,I c.it,I c.fr,I c.to,I c.re,I c.n,I c.a,I c.b],I item,I region] (.bool true):=by simpa[Qj,hk]using hcp
     have ny:Pure Tryz.prog aD 31 [.agg [I 2,I c.it,I c.fr,I c.to,I c.re,I c.n,I c.a,I c.b]] (.bool false):=by simpa[Qj,hk]using hvp
     simp[h27,h7,ah,aa,ai,Qj,hk,ku,e1,e2,ei,hw,Kn];refine⟨qZ,ny,aP,⟨i+1,zE,zd,C,rt,⟨rfl,rfl⟩,Lm,_,⟨rfl,rfl⟩,hs,zE,zd,bn,yP.app dZ _⟩,zE⟩
    |true=>
     have ht:=take (by simp[FT,e1,e2,hk]);rw[e2]at hvp;obtain hk|hk:=hk
     ·have ku:(⟨1,c.it,c.fr,c.to,c.re,c.n,c.a,c.b⟩:Cl)=c:=by cases c;simp at hk;subst hk;rfl
      have qZ:Pure Tryz.prog aD 257 [.agg [I 1,I c.it,I c.fr,I c.to,I c.re,I c.n,I c.a,I c.b],I item,I region] (.bool true):=by simpa[Qj,hk]using hcp
      have ny:Pure Tryz.prog aD 31 [.agg [I 1,I c.it,I c.fr,I c.to,I c.re,I c.n,I c.a,I c.b]] (.bool true):=by simpa[Qj,hk]using hvp
      obtain⟨rfl,rfl,rfl⟩|⟨aK,rfl,rfl⟩:=bn
      ·obtain⟨_,di⟩|⟨hx,_⟩:=yP
       ·have KK:∀x,Qf (B++x) 0=[.sl .nil []]:=fun x=>by rw[Qi dZ];exact di
        have rf:∀x y,(B++x).set 0 y=B.set 0 y++x:=fun x y=>Yb y dZ;simp[h27,h7,ah,aa,ai,Qj,hk,ku,e1,e2,ei,hw,KK,rf,dZ,Kn];refine⟨qZ,ny,aP,⟨i+1,zE,zd,[c],.own 0 8,⟨rfl,by simp[Qj,hk]⟩,[1],_,⟨rfl,rfl⟩,ht,zd,zd,.inr ⟨zd,rfl,rfl⟩,.inr ⟨zd,B.length+1,?_,zE,zd,?_⟩⟩,zE⟩
        ·rw[Qi (Nm dZ),Xj _ dZ];rfl
        have:=Xt (B.set 0 [AV.bs (B.length+1) 0 2 1]) [[I 1,I c.it,I c.fr,I c.to,I c.re,I c.n,I c.a,I c.b],[AV.int IntKind.i64 c.fr,AV.int IntKind.i64 c.to]] 1;rw[zzcf]at this;rw[this];rfl
       exact absurd rfl hx
      obtain⟨hx,_⟩|⟨_,cK,di,dI,iI,SS⟩:=yP
      ·exact absurd hx aK
      have KK:∀x,Qf (B++x) 0=[.bs cK 0 (fC C).length 1]:=fun x=>by rw[Qi dZ];exact di
      have amP:∀x,Qf (B++x) cK=aj (fC C):=fun x=>by rw[Qi iI];exact SS
      have rf:∀x y,(B++x).set 0 y=B.set 0 y++x:=fun x y=>Yb y dZ;have hsb:∀x y,(B++x).set cK y=B.set cK y++x:=fun x y=>Yb y iI;have gI:=pE C;have lu:=Ue (fC C);have uu:∀x,Qf (B.set cK []++x) 0=[.bs cK 0 (fC C).length 1]:=fun x=>by rw[Qi (Nm dZ),Qx _ dI,di]
      have hss:∀x y,(B.set cK []++x).set 0 y=(B.set cK []).set 0 y++x:=fun x y=>Yb y (Nm dZ);have bD:(aj (fC C)).take (fC C).length=aj (fC C):=zzai (by rw[lu];exact zzaa _)
      have hnb:aj (fC C)≠[]:=by
       intro h;have:=congrArg List.length h;rw[lu,gI]at this;exact aK (zzbl.1 (by simp at this;omega))
      simp[h27,h7,ah,aa,ai,Qj,hk,ku,e1,e2,ei,hw,KK,amP,rf,hsb,uu,hss,bD,hnb,dZ,iI,lu,Kn];refine⟨qZ,ny,⟨?_,zE⟩,⟨zE,zE⟩,aP,⟨i+1,zE,zd,C++[c],.own 0 8,⟨rfl,by simp[Qj,hk]⟩,[C.length+1],_,⟨rfl,rfl⟩,ht,by simp;omega,zd,.inr ⟨zd,rfl,zd⟩,.inr ⟨zd,B.length+1,?_,zE,zd,?_⟩⟩,zE⟩
      ·rintro row (⟨a,_,rfl⟩|rfl)<;>rfl
      ·rw[Qi (Nm dZ),Xj _ (Nm dZ),pz];simp[fC]
      have:=Xt ((B.set cK []).set 0 [AV.bs (B.length+1) 0 ((fC C).length+2) 1]) [[I 1,I c.it,I c.fr,I c.to,I c.re,I c.n,I c.a,I c.b],aj (fC C)++[AV.int IntKind.i64 c.fr,AV.int IntKind.i64 c.to]] 1;rw[zzcf,zzcf]at this;rw[this,pz,ng];rfl
     have ku:(⟨2,c.it,c.fr,c.to,c.re,c.n,c.a,c.b⟩:Cl)=c:=by cases c;simp at hk;subst hk;rfl
     have qZ:Pure Tryz.prog aD 257 [.agg [I 2,I c.it,I c.fr,I c.to,I c.re,I c.n,I c.a,I c.b],I item,I region] (.bool true):=by simpa[Qj,hk]using hcp
     have ny:Pure Tryz.prog aD 31 [.agg [I 2,I c.it,I c.fr,I c.to,I c.re,I c.n,I c.a,I c.b]] (.bool true):=by simpa[Qj,hk]using hvp
     obtain⟨rfl,rfl,rfl⟩|⟨aK,rfl,rfl⟩:=bn
     ·obtain⟨_,di⟩|⟨hx,_⟩:=yP
      ·have KK:∀x,Qf (B++x) 0=[.sl .nil []]:=fun x=>by rw[Qi dZ];exact di
       have rf:∀x y,(B++x).set 0 y=B.set 0 y++x:=fun x y=>Yb y dZ;simp[h27,h7,ah,aa,ai,Qj,hk,ku,e1,e2,ei,hw,KK,rf,dZ,Kn];refine⟨qZ,ny,aP,⟨i+1,zE,zd,[c],.own 0 8,⟨rfl,by simp[Qj,hk]⟩,[1],_,⟨rfl,rfl⟩,ht,zd,zd,.inr ⟨zd,rfl,rfl⟩,.inr ⟨zd,B.length+1,?_,zE,zd,?_⟩⟩,zE⟩
       ·rw[Qi (Nm dZ),Xj _ dZ];rfl
       have:=Xt (B.set 0 [AV.bs (B.length+1) 0 2 1]) [[I 2,I c.it,I c.fr,I c.to,I c.re,I c.n,I c.a,I c.b],[AV.int IntKind.i64 c.fr,AV.int IntKind.i64 c.to]] 1;rw[zzcf]at this;rw[this];rfl
      exact absurd rfl hx
     obtain⟨hx,_⟩|⟨_,cK,di,dI,iI,SS⟩:=yP
     ·exact absurd hx aK
     have KK:∀x,Qf (B++x) 0=[.bs cK 0 (fC C).length 1]:=fun x=>by rw[Qi dZ];exact di
     have amP:∀x,Qf (B++x) cK=aj (fC C):=fun x=>by rw[Qi iI];exact SS
     have rf:∀x y,(B++x).set 0 y=B.set 0 y++x:=fun x y=>Yb y dZ;have hsb:∀x y,(B++x).set cK y=B.set cK y++x:=fun x y=>Yb y iI;have gI:=pE C;have lu:=Ue (fC C);have uu:∀x,Qf (B.set cK []++x) 0=[.bs cK 0 (fC C).length 1]:=fun x=>by rw[Qi (Nm dZ),Qx _ dI,di]
     have hss:∀x y,(B.set cK []++x).set 0 y=(B.set cK []).set 0 y++x:=fun x y=>Yb y (Nm dZ);have bD:(aj (fC C)).take (fC C).length=aj (fC C):=zzai (by rw[lu];exact zzaa _)
     have hnb:aj (fC C)≠[]:=by
      intro h;have:=congrArg List.length h;rw[lu,gI]at this;exact aK (zzbl.1 (by simp at this;omega))
     simp[h27,h7,ah,aa,ai,Qj,hk,ku,e1,e2,ei,hw,KK,amP,rf,hsb,uu,hss,bD,hnb,dZ,iI,lu,Kn];refine⟨qZ,ny,⟨?_,zE⟩,⟨zE,zE⟩,aP,⟨i+1,zE,zd,C++[c],.own 0 8,⟨rfl,by simp[Qj,hk]⟩,[C.length+1],_,⟨rfl,rfl⟩,ht,by simp;omega,zd,.inr ⟨zd,rfl,zd⟩,.inr ⟨zd,B.length+1,?_,zE,zd,?_⟩⟩,zE⟩
     ·rintro row (⟨a,_,rfl⟩|rfl)<;>rfl
     ·rw[Qi (Nm dZ),Xj _ (Nm dZ),pz];simp[fC]
     have:=Xt ((B.set cK []).set 0 [AV.bs (B.length+1) 0 ((fC C).length+2) 1]) [[I 2,I c.it,I c.fr,I c.to,I c.re,I c.n,I c.a,I c.b],aj (fC C)++[AV.int IntKind.i64 c.fr,AV.int IntKind.i64 c.to]] 1;rw[zzcf,zzcf]at this;rw[this,pz,ng];rfl
  have h1:¬c.ki=1:=fun h=>hk (.inl h);have h2:¬c.ki=2:=fun h=>hk (.inr h);have hs:=skip (by simp[FT,h1,h2]);simp[h27,h7,ah,aa,ai,Qj,h1,h2,ei,hw,Kn];refine⟨aP,⟨i+1,zE,zd,C,rt,⟨rfl,rfl⟩,Lm,_,⟨rfl,rfl⟩,hs,zE,zd,bn,yP.app dZ _⟩,zE⟩
 obtain rfl:i=cs.length:=zE
 have hCe:C=CC:=by rw[<- hC];simp[Ku]
 subst hCe;have w11:IntKind.i64.wrap 1=1:=by rw[Qh]<;>omega
 obtain⟨rfl,rfl,rfl⟩|⟨aK,rfl,rfl⟩:=bn
 ·obtain⟨_,di⟩|⟨h,_⟩:=yP
  ·have atr:dN []=[]:=by simp[dN,fC,dd]
   simp[h27,h7,ei,di,Kn];refine pH _ _ _ _ ?_;simp[di,Kn];refine C4 _ _ _ ?_;have ayq:=XF di dZ;have fk:∀x,Qf (B++x) 0=[.sl .nil []]:=fun x=>by rw[Qi dZ,di]
   simp[di,ayq,dZ,fk,Kn,w11,bH];refine A0 [] (dN []) [] R 0 rfl (by rw[atr];rfl) zE zd (by rw[hR,atr];rfl) _ _ _ _ _ B.length .nil .nil dZ zd ?_ (fun _=>rfl) ?_ ?_ ?_ ?_ ?_ ?_ ?_ (fun h=>absurd rfl h);all_goals simp[Zj,aj]
  exact absurd rfl h
 obtain⟨h,_⟩|⟨_,cK,di,dI,iI,SS⟩:=yP
 ·exact absurd h aK
 simp[h27,h7,ei,di,Kn];have gI:=pE C
 have hnb:aj (fC C)≠[]:=by
  intro h;have:=congrArg List.length h;rw[Ue,gI]at this;exact aK (zzbl.1 (by simp at this;omega))
 refine sI _ (fC C) (by rw[gI];omega) _ cK [] ?_ (Nm hnb) _ ?_
 ·show B[cK]?=_;rw[Jf iI,SS,zzau]
 obtain⟨l,uq⟩:∃l,(fC C).mergeSort (fun x y=>decide (x<=y))=l:=⟨_,rfl⟩;have D9:(fC C).length=l.length:=by rw[<- uq,zzeu]
 have hdl:dd l=dN C:=by rw[<- uq];rfl
 have FZ:∀X,Qf (B.set cK X) 0=[.bs cK 0 (fC C).length 1]:=fun X=>by rw[Qx _ dI];exact di
 have ayr:l≠[]:=by
  intro h;have:=congrArg List.length h;rw[<- D9,gI]at this;exact aK (zzbl.1 (by simp at this;omega))
 simp[AM.wr,uq,FZ,D9,Kn];refine sH _ l (by rw[<- D9,gI];omega) _ _ _ _ cK (Nm iI) ayr (Xj _ iI) _ ?_;intro B2 z dM yR hz;rw[hdl]at yR hz |-
 have att:0<B2.length:=by have:=dM.1;simp at this;omega
 have ays:Qf B2 0=[.bs cK 0 l.length 1]:=by rw[dM.2 0 (Nm dZ) (fun h=>dI h.symm),FZ,D9]
 have azZ:cK<B2.length:=by have:=dM.1;simp at this;omega
 obtain⟨B3,N3⟩:∃B3,B2.set 0 [.bs cK 0 (dN C).length 1]=B3:=⟨_,rfl⟩;have ayt:B3.length=B2.length:=by rw[<- N3];simp
 have amQ:Qf B3 0=[.bs cK 0 (dN C).length 1]:=by rw[<- N3];exact Xj _ att
 have ayu:Qf B3 cK=aj (dN C++z):=by rw[<- N3,Qx _ (fun h=>dI h.symm)];exact yR
 have ayv:∀x,Qf (B3++x) 0=[.bs cK 0 (dN C).length 1]:=fun x=>by rw[Qi zE];exact amQ
 have ayw:0<B3.length:=zE
 have az0:=N1 C;have hwn:IntKind.i64.wrap (((dN C).length:Int)+1)=((dN C).length:Int)+1:=by rw[Qh]<;>omega
 have htn:(((dN C).length:Int)+1).toNat=(dN C).length+1:=zE
 have AA:(0:Int)<=((dN C).length:Int)+1:=zE
 have hf1:=W7 (dN C).length;have hf2:=FN ((dN C).length+1);simp[ays,att,N3,amQ,ayv,hwn,htn,AA,hf1,hf2,ayt.symm,ayw,Kn];refine⟨⟨zE,zE⟩,⟨zE,zE⟩,?_⟩;refine A0 C (dN C) z R (dN C).length rfl rfl zE zE hR _ _ _ _ _ B3.length (.own 0 8) .ro zE zd ?_ (fun _=>rfl) ?_ ?_ ?_ ?_ ?_ ?_ ?_ (fun _=>⟨cK,by rw[Qi zE];exact amQ,by rw[Qi zE];exact ayu,zE,zE⟩);all_goals simp
end
