import Derived.Test.YtnopaopphmjnmaaGreatDoorMESpG
set_option linter.all false
set_option maxRecDepth 100000
set_option maxHeartbeats 64000000
namespace Go.Proofs.YtnopaopphmjnmaaGreatDoor
noncomputable section
open Go Go.Abs
def Uk(l:List Int):(aj l).length=l.length:=by simp[aj]
def nK{l:List Int}{i:Nat}{x:Int}(h:l[i]?=some x):(aj l).drop i=I x::aj (l.drop (i+1)):=by
 unfold aj;rw[<- zzgf];have ai:=(zza.1 h).1;rw[zzaf ai,(zza.1 h).2];rfl
def KT(l:List Int)(i:Nat)(x:Int):(aj l).set i (I x)=aj (l.set i x):=by simp[aj,zzfi]
def nL(a b:List Int):aj (a++b)=aj a++aj b:=by simp[aj]
def XQ(l:List Int):Zg (aj l)=true:=by
 simp[Zg,aj]
def wU:∀(l:List Int)(r:List AV),aV 1 l.length (aj l++r)=l.map fun x=>[I x]
 |[],_=>rfl
 |s::l,r=>by simpa[aj]using wU l r
def FI(n:Nat):bG n [I 0]=aj (List.replicate n 0):=by
 induction n with
 |zero=>rfl
 |succ n ih=>rw[bG,ih];rfl
def FJ{l:List Int}{i:Nat}{x:Int}(h:l[i]?=some x):Qh (l.map fun x=>[I x]) i=[I x]:=Qs (by simp[h])
def dd:List Int->List Int
 |[]=>[]
 |[x]=>[x]
 |x::y::r=>if x=y then dd (y::r)else x::dd (y::r)
theorem FK(x y:Int)(r:List Int):dd (x::y::r)=if x=y then dd (y::r)else x::dd (y::r):=rfl
def CY:∀(p:List Int)(a b:Int),dd (p++[a]++[b])=dd (p++[a])++(if b=a then[]else[b])
 |[],a,b=>by
  by_cases h:b=a
  ·subst h;simp[dd]
  have:¬a=b:=fun e=>h e.symm;simp[dd,h,this]
 |[x],a,b=>by
  have ih:=CY [] a b;simp only[zzaj,zzae]at ih |-
  rw[FK x a [b],FK x a [],ih];by_cases hx:x=a
  ·rw[if_pos hx,if_pos hx]
  rw[if_neg hx,if_neg hx];rfl
 |x::y::p,a,b=>by
  have ih:=CY (y::p) a b;simp only[zzae]at ih |-
  rw[FK x y (p++[a]++[b]),FK x y (p++[a]),ih];by_cases hx:x=y
  ·rw[if_pos hx,if_pos hx]
  rw[if_neg hx,if_neg hx];rfl
def Oj{l:List Int}{j:Nat}{a b:Int}(ha:l[j]?=some a)(hb:l[j+1]?=some b):dd (l.take (j+2))=dd (l.take (j+1))++(if b=a then[]else[b]):=by
 have e1:l.take (j+1)=l.take j++[a]:=by rw[zzas,ha];rfl
 have e2:l.take (j+2)=l.take j++[a]++[b]:=by rw[show j+2=(j+1)+1 from rfl,zzas,hb,e1];rfl
 rw[e2,e1,CY]
def KU:∀l:List Int,(dd l).length<=l.length
 |[]=>by simp[dd]
 |[x]=>by simp[dd]
 |x::y::r=>by
  have:=KU (y::r);rw[dd];split<;>simp at*<;>omega
def KV:∀(l:List Int)(x:Int),x∈dd l<->x∈l
 |[],x=>by simp[dd]
 |[y],x=>by simp[dd]
 |a::b::r,x=>by
  have ih:=KV (b::r) x;rw[dd];split
  ·rename_i h;subst h;rw[ih];simp
  rw[zzaw,ih,zzaw (a:=x) (b:=a)]
def XR:∀{l:List Int},l.Pairwise (·<=·)->(dd l).Pairwise (·<·)
 |[],_=>by simp[dd]
 |[x],_=>by simp[dd]
 |x::y::r,h=>by
  obtain⟨h1,h2⟩:=zzc.1 h;have ih:=XR h2;rw[dd];split
  ·exact ih
  rename_i aK;refine zzc.2 ⟨fun z hz=>?_,ih⟩;have hz':=(KV _ _).1 hz;have hxy:=h1 y (by simp);rcases zzaw.1 hz' with rfl|hz'
  ·omega
  have:=(zzc.1 h2).1 z hz';omega
def sE(Y:YT)(l:List Int)(hl:l.length<=1000000000)(B:List (List AV))(L:List Nat)(st:Nat->LS)(n id:Nat)(aN:id<B.length)(aK:l≠[])(hB:Qh B id=aj l)(K:AV->AM->Prop)
  (hK:∀(B':List (List AV))(z:List Int),bh (·=id) B B'->Qh B' id=aj (dd l++z)->(dd l).length+z.length=l.length->K (.bs id 0 (dd l).length 1) ⟨B',L,st,n⟩):
  an Tryz.prog az Y 161 [.bs id 0 l.length 1] ⟨B,L,st,n⟩ K:=by
 have aH:=Uk l;have eZ:0<l.length:=zzcw.2 aK;refine Xe BY (fun _ _ _=>.junk) (by simp) ?_;by_cases h2:l.length<2
 ·have Ea:(l.length:Int)<2:=by omega
  have hd:dd l=l:=by
   match l,aK,h2 with
   |[x],_,_=>rfl
  have:=hK B [] (bh.refl _ _) (by rw[hd,zzat];exact hB) (by rw[hd];simp);rw[hd]at this;simp[vm,Ah,Ea,h2];exact this
 have Ea:¬(l.length:Int)<2:=by omega
 simp[vm,Ea,h2];refine Qj BZ (fun f m=>∃k:Nat,f 3=I k/\1<=k/\k<=l.length/\m=⟨B,L,st,n⟩/\dd (l.take k)=l.take k) (fun f _=>l.length-(numOf (f 3)).toNat) ?_ ?_
 ·refine⟨1,by simp,by omega,by omega,rfl,?_⟩
  match l,aK with
  |x::r,_=>rfl
 rintro f m ⟨k,h3,cQ,hk,rfl,Of⟩;rcases zzaa k l.length with ai|bu
 ·obtain⟨k',rfl⟩:∃k',k=k'+1:=⟨k-1,by omega⟩;obtain⟨a,ha⟩:∃a,l[k']?=some a:=⟨_,zzad (by omega)⟩;obtain⟨b,hb⟩:∃b,l[k'+1]?=some b:=⟨_,zzad ai⟩;have ga:=nK ha;have gb:=nK hb;have ae1:((k':Int)+1)<(l.length:Int):=by omega
  have ajP:(k':Int)<(l.length:Int):=by omega
  have QZ:k'<l.length:=by omega
  have eX:IntKind.i64.wrap ((k':Int)+1-1)=(k':Int):=by rw[Qk]<;>omega
  have ar0:IntKind.i64.wrap (k':Int)=(k':Int):=by rw[Qk]<;>omega
  have dG:IntKind.i64.wrap ((k':Int)+1+1)=((k'+1+1:Nat):Int):=by rw[Qk]<;>omega
  have AB:(0:Int)<=(k':Int)+1:=by omega
  have htn:((k':Int)+1).toNat=k'+1:=by omega
  have hdt:=Oj ha hb;by_cases hab:b=a
  ·rw[if_pos hab,zzat]at hdt;simp[h3,ai,ae1,ajP,QZ,hB,ga,gb,eX,ar0,dG,AB,htn,hab,BZ];have bZ:(k':Int)+1<=(l.length:Int):=by omega
   refine⟨bZ,?_⟩
   refine Qj B7 (fun f m=>∃(k t:Nat)(B':List (List AV))(L':List Int),f 3=I k/\f 5=I ((t+1:Nat):Int)/\k'+1+(t+1)<=l.length/\1<=k/\k<=k'+1+t/\m=⟨B',L,st,n⟩/\bh (·=id) B B'/\Qh B' id=aj L'/\L'.length=l.length/\
    L'.take k=dd (l.take (k'+1+(t+1)))/\L'.drop (k'+1+t)=l.drop (k'+1+t)) (fun f _=>l.length-(k'+1)-(numOf (f 5)).toNat) ?_ ?_
   ·refine⟨k'+1,0,B,l,by simp[h3],by simp,by omega,by omega,by omega,rfl,bh.refl _ _,hB,rfl,?_,rfl⟩;rw[show k'+1+(0+1)=k'+2 by omega,hdt,Of]
   rintro g m ⟨k,t,B',L',g3,g5,ht,XS,hkt,rfl,fN,tT,tX,bB,XT⟩;have cG:id<B'.length:=zzbb aN fN.1;have jM:=Uk L';rcases zzaa (k'+1+(t+1)) l.length with gN|hjg
   ·obtain⟨x,hx⟩:∃x,l[k'+1+t]?=some x:=⟨_,zzad (by omega)⟩;obtain⟨y,hy⟩:∃y,l[k'+1+t+1]?=some y:=⟨_,zzad (by omega)⟩
    have jf:L'[k'+1+t]?=some x:=by
     have:=congrArg (fun q=>q[0]?) XT;simpa[hx]using this
    have hy':L'[k'+1+t+1]?=some y:=by
     have:=congrArg (fun q=>q[1]?) XT;simpa[hy]using this
    have gx:=nK jf;have gy:(aj L').drop (k'+1+(t+1))=I y::aj (L'.drop (k'+1+t+1+1)):=nK hy';have XU:=Oj hx hy;rw[show k'+1+t+2=k'+1+(t+1+1) by omega,show k'+1+t+1=k'+1+(t+1) by omega,<- bB]at XU
    have hdn:L'.drop (k'+1+(t+1))=l.drop (k'+1+(t+1)):=by
     have:=congrArg (List.drop 1) XT;simpa[zzdv,zzam,zzff,Nat.add_left_comm]using this
    have dD:(t+1:Nat)<l.length-(k'+1):=by omega
    have Ol:((t:Int)+1)<((l.length-(k'+1):Nat):Int):=by omega
    have ajQ:(t:Int)<((l.length-(k'+1):Nat):Int):=by omega
    have ajR:t<l.length-(k'+1):=by omega
    have hwt:IntKind.i64.wrap (t:Int)=(t:Int):=by rw[Qk]<;>omega
    have ar1:IntKind.i64.wrap ((t:Int)+1+1)=((t+1+1:Nat):Int):=by rw[Qk]<;>omega
    have XV:=bK k (by omega);have amv:((t:Int)+1).toNat=t+1:=by omega
    have ar2:(0:Int)<=(t:Int)+1:=by omega
    have XW:(k:Int)<(l.length:Int):=by omega
    have KW:k<l.length:=by omega
    have bU:=KT L' k y;by_cases hyx:y=x
    ·rw[if_pos hyx,zzat]at XU;simp[g3,g5,tT,gx,gy,dD,Ol,ajQ,ajR,hwt,ar1,amv,ar2,hyx,B7];refine⟨aO,⟨k,rfl,t+1,by simp,by omega,XS,by omega,fN,L',rfl,tX,XU.symm,hdn⟩,by omega⟩
    rw[if_neg hyx]at XU;simp[g3,g5,tT,gx,gy,dD,Ol,ajQ,ajR,hwt,ar1,XV,amv,ar2,hyx,XW,KW,bU,cG,B7];refine⟨by rw[jM];omega,aO,⟨k+1,by simp,t+1,by simp,by omega,by omega,by omega,fN.set (.inl rfl) _,L'.set k y,Vr _ cG,by simpa using tX,?_,?_⟩,by omega⟩
    ·rw[zzas,zzaz (by omega),zzfx (by omega)];exact XU.symm
    rw[show k'+1+(t+1)=k'+1+(t+1)from rfl,zzfy (by omega)];exact hdn
   have bJ:¬(t:Int)+1<((l.length-(k'+1):Nat):Int):=by omega
   have XW:(k:Int)<(l.length:Int):=by omega
   have KW:k<l.length:=by omega
   have awo:(k:Int)<=(l.length:Int):=by omega
   have ajS:dd l=L'.take k:=by rw[bB,zzap (by omega)]
   have ar3:(dd l).length=k:=by rw[ajS,zzaq];omega
   have eC:aj L'≠[]:=by
    intro h;have:=congrArg List.length h;rw[jM,tX]at this;simp at this;exact aK this
   have qt:setA (aj L') k (bG (l.length-k) [I 0])=aj (dd l++List.replicate (l.length-k) 0):=by
    have e1:L'=L'.take k++L'.drop k:=by simp
    conv=>lhs;rw[e1]
    rw[nL,nL,FI,ajS];have e2:(aj (L'.take k)).length=k:=by rw[Uk,zzaq];omega
    have:=o7 (aj (List.replicate (l.length-k) 0)) (aj (L'.take k)) (aj (L'.drop k)) (by rw[Uk,Uk,zzdz,zzcq,tX]);rw[e2]at this;exact this
   simp[g3,g5,tT,B7,Ah,bJ,XW,KW,awo,cG,eC,jM,tX,qt];refine⟨by omega,?_⟩;have:=hK (B'.set id (aj (dd l++List.replicate (l.length-k) 0))) (List.replicate (l.length-k) 0) (fN.set (.inl rfl) _) (Vr _ cG) (by rw[ar3];simp;omega);rw[ar3]at this;exact this
  rw[if_neg hab]at hdt;simp[h3,ai,ae1,ajP,QZ,hB,ga,gb,eX,ar0,dG,AB,htn,hab,BZ];refine⟨aO,⟨k'+1+1,by omega,by omega,by omega,?_⟩,by omega⟩
  ·rw[show k'+1+1=k'+2 by omega,hdt,Of,zzas (l:=l) (i:=k'+1),hb];rfl
 obtain rfl:k=l.length:=by omega
 rw[zzbs]at Of;have D9:¬((l.length:Nat):Int)<(l.length:Int):=by omega
 have:=hK B [] (bh.refl _ _) (by rw[Of,zzat];exact hB) (by rw[Of];simp);rw[Of]at this;simp[h3,BZ,Ah];exact this
def FL(a:Int):Pure Tryz.prog az 328 [I a] (.bool false):=by
 refine Qn aer (fun _ _ _=>.junk) (by simp) ?_;simp[ajc,ajd]
def FM(a:Int):Pure Tryz.prog az 311 [I a] (.bool false):=by
 refine Qn aeg (fun _ _ _=>.junk) (by simp) ?_;simp[aiV,aiW]
def Ra(a b:Int):Pure Tryz.prog az 289 [I a,I b] (.bool (decide (a<b))):=by
 have h:=FL a;refine Qn aec (fun _ _ _=>.bool false) (by simp) ?_;simp[aiP,aiQ];exact h
def rf(l:List Int)(x:Int):Nat:=(l.filter fun y=>decide (y<x)).length
def amw{l:List Int}{x:Int}{i:Nat}(hi:i<=l.length)(h1:∀(k:Nat)(y:Int),k<i->l[k]?=some y->y<x)(h2:∀(k:Nat)(y:Int),i<=k->l[k]?=some y->x<=y):rf l x=i:=by
 unfold rf;have e:l=l.take i++l.drop i:=by simp
 rw[e,zzcr]
 have e1:(l.take i).filter (fun y=>decide (y<x))=l.take i:=by
  rw[zzfz];intro y hy;obtain⟨k,hk⟩:=zzcd.1 hy;rw[zzbj]at hk;split at hk
  ·simpa using h1 k y (by assumption) hk
  cases hk
 have e2:(l.drop i).filter (fun y=>decide (y<x))=[]:=by
  rw[zzhc];intro y hy;obtain⟨k,hk⟩:=zzcd.1 hy;rw[zzbk]at hk;have:=h2 (i+k) y (by omega) hk;simp;omega
 rw[e1,e2];simp;omega
def o8(l:List Int)(x:Int)(hl:l.length<=1000000000)(hs:l.Pairwise (·<=·)):Pure Tryz.prog az 258 [.sl .ro (l.map fun y=>[I y]),I x] (.aW [I (rf l x:Nat),.bool (decide (l[rf l x]?=some x))]):=by
 refine Qn adS (fun _ f a=>if f=289 then(match a with|[.int _ a,.int _ b]=>.bool (decide (a<b))|_=>.junk)else .bool false) (by simp) ?_;simp[U6]
 refine Qj qH (fun f m=>∃i j:Nat,f 7=I i/\f 8=I j/\i<=j/\j<=l.length/\m=⟨[],[],fun _=>.gone,0⟩/\(∀(k:Nat)(y:Int),k<i->l[k]?=some y->y<x)/\∀(k:Nat)(y:Int),j<=k->l[k]?=some y->x<=y)
  (fun f _=>(numOf (f 8)).toNat-(numOf (f 7)).toNat) ?_ ?_
 ·refine⟨0,l.length,by simp,by simp,by omega,by omega,rfl,fun k y h=>by omega,fun k y h1 h2=>?_⟩;rw[zzau h1]at h2;cases h2
 rintro f m ⟨i,j,h7,h8,ek,hj,rfl,ha,hb⟩;rcases zzaa i j with ai|bu
 ·have WN:(i+j)/2<l.length:=by omega
  obtain⟨y,hy⟩:∃y,l[(i+j)/2]?=some y:=⟨_,zzad WN⟩;obtain⟨s,hse⟩:∃s,s=(i+j)/2:=⟨_,rfl⟩;rw[<- hse]at hy;have ah:=FJ hy;have ajT:(i:Int)<(j:Int):=by omega
  have w1:IntKind.i64.wrap ((i:Int)+(j:Int))=((i+j:Nat):Int):=by rw[Qk]<;>omega
  have w2:IntKind.u64.wrap ((i+j:Nat):Int)=((i+j:Nat):Int):=by simp[IntKind.wrap,IntKind.bits,IntKind.signed];omega
  have w3:Int.fdiv ((i:Int)+(j:Int)) (2 ^ min 1 IntKind.u64.bits)=(s:Int):=by
   rw[show(2:Int) ^ min 1 IntKind.u64.bits=2 from rfl,Int.fdiv_eq_ediv_of_nonneg _ (by omega)];omega
  have w4:IntKind.i64.wrap (s:Int)=(s:Int):=by rw[Qk]<;>omega
  have w5:=bK s (by omega);have qs:s<l.length:=by omega
  have ar4:(s:Int)<(l.length:Int):=by omega
  have hp:=Ra y x
  have mono:∀(p q:Nat)(u v:Int),p<=q->l[p]?=some u->l[q]?=some v->u<=v:=by
   intro p q u v hpq hu hv;rcases zzaa p q with h|h
   ·obtain⟨hp1,hu⟩:=zza.1 hu;obtain⟨hq1,hv⟩:=zza.1 hv;have:=(zzdn.1 hs) p q hp1 hq1 h;omega
   obtain rfl:p=q:=by omega
   rw[hu]at hv;cases hv;omega
  by_cases hyx:y<x
  ·have amx:decide (y<x)=true:=decide_eq_true hyx;rw[amx]at hp;simp only[Int.natCast_add]at w1 w2;simp[h7,h8,ajT,ai,ah,qH,w1,w2,w3,w4,w5,qs,ar4,hyx];refine⟨hp,aO,⟨s+1,by simp,j,rfl,by omega,by omega,fun k z hk hz=>?_,hb⟩,by omega⟩
   ·have:=mono k s z y (by omega) hz hy;omega
  have amx:decide (y<x)=false:=decide_eq_false hyx;rw[amx]at hp;simp only[Int.natCast_add]at w1 w2;simp[h7,h8,ajT,ai,ah,qH,w1,w2,w3,w4,w5,qs,ar4,hyx];refine⟨hp,aO,⟨i,rfl,s,rfl,by omega,by omega,ha,fun k z hk hz=>?_⟩,by omega⟩
  ·have:=mono s k y z hk hy hz;omega
 obtain rfl:i=j:=by omega
 have iC:=amw hj ha hb;rw[iC];have P3:¬(i:Int)<(i:Int):=by omega
 rcases zzaa i l.length with ai|hge'
 ·obtain⟨y,hy⟩:=aR ai;have ah:=FJ hy;have aa:(i:Int)<(l.length:Int):=by omega
  have hn:=FM y;have hli:l[i]=y:=(zza.1 hy).2;by_cases hyx:y=x
  ·subst hyx;simp[h7,h8,ai,aa,ah,qH,NM,hli]
  simp[h7,h8,ai,aa,ah,qH,NM,hli,hyx];exact hn
 have aa:¬(i:Int)<(l.length:Int):=by omega
 have:l[i]?=none:=zzau hge';simp[h7,h8,aa,qH,NM,this]
def Rb(cs:List Cl)(n:Nat):List (List AV):=((List.range n).reverse).map fun(k:Nat)=>[I (k:Int),.agg (Qg (cs.getD k ⟨0,0,0,0,0,0,0,0⟩))]
def nM(cs:List Cl)(n:Nat):Rb cs (n+1)=[I (n:Int),.agg (Qg (cs.getD n ⟨0,0,0,0,0,0,0,0⟩))]::Rb cs n:=by
 simp[Rb,zzfb]
def mN(cs:List Cl):Pure Tryz.prog az 257 [.sl .ro (cs.map Qg)] (.fn 310 [] [.ep [.sl .ro (cs.map Qg)] 0]):=by
 refine Qn adR (fun _ _ _=>.junk) (by simp) ?_;simp[aiz,aiA]
def mO(cs:List Cl)(hl:cs.length<=1000000000):Iter Tryz.prog az 310 [] [.ep [.sl .ro (cs.map Qg)] 0] (Rb cs cs.length):=by
 intro Y l m K hF;refine Xe aef (fun _ _ _=>.junk) (by simp) ?_;have hw0:IntKind.i64.wrap ((cs.length:Int)-1)=(cs.length:Int)-1:=by rw[Qk]<;>omega
 simp[aiU,hw0];refine Qj JV (fun f mm=>∃i:Nat,f 3=I ((i:Int)-1)/\i<=cs.length/\wP (Y l) K (Rb cs i) mm) (fun f _=>(numOf (f 3)+1).toNat) ?_ ?_
 ·exact⟨cs.length,by simp,by omega,hF⟩
 rintro f mm ⟨i,h3,hi,hF⟩;cases i with
 |zero=>
  have hK:K mm:=hF mm (fM.refl _);simp[h3,JV,VG];exact hK
 |succ i=>
  obtain⟨c,hc⟩:∃c,cs[i]?=some c:=⟨_,zzad (by omega)⟩;have ah:Qh (cs.map Qg) i=Qg c:=Qs (by simp[hc]);have Wa:cs.getD i ⟨0,0,0,0,0,0,0,0⟩=c:=by simp[zzar,hc]
  rw[nM,Wa]at hF;have h3':f 3=I i:=by rw[h3];congr 1;omega
  have aa:i<cs.length:=by omega
  have wV:(i:Int)<(cs.length:Int):=by omega
  have hw:IntKind.i64.wrap ((i:Int)-1)=(i:Int)-1:=by rw[Qk]<;>omega
  have AB:(0:Int)<=(i:Int):=by omega
  simp only[Qg]at hF ah;simp[h3',JV,ah,aa,wV,hw,AB];refine hF _ (fM.refl _) _ (fun m2 qx=>?_) (fun m2 hK=>?_)
  ·simp[hw];refine⟨aO,⟨i,rfl,by omega,qx⟩⟩
  simp[VG];exact hK _ (fM.refl _)
open Go Go.Abs
def Xo(L:List Nat):List AV:=aj (L.map fun(k:Nat)=>(k:Int))
def XX(L:List Nat):(Xo L).length=L.length:=by simp[Xo,Uk]
def KX{L:List Nat}{i v:Nat}(h:L[i]?=some v):(Xo L).drop i=I (v:Int)::Xo (L.drop (i+1)):=by
 unfold Xo;rw[nK (x:=(v:Int)) (by simp[h]),zzgf]
def XY(L:List Nat)(i v:Nat):(Xo L).set i (I (v:Int))=Xo (L.set i v):=by
 unfold Xo;rw[KT,zzfi]
def WF(L:List Nat)(d:Nat->Bool)(n:Nat):Prop:=L.length=n+1/\∀i v,L[i]?=some v->i<=v/\v<=n/\(v=i<->d i=false)/\∀j,i<=j->j<v->d j=true
def WF.jump{L:List Nat}{d:Nat->Bool}{n i v u:Nat}(h:WF L d n)(h1:L[i]?=some v)(h2:L[v]?=some u)(aK:v≠i):WF (L.set i u) d n:=by
 obtain⟨hl,hw⟩:=h;refine⟨by simpa using hl,fun k x hk=>?_⟩;have gr:i<L.length:=(zza.1 h1).1;obtain⟨a1,a2,a3,a4⟩:=hw i v h1;obtain⟨b1,b2,b3,b4⟩:=hw v u h2;by_cases fH:k=i
 ·subst fH;rw[zzaz gr]at hk;cases hk;refine⟨by omega,b2,?_,fun j dU qo=>?_⟩
  ·have hd:d k≠false:=fun h=>aK (a3.2 h);constructor
   ·intro h;omega
   intro h;exact absurd h hd
  rcases zzaa j v with h|h
  ·exact a4 j dU h
  exact b4 j h qo
 rw[zzbe (fun h=>fH h.symm)]at hk;exact hw k x hk
def Om(Y:YT)(i n c II:Nat)(L:List Nat)(d:Nat->Bool)(hw:WF L d n)(hi:i<=n)(hn:n<=1000000000)(B:List (List AV))(Lm:List Nat)(st:Nat->LS)(ln:Nat)(hc:c<B.length)(awp:II<B.length)(aK:c≠II)
  (hBc:Qh B c=[.bs II 0 (n+1) 1])(hBl:Qh B II=Xo L)(K:AV->AM->Prop)
  (hK:∀(B':List (List AV))(L':List Nat)(r:Nat),bh (·=II) B B'->Qh B' II=Xo L'->WF L' d n->i<=r->r<=n->d r=false->(∀j,i<=j->j<r->d j=true)->K (I r) ⟨B',Lm,st,ln⟩):
  an Tryz.prog az Y 256 [I i,.ptr c 0] ⟨B,Lm,st,ln⟩ K:=by
 refine Xe adQ (fun _ _ _=>.junk) (by simp) ?_;simp[U5];refine Qj JU (fun f m=>∃(k:Nat)(B':List (List AV))(L':List Nat),f 0=I k/\i<=k/\k<=n/\m=⟨B',Lm,st,ln⟩/\bh (·=II) B B'/\Qh B' II=Xo L'/\WF L' d n/\∀j,i<=j->j<k->d j=true) (fun f _=>n-(numOf (f 0)).toNat) ?_ ?_
 ·exact⟨i,B,L,by simp,by omega,hi,rfl,bh.refl _ _,hBl,hw,fun j h1 h2=>by omega⟩
 rintro f m ⟨k,B',L',h0,qV,D9,rfl,fN,hBl',IJ,hd⟩;have XZ:II<B'.length:=zzbb awp fN.1;have amy:Qh B' c=[.bs II 0 (n+1) 1]:=by rw[fN.2 c hc aK];exact hBc
 obtain⟨eF,dG⟩:=IJ;obtain⟨v,hv⟩:∃v,L'[k]?=some v:=⟨_,zzad (by omega)⟩;obtain⟨v1,v2,v3,v4⟩:=dG k v hv;obtain⟨u,hu⟩:∃u,L'[v]?=some u:=⟨_,zzad (by omega)⟩;obtain⟨u1,u2,u3,u4⟩:=dG v u hu;have gv:=KX hv;have gu:=KX hu;have qv:k<n+1:=by omega
 have zG:(k:Int)<(n:Int)+1:=by omega
 have hvl:v<n+1:=by omega
 have awq:(v:Int)<(n:Int)+1:=by omega
 have aH:=XX L';by_cases hvk:v=k
 ·subst hvk;simp[h0,amy,hBl',gv,qv,zG,JU,aiy];exact hK B' L' v fN hBl' ⟨eF,dG⟩ qV D9 (v3.1 rfl) hd
 have awr:¬(v:Int)=(k:Int):=by omega
 have bU:=XY L' k u;have hW:=WF.jump ⟨eF,dG⟩ hv hu hvk;have J8:(L'.set k u)[k]?=some u:=zzaz (by omega);have gu2:=KX J8;have ax8:II<(B'.set II (Xo (L'.set k u))).length:=by simpa using XZ
 have ze:Qh (B'.set II (Xo (L'.set k u))) II=Xo (L'.set k u):=Vr _ XZ;have iz:Qh (B'.set II (Xo (L'.set k u))) c=[.bs II 0 (n+1) 1]:=by rw[Zy _ (fun h=>aK h.symm)];exact amy
 simp[h0,amy,hBl',gv,gu,qv,zG,hvl,awq,hvk,awr,JU,bU,ze,iz,gu2,aH,eF,XZ];refine⟨by omega,aO,⟨u,rfl,by omega,by omega,fN.set (.inl rfl) _,_,rfl,hW,fun j h1 h2=>?_⟩,by omega⟩
 ·rcases zzaa j k with h|h
  ·exact hd j h1 h
  rcases zzaa j v with h3|h3
  ·exact v4 j h h3
  exact u4 j h3 h2
open Go Go.Abs
def FN(item region:Int)(c:Cl):Bool:=decide (c.ki=1\/c.ki=2)&&(gW c item region&&Xl c)
def Wl(cs:List Cl)(item region:Int):List Cl:=cs.filter (FN item region)
def fc:List Cl->List Int
 |[]=>[]
 |c::r=>c.fr::c.to::fc r
def o9:∀a b:List Cl,fc (a++b)=fc a++fc b
 |[],_=>rfl
 |c::r,b=>by simp[fc,o9 r b]
def pe:∀a:List Cl,(fc a).length=2*a.length
 |[]=>rfl
 |c::r=>by simp[fc,pe r];omega
def pn{c:Cl}:∀{a:List Cl},c∈a->c.fr∈fc a/\c.to∈fc a
 |[],h=>by cases h
 |d::r,h=>by
  rcases zzaw.1 h with rfl|h
  ·simp[fc]
  have:=pn h;simp[fc,this.1,this.2]
def dH(C:List Cl):List Int:=dd ((fc C).mergeSort fun x y=>decide (x<=y))
def On(C:List Cl):(dH C).Pairwise (·<·):=by
 refine XR ?_;have:=zzgv (le:=fun x y:Int=>decide (x<=y)) (fun a b c h1 h2=>by simp at*;omega) (fun a b=>by simp;omega) (fc C);exact this.imp (by simp)
def uF(C:List Cl)(x:Int):x∈dH C<->x∈fc C:=by
 unfold dH;rw[KV,(zzg _ _).mem_iff]
def Oo(C:List Cl):(dH C).length<=2*C.length:=by
 have h1:=KU ((fc C).mergeSort fun x y=>decide (x<=y));rw[zzes,pe]at h1;exact h1
abbrev GS:=List (Option Bool)
def stepG(s:GS)(a b:Nat)(v:Bool):GS:=s.mapIdx fun j o=>if a<=j/\j<b/\o=none then some v else o
def Rf(Bd:List Int)(s:GS)(c:Cl):GS:=stepG s (rf Bd c.fr) (rf Bd c.to) (decide (c.ki=1))
def wW(C:List Cl):GS:=C.reverse.foldl (Rf (dH C)) (List.replicate (dH C).length none)
def CZ(Bd:List Int)(s:GS)(i:Nat):List Sp:=if s[i]?=some (some true)then[(Bd.getD i 0,Bd.getD (i+1) 0)]else[]
def nN(Bd:List Int)(s:GS)(n:Nat):List Sp:=(List.range n).flatMap (CZ Bd s)
def Qct(cs:List Cl)(item region:Int):List Sp:=Xm (nN (dH (Wl cs item region)) (wW (Wl cs item region)) (dH (Wl cs item region)).length)
def ri(s:GS)(a b:Nat)(v:Bool):(stepG s a b v).length=s.length:=by simp[stepG]
def Jd(s:GS)(a b:Nat)(v:Bool)(j:Nat):(stepG s a b v)[j]?=(s[j]?).map fun o=>if a<=j/\j<b/\o=none then some v else o:=by simp[stepG]
def AZ(s:GS)(a b:Nat)(v:Bool)(h:b<=a):stepG s a b v=s:=by
 apply zzck;intro j;rw[Jd];cases s[j]? with
 |none=>rfl
 |some o=>simp;intro h1 h2;omega
def KY(s:GS)(a k:Nat)(v:Bool)(hak:a<=k)(hk:s[k]?=some none):stepG s a (k+1) v=(stepG s a k v).set k (some v):=by
 have ai:k<s.length:=(zza.1 hk).1;apply zzck;intro j;rw[Jd];by_cases tP:j=k
 ·subst tP;rw[zzaz (by rw[ri];exact ai),hk];simp[hak]
 rw[zzbe (fun h=>tP h.symm),Jd];cases s[j]? with
 |none=>rfl
 |some o=>
  simp only[zzcs];congr 1;by_cases h:a<=j/\j<k/\o=none
  ·rw[if_pos h,if_pos ⟨h.1,by omega,h.2.2⟩]
  rw[if_neg h,if_neg (fun h'=>h ⟨h'.1,by omega,h'.2.2⟩)]
def wX(s:GS)(a k r:Nat)(v:Bool)(hkr:k<=r)(h:∀j,k<=j->j<r->s[j]?≠some none):stepG s a r v=stepG s a k v:=by
 apply zzck;intro j;rw[Jd,Jd];cases hj:s[j]? with
 |none=>rfl
 |some o=>
  simp only[zzcs];congr 1;by_cases h1:a<=j/\j<k/\o=none
  ·rw[if_pos h1,if_pos ⟨h1.1,by omega,h1.2.2⟩]
  rw[if_neg h1];by_cases h2:a<=j/\j<r/\o=none
  ·exfalso
   have hkj:k<=j:=by
    rcases zzaa j k with h3|h3
    ·exact absurd ⟨h2.1,h3,h2.2.2⟩ h1
    exact h3
   exact h j hkj h2.2.1 (by rw[hj,h2.2.2])
  rw[if_neg h2]
def gB(s:GS):List Bool:=s.map fun o=>o==some true
def nO(s:GS)(j:Nat):Bool:=match s[j]? with
 |some (some _)=>true
 |_=>false
def Zi(l:List Bool):List AV:=l.map AV.bool
def amz(l:List Bool):(Zi l).length=l.length:=by simp[Zi]
def amA{l:List Bool}{i:Nat}{x:Bool}(h:l[i]?=some x):(Zi l).drop i=.bool x::Zi (l.drop (i+1)):=by
 unfold Zi;rw[<- zzgf];have ai:=(zza.1 h).1;rw[zzaf ai,(zza.1 h).2];rfl
def amB(l:List Bool)(i:Nat)(x:Bool):(Zi l).set i (.bool x)=Zi (l.set i x):=by simp[Zi,zzfi]
def X0(n:Nat):bG n [.bool false]=Zi (List.replicate n false):=by
 induction n with
 |zero=>rfl
 |succ n ih=>rw[bG,ih];rfl
def amC(s:GS)(k:Nat)(v:Bool):gB (s.set k (some v))=(gB s).set k v:=by
 unfold gB;rw[zzfi];cases v<;>rfl
def ae2(n:Nat):gB (List.replicate n none)=List.replicate n false:=by
 unfold gB;rw[List.map_replicate];rfl
def WF.init(n:Nat)(d:Nat->Bool)(hd:∀j,d j=false):WF (List.range (n+1)) d n:=by
 refine⟨by simp,fun i v h=>?_⟩;obtain⟨h1,h2⟩:=zza.1 h;simp at h1 h2;subst h2;exact⟨by omega,by omega,⟨fun _=>hd _,fun _=>rfl⟩,fun j h3 h4=>by omega⟩
def WF.dec{L:List Nat}{d d':Nat->Bool}{n k:Nat}(h:WF L d n)(hk:k<n)(hd:d' k=true)(hd2:∀j,j≠k->d' j=d j):WF (L.set k (k+1)) d' n:=by
 obtain⟨hl,hw⟩:=h;refine⟨by simpa using hl,fun i v hv=>?_⟩;by_cases qV:i=k
 ·subst qV;rw[zzaz (by omega)]at hv;cases hv;refine⟨by omega,by omega,?_,fun j h1 h2=>?_⟩
  ·constructor
   ·intro h;omega
   intro h;rw[hd]at h;cases h
  obtain rfl:j=i:=by omega
  exact hd
 rw[zzbe (fun h=>qV h.symm)]at hv;obtain⟨a1,a2,a3,a4⟩:=hw i v hv;refine⟨a1,a2,by rw[hd2 i qV];exact a3,fun j h1 h2=>?_⟩;by_cases tP:j=k
 ·subst tP;exact hd
 rw[hd2 j tP];exact a4 j h1 h2
def X1(s:GS)(k:Nat)(v:Bool)(hk:k<s.length):nO (s.set k (some v)) k=true/\∀j,j≠k->nO (s.set k (some v)) j=nO s j:=by
 constructor
 ·unfold nO;rw[zzaz hk]
 intro j hj;unfold nO;rw[zzbe (fun h=>hj h.symm)]
def amD(l:List Int)(x:Int):rf l x<=l.length:=zzbr _ _
def KZ{l:List Int}{x:Int}(h:x∈l):rf l x<l.length:=by
 unfold rf;have h1:=zzbr (fun y=>decide (y<x)) l;rcases zzaa (l.filter fun y=>decide (y<x)).length l.length with h2|h2
 ·exact h2
 have h3:(l.filter fun y=>decide (y<x)).length=l.length:=by omega
 have h4:=(List.length_filter_eq_length_iff.1 h3) x h;simp at h4
open Go Go.Abs
def C0(Y:YT)(m:AM)(K:AV->AM->Prop)(hK:K (.sl .nil []) m):an Tryz.prog az Y 161 [.sl .nil []] m K:=by
 refine Xe BY (fun _ _ _=>.junk) (by simp) ?_;simp[vm,Ah];exact hK
def We(Bd:List Int)(R:List Sp):Nat->FuncId->List AV->AV:=fun d f l=>
 if f=999999 then(if d=59 then .aJ 0 []else .junk)else
 if f=255 then(match l with
  |[.agg [.int _ a,.int _ b,.int _ c,.int _ d,.int _ e,.int _ f,.int _ g,.int _ h],.int _ i,.int _ r]=>.bool (gW ⟨a,b,c,d,e,f,g,h⟩ i r)
  |_=>.junk)else
 if f=83 then(match l with
  |[.agg [.int _ a,.int _ b,.int _ c,.int _ d,.int _ e,.int _ f,.int _ g,.int _ h]]=>.bool (Xl ⟨a,b,c,d,e,f,g,h⟩)
  |_=>.junk)else
 if f=257 then(match l with
  |[.sl _ rows]=>.fn 310 [] [.ep [.sl .ro rows] 0]
  |_=>.junk)else
 if f=258 then(match l with
  |[_,.int _ x]=>.aW [I (rf Bd x:Nat),.bool (decide (Bd[rf Bd x]?=some x))]
  |_=>.junk)else
 if f=182 then .sl .ro (R.map Qe)else .gd false .junk
def ae3(B:List (List AV))(C:List Cl):Prop:=(C=[]/\Qh B 0=[.sl .nil []])\/(C≠[]/\∃aQ,Qh B 0=[.bs aQ 0 (fc C).length 1]/\aQ≠0/\aQ<B.length/\Qh B aQ=aj (fc C))
def ae3.app{B:List (List AV)}{C:List Cl}(h:ae3 B C)(h0:0<B.length)(x:List (List AV)):ae3 (B++x) C:=by
 obtain⟨h1,h2⟩|⟨h1,aQ,h2,h3,h4,h5⟩:=h
 ·exact .inl ⟨h1,by rw[Ql h0];exact h2⟩
 exact .inr ⟨h1,aQ,by rw[Ql h0];exact h2,h3,by simp;omega,by rw[Ql h4];exact h5⟩
def C1:SC:=(⟨_,by cbv⟩:tW [1,1,1,1,1,1,1,1,1,1,1] r9).1
def X2:SC->SC:=(⟨_,fun _=>by cbv⟩:uE [1,1,1] (tV [1,1,1,1,1,1,1,1] r9)).1
def ajU:SC->SC:=(⟨_,fun _=>by cbv⟩:uE [1,1,1,1,1,1,1,1] r9).1
theorem X3:r9=ajU (X2 C1):=rfl
def X4(Bd:List Int)(s:GS)(i:Nat):(CZ Bd s i).length<=1:=by unfold CZ;split<;>simp
def rj(Bd:List Int)(s:GS)(n:Nat):nN Bd s (n+1)=nN Bd s n++CZ Bd s n:=by simp[nN,zzfb]
def wY(Bd:List Int)(s:GS):∀n,(nN Bd s n).length<=n
 |0=>by simp[nN]
 |n+1=>by
  have h1:=wY Bd s n;have h2:=X4 Bd s n;rw[rj,zzah];omega
def wZ(Bd z:List Int)(s:GS)(R:List Sp)(n:Nat)(hn:s.length=n)(hn9:n<=10000000)(hR:R=Xm (nN Bd s n))(E:List (Nat×AV))(B:List (List AV))(Lm:List Nat)(st:Nat->LS)(ln:Nat)(g g1:Nat)(Bd0:List Int)
  (h8:Abs.look E 8=.ptr 0 0)(pq:Abs.look E 11=.ptr g1 0)(hg1:Qh B g1=[.bs g 0 n 1])(hg:Qh B g=Zi (gB s))
  (hb:∀i,s[i]?=some (some true)->∃aQ,Qh B 0=[.bs aQ 0 n 1]/\Qh B aQ=aj (Bd++z)/\i+1<Bd.length/\Bd.length=n):
  vc Tryz.prog az (We Bd0 R) Y0 C1 ⟨Ze 145 E,⟨B,Lm,st,ln⟩⟩ (post Tryz.prog az (We Bd0 R) EE (.sl .ro (R.map Qe))):=by
 have lT:(gB s).length=n:=by simp[gB,hn]
 simp[C1,pq,hg1]
 refine Qj qF (fun f m=>∃(i:Nat)(o:List Sp)(rt:Rt)(Lm':List Nat),i<=n/\f 123=I i/\f 22=.sl rt (o.map Qe)/\m=⟨B,Lm',st,ln⟩/\o=nN Bd s i/\((o=[]/\rt=.nil/\Lm'=Lm)\/(o≠[]/\rt=.own Lm.length 2/\Lm'=Lm++[o.length])))
  (fun f _=>n-(numOf (f 123)).toNat) ?_ ?_
 ·exact⟨0,[],.nil,Lm,by omega,by simp,by simp,rfl,by simp[nN],.inl ⟨rfl,rfl,rfl⟩⟩
 rintro f m ⟨i,o,rt,Lm',hi,h123,h22,rfl,ho,aS⟩;have Oq:o.length<=i:=by rw[ho];exact wY Bd s i
 rcases zzaa i n with ai|bu
 ·obtain⟨v,hv⟩:∃v,s[i]?=some v:=⟨_,zzad (by omega)⟩;have hgv:(gB s)[i]?=some (v==some true):=by simp[gB,hv]
  have gg:=amA hgv;have aa:(i:Int)<(n:Int):=by omega
  have hw:=bK i (by omega);have dM:=rj Bd s i;rw[<- ho]at dM;by_cases hvt:v=some true
  ·subst hvt;obtain⟨aQ,b1,b2,b3,b4⟩:=hb i hv;obtain⟨x,hx⟩:∃x,Bd[i]?=some x:=⟨_,zzad (by omega)⟩;obtain⟨y,hy⟩:∃y,Bd[i+1]?=some y:=⟨_,zzad b3⟩;have gx:=nK (l:=Bd++z) (i:=i) (x:=x) (by rw[zzag (by omega)];exact hx);have gy:=nK (l:=Bd++z) (i:=i+1) (x:=y) (by rw[zzag (by omega)];exact hy);have hou:CZ Bd s i=[(x,y)]:=by simp[CZ,hv,hx,hy]
   rw[hou]at dM;simp at gg;have hi1:i+1<n:=by omega
   have ar5:(i:Int)+1<(n:Int):=by omega
   have AB:(0:Int)<=(i:Int)+1:=by omega
   have htn:((i:Int)+1).toNat=i+1:=by omega
   have iz:∀row∈o.map Qe,row.length=2:=by
    intro row h;rw[zzbc]at h;obtain⟨a,_,rfl⟩:=h;rfl
   obtain⟨rfl,rfl,rfl⟩|⟨aK,rfl,rfl⟩:=aS
   ·simp[h123,h22,ai,aa,hg,gg,qF,hw,h8,b1,b2,gx,gy,hi1,ar5,AB,htn,We];refine⟨aO,⟨i+1,by omega,by simp,[(x,y)],_,⟨rfl,rfl⟩,by rw[dM];rfl,by simp⟩,by omega⟩
   simp[h123,h22,ai,aa,hg,gg,qF,hw,h8,b1,b2,gx,gy,hi1,ar5,AB,htn,We];refine⟨⟨?_,by omega⟩,aO,⟨i+1,by omega,by simp,o++[(x,y)],_,⟨rfl,by simp[Qe]⟩,dM.symm,by simp⟩,by omega⟩
   ·rintro row (⟨a,b,_,rfl⟩|rfl)<;>rfl
  have hou:CZ Bd s i=[]:=by
   unfold CZ;rw[hv,if_neg];intro h;cases h;exact hvt rfl
  rw[hou,zzat]at dM;have hvb:(v==some true)=false:=by simpa using hvt
  rw[hvb]at gg;simp[h123,h22,ai,aa,hg,gg,qF,hw];refine⟨aO,⟨i+1,by omega,by simp,o,rt,⟨rfl,rfl⟩,dM.symm,aS⟩,by omega⟩
 obtain rfl:i=n:=by omega
 rw[<- ho]at hR;have amE:=Uv o (by omega);rw[<- hR]at amE;obtain⟨rfl,rfl,rfl⟩|⟨aK,rfl,rfl⟩:=aS
 ·simp[h123,h22,qF,EE,We];exact Zu amE ⟨Wk.sl _ _,trivial⟩
 simp[h123,h22,qF,EE,We];exact amE
end
end Go.Proofs.YtnopaopphmjnmaaGreatDoor
