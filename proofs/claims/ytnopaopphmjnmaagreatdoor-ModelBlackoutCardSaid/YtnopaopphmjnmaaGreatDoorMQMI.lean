import Derived.Test.YtnopaopphmjnmaaGreatDoorMQSpG
set_option linter.all false
set_option maxRecDepth 100000
set_option maxHeartbeats 64000000
namespace Go.Proofs.YtnopaopphmjnmaaGreatDoor
noncomputable section
open Go Go.Abs
def Uk(l:List Int):(aj l).length=l.length:=by simp[aj]
def nL{l:List Int}{i:Nat}{x:Int}(h:l[i]?=some x):(aj l).drop i=I x::aj (l.drop (i+1)):=by
 unfold aj;rw[<- zzgl];have ai:=(zza.1 h).1;rw[zzaf ai,(zza.1 h).2];rfl
def Ls(l:List Int)(i:Nat)(x:Int):(aj l).set i (I x)=aj (l.set i x):=by simp[aj,zzfo]
def nM(a b:List Int):aj (a++b)=aj a++aj b:=by simp[aj]
def Y3(l:List Int):Zj (aj l)=true:=by
 simp[Zj,aj]
def xh:∀(l:List Int)(r:List AV),bh 1 l.length (aj l++r)=l.map fun x=>[I x]
 |[],_=>rfl
 |s::l,r=>by simpa[aj]using xh l r
def Gi(n:Nat):bK n [I 0]=aj (List.replicate n 0):=by
 induction n with
 |zero=>rfl
 |succ n ih=>rw[bK,ih];rfl
def Gj{l:List Int}{i:Nat}{x:Int}(h:l[i]?=some x):Qh (l.map fun x=>[I x]) i=[I x]:=Qt (by simp[h])
def dd:List Int->List Int
 |[]=>[]
 |[x]=>[x]
 |x::y::r=>if x=y then dd (y::r)else x::dd (y::r)
theorem Gk(x y:Int)(r:List Int):dd (x::y::r)=if x=y then dd (y::r)else x::dd (y::r):=rfl
def Dr:∀(p:List Int)(a b:Int),dd (p++[a]++[b])=dd (p++[a])++(if b=a then[]else[b])
 |[],a,b=>by
  by_cases h:b=a
  ·subst h;simp[dd]
  have:¬a=b:=fun e=>h e.symm;simp[dd,h,this]
 |[x],a,b=>by
  have ih:=Dr [] a b;simp only[zzah,zzad]at ih |-
  rw[Gk x a [b],Gk x a [],ih];by_cases hx:x=a
  ·rw[if_pos hx,if_pos hx]
  rw[if_neg hx,if_neg hx];rfl
 |x::y::p,a,b=>by
  have ih:=Dr (y::p) a b;simp only[zzad]at ih |-
  rw[Gk x y (p++[a]++[b]),Gk x y (p++[a]),ih];by_cases hx:x=y
  ·rw[if_pos hx,if_pos hx]
  rw[if_neg hx,if_neg hx];rfl
def OV{l:List Int}{j:Nat}{a b:Int}(ha:l[j]?=some a)(hb:l[j+1]?=some b):dd (l.take (j+2))=dd (l.take (j+1))++(if b=a then[]else[b]):=by
 have e1:l.take (j+1)=l.take j++[a]:=by rw[zzas,ha];rfl
 have e2:l.take (j+2)=l.take j++[a]++[b]:=by rw[show j+2=(j+1)+1 from rfl,zzas,hb,e1];rfl
 rw[e2,e1,Dr]
def Lt:∀l:List Int,(dd l).length<=l.length
 |[]=>by simp[dd]
 |[x]=>by simp[dd]
 |x::y::r=>by
  have:=Lt (y::r);rw[dd];split<;>simp at*<;>omega
def Lu:∀(l:List Int)(x:Int),x∈dd l<->x∈l
 |[],x=>by simp[dd]
 |[y],x=>by simp[dd]
 |a::b::r,x=>by
  have ih:=Lu (b::r) x;rw[dd];split
  ·rename_i h;subst h;rw[ih];simp
  rw[zzat,ih,zzat (a:=x) (b:=a)]
def Y4:∀{l:List Int},l.Pairwise (·<=·)->(dd l).Pairwise (·<·)
 |[],_=>by simp[dd]
 |[x],_=>by simp[dd]
 |x::y::r,h=>by
  obtain⟨h1,h2⟩:=zzch.1 h;have ih:=Y4 h2;rw[dd];split
  ·exact ih
  rename_i aM;refine zzch.2 ⟨fun z hz=>?_,ih⟩;have hz':=(Lu _ _).1 hz;have hxy:=h1 y zd;rcases zzat.1 hz' with rfl|hz'
  ·omega
  have:=(zzch.1 h2).1 z hz';omega
def sO(Y:YT)(l:List Int)(hl:l.length<=1000000000)(B:List (List AV))(L:List Nat)(st:Nat->LS)(n id:Nat)(aK:id<B.length)(aM:l≠[])(hB:Qh B id=aj l)(K:AV->AM->Prop)
  (hK:∀(B':List (List AV))(z:List Int),bw (·=id) B B'->Qh B' id=aj (dd l++z)->(dd l).length+z.length=l.length->K (.bs id 0 (dd l).length 1) ⟨B',L,st,n⟩):
  an Tryz.prog aA Y 161 [.bs id 0 l.length 1] ⟨B,L,st,n⟩ K:=by
 have aH:=Uk l;have fk:0<l.length:=zzcx.2 aM;refine Xd Cu (fun _ _ _=>.junk) zd ?_;by_cases h2:l.length<2
 ·have EH:(l.length:Int)<2:=zE
  have hd:dd l=l:=by
   match l,aM,h2 with
   |[x],_,_=>rfl
  have:=hK B [] (bw.refl _ _) (by rw[hd,zzau];exact hB) (by rw[hd];simp);rw[hd]at this;simp[vE,AE,EH,h2];exact this
 have EH:¬(l.length:Int)<2:=zE
 simp[vE,EH,h2];refine Qk Cv (fun f m=>∃k:Nat,f 3=I k/\1<=k/\k<=l.length/\m=⟨B,L,st,n⟩/\dd (l.take k)=l.take k) (fun f _=>l.length-(numOf (f 3)).toNat) ?_ ?_
 ·refine⟨1,zd,zE,zE,rfl,?_⟩
  match l,aM with
  |x::r,_=>rfl
 rintro f m ⟨k,h3,dw,hk,rfl,FY⟩;rcases zzaa k l.length with ai|bz
 ·obtain⟨k',rfl⟩:∃k',k=k'+1:=⟨k-1,zE⟩;obtain⟨a,ha⟩:∃a,l[k']?=some a:=⟨_,zzae zE⟩;obtain⟨b,hb⟩:∃b,l[k'+1]?=some b:=⟨_,zzae ai⟩;have ga:=nL ha;have gb:=nL hb;have afC:((k':Int)+1)<(l.length:Int):=zE
  have akz:(k':Int)<(l.length:Int):=zE
  have RF:k'<l.length:=zE
  have eT:IntKind.i64.wrap ((k':Int)+1-1)=(k':Int):=by rw[Qj]<;>omega
  have as3:IntKind.i64.wrap (k':Int)=(k':Int):=by rw[Qj]<;>omega
  have dP:IntKind.i64.wrap ((k':Int)+1+1)=((k'+1+1:Nat):Int):=by rw[Qj]<;>omega
  have A0:(0:Int)<=(k':Int)+1:=zE
  have htn:((k':Int)+1).toNat=k'+1:=zE
  have hdt:=OV ha hb;by_cases hab:b=a
  ·rw[if_pos hab,zzau]at hdt;simp[h3,ai,afC,akz,RF,hB,ga,gb,eT,as3,dP,A0,htn,hab,Cv];have cw:(k':Int)+1<=(l.length:Int):=zE
   refine⟨cw,?_⟩
   refine Qk Cw (fun f m=>∃(k t:Nat)(B':List (List AV))(L':List Int),f 3=I k/\f 5=I ((t+1:Nat):Int)/\k'+1+(t+1)<=l.length/\1<=k/\k<=k'+1+t/\m=⟨B',L,st,n⟩/\bw (·=id) B B'/\Qh B' id=aj L'/\L'.length=l.length/\
    L'.take k=dd (l.take (k'+1+(t+1)))/\L'.drop (k'+1+t)=l.drop (k'+1+t)) (fun f _=>l.length-(k'+1)-(numOf (f 5)).toNat) ?_ ?_
   ·refine⟨k'+1,0,B,l,by simp[h3],zd,zE,zE,zE,rfl,bw.refl _ _,hB,rfl,?_,rfl⟩;rw[show k'+1+(0+1)=k'+2 by omega,hdt,FY]
   rintro g m ⟨k,t,B',L',g3,g5,ht,Y5,hkt,rfl,eU,qD,ug,bC,Lv⟩;have cL:id<B'.length:=zzaz aK eU.1;have jP:=Uk L';rcases zzaa (k'+1+(t+1)) l.length with uK|hjg
   ·obtain⟨x,hx⟩:∃x,l[k'+1+t]?=some x:=⟨_,zzae zE⟩;obtain⟨y,hy⟩:∃y,l[k'+1+t+1]?=some y:=⟨_,zzae zE⟩
    have iD:L'[k'+1+t]?=some x:=by
     have:=congrArg (fun q=>q[0]?) Lv;simpa[hx]using this
    have hy':L'[k'+1+t+1]?=some y:=by
     have:=congrArg (fun q=>q[1]?) Lv;simpa[hy]using this
    have gx:=nL iD;have gy:(aj L').drop (k'+1+(t+1))=I y::aj (L'.drop (k'+1+t+1+1)):=nL hy';have Lj:=OV hx hy;rw[show k'+1+t+2=k'+1+(t+1+1) by omega,show k'+1+t+1=k'+1+(t+1) by omega,<- bC]at Lj
    have hdn:L'.drop (k'+1+(t+1))=l.drop (k'+1+(t+1)):=by
     have:=congrArg (List.drop 1) Lv;simpa[zzdx,zzao,zzfl,Nat.add_left_comm]using this
    have eC:(t+1:Nat)<l.length-(k'+1):=zE
    have OW:((t:Int)+1)<((l.length-(k'+1):Nat):Int):=zE
    have akA:(t:Int)<((l.length-(k'+1):Nat):Int):=zE
    have akB:t<l.length-(k'+1):=zE
    have hwt:IntKind.i64.wrap (t:Int)=(t:Int):=by rw[Qj]<;>omega
    have as4:IntKind.i64.wrap ((t:Int)+1+1)=((t+1+1:Nat):Int):=by rw[Qj]<;>omega
    have Y6:=bM k zE;have anl:((t:Int)+1).toNat=t+1:=zE
    have as5:(0:Int)<=(t:Int)+1:=zE
    have Y7:(k:Int)<(l.length:Int):=zE
    have Lw:k<l.length:=zE
    have bY:=Ls L' k y;by_cases hyx:y=x
    ·rw[if_pos hyx,zzau]at Lj;simp[g3,g5,qD,gx,gy,eC,OW,akA,akB,hwt,as4,anl,as5,hyx,Cw];refine⟨aP,⟨k,rfl,t+1,zd,zE,Y5,zE,eU,L',rfl,ug,Lj.symm,hdn⟩,zE⟩
    rw[if_neg hyx]at Lj;simp[g3,g5,qD,gx,gy,eC,OW,akA,akB,hwt,as4,Y6,anl,as5,hyx,Y7,Lw,bY,cL,Cw];refine⟨by rw[jP];omega,aP,⟨k+1,zd,t+1,zd,zE,zE,zE,eU.set (.inl rfl) _,L'.set k y,Vs _ cL,by simpa using ug,?_,?_⟩,zE⟩
    ·rw[zzas,zzba zE,zzgd zE];exact Lj.symm
    rw[show k'+1+(t+1)=k'+1+(t+1)from rfl,zzge zE];exact hdn
   have bL:¬(t:Int)+1<((l.length-(k'+1):Nat):Int):=zE
   have Y7:(k:Int)<(l.length:Int):=zE
   have Lw:k<l.length:=zE
   have axD:(k:Int)<=(l.length:Int):=zE
   have akC:dd l=L'.take k:=by rw[bC,zzap zE]
   have as6:(dd l).length=k:=by rw[akC,zzaq];omega
   have eF:aj L'≠[]:=by
    intro h;have:=congrArg List.length h;rw[jP,ug]at this;simp at this;exact aM this
   have oF:setA (aj L') k (bK (l.length-k) [I 0])=aj (dd l++List.replicate (l.length-k) 0):=by
    have e1:L'=L'.take k++L'.drop k:=zd
    conv=>lhs;rw[e1]
    rw[nM,nM,Gi,akC];have e2:(aj (L'.take k)).length=k:=by rw[Uk,zzaq];omega
    have:=pJ (aj (List.replicate (l.length-k) 0)) (aj (L'.take k)) (aj (L'.drop k)) (by rw[Uk,Uk,zze,zzcr,ug]);rw[e2]at this;exact this
   simp[g3,g5,qD,Cw,AE,bL,Y7,Lw,axD,cL,eF,jP,ug,oF];refine⟨zE,?_⟩;have:=hK (B'.set id (aj (dd l++List.replicate (l.length-k) 0))) (List.replicate (l.length-k) 0) (eU.set (.inl rfl) _) (Vs _ cL) (by rw[as6];simp;omega);rw[as6]at this;exact this
  rw[if_neg hab]at hdt;simp[h3,ai,afC,akz,RF,hB,ga,gb,eT,as3,dP,A0,htn,hab,Cv];refine⟨aP,⟨k'+1+1,zE,zE,zE,?_⟩,zE⟩
  ·rw[show k'+1+1=k'+2 by omega,hdt,FY,zzas (l:=l) (i:=k'+1),hb];rfl
 obtain rfl:k=l.length:=zE
 rw[zzbu]at FY;have EG:¬((l.length:Nat):Int)<(l.length:Int):=zE
 have:=hK B [] (bw.refl _ _) (by rw[FY,zzau];exact hB) (by rw[FY];simp);rw[FY]at this;simp[h3,Cv,AE];exact this
def Gl(a:Int):Pure Tryz.prog aA 328 [I a] (.bool false):=by
 refine Qo ae2 (fun _ _ _=>.junk) zd ?_;simp[ajT,ajU]
def Gm(a:Int):Pure Tryz.prog aA 311 [I a] (.bool false):=by
 refine Qo aeR (fun _ _ _=>.junk) zd ?_;simp[ajC,ajD]
def RR(a b:Int):Pure Tryz.prog aA 289 [I a,I b] (.bool (decide (a<b))):=by
 have h:=Gl a;refine Qo aeN (fun _ _ _=>.bool false) zd ?_;simp[ajw,ajx];exact h
def rF(l:List Int)(x:Int):Nat:=(l.filter fun y=>decide (y<x)).length
def anm{l:List Int}{x:Int}{i:Nat}(hi:i<=l.length)(h1:∀(k:Nat)(y:Int),k<i->l[k]?=some y->y<x)(h2:∀(k:Nat)(y:Int),i<=k->l[k]?=some y->x<=y):rF l x=i:=by
 unfold rF;have e:l=l.take i++l.drop i:=zd
 rw[e,zzct]
 have e1:(l.take i).filter (fun y=>decide (y<x))=l.take i:=by
  rw[zzel];intro y hy;obtain⟨k,hk⟩:=zzc.1 hy;rw[zzbl]at hk;split at hk
  ·simpa using h1 k y (by assumption) hk
  cases hk
 have e2:(l.drop i).filter (fun y=>decide (y<x))=[]:=by
  rw[zzhj];intro y hy;obtain⟨k,hk⟩:=zzc.1 hy;rw[zzbm]at hk;have:=h2 (i+k) y zE hk;simp;omega
 rw[e1,e2];simp;omega
def pK(l:List Int)(x:Int)(hl:l.length<=1000000000)(hs:l.Pairwise (·<=·)):Pure Tryz.prog aA 258 [.sl .ro (l.map fun y=>[I y]),I x] (.aZ [I (rF l x:Nat),.bool (decide (l[rF l x]?=some x))]):=by
 refine Qo aet (fun _ f a=>if f=289 then(match a with|[.int _ a,.int _ b]=>.bool (decide (a<b))|_=>.junk)else .bool false) zd ?_;simp[WD]
 refine Qk qP (fun f m=>∃i j:Nat,f 7=I i/\f 8=I j/\i<=j/\j<=l.length/\m=⟨[],[],fun _=>.gone,0⟩/\(∀(k:Nat)(y:Int),k<i->l[k]?=some y->y<x)/\∀(k:Nat)(y:Int),j<=k->l[k]?=some y->x<=y)
  (fun f _=>(numOf (f 8)).toNat-(numOf (f 7)).toNat) ?_ ?_
 ·refine⟨0,l.length,zd,zd,zE,zE,rfl,fun k y h=>zE,fun k y h1 h2=>?_⟩;rw[zzaw h1]at h2;cases h2
 rintro f m ⟨i,j,h7,h8,eE,hj,rfl,ha,hb⟩;rcases zzaa i j with ai|bz
 ·have XY:(i+j)/2<l.length:=zE
  obtain⟨y,hy⟩:∃y,l[(i+j)/2]?=some y:=⟨_,zzae XY⟩;obtain⟨s,hse⟩:∃s,s=(i+j)/2:=⟨_,rfl⟩;rw[<- hse]at hy;have ah:=Gj hy;have akD:(i:Int)<(j:Int):=zE
  have w1:IntKind.i64.wrap ((i:Int)+(j:Int))=((i+j:Nat):Int):=by rw[Qj]<;>omega
  have w2:IntKind.u64.wrap ((i+j:Nat):Int)=((i+j:Nat):Int):=by simp[IntKind.wrap,IntKind.bits,IntKind.signed];omega
  have w3:Int.fdiv ((i:Int)+(j:Int)) (2 ^ min 1 IntKind.u64.bits)=(s:Int):=by
   rw[show(2:Int) ^ min 1 IntKind.u64.bits=2 from rfl,zzgm _ zE];omega
  have w4:IntKind.i64.wrap (s:Int)=(s:Int):=by rw[Qj]<;>omega
  have w5:=bM s zE;have qA:s<l.length:=zE
  have as7:(s:Int)<(l.length:Int):=zE
  have hp:=RR y x
  have mono:∀(p q:Nat)(u v:Int),p<=q->l[p]?=some u->l[q]?=some v->u<=v:=by
   intro p q u v hpq hu hv;rcases zzaa p q with h|h
   ·obtain⟨hp1,hu⟩:=zza.1 hu;obtain⟨hq1,hv⟩:=zza.1 hv;have:=(zzdr.1 hs) p q hp1 hq1 h;omega
   obtain rfl:p=q:=zE
   rw[hu]at hv;cases hv;omega
  by_cases hyx:y<x
  ·have ann:decide (y<x)=true:=decide_eq_true hyx;rw[ann]at hp;simp only[Int.natCast_add]at w1 w2;simp[h7,h8,akD,ai,ah,qP,w1,w2,w3,w4,w5,qA,as7,hyx];refine⟨hp,aP,⟨s+1,zd,j,rfl,zE,zE,fun k z hk hz=>?_,hb⟩,zE⟩
   ·have:=mono k s z y zE hz hy;omega
  have ann:decide (y<x)=false:=decide_eq_false hyx;rw[ann]at hp;simp only[Int.natCast_add]at w1 w2;simp[h7,h8,akD,ai,ah,qP,w1,w2,w3,w4,w5,qA,as7,hyx];refine⟨hp,aP,⟨i,rfl,s,rfl,zE,zE,ha,fun k z hk hz=>?_⟩,zE⟩
  ·have:=mono s k y z hk hy hz;omega
 obtain rfl:i=j:=zE
 have iG:=anm hj ha hb;rw[iG];have Q6:¬(i:Int)<(i:Int):=zE
 rcases zzaa i l.length with ai|hge'
 ·obtain⟨y,hy⟩:=aU ai;have ah:=Gj hy;have aa:(i:Int)<(l.length:Int):=zE
  have hn:=Gm y;have hli:l[i]=y:=(zza.1 hy).2;by_cases hyx:y=x
  ·subst hyx;simp[h7,h8,ai,aa,ah,qP,Oh,hli]
  simp[h7,h8,ai,aa,ah,qP,Oh,hli,hyx];exact hn
 have aa:¬(i:Int)<(l.length:Int):=zE
 have:l[i]?=none:=zzaw hge';simp[h7,h8,aa,qP,Oh,this]
def RS(cs:List Cl)(n:Nat):List (List AV):=((List.range n).reverse).map fun(k:Nat)=>[I (k:Int),.agg (Qg (cs.getD k ⟨0,0,0,0,0,0,0,0⟩))]
def nN(cs:List Cl)(n:Nat):RS cs (n+1)=[I (n:Int),.agg (Qg (cs.getD n ⟨0,0,0,0,0,0,0,0⟩))]::RS cs n:=by
 simp[RS,zzfi]
def mO(cs:List Cl):Pure Tryz.prog aA 257 [.sl .ro (cs.map Qg)] (.fn 310 [] [.ep [.sl .ro (cs.map Qg)] 0]):=by
 refine Qo aes (fun _ _ _=>.junk) zd ?_;simp[ajg,ajh]
def mP(cs:List Cl)(hl:cs.length<=1000000000):Iter Tryz.prog aA 310 [] [.ep [.sl .ro (cs.map Qg)] 0] (RS cs cs.length):=by
 intro Y l m K hF;refine Xd aeQ (fun _ _ _=>.junk) zd ?_;have hw0:IntKind.i64.wrap ((cs.length:Int)-1)=(cs.length:Int)-1:=by rw[Qj]<;>omega
 simp[ajB,hw0];refine Qk KU (fun f mm=>∃i:Nat,f 3=I ((i:Int)-1)/\i<=cs.length/\xd (Y l) K (RS cs i) mm) (fun f _=>(numOf (f 3)+1).toNat) ?_ ?_
 ·exact⟨cs.length,zd,zE,hF⟩
 rintro f mm ⟨i,h3,hi,hF⟩;cases i with
 |zero=>
  have hK:K mm:=hF mm (fR.refl _);simp[h3,KU,WQ];exact hK
 |succ i=>
  obtain⟨c,hc⟩:∃c,cs[i]?=some c:=⟨_,zzae zE⟩;have ah:Qh (cs.map Qg) i=Qg c:=Qt (by simp[hc]);have XH:cs.getD i ⟨0,0,0,0,0,0,0,0⟩=c:=by simp[zzar,hc]
  rw[nN,XH]at hF;have h3':f 3=I i:=by rw[h3];congr 1;omega
  have aa:i<cs.length:=zE
  have xk:(i:Int)<(cs.length:Int):=zE
  have hw:IntKind.i64.wrap ((i:Int)-1)=(i:Int)-1:=by rw[Qj]<;>omega
  have A0:(0:Int)<=(i:Int):=zE
  simp only[Qg]at hF ah;simp[h3',KU,ah,aa,xk,hw,A0];refine hF _ (fR.refl _) _ (fun m2 qF=>?_) (fun m2 hK=>?_)
  ·simp[hw];refine⟨aP,⟨i,rfl,zE,qF⟩⟩
  simp[WQ];exact hK _ (fR.refl _)
open Go Go.Abs
def Xp(L:List Nat):List AV:=aj (L.map fun(k:Nat)=>(k:Int))
def Y8(L:List Nat):(Xp L).length=L.length:=by simp[Xp,Uk]
def Lx{L:List Nat}{i v:Nat}(h:L[i]?=some v):(Xp L).drop i=I (v:Int)::Xp (L.drop (i+1)):=by
 unfold Xp;rw[nL (x:=(v:Int)) (by simp[h]),zzgl]
def Y9(L:List Nat)(i v:Nat):(Xp L).set i (I (v:Int))=Xp (L.set i v):=by
 unfold Xp;rw[Ls,zzfo]
def WF(L:List Nat)(d:Nat->Bool)(n:Nat):Prop:=L.length=n+1/\∀i v,L[i]?=some v->i<=v/\v<=n/\(v=i<->d i=false)/\∀j,i<=j->j<v->d j=true
def WF.jump{L:List Nat}{d:Nat->Bool}{n i v u:Nat}(h:WF L d n)(h1:L[i]?=some v)(h2:L[v]?=some u)(aM:v≠i):WF (L.set i u) d n:=by
 obtain⟨hl,hw⟩:=h;refine⟨by simpa using hl,fun k x hk=>?_⟩;have fO:i<L.length:=(zza.1 h1).1;obtain⟨a1,a2,a3,a4⟩:=hw i v h1;obtain⟨b1,b2,b3,b4⟩:=hw v u h2;by_cases fP:k=i
 ·subst fP;rw[zzba fO]at hk;cases hk;refine⟨zE,b2,?_,fun j ek oD=>?_⟩
  ·have hd:d k≠false:=fun h=>aM (a3.2 h);constructor
   ·intro h;omega
   intro h;exact absurd h hd
  rcases zzaa j v with h|h
  ·exact a4 j ek h
  exact b4 j h oD
 rw[zzbf (fun h=>fP h.symm)]at hk;exact hw k x hk
def OX(Y:YT)(i n c JM:Nat)(L:List Nat)(d:Nat->Bool)(hw:WF L d n)(hi:i<=n)(hn:n<=1000000000)(B:List (List AV))(Lm:List Nat)(st:Nat->LS)(ln:Nat)(hc:c<B.length)(axE:JM<B.length)(aM:c≠JM)
  (hBc:Qh B c=[.bs JM 0 (n+1) 1])(Ds:Qh B JM=Xp L)(K:AV->AM->Prop)
  (hK:∀(B':List (List AV))(L':List Nat)(r:Nat),bw (·=JM) B B'->Qh B' JM=Xp L'->WF L' d n->i<=r->r<=n->d r=false->(∀j,i<=j->j<r->d j=true)->K (I r) ⟨B',Lm,st,ln⟩):
  an Tryz.prog aA Y 256 [I i,.ptr c 0] ⟨B,Lm,st,ln⟩ K:=by
 refine Xd aer (fun _ _ _=>.junk) zd ?_;simp[WC];refine Qk KT (fun f m=>∃(k:Nat)(B':List (List AV))(L':List Nat),f 0=I k/\i<=k/\k<=n/\m=⟨B',Lm,st,ln⟩/\bw (·=JM) B B'/\Qh B' JM=Xp L'/\WF L' d n/\∀j,i<=j->j<k->d j=true) (fun f _=>n-(numOf (f 0)).toNat) ?_ ?_
 ·exact⟨i,B,L,zd,zE,hi,rfl,bw.refl _ _,Ds,hw,fun j h1 h2=>zE⟩
 rintro f m ⟨k,B',L',h0,ry,EG,rfl,eU,Gn,JN,hd⟩;have Zs:JM<B'.length:=zzaz axE eU.1;have ano:Qh B' c=[.bs JM 0 (n+1) 1]:=by rw[eU.2 c hc aM];exact hBc
 obtain⟨eM,dP⟩:=JN;obtain⟨v,hv⟩:∃v,L'[k]?=some v:=⟨_,zzae zE⟩;obtain⟨v1,v2,v3,v4⟩:=dP k v hv;obtain⟨u,hu⟩:∃u,L'[v]?=some u:=⟨_,zzae zE⟩;obtain⟨u1,u2,u3,u4⟩:=dP v u hu;have gv:=Lx hv;have gu:=Lx hu;have sI:k<n+1:=zE
 have zU:(k:Int)<(n:Int)+1:=zE
 have hvl:v<n+1:=zE
 have axF:(v:Int)<(n:Int)+1:=zE
 have aH:=Y8 L';by_cases hvk:v=k
 ·subst hvk;simp[h0,ano,Gn,gv,sI,zU,KT,ajf];exact hK B' L' v eU Gn ⟨eM,dP⟩ ry EG (v3.1 rfl) hd
 have axG:¬(v:Int)=(k:Int):=zE
 have bY:=Y9 L' k u;have hW:=WF.jump ⟨eM,dP⟩ hv hu hvk;have K4:(L'.set k u)[k]?=some u:=zzba zE;have gu2:=Lx K4;have azp:JM<(B'.set JM (Xp (L'.set k u))).length:=by simpa using Zs
 have zq:Qh (B'.set JM (Xp (L'.set k u))) JM=Xp (L'.set k u):=Vs _ Zs;have iC:Qh (B'.set JM (Xp (L'.set k u))) c=[.bs JM 0 (n+1) 1]:=by rw[Zz _ (fun h=>aM h.symm)];exact ano
 simp[h0,ano,Gn,gv,gu,sI,zU,hvl,axF,hvk,axG,KT,bY,zq,iC,gu2,aH,eM,Zs];refine⟨zE,aP,⟨u,rfl,zE,zE,eU.set (.inl rfl) _,_,rfl,hW,fun j h1 h2=>?_⟩,zE⟩
 ·rcases zzaa j k with h|h
  ·exact hd j h1 h
  rcases zzaa j v with h3|h3
  ·exact v4 j h h3
  exact u4 j h3 h2
open Go Go.Abs
def uh(item region:Int)(c:Cl):Bool:=decide (c.ki=1\/c.ki=2)&&(RT c item region&&Xj c)
def Jr(cs:List Cl)(item region:Int):List Cl:=cs.filter (uh item region)
def fq:List Cl->List Int
 |[]=>[]
 |c::r=>c.fr::c.to::fq r
def pL:∀a b:List Cl,fq (a++b)=fq a++fq b
 |[],_=>rfl
 |c::r,b=>by simp[fq,pL r b]
def pM:∀a:List Cl,(fq a).length=2*a.length
 |[]=>rfl
 |c::r=>by simp[fq,pM r];omega
def pN{c:Cl}:∀{a:List Cl},c∈a->c.fr∈fq a/\c.to∈fq a
 |[],h=>by cases h
 |d::r,h=>by
  rcases zzat.1 h with rfl|h
  ·simp[fq]
  have:=pN h;simp[fq,this.1,this.2]
def dM(C:List Cl):List Int:=dd ((fq C).mergeSort fun x y=>decide (x<=y))
def OY(C:List Cl):(dM C).Pairwise (·<·):=by
 refine Y4 ?_;have:=zzhc (le:=fun x y:Int=>decide (x<=y)) (fun a b c h1 h2=>by simp at*;omega) (fun a b=>by simp;omega) (fq C);exact this.imp zd
def uP(C:List Cl)(x:Int):x∈dM C<->x∈fq C:=by
 unfold dM;rw[Lu,(zzgf _ _).mem_iff]
def OZ(C:List Cl):(dM C).length<=2*C.length:=by
 have h1:=Lt ((fq C).mergeSort fun x y=>decide (x<=y));rw[zzew,pM]at h1;exact h1
abbrev GS:=List (Option Bool)
def stepG(s:GS)(a b:Nat)(v:Bool):GS:=s.mapIdx fun j o=>if a<=j/\j<b/\o=none then some v else o
def RU(Bd:List Int)(s:GS)(c:Cl):GS:=stepG s (rF Bd c.fr) (rF Bd c.to) (decide (c.ki=1))
def xm(C:List Cl):GS:=C.reverse.foldl (RU (dM C)) (List.replicate (dM C).length none)
def Dt(Bd:List Int)(s:GS)(i:Nat):List Sp:=if s[i]?=some (some true)then[(Bd.getD i 0,Bd.getD (i+1) 0)]else[]
def nO(Bd:List Int)(s:GS)(n:Nat):List Sp:=(List.range n).flatMap (Dt Bd s)
def Qcu(cs:List Cl)(item region:Int):List Sp:=Xn (nO (dM (Jr cs item region)) (xm (Jr cs item region)) (dM (Jr cs item region)).length)
def rG(s:GS)(a b:Nat)(v:Bool):(stepG s a b v).length=s.length:=by simp[stepG]
def Jc(s:GS)(a b:Nat)(v:Bool)(j:Nat):(stepG s a b v)[j]?=(s[j]?).map fun o=>if a<=j/\j<b/\o=none then some v else o:=by simp[stepG]
def Bj(s:GS)(a b:Nat)(v:Bool)(h:b<=a):stepG s a b v=s:=by
 apply zzcm;intro j;rw[Jc];cases s[j]? with
 |none=>rfl
 |some o=>simp;intro h1 h2;omega
def LA(s:GS)(a k:Nat)(v:Bool)(hak:a<=k)(hk:s[k]?=some none):stepG s a (k+1) v=(stepG s a k v).set k (some v):=by
 have ai:k<s.length:=(zza.1 hk).1;apply zzcm;intro j;rw[Jc];by_cases zu:j=k
 ·subst zu;rw[zzba (by rw[rG];exact ai),hk];simp[hak]
 rw[zzbf (fun h=>zu h.symm),Jc];cases s[j]? with
 |none=>rfl
 |some o=>
  simp only[zzcw];congr 1;by_cases h:a<=j/\j<k/\o=none
  ·rw[if_pos h,if_pos ⟨h.1,zE,h.2.2⟩]
  rw[if_neg h,if_neg (fun h'=>h ⟨h'.1,zE,h'.2.2⟩)]
def xq(s:GS)(a k r:Nat)(v:Bool)(hkr:k<=r)(h:∀j,k<=j->j<r->s[j]?≠some none):stepG s a r v=stepG s a k v:=by
 apply zzcm;intro j;rw[Jc,Jc];cases hj:s[j]? with
 |none=>rfl
 |some o=>
  simp only[zzcw];congr 1;by_cases h1:a<=j/\j<k/\o=none
  ·rw[if_pos h1,if_pos ⟨h1.1,zE,h1.2.2⟩]
  rw[if_neg h1];by_cases h2:a<=j/\j<r/\o=none
  ·exfalso
   have hkj:k<=j:=by
    rcases zzaa j k with h3|h3
    ·exact absurd ⟨h2.1,h3,h2.2.2⟩ h1
    exact h3
   exact h j hkj h2.2.1 (by rw[hj,h2.2.2])
  rw[if_neg h2]
def gB(s:GS):List Bool:=s.map fun o=>o==some true
def nP(s:GS)(j:Nat):Bool:=match s[j]? with
 |some (some _)=>true
 |_=>false
def Zl(l:List Bool):List AV:=l.map AV.bool
def anp(l:List Bool):(Zl l).length=l.length:=by simp[Zl]
def anq{l:List Bool}{i:Nat}{x:Bool}(h:l[i]?=some x):(Zl l).drop i=.bool x::Zl (l.drop (i+1)):=by
 unfold Zl;rw[<- zzgl];have ai:=(zza.1 h).1;rw[zzaf ai,(zza.1 h).2];rfl
def anr(l:List Bool)(i:Nat)(x:Bool):(Zl l).set i (.bool x)=Zl (l.set i x):=by simp[Zl,zzfo]
def ZA(n:Nat):bK n [.bool false]=Zl (List.replicate n false):=by
 induction n with
 |zero=>rfl
 |succ n ih=>rw[bK,ih];rfl
def ans(s:GS)(k:Nat)(v:Bool):gB (s.set k (some v))=(gB s).set k v:=by
 unfold gB;rw[zzfo];cases v<;>rfl
def afD(n:Nat):gB (List.replicate n none)=List.replicate n false:=by
 unfold gB;rw[List.map_replicate];rfl
def WF.init(n:Nat)(d:Nat->Bool)(hd:∀j,d j=false):WF (List.range (n+1)) d n:=by
 refine⟨zd,fun i v h=>?_⟩;obtain⟨h1,h2⟩:=zza.1 h;simp at h1 h2;subst h2;exact⟨zE,zE,⟨fun _=>hd _,fun _=>rfl⟩,fun j h3 h4=>zE⟩
def WF.dec{L:List Nat}{d d':Nat->Bool}{n k:Nat}(h:WF L d n)(hk:k<n)(hd:d' k=true)(hd2:∀j,j≠k->d' j=d j):WF (L.set k (k+1)) d' n:=by
 obtain⟨hl,hw⟩:=h;refine⟨by simpa using hl,fun i v hv=>?_⟩;by_cases ry:i=k
 ·subst ry;rw[zzba zE]at hv;cases hv;refine⟨zE,zE,?_,fun j h1 h2=>?_⟩
  ·constructor
   ·intro h;omega
   intro h;rw[hd]at h;cases h
  obtain rfl:j=i:=zE
  exact hd
 rw[zzbf (fun h=>ry h.symm)]at hv;obtain⟨a1,a2,a3,a4⟩:=hw i v hv;refine⟨a1,a2,by rw[hd2 i ry];exact a3,fun j h1 h2=>?_⟩;by_cases zu:j=k
 ·subst zu;exact hd
 rw[hd2 j zu];exact a4 j h1 h2
def ZB(s:GS)(k:Nat)(v:Bool)(hk:k<s.length):nP (s.set k (some v)) k=true/\∀j,j≠k->nP (s.set k (some v)) j=nP s j:=by
 constructor
 ·unfold nP;rw[zzba hk]
 intro j hj;unfold nP;rw[zzbf (fun h=>hj h.symm)]
def ant(l:List Int)(x:Int):rF l x<=l.length:=zzbs _ _
def LB{l:List Int}{x:Int}(h:x∈l):rF l x<l.length:=by
 unfold rF;have h1:=zzbs (fun y=>decide (y<x)) l;rcases zzaa (l.filter fun y=>decide (y<x)).length l.length with h2|h2
 ·exact h2
 have h3:(l.filter fun y=>decide (y<x)).length=l.length:=zE
 have h4:=(List.length_filter_eq_length_iff.1 h3) x h;simp at h4
open Go Go.Abs
def Du(Y:YT)(m:AM)(K:AV->AM->Prop)(hK:K (.sl .nil []) m):an Tryz.prog aA Y 161 [.sl .nil []] m K:=by
 refine Xd Cu (fun _ _ _=>.junk) zd ?_;simp[vE,AE];exact hK
def Wj(Bd:List Int)(R:List Sp):Nat->FuncId->List AV->AV:=fun d f l=>
 if f=999999 then(if d=59 then .aL 0 []else .junk)else
 if f=255 then(match l with
  |[.agg [.int _ a,.int _ b,.int _ c,.int _ d,.int _ e,.int _ f,.int _ g,.int _ h],.int _ i,.int _ r]=>.bool (RT ⟨a,b,c,d,e,f,g,h⟩ i r)
  |_=>.junk)else
 if f=83 then(match l with
  |[.agg [.int _ a,.int _ b,.int _ c,.int _ d,.int _ e,.int _ f,.int _ g,.int _ h]]=>.bool (Xj ⟨a,b,c,d,e,f,g,h⟩)
  |_=>.junk)else
 if f=257 then(match l with
  |[.sl _ rows]=>.fn 310 [] [.ep [.sl .ro rows] 0]
  |_=>.junk)else
 if f=258 then(match l with
  |[_,.int _ x]=>.aZ [I (rF Bd x:Nat),.bool (decide (Bd[rF Bd x]?=some x))]
  |_=>.junk)else
 if f=182 then .sl .ro (R.map Qf)else .gd false .junk
def afE(B:List (List AV))(C:List Cl):Prop:=(C=[]/\Qh B 0=[.sl .nil []])\/(C≠[]/\∃aQ,Qh B 0=[.bs aQ 0 (fq C).length 1]/\aQ≠0/\aQ<B.length/\Qh B aQ=aj (fq C))
def afE.app{B:List (List AV)}{C:List Cl}(h:afE B C)(h0:0<B.length)(x:List (List AV)):afE (B++x) C:=by
 obtain⟨h1,h2⟩|⟨h1,aQ,h2,h3,h4,h5⟩:=h
 ·exact .inl ⟨h1,by rw[Ql h0];exact h2⟩
 exact .inr ⟨h1,aQ,by rw[Ql h0];exact h2,h3,by simp;omega,by rw[Ql h4];exact h5⟩
def Dv:SC:=(⟨_,by cbv⟩:uf [1,1,1,1,1,1,1,1,1,1,1] sy).1
def ZC:SC->SC:=(⟨_,fun _=>by cbv⟩:Kq [1,1,1] (Kj [1,1,1,1,1,1,1,1] sy)).1
def akE:SC->SC:=(⟨_,fun _=>by cbv⟩:Kq [1,1,1,1,1,1,1,1] sy).1
theorem ZD:sy=akE (ZC Dv):=rfl
def ZE(Bd:List Int)(s:GS)(i:Nat):(Dt Bd s i).length<=1:=by unfold Dt;split<;>simp
def rH(Bd:List Int)(s:GS)(n:Nat):nO Bd s (n+1)=nO Bd s n++Dt Bd s n:=by simp[nO,zzfi]
def xu(Bd:List Int)(s:GS):∀n,(nO Bd s n).length<=n
 |0=>by simp[nO]
 |n+1=>by
  have h1:=xu Bd s n;have h2:=ZE Bd s n;rw[rH,zzai];omega
def xw(Bd z:List Int)(s:GS)(R:List Sp)(n:Nat)(hn:s.length=n)(hn9:n<=10000000)(hR:R=Xn (nO Bd s n))(E:List (Nat×AV))(B:List (List AV))(Lm:List Nat)(st:Nat->LS)(ln:Nat)(g g1:Nat)(Bd0:List Int)
  (h8:Abs.look E 8=.ptr 0 0)(pO:Abs.look E 11=.ptr g1 0)(hg1:Qh B g1=[.bs g 0 n 1])(hg:Qh B g=Zl (gB s))
  (hb:∀i,s[i]?=some (some true)->∃aQ,Qh B 0=[.bs aQ 0 n 1]/\Qh B aQ=aj (Bd++z)/\i+1<Bd.length/\Bd.length=n):
  vc Tryz.prog aA (Wj Bd0 R) Y0 Dv ⟨Xv 145 E,⟨B,Lm,st,ln⟩⟩ (post Tryz.prog aA (Wj Bd0 R) Fe (.sl .ro (R.map Qf))):=by
 have ji:(gB s).length=n:=by simp[gB,hn]
 simp[Dv,pO,hg1]
 refine Qk qN (fun f m=>∃(i:Nat)(o:List Sp)(rt:Rt)(Lm':List Nat),i<=n/\f 123=I i/\f 22=.sl rt (o.map Qf)/\m=⟨B,Lm',st,ln⟩/\o=nO Bd s i/\((o=[]/\rt=.nil/\Lm'=Lm)\/(o≠[]/\rt=.own Lm.length 2/\Lm'=Lm++[o.length])))
  (fun f _=>n-(numOf (f 123)).toNat) ?_ ?_
 ·exact⟨0,[],.nil,Lm,zE,zd,zd,rfl,by simp[nO],.inl ⟨rfl,rfl,rfl⟩⟩
 rintro f m ⟨i,o,rt,Lm',hi,h123,h22,rfl,ho,aT⟩;have O1:o.length<=i:=by rw[ho];exact xu Bd s i
 rcases zzaa i n with ai|bz
 ·obtain⟨v,hv⟩:∃v,s[i]?=some v:=⟨_,zzae zE⟩;have hgv:(gB s)[i]?=some (v==some true):=by simp[gB,hv]
  have gg:=anq hgv;have aa:(i:Int)<(n:Int):=zE
  have hw:=bM i zE;have dX:=rH Bd s i;rw[<- ho]at dX;by_cases hvt:v=some true
  ·subst hvt;obtain⟨aQ,b1,b2,b3,b4⟩:=hb i hv;obtain⟨x,hx⟩:∃x,Bd[i]?=some x:=⟨_,zzae zE⟩;obtain⟨y,hy⟩:∃y,Bd[i+1]?=some y:=⟨_,zzae b3⟩;have gx:=nL (l:=Bd++z) (i:=i) (x:=x) (by rw[zzag zE];exact hx);have gy:=nL (l:=Bd++z) (i:=i+1) (x:=y) (by rw[zzag zE];exact hy);have hou:Dt Bd s i=[(x,y)]:=by simp[Dt,hv,hx,hy]
   rw[hou]at dX;simp at gg;have hi1:i+1<n:=zE
   have as8:(i:Int)+1<(n:Int):=zE
   have A0:(0:Int)<=(i:Int)+1:=zE
   have htn:((i:Int)+1).toNat=i+1:=zE
   have iC:∀row∈o.map Qf,row.length=2:=by
    intro row h;rw[zzax]at h;obtain⟨a,_,rfl⟩:=h;rfl
   obtain⟨rfl,rfl,rfl⟩|⟨aM,rfl,rfl⟩:=aT
   ·simp[h123,h22,ai,aa,hg,gg,qN,hw,h8,b1,b2,gx,gy,hi1,as8,A0,htn,Wj];refine⟨aP,⟨i+1,zE,zd,[(x,y)],_,⟨rfl,rfl⟩,by rw[dX];rfl,zd⟩,zE⟩
   simp[h123,h22,ai,aa,hg,gg,qN,hw,h8,b1,b2,gx,gy,hi1,as8,A0,htn,Wj];refine⟨⟨?_,zE⟩,aP,⟨i+1,zE,zd,o++[(x,y)],_,⟨rfl,by simp[Qf]⟩,dX.symm,zd⟩,zE⟩
   ·rintro row (⟨a,b,_,rfl⟩|rfl)<;>rfl
  have hou:Dt Bd s i=[]:=by
   unfold Dt;rw[hv,if_neg];intro h;cases h;exact hvt rfl
  rw[hou,zzau]at dX;have T1:(v==some true)=false:=by simpa using hvt
  rw[T1]at gg;simp[h123,h22,ai,aa,hg,gg,qN,hw];refine⟨aP,⟨i+1,zE,zd,o,rt,⟨rfl,rfl⟩,dX.symm,aT⟩,zE⟩
 obtain rfl:i=n:=zE
 rw[<- ho]at hR;have anu:=Uw o zE;rw[<- hR]at anu;obtain⟨rfl,rfl,rfl⟩|⟨aM,rfl,rfl⟩:=aT
 ·simp[h123,h22,qN,Fe,Wj];exact Zo anu ⟨Wk.sl _ _,trivial⟩
 simp[h123,h22,qN,Fe,Wj];exact anu
end
