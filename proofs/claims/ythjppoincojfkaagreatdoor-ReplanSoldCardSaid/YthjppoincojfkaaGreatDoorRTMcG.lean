import Derived.Test.YthjppoincojfkaaGreatDoorRTMbU
set_option linter.all false
set_option maxRecDepth 100000
set_option maxHeartbeats 64000000
namespace Go.Abs
open Go Go.RowKit
section
variable {N:Nat} {w0:eO} {an:Nat->Nat->Prop} {γ γ':G} {w w':World} {P:Program} {gl:Nat->AV} {Y:YT}
def RG(m':AM)(γ':G)(n:Nat)(b:Nat):Prop:=∃id,n<=id/\m'.boxes[id]?≠some []/\γ'.β id=some b
def dH(n:Nat)(m':AM)(r r':AV):Prop:=∀(N:Nat)(w0:eO)(an:Nat->Nat->Prop)(γ' γ2:G)(w':World)(v:Value),au N w0 an γ' w' m'.B m'.L->aA w' γ' r v->
 (∀b o,γ'.ro b o->γ2.ro b o)->(∀b,RG m' γ' n b->∀o,γ2.ro b o)->aA w' γ2 r' v
def G.frz(γ1 γ':G)(m':AM)(n:Nat):G:={γ1 with ro:=fun b o=>γ1.ro b o\/RG m' γ' n b}
def aB.freeze{f:FuncId}{ags:P2}{m:AM}{K:AV->Prop}(aO:∀c∈m.boxes,c≠[])(eX:∀c∈m.boxes,LB c)
  (h:aB P gl Y f ags m fun r m'=>∃ex exl r',m'={m with boxes:=m.boxes++ex,lens:=m.lens++exl}/\dH m.boxes.length m' r r'/\K r'):aB P gl Y f ags m fun r m'=>m'=m/\K r:=by
 refine⟨h.1,fun N w0 an γ w vs hm hl hg hy hr=>CallsIn.mono (h.2 N w0 an γ w vs hm hl hg hy hr) ?_⟩;rintro en w' ⟨v,γ',r,m',rfl,g1,g2,g3,g4,ex,exl,r',rfl,g5,g6⟩;have e1:=g1.cW hm
 have m1:au N w0 an (γ.cW m.lens.length γ') w' m.B m.L:=hm.cW (m1:=m) (mx:=m.boxes) (ex:=ex) (exl:=exl) g2 g1 rfl rfl rfl fun id cells cc h1 h2=>by
  rw[h1]at h2;cases h2;exact .inl ⟨rfl,h1,eX _ (zzad h1)⟩
 obtain⟨γ1,hγ1⟩:∃γ1,γ1=γ.cW m.lens.length γ':=⟨_,rfl⟩;obtain⟨m',fG⟩:∃m':AM,m'={m with boxes:=m.boxes++ex,lens:=m.lens++exl}:=⟨_,rfl⟩;rw[<- fG]at g2 g3 g5;rw[<- hγ1]at e1 m1
 have hβ:∀{id b},γ1.β id=some b->id<m.boxes.length/\γ'.β id=some b:=fun{id b}h=>by
  rw[hγ1]at h;obtain⟨h1,h2⟩:=Yv h;obtain⟨b0,dZ⟩:=zzby.1 h1;obtain⟨_,_,_,_,c,hc⟩:=hm.β id b0 dZ;exact⟨(zza.1 hc).1,h2⟩
 have cr:∀{id b},γ1.own id=some b->γ'.own id=some b:=fun{id b}h=>by
  rw[hγ1]at h;have h:(if id<m.lens.length then γ'.own id else none)=some b:=h;split at h
  ·exact h
  cases h
 have di:γ1.sp=γ'.sp:=by rw[hγ1];rfl
 have hlp:γ1.lp=γ'.lp:=by rw[hγ1];rfl
 have gh:γ1.ro=γ'.ro:=by rw[hγ1];rfl
 have gL:∀{id b},γ1.mm id=some b->γ'.mm id=some b:=fun{id b}h=>by rw[hγ1]at h;exact(Qat h).2
 have nβ:∀{b},RG m' γ' m.boxes.length b->∀id,γ1.β id≠some b:=fun{b}⟨j,j1,j2,j3⟩id h=>by
  obtain⟨h1,h2⟩:=hβ h
  have hB:m'.B id=some (m.boxes[id]):=by
   rw[fG];show(m.boxes++ex)[id]?=_;rw[zzak h1,zzaf h1]
  rcases g2.inj id j b h2 j3 with k|k|k
  ·rw[hB]at k;exact aO _ (zzdi h1) (ap k)
  ·exact j2 k
  omega
 have aya:∀{b},RG m' γ' m.boxes.length b->∀id,γ'.own id≠some b:=fun{b}⟨j,j1,j2,j3⟩id=>(g2.β j b j3).2.2.2.1 id;have nsp:∀{b},RG m' γ' m.boxes.length b->¬γ'.sp b:=fun{b}⟨j,j1,j2,j3⟩h=>(g2.sp b h).2.2.2.1 j j3;have nmm:∀{b},RG m' γ' m.boxes.length b->∀id,γ'.mm id≠some b:=fun{b}⟨j,j1,j2,j3⟩id h=>(g2.mm id b h).2.2.2.1 j j3
 have ev:Ev w' γ1 w' (γ1.frz γ' m' m.boxes.length):=
  ⟨zzab _,fun _ _ _ h=>⟨.inl h,rfl⟩,fun _ _ h=>h,fun _=>zzab _,fun _ _ h=>h,rfl,
   fun id b _ h=>⟨h,fun arr _ h=>⟨arr,h,zzab _⟩,fun o h'=>h'.elim (fun x=>x) (fun hn=>absurd (cr h) (aya hn id))⟩,fun _ h=>⟨h,rfl⟩,Sz.refl _⟩
 refine⟨v,γ1.frz γ' m' m.boxes.length,r',m,rfl,e1.trans ev.cF,?_,?_,?_,rfl,g6⟩
 ·exact{
   bs:=w0.st _ _ _ _ g2.bs ⟨rfl,rfl,rfl,zzab _,fun _ _ _=>rfl,fun b o _ h=>⟨.inl (by rw[gh];exact h),rfl⟩,fun b hb=>.inl (by
     obtain⟨i,hi⟩|⟨i,hi⟩|hb|⟨i,hi⟩:=hb
     ·exact .inl ⟨i,(hβ hi).2⟩
     ·exact .inr (.inl ⟨i,cr hi⟩)
     ·exact .inr (.inr (.inl (by rw[<- di];exact hb)))
     ·exact .inr (.inr (.inr ⟨i,gL hi⟩))),fun b o h=>by
     obtain h|⟨j,j1,j2,j3⟩:=h
     ·exact .inl (by rw[<- gh];exact h)
     exact .inr (.inl (.inl ⟨j,j3⟩))⟩
   hN:=m1.hN
   an:=fun b o h=>by
    obtain h|⟨j,j1,j2,j3⟩:=h
    ·exact m1.an b o h
    exact .inr (g2.β j b j3).1
   robd:=fun b o h=>by
    obtain h|⟨j,j1,j2,j3⟩:=h
    ·exact m1.robd b o h
    exact(g2.β j b j3).2.1
   box:=fun id cells b hb h1=>by
    obtain⟨arr,e,h2,h3,h4⟩:=m1.box id cells b hb h1;exact⟨arr,e,h2,h3.mono ev,h4⟩
   β:=fun id b hb=>by
    obtain⟨h1,h2,h3,h4,h5⟩:=m1.β id b hb;exact⟨h1,h2,fun o h=>h.elim (h3 o) (fun hn=>nβ hn id hb),h4,h5⟩
   inj:=m1.inj
   own:=m1.own
   oinj:=m1.oinj
   sp:=fun b hb=>by
    obtain⟨h1,h2,h3,h4⟩:=m1.sp b hb;exact⟨h1,h2,fun o h=>h.elim (h3 o) (fun hn=>nsp hn (by rw[<- di];exact hb)),h4⟩
   mm:=fun id b hb=>by
    obtain⟨h1,h2,h3,h4,h5,h6,h8,h7⟩:=m1.mm id b hb;exact⟨h1,h2,fun o h=>h.elim (h3 o) (fun hn=>nmm hn id (gL hb)),h4,h5,h6,h8,h7.mono ev.cF.Av rfl⟩
   minj:=m1.minj
   len:=m1.len
   cur0:=m1.cur0}
 ·have g3':cQ γ1 w' m:=by
   rw[fG]at g3;unfold cQ at g3 |-
   rw[hlp,di];exact g3
  exact g3'.mono ev
 exact g5 N w0 an γ' _ w' v g2 g4 (fun b o h=>.inl (by rw[gh];exact h)) fun b hb o=>.inr hb
variable {n:Nat} {m':AM}
def dH.bool(b:Bool):dH n m' (.bool b) (.bool b):=fun _ _ _ _ _ _ _ _ h _ _=>by rw[h.bw];exact .bool b
def dH.int(k:IntKind)(z:Int):dH n m' (.int k z) (.int k z):=fun _ _ _ _ _ _ _ _ h _ _=>by rw[h.aI];exact .int k z
def dH.agg{cs ds:P2}(hl:cs.length=ds.length)(h:∀(i:Nat)(c d:AV),cs[i]?=some c->ds[i]?=some d->dH n m' c d):dH n m' (.agg cs) (.agg ds):=fun N w0 an γ' γ2 w' v hm hr h1 h2=>by
 cases hr with
 |@agg _ _ arr kl k=>
  refine .agg zE fun i d u hd hu=>?_;have hi:i<cs.length:=by have:=(zza.1 hd).1;omega
  exact h i cs[i] d (zzaf hi) hd N w0 an γ' γ2 w' u hm (k i cs[i] u (zzaf hi) hu) h1 h2
def dH.aS{cs ds:P2}(hl:cs.length=ds.length)(h:∀(i:Nat)(c d:AV),cs[i]?=some c->ds[i]?=some d->dH n m' c d):dH n m' (.aS cs) (.aS ds):=fun N w0 an γ' γ2 w' v hm hr h1 h2=>by
 cases hr with
 |@aS _ _ arr kl k=>
  refine .aS zE fun i d u hd hu=>?_;have hi:i<cs.length:=by have:=(zza.1 hd).1;omega
  exact h i cs[i] d (zzaf hi) hd N w0 an γ' γ2 w' u hm (k i cs[i] u (zzaf hi) hu) h1 h2
def Z4{γ' γ2:G}{w':World}(h1:∀b o,γ'.ro b o->γ2.ro b o){a:AV}{v:Value}(h:aA w' γ'.cS a v):aA w' γ2.cS a v:=
 h.mono ⟨zzab _,fun b o _ h=>⟨h1 b o h,rfl⟩,fun _ _ h=>(by cases h),fun _=>zzab _,fun _ _ h=>(by cases h),rfl,fun _ _ _ h=>(by cases h),fun _ h=>h.elim,Sz.refl w'⟩
def dH.sl(rt:Rt)(rows:T5):dH n m' (.sl rt rows) (.sl .ro rows):=fun N w0 an γ' γ2 w' v hm hr h1 h2=>by
 cases hr with
 |sl b off sz cv hcap hnil ha hsz hc h aY=>
  exact .sl b off sz cv hcap hnil ha hsz (fun i j c q=>⟨(hc i j c q).1,h1 _ _ (hc i j c q).2.1,(hc i j c q).2.2⟩) (fun i j c q=>Z4 h1 (h i j c q)) trivial
def dH.bs{k len sz:Nat}{cells:P2}(hn:n<=k)(hk:m'.boxes[k]?=some cells)(aO:cells≠[])(bV:Zl cells=true)(hl:len*sz<=cells.length):dH n m' (.bs k 0 len sz) (.sl .ro (aZ sz len cells)):=fun N w0 an γ' γ2 w' v hm hr h1 h2=>by
 obtain⟨b,cap,arr,y7,hβ,rfl,hlc,hh,hs⟩:=hr.cL;obtain⟨bN,e',q2,q3,q4⟩:=hm.box k cells b hk hβ;rw[hh]at q2;cases q2;have hsz:=q3.1;simp only[zzbj]at hsz;have aH:(aZ sz len cells).length=len:=by rw[Qaa];simp
 have ee:∀row∈aZ sz len cells,row.length=sz:=fun row ai=>by
  rw[Qaa]at ai;simp only[zzan,zzb]at ai;obtain⟨i,hi,rfl⟩:=ai;have:(i+1)*sz<=len*sz:=zzbc _ hi;rw[zzbr,zzdv]at this;simp only[zzas,zzcy];omega
 have nW:∀(i j:Nat)(c:AV),Qu (aZ sz len cells) i j=some c->∃u,cells[i*sz+j]?=some c/\arr[i*sz+j]?=some u/\arr.getD (i*sz+j) undef=u/\aA w' γ' c u:=fun i j c h=>by
  rw[Qaa]at h;unfold Qu at h;rcases zzaa i len with hi|hi
  ·rw[zzbn,zzeq hi]at h;simp only[zzcv,zzcx]at h;rw[zzbk]at h;split at h
   ·rw[zzbl]at h;have ah:=(zza.1 h).1;exact⟨arr[i*sz+j],h,zzah zE,by simp[show i*sz+j<arr.size by omega],q3.2 _ _ _ h (by simp[show i*sz+j<arr.size by omega])⟩
   cases h
  rw[zzbn,zzav (Nm hi)]at h;cases h
 have hB:∀id cells,m'.boxes[id]?=some cells->m'.B id=some cells:=fun _ _ h=>h;have ayb:∀o,γ2.ro b o:=h2 b ⟨k,hn,by rw[hk];intro h;exact aO (ap h),hβ⟩
 have:=aA.sl (w:=w') (γ:=γ2) (rt:=.ro) (rows:=aZ sz len cells) (a:=some ⟨b,0,none⟩) (cap:=cap) b 0 sz (fun i j=>arr.getD (i*sz+j) undef) (by rw[aH];exact hlc) (fun h=>by cases h) (fun _=>⟨rfl,aR hh⟩) ee
  (
   fun i j c h=>by
   obtain⟨u,c1,c2,c3,c4⟩:=nW i j c h;rw[zzbs,aN hh,c2,c3];exact⟨rfl,ayb _,q4 u (by rw[<- c3];simp[show i*sz+j<arr.size from(zzbz.1 c2).1])⟩)
  (
   fun i j c h=>by
   obtain⟨u,c1,c2,c3,c4⟩:=nW i j c h;rw[c3];have fA:GO c=true:=zzax.1 bV c (zzad c1);have:=jW hm (m:=m') hB (ro':=γ2.ro) h1 1 c u c4 (fun hp=>by cases c<;>simp_all[GO,Vi]);rw[Ou m' 0 fA]at this;exact this) trivial
 rw[aH]at this;exact this
end
end Go.Abs
namespace Go.Proofs.YthjppoincojfkaaGreatDoor
open Go Go.Abs
def Z5(Y:YT)(m:AM)(g:Pg)(f:Int)(mid kk:Nat)(b:QR)(e:En)(hk:kk<m.boxes.length)(hr:Qi m.boxes kk=Qr g f mid)(hb:fN m.boxes mid b):
  aB Tryz.prog aD Y 149 [.agg (Qd e),.ptr kk 0] m (fun r m'=>m'=m/\r=.bool !(fO b e.id)):=by
 obtain⟨mb,ml,ms,mn⟩:=m;have hR:∀ex,Qi (mb++ex) mid=[.aJ 0 (bG .bool b)]:=hb.ext;have hM:∀ex,Qi (mb++ex) kk=Qr g f mid:=fun ex=>by rw[Qn hk];exact hr
 simp only[Qr,Qk,Qa,zzae,zzag]at hM;refine aB.read (Xo acP (fun _ _ _=>.junk) zd ?_);rcases Xx AV.bool e.id b 0 with⟨b1,b2,_⟩|⟨u,u',b1,b2,_⟩
 ·simp[T1,T2,Qd,hM,hR,fO,b1,b2];exact nH
 cases u<;>simp[T1,T2,Qd,hM,hR,fO,b1,b2]<;>exact nH
def atE(Y:YT)(m:AM)(g:Pg)(f:Int)(mid kk:Nat)(b:QR)(e:En)(hk:kk<m.boxes.length)(hr:Qi m.boxes kk=Qr g f mid)(hb:fN m.boxes mid b)(K:So)(hK:K (.bool !(fO b e.id)) m):
  aB Tryz.prog aD Y 149 [.agg (Qd e),.ptr kk 0] m K:=
 aB.mono (Z5 Y m g f mid kk b e hk hr hb) (by rintro r m' ⟨rfl,rfl⟩;exact hK)
def LC(Y:YT)(m:AM)(g:Pg)(f:Int)(mid kk:Nat)(b:QR)(k:Nat)(L:List En)(z:P2)(hl:L.length<=1000000000)(hk:kk<m.boxes.length)(hr:Qi m.boxes kk=Qr g f mid)(hb:fN m.boxes mid b)(hV:k<m.boxes.length)(hrV:Qi m.boxes k=eD L++z):
  aB Tryz.prog aD Y 148 [.bs k 0 L.length 7,.fn 149 [] [.ptr kk 0]] m (fun r m'=>m'=m/\r=I (Uu (fun e:En=>!(fO b e.id)) L 0)):=by
 obtain⟨mb,ml,ms,mn⟩:=m;have aH:=Jc L;have k1:=fun e K hK=>atE Y ⟨mb,ml,ms,mn⟩ g f mid kk b e hk hr hb K hK;refine aB.read (Xo B5 (fun _ _ _=>.gd false .junk) zd ?_);simp[MW];refine Qj eV (fun s m=>∃i:Nat,s 8=I i/\i<=L.length/\Uu (fun e:En=>!(fO b e.id)) (L.drop i) i=Uu (fun e:En=>!(fO b e.id)) L 0/\m=⟨mb,ml,ms,mn⟩) (fun s _=>L.length-(numOf (s 8)).toNat) ?_ ?_
 ·exact⟨0,zd,zE,zd,rfl⟩
 rintro s m ⟨i,f8,hi,hidx,rfl⟩;rcases zzaa i L.length with ah|bu
 ·obtain⟨x,hx⟩:=aV ah;have hg:=Dt hx;simp only at hrV
  have ai:(Qi mb k).drop (i*7)=I x.id::I x.it::I x.fr::I x.ea::I x.la::I x.bo::.sl .ro (x.al.map Qe)::(eD (L.drop (i+1))++z):=by
   rw[hrV,zzdz (by rw[Jc];omega),hg];rfl
  have aa:(i:Int)<(L.length:Int):=zE
  have hw:=bO i zE;have hd:L.drop i=x::L.drop (i+1):=by rw[zzai ah,(zza.1 hx).2]
  have kx:=k1 x;simp only[Qd]at kx;rw[hd,Uu]at hidx;cases hP:fO b x.id with
  |false=>
   rw[ac (by simp[hP])]at hidx;simp[f8,eV,aa,ai];refine kx _ ?_;simp[hP,Ao,hidx];exact nH
  |true=>
   rw[ab (by simp[hP])]at hidx;simp[f8,eV,aa,ai];refine kx _ ?_;simp[hP,hw];refine⟨aQ,⟨i+1,zd,zE,hidx⟩,zE⟩
 obtain rfl:i=L.length:=zE
 rw[zzc,Uu]at hidx;simp[f8,eV,Ao,<- hidx];exact nH
open Go.RowKit
def G9:bA Tryz.prog 150:=by
 first|exact B6.bA|(unfold bA;decide)|kernel_rfl
def RH(Y:YT)(m:AM)(id gI i n:Nat)(A C V:P2)(aK:m.boxes[id]?=some (A++C))(fJ:m.boxes[gI]?=some V)(aO:gI≠id)(hV:V.length=7)(hA:A.length=i*7)(hC:C.length=(n-i)*7)
  (hi:i<n)(hn:n+1<=1000000000)(K:So)(hK:K (.bs m.boxes.length 0 (n+1) 7) {m with boxes:=m.boxes.set id []++[A++(V++C)]}):aB Tryz.prog aD Y 150 [.bs id 0 n 7,I i,.bs gI 0 1 7] m K:=by
 refine aB.fP G9 fun N w0 an γ w vs hm hl hr=>?_
 obtain⟨v1,r1,rfl,g1,SA⟩:∃v1 r1,vs=v1::r1/\aA w γ (.bs id 0 n 7) v1/\ak w γ [I i,.bs gI 0 1 7] r1:=by
  cases vs with
  |nil=>have:=hr.1;simp at this
  |cons v r=>exact⟨v,r,rfl,hr.2 0 _ _ rfl rfl,⟨by have:=hr.1;simp at this |-;omega,fun k c u h1 h2=>hr.2 (k+1) c u (Nm h1) (Nm h2)⟩⟩
 obtain⟨v2,r2,rfl,g2,ou⟩:∃v2 r2,r1=v2::r2/\aA w γ (I i) v2/\ak w γ [.bs gI 0 1 7] r2:=by
  cases r1 with
  |nil=>have:=SA.1;simp at this
  |cons v r=>exact⟨v,r,rfl,SA.2 0 _ _ rfl rfl,⟨by have:=SA.1;simp at this |-;omega,fun k c u h1 h2=>SA.2 (k+1) c u (Nm h1) (Nm h2)⟩⟩
 obtain⟨v3,rfl,g3⟩:=Yo ou;cases g2;obtain⟨b,cap,arr,te,hβ,rfl,gK,hh,hs⟩:=g1.cL;obtain⟨vb,atF,uT,tv,hβv,rfl,hlv,hhv,hsv⟩:=g3.cL;have hB:m.B id=some (A++C):=aK;have A4:m.B gI=some V:=fJ
 have ajv:A++C≠[]:=by
  intro h;have:=congrArg List.length h;simp only[zzal,hA,hC,zzcn]at this;omega
 have atG:V≠[]:=by rintro rfl;simp at hV
 have hvb:vb≠b:=by
  rintro rfl;rcases hm.inj _ _ _ hβ hβv with h|h|h
  ·rw[hB]at h;exact ajv (ap h)
  ·rw[A4]at h;exact atG (ap h)
  exact aO h.symm
 obtain⟨bN,y7,q2,q3,q4⟩:=hm.box id _ b hB hβ;rw[hh]at q2;cases q2;obtain⟨azs,tv',p2,p3,p4⟩:=hm.box gI _ vb A4 hβv;rw[hhv]at p2;cases p2;have hvl:=p3.1;simp only[zzbj,hV]at hvl
 have hVr:ak w γ V (uT.toList.take 7):=by
  refine⟨by simp only[zzas,zzbj,hV];omega,fun k c v g1 g2=>?_⟩;have hk:=(zza.1 g1).1;rw[zzbk,ac zE]at g2;exact p3.2 k c v g1 g2
 have hvo:∀v∈uT.toList.take 7,v.oneCell'=true:=fun v hv=>p4 v (zzcc hv);have hi7:(i+1)*7=A.length+V.length:=by rw[hA,hV];omega
 simp only[zzbs]at hs;by_cases cA:n+1<=cap
 ·have fQ:=RD b n cap i vb atF arr uT te tv w hi cA hn hvb hh hhv hs hvl q4 p4;have PA:(n+1)*7<=cap*7:=zzbc _ cA;rw[hi7,<- hA,<- hC]at fQ;obtain⟨e1,m1⟩:=RE hm aK ajv hβ hh hVr hvo (by rw[hA,hC,hV];omega);refine fQ.mono ?_;rintro e w' ⟨rfl,rfl⟩;have hh':w.drew.heap[b]?=some (.cells arr te (0,0)):=hh;refine⟨_,_,.bs m.boxes.length 0 (n+1) 7,_,rfl,e1.cF,m1,hl.mono' e1 rfl,.bs (by simp[G.box]) cA (Xb b _ _ _ _ te _ (Xb b _ _ _ arr te _ hh')) (by rw[Vd,Vd];omega),hK⟩
 have fQ:=Z3 b n cap i vb atF arr uT te tv w hi gK zE hn hvb hh hhv hs hvl q4 p4;refine fQ.mono ?_;rintro e w' ⟨Gc,nK,zs,hG,rfl,hR,hz,hGR,hzo,rfl⟩;rw[<- hA]at hR;obtain⟨e1,m1⟩:=afF (te2:=47) hm aK hβ hh hVr hvo hR (by rw[hC,hV];omega) hzo (by simp[atG]);rw[hi7,<- hA,<- hC];refine⟨_,_,.bs m.boxes.length 0 (n+1) 7,_,rfl,e1.cF,m1,hl.mono' e1 rfl,.bs (by simp[G.box]) hG (Xb _ _ _ _ _ 47 _ (Xb _ _ _ (w.drew.alloc (.cells nK 47)) nK 47 _ (Yk w _))) (by rw[Vd,Vd];omega),hK⟩
def Ke{B:T5}{id:Nat}{c:P2}(h:id<B.length)(hr:Qi B id=c):B[id]?=some c:=by
 rw[Jn h,hr]
def afG(Y:YT)(m:AM)(id gI n:Nat)(A V:P2)(aK:m.boxes[id]?=some A)(fJ:m.boxes[gI]?=some V)(hA:A.length=n*7)(hn:0<n)(hn9:n<=1000000000)(hV:V.length=7)(okV:Zl V=true)
  (K:So)(hK:K (.bs m.boxes.length 0 (n+1) 7) {m with boxes:=m.boxes.set id []++[A++V]}):aB Tryz.prog aD Y 150 [.bs id 0 n 7,I n,.bs gI 0 1 7] m K:=by
 obtain⟨mb,ml,ms,mn⟩:=m;have r1:=Qw aK;have r2:=Qw fJ;have l1:=(zza.1 aK).1;have l2:=(zza.1 fJ).1;simp only at r1 r2 l1 l2 hK;have aO:¬A=[]:=by rintro rfl;simp at hA;omega
 refine Xo B6 (fun _ _ _=>.junk) zd ?_;simp[T3,T4,r1,r2,l1,l2,hA,hV,aO];refine⟨zE,?_⟩;rw[zzau zE,zzau zE];exact hK
def afH(Y:YT)(m:AM)(k:Nat)(row:P2)(ai:row.length=7)(hk:m.lens[k]?=some 0)(K:So)(hK:K (.sl (.own k 7) [row]) {m with lens:=m.lens.set k 1}):
  aB Tryz.prog aD Y 150 [.sl (.own k 7) [],I 0,.sl .full [row]] m K:=by
 obtain⟨mb,ml,ms,mn⟩:=m;refine Xo B6 (fun _ _ _=>.junk) zd ?_;simp[T3,T4,ai];exact⟨hk,hK⟩
def Z6(Y:YT)(m:AM)(K:So)(hK:K (.sl (.own m.lens.length 7) []) {m with lens:=m.lens++[0]}):aB Tryz.prog aD Y 118 [.sl .ro []] m K:=by
 refine Xo BY (fun _ _ _=>.junk) zd ?_;simp[ML,MM];exact hK
def Z7(p:Pl):UV:=fun d f l=>if f=118 then .gd false .junk else Kk p d f l
def Z8(Y:YT)(m:AM)(p:Pl)(h:Bm p)(hn:p.ens=[])(K:So)
  (hK:∀c0 c1,K (.agg (Ur p (.sl (.own m.lens.length 7) []))) {m with boxes:=m.boxes++[c0,c1],lens:=m.lens++[0]}):aB Tryz.prog aD Y 66 [.agg (Qa p)] m K:=by
 obtain⟨mb,ml,ms,mn⟩:=m;obtain⟨h1,h2,h3,h4,h5,h6⟩:=h;have k1:=pI p.sh zE;have k2:=pJ p.aM zE;have k4:=pK p.bks zE;have k5:=Dj p.cls zE;refine Xo u9 (Z7 p) zd ?_;simp[IY,Qa,Z7,Kk,hn];refine⟨k1,k2,Z6 _ _ _ ?_⟩;simp;refine Qj eu (fun f m=>f 22=I 0/\m=⟨mb++[[I p.ch,I p.nu,I p.de,I p.of,.sl .ro (p.sh.map Qe),I p.ep,I p.rg,I p.ln,I p.fi,.sl .ro (p.aM.map Qm),.sl (.own ml.length 7) [],.sl .ro (p.bks.map Xi),.sl .ro (p.cls.map Qg)],[I 0,I 0,I 0,I 0,.sl .nil [],I 0,I 0,I 0,I 0,.sl .nil [],.sl .nil [],.sl .nil [],.sl .nil []]],ml++[0],ms,mn⟩) (fun f _=>0) ?_ ?_
 ·exact⟨zd,zd⟩
 rintro f m ⟨f22,rfl⟩;simp[f22,eu,IZ,Z7,Kk];refine⟨k4,k5,?_⟩;simp[Ur]at hK;exact hK _ _
def DE(f:Int)(o:Od):En:={o.nw with ea:=if o.nw.ea<f then f else o.nw.ea}
def afI(g:Pg)(b:QR):Int:=Uu (fun e:En=>!(fO b e.id)) g.p.ens 0
def LD(g:Pg)(b:QR):Nat:=if afI g b<0 then g.p.ens.length else(afI g b).toNat
def nL(g:Pg)(f:Int)(b:QR)(o:Od):Pl:={g.p with ens:=g.p.ens.take (LD g b)++DE f o::g.p.ens.drop (LD g b)}
def afJ{α:Type}(P:α->Bool)(L:List α)(i:Nat):Uu P L i= -1\/∃k:Nat,k<L.length/\Uu P L i=((i+k:Nat):Int):=by
 cases h:L.find? P with
 |none=>exact .inl (Qcz h)
 |some a=>
  obtain⟨k,h1,h2,_⟩:=Wh (i:=i) h;exact .inr ⟨k,(zza.1 h2).1,h1⟩
def afK(Y:YT)(m:AM)(rt:Rt)(kk:Nat)(K:So)(hK:K (I (-1)) m):aB Tryz.prog aD Y 148 [.sl rt [],.fn 149 [] [.ptr kk 0]] m K:=by
 obtain⟨mb,ml,ms,mn⟩:=m;refine aB.mono (aB.read (K:=fun r=>r=I (-1)) (Xo B5 (fun _ _ _=>.gd false .junk) zd ?_)) (by rintro r m' ⟨rfl,rfl⟩;exact hK);simp[MW];refine Qj eV (fun s m=>s 8=I 0/\m=⟨mb,ml,ms,mn⟩) (fun s _=>0) ?_ ?_
 ·exact⟨zd,rfl⟩
 rintro s m ⟨f8,rfl⟩;simp[f8,eV,Ao];exact nH
def ajw:UV:=fun _ f l=>if f=119 then l.headD .junk else if f=999999 then .aJ 0 []else .gd false .junk
def Z9:UV:=fun _ f l=>if f=119 then l.headD .junk else if f=999999 then .junk else .gd false .junk
def LF(Y:YT)(m:AM)(g:Pg)(f:Int)(mid:Nat)(b:QR)(o:Od)(hp:Bm g.p)(hb:fN m.boxes mid b)(ho:o.nw.al.length<=8796093022208)(K:So)
  (hK:∀ex V ls,me (m.boxes++ex) V (nL g f b o).ens->GQ m.boxes.length V->K (.aS [.agg (Xr (nL g f b o) V (.sl .ro (g.p.cls.map Qg)) 0),.bool true]) {m with boxes:=m.boxes++ex,lens:=m.lens++ls}):
  aB Tryz.prog aD Y 93 [.agg (Qr g f mid),.agg (Qq o)] m K:=by
 obtain⟨mb,ml,ms,mn⟩:=m;have hoe:=Wp o.nw ho;simp only[Qd]at hoe;have hB:∀ex,fN (mb++ex) mid b:=fun ex=>⟨by have:=hb.1;simp at this |-;omega,hb.ext ex⟩;by_cases aO:g.p.ens=[]
 ·have kO:=fun ex K hK=>Z8 Y ⟨mb++ex,ml,ms,mn⟩ g.p hp aO K hK;simp only[Qa]at kO;have hx:(nL g f b o).ens=[DE f o]:=by simp[nL,aO]
  refine Xo TF Z9 zd ?_;simp[ak4,ak5,Qr,Qk,Qa,Qq,Qd,Qg,Qh,Z9];refine kO _ _ fun c0 c1=>?_;simp[Ur];refine afK _ _ _ _ _ ?_;simp;refine⟨hoe,afH _ _ ml.length _ rfl zd _ ?_⟩;simp;exact hK _ (.sl (.own ml.length 7) [Qd (DE f o)]) [1] (.inl ⟨_,by rw[hx];rfl,Du.own _ _⟩) (GQ.sl _ _ _)
 have kO:=fun ex K hK=>yb Y ⟨mb++ex,ml,ms,mn⟩ g.p hp aO K hK;simp only[Qa]at kO;refine Xo TF ajw zd ?_;simp[ak4,ak5,Qr,Qk,Qa,Qq,Qd,Qg,Qh,ajw];refine kO _ _ fun c0 c1 bx=>?_;simp[Ur,zzap];have hl9:g.p.ens.length<=1000000:=hp.2.2.1;refine aB.mono (LC _ _ g f mid mb.length b (mb.length+5) g.p.ens [] zE zd (by simp[Qr,Qk,Qa]) (hB _) zd (by simp[eD])) ?_;rintro r m' ⟨rfl,rfl⟩;have kW:0<g.p.ens.length:=zzdf.2 aO;rcases afJ (fun e:En=>!(fO b e.id)) g.p.ens 0 with hI|⟨k,hk,hI⟩
 ·have hJ:LD g b=g.p.ens.length:=by unfold LD afI;rw[hI,ac zE]
  have hP:(nL g f b o).ens=g.p.ens++[DE f o]:=by simp[nL,hJ]
  rw[hI];simp[zzap];refine⟨hoe,afG _ _ _ _ _ (eD g.p.ens) (Qd (DE f o)) (Ke zd (by simp[eD])) (Ke zd (by simp[DE,Qd])) (Jc _) kW zE rfl rfl _ ?_⟩;simp[zzap];have h3:=fun ex k h1 h2 h4=>hK ex (.bs k 0 (g.p.ens.length+1) 7) [] (.inr ⟨k,[],by rw[hP];simp,h1,h2,rfl⟩) (GQ.bs h4);simp only[zzat]at h3;exact h3 _ (mb.length+(bx.length+9)) zd (by simp[hP,pN,Qd]) zd
 have hJ:LD g b=k:=by unfold LD afI;rw[hI,ab zE];omega
 have kZ:Uu (fun e:En=>!(fO b e.id)) g.p.ens 0=(k:Int):=by rw[hI];omega
 have Eg:¬(k:Int)<0:=zE
 have hP:(nL g f b o).ens=g.p.ens.take k++DE f o::g.p.ens.drop k:=by simp[nL,hJ]
 rw[kZ];simp[zzap,Eg];refine⟨hoe,RH _ _ _ _ _ _ (eD (g.p.ens.take k)) (eD (g.p.ens.drop k)) (Qd (DE f o)) (Ke zd (by rw[<- pN,zzdt];simp[eD])) (Ke zd (by simp[DE,Qd])) zE rfl (by rw[Jc,zzas];omega) (by rw[Jc,zzcy]) hk zE _ ?_⟩;simp[zzap];have h3:=fun ex k h1 h2 h4=>hK ex (.bs k 0 (g.p.ens.length+1) 7) [] (.inr ⟨k,[],by rw[hP];simp;omega,h1,h2,rfl⟩) (GQ.bs h4);simp only[zzat]at h3;exact h3 _ (mb.length+(bx.length+9)) zd (by simp[hP,pN,Qd]) zd
def DF(f:Int)(e:aW):aW:={e with fr:=if f-e.st<e.fr then f-e.st else e.fr}
def Zm(f:Int):List aW->List aW
 |[]=>[]
 |e::r=>if f<=e.st then Zm f r else DF f e::Zm f r
def jM(f:Int):∀(l r:List aW),Zm f (l++r)=Zm f l++Zm f r
 |[],_=>rfl
 |e::l,r=>by
  simp only[zzae,Zm,jM f l r];split<;>rfl
def Qdm(f:Int):∀(l:List aW),(Zm f l).length<=l.length
 |[]=>zzab _
 |e::l=>by
  have:=Qdm f l;simp only[Zm];split<;>simp<;>omega
def ajx(ml:Pa)(o:List aW)(v:AV)(ls:Pa):Prop:=(o=[]/\v=.sl .nil []/\ls=ml)\/(o≠[]/\v=.sl (.own ml.length 7) (o.map Qf)/\ls=ml++[o.length])
def atH(l:List aW)(F:Int)(mb:T5)(ml:Pa)(ms:Nat->LS)(mn:Nat)(g:Nat->AV)(m:AM):Prop:=
 ∃(i:Nat)(bx:T5)(ls:Pa),i<=l.length/\g 11=I i/\m=⟨mb++bx,ls,ms,mn⟩/\ajx ml (Zm F (l.take i)) (g 5) ls
def aaa:UV:=fun _ g l=>if g=64 then l.headD .junk else .junk
def yp(Y:YT)(m:AM)(l:List aW)(f:Int)(hl:l.length<=1000000)(hs:∀e∈l,Kq e)(hf:0<=f/\f<=1000000)(K:So)
  (hK:∀ex v ls,ajx m.lens (Zm f l) v ls->K v {m with boxes:=m.boxes++ex,lens:=ls}):aB Tryz.prog aD Y 105 [.sl .ro (l.map Qf),I f] m K:=by
 obtain⟨mb,ml,ms,mn⟩:=m;refine Xo acd aaa zd ?_;simp[TM,agO];refine Qj va (atH l f mb ml ms mn) (fun g _=>l.length-(numOf (g 11)).toNat) ?_ ?_
 ·exact⟨0,[],ml,zE,zd,zd,.inl ⟨by simp[Zm],zd,rfl⟩⟩
 rintro g m ⟨i,bx,ls,hi,nq,rfl,aY⟩;rcases zzaa i l.length with ah|bu
 ·obtain⟨a,ha⟩:=aV ah;have ai:Qi (l.map Qf) i=Qf a:=Qw (by simp[ha]);have hw:=bO i zE;have bz:l.take (i+1)=l.take i++[a]:=by rw[zzay,ha];rfl
  have aa:(i:Int)<(l.length:Int):=zE
  obtain⟨⟨a1,a2⟩,⟨a3,a4⟩,a5,a6⟩:=hs a (zzad ha);have fT:=Qdm f (l.take i);have azt:(Zm f (l.take i)).length<=1000000:=by simp at fT;omega
  by_cases h1:f<=a.st
  ·have hb:Zm f (l.take (i+1))=Zm f (l.take i):=by rw[bz,jM];simp[Zm,h1]
   simp[nq,ai,ah,Qf,h1,hw,va];refine⟨aQ,⟨i+1,_,ls,zE,zd,rfl,?_⟩,zE⟩
   ·rw[hb];exact aY
  have hb:Zm f (l.take (i+1))=Zm f (l.take i)++[DF f a]:=by rw[bz,jM];simp[Zm,h1]
  have wf1:=wu f zE zE;have wf2:=wu a.st zE zE;have wf3:=wu a.fr zE zE;have wf4:=wu (f-a.st) zE zE;have wf5:IntKind.i64.wrap (f-a.st)=f-a.st:=by rw[Ql]<;>omega
  have qj:=Qcf a.al a6;obtain⟨fr',amW⟩:∃fr',fr'=if f-a.st<a.fr then f-a.st else a.fr:=⟨_,rfl⟩;have SI:Qf (DF f a)=[I a.id,I a.it,I a.st,I fr',I a.i,I a.re,.sl .ro (a.al.map Qe)]:=by rw[amW];rfl
  have qc:(0<a.fr/\f-a.st<a.fr/\fr'=f-a.st)\/(0<a.fr/\¬f-a.st<a.fr/\fr'=a.fr)\/(¬0<a.fr/\fr'=a.fr):=by
   rw[amW];by_cases h0:0<a.fr
   ·by_cases hc:f-a.st<a.fr
    ·exact .inl ⟨h0,hc,by simp[hc]⟩
    exact .inr (.inl ⟨h0,hc,by simp[hc]⟩)
   exact .inr (.inr ⟨h0,by rw[ab zE]⟩)
  have vW:(Zm f (l.take (i+1))).length=(Zm f (l.take i)).length+1:=by rw[hb];simp
  have RF:Zm f (l.take (i+1))≠[]:=by rw[hb];simp
  have fin:(Zm f (l.take (i+1))).map Qf=(Zm f (l.take i)).map Qf++[[I a.id,I a.it,I a.st,I fr',I a.i,I a.re,.sl .ro (a.al.map Qe)]]:=by rw[hb,zzcb,<- SI];rfl
  clear amW SI;have X3:=aY;clear aY;obtain⟨e0,h5,rfl⟩|⟨e0,h5,rfl⟩:=X3
  ·rw[e0]at fin vW;obtain⟨h0,hc,rfl⟩|⟨h0,hc,rfl⟩|⟨h0,rfl⟩:=qc
   all_goals
    simp[Qf,aaa,va, *];refine⟨aQ,⟨i+1,_,_,zE,zd,rfl,.inr ⟨RF,?_,?_⟩⟩,zE⟩
    ·simp[fin]
    rw[vW];rfl
  obtain⟨h0,hc,rfl⟩|⟨h0,hc,rfl⟩|⟨h0,rfl⟩:=qc
  all_goals
   simp[Qf,aaa,va, *];refine⟨⟨by rintro row (⟨x,_,rfl⟩|rfl)<;>rfl,zE⟩,ag ?_,⟨i+1,_,_,zE,zd,rfl,.inr ⟨RF,?_,?_⟩⟩,zE⟩
   ·repeat(first|exact Qb _ _|refine Qc _ rfl ?_)
   ·simp[fin]
   rw[vW]
 have hbf:l.take i=l:=zzau bu;rw[hbf]at aY;simp[nq,zzbm.2 bu,va];exact hK _ _ _ aY
def yq(n a b:Int)(ha:0<=a/\a<=1000000000)(hb:0<=b/\b<=1000000000):Pure Tryz.prog aD 165 [I n,I a,I b] (.bool (decide (n=a+b))):=by
 have hw:IntKind.i64.wrap (a+b)=a+b:=by rw[Ql]<;>omega
 have h1:¬a<0:=zE
 have h2:¬b<0:=zE
 have h3:¬a+b<0:=zE
 refine Qp ac1 (fun _ _ _=>.junk) zd ?_;by_cases h:n=a+b<;>simp[aht,ahu,hw,h1,h2,h3,h]
def DG(e:aW):Ad:=⟨e.it,0,e.st,e.fr⟩
def iy(n:Int):List Ad->List Ad
 |[]=>[]
 |[a]=>[{a with fs:=a.fs+n}]
 |a::b::r=>a::iy n (b::r)
def jN(n:Int)(a:Ad):∀l:List Ad,iy n (l++[a])=l++[{a with fs:=a.fs+n}]
 |[]=>rfl
 |[x]=>rfl
 |x::y::r=>by have:=jN n a (y::r);simp only[zzae]at this |-;rw[iy,this]
def gR(x e:aW):Prop:=x.id=e.id/\e.st=x.st+x.fr/\e.i=x.i+x.fr
instance (x e:aW):Decidable (gR x e):=by unfold gR;infer_instance
def Xj(x:Option aW)(e:aW)(out:List Ad):List Ad:=
 if e.id=0 then out else match x with
 |none=>out++[DG e]
 |some x=>if gR x e then iy e.fr out else out++[DG e]
def Jl:Option aW->List aW->List Ad->List Ad
 |_,[],out=>out
 |x,e::r,out=>Jl (some e) r (Xj x e out)
def zY(l:List aW)(f:Int):List Ad:=Jl none (Zm f l) []
def rE(e:aW):∀(l:List aW)(x:Option aW)(out:List Ad),Jl x (l++[e]) out=Xj (match l.getLast? with|some y=>some y|none=>x) e (Jl x l out)
 |[],_,_=>rfl
 |[a],_,_=>rfl
 |a::b::r,x,out=>by
  have:=rE e (b::r) (some a) (Xj x a out);simp only[zzae]at this |-
  rw[Jl,this,List.getLast?_cons_cons];congr 1
def afL{n:Int}:∀{l:List Ad},l≠[]->iy n l≠[]
 |[],h=>absurd rfl h
 |[a],_=>by simp[iy]
 |a::b::r,_=>by simp[iy]
def rF{B:List aW}{i:Nat}{e:aW}(h:B[i]?=some e):Jl none (B.take (i+1)) []=Xj (if i=0 then none else B[i-1]?) e (Jl none (B.take i) []):=by
 have ah:=(zza.1 h).1;rw[zzay,h];show Jl none (B.take i++[e]) []=_;rw[rE];congr 1;cases i with
 |zero=>rfl
 |succ i=>
  have hx:B[i]?=some B[i]:=zzaf zE;rw[zzay,hx,Option.toList_some,List.getLast?_concat,ab zE,zzgk,hx]
def Oy{B:List aW}:∀{i:Nat}{e:aW},B[i]?=some e->e.id≠0->Jl none (B.take (i+1)) []≠[]
 |0,e,h,h0=>by rw[rF h,ac rfl];simp[Xj,h0]
 |i+1,e,h,h0=>by
  rw[rF h,ab zE,zzgk];have ah:=(zza.1 h).1;obtain⟨x,hx⟩:∃x,B[i]?=some x:=⟨_,zzaf zE⟩;rw[hx];unfold Xj;rw[ab h0];simp only;split
  ·rename_i hj;exact afL (Oy hx (by rw[hj.1];exact h0))
  simp
def nM(f:Int)(hf:f<=1000000):∀(l:List aW),(∀e∈l,Kq e)->∀e∈Zm f l,Kq e
 |[],_,e,h=>by cases h
 |a::r,hs,e,h=>by
  have ih:=nM f hf r fun e he=>hs e (by simp[he]);rw[Zm]at h;split at h
  ·exact ih e h
  rename_i bM;rcases zzao.1 h with rfl|h
  ·obtain⟨⟨a1,a2⟩,⟨a3,a4⟩,a5,a6⟩:=hs a zd;refine⟨⟨a1,a2⟩,?_,a5,a6⟩;simp only[DF];split<;>omega
  exact ih e h
def FsB(n:Int)(out:List Ad):Prop:=∀a∈out,0<=a.fs/\a.fs<=n
def FsB.inc{n k:Int}(hk:0<=k/\k<=1000000):∀{l:List Ad},FsB n l->FsB (n+1000000) (iy k l)
 |[],_,a,h=>by cases h
 |[x],hl,a,h=>by
  have:=hl x zd;simp only[iy,zzbx]at h;subst h;simp only;omega
 |x::y::r,hl,a,h=>by
  rw[iy]at h;rcases zzao.1 h with rfl|h
  ·have:=hl a zd;omega
  exact FsB.inc hk (l:=y::r) (fun b hb=>hl b (by simp[hb])) a h
def FsB.step{n:Int}{x:Option aW}{e:aW}{out:List Ad}(h:FsB n out)(hn:0<=n)(he:Kq e):FsB (n+1000000) (Xj x e out):=by
 obtain⟨_,h3,_⟩:=he;have hw:FsB (n+1000000) out:=fun a ha=>by have:=h a ha;omega
 have hp:FsB (n+1000000) (out++[DG e]):=fun a ha=>by
  rcases zzaj.1 ha with ha|ha
  ·exact hw a ha
  simp only[zzbx]at ha;subst ha;simp only[DG];omega
 unfold Xj;split
 ·exact hw
 cases x with
 |none=>exact hp
 |some x=>
  simp only;split
  ·exact h.inc h3
  exact hp
def He(B:List aW)(x:Option aW)(out:List Ad):(Jl x B out).length<=out.length+B.length:=by
 induction B generalizing x out with
 |nil=>simp[Jl]
 |cons e r ih=>
  rw[Jl];have h1:=ih (some e) (Xj x e out)
  have h2:(Xj x e out).length<=out.length+1:=by
   have hi:∀(k:Int)(l:List Ad),(iy k l).length=l.length:=by
    intro k l;induction l with
    |nil=>rfl
    |cons a r ih=>cases r with
     |nil=>rfl
     |cons b r=>rw[iy,zzbf,ih];rfl
   unfold Xj;split
   ·omega
   cases x with
   |none=>simp
   |some x=>
    simp only;split
    · rw[hi];omega
    simp
  simp only[zzbf];omega
def tf(l:List Ad):P2:=(l.map Vl).flatten
def uV:∀l,(tf l).length=l.length*4
 |[]=>rfl
 |a::r=>by have:=uV r;simp only[tf,zzar,zzch,zzal]at this |-;rw[this];simp[Vl];omega
def afM(a b:List Ad):tf (a++b)=tf a++tf b:=by simp[tf]
def amX(l:List Ad):Zl (tf l)=true:=kK (fun _=>rfl) l
def RI{bx:T5}{k:Nat}{c:P2}(h:k<bx.length)(ex:T5):Qi (bx.set k c++ex) k=c:=
 Qw (by rw[zzak (Nm h)];simp[h])
def rG(bx:T5)(k:Nat)(c p q r:P2):Qi (bx.set k c++[p,q,r]) (bx.length+2)=r:=
 Qw (by rw[zzaq zd];simp)
def RJ(l:List Ad):aZ 4 l.length (tf l)=l.map Vl:=by
 have:=Qbj (sz:=4) (rows:=l.map Vl) (kL (f:=Vl) (fun _=>rfl) l);rw[zzbw]at this;exact this
def Oz(bx:T5)(o:List Ad)(v:AV):Prop:=(o=[]/\v=.sl .nil [])\/(o≠[]/\∃k,v=.bs k 0 o.length 4/\k<bx.length/\Qi bx k=tf o)
def atI(B:List aW)(ls:Pa)(g:Nat->AV)(m:AM):Prop:=
 ∃(i:Nat)(bx:T5),g 15=I i/\i<=B.length/\m=⟨bx,ls,fun _=>.gone,0⟩/\Oz bx (Jl none (B.take i) []) (g 5)/\FsB (i*1000000) (Jl none (B.take i) [])
def mq:UV:=fun d f l=>if f=105 then .gd false .junk else if f=165 then(match l with|[.int _ n,.int _ a,.int _ b]=>.bool (decide (n=a+b))|_=>.junk)else if f=999999 then(if d=73 then .junk else .aJ 0 [])else .junk
def Oz.ext{bx:T5}{o:List Ad}{v:AV}(h:Oz bx o v)(ex:T5):Oz (bx++ex) o v:=by
 obtain h|⟨h0,k,h1,h2,h3⟩:=h
 ·exact .inl h
 exact .inr ⟨h0,k,h1,by simp;omega,by rw[Qn h2,h3]⟩
def LG(l:List aW)(f:Int)(hl:l.length<=1000000)(hs:∀e∈l,Kq e)(hf:0<=f/\f<=1000000):Pure Tryz.prog aD 109 [.sl .ro (l.map Qf),I f] (.sl .ro ((zY l f).map Vl)):=by
 have hsB:=nM f hf.2 l hs;have hlB:(Zm f l).length<=1000000:=by have:=Qdm f l;omega
 have:Pure Tryz.prog aD 109 [.sl .ro (l.map Qf),I f] (.sl (if zY l f=[]then .nil else .ro) ((zY l f).map Vl)):=by
  refine Qp acg mq zd ?_;simp[TN,agR,mq];refine yp _ _ l f hl hs hf _ fun ex v ls hO=>?_
  obtain⟨rt,rfl⟩:∃rt,v=.sl rt ((Zm f l).map Qf):=by
   obtain⟨e,rfl,_⟩|⟨e,rfl,_⟩:=hO
   ·exact⟨.nil,by rw[e];rfl⟩
   exact⟨_,rfl⟩
  clear hO;unfold zY;generalize Zm f l=B at*
  simp;refine Qj dV (atI B ls) (fun g _=>B.length-(numOf (g 15)).toNat) ?_ ?_
  ·exact⟨0,ex,zd,zE,zd,.inl ⟨by simp[Jl],zd⟩,fun a h=>by simp[Jl]at h⟩
  rintro g m ⟨i,bx,sG,hi,rfl,hO,hF⟩;rcases zzaa i B.length with ah|bu
  ·obtain⟨a,ha⟩:=aV ah;have ai:Qi (B.map Qf) i=Qf a:=Qw (by simp[ha]);have hw:=bO i zE;have aa:(i:Int)<(B.length:Int):=zE
   have lu:=hsB a (zzad ha);have bz:=rF ha;have QX:=hF.step (x:=if i=0 then none else B[i-1]?) (e:=a) zE lu;rw[<- bz]at QX;obtain⟨⟨a1,a2⟩,⟨a3,a4⟩,⟨a5,a6⟩,a7⟩:=lu;by_cases h0:a.id=0
   ·simp[sG,ai,ah,Qf,h0,dV,hw];refine⟨aQ,⟨i+1,_,zd,zE,rfl,?_,?_⟩,zE⟩
    ·simp[Xj,h0]at bz;rw[bz];simpa using hO.ext _
    have:((i+1:Nat):Int)*1000000=(i:Int)*1000000+1000000:=zE
    rw[this];exact QX
   cases i with
   |zero=>
    have e1:Jl none (B.take 1) []=[DG a]:=by rw[bz];simp[Xj,h0,Jl]
    have hO0:g 5=.sl .nil []:=by
     obtain⟨_,h⟩|⟨h,_⟩:=hO
     ·exact h
     exact absurd (by simp[Jl]) h
    have lq:IntKind.i64.wrap 1=1:=by rw[Ql]<;>omega
    simp at sG;simp[sG,ai,ah,Qf,h0,dV,lq,hO0,mq];refine⟨aQ,⟨1,_,zd,zE,rfl,.inr ⟨by rw[e1];simp,bx.length+1,by simp[e1],zd,?_⟩,?_⟩,zE⟩
    ·simp[e1,tf,Vl,DG]
    simpa using QX
   |succ i=>
    have ayc:i<B.length:=zE
    obtain⟨x,hx⟩:=aV ayc;have yt:Qi (B.map Qf) i=Qf x:=Qw (by simp[hx]);obtain⟨⟨x1,x2⟩,⟨x3,x4⟩,⟨x5,x6⟩,x7⟩:=hsB x (zzad hx);have k1:=yq a.st x.st x.fr zE zE;have k2:=yq a.i x.i x.fr zE zE;have SK:IntKind.i64.wrap (i:Int)=i:=by rw[Ql]<;>omega
    have yu:(i:Int)<(B.length:Int):=zE
    have kW:(0:Int)<(i:Int)+1:=zE
    rw[ab zE,zzgk,hx]at bz;have aO:=Oy hx;have AW:((i+1+1:Nat):Int)*1000000=((i+1:Nat):Int)*1000000+1000000:=zE
    have FM:=He (B.take (i+1)) none [];have amY:¬gR x a->Jl none (B.take (i+1+1)) []=Jl none (B.take (i+1)) []++[DG a]:=fun h=>by rw[bz];simp[Xj,h0,h]
    have LH:gR x a->Jl none (B.take (i+1+1)) []=iy a.fr (Jl none (B.take (i+1)) []):=fun h=>by rw[bz];simp[Xj,h0,h]
    rw[<- AW]at QX;clear bz;generalize Jl none (B.take (i+1)) []=out at*
    generalize cM:Jl none (B.take (i+1+1)) []=out' at*
    simp at sG ah aa hw FM;have atJ:out.length<=1000000:=zE
    by_cases hj:gR x a
    ·have e1:=LH hj;obtain⟨j1,j2,j3⟩:=hj;have aO:=aO (by rw[j1];exact h0)
     obtain⟨O,z,rfl⟩:∃O z,out=O++[z]:=by
      rcases zzfc out with e|⟨O,z,e⟩
      ·exact absurd e aO
      exact⟨O,z,by rw[e,zzef]⟩
     have hOl:(tf O).length=O.length*4:=uV O;have hz:=hF z zd;have hwz:IntKind.i64.wrap (z.fs+a.fr)=z.fs+a.fr:=by rw[Ql]<;>omega
     have afN:∀X:P2,(tf O++X).drop (O.length*4+3)=X.drop 3:=fun X=>Br _ _ _ _ hOl;have hs3:∀X Y:P2,setA (tf O++X) (O.length*4+3) Y=tf O++setA X 3 Y:=fun X Y=>Bq _ _ _ _ _ hOl;obtain⟨e,_⟩|⟨_,k,h5,hk,hr⟩:=hO
     ·exact absurd e aO
     have hR:∀ex,Qi (bx++ex) k=tf O++[I z.it,I z.re,I z.fr,I z.fs]:=fun ex=>by rw[Qn hk,hr,afM];rfl
     rw[jN]at e1;rw[zzal,zzhg]at h5;have hwo:IntKind.i64.wrap (O.length:Int)=O.length:=by simp at atJ;rw[Ql]<;>omega
     have ur:k<bx.length+1:=zE
     have aab:k<bx.length+(1+1):=zE
     have ayd:k<bx.length+2:=zE
     simp[sG,ai,aa,Qf,h0,dV,hw,yt,yu,kW,SK,mq,j1,j2,j3,h5,hR,hwo,afN,hs3,hOl,hwz,hk,aab];refine⟨zE,by rw[j2]at k1;simpa using k1,by rw[j3]at k2;simpa using k2,zE,aQ,⟨i+1+1,_,zd,zE,rfl,.inr ⟨by rw[cM,e1];simp,k,by rw[cM,e1];simp,by simp;omega,?_⟩,by rw[cM];exact QX⟩,zE⟩
     ·rw[cM,e1,RI hk];simp[tf,Vl]
    have e1:=amY hj
    have lN:¬x.id=a.id\/(x.id=a.id/\¬a.st=x.st+x.fr)\/(x.id=a.id/\a.st=x.st+x.fr/\¬a.i=x.i+x.fr):=by
     unfold gR at hj;by_cases j1:x.id=a.id
     ·by_cases j2:a.st=x.st+x.fr
      ·exact .inr (.inr ⟨j1,j2,fun j3=>hj ⟨j1,j2,j3⟩⟩)
      exact .inr (.inl ⟨j1,j2⟩)
     exact .inl j1
    obtain⟨rfl,h5⟩|⟨RF,k,h5,hk,hr⟩:=hO
    ·obtain j1|⟨j1,j2⟩|⟨j1,j2,j3⟩:=lN
     ·simp[sG,ai,aa,Qf,h0,dV,hw,yt,yu,kW,SK,mq,j1,h5];refine⟨zE,aQ,⟨i+1+1,_,zd,zE,rfl,.inr ⟨by rw[cM,e1];simp,bx.length+2,by rw[cM,e1];simp,zd,?_⟩,by rw[cM];exact QX⟩,zE⟩
      ·rw[cM,e1];simp[tf,Vl,DG]
     ·simp[sG,ai,aa,Qf,h0,dV,hw,yt,yu,kW,SK,mq,j1,j2,h5];refine⟨zE,by simpa[j2]using k1,aQ,⟨i+1+1,_,zd,zE,rfl,.inr ⟨by rw[cM,e1];simp,bx.length+2,by rw[cM,e1];simp,zd,?_⟩,by rw[cM];exact QX⟩,zE⟩
      ·rw[cM,e1];simp[tf,Vl,DG]
     simp[sG,ai,aa,Qf,h0,dV,hw,yt,yu,kW,SK,mq,j1,j2,j3,h5];refine⟨zE,by rw[j2]at k1;simpa using k1,by simpa[j3]using k2,aQ,⟨i+1+1,_,zd,zE,rfl,.inr ⟨by rw[cM,e1];simp,bx.length+2,by rw[cM,e1];simp,zd,?_⟩,by rw[cM];exact QX⟩,zE⟩
     ·rw[cM,e1];simp[tf,Vl,DG,j2]
    have hR:∀ex,Qi (bx++ex) k=tf out:=fun ex=>by rw[Qn hk,hr]
    have ur:k<bx.length+1:=zE
    have aab:k<bx.length+(1+1):=zE
    have ayd:k<bx.length+2:=zE
    have hlo:=uV out;have amZ:¬tf out=[]:=by intro h;rw[h]at hlo;exact RF (zzbe (by simp at hlo;omega))
    have ZH:List.take (out.length*4) (tf out)=tf out:=zzau zE;obtain j1|⟨j1,j2⟩|⟨j1,j2,j3⟩:=lN
    ·simp[sG,ai,aa,Qf,h0,dV,hw,yt,yu,kW,SK,mq,j1,h5,hR,hk,aab,hlo,amZ,ZH];refine⟨zE,zE,aQ,⟨i+1+1,_,zd,zE,rfl,.inr ⟨by rw[cM,e1];simp,bx.length+2,by rw[cM,e1];simp,zd,?_⟩,by rw[cM];exact QX⟩,zE⟩
     ·rw[cM,e1,rG];simp[tf,Vl,DG]
    ·simp[sG,ai,aa,Qf,h0,dV,hw,yt,yu,kW,SK,mq,j1,j2,h5,hR,hk,aab,hlo,amZ,ZH];refine⟨zE,by simpa[j2]using k1,zE,aQ,⟨i+1+1,_,zd,zE,rfl,.inr ⟨by rw[cM,e1];simp,bx.length+2,by rw[cM,e1];simp,zd,?_⟩,by rw[cM];exact QX⟩,zE⟩
     ·rw[cM,e1,rG];simp[tf,Vl,DG]
    simp[sG,ai,aa,Qf,h0,dV,hw,yt,yu,kW,SK,mq,j1,j2,j3,h5,hR,hk,aab,hlo,amZ,ZH];refine⟨zE,by rw[j2]at k1;simpa using k1,by simpa[j3]using k2,zE,aQ,⟨i+1+1,_,zd,zE,rfl,.inr ⟨by rw[cM,e1];simp,bx.length+2,by rw[cM,e1];simp,zd,?_⟩,by rw[cM];exact QX⟩,zE⟩
    ·rw[cM,e1,rG];simp[tf,Vl,DG,j2]
  obtain rfl:i=B.length:=zE
  rw[zzbu]at hO;obtain⟨e,h5⟩|⟨e,k,h5,hk,hr⟩:=hO
  ·simp[sG,dV,h5,e]
  simp[sG,dV,h5,e];rw[hr,Ve _ _ (amX _),uV,ac (zzab _),RJ]
 exact Zk this (Wk.sl _ _)
def Ki(g:Pg)(f:Int)(b:QR)(o:Od):Option (Pl×Int):=
 if o.ki=1 then ru g f b o else if o.ki=2 then(tU g o).map fun q=>(q,0)else if o.ki=3 then some (nL g f b o,0)else some (Dv g o,0)
def zh(g:Pg)(f:Int)(b:QR)(o:Od)(q:Pl)(d:Int):Bool:=
 if o.ki=1 then Qbx g f b o q d else if o.ki=2 then !(Dr g f b o.en)else if o.ki=3 then pP g o else true
def Jk(g:Pg)(f:Int)(b:QR)(o:Od):Option (Pl×Int):=
 if g.p.ln<=f then none else match Ki g f b o with
 |none=>none
 |some (q,d)=>if(pe q&&zh g f b o q d)=true then some (q,d)else none
def afO(g:Pg)(f:Int)(b:QR)(o:Od)(e:En):sX (tT g f b o e):=by
 unfold tT;cases Bp g f b o.en with
 |none=>exact Qdu _
 |some st=>
  have h1:=Qdu (e.fr+o.n);have h2:=Qdu (f-st);simp only;first|exact Qdu _|(split<;>assumption)|(unfold sX at*;omega)
structure PlB (q:Pl):Prop where
 sh:q.sh.length<=1000000
 aM:q.aM.length<=1000000
 ens:q.ens.length<=1000001
 bks:q.bks.length<=1000000
 cls:q.cls.length<=1000001
 als:∀e∈q.ens,e.al.length<=8796093022208
def yw{g:Pg}{f:Int}{b:QR}{o:Od}{q:Pl}{d:Int}(hp:Bm g.p)(ho:o.nw.al.length<=8796093022208)(h:Ki g f b o=some (q,d)):PlB q/\q.ln=g.p.ln/\sX d:=by
 obtain⟨h1,h2,h3,h4,h5,h6⟩:=hp;unfold Ki at h;have j0:sX 0:=by unfold sX;omega
 split at h
 ·unfold ru at h;split at h
  ·cases h
  rename_i e he;split at h
  ·cases h
  cases h;refine⟨⟨h1,h2,by simp;omega,h4,by show g.p.cls.length<=_;omega,fun x hx=>?_⟩,rfl,afO _ _ _ _ _⟩;rcases zzgs hx with hx|rfl
  ·exact h6 x hx
  exact h6 e (zzad he)
 split at h
 ·unfold tU at h;split at h
  ·cases h
  cases h;exact⟨⟨h1,h2,by have:=zzcf (fun e=>!lZ o.en e) g.p.ens;simp only;omega,h4,by show g.p.cls.length<=_;omega,fun x hx=>h6 x (zzbp.1 hx).1⟩,rfl,j0⟩
 split at h
 ·cases h;refine⟨⟨h1,h2,by simp only[nL,zzal,zzas,zzbf,zzcy];omega,h4,by show g.p.cls.length<=_;omega,fun x hx=>?_⟩,rfl,j0⟩;simp only[nL,zzaj,zzao]at hx;obtain hx|rfl|hx:=hx
  ·exact h6 x (zzcc hx)
  ·exact ho
  exact h6 x (zzdk hx)
 cases h;exact⟨⟨h1,h2,by show g.p.ens.length<=_;omega,h4,by simp only[Dv,zzal,zzbf,zzcn];omega,h6⟩,rfl,j0⟩
def PlB.S{q:Pl}(h:PlB q):PlS q:=⟨by have:=h.sh;omega,by have:=h.aM;omega,by have:=h.ens;omega,by have:=h.bks;omega,by have:=h.cls;omega,h.als⟩
def Hf(q?:Option (Pl×Int)):UV:=fun _ f _=>if f=95 then(match q? with|some (q,_)=>.bool (pe q)|none=>.junk)else .gd false .junk
def me.put{mb:T5}{a b c c':P2}{ex:T5}{V:AV}{l:List En}(h:me (mb++(a::b::c::ex)) V l)(hk:GQ (mb.length+3) V)(gD:T5):me (mb++(a::b::c'::(ex++gD))) V l:=by
 obtain h|⟨k,z,rfl,h2,h3,h4⟩:=h
 ·exact .inl h
 have cw:=hk _ _ _ _ rfl;obtain⟨j,rfl⟩:∃j,k=mb.length+(j+3):=⟨k-mb.length-3,zE⟩;have hg:=Jn h2;rw[h3,zzaq zE,zze]at hg;simp only[zzcl]at hg;have hj:=(zza.1 hg).1;refine .inr ⟨_,z,rfl,by simp at h2 |-;omega,Qw ?_,h4⟩;rw[zzaq zE,zze];simp only[zzcl];rw[zzak hj,hg]
structure aac (g:Pg) (f:Int) (o:Od):Prop where
 mo:f<g.p.ln->lC g f
 pl:Bm g.p
 f0:0<=f
 ln:g.p.ln<=1000000
 n:sX o.n
 fr:∀e∈g.p.ens,sX e.fr
 dr:g.dr.length<=1000000000
 al:o.nw.al.length<=8796093022208
def LI(Y:YT)(m:AM)(g:Pg)(f:Int)(mid:Nat)(b:QR)(o:Od)(h:aac g f o)(hb:fN m.boxes mid b)(K:So)
  (h0:Jk g f b o=none->∀ex ls,K (.aS [.agg uR,.bool false]) {m with boxes:=m.boxes++ex,lens:=m.lens++ls})
  (h1:∀q d,Jk g f b o=some (q,d)->∀ex V rt ls,me (m.boxes++ex) V q.ens->GQ m.boxes.length V->Du rt->K (.aS [.agg (Xr q V (.sl rt (q.cls.map Qg)) d),.bool true]) {m with boxes:=m.boxes++ex,lens:=m.lens++ls}):
  aB Tryz.prog aD Y 44 [.agg (Qr g f mid),.agg (Qq o)] m K:=by
 obtain⟨mb,ml,ms,mn⟩:=m;obtain⟨hm,hp,hf0,dQ,hn,zF,fk,ho⟩:=h;have hB:∀ex,fN (mb++ex) mid b:=fun ex=>⟨by have:=hb.1;simp at this |-;omega,hb.ext ex⟩;by_cases tH:g.p.ln<=f
 ·have h0:=h0 (by unfold Jk;rw[ac tH]);refine Xo Tf (fun _ _ _=>.gd false .junk) zd ?_;simp[Pt,Pu,Qr,Qk,Qa,Qq,Qd,Qg,Qh,tH];have:=fun ex=>h0 ex [];simp[uR]at this;exact this _
 have hm:=hm zE;have P8:sX g.p.ln:=by unfold sX;omega
 have e1:Jk g f b o=match Ki g f b o with
  |none=>none
  |some (q,d)=>if(pe q&&zh g f b o q d)=true then some (q,d)else none:=by unfold Jk;rw[ab tH]
 have key:∃fb fm:FuncId,((o.ki=1/\fb=89/\fm=90)\/(o.ki=2/\fb=91/\fm=92)\/(o.ki=3/\fb=93/\fm=94)\/(¬o.ki=1/\¬o.ki=2/\¬o.ki=3/\fb=87/\fm=88))/\
   (
    ∀(ex:T5)(K:So),(Ki g f b o=none->∀iD,K (.aS [.agg uR,.bool false]) ⟨mb++(ex++iD),ml,ms,mn⟩)->
    (∀q d,Ki g f b o=some (q,d)->∀iD V rt ls,me (mb++(ex++iD)) V q.ens->GQ (mb++ex).length V->Du rt->K (.aS [.agg (Xr q V (.sl rt (q.cls.map Qg)) d),.bool true]) ⟨mb++(ex++iD),ml++ls,ms,mn⟩)->
    aB Tryz.prog aD Y fb [.agg (Qr g f mid),.agg (Qq o)] ⟨mb++ex,ml,ms,mn⟩ K)/\
   (
    ∀(ex:T5)(ls:Pa)(q:Pl)(d:Int)(V:AV)(rt:Rt)(K:So),Ki g f b o=some (q,d)->me (mb++ex) V q.ens->Du rt->K (.bool (zh g f b o q d)) ⟨mb++ex,ml++ls,ms,mn⟩->
    aB Tryz.prog aD Y fm [.agg (Qr g f mid),.agg (Qq o),.agg (Xr q V (.sl rt (q.cls.map Qg)) d)] ⟨mb++ex,ml++ls,ms,mn⟩ K):=by
  by_cases k1:o.ki=1
  ·refine⟨89,90,.inl ⟨k1,rfl,rfl⟩,fun ex K q0 q1=>?_,fun ex ls q d V rt K hq hV aY hK=>?_⟩
   ·have fT:Ki g f b o=ru g f b o:=by unfold Ki;rw[ac k1]
    refine afg Y ⟨mb++ex,ml,ms,mn⟩ g f mid b o hm hp (hB ex) hn P8 zF K (fun hx iD=>?_) (fun q d hx iD k Ny hk hr=>?_)
    ·have:=q0 (by rw[fT];exact hx) iD;simpa using this
    have:=q1 q d (by rw[fT];exact hx) iD (.bs k 0 q.ens.length 7) .ro [] (.inr ⟨k,[],rfl,Nm hk,by simpa[eD]using hr,rfl⟩) (GQ.bs Ny) Du.ro;simpa using this
   have DH:zh g f b o q d=Qbx g f b o q d:=by unfold zh;rw[ac k1]
   obtain⟨SV,hql,hqd⟩:=yw hp ho hq
   have hqe:q.ens.length=g.p.ens.length/\q.cls=g.p.cls:=by
    have fT:Ki g f b o=ru g f b o:=by unfold Ki;rw[ac k1]
    rw[fT]at hq;unfold ru at hq;split at hq
    ·cases hq
    split at hq
    ·cases hq
    cases hq;exact⟨zd,rfl⟩
   refine aB.mono (Lr Y ⟨mb++ex,ml++ls,ms,mn⟩ g f mid b o q V rt d hV aY hm (hB ex) fk ⟨SV.sh,SV.aM,by rw[hqe.1];exact hp.2.2.1,SV.bks,by rw[hqe.2];exact hp.2.2.2.2.1,SV.als⟩ zE hqd) ?_;rintro r m' ⟨rfl,rfl⟩;rw[<- DH];exact hK
  by_cases k2:o.ki=2
  ·refine⟨91,92,.inr (.inl ⟨k2,rfl,rfl⟩),fun ex K q0 q1=>?_,fun ex ls q d V rt K hq hV aY hK=>?_⟩
   ·have fT:Ki g f b o=(tU g o).map fun q=>(q,0):=by unfold Ki;rw[ab k1,ac k2]
    refine ZO Y ⟨mb++ex,ml,ms,mn⟩ g f mid o hm hp K (fun hx iD=>?_) (fun q hx iD k z Ny hk hr hz=>?_)
    ·have:=q0 (by rw[fT,hx];rfl) iD;simpa using this
    have:=q1 q 0 (by rw[fT,hx];rfl) iD (.bs k 0 q.ens.length 7) .ro [] (.inr ⟨k,z,rfl,Nm hk,Nm hr,hz⟩) (GQ.bs Ny) Du.ro;simpa using this
   have DH:zh g f b o q d=!(Dr g f b o.en):=by unfold zh;rw[ab k1,ac k2]
   refine aB.mono (GR Y ⟨mb++ex,ml++ls,ms,mn⟩ g f mid b o q V rt d hV hm (hB ex)) ?_;rintro r m' ⟨rfl,rfl⟩;rw[<- DH];exact hK
  by_cases k3:o.ki=3
  ·refine⟨93,94,.inr (.inr (.inl ⟨k3,rfl,rfl⟩)),fun ex K q0 q1=>?_,fun ex ls q d V rt K hq hV aY hK=>?_⟩
   ·have fT:Ki g f b o=some (nL g f b o,0):=by unfold Ki;rw[ab k1,ab k2,ac k3]
    refine LF Y ⟨mb++ex,ml,ms,mn⟩ g f mid b o hp (hB ex) ho K (fun iD V ls hV LJ=>?_);have:=q1 _ 0 fT iD V .ro ls (Nm hV) LJ Du.ro;simpa[nL]using this
   have DH:zh g f b o q d=pP g o:=by unfold zh;rw[ab k1,ab k2,ac k3]
   refine aB.mono (Lq Y ⟨mb++ex,ml++ls,ms,mn⟩ g f mid o q V rt d hV hm fk) ?_;rintro r m' ⟨rfl,rfl⟩;rw[<- DH];exact hK
  refine⟨87,88,.inr (.inr (.inr ⟨k1,k2,k3,rfl,rfl⟩)),fun ex K q0 q1=>?_,fun ex ls q d V rt K hq hV aY hK=>?_⟩
  ·have fT:Ki g f b o=some (Dv g o,0):=by unfold Ki;rw[ab k1,ab k2,ab k3]
   refine ZQ Y ⟨mb++ex,ml,ms,mn⟩ g f mid o hp K (fun iD V hV LJ=>?_);have:=q1 _ 0 fT iD V (.own ml.length 8) [g.p.cls.length+1] (by simpa[Dv]using hV) LJ (Du.own _ _);simpa using this
  have DH:zh g f b o q d=true:=by unfold zh;rw[ab k1,ab k2,ab k3]
  refine aB.mono (Lo Y ⟨mb++ex,ml++ls,ms,mn⟩ g f mid o q V rt d hV) ?_;rintro r m' ⟨rfl,rfl⟩;rw[<- DH];exact hK
 obtain⟨fb,fm,hk,kb,km⟩:=key;simp only[Qr,Qk,Qa,Qq,Qd,Qg,Qh,zzae,zzag]at kb km;refine Xo Tf (Hf (Ki g f b o)) zd ?_;obtain⟨k1,rfl,rfl⟩|⟨k1,rfl,rfl⟩|⟨k1,rfl,rfl⟩|⟨k1,k2,k3,rfl,rfl⟩:=hk
 ·simp[Pt,Pu,Qr,Qk,Qa,Qq,Qd,Qg,Qh,tH,k1,Hf];rw[k1]at kb km;refine kb _ _ (fun hbn iD=>?_) (fun q d jd iD V rt ls hV LJ aY=>?_)
  ·have h0:=fun ex=>h0 (by rw[e1,hbn]) ex [];simp[uR,zzap];simp[uR]at h0;exact h0 _
  have hc:=hV.cell;have gA:=fun ex ml d=>hV.bB ex ml ms mn d;have hE:=fun gD=>hV.ext gD;simp only[zzbg,zzae,zzag]at gA hE;have IM:=fun m d x=>aY m d x;obtain⟨SV,hql,hqd⟩:=yw hp ho jd;have kv:=Ws q SV.S;simp only[Qa]at kv;have km:=fun ex K hV hK=>km ex ls q d V rt K jd hV aY hK;simp only[Xr]at km;cases hpv:pe q with
  |false=>
   rw[hpv]at kv;have h0:=fun ex=>h0 (by rw[e1,jd];simp[hpv]) ex ls;simp[Xr,jd,hpv,zzap,hc,gA,IM];simp[uR]at h0;exact⟨kv,h0 _⟩
  |true=>
   rw[hpv]at kv;simp[Xr,jd,hpv,zzap,hc,gA,IM];refine⟨kv,km _ _ (hE _) ?_⟩;cases DH:zh g f b o q d with
   |false=>
    have h0:=fun ex=>h0 (by rw[e1,jd];simp[hpv,DH]) ex ls;simp[zzap];simp[uR]at h0;exact h0 _
   |true=>
    have h1:=fun ex hV hk=>h1 q d (by rw[e1,jd];simp[hpv,DH]) ex V rt ls hV hk aY;simp[zzap,hc];simp only[Xr]at h1;refine h1 _ ?_ (fun k o l s e=>by have:=LJ k o l s e;simp at this;omega);exact me.put (by simpa using hE []) (Nm LJ) _
 ·simp[Pt,Pu,Qr,Qk,Qa,Qq,Qd,Qg,Qh,tH,k1,Hf];rw[k1]at kb km;refine kb _ _ (fun hbn iD=>?_) (fun q d jd iD V rt ls hV LJ aY=>?_)
  ·have h0:=fun ex=>h0 (by rw[e1,hbn]) ex [];simp[uR,zzap];simp[uR]at h0;exact h0 _
  have hc:=hV.cell;have gA:=fun ex ml d=>hV.bB ex ml ms mn d;have hE:=fun gD=>hV.ext gD;simp only[zzbg,zzae,zzag]at gA hE;have IM:=fun m d x=>aY m d x;obtain⟨SV,hql,hqd⟩:=yw hp ho jd;have kv:=Ws q SV.S;simp only[Qa]at kv;have km:=fun ex K hV hK=>km ex ls q d V rt K jd hV aY hK;simp only[Xr]at km;cases hpv:pe q with
  |false=>
   rw[hpv]at kv;have h0:=fun ex=>h0 (by rw[e1,jd];simp[hpv]) ex ls;simp[Xr,jd,hpv,zzap,hc,gA,IM];simp[uR]at h0;exact⟨kv,h0 _⟩
  |true=>
   rw[hpv]at kv;simp[Xr,jd,hpv,zzap,hc,gA,IM];refine⟨kv,km _ _ (hE _) ?_⟩;cases DH:zh g f b o q d with
   |false=>
    have h0:=fun ex=>h0 (by rw[e1,jd];simp[hpv,DH]) ex ls;simp[zzap];simp[uR]at h0;exact h0 _
   |true=>
    have h1:=fun ex hV hk=>h1 q d (by rw[e1,jd];simp[hpv,DH]) ex V rt ls hV hk aY;simp[zzap,hc];simp only[Xr]at h1;refine h1 _ ?_ (fun k o l s e=>by have:=LJ k o l s e;simp at this;omega);exact me.put (by simpa using hE []) (Nm LJ) _
 ·simp[Pt,Pu,Qr,Qk,Qa,Qq,Qd,Qg,Qh,tH,k1,Hf];rw[k1]at kb km;refine kb _ _ (fun hbn iD=>?_) (fun q d jd iD V rt ls hV LJ aY=>?_)
  ·have h0:=fun ex=>h0 (by rw[e1,hbn]) ex [];simp[uR,zzap];simp[uR]at h0;exact h0 _
  have hc:=hV.cell;have gA:=fun ex ml d=>hV.bB ex ml ms mn d;have hE:=fun gD=>hV.ext gD;simp only[zzbg,zzae,zzag]at gA hE;have IM:=fun m d x=>aY m d x;obtain⟨SV,hql,hqd⟩:=yw hp ho jd;have kv:=Ws q SV.S;simp only[Qa]at kv;have km:=fun ex K hV hK=>km ex ls q d V rt K jd hV aY hK;simp only[Xr]at km;cases hpv:pe q with
  |false=>
   rw[hpv]at kv;have h0:=fun ex=>h0 (by rw[e1,jd];simp[hpv]) ex ls;simp[Xr,jd,hpv,zzap,hc,gA,IM];simp[uR]at h0;exact⟨kv,h0 _⟩
  |true=>
   rw[hpv]at kv;simp[Xr,jd,hpv,zzap,hc,gA,IM];refine⟨kv,km _ _ (hE _) ?_⟩;cases DH:zh g f b o q d with
   |false=>
    have h0:=fun ex=>h0 (by rw[e1,jd];simp[hpv,DH]) ex ls;simp[zzap];simp[uR]at h0;exact h0 _
   |true=>
    have h1:=fun ex hV hk=>h1 q d (by rw[e1,jd];simp[hpv,DH]) ex V rt ls hV hk aY;simp[zzap,hc];simp only[Xr]at h1;refine h1 _ ?_ (fun k o l s e=>by have:=LJ k o l s e;simp at this;omega);exact me.put (by simpa using hE []) (Nm LJ) _
 simp[Pt,Pu,Qr,Qk,Qa,Qq,Qd,Qg,Qh,tH,k1,k2,k3,Hf];refine kb _ _ (fun hbn iD=>?_) (fun q d jd iD V rt ls hV LJ aY=>?_)
 ·have h0:=fun ex=>h0 (by rw[e1,hbn]) ex [];simp[uR,zzap];simp[uR]at h0;exact h0 _
 have hc:=hV.cell;have gA:=fun ex ml d=>hV.bB ex ml ms mn d;have hE:=fun gD=>hV.ext gD;simp only[zzbg,zzae,zzag]at gA hE;have IM:=fun m d x=>aY m d x;obtain⟨SV,hql,hqd⟩:=yw hp ho jd;have kv:=Ws q SV.S;simp only[Qa]at kv;have km:=fun ex K hV hK=>km ex ls q d V rt K jd hV aY hK;simp only[Xr]at km;cases hpv:pe q with
 |false=>
  rw[hpv]at kv;have h0:=fun ex=>h0 (by rw[e1,jd];simp[hpv]) ex ls;simp[Xr,jd,hpv,zzap,hc,gA,IM];simp[uR]at h0;exact⟨kv,h0 _⟩
 |true=>
  rw[hpv]at kv;simp[Xr,jd,hpv,zzap,hc,gA,IM];refine⟨kv,km _ _ (hE _) ?_⟩;cases DH:zh g f b o q d with
  |false=>
   have h0:=fun ex=>h0 (by rw[e1,jd];simp[hpv,DH]) ex ls;simp[zzap];simp[uR]at h0;exact h0 _
  |true=>
   have h1:=fun ex hV hk=>h1 q d (by rw[e1,jd];simp[hpv,DH]) ex V rt ls hV hk aY;simp[zzap,hc];simp only[Xr]at h1;refine h1 _ ?_ (fun k o l s e=>by have:=LJ k o l s e;simp at this;omega);exact me.put (by simpa using hE []) (Nm LJ) _
def eG(c:P2):Prop:=c≠[]/\LB c
def RK{a:AV}(h:GO a=true):ck a:=by
 cases a<;>simp[GO]at h
 case bool b=>exact ck.bool b
 case int k n=>exact ck.int k n
 case str s=>exact ck.str s
 case sl rt rows=>
  refine ck.sl fun i s e=>?_;subst e;simp at h
 case nilfn=>exact fun w γ v h=>by cases h;exact .nilfn
 case ep row o=>
  intro w γ v h;cases h with
  |ep cv hb hc h=>exact .ep cv hb hc h
def eG.of{c:P2}(h0:c≠[])(h:Zl c=true):eG c:=by
 refine⟨h0,fun a ha=>⟨RK (zzax.1 h a ha),fun kn kvs e=>?_⟩⟩;have:=zzax.1 h a ha;subst e;simp[GO]at this
def eG.snoc{l:T5}{c:P2}(h:∀x∈l,eG x)(hc:eG c):∀x∈l++[c],eG x:=fun x hx=>by
 rcases zzaj.1 hx with hx|hx
 ·exact h x hx
 rw[zzbx.1 hx];exact hc
theorem DI(e:aW):Zl (Qf e)=true:=rfl
theorem aad(g:Pg):Zl (Qk g)=true:=rfl
def eG.mo(g:Pg)(f:Int)(mid:Nat):eG (Qr g f mid):=by
 refine⟨by simp[Qr],fun a ha=>?_⟩;rcases zzaj.1 ha with ha|ha
 ·exact(eG.of (c:=Qk g) (by simp[Qk,Qa]) (aad g)).2 a ha
 simp only[zzao,zzdo,or_false]at ha;obtain rfl|rfl:=ha
 ·exact⟨ck.int _ _,fun _ _ h=>by cases h⟩
 exact⟨ck.mp _,fun _ _ h=>by cases h⟩
def eG.map(b:QR):eG [.aJ 0 (bG .bool b)]:=by
 refine⟨zd,fun a ha=>?_⟩;rw[zzbx.1 ha];refine⟨ck.aJ _ _,fun kn kvs h p hp=>?_⟩;cases h;simp only[bG,zzan]at hp;obtain⟨x,_,rfl⟩:=hp;exact ck.bool _
def am0(g:Pg)(fr:Int)(mb:T5)(ml:Pa)(ms:Nat->LS)(mn:Nat)(f:Nat->AV)(m:AM):Prop:=
 ∃(i:Nat)(b:QR)(bx:T5),(∀c∈bx,eG c)/\f 16=I i/\i<=g.ev.length/\Xd fr (g.ev.drop i) b=Xd fr g.ev []/\b.length<=i/\
  m=⟨mb++(Qk g::Em::[.aJ 0 (bG .bool b)]::Qr g fr (mb.length+2)::bx),ml,ms,mn⟩
def Bw(Y:YT)(m:AM)(g:Pg)(fr:Int)(hl:g.ev.length<=1000000)(K:So)
  (hK:∀ex mid,(∀c∈ex,eG c)->m.boxes.length<=mid->fN (m.boxes++ex) mid (Xd fr g.ev [])->K (.agg (Qr g fr mid)) {m with boxes:=m.boxes++ex}):
  aB Tryz.prog aD Y 43 [.agg (Qk g),I fr] m K:=by
 obtain⟨mb,ml,ms,mn⟩:=m;refine Xo Te (fun _ _ _=>.junk) zd ?_;simp[aki,Qk,Qa];refine Qj lF (am0 g fr mb ml ms mn) (fun f _=>g.ev.length-(numOf (f 16)).toNat) ?_ ?_
 ·exact⟨0,[],[],(fun c h=>by cases h),zd,zE,zd,zd,by simp[Qk,Qa,Qr,Em]⟩
 rintro f m ⟨i,b,bx,hbx,KI,hi,hb,fT,rfl⟩;rcases zzaa i g.ev.length with ah|bu
 ·obtain⟨e,he⟩:=aV ah;have ai:Qi (g.ev.map Qf) i=Qf e:=Qw (by simp[he]);have aa:(i:Int)<(g.ev.length:Int):=zE
  have hw:=bO i zE;have hd:g.ev.drop i=e::g.ev.drop (i+1):=by rw[zzai ah,(zza.1 he).2]
  rw[hd,Xd]at hb;by_cases hs:e.st<fr
  ·rw[ac hs]at hb;have fM:=rz e.id true b;rcases Xx AV.bool e.id b 0 with⟨b1,b2,b3,b4⟩|⟨u,n,b1,b2,b3,b4,b5,b6⟩
   ·simp[KI,lF,aa,ai,hw,Qf,Qk,Qa,Qr,Em,hs,b2];refine⟨aQ,⟨i+1,Vj e.id true b,bx++[Qf e],eG.snoc hbx (eG.of (by simp[Qf]) (DI e)),zd,zE,hb,zE,by simp[Qk,Qa,Qr,Em,Qf,b4]⟩,zE⟩
   simp[KI,lF,aa,ai,hw,Qf,Qk,Qa,Qr,Em,hs,b2];refine⟨aQ,⟨i+1,Vj e.id true b,bx++[Qf e],eG.snoc hbx (eG.of (by simp[Qf]) (DI e)),zd,zE,hb,zE,by simp[Qk,Qa,Qr,Em,Qf,b6]⟩,zE⟩
  rw[ab hs]at hb;simp[KI,lF,aa,ai,hw,Qf,Qk,Qa,Qr,Em,hs];refine⟨aQ,⟨i+1,b,bx++[Qf e],eG.snoc hbx (eG.of (by simp[Qf]) (DI e)),zd,zE,hb,zE,by simp[Qk,Qa,Qr,Em,Qf]⟩,zE⟩
 obtain rfl:i=g.ev.length:=zE
 rw[zzc,Xd]at hb;subst hb;simp[KI,lF,akj,Qk,Qa,Qr,Em];refine hK _ (mb.length+2) ?_ zd ⟨zd,zd⟩;intro c hc;simp only[zzao]at hc;obtain rfl|rfl|rfl|rfl|hc:=hc
 ·exact eG.of zd (by simp[Zl])
 ·exact eG.mo g fr _
 ·exact eG.map _
 ·exact eG.mo g fr _
 exact hbx c hc
section
variable {n:Nat} {m':AM}
def RL(n:Nat)(m':AM):P2->P2->Prop
 |[],[]=>True
 |a::xs,b::ys=>dH n m' a b/\RL n m' xs ys
 |_,_=>False
def RL.both:∀{xs ys:P2},RL n m' xs ys->xs.length=ys.length/\∀(i:Nat)(c d:AV),xs[i]?=some c->ys[i]?=some d->dH n m' c d
 |[],[],_=>⟨rfl,fun i c d h=>by simp at h⟩
 |[],_::_,h=>h.elim
 |_::_,[],h=>h.elim
 |a::xs,b::ys,h=>by
  obtain⟨h1,h2⟩:=RL.both h.2;refine⟨by simp[h1],fun i c d q1 q2=>?_⟩;cases i with
  |zero=>cases q1;cases q2;exact h.1
  |succ i=>exact h2 i c d (Nm q1) (Nm q2)
def Hg{xs ys:P2}(h:RL n m' xs ys):dH n m' (.agg xs) (.agg ys):=dH.agg h.both.1 h.both.2
def Hh{xs ys:P2}(h:RL n m' xs ys):dH n m' (.aS xs) (.aS ys):=dH.aS h.both.1 h.both.2
def afP(k sz:Nat):dH n m' (.bs k 0 0 sz) (.sl .ro []):=fun N w0 an γ' γ2 w' v hm hr h1 h2=>by
 obtain⟨b,cap,arr,y7,hβ,rfl,hlc,hh,hs⟩:=hr.cL;exact aA.sl (w:=w') (γ:=γ2) (rt:=.ro) (rows:=[]) b 0 sz (fun _ _=>undef) (zzbv _) (fun h=>by cases h) (fun h=>absurd rfl h) (fun _ h=>by cases h) (fun i j c h=>by simp[Qu]at h) (fun i j c h=>by simp[Qu]at h) trivial
def me.frz{V:AV}{l:List En}(h:me m'.boxes V l)(hk:GQ n V):dH n m' V (.sl .ro (l.map Qd)):=by
 obtain⟨rt,rfl,_⟩|⟨k,z,rfl,h2,h3,h4⟩:=h
 ·exact dH.sl _ _
 cases l with
 |nil=>exact afP _ _
 |cons a r=>
  have bV:Zl (eD (a::r)++z)=true:=by
   have:=Ll (a::r);unfold Zl at this h4 |-
   rw[zzfm,this,h4];rfl
  have:=dH.bs (sz:=7) (len:=(a::r).length) (hk _ _ _ _ rfl) (Ke h2 h3) (by simp[eD,Qd]) bV (by rw[zzal,Jc];omega);rw[nJ]at this;exact this
end
def RM:P2:=[I 0,I 0,I 0,I 0,.sl .ro [],I 0,I 0,I 0,I 0,.sl .ro [],.sl .ro [],.sl .ro [],.sl .ro [],I 0]
def zZ(x:Option (Pl×Int)):AV:=match x with
 |none=>.aS [.agg RM,.bool false]
 |some (q,d)=>.aS [.agg (Qa q++[I d]),.bool true]
def OA(Y:YT)(m:AM)(g:Pg)(f:Int)(mid:Nat)(b:QR)(o:Od)(h:aac g f o)(hb:fN m.boxes mid b)(hB:∀c∈m.boxes,eG c):
  aB Tryz.prog aD Y 44 [.agg (Qr g f mid),.agg (Qq o)] m (fun r m'=>m'=m/\r=zZ (Jk g f b o)):=by
 refine aB.freeze (fun c hc=>(hB c hc).1) (fun c hc=>(hB c hc).2) (LI Y m g f mid b o h hb _ (fun hx ex ls=>?_) (fun q d hx ex V rt ls hV hk aY=>?_))
 ·refine⟨ex,ls,_,rfl,?_,rfl⟩;rw[hx];refine Hh ⟨Hg ?_,dH.bool _,trivial⟩;unfold uR RM;refine⟨dH.int _ _,dH.int _ _,dH.int _ _,dH.int _ _,dH.sl _ _,dH.int _ _,dH.int _ _,dH.int _ _,dH.int _ _,dH.sl _ _,dH.sl _ _,dH.sl _ _,dH.sl _ _,dH.int _ _,trivial⟩
 refine⟨ex,ls,_,rfl,?_,rfl⟩;rw[hx];refine Hh ⟨Hg ?_,dH.bool _,trivial⟩;unfold Xr Qa;simp only[zzae,zzag];exact⟨dH.int _ _,dH.int _ _,dH.int _ _,dH.int _ _,dH.sl _ _,dH.int _ _,dH.int _ _,dH.int _ _,dH.int _ _,dH.sl _ _,me.frz hV hk,dH.sl _ _,dH.sl _ _,dH.int _ _,trivial⟩
def OB(Y:YT)(m:AM)(g:Pg)(f:Int)(mid:Nat)(b:QR)(o:Od)(h:aac g f o)(hb:fN m.boxes mid b)(hB:∀c∈m.boxes,eG c)(K:So)(hK:K (zZ (Jk g f b o)) m):
  aB Tryz.prog aD Y 44 [.agg (Qr g f mid),.agg (Qq o)] m K:=
 aB.mono (OA Y m g f mid b o h hb hB) (by rintro r m' ⟨rfl,rfl⟩;exact hK)
