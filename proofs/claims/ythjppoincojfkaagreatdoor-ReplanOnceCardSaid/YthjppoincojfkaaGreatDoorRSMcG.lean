import Derived.Test.YthjppoincojfkaaGreatDoorRSMbN
set_option linter.all false
set_option maxRecDepth 100000
set_option maxHeartbeats 64000000
namespace Go.Abs
open Go Go.RowKit
section
variable {N:Nat} {w0:eR} {an:Nat->Nat->Prop} {γ γ':G} {w w':World} {P:Program} {gl:Nat->AV} {Y:YT}
def Rx(m':AM)(γ':G)(n:Nat)(b:Nat):Prop:=∃id,n<=id/\m'.boxes[id]?≠some []/\γ'.β id=some b
def dO(n:Nat)(m':AM)(r r':AV):Prop:=∀(N:Nat)(w0:eR)(an:Nat->Nat->Prop)(γ' γ2:G)(w':World)(v:Value),au N w0 an γ' w' m'.B m'.L->aA w' γ' r v->
 (∀b o,γ'.ro b o->γ2.ro b o)->(∀b,Rx m' γ' n b->∀o,γ2.ro b o)->aA w' γ2 r' v
def G.frz(γ1 γ':G)(m':AM)(n:Nat):G:={γ1 with ro:=fun b o=>γ1.ro b o\/Rx m' γ' n b}
def aB.freeze{f:FuncId}{ags:P2}{m:AM}{K:AV->Prop}(aO:∀c∈m.boxes,c≠[])(iI:∀c∈m.boxes,LA c)
  (h:aB P gl Y f ags m fun r m'=>∃ex exl r',m'={m with boxes:=m.boxes++ex,lens:=m.lens++exl}/\dO m.boxes.length m' r r'/\K r'):aB P gl Y f ags m fun r m'=>m'=m/\K r:=by
 refine⟨h.1,fun N w0 an γ w vs hm hl hg hy hr=>CallsIn.mono (h.2 N w0 an γ w vs hm hl hg hy hr) ?_⟩;rintro en w' ⟨v,γ',r,m',rfl,g1,g2,g3,g4,ex,exl,r',rfl,g5,g6⟩;have e1:=g1.dh hm
 have m1:au N w0 an (γ.dh m.lens.length γ') w' m.B m.L:=hm.dh (m1:=m) (mx:=m.boxes) (ex:=ex) (exl:=exl) g2 g1 rfl rfl rfl fun id cells ck h1 h2=>by
  rw[h1]at h2;cases h2;exact .inl ⟨rfl,h1,iI _ (zzad h1)⟩
 obtain⟨γ1,hγ1⟩:∃γ1,γ1=γ.dh m.lens.length γ':=⟨_,rfl⟩;obtain⟨m',fI⟩:∃m':AM,m'={m with boxes:=m.boxes++ex,lens:=m.lens++exl}:=⟨_,rfl⟩;rw[<- fI]at g2 g3 g5;rw[<- hγ1]at e1 m1
 have hβ:∀{id b},γ1.β id=some b->id<m.boxes.length/\γ'.β id=some b:=fun{id b}h=>by
  rw[hγ1]at h;obtain⟨h1,h2⟩:=Yr h;obtain⟨b0,dZ⟩:=zzbz.1 h1;obtain⟨_,_,_,_,c,hc⟩:=hm.β id b0 dZ;exact⟨(zza.1 hc).1,h2⟩
 have cr:∀{id b},γ1.own id=some b->γ'.own id=some b:=fun{id b}h=>by
  rw[hγ1]at h;have h:(if id<m.lens.length then γ'.own id else none)=some b:=h;split at h
  ·exact h
  cases h
 have cW:γ1.sp=γ'.sp:=by rw[hγ1];rfl
 have hlp:γ1.lp=γ'.lp:=by rw[hγ1];rfl
 have gi:γ1.ro=γ'.ro:=by rw[hγ1];rfl
 have gR:∀{id b},γ1.mm id=some b->γ'.mm id=some b:=fun{id b}h=>by rw[hγ1]at h;exact(Qba h).2
 have nβ:∀{b},Rx m' γ' m.boxes.length b->∀id,γ1.β id≠some b:=fun{b}⟨j,j1,j2,j3⟩id h=>by
  obtain⟨h1,h2⟩:=hβ h
  have hB:m'.B id=some (m.boxes[id]):=by
   rw[fI];show(m.boxes++ex)[id]?=_;rw[zzaj h1,zzaf h1]
  rcases g2.inj id j b h2 j3 with k|k|k
  ·rw[hB]at k;exact aO _ (zzdj h1) (Option.some.inj k)
  ·exact j2 k
  omega
 have axV:∀{b},Rx m' γ' m.boxes.length b->∀id,γ'.own id≠some b:=fun{b}⟨j,j1,j2,j3⟩id=>(g2.β j b j3).2.2.2.1 id;have nsp:∀{b},Rx m' γ' m.boxes.length b->¬γ'.sp b:=fun{b}⟨j,j1,j2,j3⟩h=>(g2.sp b h).2.2.2.1 j j3;have nmm:∀{b},Rx m' γ' m.boxes.length b->∀id,γ'.mm id≠some b:=fun{b}⟨j,j1,j2,j3⟩id h=>(g2.mm id b h).2.2.2.1 j j3
 have ev:Ev w' γ1 w' (γ1.frz γ' m' m.boxes.length):=
  ⟨zzab _,fun _ _ _ h=>⟨.inl h,rfl⟩,fun _ _ h=>h,fun _=>zzab _,fun _ _ h=>h,rfl,
   fun id b _ h=>⟨h,fun arr _ h=>⟨arr,h,zzab _⟩,fun o h'=>h'.elim (fun x=>x) (fun hn=>absurd (cr h) (axV hn id))⟩,fun _ h=>⟨h,rfl⟩,Sz.refl _⟩
 refine⟨v,γ1.frz γ' m' m.boxes.length,r',m,rfl,e1.trans ev.cH,?_,?_,?_,rfl,g6⟩
 ·exact{
   bs:=w0.st _ _ _ _ g2.bs ⟨rfl,rfl,rfl,zzab _,fun _ _ _=>rfl,fun b o _ h=>⟨.inl (by rw[gi];exact h),rfl⟩,fun b hb=>.inl (by
     obtain⟨i,hi⟩|⟨i,hi⟩|hb|⟨i,hi⟩:=hb
     ·exact .inl ⟨i,(hβ hi).2⟩
     ·exact .inr (.inl ⟨i,cr hi⟩)
     ·exact .inr (.inr (.inl (by rw[<- cW];exact hb)))
     ·exact .inr (.inr (.inr ⟨i,gR hi⟩))),fun b o h=>by
     obtain h|⟨j,j1,j2,j3⟩:=h
     ·exact .inl (by rw[<- gi];exact h)
     exact .inr (.inl (.inl ⟨j,j3⟩))⟩
   hN:=m1.hN
   an:=fun b o h=>by
    obtain h|⟨j,j1,j2,j3⟩:=h
    ·exact m1.an b o h
    exact .inr (g2.β j b j3).1
   robd:=fun b o h=>by
    obtain h|⟨j,j1,j2,j3⟩:=h
    ·exact m1.robd b o h
    exact(g2.β j b j3).2.1
   box:=fun id cells b hb h1=>by
    obtain⟨arr,e,h2,h3,h4⟩:=m1.box id cells b hb h1;exact⟨arr,e,h2,h3.mono ev,h4⟩
   β:=fun id b hb=>by
    obtain⟨h1,h2,h3,h4,h5⟩:=m1.β id b hb;exact⟨h1,h2,fun o h=>h.elim (h3 o) (fun hn=>nβ hn id hb),h4,h5⟩
   inj:=m1.inj
   own:=m1.own
   oinj:=m1.oinj
   sp:=fun b hb=>by
    obtain⟨h1,h2,h3,h4⟩:=m1.sp b hb;exact⟨h1,h2,fun o h=>h.elim (h3 o) (fun hn=>nsp hn (by rw[<- cW];exact hb)),h4⟩
   mm:=fun id b hb=>by
    obtain⟨h1,h2,h3,h4,h5,h6,h8,h7⟩:=m1.mm id b hb;exact⟨h1,h2,fun o h=>h.elim (h3 o) (fun hn=>nmm hn id (gR hb)),h4,h5,h6,h8,h7.mono ev.cH.AB rfl⟩
   minj:=m1.minj
   len:=m1.len
   cur0:=m1.cur0}
 ·have g3':cS γ1 w' m:=by
   rw[fI]at g3;unfold cS at g3 |-
   rw[hlp,cW];exact g3
  exact g3'.mono ev
 exact g5 N w0 an γ' _ w' v g2 g4 (fun b o h=>.inl (by rw[gi];exact h)) fun b hb o=>.inr hb
variable {n:Nat} {m':AM}
def dO.bool(b:Bool):dO n m' (.bool b) (.bool b):=fun _ _ _ _ _ _ _ _ h _ _=>by rw[h.bw];exact .bool b
def dO.int(k:IntKind)(z:Int):dO n m' (.int k z) (.int k z):=fun _ _ _ _ _ _ _ _ h _ _=>by rw[h.aI];exact .int k z
def dO.agg{cs ds:P2}(hl:cs.length=ds.length)(h:∀(i:Nat)(c d:AV),cs[i]?=some c->ds[i]?=some d->dO n m' c d):dO n m' (.agg cs) (.agg ds):=fun N w0 an γ' γ2 w' v hm hr h1 h2=>by
 cases hr with
 |@agg _ _ arr kl k=>
  refine .agg zE fun i d u hd hu=>?_;have hi:i<cs.length:=by have:=(zza.1 hd).1;omega
  exact h i cs[i] d (zzaf hi) hd N w0 an γ' γ2 w' u hm (k i cs[i] u (zzaf hi) hu) h1 h2
def dO.aS{cs ds:P2}(hl:cs.length=ds.length)(h:∀(i:Nat)(c d:AV),cs[i]?=some c->ds[i]?=some d->dO n m' c d):dO n m' (.aS cs) (.aS ds):=fun N w0 an γ' γ2 w' v hm hr h1 h2=>by
 cases hr with
 |@aS _ _ arr kl k=>
  refine .aS zE fun i d u hd hu=>?_;have hi:i<cs.length:=by have:=(zza.1 hd).1;omega
  exact h i cs[i] d (zzaf hi) hd N w0 an γ' γ2 w' u hm (k i cs[i] u (zzaf hi) hu) h1 h2
def ZV{γ' γ2:G}{w':World}(h1:∀b o,γ'.ro b o->γ2.ro b o){a:AV}{v:Value}(h:aA w' γ'.cU a v):aA w' γ2.cU a v:=
 h.mono ⟨zzab _,fun b o _ h=>⟨h1 b o h,rfl⟩,fun _ _ h=>(by cases h),fun _=>zzab _,fun _ _ h=>(by cases h),rfl,fun _ _ _ h=>(by cases h),fun _ h=>h.elim,Sz.refl w'⟩
def dO.sl(rt:Rt)(rows:T5):dO n m' (.sl rt rows) (.sl .ro rows):=fun N w0 an γ' γ2 w' v hm hr h1 h2=>by
 cases hr with
 |sl b off sz cv hcap hnil ha hsz hc h aX=>
  exact .sl b off sz cv hcap hnil ha hsz (fun i j c q=>⟨(hc i j c q).1,h1 _ _ (hc i j c q).2.1,(hc i j c q).2.2⟩) (fun i j c q=>ZV h1 (h i j c q)) trivial
def dO.bs{k len sz:Nat}{cells:P2}(hn:n<=k)(hk:m'.boxes[k]?=some cells)(aO:cells≠[])(bV:Zl cells=true)(hl:len*sz<=cells.length):dO n m' (.bs k 0 len sz) (.sl .ro (aY sz len cells)):=fun N w0 an γ' γ2 w' v hm hr h1 h2=>by
 obtain⟨b,cap,arr,zj,hβ,rfl,hlc,hh,hs⟩:=hr.cN;obtain⟨bN,e',q2,q3,q4⟩:=hm.box k cells b hk hβ;rw[hh]at q2;cases q2;have hsz:=q3.1;simp only[zzbi]at hsz;have aH:(aY sz len cells).length=len:=by rw[Qad];simp
 have ee:∀row∈aY sz len cells,row.length=sz:=fun row ai=>by
  rw[Qad]at ai;simp only[zzav,zzaw]at ai;obtain⟨i,hi,rfl⟩:=ai;have:(i+1)*sz<=len*sz:=zzbd _ hi;rw[zzbr,zzdu]at this;simp only[zzaq,zzcw];omega
 have ot:∀(i j:Nat)(c:AV),Qv (aY sz len cells) i j=some c->∃u,cells[i*sz+j]?=some c/\arr[i*sz+j]?=some u/\arr.getD (i*sz+j) undef=u/\aA w' γ' c u:=fun i j c h=>by
  rw[Qad]at h;unfold Qv at h;rcases zzaa i len with hi|hi
  ·rw[zzbm,zzej hi]at h;simp only[zzct,zzcv]at h;rw[zzbj]at h;split at h
   ·rw[zzbl]at h;have ah:=(zza.1 h).1;exact⟨arr[i*sz+j],h,zzah zE,by simp[show i*sz+j<arr.size by omega],q3.2 _ _ _ h (by simp[show i*sz+j<arr.size by omega])⟩
   cases h
  rw[zzbm,zzat (Nm hi)]at h;cases h
 have hB:∀id cells,m'.boxes[id]?=some cells->m'.B id=some cells:=fun _ _ h=>h;have axW:∀o,γ2.ro b o:=h2 b ⟨k,hn,by rw[hk];intro h;exact aO (Option.some.inj h),hβ⟩
 have:=aA.sl (w:=w') (γ:=γ2) (rt:=.ro) (rows:=aY sz len cells) (a:=some ⟨b,0,none⟩) (cap:=cap) b 0 sz (fun i j=>arr.getD (i*sz+j) undef) (by rw[aH];exact hlc) (fun h=>by cases h) (fun _=>⟨rfl,aR hh⟩) ee
  (
   fun i j c h=>by
   obtain⟨u,c1,c2,c3,c4⟩:=ot i j c h;rw[zzbs,aM hh,c2,c3];exact⟨rfl,axW _,q4 u (by rw[<- c3];simp[show i*sz+j<arr.size from(zzbw.1 c2).1])⟩)
  (
   fun i j c h=>by
   obtain⟨u,c1,c2,c3,c4⟩:=ot i j c h;rw[c3];have fA:GP c=true:=zzay.1 bV c (zzad c1);have:=kH hm (m:=m') hB (ro':=γ2.ro) h1 1 c u c4 (fun hp=>by cases c<;>simp_all[GP,Vf]);rw[Oq m' 0 fA]at this;exact this) trivial
 rw[aH]at this;exact this
end
end Go.Abs
namespace Go.Proofs.YthjppoincojfkaaGreatDoor
noncomputable section
open Go Go.Abs
def Ab(x:Int):Pi->Nat->Int
 |[],_=> -1
 |a::r,i=>if x=a then i else Ab x r (i+1)
def G5(x:Int):∀(L:Pi)(i:Nat),(0<=Ab x L i)=(x∈L)
 |[],i=>by simp[Ab]
 |a::r,i=>by
  unfold Ab;by_cases h:x=a
  ·rw[if_pos h];simp[h]
  rw[if_neg h,G5 x r (i+1)];simp[h]
def ZW(L:Pi)(x:Int)(hl:L.length<=1000000000):Pure Tryz.prog aD 162 [.sl .ro (L.map Qy),I x] (I (Ab x L 0)):=by
 refine Qp acG (fun _ _ _=>.junk) zd ?_;simp[ag6];refine Qi Ce (fun f m=>∃i:Nat,f 8=I i/\i<=L.length/\Ab x (L.drop i) i=Ab x L 0/\m=⟨[],[],fun _=>.gone,0⟩) (fun f _=>L.length-(numOf (f 8)).toNat) ?_ ?_
 ·exact⟨0,zd,zE,zd,rfl⟩
 rintro f m ⟨i,f8,hi,hr,rfl⟩;rcases zzaa i L.length with ah|bq
 ·obtain⟨a,ha⟩:=aV ah;have ai:Qh (L.map Qy) i=[I a]:=Qu (by simp[ha,Qy]);have aa:(i:Int)<(L.length:Int):=zE
  have hw:=bO i zE;have hd:L.drop i=a::L.drop (i+1):=by rw[zzag ah,(zza.1 ha).2]
  rw[hd,Ab]at hr;by_cases hP:x=a
  ·rw[if_pos hP]at hr;simp[f8,Ce,T6,aa,ai,hP];rw[<- hP];exact hr
  rw[if_neg hP]at hr;simp[f8,Ce,aa,ai,hP,hw];refine⟨aQ,⟨i+1,zd,zE,hr⟩,zE⟩
 obtain rfl:i=L.length:=zE
 rw[zzbt,Ab]at hr;simp[f8,Ce,T6];exact hr
def jY(L:Pi)(x:Int)(hl:L.length<=1000000000):Pure Tryz.prog aD 107 [.sl .ro (L.map Qy),I x] (.bool (decide (x∈L))):=by
 have k:=ZW L x hl;refine Qp abT (fun _ _ _=>I (Ab x L 0)) zd ?_;simp[agt,agu];refine⟨k,?_⟩;simp[<- G5 x L 0]
def DG(e:bn)(id:Int):Pure Tryz.prog aD 152 [.agg (Qf e),.ep [I id] 0] (.bool (decide (e.id=id))):=by
 refine Qp acz (fun _ _ _=>.junk) zd ?_;simp[ag2,ag3,Qf];rw[zzda];simp
def LB(g:Pg)(id:Int):Bool:=(g.ev.find? (fun e=>decide (e.id=id))).isSome
def DH(L:List bn)(id:Int)(hl:L.length<=1000000000):Pure Tryz.prog aD 151 [.sl .ro (L.map Qf),.fn 152 [] [.ep [I id] 0]] (.bool (L.find? (fun e=>decide (e.id=id))).isSome):=by
 have k:=yo L (fun e=>decide (e.id=id)) 152 [] [.ep [I id] 0] hl (fun _=>rfl) (fun _=>zd) (fun e _=>DG e id) (fun _ _ xs=>match xs with|.agg (.int _ n::_)::_=>.bool (decide (n=id))|_=>.junk) (fun _ e _=>rfl);refine Qp acy (fun _ _ _=>I (Ur (fun e=>decide (e.id=id)) L 0)) zd ?_;cases hf:L.find? (fun e=>decide (e.id=id))with
 |none=>
  rw[Qdh hf]at k |-
  simp[TZ,T1];exact k
 |some e=>
  obtain⟨n,g1,_,_⟩:=Wm (i:=0) hf;rw[g1,zzbs]at k |-
  simp[TZ,T1];exact k
def p8(g:Pg)(o:Od):Bool:=!LB g o.nw.id&&(decide (Je g o.nw.id<0)&&!decide (o.nw.id∈g.dr))
def LC(Y:YT)(m:AM)(g:Pg)(f:Int)(mid:Nat)(o:Od)(q:Pl)(V:AV)(rt:Rt)(d:Int)(hV:mC m.boxes V q.ens)(h:lQ g f)(hd:g.dr.length<=1000000000):
  aB Tryz.prog aD Y 94 [.agg (Qr g f mid),.agg (Qq o),.agg (Xp q V (.sl rt (q.cls.map Qg)) d)] m (fun r m'=>m'=m/\r=.bool (p8 g o)):=by
 obtain⟨mb,ml,ms,mn⟩:=m;have hc:=hV.cell;have k:=fun ex K hK=>Ln Y ⟨mb++ex,ml,ms,mn⟩ g f mid o.nw.id h K hK;simp only[Qr,Qj,Qa,zzae,zzai]at k;have k1:=DH g.ev o.nw.id h.1;have k2:=jY g.dr o.nw.id hd;refine aB.read (Xl akR (fun _ f _=>if f=151 then .bool (LB g o.nw.id)else if f=107 then .bool (decide (o.nw.id∈g.dr))else .gd false .junk) zd ?_);cases hh:LB g o.nw.id with
 |true=>
  unfold LB at hh;rw[hh]at k1;simp[akP,akQ,Qr,Qj,Qa,Qq,Qd,Qg,Qk,Xp,hc,p8,LB,hh];exact⟨k1,nP⟩
 |false=>
  unfold LB at hh;rw[hh]at k1;simp[akP,akQ,Qr,Qj,Qa,Qq,Qd,Qg,Qk,Xp,hc,p8,LB,hh];refine⟨k1,k _ _ ?_⟩;by_cases hp:Je g o.nw.id<0
  ·simp[hp];exact⟨k2,nP⟩
  simp[hp];exact nP
end
end Go.Proofs.YthjppoincojfkaaGreatDoor
namespace Go.Proofs.YthjppoincojfkaaGreatDoor
noncomputable section
open Go Go.Abs
def u7:En:=⟨0,0,0,0,0,0,[]⟩
def Qce(g:Pg)(f:Int)(b:QR)(o:Od)(q:Pl)(d:Int):Bool:=
 if Dv g f b o.en=true then false
 else if o.en∈g.dr then false
 else if d<1 then false
 else match Xj ((Xw o.en q.ens).getD u7).it q.aN with
  |none=>false
  |some x=>if x.ki≠4 then false
   else match Bu g f b o.en with
    |none=>true
    |some st=>if q.ln-d<st then false else if st+d-f=0 then true else Xt q ((Xw o.en q.ens).getD u7).it 0 f (st+d-f)
def G6(g:Pg)(F:Int)(b:QR)(o:Od)(q:Pl)(d:Int):UV:=fun _ f _=>if f=107 then .bool (decide (o.en∈g.dr))else if f=18 then .bool (Xt q ((Xw o.en q.ens).getD u7).it 0 F ((Bu g F b o.en).getD 0+d-F))else .gd false .junk
def Ry(Y:YT)(m:AM)(q:Pl)(V:AV)(rt:Rt)(id:Int)(hc:Qx V=true)(hl:q.aN.length<=1000000000):
  aB Tryz.prog aD Y 17 [.agg (Jf q V (.sl rt (q.cls.map Qg))),I id] m (fun r m'=>m'=m/\r=Zq (Xj id q.aN)):=by
 obtain⟨mb,ml,ms,mn⟩:=m;have h:=xE q.aN id hl;refine aB.read (Xl S3 (fun _ f l=>if f=36 then Zq (Xj id q.aN)else .junk) zd ?_);cases hf:Xj id q.aN with
 |none=>
  rw[hf]at h;simp[S1,S2,Jf,hc,Zq];exact⟨h,nP⟩
 |some x=>
  rw[hf]at h;simp[S1,S2,Jf,hc,Zq,Qm];exact⟨h,nP⟩
def amE(Y:YT)(m:AM)(q:Pl)(V:AV)(rt:Rt)(id:Int)(hc:Qx V=true)(hl:q.aN.length<=1000000000)(K:So)(hK:K (Zq (Xj id q.aN)) m):
  aB Tryz.prog aD Y 17 [.agg (Jf q V (.sl rt (q.cls.map Qg))),I id] m K:=
 aB.mono (Ry Y m q V rt id hc hl) (by rintro r m' ⟨rfl,rfl⟩;exact hK)
def rtE:Option En->Rt
 |none=>.nil
 |some _=>.ro
def G7(o:Option En):sN o=.aS [.agg [I (o.getD u7).id,I (o.getD u7).it,I (o.getD u7).fr,I (o.getD u7).ea,I (o.getD u7).la,I (o.getD u7).bo,.sl (rtE o) ((o.getD u7).al.map Qe)],.bool o.isSome]:=by
 cases o<;>rfl
def LD(Y:YT)(m:AM)(g:Pg)(f:Int)(mid:Nat)(b:QR)(o:Od)(q:Pl)(V:AV)(rt:Rt)(d:Int)(hV:mC m.boxes V q.ens)(aX:Dy rt)(h:lQ g f)(hb:fP m.boxes mid b)(ei:g.dr.length<=1000000000)(hq:Br q)(dA:0<=q.ln/\q.ln<=1000000)(hd:tf d):
  aB Tryz.prog aD Y 90 [.agg (Qr g f mid),.agg (Qq o),.agg (Xp q V (.sl rt (q.cls.map Qg)) d)] m (fun r m'=>m'=m/\r=.bool (Qce g f b o q d)):=by
 obtain⟨mb,ml,ms,mn⟩:=m;obtain⟨q1,q2,q3,q4,q5,q6⟩:=hq;have hc:=hV.cell;have hB:∀ex,fP (mb++ex) mid b:=fun ex=>⟨by have:=hb.1;simp at this |-;omega,hb.ext ex⟩;have ke:=fun ex K hK=>asn Y ⟨mb++ex,ml,ms,mn⟩ g f mid b o.en h (hB ex) K hK;have ki:=fun ex K hK=>al1 Y ⟨mb++ex,ml,ms,mn⟩ g f mid b o.en h (hB ex) K hK;have kn:=fun ex K hK=>Oo Y ⟨mb++ex,ml,ms,mn⟩ q V rt o.en (hV.ext ex) zE q6 K hK;simp only[Qr,Qj,Qa,Jf,zzae,zzai]at ke ki kn;have k2:=jY g.dr o.en ei;have gE:=fun ex d=>hV.bA ex ml ms mn d;refine aB.read (Xl akJ (G6 g f b o q d) zd ?_);cases he:Dv g f b o.en with
 |true=>
  simp[Tx,Ty,Qr,Qj,Qa,Qq,Qd,Qg,Qk,Xp,hc,Qce,he,G6];refine ke _ _ ?_;simp[he];exact nP
 |false=>
  by_cases hm:o.en∈g.dr
  ·simp[Tx,Ty,Qr,Qj,Qa,Qq,Qd,Qg,Qk,Xp,hc,Qce,he,hm,G6];refine ke _ _ ?_;simp[he,hm]at k2 |-
   exact⟨k2,nP⟩
  by_cases hd1:d<1
  ·simp[Tx,Ty,Qr,Qj,Qa,Qq,Qd,Qg,Qk,Xp,hc,Qce,he,hm,hd1,G6];refine ke _ _ ?_;simp[he,hm,hd1]at k2 |-
   exact⟨k2,nP⟩
  simp[Tx,Ty,Qr,Qj,Qa,Qq,Qd,Qg,Qk,Xp,hc,Qce,he,hm,hd1,G6];refine ke _ _ ?_;simp[he,hm,hd1]at k2 |-
  refine⟨k2,kn _ _ ?_⟩;obtain⟨e,hE⟩:∃e,(Xw o.en q.ens).getD u7=e:=⟨_,rfl⟩;have kt:=fun ex K hK=>amE Y ⟨mb++ex,ml,ms,mn⟩ q V rt e.it hc zE K hK;simp only[Jf]at kt;rw[G7];generalize rtE (Xw o.en q.ens)=r7;generalize(Xw o.en q.ens).isSome=b7;rw[hE];obtain⟨X,hX⟩:∃X,Xj e.it q.aN=X:=⟨_,rfl⟩;have w0:IntKind.i64.wrap 0=0:=by decide
  simp;refine kt _ _ ?_;cases X with
  |none=>
   simp[hX,Zq];exact .bool _
  |some x=>
   by_cases fh:x.ki=4
   ·have zo:=Qep q e.it 0 f ((Bu g f b o.en).getD 0+d-f) q5 zE zE;simp only[Qa]at zo
    have ek:∀st,Bu g f b o.en=some st->0<=st/\st<=1000000:=fun st hh=>by
     unfold Bu at hh;split at hh
     ·cases hh
     split at hh
     ·cases hh;exact Dw h _
     cases hh
    have hfs:=h.2.2.1;unfold nO at hfs;unfold tf at hd;simp[hX,Zq,Qm,fh];refine ki _ _ ?_;cases hi:Bu g f b o.en with
    |none=>
     simp[Rf];exact .bool _
    |some st=>
     have fV:=ek st hi;have w1:IntKind.i64.wrap (q.ln-d)=q.ln-d:=by rw[Ql]<;>omega
     rw[hi]at zo;by_cases lI:q.ln-d<st
     ·simp[Rf,w1,lI];exact .bool _
     have w2:IntKind.i64.wrap (st+d)=st+d:=by rw[Ql]<;>omega
     have w3:IntKind.i64.wrap (st+d-f)=st+d-f:=by rw[Ql]<;>omega
     by_cases hz:st+d-f=0
     ·simp[Rf,w1,lI,w2,hz,w0];exact .bool _
     simp[Rf,w1,lI,w2,w3,hz,gE,aX _ _ _];exact⟨Nm zo,.bool _⟩
   simp[hX,Zq,Qm,fh];exact .bool _
def Xn(f:Int):List bn->QR->QR
 |[],b=>b
 |e::r,b=>Xn f r (if e.st<f then Vg e.id true b else b)
def Ek:P2:=[I 0,I 0,I 0,I 0,.sl .nil [],I 0,I 0,I 0,I 0,.sl .nil [],.sl .nil [],.sl .nil [],.sl .nil [],.sl .nil [],.sl .nil [],I 0,.sl .nil [],I 0,I 0,.nilv false]
def rH(k:Int)(v:Bool):∀l:QR,(Vg k v l).length<=l.length+1
 |[]=>by simp[Vg]
 |x::r=>by
  unfold Vg;split
  ·simp
  have:=rH k v r;simp;omega
def gY(c:Cue):Bool->List Cue->List Cue
 |p,[]=>if p=true then[c]else[]
 |p,x::r=>if x.id=c.id then gY c p r else if p=true/\c.id<x.id then c::x::gY c false r else x::gY c p r
def axX(o:List Cue)(v:AV)(ls:Pa):Prop:=(o=[]/\v=.sl .nil []/\ls=[])\/(o≠[]/\v=.sl (.own 0 5) (o.map Qk)/\ls=[o.length])
def mE(c:Cue)(l:List Cue):AV:=
 if iG c=true then
  (if 200<(gY c (!decide (c.to=0)) l).length then .aS [.sl .nil [],I 150]
  else .aS [.sl (if gY c (!decide (c.to=0)) l=[]then .nil else .ro) ((gY c (!decide (c.to=0)) l).map Qk),I 0])
 else .aS [.sl .nil [],I 150]
def ati(c:Cue)(l:List Cue)(f:Nat->AV)(m:AM):Prop:=
 ∃(i:Nat)(p:Bool)(o:List Cue)(bx:T5)(ls:Pa),f 18=I i/\f 7=.bool p/\i<=l.length/\o++gY c p (l.drop i)=gY c (!decide (c.to=0)) l/\axX o (f 6) ls/\o.length<=2*i/\
  m=⟨Qk c::bx,ls,fun _=>.gone,0⟩
def BB(l:List Cue)(c:Cue)(hl:l.length<=1000000):Pure Tryz.prog aD 42 [.sl .ro (l.map Qk),.agg (Qk c)] (mE c l):=by
 have cv:=s5 c;refine Qp aj0 (fun _ f _=>if f=49 then .bool (iG c)else .junk) zd ?_;cases hc:iG c with
 |false=>
  rw[hc]at cv;simp[abx,Ep,Qk,mE,hc];exact cv
 |true=>
  rw[hc]at cv;simp[abx,Qk];refine⟨cv,?_⟩;refine Qi eO (ati c l) (fun f _=>l.length-(numOf (f 18)).toNat) ?_ ?_
  ·refine⟨0,!decide (c.to=0),[],[],[],zd,?_,zE,zd,.inl ⟨rfl,zd,rfl⟩,zd,by simp[Qk]⟩;simp;try(rw[zzda];simp)
  rintro f m ⟨i,p,o,bx,ls,h18,h7,hi,hR,hO,zT,rfl⟩;rcases zzaa i l.length with ah|bq
  ·obtain⟨x,hx⟩:=aV ah;have ai:Qh (l.map Qk) i=Qk x:=Qu (by simp[hx]);have aa:(i:Int)<(l.length:Int):=zE
   have hw:=bO i zE;have hd:l.drop i=x::l.drop (i+1):=by rw[zzag ah,(zza.1 hx).2]
   rw[hd,gY]at hR;by_cases aL:x.id=c.id
   ·rw[if_pos aL]at hR;simp[h18,h7,eO,aa,ai,hw,Qk,aL];refine⟨aQ,⟨i+1,p,o,bx++[Qk x],ls,zd,zd,zE,hR,Nm hO,zE,by simp[Qk,aL]⟩,zE⟩
   rw[if_neg aL]at hR
   have SI:∀(z:List Cue)(row:P2),((∃a,a∈z/\Qk a=row)\/row=Qk c\/row=Qk x)->row.length=5:=by
    rintro z row (⟨a,_,rfl⟩|rfl|rfl)<;>rfl
   by_cases hp:p=true/\c.id<x.id
   ·rw[if_pos hp]at hR;obtain⟨rfl,hp⟩:=hp;obtain⟨rfl,h6,rfl⟩|⟨ho,h6,rfl⟩:=hO
    ·simp[h18,h7,h6,eO,aa,ai,hw,Qk,aL,hp];refine⟨aQ,⟨i+1,false,[c,x],bx++[Qk x],[2],zd,zd,zE,Nm hR,.inr ⟨zd,by simp[Qk],rfl⟩,by simp;omega,by simp[Qk]⟩,zE⟩
    simp[h18,h7,h6,eO,aa,ai,hw,Qk,aL,hp];refine⟨⟨by rintro row (⟨a,_,rfl⟩|rfl)<;>rfl,zE⟩,⟨by rintro row (⟨a,_,rfl⟩|rfl|rfl)<;>rfl,zE⟩,ag ?_,⟨i+1,false,o++[c,x],bx++[Qk x],[o.length+2],zd,zd,zE,Nm hR,.inr ⟨zd,by simp[Qk],zd⟩,by simp;omega,by simp[Qk]⟩,zE⟩;repeat(first|exact Qb _ _|refine Qc _ rfl ?_)
   rw[if_neg hp]at hR;obtain⟨rfl,h6,rfl⟩|⟨ho,h6,rfl⟩:=hO
   ·cases p with
    |false=>
     simp[h18,h7,h6,eO,aa,ai,hw,Qk,aL];refine⟨aQ,⟨i+1,false,[x],bx++[Qk x],[1],zd,zd,zE,Nm hR,.inr ⟨zd,by simp[Qk],rfl⟩,by simp;omega,by simp[Qk]⟩,zE⟩
    |true=>
     have VM:¬c.id<x.id:=fun h=>hp ⟨rfl,h⟩;simp[h18,h7,h6,eO,aa,ai,hw,Qk,aL,VM];refine⟨aQ,⟨i+1,true,[x],bx++[Qk x],[1],zd,zd,zE,Nm hR,.inr ⟨zd,by simp[Qk],rfl⟩,by simp;omega,by simp[Qk]⟩,zE⟩
   cases p with
   |false=>
    simp[h18,h7,h6,eO,aa,ai,hw,Qk,aL];refine⟨⟨by rintro row (⟨a,_,rfl⟩|rfl)<;>rfl,zE⟩,ag ?_,⟨i+1,false,o++[x],bx++[Qk x],[o.length+1],zd,zd,zE,Nm hR,.inr ⟨zd,by simp[Qk],zd⟩,by simp;omega,by simp[Qk]⟩,zE⟩;repeat(first|exact Qb _ _|refine Qc _ rfl ?_)
   |true=>
    have VM:¬c.id<x.id:=fun h=>hp ⟨rfl,h⟩;simp[h18,h7,h6,eO,aa,ai,hw,Qk,aL,VM];refine⟨⟨by rintro row (⟨a,_,rfl⟩|rfl)<;>rfl,zE⟩,ag ?_,⟨i+1,true,o++[x],bx++[Qk x],[o.length+1],zd,zd,zE,Nm hR,.inr ⟨zd,by simp[Qk],zd⟩,by simp;omega,by simp[Qk]⟩,zE⟩;repeat(first|exact Qb _ _|refine Qc _ rfl ?_)
  obtain rfl:i=l.length:=zE
  rw[zzbt,gY]at hR;obtain⟨rfl,h6,rfl⟩|⟨ho,h6,rfl⟩:=hO
  ·cases p with
   |false=>
    simp at hR;simp[h18,h7,h6,eO,Ep,Qk,mE,hc,hR]
   |true=>
    simp at hR;simp[h18,h7,h6,eO,Ep,Qk,mE,hc,<- hR]
  cases p with
  |false=>
   simp at hR;by_cases hb:200<o.length
   ·have cM:(200:Int)<(o.length:Int):=zE
    simp[h18,h7,h6,eO,Ep,Qk,mE,hc,<- hR,hb,cM]
   have cM:¬(200:Int)<(o.length:Int):=zE
   simp[h18,h7,h6,eO,Ep,Qk,mE,hc,<- hR,hb,cM,ho]
  |true=>
   simp at hR;have aH:(o++[c]).length=o.length+1:=zd
   by_cases hb:200<o.length+1
   ·have cM:(200:Int)<(o.length:Int)+1:=zE
    simp[h18,h7,h6,eO,Ep,Qk,mE,hc,<- hR,hb,cM];exact⟨by rintro row (⟨a,_,rfl⟩|rfl)<;>rfl,zE⟩
   have cM:¬(200:Int)<(o.length:Int)+1:=zE
   simp[h18,h7,h6,eO,Ep,Qk,mE,hc,<- hR,hb,cM,ho];exact⟨by rintro row (⟨a,_,rfl⟩|rfl)<;>rfl,zE⟩
def Rz(p:Pl):Pl:={p with sh:=p.sh.take 10,aN:=p.aN.take 20,bks:=p.bks.take 10,cls:=p.cls.take 20,ens:=p.ens.take 12,ln:=if 1500<p.ln then 1500 else p.ln}
def lu{α:Type}(l:List α)(n:Nat):l.take (if(n:Int)<(l.length:Int)then(n:Int)else(l.length:Int)).toNat=l.take n:=by
 split
 ·simp
 rw[zzau zd,zzau zE]
def yA{a:Nat}(n:Nat):(if(n:Int)<(a:Int)then(n:Int)else(a:Int))<=a:=by split<;>omega
def yB{a:Nat}(n:Nat):0<=(if(n:Int)<(a:Int)then(n:Int)else(a:Int)):=by split<;>omega
def LF(p:Pl):Pure Tryz.prog aD 14 [.agg (Qa p)] (.agg (Qa (Rz p))):=by
 have t1:=lu (p.sh.map Qe) 10;have t2:=lu (p.aN.map Qm) 20;have t3:=lu (p.bks.map Xi) 10;have t4:=lu (p.cls.map Qg) 20;have t5:=lu (p.ens.map Qd) 12;simp only[zzbv]at t1 t2 t3 t4 t5;have a1:=yA (a:=p.sh.length) 10;have a2:=yA (a:=p.aN.length) 20;have a3:=yA (a:=p.bks.length) 10;have a4:=yA (a:=p.cls.length) 20;have a5:=yA (a:=p.ens.length) 12;have b1:=yB (a:=p.sh.length) 10;have b2:=yB (a:=p.aN.length) 20;have b3:=yB (a:=p.bks.length) 10;have b4:=yB (a:=p.cls.length) 20;have b5:=yB (a:=p.ens.length) 12;simp at a1 a2 a3 a4 a5 b1 b2 b3 b4 b5 t1 t2 t3 t4 t5;refine Qp ajB (fun _ _ _=>.junk) zd ?_;simp[aoA,aoB,Qa,Rz,t1,t2,t3,t4,t5,a1,a2,a3,a4,a5,b1,b2,b3,b4,b5];exact⟨by rintro row a b _ rfl;rfl,fun _ _=>rfl,fun _ _=>rfl,fun _ _=>rfl,fun _ _=>rfl⟩
def G8(g:Pg)(f:Int)(q:Pl)(d:Int)(er:P2):P2:=[.ep (Qa q++[I d]) 0,.ep (Qj g++[I f,.junk]) 0,.ep er 0]
def Qdp(g:Pg)(f:Int)(q:Pl)(d:Int)(a0 a1 a2:AV)(fr:Int)(r:P2)(item region:Int)(h1:q.cls.length<=1000000)(h2:q.sh.length<=1000000000)(h3:q.aN.length<=1000000000):
  Pure Tryz.prog aD 161 ([I item,I region]++G8 g f q d (a0::a1::a2::I fr::r)) (.bool (Xt q item region f fr)):=by
 have k:=Qep q item region f fr h1 h2 h3;simp only[Qa]at k;refine Qp acF (fun _ _ _=>.bool (Xt q item region f fr)) (by simp[G8]) ?_;simp[ag4,ag5,G8,Qa,Qj];exact k
def DI(g:Pg)(f:Int)(o:Od)(q:Pl)(d:Int)(e:bn):Option Int:=
 if o.ki=1/\o.en=e.id then some (rB g e.id+d-f)
 else if o.ki=2/\o.en=e.id then none
 else if o.ki=4/\Xt q e.it 0 f (uX f e).fr=false then none
 else some (uX f e).fr
def tj(q:Pl)(f:Int):UV:=fun _ k l=>if k=161 then(match l with
 |[.int _ it,.int _ re,_,_,.ep (_::_::_::.int _ F::_) 0]=>.bool (Xt q it re f F)
 |_=>.junk)else .gd false .junk
def jZ(q:Pl)(f:Int)(id F:Int)(l:List Sp):List Sp:=l.filter fun a=>Xt q a.2 a.1 f F
def amF(ml:Pa)(o:List Sp)(v:AV)(ls:Pa):Prop:=(o=[]/\v=.sl .nil []/\ls=ml)\/(o≠[]/\v=.sl (.own ml.length 2) (o.map Qe)/\ls=ml++[o.length])
def atj(mb:T5)(ml:Pa)(ms:Nat->LS)(mn:Nat)(r0 r1 r2 pre:P2)(al:List Sp)(A:List Sp->List Sp)(s:Nat->AV)(m:AM):Prop:=
 ∃(j:Nat)(bx:T5)(ls:Pa)(v:AV),s 106=I j/\j<=al.length/\amF ml (A (al.take j)) v ls/\m=⟨mb++(r0::r1::r2::nQ::(pre++[v])::bx),ls,ms,mn⟩
def rI(q:Pl)(f:Int)(it F:Int)(n:Nat):Int:=Uq (fun r=>Xt q it r f F) n
def afn(b:Nat->Bool)(i:Nat)(h:i<8):IntKind.i64.wrap ((((Uq b i%2 ^ IntKind.i64.bits).toNat|||(IntKind.i64.wrap (2 ^ min i IntKind.i64.bits)%2 ^ IntKind.i64.bits).toNat:Nat)):Int)=Uq b i+2 ^ i:=by
 have gO:=De b i;obtain⟨x,hx⟩:∃x:Nat,Uq b i=(x:Int):=⟨(Uq b i).toNat,zE⟩
 have QK:x<2 ^ i:=by
  have h2:=gO.2;rw[hx]at h2
  exact_mod_cast h2
 rw[hx];exact XX i h x QK
def LG:SC:=(⟨_,by cbv⟩:J5 [1,1,1,1,1,1] Am).1
def ZX:SC:=(⟨_,fun _=>by cbv⟩:Fs [1,1,1,1,1,1] Am).1 LG
theorem G9:Am=ZX:=rfl
def yC(Y:YT)(mb:T5)(ml:Pa)(ms:Nat->LS)(mn:Nat)(g:Pg)(f:Int)(mid:Nat)(R1:P2)(q:Pl)(V:AV)(rt:Rt)(d:Int)(e:bn)(F:Int)(E0:QQ)(x5 x6:AV)(hV:mC mb V q.ens)(aX:Dy rt)(hq:Br q)(N1:0<=q.rg/\q.rg<=8)(K:So)
  (h3:Abs.look E0 3=.ptr mb.length 0)(h5:Abs.look E0 5=.ptr (mb.length+2) 0)(h6:Abs.look E0 6=.ptr (mb.length+3) 0)(h8:Abs.look E0 8=.ptr (mb.length+4) 0)(pn:Abs.look E0 11=.fn 161 [] [.ptr (mb.length+2) 0,.ptr mb.length 0,.ptr (mb.length+4) 0])
  (h1:∀ex ls v,amF ml (jZ q f e.id F ((Xw e.id q.ens).getD u7).al) v ls->K (.aS [.agg [I e.id,I e.it,I f,I F,I (e.i+(f-e.st)),I (rI q f e.it F q.rg.toNat),v],.bool true]) ⟨mb++ex,ls,ms,mn⟩):
  vc Tryz.prog aD (tj q f) Y LG ⟨Vx 124 E0,⟨mb++[Qr g f mid,R1,Xp q V (.sl rt (q.cls.map Qg)) d,nQ,[I e.id,I e.it,I f,I F,I (e.i+(f-e.st)),x5,x6]],ml,ms,mn⟩⟩ (wQ Tryz.prog aD (tj q f) Et K):=by
 obtain⟨q1,q2,q3,q4,q5,q6⟩:=hq;have hc:=hV.cell;have gE:=fun ex ml d=>hV.bA ex ml ms mn d;simp[LG,h5,h8,Qr,Qj,Qa,Xp,nQ];refine Qi I2 (fun s m=>∃i:Nat,s 80=I i/\(i:Int)<=q.rg/\m=⟨mb++[Qr g f mid,R1,Xp q V (.sl rt (q.cls.map Qg)) d,nQ,[I e.id,I e.it,I f,I F,I (e.i+(f-e.st)),I (rI q f e.it F i),.sl .nil []]],ml,ms,mn⟩) (fun s _=>(q.rg-numOf (s 80)).toNat) ?_ ?_
 ·exact⟨0,zd,by simp;omega,by simp[Qr,Qj,Qa,Xp,nQ,rI,Uq]⟩
 rintro s m ⟨i,h80,hi,rfl⟩;by_cases ah:(i:Int)<q.rg
 ·have hw:=bO i zE;have kc:=Qdp g f q d (I e.id) (I e.it) (I f) F [I (e.i+(f-e.st)),I (rI q f e.it F i),.sl .nil []] e.it i q5 zE zE;simp only[G8,Qa,Qj,zzae,zzai]at kc;simp[h8,pn,h80,I2,ah,hw,Qr,Qj,Qa,Xp,nQ,tj,gE,aX _ _ _];have hor:=afn (fun r=>Xt q e.it r f F) i zE;refine⟨kc,?_⟩;have dP:rI q f e.it F (i+1)=rI q f e.it F i+if Xt q e.it (i:Int) f F=true then 2 ^ i else 0:=rfl;split
  ·rename_i ha;rw[if_pos ha]at dP;refine⟨aQ,⟨i+1,zd,zE,by rw[dP];exact hor⟩,zE⟩
  rename_i ha;rw[if_neg ha]at dP;refine⟨aQ,⟨i+1,zd,zE,by rw[dP];simp⟩,zE⟩
 have kn:=fun ex K hK=>Oo Y ⟨mb++ex,ml,ms,mn⟩ q V rt e.id (hV.ext ex) zE q6 K hK;simp only[Jf]at kn;simp[h5,h8,h80,I2,ah,Qr,Qj,Qa,Xp,nQ,tj];refine kn _ _ ?_;rw[G7];generalize rtE (Xw e.id q.ens)=r7;generalize(Xw e.id q.ens).isSome=b7;obtain⟨E,hE⟩:∃E,(Xw e.id q.ens).getD u7=E:=⟨_,rfl⟩;rw[hE]
 have hEl:E.al.length<=8796093022208:=by
  rw[<- hE];cases hf:Xw e.id q.ens with
  |none=>simp[u7]
  |some x=>exact q6 x (Qdi hf).1
 have hiq:i=q.rg.toNat:=zE
 rw[hE]at h1;simp[Et];refine Qi BX (atj mb ml ms mn (Qr g f mid) R1 (Xp q V (.sl rt (q.cls.map Qg)) d) [I e.id,I e.it,I f,I F,I (e.i+(f-e.st)),I (rI q f e.it F i)] E.al (jZ q f e.id F)) (fun s _=>E.al.length-(numOf (s 106)).toNat) ?_ ?_
 ·exact⟨0,_,ml,.sl .nil [],zd,zE,.inl ⟨by simp[jZ],rfl,rfl⟩,by simp[Qr,Qj,Qa,Xp,nQ];rfl⟩
 rintro s2 m ⟨j,bx,ls,v,h106,hj,hO,rfl⟩;rcases zzaa j E.al.length with JU|hgj
 ·obtain⟨a,ha⟩:=aV JU;have ai:=Zw ha;have atk:(j:Int)<(E.al.length:Int):=zE
  have hw:=bO j zE
  have bB:jZ q f e.id F (E.al.take (j+1))=jZ q f e.id F (E.al.take j)++if Xt q a.2 a.1 f F=true then[a]else[]:=by
   unfold jZ;rw[zzb,ha,zzde];congr 1;by_cases hh:Xt q a.2 a.1 f F=true<;>simp[hh]
  have zT:(jZ q f e.id F (E.al.take j)).length<=j:=by
   refine zzbc (zzcc _ _) ?_;simp;omega
  generalize jZ q f e.id F (E.al.take j)=oL at hO bB zT;obtain⟨rfl,rfl,rfl⟩|⟨ho,rfl,rfl⟩:=hO
  ·have kc:=Qdp g f q d (I e.id) (I e.it) (I f) F [I (e.i+(f-e.st)),I (rI q f e.it F i),.sl .nil []] a.2 a.1 q5 zE zE;simp only[G8,Qa,Qj,zzae,zzai]at kc;simp[h8,pn,h106,BX,atk,ai,hw,Qr,Qj,Qa,Xp,nQ,tj,gE,aX _ _ _];refine⟨kc,?_⟩;split
   ·rename_i hh;rw[if_pos hh]at bB;refine⟨aQ,⟨j+1,bx++[[I a.1,I a.2]],ls++[1],.sl (.own ls.length 2) [Qe a],zd,zE,.inr ⟨by rw[bB];simp,by rw[bB];rfl,by rw[bB];rfl⟩,by simp[nQ,Qe]⟩,zE⟩
   rename_i hh;rw[if_neg hh]at bB;refine⟨aQ,⟨j+1,bx++[[I a.1,I a.2]],ls,.sl .nil [],zd,zE,.inl ⟨by rw[bB];rfl,rfl,rfl⟩,by simp[nQ]⟩,zE⟩
  have kc:=Qdp g f q d (I e.id) (I e.it) (I f) F [I (e.i+(f-e.st)),I (rI q f e.it F i),.sl .ro (oL.map Qe)] a.2 a.1 q5 zE zE;simp only[G8,Qa,Qj,zzae,zzai]at kc;simp[h8,pn,h106,BX,atk,ai,hw,Qr,Qj,Qa,Xp,nQ,tj,gE,aX _ _ _];refine⟨kc,?_⟩
  have SI:∀row:P2,((∃x y,(x,y)∈oL/\Qe (x,y)=row)\/row=Qe a)->row.length=2:=by
   rintro row (⟨x,y,_,rfl⟩|rfl)<;>rfl
  split
  ·rename_i hh;rw[if_pos hh]at bB;refine⟨⟨SI,zE⟩,aQ,⟨j+1,bx++[[I a.1,I a.2]],ml++[oL.length+1],.sl (.own ml.length 2) ((oL++[a]).map Qe),zd,zE,.inr ⟨by rw[bB];simp,by rw[bB],by rw[bB];simp⟩,by simp[nQ,Qe]⟩,zE⟩
  rename_i hh;rw[if_neg hh,zzar]at bB;refine⟨aQ,⟨j+1,bx++[[I a.1,I a.2]],ml++[oL.length],.sl (.own ml.length 2) (oL.map Qe),zd,zE,.inr ⟨by rw[bB];exact ho,by rw[bB],by rw[bB]⟩,by simp[nQ]⟩,zE⟩
 obtain rfl:j=E.al.length:=zE
 rw[zzbu]at hO;have bL:Qx v=true:=by rcases hO with⟨_,rfl,_⟩|⟨_,rfl,_⟩<;>rfl
 have h1:=fun ex=>h1 ex ls v hO;rw[<- hiq]at h1;simp[h6,h8,h106,BX,Qr,Qj,Qa,Xp,nQ,bL];exact h1 _
def afo(Y:YT)(m:AM)(g:Pg)(f:Int)(mid:Nat)(b:QR)(o:Od)(q:Pl)(V:AV)(rt:Rt)(d:Int)(hV:mC m.boxes V q.ens)(aX:Dy rt)(h:lQ g f)(hb:fP m.boxes mid b)(hq:Br q)(hd:0<=d/\d<=1000000000)(N1:0<=q.rg/\q.rg<=8)(K:So)
  (h1:∀e F,Ul g f b=some e->DI g f o q d e=some F->F≠0->∀ex ls v,amF m.lens (jZ q f e.id F ((Xw e.id q.ens).getD u7).al) v ls->K (.aS [.agg [I e.id,I e.it,I f,I F,I (e.i+(f-e.st)),I (rI q f e.it F q.rg.toNat),v],.bool true]) {m with boxes:=m.boxes++ex,lens:=ls})
  (h0:(Ul g f b).bind (DI g f o q d)=none\/(Ul g f b).bind (DI g f o q d)=some 0->∀ex,K (.aS [.agg nQ,.bool false]) {m with boxes:=m.boxes++ex}):
  aB Tryz.prog aD Y 106 [.agg (Qr g f mid),.agg (Qq o),.agg (Xp q V (.sl rt (q.cls.map Qg)) d)] m K:=by
 obtain⟨mb,ml,ms,mn⟩:=m;obtain⟨q1,q2,q3,q4,q5,q6⟩:=hq;have hc:=hV.cell;have hB:∀ex,fP (mb++ex) mid b:=fun ex=>⟨by have:=hb.1;simp at this |-;omega,hb.ext ex⟩;have kp:=fun ex K hK=>aiJ Y ⟨mb++ex,ml,ms,mn⟩ g f mid b h (hB ex) K hK;simp only[Qr,Qj,Qa,zzae,zzai]at kp;have gE:=fun ex ml d=>hV.bA ex ml ms mn d;cases hp:Ul g f b with
 |none=>
  have h0:=h0 (by rw[hp];exact .inl rfl);refine Xl MG (fun _ f _=>.gd false .junk) zd ?_;simp[G9,ZX,Et,Qr,Qj,Qa,Qq,Qd,Qg,Qk,Xp,hc];refine kp _ _ ?_;simp[Um,hp];simp[nQ]at h0;exact h0 _
 |some e=>
  refine Xl MG (tj q f) zd ?_;simp[G9,ZX,Et,Qr,Qj,Qa,Qq,Qd,Qg,Qk,Xp,hc,tj];refine kp _ _ ?_;have IE:=Dw h e.id;have hfs:=h.2.2.1;unfold nO at hfs;by_cases dF:o.ki=1
  ·by_cases aL:o.en=e.id
   ·have w1:IntKind.i64.wrap (rB g e.id+d)=rB g e.id+d:=by rw[Ql]<;>omega
    have w2:IntKind.i64.wrap (rB g e.id+d-f)=rB g e.id+d-f:=by rw[Ql]<;>omega
    obtain⟨F,hF⟩:∃F,rB g e.id+d-f=F:=⟨_,rfl⟩;have wF:IntKind.i64.wrap F=F:=by rw[<- hF];exact w2
    have w0:IntKind.i64.wrap 0=0:=by decide
    have oo:(Ul g f b).bind (DI g f o q d)=some F:=by rw[hp];simp[DI,dF,aL,hF]
    by_cases qv:F=0
    ·have h0:=h0 (by rw[oo,qv];exact .inr rfl);simp[Um,hp,Qf,uX,dF,aL,w1,w0,hF,qv];simp[nQ]at h0;exact h0 _
    simp[Um,hp,Qf,uX,dF,aL,w1,wF,hF,qv];refine yC Y mb ml ms mn g f mid _ q V rt d e F _ _ _ hV aX ⟨q1,q2,q3,q4,q5,q6⟩ N1 K ?_ ?_ ?_ ?_ ?_ (h1 e F hp (by simpa[hp]using oo) qv)<;>simp
   have w0:True:=trivial;obtain⟨F,hF⟩:∃F,e.fr-(f-e.st)=F:=⟨_,rfl⟩;have oo:(Ul g f b).bind (DI g f o q d)=some F:=by rw[hp];simp[DI,uX,hF,dF,aL]
   by_cases qv:F=0
   ·have h0:=h0 (by rw[oo,qv];exact .inr rfl);simp[Um,hp,Qf,uX,dF,aL,hF,qv];simp[nQ]at h0;exact h0 _
   simp[Um,hp,Qf,uX,dF,aL,hF,qv];refine yC Y mb ml ms mn g f mid _ q V rt d e F _ _ _ hV aX ⟨q1,q2,q3,q4,q5,q6⟩ N1 K ?_ ?_ ?_ ?_ ?_ (h1 e F hp (by simpa[hp]using oo) qv)<;>simp
  by_cases ef:o.ki=2
  ·by_cases aL:o.en=e.id
   ·have w0:True:=trivial;have h0:=h0 (by rw[hp];simp[DI,ef,aL]);simp[Um,hp,Qf,uX,ef,aL];simp[nQ]at h0;exact h0 _
   have w0:True:=trivial;obtain⟨F,hF⟩:∃F,e.fr-(f-e.st)=F:=⟨_,rfl⟩;have oo:(Ul g f b).bind (DI g f o q d)=some F:=by rw[hp];simp[DI,uX,hF,ef,aL]
   by_cases qv:F=0
   ·have h0:=h0 (by rw[oo,qv];exact .inr rfl);simp[Um,hp,Qf,uX,ef,aL,hF,qv];simp[nQ]at h0;exact h0 _
   simp[Um,hp,Qf,uX,ef,aL,hF,qv];refine yC Y mb ml ms mn g f mid _ q V rt d e F _ _ _ hV aX ⟨q1,q2,q3,q4,q5,q6⟩ N1 K ?_ ?_ ?_ ?_ ?_ (h1 e F hp (by simpa[hp]using oo) qv)<;>simp
  by_cases NX:o.ki=4
  ·cases ha0:Xt q e.it 0 f (e.fr-(f-e.st))with
   |false=>
    have h0:=h0 (by rw[hp];simp[DI,uX,NX,ha0]);have kc0:=Qdp g f q d (I e.id) (I e.it) (I f) (e.fr-(f-e.st)) [I (e.i+(f-e.st)),I e.re,.sl .ro (e.al.map Qe)] e.it 0 q5 zE zE;simp only[G8,Qa,Qj,zzae,zzai]at kc0;rw[ha0]at kc0;simp[Um,hp,Qf,uX,NX,gE,aX _ _ _,ha0];simp[nQ]at h0;exact⟨kc0,h0 _⟩
   |true=>
    obtain⟨F,hF⟩:∃F,e.fr-(f-e.st)=F:=⟨_,rfl⟩;rw[hF]at ha0;have oo:(Ul g f b).bind (DI g f o q d)=some F:=by rw[hp];simp[DI,uX,hF,NX,ha0]
    have kc0:=Qdp g f q d (I e.id) (I e.it) (I f) F [I (e.i+(f-e.st)),I e.re,.sl .ro (e.al.map Qe)] e.it 0 q5 zE zE;simp only[G8,Qa,Qj,zzae,zzai]at kc0;rw[ha0]at kc0;by_cases qv:F=0
    ·have h0:=h0 (by rw[oo,qv];exact .inr rfl);rw[qv]at ha0 kc0;simp[Um,hp,Qf,uX,NX,gE,aX _ _ _,hF,ha0,qv];simp[nQ]at h0;exact⟨kc0,h0 _⟩
    simp[Um,hp,Qf,uX,NX,gE,aX _ _ _,hF,ha0,qv];refine⟨kc0,?_⟩;refine yC Y mb ml ms mn g f mid _ q V rt d e F _ _ _ hV aX ⟨q1,q2,q3,q4,q5,q6⟩ N1 K ?_ ?_ ?_ ?_ ?_ (h1 e F hp (by simpa[hp]using oo) qv)<;>simp
  have w0:True:=trivial;obtain⟨F,hF⟩:∃F,e.fr-(f-e.st)=F:=⟨_,rfl⟩;have oo:(Ul g f b).bind (DI g f o q d)=some F:=by rw[hp];simp[DI,uX,hF,dF,ef,NX]
  by_cases qv:F=0
  ·have h0:=h0 (by rw[oo,qv];exact .inr rfl);simp[Um,hp,Qf,uX,dF,ef,NX,hF,qv];simp[nQ]at h0;exact h0 _
  simp[Um,hp,Qf,uX,dF,ef,NX,hF,qv];refine yC Y mb ml ms mn g f mid _ q V rt d e F _ _ _ hV aX ⟨q1,q2,q3,q4,q5,q6⟩ N1 K ?_ ?_ ?_ ?_ ?_ (h1 e F hp (by simpa[hp]using oo) qv)<;>simp
def ZY(Y:YT)(m:AM)(g:Pg)(f:Int)(mid kk:Nat)(b:QR)(e:En)(hk:kk<m.boxes.length)(hr:Qh m.boxes kk=Qr g f mid)(hb:fP m.boxes mid b):
  aB Tryz.prog aD Y 149 [.agg (Qd e),.ptr kk 0] m (fun r m'=>m'=m/\r=.bool !(gG b e.id)):=by
 obtain⟨mb,ml,ms,mn⟩:=m;have hR:∀ex,Qh (mb++ex) mid=[.aJ 0 (bG .bool b)]:=hb.ext;have hM:∀ex,Qh (mb++ex) kk=Qr g f mid:=fun ex=>by rw[Qn hk];exact hr
 simp only[Qr,Qj,Qa,zzae,zzai]at hM;refine aB.read (Xl acw (fun _ _ _=>.junk) zd ?_);rcases Xv AV.bool e.id b 0 with⟨b1,b2,_⟩|⟨u,u',b1,b2,_⟩
 ·simp[TV,TW,Qd,hM,hR,gG,b1,b2];exact nP
 cases u<;>simp[TV,TW,Qd,hM,hR,gG,b1,b2]<;>exact nP
def atl(Y:YT)(m:AM)(g:Pg)(f:Int)(mid kk:Nat)(b:QR)(e:En)(hk:kk<m.boxes.length)(hr:Qh m.boxes kk=Qr g f mid)(hb:fP m.boxes mid b)(K:So)(hK:K (.bool !(gG b e.id)) m):
  aB Tryz.prog aD Y 149 [.agg (Qd e),.ptr kk 0] m K:=
 aB.mono (ZY Y m g f mid kk b e hk hr hb) (by rintro r m' ⟨rfl,rfl⟩;exact hK)
def LH(Y:YT)(m:AM)(g:Pg)(f:Int)(mid kk:Nat)(b:QR)(k:Nat)(L:List En)(z:P2)(hl:L.length<=1000000000)(hk:kk<m.boxes.length)(hr:Qh m.boxes kk=Qr g f mid)(hb:fP m.boxes mid b)(hV:k<m.boxes.length)(hrV:Qh m.boxes k=eF L++z):
  aB Tryz.prog aD Y 148 [.bs k 0 L.length 7,.fn 149 [] [.ptr kk 0]] m (fun r m'=>m'=m/\r=I (Ur (fun e:En=>!(gG b e.id)) L 0)):=by
 obtain⟨mb,ml,ms,mn⟩:=m;have aH:=Jb L;have k1:=fun e K hK=>atl Y ⟨mb,ml,ms,mn⟩ g f mid kk b e hk hr hb K hK;refine aB.read (Xl Cb (fun _ _ _=>.gd false .junk) zd ?_);simp[MU];refine Qi eW (fun s m=>∃i:Nat,s 8=I i/\i<=L.length/\Ur (fun e:En=>!(gG b e.id)) (L.drop i) i=Ur (fun e:En=>!(gG b e.id)) L 0/\m=⟨mb,ml,ms,mn⟩) (fun s _=>L.length-(numOf (s 8)).toNat) ?_ ?_
 ·exact⟨0,zd,zE,zd,rfl⟩
 rintro s m ⟨i,f8,hi,hidx,rfl⟩;rcases zzaa i L.length with ah|bq
 ·obtain⟨x,hx⟩:=aV ah;have hg:=Dx hx;simp only at hrV
  have ai:(Qh mb k).drop (i*7)=I x.id::I x.it::I x.fr::I x.ea::I x.la::I x.bo::.sl .ro (x.al.map Qe)::(eF (L.drop (i+1))++z):=by
   rw[hrV,zzdy (by rw[Jb];omega),hg];rfl
  have aa:(i:Int)<(L.length:Int):=zE
  have hw:=bO i zE;have hd:L.drop i=x::L.drop (i+1):=by rw[zzag ah,(zza.1 hx).2]
  have kx:=k1 x;simp only[Qd]at kx;rw[hd,Ur]at hidx;cases hP:gG b x.id with
  |false=>
   rw[if_pos (by simp[hP])]at hidx;simp[f8,eW,aa,ai];refine kx _ ?_;simp[hP,Au,hidx];exact nP
  |true=>
   rw[if_neg (by simp[hP])]at hidx;simp[f8,eW,aa,ai];refine kx _ ?_;simp[hP,hw];refine⟨aQ,⟨i+1,zd,zE,hidx⟩,zE⟩
 obtain rfl:i=L.length:=zE
 rw[zzbt,Ur]at hidx;simp[f8,eW,Au,<- hidx];exact nP
open Go Go.Abs Go.RowKit
def He:bz Tryz.prog 150:=by
 first|exact Cc.bz|(unfold bz;decide)|kernel_rfl
def RA(Y:YT)(m:AM)(id gN i n:Nat)(A C V:P2)(aL:m.boxes[id]?=some (A++C))(fL:m.boxes[gN]?=some V)(aO:gN≠id)(hV:V.length=7)(hA:A.length=i*7)(hC:C.length=(n-i)*7)
  (hi:i<n)(hn:n+1<=1000000000)(K:So)(hK:K (.bs m.boxes.length 0 (n+1) 7) {m with boxes:=m.boxes.set id []++[A++(V++C)]}):aB Tryz.prog aD Y 150 [.bs id 0 n 7,I i,.bs gN 0 1 7] m K:=by
 refine aB.fQ He fun N w0 an γ w vs hm hl hr=>?_
 obtain⟨v1,r1,rfl,g1,Sy⟩:∃v1 r1,vs=v1::r1/\aA w γ (.bs id 0 n 7) v1/\ak w γ [I i,.bs gN 0 1 7] r1:=by
  cases vs with
  |nil=>have:=hr.1;simp at this
  |cons v r=>exact⟨v,r,rfl,hr.2 0 _ _ rfl rfl,⟨by have:=hr.1;simp at this |-;omega,fun k c u h1 h2=>hr.2 (k+1) c u (Nm h1) (Nm h2)⟩⟩
 obtain⟨v2,r2,rfl,g2,oI⟩:∃v2 r2,r1=v2::r2/\aA w γ (I i) v2/\ak w γ [.bs gN 0 1 7] r2:=by
  cases r1 with
  |nil=>have:=Sy.1;simp at this
  |cons v r=>exact⟨v,r,rfl,Sy.2 0 _ _ rfl rfl,⟨by have:=Sy.1;simp at this |-;omega,fun k c u h1 h2=>Sy.2 (k+1) c u (Nm h1) (Nm h2)⟩⟩
 obtain⟨v3,rfl,g3⟩:=Yl oI;cases g2;obtain⟨b,cap,arr,te,hβ,rfl,gP,hh,hs⟩:=g1.cN;obtain⟨vb,atm,uZ,tv,hβv,rfl,hlv,hhv,hsv⟩:=g3.cN;have hB:m.B id=some (A++C):=aL;have A9:m.B gN=some V:=fL
 have ai9:A++C≠[]:=by
  intro h;have:=congrArg List.length h;simp only[zzak,hA,hC,zzco]at this;omega
 have atn:V≠[]:=by rintro rfl;simp at hV
 have hvb:vb≠b:=by
  rintro rfl;rcases hm.inj _ _ _ hβ hβv with h|h|h
  ·rw[hB]at h;exact ai9 (Option.some.inj h)
  ·rw[A9]at h;exact atn (Option.some.inj h)
  exact aO h.symm
 obtain⟨bN,zj,q2,q3,q4⟩:=hm.box id _ b hB hβ;rw[hh]at q2;cases q2;obtain⟨azg,tv',p2,p3,p4⟩:=hm.box gN _ vb A9 hβv;rw[hhv]at p2;cases p2;have hvl:=p3.1;simp only[zzbi,hV]at hvl
 have hVr:ak w γ V (uZ.toList.take 7):=by
  refine⟨by simp only[zzaq,zzbi,hV];omega,fun k c v g1 g2=>?_⟩;have hk:=(zza.1 g1).1;rw[zzbj,if_pos zE]at g2;exact p3.2 k c v g1 g2
 have hvo:∀v∈uZ.toList.take 7,v.oneCell'=true:=fun v hv=>p4 v (zzce hv);have hi7:(i+1)*7=A.length+V.length:=by rw[hA,hV];omega
 simp only[zzbs]at hs;by_cases cA:n+1<=cap
 ·have fR:=Ru b n cap i vb atm arr uZ te tv w hi cA hn hvb hh hhv hs hvl q4 p4;have Pt:(n+1)*7<=cap*7:=zzbd _ cA;rw[hi7,<- hA,<- hC]at fR;obtain⟨e1,m1⟩:=Rv hm aL ai9 hβ hh hVr hvo (by rw[hA,hC,hV];omega);refine fR.mono ?_;rintro e w' ⟨rfl,rfl⟩;have hh':w.drew.heap[b]?=some (.cells arr te (0,0)):=hh;refine⟨_,_,.bs m.boxes.length 0 (n+1) 7,_,rfl,e1.cH,m1,hl.mono' e1 rfl,.bs (by simp[G.box]) cA (Xd b _ _ _ _ te _ (Xd b _ _ _ arr te _ hh')) (by rw[Zz,Zz];omega),hK⟩
 have fR:=ZU b n cap i vb atm arr uZ te tv w hi gP zE hn hvb hh hhv hs hvl q4 p4;refine fR.mono ?_;rintro e w' ⟨Gc,nS,zs,hG,rfl,hR,hz,hGR,hzo,rfl⟩;rw[<- hA]at hR;obtain⟨e1,m1⟩:=afm (te2:=47) hm aL hβ hh hVr hvo hR (by rw[hC,hV];omega) hzo (by simp[atn]);rw[hi7,<- hA,<- hC];refine⟨_,_,.bs m.boxes.length 0 (n+1) 7,_,rfl,e1.cH,m1,hl.mono' e1 rfl,.bs (by simp[G.box]) hG (Xd _ _ _ _ _ 47 _ (Xd _ _ _ (w.drew.alloc (.cells nS 47)) nS 47 _ (Yh w _))) (by rw[Zz,Zz];omega),hK⟩
def Ke{B:T5}{id:Nat}{c:P2}(h:id<B.length)(hr:Qh B id=c):B[id]?=some c:=by
 rw[Jj h,hr]
def afp(Y:YT)(m:AM)(id gN n:Nat)(A V:P2)(aL:m.boxes[id]?=some A)(fL:m.boxes[gN]?=some V)(hA:A.length=n*7)(hn:0<n)(hn9:n<=1000000000)(hV:V.length=7)(okV:Zl V=true)
  (K:So)(hK:K (.bs m.boxes.length 0 (n+1) 7) {m with boxes:=m.boxes.set id []++[A++V]}):aB Tryz.prog aD Y 150 [.bs id 0 n 7,I n,.bs gN 0 1 7] m K:=by
 obtain⟨mb,ml,ms,mn⟩:=m;have r1:=Qu aL;have r2:=Qu fL;have l1:=(zza.1 aL).1;have l2:=(zza.1 fL).1;simp only at r1 r2 l1 l2 hK;have aO:¬A=[]:=by rintro rfl;simp at hA;omega
 refine Xl Cc (fun _ _ _=>.junk) zd ?_;simp[TX,TY,r1,r2,l1,l2,hA,hV,aO];refine⟨zE,?_⟩;rw[zzau zE,zzau zE];exact hK
def afq(Y:YT)(m:AM)(k:Nat)(row:P2)(ai:row.length=7)(hk:m.lens[k]?=some 0)(K:So)(hK:K (.sl (.own k 7) [row]) {m with lens:=m.lens.set k 1}):
  aB Tryz.prog aD Y 150 [.sl (.own k 7) [],I 0,.sl .full [row]] m K:=by
 obtain⟨mb,ml,ms,mn⟩:=m;refine Xl Cc (fun _ _ _=>.junk) zd ?_;simp[TX,TY,ai];exact⟨hk,hK⟩
def ZZ(Y:YT)(m:AM)(K:So)(hK:K (.sl (.own m.lens.length 7) []) {m with lens:=m.lens++[0]}):aB Tryz.prog aD Y 118 [.sl .ro []] m K:=by
 refine Xl B8 (fun _ _ _=>.junk) zd ?_;simp[MJ,MK];exact hK
def Z0(p:Pl):UV:=fun d f l=>if f=118 then .gd false .junk else Km p d f l
def Z1(Y:YT)(m:AM)(p:Pl)(h:Br p)(hn:p.ens=[])(K:So)
  (hK:∀c0 c1,K (.agg (Un p (.sl (.own m.lens.length 7) []))) {m with boxes:=m.boxes++[c0,c1],lens:=m.lens++[0]}):aB Tryz.prog aD Y 66 [.agg (Qa p)] m K:=by
 obtain⟨mb,ml,ms,mn⟩:=m;obtain⟨h1,h2,h3,h4,h5,h6⟩:=h;have k1:=pR p.sh zE;have k2:=pS p.aN zE;have k4:=pT p.bks zE;have k5:=Dn p.cls zE;refine Xl vn (Z0 p) zd ?_;simp[IY,Qa,Z0,Km,hn];refine⟨k1,k2,ZZ _ _ _ ?_⟩;simp;refine Qi ez (fun f m=>f 22=I 0/\m=⟨mb++[[I p.ch,I p.nu,I p.de,I p.of,.sl .ro (p.sh.map Qe),I p.ep,I p.rg,I p.ln,I p.fi,.sl .ro (p.aN.map Qm),.sl (.own ml.length 7) [],.sl .ro (p.bks.map Xi),.sl .ro (p.cls.map Qg)],[I 0,I 0,I 0,I 0,.sl .nil [],I 0,I 0,I 0,I 0,.sl .nil [],.sl .nil [],.sl .nil [],.sl .nil []]],ml++[0],ms,mn⟩) (fun f _=>0) ?_ ?_
 ·exact⟨zd,zd⟩
 rintro f m ⟨f22,rfl⟩;simp[f22,ez,IZ,Z0,Km];refine⟨k4,k5,?_⟩;simp[Un]at hK;exact hK _ _
def DJ(f:Int)(o:Od):En:={o.nw with ea:=if o.nw.ea<f then f else o.nw.ea}
def afr(g:Pg)(b:QR):Int:=Ur (fun e:En=>!(gG b e.id)) g.p.ens 0
def RB(g:Pg)(b:QR):Nat:=if afr g b<0 then g.p.ens.length else(afr g b).toNat
def nT(g:Pg)(f:Int)(b:QR)(o:Od):Pl:={g.p with ens:=g.p.ens.take (RB g b)++DJ f o::g.p.ens.drop (RB g b)}
def afs{α:Type}(P:α->Bool)(L:List α)(i:Nat):Ur P L i= -1\/∃k:Nat,k<L.length/\Ur P L i=((i+k:Nat):Int):=by
 cases h:L.find? P with
 |none=>exact .inl (Qdh h)
 |some a=>
  obtain⟨k,h1,h2,_⟩:=Wm (i:=i) h;exact .inr ⟨k,(zza.1 h2).1,h1⟩
def aft(Y:YT)(m:AM)(rt:Rt)(kk:Nat)(K:So)(hK:K (I (-1)) m):aB Tryz.prog aD Y 148 [.sl rt [],.fn 149 [] [.ptr kk 0]] m K:=by
 obtain⟨mb,ml,ms,mn⟩:=m;refine aB.mono (aB.read (K:=fun r=>r=I (-1)) (Xl Cb (fun _ _ _=>.gd false .junk) zd ?_)) (by rintro r m' ⟨rfl,rfl⟩;exact hK);simp[MU];refine Qi eW (fun s m=>s 8=I 0/\m=⟨mb,ml,ms,mn⟩) (fun s _=>0) ?_ ?_
 ·exact⟨zd,rfl⟩
 rintro s m ⟨f8,rfl⟩;simp[f8,eW,Au];exact nP
def aja:UV:=fun _ f l=>if f=119 then l.headD .junk else if f=999999 then .aJ 0 []else .gd false .junk
def Z2:UV:=fun _ f l=>if f=119 then l.headD .junk else if f=999999 then .junk else .gd false .junk
def LI(Y:YT)(m:AM)(g:Pg)(f:Int)(mid:Nat)(b:QR)(o:Od)(hp:Br g.p)(hb:fP m.boxes mid b)(ho:o.nw.al.length<=8796093022208)(K:So)
  (hK:∀ex V ls,mC (m.boxes++ex) V (nT g f b o).ens->GR m.boxes.length V->K (.aS [.agg (Xp (nT g f b o) V (.sl .ro (g.p.cls.map Qg)) 0),.bool true]) {m with boxes:=m.boxes++ex,lens:=m.lens++ls}):
  aB Tryz.prog aD Y 93 [.agg (Qr g f mid),.agg (Qq o)] m K:=by
 obtain⟨mb,ml,ms,mn⟩:=m;have hoe:=Wt o.nw ho;simp only[Qd]at hoe;have hB:∀ex,fP (mb++ex) mid b:=fun ex=>⟨by have:=hb.1;simp at this |-;omega,hb.ext ex⟩;by_cases aO:g.p.ens=[]
 ·have kO:=fun ex K hK=>Z1 Y ⟨mb++ex,ml,ms,mn⟩ g.p hp aO K hK;simp only[Qa]at kO;have hx:(nT g f b o).ens=[DJ f o]:=by simp[nT,aO]
  refine Xl TA Z2 zd ?_;simp[akN,akO,Qr,Qj,Qa,Qq,Qd,Qg,Qk,Z2];refine kO _ _ fun c0 c1=>?_;simp[Un];refine aft _ _ _ _ _ ?_;simp;refine⟨hoe,afq _ _ ml.length _ rfl zd _ ?_⟩;simp;exact hK _ (.sl (.own ml.length 7) [Qd (DJ f o)]) [1] (.inl ⟨_,by rw[hx];rfl,Dy.own _ _⟩) (GR.sl _ _ _)
 have kO:=fun ex K hK=>yp Y ⟨mb++ex,ml,ms,mn⟩ g.p hp aO K hK;simp only[Qa]at kO;refine Xl TA aja zd ?_;simp[akN,akO,Qr,Qj,Qa,Qq,Qd,Qg,Qk,aja];refine kO _ _ fun c0 c1 bx=>?_;simp[Un,zzan];have hl9:g.p.ens.length<=1000000:=hp.2.2.1;refine aB.mono (LH _ _ g f mid mb.length b (mb.length+5) g.p.ens [] zE zd (by simp[Qr,Qj,Qa]) (hB _) zd (by simp[eF])) ?_;rintro r m' ⟨rfl,rfl⟩;have ij:0<g.p.ens.length:=zzdh.2 aO;rcases afs (fun e:En=>!(gG b e.id)) g.p.ens 0 with hI|⟨k,hk,hI⟩
 ·have hJ:RB g b=g.p.ens.length:=by unfold RB afr;rw[hI,if_pos zE]
  have hP:(nT g f b o).ens=g.p.ens++[DJ f o]:=by simp[nT,hJ]
  rw[hI];simp[zzan];refine⟨hoe,afp _ _ _ _ _ (eF g.p.ens) (Qd (DJ f o)) (Ke zd (by simp[eF])) (Ke zd (by simp[DJ,Qd])) (Jb _) ij zE rfl rfl _ ?_⟩;simp[zzan];have h3:=fun ex k h1 h2 h4=>hK ex (.bs k 0 (g.p.ens.length+1) 7) [] (.inr ⟨k,[],by rw[hP];simp,h1,h2,rfl⟩) (GR.bs h4);simp only[zzar]at h3;exact h3 _ (mb.length+(bx.length+9)) zd (by simp[hP,pW,Qd]) zd
 have hJ:RB g b=k:=by unfold RB afr;rw[hI,if_neg zE];omega
 have lJ:Ur (fun e:En=>!(gG b e.id)) g.p.ens 0=(k:Int):=by rw[hI];omega
 have Eg:¬(k:Int)<0:=zE
 have hP:(nT g f b o).ens=g.p.ens.take k++DJ f o::g.p.ens.drop k:=by simp[nT,hJ]
 rw[lJ];simp[zzan,Eg];refine⟨hoe,RA _ _ _ _ _ _ (eF (g.p.ens.take k)) (eF (g.p.ens.drop k)) (Qd (DJ f o)) (Ke zd (by rw[<- pW,zzec];simp[eF])) (Ke zd (by simp[DJ,Qd])) zE rfl (by rw[Jb,zzaq];omega) (by rw[Jb,zzcw]) hk zE _ ?_⟩;simp[zzan];have h3:=fun ex k h1 h2 h4=>hK ex (.bs k 0 (g.p.ens.length+1) 7) [] (.inr ⟨k,[],by rw[hP];simp;omega,h1,h2,rfl⟩) (GR.bs h4);simp only[zzar]at h3;exact h3 _ (mb.length+(bx.length+9)) zd (by simp[hP,pW,Qd]) zd
def DK(f:Int)(e:bn):bn:={e with fr:=if f-e.st<e.fr then f-e.st else e.fr}
def Zd(f:Int):List bn->List bn
 |[]=>[]
 |e::r=>if f<=e.st then Zd f r else DK f e::Zd f r
def yD(f:Int):∀(l r:List bn),Zd f (l++r)=Zd f l++Zd f r
 |[],_=>rfl
 |e::l,r=>by
  simp only[zzae,Zd,yD f l r];split<;>rfl
def Qdt(f:Int):∀(l:List bn),(Zd f l).length<=l.length
 |[]=>zzab _
 |e::l=>by
  have:=Qdt f l;simp only[Zd];split<;>simp<;>omega
def ajb(ml:Pa)(o:List bn)(v:AV)(ls:Pa):Prop:=(o=[]/\v=.sl .nil []/\ls=ml)\/(o≠[]/\v=.sl (.own ml.length 7) (o.map Qf)/\ls=ml++[o.length])
def ato(l:List bn)(F:Int)(mb:T5)(ml:Pa)(ms:Nat->LS)(mn:Nat)(g:Nat->AV)(m:AM):Prop:=
 ∃(i:Nat)(bx:T5)(ls:Pa),i<=l.length/\g 11=I i/\m=⟨mb++bx,ls,ms,mn⟩/\ajb ml (Zd F (l.take i)) (g 5) ls
def Z3:UV:=fun _ g l=>if g=64 then l.headD .junk else .junk
def yE(Y:YT)(m:AM)(l:List bn)(f:Int)(hl:l.length<=1000000)(hs:∀e∈l,Jt e)(hf:0<=f/\f<=1000000)(K:So)
  (hK:∀ex v ls,ajb m.lens (Zd f l) v ls->K v {m with boxes:=m.boxes++ex,lens:=ls}):aB Tryz.prog aD Y 105 [.sl .ro (l.map Qf),I f] m K:=by
 obtain⟨mb,ml,ms,mn⟩:=m;refine Xl abS Z3 zd ?_;simp[TH,agr];refine Qi vo (ato l f mb ml ms mn) (fun g _=>l.length-(numOf (g 11)).toNat) ?_ ?_
 ·exact⟨0,[],ml,zE,zd,zd,.inl ⟨by simp[Zd],zd,rfl⟩⟩
 rintro g m ⟨i,bx,ls,hi,pn,rfl,aX⟩;rcases zzaa i l.length with ah|bq
 ·obtain⟨a,ha⟩:=aV ah;have ai:Qh (l.map Qf) i=Qf a:=Qu (by simp[ha]);have hw:=bO i zE;have bB:l.take (i+1)=l.take i++[a]:=by rw[zzb,ha];rfl
  have aa:(i:Int)<(l.length:Int):=zE
  obtain⟨⟨a1,a2⟩,⟨a3,a4⟩,a5,a6⟩:=hs a (zzad ha);have fS:=Qdt f (l.take i);have azh:(Zd f (l.take i)).length<=1000000:=by simp at fS;omega
  by_cases h1:f<=a.st
  ·have hb:Zd f (l.take (i+1))=Zd f (l.take i):=by rw[bB,yD];simp[Zd,h1]
   simp[pn,ai,ah,Qf,h1,hw,vo];refine⟨aQ,⟨i+1,_,ls,zE,zd,rfl,?_⟩,zE⟩
   ·rw[hb];exact aX
  have hb:Zd f (l.take (i+1))=Zd f (l.take i)++[DK f a]:=by rw[bB,yD];simp[Zd,h1]
  have wf1:=wu f zE zE;have wf2:=wu a.st zE zE;have wf3:=wu a.fr zE zE;have wf4:=wu (f-a.st) zE zE;have wf5:IntKind.i64.wrap (f-a.st)=f-a.st:=by rw[Ql]<;>omega
  have qs:=Qck a.al a6;obtain⟨fr',amG⟩:∃fr',fr'=if f-a.st<a.fr then f-a.st else a.fr:=⟨_,rfl⟩;have SI:Qf (DK f a)=[I a.id,I a.it,I a.st,I fr',I a.i,I a.re,.sl .ro (a.al.map Qe)]:=by rw[amG];rfl
  have oo:(0<a.fr/\f-a.st<a.fr/\fr'=f-a.st)\/(0<a.fr/\¬f-a.st<a.fr/\fr'=a.fr)\/(¬0<a.fr/\fr'=a.fr):=by
   rw[amG];by_cases h0:0<a.fr
   ·by_cases hc:f-a.st<a.fr
    ·exact .inl ⟨h0,hc,by simp[hc]⟩
    exact .inr (.inl ⟨h0,hc,by simp[hc]⟩)
   exact .inr (.inr ⟨h0,by rw[if_neg zE]⟩)
  have wm:(Zd f (l.take (i+1))).length=(Zd f (l.take i)).length+1:=by rw[hb];simp
  have Rw:Zd f (l.take (i+1))≠[]:=by rw[hb];simp
  have fin:(Zd f (l.take (i+1))).map Qf=(Zd f (l.take i)).map Qf++[[I a.id,I a.it,I a.st,I fr',I a.i,I a.re,.sl .ro (a.al.map Qe)]]:=by rw[hb,zzci,<- SI];rfl
  clear amG SI;have XT:=aX;clear aX;obtain⟨e0,h5,rfl⟩|⟨e0,h5,rfl⟩:=XT
  ·rw[e0]at fin wm;obtain⟨h0,hc,rfl⟩|⟨h0,hc,rfl⟩|⟨h0,rfl⟩:=oo
   all_goals
    simp[Qf,Z3,vo, *];refine⟨aQ,⟨i+1,_,_,zE,zd,rfl,.inr ⟨Rw,?_,?_⟩⟩,zE⟩
    ·simp[fin]
    rw[wm];rfl
  obtain⟨h0,hc,rfl⟩|⟨h0,hc,rfl⟩|⟨h0,rfl⟩:=oo
  all_goals
   simp[Qf,Z3,vo, *];refine⟨⟨by rintro row (⟨x,_,rfl⟩|rfl)<;>rfl,zE⟩,ag ?_,⟨i+1,_,_,zE,zd,rfl,.inr ⟨Rw,?_,?_⟩⟩,zE⟩
   ·repeat(first|exact Qb _ _|refine Qc _ rfl ?_)
   ·simp[fin]
   rw[wm]
 have hbf:l.take i=l:=zzau bq;rw[hbf]at aX;simp[pn,zzbk.2 bq,vo];exact hK _ _ _ aX
def yF(n a b:Int)(ha:0<=a/\a<=1000000000)(hb:0<=b/\b<=1000000000):Pure Tryz.prog aD 165 [I n,I a,I b] (.bool (decide (n=a+b))):=by
 have hw:IntKind.i64.wrap (a+b)=a+b:=by rw[Ql]<;>omega
 have h1:¬a<0:=zE
 have h2:¬b<0:=zE
 have h3:¬a+b<0:=zE
 refine Qp acJ (fun _ _ _=>.junk) zd ?_;by_cases h:n=a+b<;>simp[ag8,ag9,hw,h1,h2,h3,h]
def RC(e:bn):Ad:=⟨e.it,0,e.st,e.fr⟩
def rJ(n:Int):List Ad->List Ad
 |[]=>[]
 |[a]=>[{a with fs:=a.fs+n}]
 |a::b::r=>a::rJ n (b::r)
def Hf(n:Int)(a:Ad):∀l:List Ad,rJ n (l++[a])=l++[{a with fs:=a.fs+n}]
 |[]=>rfl
 |[x]=>rfl
 |x::y::r=>by have:=Hf n a (y::r);simp only[zzae]at this |-;rw[rJ,this]
def yG(x e:bn):Prop:=x.id=e.id/\e.st=x.st+x.fr/\e.i=x.i+x.fr
instance (x e:bn):Decidable (yG x e):=by unfold yG;infer_instance
def Yv(x:Option bn)(e:bn)(out:List Ad):List Ad:=
 if e.id=0 then out else match x with
 |none=>out++[RC e]
 |some x=>if yG x e then rJ e.fr out else out++[RC e]
def uf:Option bn->List bn->List Ad->List Ad
 |_,[],out=>out
 |x,e::r,out=>uf (some e) r (Yv x e out)
def RD(l:List bn)(f:Int):List Ad:=uf none (Zd f l) []
def BC(e:bn):∀(l:List bn)(x:Option bn)(out:List Ad),uf x (l++[e]) out=Yv (match l.getLast? with|some y=>some y|none=>x) e (uf x l out)
 |[],_,_=>rfl
 |[a],_,_=>rfl
 |a::b::r,x,out=>by
  have:=BC e (b::r) (some a) (Yv x a out);simp only[zzae]at this |-
  rw[uf,this,List.getLast?_cons_cons];congr 1
def afu{n:Int}:∀{l:List Ad},l≠[]->rJ n l≠[]
 |[],h=>absurd rfl h
 |[a],_=>by simp[rJ]
 |a::b::r,_=>by simp[rJ]
def rK{B:List bn}{i:Nat}{e:bn}(h:B[i]?=some e):uf none (B.take (i+1)) []=Yv (if i=0 then none else B[i-1]?) e (uf none (B.take i) []):=by
 have ah:=(zza.1 h).1;rw[zzb,h];show uf none (B.take i++[e]) []=_;rw[BC];congr 1;cases i with
 |zero=>rfl
 |succ i=>
  have hx:B[i]?=some B[i]:=zzaf zE;rw[zzb,hx,Option.toList_some,List.getLast?_concat,if_neg zE,zzga,hx]
def Ov{B:List bn}:∀{i:Nat}{e:bn},B[i]?=some e->e.id≠0->uf none (B.take (i+1)) []≠[]
 |0,e,h,h0=>by rw[rK h,if_pos rfl];simp[Yv,h0]
 |i+1,e,h,h0=>by
  rw[rK h,if_neg zE,zzga];have ah:=(zza.1 h).1;obtain⟨x,hx⟩:∃x,B[i]?=some x:=⟨_,zzaf zE⟩;rw[hx];unfold Yv;rw[if_neg h0];simp only;split
  ·rename_i hj;exact afu (Ov hx (by rw[hj.1];exact h0))
  simp
def nU(f:Int)(hf:f<=1000000):∀(l:List bn),(∀e∈l,Jt e)->∀e∈Zd f l,Jt e
 |[],_,e,h=>by cases h
 |a::r,hs,e,h=>by
  have ih:=nU f hf r fun e he=>hs e (by simp[he]);rw[Zd]at h;split at h
  ·exact ih e h
  rename_i bY;rcases zzam.1 h with rfl|h
  ·obtain⟨⟨a1,a2⟩,⟨a3,a4⟩,a5,a6⟩:=hs a zd;refine⟨⟨a1,a2⟩,?_,a5,a6⟩;simp only[DK];split<;>omega
  exact ih e h
def FsB(n:Int)(out:List Ad):Prop:=∀a∈out,0<=a.fs/\a.fs<=n
def FsB.inc{n k:Int}(hk:0<=k/\k<=1000000):∀{l:List Ad},FsB n l->FsB (n+1000000) (rJ k l)
 |[],_,a,h=>by cases h
 |[x],hl,a,h=>by
  have:=hl x zd;simp only[rJ,zzcg]at h;subst h;simp only;omega
 |x::y::r,hl,a,h=>by
  rw[rJ]at h;rcases zzam.1 h with rfl|h
  ·have:=hl a zd;omega
  exact FsB.inc hk (l:=y::r) (fun b hb=>hl b (by simp[hb])) a h
def FsB.step{n:Int}{x:Option bn}{e:bn}{out:List Ad}(h:FsB n out)(hn:0<=n)(he:Jt e):FsB (n+1000000) (Yv x e out):=by
 obtain⟨_,h3,_⟩:=he;have hw:FsB (n+1000000) out:=fun a ha=>by have:=h a ha;omega
 have hp:FsB (n+1000000) (out++[RC e]):=fun a ha=>by
  rcases zzao.1 ha with ha|ha
  ·exact hw a ha
  simp only[zzcg]at ha;subst ha;simp only[RC];omega
 unfold Yv;split
 ·exact hw
 cases x with
 |none=>exact hp
 |some x=>
  simp only;split
  ·exact h.inc h3
  exact hp
def Hg(B:List bn)(x:Option bn)(out:List Ad):(uf x B out).length<=out.length+B.length:=by
 induction B generalizing x out with
 |nil=>simp[uf]
 |cons e r ih=>
  rw[uf];have h1:=ih (some e) (Yv x e out)
  have h2:(Yv x e out).length<=out.length+1:=by
   have hi:∀(k:Int)(l:List Ad),(rJ k l).length=l.length:=by
    intro k l;induction l with
    |nil=>rfl
    |cons a r ih=>cases r with
     |nil=>rfl
     |cons b r=>rw[rJ,zzaz,ih];rfl
   unfold Yv;split
   ·omega
   cases x with
   |none=>simp
   |some x=>
    simp only;split
    · rw[hi];omega
    simp
  simp only[zzaz];omega
def tq(l:List Ad):P2:=(l.map Vj).flatten
def u9:∀l,(tq l).length=l.length*4
 |[]=>rfl
 |a::r=>by have:=u9 r;simp only[tq,zzas,zzcj,zzak]at this |-;rw[this];simp[Vj];omega
def afv(a b:List Ad):tq (a++b)=tq a++tq b:=by simp[tq]
def amH(l:List Ad):Zl (tq l)=true:=kW (fun _=>rfl) l
def RE{bx:T5}{k:Nat}{c:P2}(h:k<bx.length)(ex:T5):Qh (bx.set k c++ex) k=c:=
 Qu (by rw[zzaj (Nm h)];simp[h])
def rM(bx:T5)(k:Nat)(c p q r:P2):Qh (bx.set k c++[p,q,r]) (bx.length+2)=r:=
 Qu (by rw[zzap zd];simp)
def RF(l:List Ad):aY 4 l.length (tq l)=l.map Vj:=by
 have:=Qbr (sz:=4) (rows:=l.map Vj) (kX (f:=Vj) (fun _=>rfl) l);rw[zzbv]at this;exact this
def Ow(bx:T5)(o:List Ad)(v:AV):Prop:=(o=[]/\v=.sl .nil [])\/(o≠[]/\∃k,v=.bs k 0 o.length 4/\k<bx.length/\Qh bx k=tq o)
def atp(B:List bn)(ls:Pa)(g:Nat->AV)(m:AM):Prop:=
 ∃(i:Nat)(bx:T5),g 15=I i/\i<=B.length/\m=⟨bx,ls,fun _=>.gone,0⟩/\Ow bx (uf none (B.take i) []) (g 5)/\FsB (i*1000000) (uf none (B.take i) [])
def mF:UV:=fun d f l=>if f=105 then .gd false .junk else if f=165 then(match l with|[.int _ n,.int _ a,.int _ b]=>.bool (decide (n=a+b))|_=>.junk)else if f=999999 then(if d=73 then .junk else .aJ 0 [])else .junk
def Ow.ext{bx:T5}{o:List Ad}{v:AV}(h:Ow bx o v)(ex:T5):Ow (bx++ex) o v:=by
 obtain h|⟨h0,k,h1,h2,h3⟩:=h
 ·exact .inl h
 exact .inr ⟨h0,k,h1,by simp;omega,by rw[Qn h2,h3]⟩
def LJ(l:List bn)(f:Int)(hl:l.length<=1000000)(hs:∀e∈l,Jt e)(hf:0<=f/\f<=1000000):Pure Tryz.prog aD 109 [.sl .ro (l.map Qf),I f] (.sl .ro ((RD l f).map Vj)):=by
 have hsB:=nU f hf.2 l hs;have hlB:(Zd f l).length<=1000000:=by have:=Qdt f l;omega
 have:Pure Tryz.prog aD 109 [.sl .ro (l.map Qf),I f] (.sl (if RD l f=[]then .nil else .ro) ((RD l f).map Vj)):=by
  refine Qp abV mF zd ?_;simp[TI,agv,mF];refine yE _ _ l f hl hs hf _ fun ex v ls hO=>?_
  obtain⟨rt,rfl⟩:∃rt,v=.sl rt ((Zd f l).map Qf):=by
   obtain⟨e,rfl,_⟩|⟨e,rfl,_⟩:=hO
   ·exact⟨.nil,by rw[e];rfl⟩
   exact⟨_,rfl⟩
  clear hO;unfold RD;generalize Zd f l=B at*
  simp;refine Qi dV (atp B ls) (fun g _=>B.length-(numOf (g 15)).toNat) ?_ ?_
  ·exact⟨0,ex,zd,zE,zd,.inl ⟨by simp[uf],zd⟩,fun a h=>by simp[uf]at h⟩
  rintro g m ⟨i,bx,sK,hi,rfl,hO,hF⟩;rcases zzaa i B.length with ah|bq
  ·obtain⟨a,ha⟩:=aV ah;have ai:Qh (B.map Qf) i=Qf a:=Qu (by simp[ha]);have hw:=bO i zE;have aa:(i:Int)<(B.length:Int):=zE
   have lM:=hsB a (zzad ha);have bB:=rK ha;have QL:=hF.step (x:=if i=0 then none else B[i-1]?) (e:=a) zE lM;rw[<- bB]at QL;obtain⟨⟨a1,a2⟩,⟨a3,a4⟩,⟨a5,a6⟩,a7⟩:=lM;by_cases h0:a.id=0
   ·simp[sK,ai,ah,Qf,h0,dV,hw];refine⟨aQ,⟨i+1,_,zd,zE,rfl,?_,?_⟩,zE⟩
    ·simp[Yv,h0]at bB;rw[bB];simpa using hO.ext _
    have:((i+1:Nat):Int)*1000000=(i:Int)*1000000+1000000:=zE
    rw[this];exact QL
   cases i with
   |zero=>
    have e1:uf none (B.take 1) []=[RC a]:=by rw[bB];simp[Yv,h0,uf]
    have hO0:g 5=.sl .nil []:=by
     obtain⟨_,h⟩|⟨h,_⟩:=hO
     ·exact h
     exact absurd (by simp[uf]) h
    have gU:IntKind.i64.wrap 1=1:=by rw[Ql]<;>omega
    simp at sK;simp[sK,ai,ah,Qf,h0,dV,gU,hO0,mF];refine⟨aQ,⟨1,_,zd,zE,rfl,.inr ⟨by rw[e1];simp,bx.length+1,by simp[e1],zd,?_⟩,?_⟩,zE⟩
    ·simp[e1,tq,Vj,RC]
    simpa using QL
   |succ i=>
    have axY:i<B.length:=zE
    obtain⟨x,hx⟩:=aV axY;have yH:Qh (B.map Qf) i=Qf x:=Qu (by simp[hx]);obtain⟨⟨x1,x2⟩,⟨x3,x4⟩,⟨x5,x6⟩,x7⟩:=hsB x (zzad hx);have k1:=yF a.st x.st x.fr zE zE;have k2:=yF a.i x.i x.fr zE zE;have SK:IntKind.i64.wrap (i:Int)=i:=by rw[Ql]<;>omega
    have yI:(i:Int)<(B.length:Int):=zE
    have ij:(0:Int)<(i:Int)+1:=zE
    rw[if_neg zE,zzga,hx]at bB;have aO:=Ov hx;have uH:((i+1+1:Nat):Int)*1000000=((i+1:Nat):Int)*1000000+1000000:=zE
    have zT:=Hg (B.take (i+1)) none [];have amI:¬yG x a->uf none (B.take (i+1+1)) []=uf none (B.take (i+1)) []++[RC a]:=fun h=>by rw[bB];simp[Yv,h0,h]
    have LK:yG x a->uf none (B.take (i+1+1)) []=rJ a.fr (uf none (B.take (i+1)) []):=fun h=>by rw[bB];simp[Yv,h0,h]
    rw[<- uH]at QL;clear bB;generalize uf none (B.take (i+1)) []=out at*
    generalize cO:uf none (B.take (i+1+1)) []=out' at*
    simp at sK ah aa hw zT;have atq:out.length<=1000000:=zE
    by_cases hj:yG x a
    ·have e1:=LK hj;obtain⟨j1,j2,j3⟩:=hj;have aO:=aO (by rw[j1];exact h0)
     obtain⟨O,z,rfl⟩:∃O z,out=O++[z]:=by
      rcases zzhc out with e|⟨O,z,e⟩
      ·exact absurd e aO
      exact⟨O,z,by rw[e,zzhd]⟩
     have hOl:(tq O).length=O.length*4:=u9 O;have hz:=hF z zd;have hwz:IntKind.i64.wrap (z.fs+a.fr)=z.fs+a.fr:=by rw[Ql]<;>omega
     have afw:∀X:P2,(tq O++X).drop (O.length*4+3)=X.drop 3:=fun X=>Bw _ _ _ _ hOl;have hs3:∀X Y:P2,setA (tq O++X) (O.length*4+3) Y=tq O++setA X 3 Y:=fun X Y=>Bv _ _ _ _ _ hOl;obtain⟨e,_⟩|⟨_,k,h5,hk,hr⟩:=hO
     ·exact absurd e aO
     have hR:∀ex,Qh (bx++ex) k=tq O++[I z.it,I z.re,I z.fr,I z.fs]:=fun ex=>by rw[Qn hk,hr,afv];rfl
     rw[Hf]at e1;rw[zzak,zzh]at h5;have hwo:IntKind.i64.wrap (O.length:Int)=O.length:=by simp at atq;rw[Ql]<;>omega
     have qt:k<bx.length+1:=zE
     have Z4:k<bx.length+(1+1):=zE
     have axZ:k<bx.length+2:=zE
     simp[sK,ai,aa,Qf,h0,dV,hw,yH,yI,ij,SK,mF,j1,j2,j3,h5,hR,hwo,afw,hs3,hOl,hwz,hk,Z4];refine⟨zE,by rw[j2]at k1;simpa using k1,by rw[j3]at k2;simpa using k2,zE,aQ,⟨i+1+1,_,zd,zE,rfl,.inr ⟨by rw[cO,e1];simp,k,by rw[cO,e1];simp,by simp;omega,?_⟩,by rw[cO];exact QL⟩,zE⟩
     ·rw[cO,e1,RE hk];simp[tq,Vj]
    have e1:=amI hj
    have fU:¬x.id=a.id\/(x.id=a.id/\¬a.st=x.st+x.fr)\/(x.id=a.id/\a.st=x.st+x.fr/\¬a.i=x.i+x.fr):=by
     unfold yG at hj;by_cases j1:x.id=a.id
     ·by_cases j2:a.st=x.st+x.fr
      ·exact .inr (.inr ⟨j1,j2,fun j3=>hj ⟨j1,j2,j3⟩⟩)
      exact .inr (.inl ⟨j1,j2⟩)
     exact .inl j1
    obtain⟨rfl,h5⟩|⟨Rw,k,h5,hk,hr⟩:=hO
    ·obtain j1|⟨j1,j2⟩|⟨j1,j2,j3⟩:=fU
     ·simp[sK,ai,aa,Qf,h0,dV,hw,yH,yI,ij,SK,mF,j1,h5];refine⟨zE,aQ,⟨i+1+1,_,zd,zE,rfl,.inr ⟨by rw[cO,e1];simp,bx.length+2,by rw[cO,e1];simp,zd,?_⟩,by rw[cO];exact QL⟩,zE⟩
      ·rw[cO,e1];simp[tq,Vj,RC]
     ·simp[sK,ai,aa,Qf,h0,dV,hw,yH,yI,ij,SK,mF,j1,j2,h5];refine⟨zE,by simpa[j2]using k1,aQ,⟨i+1+1,_,zd,zE,rfl,.inr ⟨by rw[cO,e1];simp,bx.length+2,by rw[cO,e1];simp,zd,?_⟩,by rw[cO];exact QL⟩,zE⟩
      ·rw[cO,e1];simp[tq,Vj,RC]
     simp[sK,ai,aa,Qf,h0,dV,hw,yH,yI,ij,SK,mF,j1,j2,j3,h5];refine⟨zE,by rw[j2]at k1;simpa using k1,by simpa[j3]using k2,aQ,⟨i+1+1,_,zd,zE,rfl,.inr ⟨by rw[cO,e1];simp,bx.length+2,by rw[cO,e1];simp,zd,?_⟩,by rw[cO];exact QL⟩,zE⟩
     ·rw[cO,e1];simp[tq,Vj,RC,j2]
    have hR:∀ex,Qh (bx++ex) k=tq out:=fun ex=>by rw[Qn hk,hr]
    have qt:k<bx.length+1:=zE
    have Z4:k<bx.length+(1+1):=zE
    have axZ:k<bx.length+2:=zE
    have hlo:=u9 out;have amJ:¬tq out=[]:=by intro h;rw[h]at hlo;exact Rw (zzbe (by simp at hlo;omega))
    have ZA:List.take (out.length*4) (tq out)=tq out:=zzau zE;obtain j1|⟨j1,j2⟩|⟨j1,j2,j3⟩:=fU
    ·simp[sK,ai,aa,Qf,h0,dV,hw,yH,yI,ij,SK,mF,j1,h5,hR,hk,Z4,hlo,amJ,ZA];refine⟨zE,zE,aQ,⟨i+1+1,_,zd,zE,rfl,.inr ⟨by rw[cO,e1];simp,bx.length+2,by rw[cO,e1];simp,zd,?_⟩,by rw[cO];exact QL⟩,zE⟩
     ·rw[cO,e1,rM];simp[tq,Vj,RC]
    ·simp[sK,ai,aa,Qf,h0,dV,hw,yH,yI,ij,SK,mF,j1,j2,h5,hR,hk,Z4,hlo,amJ,ZA];refine⟨zE,by simpa[j2]using k1,zE,aQ,⟨i+1+1,_,zd,zE,rfl,.inr ⟨by rw[cO,e1];simp,bx.length+2,by rw[cO,e1];simp,zd,?_⟩,by rw[cO];exact QL⟩,zE⟩
     ·rw[cO,e1,rM];simp[tq,Vj,RC]
    simp[sK,ai,aa,Qf,h0,dV,hw,yH,yI,ij,SK,mF,j1,j2,j3,h5,hR,hk,Z4,hlo,amJ,ZA];refine⟨zE,by rw[j2]at k1;simpa using k1,by simpa[j3]using k2,zE,aQ,⟨i+1+1,_,zd,zE,rfl,.inr ⟨by rw[cO,e1];simp,bx.length+2,by rw[cO,e1];simp,zd,?_⟩,by rw[cO];exact QL⟩,zE⟩
    ·rw[cO,e1,rM];simp[tq,Vj,RC,j2]
  obtain rfl:i=B.length:=zE
  rw[zzbu]at hO;obtain⟨e,h5⟩|⟨e,k,h5,hk,hr⟩:=hO
  ·simp[sK,dV,h5,e]
  simp[sK,dV,h5,e];rw[hr,Va _ _ (amH _),u9,if_pos (zzab _),RF]
 exact Zh this (Wk.sl _ _)
def Kv(g:Pg)(f:Int)(b:QR)(o:Od):Option (Pl×Int):=
 if o.ki=1 then rC g f b o else if o.ki=2 then(yu g o).map fun q=>(q,0)else if o.ki=3 then some (nT g f b o,0)else some (Dz g o,0)
def zq(g:Pg)(f:Int)(b:QR)(o:Od)(q:Pl)(d:Int):Bool:=
 if o.ki=1 then Qce g f b o q d else if o.ki=2 then !(Dv g f b o.en)else if o.ki=3 then p8 g o else true
def Jk(g:Pg)(f:Int)(b:QR)(o:Od):Option (Pl×Int):=
 if g.p.ln<=f then none else match Kv g f b o with
 |none=>none
 |some (q,d)=>if(pJ q&&zq g f b o q d)=true then some (q,d)else none
def afx(g:Pg)(f:Int)(b:QR)(o:Od)(e:En):tf (ue g f b o e):=by
 unfold ue;cases Bu g f b o.en with
 |none=>exact Qdz _
 |some st=>
  have h1:=Qdz (e.fr+o.n);have h2:=Qdz (f-st);simp only;first|exact Qdz _|(split<;>assumption)|(unfold tf at*;omega)
structure PlB (q:Pl):Prop where
 sh:q.sh.length<=1000000
 aN:q.aN.length<=1000000
 ens:q.ens.length<=1000001
 bks:q.bks.length<=1000000
 cls:q.cls.length<=1000001
 als:∀e∈q.ens,e.al.length<=8796093022208
def yJ{g:Pg}{f:Int}{b:QR}{o:Od}{q:Pl}{d:Int}(hp:Br g.p)(ho:o.nw.al.length<=8796093022208)(h:Kv g f b o=some (q,d)):PlB q/\q.ln=g.p.ln/\tf d:=by
 obtain⟨h1,h2,h3,h4,h5,h6⟩:=hp;unfold Kv at h;have j0:tf 0:=by unfold tf;omega
 split at h
 ·unfold rC at h;split at h
  ·cases h
  rename_i e he;split at h
  ·cases h
  cases h;refine⟨⟨h1,h2,by simp;omega,h4,by show g.p.cls.length<=_;omega,fun x hx=>?_⟩,rfl,afx _ _ _ _ _⟩;rcases zzgi hx with hx|rfl
  ·exact h6 x hx
  exact h6 e (zzad he)
 split at h
 ·unfold yu at h;split at h
  ·cases h
  cases h;exact⟨⟨h1,h2,by have:=zzcc (fun e=>!mB o.en e) g.p.ens;simp only;omega,h4,by show g.p.cls.length<=_;omega,fun x hx=>h6 x (zzca.1 hx).1⟩,rfl,j0⟩
 split at h
 ·cases h;refine⟨⟨h1,h2,by simp only[nT,zzak,zzaq,zzaz,zzcw];omega,h4,by show g.p.cls.length<=_;omega,fun x hx=>?_⟩,rfl,j0⟩;simp only[nT,zzao,zzam]at hx;obtain hx|rfl|hx:=hx
  ·exact h6 x (zzce hx)
  ·exact ho
  exact h6 x (zzdv hx)
 cases h;exact⟨⟨h1,h2,by show g.p.ens.length<=_;omega,h4,by simp only[Dz,zzak,zzaz,zzco];omega,h6⟩,rfl,j0⟩
def PlB.S{q:Pl}(h:PlB q):PlS q:=⟨by have:=h.sh;omega,by have:=h.aN;omega,by have:=h.ens;omega,by have:=h.bks;omega,by have:=h.cls;omega,h.als⟩
def Hh(q?:Option (Pl×Int)):UV:=fun _ f _=>if f=95 then(match q? with|some (q,_)=>.bool (pJ q)|none=>.junk)else .gd false .junk
def mC.put{mb:T5}{a b c c':P2}{ex:T5}{V:AV}{l:List En}(h:mC (mb++(a::b::c::ex)) V l)(hk:GR (mb.length+3) V)(gH:T5):mC (mb++(a::b::c'::(ex++gH))) V l:=by
 obtain h|⟨k,z,rfl,h2,h3,h4⟩:=h
 ·exact .inl h
 have cE:=hk _ _ _ _ rfl;obtain⟨j,rfl⟩:∃j,k=mb.length+(j+3):=⟨k-mb.length-3,zE⟩;have hg:=Jj h2;rw[h3,zzap zE,zzdz]at hg;simp only[zzcf]at hg;have hj:=(zza.1 hg).1;refine .inr ⟨_,z,rfl,by simp at h2 |-;omega,Qu ?_,h4⟩;rw[zzap zE,zzdz];simp only[zzcf];rw[zzaj hj,hg]
structure Z5 (g:Pg) (f:Int) (o:Od):Prop where
 mo:f<g.p.ln->lQ g f
 pl:Br g.p
 f0:0<=f
 ln:g.p.ln<=1000000
 n:tf o.n
 fr:∀e∈g.p.ens,tf e.fr
 dr:g.dr.length<=1000000000
 al:o.nw.al.length<=8796093022208
def LM(Y:YT)(m:AM)(g:Pg)(f:Int)(mid:Nat)(b:QR)(o:Od)(h:Z5 g f o)(hb:fP m.boxes mid b)(K:So)
  (h0:Jk g f b o=none->∀ex ls,K (.aS [.agg uY,.bool false]) {m with boxes:=m.boxes++ex,lens:=m.lens++ls})
  (h1:∀q d,Jk g f b o=some (q,d)->∀ex V rt ls,mC (m.boxes++ex) V q.ens->GR m.boxes.length V->Dy rt->K (.aS [.agg (Xp q V (.sl rt (q.cls.map Qg)) d),.bool true]) {m with boxes:=m.boxes++ex,lens:=m.lens++ls}):
  aB Tryz.prog aD Y 44 [.agg (Qr g f mid),.agg (Qq o)] m K:=by
 obtain⟨mb,ml,ms,mn⟩:=m;obtain⟨hm,hp,hf0,dA,hn,zL,ei,ho⟩:=h;have hB:∀ex,fP (mb++ex) mid b:=fun ex=>⟨by have:=hb.1;simp at this |-;omega,hb.ext ex⟩;by_cases tO:g.p.ln<=f
 ·have h0:=h0 (by unfold Jk;rw[if_pos tO]);refine Xl Ta (fun _ _ _=>.gd false .junk) zd ?_;simp[Pj,Pk,Qr,Qj,Qa,Qq,Qd,Qg,Qk,tO];have:=fun ex=>h0 ex [];simp[uY]at this;exact this _
 have hm:=hm zE;have JU:tf g.p.ln:=by unfold tf;omega
 have e1:Jk g f b o=match Kv g f b o with
  |none=>none
  |some (q,d)=>if(pJ q&&zq g f b o q d)=true then some (q,d)else none:=by unfold Jk;rw[if_neg tO]
 have key:∃fb fm:FuncId,((o.ki=1/\fb=89/\fm=90)\/(o.ki=2/\fb=91/\fm=92)\/(o.ki=3/\fb=93/\fm=94)\/(¬o.ki=1/\¬o.ki=2/\¬o.ki=3/\fb=87/\fm=88))/\
   (
    ∀(ex:T5)(K:So),(Kv g f b o=none->∀iO,K (.aS [.agg uY,.bool false]) ⟨mb++(ex++iO),ml,ms,mn⟩)->
    (∀q d,Kv g f b o=some (q,d)->∀iO V rt ls,mC (mb++(ex++iO)) V q.ens->GR (mb++ex).length V->Dy rt->K (.aS [.agg (Xp q V (.sl rt (q.cls.map Qg)) d),.bool true]) ⟨mb++(ex++iO),ml++ls,ms,mn⟩)->
    aB Tryz.prog aD Y fb [.agg (Qr g f mid),.agg (Qq o)] ⟨mb++ex,ml,ms,mn⟩ K)/\
   (
    ∀(ex:T5)(ls:Pa)(q:Pl)(d:Int)(V:AV)(rt:Rt)(K:So),Kv g f b o=some (q,d)->mC (mb++ex) V q.ens->Dy rt->K (.bool (zq g f b o q d)) ⟨mb++ex,ml++ls,ms,mn⟩->
    aB Tryz.prog aD Y fm [.agg (Qr g f mid),.agg (Qq o),.agg (Xp q V (.sl rt (q.cls.map Qg)) d)] ⟨mb++ex,ml++ls,ms,mn⟩ K):=by
  by_cases k1:o.ki=1
  ·refine⟨89,90,.inl ⟨k1,rfl,rfl⟩,fun ex K q0 q1=>?_,fun ex ls q d V rt K hq hV aX hK=>?_⟩
   ·have fS:Kv g f b o=rC g f b o:=by unfold Kv;rw[if_pos k1]
    refine aeY Y ⟨mb++ex,ml,ms,mn⟩ g f mid b o hm hp (hB ex) hn JU zL K (fun hx iO=>?_) (fun q d hx iO k Ny hk hr=>?_)
    ·have:=q0 (by rw[fS];exact hx) iO;simpa using this
    have:=q1 q d (by rw[fS];exact hx) iO (.bs k 0 q.ens.length 7) .ro [] (.inr ⟨k,[],rfl,Nm hk,by simpa[eF]using hr,rfl⟩) (GR.bs Ny) Dy.ro;simpa using this
   have DL:zq g f b o q d=Qce g f b o q d:=by unfold zq;rw[if_pos k1]
   obtain⟨SU,hql,hqd⟩:=yJ hp ho hq
   have hqe:q.ens.length=g.p.ens.length/\q.cls=g.p.cls:=by
    have fS:Kv g f b o=rC g f b o:=by unfold Kv;rw[if_pos k1]
    rw[fS]at hq;unfold rC at hq;split at hq
    ·cases hq
    split at hq
    ·cases hq
    cases hq;exact⟨zd,rfl⟩
   refine aB.mono (LD Y ⟨mb++ex,ml++ls,ms,mn⟩ g f mid b o q V rt d hV aX hm (hB ex) ei ⟨SU.sh,SU.aN,by rw[hqe.1];exact hp.2.2.1,SU.bks,by rw[hqe.2];exact hp.2.2.2.2.1,SU.als⟩ zE hqd) ?_;rintro r m' ⟨rfl,rfl⟩;rw[<- DL];exact hK
  by_cases k2:o.ki=2
  ·refine⟨91,92,.inr (.inl ⟨k2,rfl,rfl⟩),fun ex K q0 q1=>?_,fun ex ls q d V rt K hq hV aX hK=>?_⟩
   ·have fS:Kv g f b o=(yu g o).map fun q=>(q,0):=by unfold Kv;rw[if_neg k1,if_pos k2]
    refine ZH Y ⟨mb++ex,ml,ms,mn⟩ g f mid o hm hp K (fun hx iO=>?_) (fun q hx iO k z Ny hk hr hz=>?_)
    ·have:=q0 (by rw[fS,hx];rfl) iO;simpa using this
    have:=q1 q 0 (by rw[fS,hx];rfl) iO (.bs k 0 q.ens.length 7) .ro [] (.inr ⟨k,z,rfl,Nm hk,Nm hr,hz⟩) (GR.bs Ny) Dy.ro;simpa using this
   have DL:zq g f b o q d=!(Dv g f b o.en):=by unfold zq;rw[if_neg k1,if_pos k2]
   refine aB.mono (GU Y ⟨mb++ex,ml++ls,ms,mn⟩ g f mid b o q V rt d hV hm (hB ex)) ?_;rintro r m' ⟨rfl,rfl⟩;rw[<- DL];exact hK
  by_cases k3:o.ki=3
  ·refine⟨93,94,.inr (.inr (.inl ⟨k3,rfl,rfl⟩)),fun ex K q0 q1=>?_,fun ex ls q d V rt K hq hV aX hK=>?_⟩
   ·have fS:Kv g f b o=some (nT g f b o,0):=by unfold Kv;rw[if_neg k1,if_neg k2,if_pos k3]
    refine LI Y ⟨mb++ex,ml,ms,mn⟩ g f mid b o hp (hB ex) ho K (fun iO V ls hV LN=>?_);have:=q1 _ 0 fS iO V .ro ls (Nm hV) LN Dy.ro;simpa[nT]using this
   have DL:zq g f b o q d=p8 g o:=by unfold zq;rw[if_neg k1,if_neg k2,if_pos k3]
   refine aB.mono (LC Y ⟨mb++ex,ml++ls,ms,mn⟩ g f mid o q V rt d hV hm ei) ?_;rintro r m' ⟨rfl,rfl⟩;rw[<- DL];exact hK
  refine⟨87,88,.inr (.inr (.inr ⟨k1,k2,k3,rfl,rfl⟩)),fun ex K q0 q1=>?_,fun ex ls q d V rt K hq hV aX hK=>?_⟩
  ·have fS:Kv g f b o=some (Dz g o,0):=by unfold Kv;rw[if_neg k1,if_neg k2,if_neg k3]
   refine ZJ Y ⟨mb++ex,ml,ms,mn⟩ g f mid o hp K (fun iO V hV LN=>?_);have:=q1 _ 0 fS iO V (.own ml.length 8) [g.p.cls.length+1] (by simpa[Dz]using hV) LN (Dy.own _ _);simpa using this
  have DL:zq g f b o q d=true:=by unfold zq;rw[if_neg k1,if_neg k2,if_neg k3]
  refine aB.mono (Ls Y ⟨mb++ex,ml++ls,ms,mn⟩ g f mid o q V rt d hV) ?_;rintro r m' ⟨rfl,rfl⟩;rw[<- DL];exact hK
 obtain⟨fb,fm,hk,kb,km⟩:=key;simp only[Qr,Qj,Qa,Qq,Qd,Qg,Qk,zzae,zzai]at kb km;refine Xl Ta (Hh (Kv g f b o)) zd ?_;obtain⟨k1,rfl,rfl⟩|⟨k1,rfl,rfl⟩|⟨k1,rfl,rfl⟩|⟨k1,k2,k3,rfl,rfl⟩:=hk
 ·simp[Pj,Pk,Qr,Qj,Qa,Qq,Qd,Qg,Qk,tO,k1,Hh];rw[k1]at kb km;refine kb _ _ (fun hbn iO=>?_) (fun q d gD iO V rt ls hV LN aX=>?_)
  ·have h0:=fun ex=>h0 (by rw[e1,hbn]) ex [];simp[uY,zzan];simp[uY]at h0;exact h0 _
  have hc:=hV.cell;have gE:=fun ex ml d=>hV.bA ex ml ms mn d;have hE:=fun gH=>hV.ext gH;simp only[zzbf,zzae,zzai]at gE hE;have IL:=fun m d x=>aX m d x;obtain⟨SU,hql,hqd⟩:=yJ hp ho gD;have kv:=Wx q SU.S;simp only[Qa]at kv;have km:=fun ex K hV hK=>km ex ls q d V rt K gD hV aX hK;simp only[Xp]at km;cases hpv:pJ q with
  |false=>
   rw[hpv]at kv;have h0:=fun ex=>h0 (by rw[e1,gD];simp[hpv]) ex ls;simp[Xp,gD,hpv,zzan,hc,gE,IL];simp[uY]at h0;exact⟨kv,h0 _⟩
  |true=>
   rw[hpv]at kv;simp[Xp,gD,hpv,zzan,hc,gE,IL];refine⟨kv,km _ _ (hE _) ?_⟩;cases DL:zq g f b o q d with
   |false=>
    have h0:=fun ex=>h0 (by rw[e1,gD];simp[hpv,DL]) ex ls;simp[zzan];simp[uY]at h0;exact h0 _
   |true=>
    have h1:=fun ex hV hk=>h1 q d (by rw[e1,gD];simp[hpv,DL]) ex V rt ls hV hk aX;simp[zzan,hc];simp only[Xp]at h1;refine h1 _ ?_ (fun k o l s e=>by have:=LN k o l s e;simp at this;omega);exact mC.put (by simpa using hE []) (Nm LN) _
 ·simp[Pj,Pk,Qr,Qj,Qa,Qq,Qd,Qg,Qk,tO,k1,Hh];rw[k1]at kb km;refine kb _ _ (fun hbn iO=>?_) (fun q d gD iO V rt ls hV LN aX=>?_)
  ·have h0:=fun ex=>h0 (by rw[e1,hbn]) ex [];simp[uY,zzan];simp[uY]at h0;exact h0 _
  have hc:=hV.cell;have gE:=fun ex ml d=>hV.bA ex ml ms mn d;have hE:=fun gH=>hV.ext gH;simp only[zzbf,zzae,zzai]at gE hE;have IL:=fun m d x=>aX m d x;obtain⟨SU,hql,hqd⟩:=yJ hp ho gD;have kv:=Wx q SU.S;simp only[Qa]at kv;have km:=fun ex K hV hK=>km ex ls q d V rt K gD hV aX hK;simp only[Xp]at km;cases hpv:pJ q with
  |false=>
   rw[hpv]at kv;have h0:=fun ex=>h0 (by rw[e1,gD];simp[hpv]) ex ls;simp[Xp,gD,hpv,zzan,hc,gE,IL];simp[uY]at h0;exact⟨kv,h0 _⟩
  |true=>
   rw[hpv]at kv;simp[Xp,gD,hpv,zzan,hc,gE,IL];refine⟨kv,km _ _ (hE _) ?_⟩;cases DL:zq g f b o q d with
   |false=>
    have h0:=fun ex=>h0 (by rw[e1,gD];simp[hpv,DL]) ex ls;simp[zzan];simp[uY]at h0;exact h0 _
   |true=>
    have h1:=fun ex hV hk=>h1 q d (by rw[e1,gD];simp[hpv,DL]) ex V rt ls hV hk aX;simp[zzan,hc];simp only[Xp]at h1;refine h1 _ ?_ (fun k o l s e=>by have:=LN k o l s e;simp at this;omega);exact mC.put (by simpa using hE []) (Nm LN) _
 ·simp[Pj,Pk,Qr,Qj,Qa,Qq,Qd,Qg,Qk,tO,k1,Hh];rw[k1]at kb km;refine kb _ _ (fun hbn iO=>?_) (fun q d gD iO V rt ls hV LN aX=>?_)
  ·have h0:=fun ex=>h0 (by rw[e1,hbn]) ex [];simp[uY,zzan];simp[uY]at h0;exact h0 _
  have hc:=hV.cell;have gE:=fun ex ml d=>hV.bA ex ml ms mn d;have hE:=fun gH=>hV.ext gH;simp only[zzbf,zzae,zzai]at gE hE;have IL:=fun m d x=>aX m d x;obtain⟨SU,hql,hqd⟩:=yJ hp ho gD;have kv:=Wx q SU.S;simp only[Qa]at kv;have km:=fun ex K hV hK=>km ex ls q d V rt K gD hV aX hK;simp only[Xp]at km;cases hpv:pJ q with
  |false=>
   rw[hpv]at kv;have h0:=fun ex=>h0 (by rw[e1,gD];simp[hpv]) ex ls;simp[Xp,gD,hpv,zzan,hc,gE,IL];simp[uY]at h0;exact⟨kv,h0 _⟩
  |true=>
   rw[hpv]at kv;simp[Xp,gD,hpv,zzan,hc,gE,IL];refine⟨kv,km _ _ (hE _) ?_⟩;cases DL:zq g f b o q d with
   |false=>
    have h0:=fun ex=>h0 (by rw[e1,gD];simp[hpv,DL]) ex ls;simp[zzan];simp[uY]at h0;exact h0 _
   |true=>
    have h1:=fun ex hV hk=>h1 q d (by rw[e1,gD];simp[hpv,DL]) ex V rt ls hV hk aX;simp[zzan,hc];simp only[Xp]at h1;refine h1 _ ?_ (fun k o l s e=>by have:=LN k o l s e;simp at this;omega);exact mC.put (by simpa using hE []) (Nm LN) _
 simp[Pj,Pk,Qr,Qj,Qa,Qq,Qd,Qg,Qk,tO,k1,k2,k3,Hh];refine kb _ _ (fun hbn iO=>?_) (fun q d gD iO V rt ls hV LN aX=>?_)
 ·have h0:=fun ex=>h0 (by rw[e1,hbn]) ex [];simp[uY,zzan];simp[uY]at h0;exact h0 _
 have hc:=hV.cell;have gE:=fun ex ml d=>hV.bA ex ml ms mn d;have hE:=fun gH=>hV.ext gH;simp only[zzbf,zzae,zzai]at gE hE;have IL:=fun m d x=>aX m d x;obtain⟨SU,hql,hqd⟩:=yJ hp ho gD;have kv:=Wx q SU.S;simp only[Qa]at kv;have km:=fun ex K hV hK=>km ex ls q d V rt K gD hV aX hK;simp only[Xp]at km;cases hpv:pJ q with
 |false=>
  rw[hpv]at kv;have h0:=fun ex=>h0 (by rw[e1,gD];simp[hpv]) ex ls;simp[Xp,gD,hpv,zzan,hc,gE,IL];simp[uY]at h0;exact⟨kv,h0 _⟩
 |true=>
  rw[hpv]at kv;simp[Xp,gD,hpv,zzan,hc,gE,IL];refine⟨kv,km _ _ (hE _) ?_⟩;cases DL:zq g f b o q d with
  |false=>
   have h0:=fun ex=>h0 (by rw[e1,gD];simp[hpv,DL]) ex ls;simp[zzan];simp[uY]at h0;exact h0 _
  |true=>
   have h1:=fun ex hV hk=>h1 q d (by rw[e1,gD];simp[hpv,DL]) ex V rt ls hV hk aX;simp[zzan,hc];simp only[Xp]at h1;refine h1 _ ?_ (fun k o l s e=>by have:=LN k o l s e;simp at this;omega);exact mC.put (by simpa using hE []) (Nm LN) _
def eH(c:P2):Prop:=c≠[]/\LA c
def RG{a:AV}(h:GP a=true):cm a:=by
 cases a<;>simp[GP]at h
 case bool b=>exact cm.bool b
 case int k n=>exact cm.int k n
 case str s=>exact cm.str s
 case sl rt rows=>
  refine cm.sl fun i s e=>?_;subst e;simp at h
 case nilfn=>exact fun w γ v h=>by cases h;exact .nilfn
 case ep row o=>
  intro w γ v h;cases h with
  |ep cv hb hc h=>exact .ep cv hb hc h
def eH.of{c:P2}(h0:c≠[])(h:Zl c=true):eH c:=by
 refine⟨h0,fun a ha=>⟨RG (zzay.1 h a ha),fun kn kvs e=>?_⟩⟩;have:=zzay.1 h a ha;subst e;simp[GP]at this
def eH.snoc{l:T5}{c:P2}(h:∀x∈l,eH x)(hc:eH c):∀x∈l++[c],eH x:=fun x hx=>by
 rcases zzao.1 hx with hx|hx
 ·exact h x hx
 rw[zzcg.1 hx];exact hc
theorem DM(e:bn):Zl (Qf e)=true:=rfl
theorem Z6(g:Pg):Zl (Qj g)=true:=rfl
def eH.mo(g:Pg)(f:Int)(mid:Nat):eH (Qr g f mid):=by
 refine⟨by simp[Qr],fun a ha=>?_⟩;rcases zzao.1 ha with ha|ha
 ·exact(eH.of (c:=Qj g) (by simp[Qj,Qa]) (Z6 g)).2 a ha
 simp only[zzam,zzdp,or_false]at ha;obtain rfl|rfl:=ha
 ·exact⟨cm.int _ _,fun _ _ h=>by cases h⟩
 exact⟨cm.mp _,fun _ _ h=>by cases h⟩
def eH.map(b:QR):eH [.aJ 0 (bG .bool b)]:=by
 refine⟨zd,fun a ha=>?_⟩;rw[zzcg.1 ha];refine⟨cm.aJ _ _,fun kn kvs h p hp=>?_⟩;cases h;simp only[bG,zzav]at hp;obtain⟨x,_,rfl⟩:=hp;exact cm.bool _
def amK(g:Pg)(fr:Int)(mb:T5)(ml:Pa)(ms:Nat->LS)(mn:Nat)(f:Nat->AV)(m:AM):Prop:=
 ∃(i:Nat)(b:QR)(bx:T5),(∀c∈bx,eH c)/\f 16=I i/\i<=g.ev.length/\Xn fr (g.ev.drop i) b=Xn fr g.ev []/\b.length<=i/\
  m=⟨mb++(Qj g::Ek::[.aJ 0 (bG .bool b)]::Qr g fr (mb.length+2)::bx),ml,ms,mn⟩
def BD(Y:YT)(m:AM)(g:Pg)(fr:Int)(hl:g.ev.length<=1000000)(K:So)
  (hK:∀ex mid,(∀c∈ex,eH c)->m.boxes.length<=mid->fP (m.boxes++ex) mid (Xn fr g.ev [])->K (.agg (Qr g fr mid)) {m with boxes:=m.boxes++ex}):
  aB Tryz.prog aD Y 43 [.agg (Qj g),I fr] m K:=by
 obtain⟨mb,ml,ms,mn⟩:=m;refine Xl S9 (fun _ _ _=>.junk) zd ?_;simp[aj1,Qj,Qa];refine Qi lT (amK g fr mb ml ms mn) (fun f _=>g.ev.length-(numOf (f 16)).toNat) ?_ ?_
 ·exact⟨0,[],[],(fun c h=>by cases h),zd,zE,zd,zd,by simp[Qj,Qa,Qr,Ek]⟩
 rintro f m ⟨i,b,bx,hbx,KK,hi,hb,fS,rfl⟩;rcases zzaa i g.ev.length with ah|bq
 ·obtain⟨e,he⟩:=aV ah;have ai:Qh (g.ev.map Qf) i=Qf e:=Qu (by simp[he]);have aa:(i:Int)<(g.ev.length:Int):=zE
  have hw:=bO i zE;have hd:g.ev.drop i=e::g.ev.drop (i+1):=by rw[zzag ah,(zza.1 he).2]
  rw[hd,Xn]at hb;by_cases hs:e.st<fr
  ·rw[if_pos hs]at hb;have fO:=rH e.id true b;rcases Xv AV.bool e.id b 0 with⟨b1,b2,b3,b4⟩|⟨u,n,b1,b2,b3,b4,b5,b6⟩
   ·simp[KK,lT,aa,ai,hw,Qf,Qj,Qa,Qr,Ek,hs,b2];refine⟨aQ,⟨i+1,Vg e.id true b,bx++[Qf e],eH.snoc hbx (eH.of (by simp[Qf]) (DM e)),zd,zE,hb,zE,by simp[Qj,Qa,Qr,Ek,Qf,b4]⟩,zE⟩
   simp[KK,lT,aa,ai,hw,Qf,Qj,Qa,Qr,Ek,hs,b2];refine⟨aQ,⟨i+1,Vg e.id true b,bx++[Qf e],eH.snoc hbx (eH.of (by simp[Qf]) (DM e)),zd,zE,hb,zE,by simp[Qj,Qa,Qr,Ek,Qf,b6]⟩,zE⟩
  rw[if_neg hs]at hb;simp[KK,lT,aa,ai,hw,Qf,Qj,Qa,Qr,Ek,hs];refine⟨aQ,⟨i+1,b,bx++[Qf e],eH.snoc hbx (eH.of (by simp[Qf]) (DM e)),zd,zE,hb,zE,by simp[Qj,Qa,Qr,Ek,Qf]⟩,zE⟩
 obtain rfl:i=g.ev.length:=zE
 rw[zzbt,Xn]at hb;subst hb;simp[KK,lT,aj2,Qj,Qa,Qr,Ek];refine hK _ (mb.length+2) ?_ zd ⟨zd,zd⟩;intro c hc;simp only[zzam]at hc;obtain rfl|rfl|rfl|rfl|hc:=hc
 ·exact eH.of zd (by simp[Zl])
 ·exact eH.mo g fr _
 ·exact eH.map _
 ·exact eH.mo g fr _
 exact hbx c hc
section
variable {n:Nat} {m':AM}
def RH(n:Nat)(m':AM):P2->P2->Prop
 |[],[]=>True
 |a::xs,b::ys=>dO n m' a b/\RH n m' xs ys
 |_,_=>False
def RH.both:∀{xs ys:P2},RH n m' xs ys->xs.length=ys.length/\∀(i:Nat)(c d:AV),xs[i]?=some c->ys[i]?=some d->dO n m' c d
 |[],[],_=>⟨rfl,fun i c d h=>by simp at h⟩
 |[],_::_,h=>h.elim
 |_::_,[],h=>h.elim
 |a::xs,b::ys,h=>by
  obtain⟨h1,h2⟩:=RH.both h.2;refine⟨by simp[h1],fun i c d q1 q2=>?_⟩;cases i with
  |zero=>cases q1;cases q2;exact h.1
  |succ i=>exact h2 i c d (Nm q1) (Nm q2)
def Hi{xs ys:P2}(h:RH n m' xs ys):dO n m' (.agg xs) (.agg ys):=dO.agg h.both.1 h.both.2
def Hj{xs ys:P2}(h:RH n m' xs ys):dO n m' (.aS xs) (.aS ys):=dO.aS h.both.1 h.both.2
def afy(k sz:Nat):dO n m' (.bs k 0 0 sz) (.sl .ro []):=fun N w0 an γ' γ2 w' v hm hr h1 h2=>by
 obtain⟨b,cap,arr,zj,hβ,rfl,hlc,hh,hs⟩:=hr.cN;exact aA.sl (w:=w') (γ:=γ2) (rt:=.ro) (rows:=[]) b 0 sz (fun _ _=>undef) (zzbp _) (fun h=>by cases h) (fun h=>absurd rfl h) (fun _ h=>by cases h) (fun i j c h=>by simp[Qv]at h) (fun i j c h=>by simp[Qv]at h) trivial
def mC.frz{V:AV}{l:List En}(h:mC m'.boxes V l)(hk:GR n V):dO n m' V (.sl .ro (l.map Qd)):=by
 obtain⟨rt,rfl,_⟩|⟨k,z,rfl,h2,h3,h4⟩:=h
 ·exact dO.sl _ _
 cases l with
 |nil=>exact afy _ _
 |cons a r=>
  have bV:Zl (eF (a::r)++z)=true:=by
   have:=Lp (a::r);unfold Zl at this h4 |-
   rw[zzfe,this,h4];rfl
  have:=dO.bs (sz:=7) (len:=(a::r).length) (hk _ _ _ _ rfl) (Ke h2 h3) (by simp[eF,Qd]) bV (by rw[zzak,Jb];omega);rw[nR]at this;exact this
end
def RI:P2:=[I 0,I 0,I 0,I 0,.sl .ro [],I 0,I 0,I 0,I 0,.sl .ro [],.sl .ro [],.sl .ro [],.sl .ro [],I 0]
def Ac(x:Option (Pl×Int)):AV:=match x with
 |none=>.aS [.agg RI,.bool false]
 |some (q,d)=>.aS [.agg (Qa q++[I d]),.bool true]
def Ox(Y:YT)(m:AM)(g:Pg)(f:Int)(mid:Nat)(b:QR)(o:Od)(h:Z5 g f o)(hb:fP m.boxes mid b)(hB:∀c∈m.boxes,eH c):
  aB Tryz.prog aD Y 44 [.agg (Qr g f mid),.agg (Qq o)] m (fun r m'=>m'=m/\r=Ac (Jk g f b o)):=by
 refine aB.freeze (fun c hc=>(hB c hc).1) (fun c hc=>(hB c hc).2) (LM Y m g f mid b o h hb _ (fun hx ex ls=>?_) (fun q d hx ex V rt ls hV hk aX=>?_))
 ·refine⟨ex,ls,_,rfl,?_,rfl⟩;rw[hx];refine Hj ⟨Hi ?_,dO.bool _,trivial⟩;unfold uY RI;refine⟨dO.int _ _,dO.int _ _,dO.int _ _,dO.int _ _,dO.sl _ _,dO.int _ _,dO.int _ _,dO.int _ _,dO.int _ _,dO.sl _ _,dO.sl _ _,dO.sl _ _,dO.sl _ _,dO.int _ _,trivial⟩
 refine⟨ex,ls,_,rfl,?_,rfl⟩;rw[hx];refine Hj ⟨Hi ?_,dO.bool _,trivial⟩;unfold Xp Qa;simp only[zzae,zzai];exact⟨dO.int _ _,dO.int _ _,dO.int _ _,dO.int _ _,dO.sl _ _,dO.int _ _,dO.int _ _,dO.int _ _,dO.int _ _,dO.sl _ _,mC.frz hV hk,dO.sl _ _,dO.sl _ _,dO.int _ _,trivial⟩
def Oy(Y:YT)(m:AM)(g:Pg)(f:Int)(mid:Nat)(b:QR)(o:Od)(h:Z5 g f o)(hb:fP m.boxes mid b)(hB:∀c∈m.boxes,eH c)(K:So)(hK:K (Ac (Jk g f b o)) m):
  aB Tryz.prog aD Y 44 [.agg (Qr g f mid),.agg (Qq o)] m K:=
 aB.mono (Ox Y m g f mid b o h hb hB) (by rintro r m' ⟨rfl,rfl⟩;exact hK)
end
