import Derived.Test.YthjppoincojfkaaGreatDoorRBMcB
set_option linter.all false
set_option maxRecDepth 100000
set_option maxHeartbeats 64000000
namespace Go.Abs
open Go Go.RowKit
section
variable {N:Nat} {w0:eS} {an:Nat->Nat->Prop} {γ γ':G} {w w':World} {P:Program} {gl:Nat->AV} {Y:YT}
def Rw(m':AM)(γ':G)(n:Nat)(b:Nat):Prop:=∃id,n<=id/\m'.boxes[id]?≠some []/\γ'.β id=some b
def dM(n:Nat)(m':AM)(r r':AV):Prop:=∀(N:Nat)(w0:eS)(an:Nat->Nat->Prop)(γ' γ2:G)(w':World)(v:Value),au N w0 an γ' w' m'.B m'.L->aA w' γ' r v->
 (∀b o,γ'.ro b o->γ2.ro b o)->(∀b,Rw m' γ' n b->∀o,γ2.ro b o)->aA w' γ2 r' v
def G.frz(γ1 γ':G)(m':AM)(n:Nat):G:={γ1 with ro:=fun b o=>γ1.ro b o\/Rw m' γ' n b}
def aB.freeze{f:FuncId}{ags:P2}{m:AM}{K:AV->Prop}(aN:∀c∈m.boxes,c≠[])(gi:∀c∈m.boxes,Lx c)
  (h:aB P gl Y f ags m fun r m'=>∃ex exl r',m'={m with boxes:=m.boxes++ex,lens:=m.lens++exl}/\dM m.boxes.length m' r r'/\K r'):aB P gl Y f ags m fun r m'=>m'=m/\K r:=by
 refine⟨h.1,fun N w0 an γ w vs hm hl hg hy hr=>CallsIn.mono (h.2 N w0 an γ w vs hm hl hg hy hr) ?_⟩;rintro en w' ⟨v,γ',r,m',rfl,g1,g2,g3,g4,ex,exl,r',rfl,g5,g6⟩;have e1:=g1.dg hm
 have m1:au N w0 an (γ.dg m.lens.length γ') w' m.B m.L:=hm.dg (m1:=m) (mx:=m.boxes) (ex:=ex) (exl:=exl) g2 g1 rfl rfl rfl fun id cells ck h1 h2=>by
  rw[h1]at h2;cases h2;exact .inl ⟨rfl,h1,gi _ (zzad h1)⟩
 obtain⟨γ1,hγ1⟩:∃γ1,γ1=γ.dg m.lens.length γ':=⟨_,rfl⟩;obtain⟨m',fJ⟩:∃m':AM,m'={m with boxes:=m.boxes++ex,lens:=m.lens++exl}:=⟨_,rfl⟩;rw[<- fJ]at g2 g3 g5;rw[<- hγ1]at e1 m1
 have hβ:∀{id b},γ1.β id=some b->id<m.boxes.length/\γ'.β id=some b:=fun{id b}h=>by
  rw[hγ1]at h;obtain⟨h1,h2⟩:=Yt h;obtain⟨b0,dZ⟩:=zzcd.1 h1;obtain⟨_,_,_,_,c,hc⟩:=hm.β id b0 dZ;exact⟨(zza.1 hc).1,h2⟩
 have cr:∀{id b},γ1.own id=some b->γ'.own id=some b:=fun{id b}h=>by
  rw[hγ1]at h;have h:(if id<m.lens.length then γ'.own id else none)=some b:=h;split at h
  ·exact h
  cases h
 have cW:γ1.sp=γ'.sp:=by rw[hγ1];rfl
 have hlp:γ1.lp=γ'.lp:=by rw[hγ1];rfl
 have gh:γ1.ro=γ'.ro:=by rw[hγ1];rfl
 have gN:∀{id b},γ1.mm id=some b->γ'.mm id=some b:=fun{id b}h=>by rw[hγ1]at h;exact(Qaw h).2
 have nβ:∀{b},Rw m' γ' m.boxes.length b->∀id,γ1.β id≠some b:=fun{b}⟨j,j1,j2,j3⟩id h=>by
  obtain⟨h1,h2⟩:=hβ h
  have hB:m'.B id=some (m.boxes[id]):=by
   rw[fJ];show(m.boxes++ex)[id]?=_;rw[zzaj h1,zzaf h1]
  rcases g2.inj id j b h2 j3 with k|k|k
  ·rw[hB]at k;exact aN _ (zzde h1) (Option.some.inj k)
  ·exact j2 k
  omega
 have axM:∀{b},Rw m' γ' m.boxes.length b->∀id,γ'.own id≠some b:=fun{b}⟨j,j1,j2,j3⟩id=>(g2.β j b j3).2.2.2.1 id;have nsp:∀{b},Rw m' γ' m.boxes.length b->¬γ'.sp b:=fun{b}⟨j,j1,j2,j3⟩h=>(g2.sp b h).2.2.2.1 j j3;have nmm:∀{b},Rw m' γ' m.boxes.length b->∀id,γ'.mm id≠some b:=fun{b}⟨j,j1,j2,j3⟩id h=>(g2.mm id b h).2.2.2.1 j j3
 have ev:Ev w' γ1 w' (γ1.frz γ' m' m.boxes.length):=
  ⟨zzab _,fun _ _ _ h=>⟨.inl h,rfl⟩,fun _ _ h=>h,fun _=>zzab _,fun _ _ h=>h,rfl,
   fun id b _ h=>⟨h,fun arr _ h=>⟨arr,h,zzab _⟩,fun o h'=>h'.elim (fun x=>x) (fun hn=>absurd (cr h) (axM hn id))⟩,fun _ h=>⟨h,rfl⟩,Sz.refl _⟩
 refine⟨v,γ1.frz γ' m' m.boxes.length,r',m,rfl,e1.trans ev.cH,?_,?_,?_,rfl,g6⟩
 ·exact{
   bs:=w0.st _ _ _ _ g2.bs ⟨rfl,rfl,rfl,zzab _,fun _ _ _=>rfl,fun b o _ h=>⟨.inl (by rw[gh];exact h),rfl⟩,fun b hb=>.inl (by
     obtain⟨i,hi⟩|⟨i,hi⟩|hb|⟨i,hi⟩:=hb
     ·exact .inl ⟨i,(hβ hi).2⟩
     ·exact .inr (.inl ⟨i,cr hi⟩)
     ·exact .inr (.inr (.inl (by rw[<- cW];exact hb)))
     ·exact .inr (.inr (.inr ⟨i,gN hi⟩))),fun b o h=>by
     obtain h|⟨j,j1,j2,j3⟩:=h
     ·exact .inl (by rw[<- gh];exact h)
     exact .inr (.inl (.inl ⟨j,j3⟩))⟩
   hN:=m1.hN
   an:=fun b o h=>by
    obtain h|⟨j,j1,j2,j3⟩:=h
    ·exact m1.an b o h
    exact .inr (g2.β j b j3).1
   robd:=fun b o h=>by
    obtain h|⟨j,j1,j2,j3⟩:=h
    ·exact m1.robd b o h
    exact(g2.β j b j3).2.1
   box:=fun id cells b hb h1=>by
    obtain⟨arr,e,h2,h3,h4⟩:=m1.box id cells b hb h1;exact⟨arr,e,h2,h3.mono ev,h4⟩
   β:=fun id b hb=>by
    obtain⟨h1,h2,h3,h4,h5⟩:=m1.β id b hb;exact⟨h1,h2,fun o h=>h.elim (h3 o) (fun hn=>nβ hn id hb),h4,h5⟩
   inj:=m1.inj
   own:=m1.own
   oinj:=m1.oinj
   sp:=fun b hb=>by
    obtain⟨h1,h2,h3,h4⟩:=m1.sp b hb;exact⟨h1,h2,fun o h=>h.elim (h3 o) (fun hn=>nsp hn (by rw[<- cW];exact hb)),h4⟩
   mm:=fun id b hb=>by
    obtain⟨h1,h2,h3,h4,h5,h6,h8,h7⟩:=m1.mm id b hb;exact⟨h1,h2,fun o h=>h.elim (h3 o) (fun hn=>nmm hn id (gN hb)),h4,h5,h6,h8,h7.mono ev.cH.Aq rfl⟩
   minj:=m1.minj
   len:=m1.len
   cur0:=m1.cur0}
 ·have g3':cS γ1 w' m:=by
   rw[fJ]at g3;unfold cS at g3 |-
   rw[hlp,cW];exact g3
  exact g3'.mono ev
 exact g5 N w0 an γ' _ w' v g2 g4 (fun b o h=>.inl (by rw[gh];exact h)) fun b hb o=>.inr hb
variable {n:Nat} {m':AM}
def dM.bool(b:Bool):dM n m' (.bool b) (.bool b):=fun _ _ _ _ _ _ _ _ h _ _=>by rw[h.bu];exact .bool b
def dM.int(k:IntKind)(z:Int):dM n m' (.int k z) (.int k z):=fun _ _ _ _ _ _ _ _ h _ _=>by rw[h.aI];exact .int k z
def dM.agg{cs ds:P2}(hl:cs.length=ds.length)(h:∀(i:Nat)(c d:AV),cs[i]?=some c->ds[i]?=some d->dM n m' c d):dM n m' (.agg cs) (.agg ds):=fun N w0 an γ' γ2 w' v hm hr h1 h2=>by
 cases hr with
 |@agg _ _ arr kl k=>
  refine .agg zE fun i d u hd hu=>?_;have hi:i<cs.length:=by have:=(zza.1 hd).1;omega
  exact h i cs[i] d (zzaf hi) hd N w0 an γ' γ2 w' u hm (k i cs[i] u (zzaf hi) hu) h1 h2
def dM.aS{cs ds:P2}(hl:cs.length=ds.length)(h:∀(i:Nat)(c d:AV),cs[i]?=some c->ds[i]?=some d->dM n m' c d):dM n m' (.aS cs) (.aS ds):=fun N w0 an γ' γ2 w' v hm hr h1 h2=>by
 cases hr with
 |@aS _ _ arr kl k=>
  refine .aS zE fun i d u hd hu=>?_;have hi:i<cs.length:=by have:=(zza.1 hd).1;omega
  exact h i cs[i] d (zzaf hi) hd N w0 an γ' γ2 w' u hm (k i cs[i] u (zzaf hi) hu) h1 h2
def ZR{γ' γ2:G}{w':World}(h1:∀b o,γ'.ro b o->γ2.ro b o){a:AV}{v:Value}(h:aA w' γ'.cU a v):aA w' γ2.cU a v:=
 h.mono ⟨zzab _,fun b o _ h=>⟨h1 b o h,rfl⟩,fun _ _ h=>(by cases h),fun _=>zzab _,fun _ _ h=>(by cases h),rfl,fun _ _ _ h=>(by cases h),fun _ h=>h.elim,Sz.refl w'⟩
def dM.sl(rt:Rt)(rows:T5):dM n m' (.sl rt rows) (.sl .ro rows):=fun N w0 an γ' γ2 w' v hm hr h1 h2=>by
 cases hr with
 |sl b off sz cv hcap hnil ha hsz hc h aX=>
  exact .sl b off sz cv hcap hnil ha hsz (fun i j c q=>⟨(hc i j c q).1,h1 _ _ (hc i j c q).2.1,(hc i j c q).2.2⟩) (fun i j c q=>ZR h1 (h i j c q)) trivial
def dM.bs{k len sz:Nat}{cells:P2}(hn:n<=k)(hk:m'.boxes[k]?=some cells)(aN:cells≠[])(bU:Zl cells=true)(hl:len*sz<=cells.length):dM n m' (.bs k 0 len sz) (.sl .ro (aY sz len cells)):=fun N w0 an γ' γ2 w' v hm hr h1 h2=>by
 obtain⟨b,cap,arr,y4,hβ,rfl,hlc,hh,hs⟩:=hr.cN;obtain⟨bN,e',q2,q3,q4⟩:=hm.box k cells b hk hβ;rw[hh]at q2;cases q2;have hsz:=q3.1;simp only[zzbi]at hsz;have aH:(aY sz len cells).length=len:=by rw[Qab];simp
 have ee:∀row∈aY sz len cells,row.length=sz:=fun row ah=>by
  rw[Qab]at ah;simp only[zzb,zzau]at ah;obtain⟨i,hi,rfl⟩:=ah;have:(i+1)*sz<=len*sz:=zzbc _ hi;rw[zzbq,zzdq]at this;simp only[zzap,zzcv];omega
 have oo:∀(i j:Nat)(c:AV),Qv (aY sz len cells) i j=some c->∃u,cells[i*sz+j]?=some c/\arr[i*sz+j]?=some u/\arr.getD (i*sz+j) undef=u/\aA w' γ' c u:=fun i j c h=>by
  rw[Qab]at h;unfold Qv at h;rcases zzaa i len with hi|hi
  ·rw[zzbm,zzej hi]at h;simp only[zzcs,zzcu]at h;rw[zzbj]at h;split at h
   ·rw[zzbl]at h;have ai:=(zza.1 h).1;exact⟨arr[i*sz+j],h,zzag zE,by simp[show i*sz+j<arr.size by omega],q3.2 _ _ _ h (by simp[show i*sz+j<arr.size by omega])⟩
   cases h
  rw[zzbm,zzar (Nm hi)]at h;cases h
 have hB:∀id cells,m'.boxes[id]?=some cells->m'.B id=some cells:=fun _ _ h=>h;have axN:∀o,γ2.ro b o:=h2 b ⟨k,hn,by rw[hk];intro h;exact aN (Option.some.inj h),hβ⟩
 have:=aA.sl (w:=w') (γ:=γ2) (rt:=.ro) (rows:=aY sz len cells) (a:=some ⟨b,0,none⟩) (cap:=cap) b 0 sz (fun i j=>arr.getD (i*sz+j) undef) (by rw[aH];exact hlc) (fun h=>by cases h) (fun _=>⟨rfl,aR hh⟩) ee
  (
   fun i j c h=>by
   obtain⟨u,c1,c2,c3,c4⟩:=oo i j c h;rw[zzbs,aO hh,c2,c3];exact⟨rfl,axN _,q4 u (by rw[<- c3];simp[show i*sz+j<arr.size from(zzbv.1 c2).1])⟩)
  (
   fun i j c h=>by
   obtain⟨u,c1,c2,c3,c4⟩:=oo i j c h;rw[c3];have fC:Fk c=true:=zzaw.1 bU c (zzad c1);have:=kH hm (m:=m') hB (ro':=γ2.ro) h1 1 c u c4 (fun hp=>by cases c<;>simp_all[Fk,Ve]);rw[NB m' 0 fC]at this;exact this) trivial
 rw[aH]at this;exact this
end
end Go.Abs
namespace Go.Proofs.YthjppoincojfkaaGreatDoor
open Go Go.Abs
def Kh(g:Pg)(f:Int)(b:QR)(o:Od):Option (Pl×Int):=
 if o.ki=1 then rE g f b o else if o.ki=2 then(yg g o).map fun q=>(q,0)else if o.ki=3 then some (nX g f b o,0)else some (Bq g o,0)
def yy(g:Pg)(f:Int)(b:QR)(o:Od)(q:Pl)(d:Int):Bool:=
 if o.ki=1 then Qcf g f b o q d else if o.ki=2 then !(Du g f b o.en)else if o.ki=3 then pY g o else true
def Uz(g:Pg)(f:Int)(b:QR)(o:Od):Option (Pl×Int):=
 if g.p.ln<=f then none else match Kh g f b o with
 |none=>none
 |some (q,d)=>if(iG q&&yy g f b o q d)=true then some (q,d)else none
def afe(g:Pg)(f:Int)(b:QR)(o:Od)(e:En):sW (ue g f b o e):=by
 unfold ue;cases Bn g f b o.en with
 |none=>exact Qdz _
 |some st=>
  have h1:=Qdz (e.fr+o.n);have h2:=Qdz (f-st);simp only;first|exact Qdz _|(split<;>assumption)|(unfold sW at*;omega)
structure PlB (q:Pl):Prop where
 sh:q.sh.length<=1000000
 aM:q.aM.length<=1000000
 ens:q.ens.length<=1000001
 bks:q.bks.length<=1000000
 cls:q.cls.length<=1000001
 als:∀e∈q.ens,e.al.length<=8796093022208
def yz{g:Pg}{f:Int}{b:QR}{o:Od}{q:Pl}{d:Int}(hp:Bj g.p)(ho:o.nw.al.length<=8796093022208)(h:Kh g f b o=some (q,d)):PlB q/\q.ln=g.p.ln/\sW d:=by
 obtain⟨h1,h2,h3,h4,h5,h6⟩:=hp;unfold Kh at h;have j0:sW 0:=by unfold sW;omega
 split at h
 ·unfold rE at h;split at h
  ·cases h
  rename_i e he;split at h
  ·cases h
  cases h;refine⟨⟨h1,h2,by simp;omega,h4,by show g.p.cls.length<=_;omega,fun x hx=>?_⟩,rfl,afe _ _ _ _ _⟩;rcases zzgl hx with hx|rfl
  ·exact h6 x hx
  exact h6 e (zzad he)
 split at h
 ·unfold yg at h;split at h
  ·cases h
  cases h;exact⟨⟨h1,h2,by have:=zzcb (fun e=>!mF o.en e) g.p.ens;simp only;omega,h4,by show g.p.cls.length<=_;omega,fun x hx=>h6 x (zzbz.1 hx).1⟩,rfl,j0⟩
 split at h
 ·cases h;refine⟨⟨h1,h2,by simp only[nX,zzak,zzap,zzbg,zzcv];omega,h4,by show g.p.cls.length<=_;omega,fun x hx=>?_⟩,rfl,j0⟩;simp only[nX,zzam,zzaq]at hx;obtain hx|rfl|hx:=hx
  ·exact h6 x (zzce hx)
  ·exact ho
  exact h6 x (zzdr hx)
 cases h;exact⟨⟨h1,h2,by show g.p.ens.length<=_;omega,h4,by simp only[Bq,zzak,zzbg,zzcn];omega,h6⟩,rfl,j0⟩
def PlB.S{q:Pl}(h:PlB q):PlS q:=⟨by have:=h.sh;omega,by have:=h.aM;omega,by have:=h.ens;omega,by have:=h.bks;omega,by have:=h.cls;omega,h.als⟩
def G1(q?:Option (Pl×Int)):UV:=fun _ f _=>if f=95 then(match q? with|some (q,_)=>.bool (iG q)|none=>.junk)else .gd false .junk
def mG.put{mb:T5}{a b c c':P2}{ex:T5}{V:AV}{l:List En}(h:mG (mb++(a::b::c::ex)) V l)(hk:GL (mb.length+3) V)(gG:T5):mG (mb++(a::b::c'::(ex++gG))) V l:=by
 obtain h|⟨k,z,rfl,h2,h3,h4⟩:=h
 ·exact .inl h
 have cm:=hk _ _ _ _ rfl;obtain⟨j,rfl⟩:∃j,k=mb.length+(j+3):=⟨k-mb.length-3,zE⟩;have hg:=Jh h2;rw[h3,zzao zE,zzdv]at hg;simp only[zzcw]at hg;have hj:=(zza.1 hg).1;refine .inr ⟨_,z,rfl,by simp at h2 |-;omega,Qu ?_,h4⟩;rw[zzao zE,zzdv];simp only[zzcw];rw[zzaj hj,hg]
structure ZS (g:Pg) (f:Int) (o:Od):Prop where
 mo:f<g.p.ln->lQ g f
 pl:Bj g.p
 f0:0<=f
 ln:g.p.ln<=1000000
 n:sW o.n
 fr:∀e∈g.p.ens,sW e.fr
 dr:g.dr.length<=1000000000
 al:o.nw.al.length<=8796093022208
def LA(Y:YT)(m:AM)(g:Pg)(f:Int)(mid:Nat)(b:QR)(o:Od)(h:ZS g f o)(hb:fQ m.boxes mid b)(K:So)
  (h0:Uz g f b o=none->∀ex ls,K (.aS [.agg uQ,.bool false]) {m with boxes:=m.boxes++ex,lens:=m.lens++ls})
  (h1:∀q d,Uz g f b o=some (q,d)->∀ex V rt ls,mG (m.boxes++ex) V q.ens->GL m.boxes.length V->Dx rt->K (.aS [.agg (Xr q V (.sl rt (q.cls.map Qi)) d),.bool true]) {m with boxes:=m.boxes++ex,lens:=m.lens++ls}):
  aB Tryz.prog aD Y 44 [.agg (Qr g f mid),.agg (Qq o)] m K:=by
 obtain⟨mb,ml,ms,mn⟩:=m;obtain⟨hm,hp,hf0,dG,hn,wC,fk,ho⟩:=h;have hB:∀ex,fQ (mb++ex) mid b:=fun ex=>⟨by have:=hb.1;simp at this |-;omega,hb.ext ex⟩;by_cases tL:g.p.ln<=f
 ·have h0:=h0 (by unfold Uz;rw[if_pos tL]);refine Xn SP (fun _ _ _=>.gd false .junk) zd ?_;simp[O3,O4,Qr,Qg,Qa,Qq,Qd,Qi,Qm,tL];have:=fun ex=>h0 ex [];simp[uQ]at this;exact this _
 have hm:=hm zE;have JK:sW g.p.ln:=by unfold sW;omega
 have e1:Uz g f b o=match Kh g f b o with
  |none=>none
  |some (q,d)=>if(iG q&&yy g f b o q d)=true then some (q,d)else none:=by unfold Uz;rw[if_neg tL]
 have key:∃fb fm:FuncId,((o.ki=1/\fb=89/\fm=90)\/(o.ki=2/\fb=91/\fm=92)\/(o.ki=3/\fb=93/\fm=94)\/(¬o.ki=1/\¬o.ki=2/\¬o.ki=3/\fb=87/\fm=88))/\
   (
    ∀(ex:T5)(K:So),(Kh g f b o=none->∀iH,K (.aS [.agg uQ,.bool false]) ⟨mb++(ex++iH),ml,ms,mn⟩)->
    (∀q d,Kh g f b o=some (q,d)->∀iH V rt ls,mG (mb++(ex++iH)) V q.ens->GL (mb++ex).length V->Dx rt->K (.aS [.agg (Xr q V (.sl rt (q.cls.map Qi)) d),.bool true]) ⟨mb++(ex++iH),ml++ls,ms,mn⟩)->
    aB Tryz.prog aD Y fb [.agg (Qr g f mid),.agg (Qq o)] ⟨mb++ex,ml,ms,mn⟩ K)/\
   (
    ∀(ex:T5)(ls:Pa)(q:Pl)(d:Int)(V:AV)(rt:Rt)(K:So),Kh g f b o=some (q,d)->mG (mb++ex) V q.ens->Dx rt->K (.bool (yy g f b o q d)) ⟨mb++ex,ml++ls,ms,mn⟩->
    aB Tryz.prog aD Y fm [.agg (Qr g f mid),.agg (Qq o),.agg (Xr q V (.sl rt (q.cls.map Qi)) d)] ⟨mb++ex,ml++ls,ms,mn⟩ K):=by
  by_cases k1:o.ki=1
  ·refine⟨89,90,.inl ⟨k1,rfl,rfl⟩,fun ex K q0 q1=>?_,fun ex ls q d V rt K hq hV aX hK=>?_⟩
   ·have ek:Kh g f b o=rE g f b o:=by unfold Kh;rw[if_pos k1]
    refine aeX Y ⟨mb++ex,ml,ms,mn⟩ g f mid b o hm hp (hB ex) hn JK wC K (fun hx iH=>?_) (fun q d hx iH k Nq hk hr=>?_)
    ·have:=q0 (by rw[ek];exact hx) iH;simpa using this
    have:=q1 q d (by rw[ek];exact hx) iH (.bs k 0 q.ens.length 7) .ro [] (.inr ⟨k,[],rfl,Nm hk,by simpa[eG]using hr,rfl⟩) (GL.bs Nq) Dx.ro;simpa using this
   have DE:yy g f b o q d=Qcf g f b o q d:=by unfold yy;rw[if_pos k1]
   obtain⟨Sy,hql,SA⟩:=yz hp ho hq
   have hqe:q.ens.length=g.p.ens.length/\q.cls=g.p.cls:=by
    have ek:Kh g f b o=rE g f b o:=by unfold Kh;rw[if_pos k1]
    rw[ek]at hq;unfold rE at hq;split at hq
    ·cases hq
    split at hq
    ·cases hq
    cases hq;exact⟨zd,rfl⟩
   refine aB.mono (Lo Y ⟨mb++ex,ml++ls,ms,mn⟩ g f mid b o q V rt d hV aX hm (hB ex) fk ⟨Sy.sh,Sy.aM,by rw[hqe.1];exact hp.2.2.1,Sy.bks,by rw[hqe.2];exact hp.2.2.2.2.1,Sy.als⟩ zE SA) ?_;rintro r m' ⟨rfl,rfl⟩;rw[<- DE];exact hK
  by_cases k2:o.ki=2
  ·refine⟨91,92,.inr (.inl ⟨k2,rfl,rfl⟩),fun ex K q0 q1=>?_,fun ex ls q d V rt K hq hV aX hK=>?_⟩
   ·have ek:Kh g f b o=(yg g o).map fun q=>(q,0):=by unfold Kh;rw[if_neg k1,if_pos k2]
    refine ZD Y ⟨mb++ex,ml,ms,mn⟩ g f mid o hm hp K (fun hx iH=>?_) (fun q hx iH k z Nq hk hr hz=>?_)
    ·have:=q0 (by rw[ek,hx];rfl) iH;simpa using this
    have:=q1 q 0 (by rw[ek,hx];rfl) iH (.bs k 0 q.ens.length 7) .ro [] (.inr ⟨k,z,rfl,Nm hk,Nm hr,hz⟩) (GL.bs Nq) Dx.ro;simpa using this
   have DE:yy g f b o q d=!(Du g f b o.en):=by unfold yy;rw[if_neg k1,if_pos k2]
   refine aB.mono (GM Y ⟨mb++ex,ml++ls,ms,mn⟩ g f mid b o q V rt d hV hm (hB ex)) ?_;rintro r m' ⟨rfl,rfl⟩;rw[<- DE];exact hK
  by_cases k3:o.ki=3
  ·refine⟨93,94,.inr (.inr (.inl ⟨k3,rfl,rfl⟩)),fun ex K q0 q1=>?_,fun ex ls q d V rt K hq hV aX hK=>?_⟩
   ·have ek:Kh g f b o=some (nX g f b o,0):=by unfold Kh;rw[if_neg k1,if_neg k2,if_pos k3]
    refine Lu Y ⟨mb++ex,ml,ms,mn⟩ g f mid b o hp (hB ex) ho K (fun iH V ls hV LB=>?_);have:=q1 _ 0 ek iH V .ro ls (Nm hV) LB Dx.ro;simpa[nX]using this
   have DE:yy g f b o q d=pY g o:=by unfold yy;rw[if_neg k1,if_neg k2,if_pos k3]
   refine aB.mono (Ln Y ⟨mb++ex,ml++ls,ms,mn⟩ g f mid o q V rt d hV hm fk) ?_;rintro r m' ⟨rfl,rfl⟩;rw[<- DE];exact hK
  refine⟨87,88,.inr (.inr (.inr ⟨k1,k2,k3,rfl,rfl⟩)),fun ex K q0 q1=>?_,fun ex ls q d V rt K hq hV aX hK=>?_⟩
  ·have ek:Kh g f b o=some (Bq g o,0):=by unfold Kh;rw[if_neg k1,if_neg k2,if_neg k3]
   refine ZF Y ⟨mb++ex,ml,ms,mn⟩ g f mid o hp K (fun iH V hV LB=>?_);have:=q1 _ 0 ek iH V (.own ml.length 8) [g.p.cls.length+1] (by simpa[Bq]using hV) LB (Dx.own _ _);simpa using this
  have DE:yy g f b o q d=true:=by unfold yy;rw[if_neg k1,if_neg k2,if_neg k3]
  refine aB.mono (Lj Y ⟨mb++ex,ml++ls,ms,mn⟩ g f mid o q V rt d hV) ?_;rintro r m' ⟨rfl,rfl⟩;rw[<- DE];exact hK
 obtain⟨fb,fm,hk,kb,km⟩:=key;simp only[Qr,Qg,Qa,Qq,Qd,Qi,Qm,zzae,zzai]at kb km;refine Xn SP (G1 (Kh g f b o)) zd ?_;obtain⟨k1,rfl,rfl⟩|⟨k1,rfl,rfl⟩|⟨k1,rfl,rfl⟩|⟨k1,k2,k3,rfl,rfl⟩:=hk
 ·simp[O3,O4,Qr,Qg,Qa,Qq,Qd,Qi,Qm,tL,k1,G1];rw[k1]at kb km;refine kb _ _ (fun hbn iH=>?_) (fun q d jx iH V rt ls hV LB aX=>?_)
  ·have h0:=fun ex=>h0 (by rw[e1,hbn]) ex [];simp[uQ,zzan];simp[uQ]at h0;exact h0 _
  have hc:=hV.cell;have gE:=fun ex ml d=>hV.bz ex ml ms mn d;have hE:=fun gG=>hV.ext gG;simp only[zzbe,zzae,zzai]at gE hE;have Ir:=fun m d x=>aX m d x;obtain⟨Sy,hql,SA⟩:=yz hp ho jx;have kv:=Wu q Sy.S;simp only[Qa]at kv;have km:=fun ex K hV hK=>km ex ls q d V rt K jx hV aX hK;simp only[Xr]at km;cases hpv:iG q with
  |false=>
   rw[hpv]at kv;have h0:=fun ex=>h0 (by rw[e1,jx];simp[hpv]) ex ls;simp[Xr,jx,hpv,zzan,hc,gE,Ir];simp[uQ]at h0;exact⟨kv,h0 _⟩
  |true=>
   rw[hpv]at kv;simp[Xr,jx,hpv,zzan,hc,gE,Ir];refine⟨kv,km _ _ (hE _) ?_⟩;cases DE:yy g f b o q d with
   |false=>
    have h0:=fun ex=>h0 (by rw[e1,jx];simp[hpv,DE]) ex ls;simp[zzan];simp[uQ]at h0;exact h0 _
   |true=>
    have h1:=fun ex hV hk=>h1 q d (by rw[e1,jx];simp[hpv,DE]) ex V rt ls hV hk aX;simp[zzan,hc];simp only[Xr]at h1;refine h1 _ ?_ (fun k o l s e=>by have:=LB k o l s e;simp at this;omega);exact mG.put (by simpa using hE []) (Nm LB) _
 ·simp[O3,O4,Qr,Qg,Qa,Qq,Qd,Qi,Qm,tL,k1,G1];rw[k1]at kb km;refine kb _ _ (fun hbn iH=>?_) (fun q d jx iH V rt ls hV LB aX=>?_)
  ·have h0:=fun ex=>h0 (by rw[e1,hbn]) ex [];simp[uQ,zzan];simp[uQ]at h0;exact h0 _
  have hc:=hV.cell;have gE:=fun ex ml d=>hV.bz ex ml ms mn d;have hE:=fun gG=>hV.ext gG;simp only[zzbe,zzae,zzai]at gE hE;have Ir:=fun m d x=>aX m d x;obtain⟨Sy,hql,SA⟩:=yz hp ho jx;have kv:=Wu q Sy.S;simp only[Qa]at kv;have km:=fun ex K hV hK=>km ex ls q d V rt K jx hV aX hK;simp only[Xr]at km;cases hpv:iG q with
  |false=>
   rw[hpv]at kv;have h0:=fun ex=>h0 (by rw[e1,jx];simp[hpv]) ex ls;simp[Xr,jx,hpv,zzan,hc,gE,Ir];simp[uQ]at h0;exact⟨kv,h0 _⟩
  |true=>
   rw[hpv]at kv;simp[Xr,jx,hpv,zzan,hc,gE,Ir];refine⟨kv,km _ _ (hE _) ?_⟩;cases DE:yy g f b o q d with
   |false=>
    have h0:=fun ex=>h0 (by rw[e1,jx];simp[hpv,DE]) ex ls;simp[zzan];simp[uQ]at h0;exact h0 _
   |true=>
    have h1:=fun ex hV hk=>h1 q d (by rw[e1,jx];simp[hpv,DE]) ex V rt ls hV hk aX;simp[zzan,hc];simp only[Xr]at h1;refine h1 _ ?_ (fun k o l s e=>by have:=LB k o l s e;simp at this;omega);exact mG.put (by simpa using hE []) (Nm LB) _
 ·simp[O3,O4,Qr,Qg,Qa,Qq,Qd,Qi,Qm,tL,k1,G1];rw[k1]at kb km;refine kb _ _ (fun hbn iH=>?_) (fun q d jx iH V rt ls hV LB aX=>?_)
  ·have h0:=fun ex=>h0 (by rw[e1,hbn]) ex [];simp[uQ,zzan];simp[uQ]at h0;exact h0 _
  have hc:=hV.cell;have gE:=fun ex ml d=>hV.bz ex ml ms mn d;have hE:=fun gG=>hV.ext gG;simp only[zzbe,zzae,zzai]at gE hE;have Ir:=fun m d x=>aX m d x;obtain⟨Sy,hql,SA⟩:=yz hp ho jx;have kv:=Wu q Sy.S;simp only[Qa]at kv;have km:=fun ex K hV hK=>km ex ls q d V rt K jx hV aX hK;simp only[Xr]at km;cases hpv:iG q with
  |false=>
   rw[hpv]at kv;have h0:=fun ex=>h0 (by rw[e1,jx];simp[hpv]) ex ls;simp[Xr,jx,hpv,zzan,hc,gE,Ir];simp[uQ]at h0;exact⟨kv,h0 _⟩
  |true=>
   rw[hpv]at kv;simp[Xr,jx,hpv,zzan,hc,gE,Ir];refine⟨kv,km _ _ (hE _) ?_⟩;cases DE:yy g f b o q d with
   |false=>
    have h0:=fun ex=>h0 (by rw[e1,jx];simp[hpv,DE]) ex ls;simp[zzan];simp[uQ]at h0;exact h0 _
   |true=>
    have h1:=fun ex hV hk=>h1 q d (by rw[e1,jx];simp[hpv,DE]) ex V rt ls hV hk aX;simp[zzan,hc];simp only[Xr]at h1;refine h1 _ ?_ (fun k o l s e=>by have:=LB k o l s e;simp at this;omega);exact mG.put (by simpa using hE []) (Nm LB) _
 simp[O3,O4,Qr,Qg,Qa,Qq,Qd,Qi,Qm,tL,k1,k2,k3,G1];refine kb _ _ (fun hbn iH=>?_) (fun q d jx iH V rt ls hV LB aX=>?_)
 ·have h0:=fun ex=>h0 (by rw[e1,hbn]) ex [];simp[uQ,zzan];simp[uQ]at h0;exact h0 _
 have hc:=hV.cell;have gE:=fun ex ml d=>hV.bz ex ml ms mn d;have hE:=fun gG=>hV.ext gG;simp only[zzbe,zzae,zzai]at gE hE;have Ir:=fun m d x=>aX m d x;obtain⟨Sy,hql,SA⟩:=yz hp ho jx;have kv:=Wu q Sy.S;simp only[Qa]at kv;have km:=fun ex K hV hK=>km ex ls q d V rt K jx hV aX hK;simp only[Xr]at km;cases hpv:iG q with
 |false=>
  rw[hpv]at kv;have h0:=fun ex=>h0 (by rw[e1,jx];simp[hpv]) ex ls;simp[Xr,jx,hpv,zzan,hc,gE,Ir];simp[uQ]at h0;exact⟨kv,h0 _⟩
 |true=>
  rw[hpv]at kv;simp[Xr,jx,hpv,zzan,hc,gE,Ir];refine⟨kv,km _ _ (hE _) ?_⟩;cases DE:yy g f b o q d with
  |false=>
   have h0:=fun ex=>h0 (by rw[e1,jx];simp[hpv,DE]) ex ls;simp[zzan];simp[uQ]at h0;exact h0 _
  |true=>
   have h1:=fun ex hV hk=>h1 q d (by rw[e1,jx];simp[hpv,DE]) ex V rt ls hV hk aX;simp[zzan,hc];simp only[Xr]at h1;refine h1 _ ?_ (fun k o l s e=>by have:=LB k o l s e;simp at this;omega);exact mG.put (by simpa using hE []) (Nm LB) _
def eL(c:P2):Prop:=c≠[]/\Lx c
def Rx{a:AV}(h:Fk a=true):cn a:=by
 cases a<;>simp[Fk]at h
 case bool b=>exact cn.bool b
 case int k n=>exact cn.int k n
 case str s=>exact cn.str s
 case sl rt rows=>
  refine cn.sl fun i s e=>?_;subst e;simp at h
 case nilfn=>exact fun w γ v h=>by cases h;exact .nilfn
 case ep row o=>
  intro w γ v h;cases h with
  |ep cv hb hc h=>exact .ep cv hb hc h
def eL.of{c:P2}(h0:c≠[])(h:Zl c=true):eL c:=by
 refine⟨h0,fun a ha=>⟨Rx (zzaw.1 h a ha),fun kn kvs e=>?_⟩⟩;have:=zzaw.1 h a ha;subst e;simp[Fk]at this
def eL.snoc{l:T5}{c:P2}(h:∀x∈l,eL x)(hc:eL c):∀x∈l++[c],eL x:=fun x hx=>by
 rcases zzam.1 hx with hx|hx
 ·exact h x hx
 rw[zzcf.1 hx];exact hc
theorem DF(e:bF):Zl (Qe e)=true:=rfl
theorem ZT(g:Pg):Zl (Qg g)=true:=rfl
def eL.mo(g:Pg)(f:Int)(mid:Nat):eL (Qr g f mid):=by
 refine⟨by simp[Qr],fun a ha=>?_⟩;rcases zzam.1 ha with ha|ha
 ·exact(eL.of (c:=Qg g) (by simp[Qg,Qa]) (ZT g)).2 a ha
 simp only[zzaq,zzdl,or_false]at ha;obtain rfl|rfl:=ha
 ·exact⟨cn.int _ _,fun _ _ h=>by cases h⟩
 exact⟨cn.mp _,fun _ _ h=>by cases h⟩
def eL.map(b:QR):eL [.aJ 0 (bG .bool b)]:=by
 refine⟨zd,fun a ha=>?_⟩;rw[zzcf.1 ha];refine⟨cn.aJ _ _,fun kn kvs h p hp=>?_⟩;cases h;simp only[bG,zzb]at hp;obtain⟨x,_,rfl⟩:=hp;exact cn.bool _
def amw(g:Pg)(fr:Int)(mb:T5)(ml:Pa)(ms:Nat->LS)(mn:Nat)(f:Nat->AV)(m:AM):Prop:=
 ∃(i:Nat)(b:QR)(bx:T5),(∀c∈bx,eL c)/\f 16=I i/\i<=g.ev.length/\Xo fr (g.ev.drop i) b=Xo fr g.ev []/\b.length<=i/\
  m=⟨mb++(Qg g::D6::[.aJ 0 (bG .bool b)]::Qr g fr (mb.length+2)::bx),ml,ms,mn⟩
def Bt(Y:YT)(m:AM)(g:Pg)(fr:Int)(hl:g.ev.length<=1000000)(K:So)
  (hK:∀ex mid,(∀c∈ex,eL c)->m.boxes.length<=mid->fQ (m.boxes++ex) mid (Xo fr g.ev [])->K (.agg (Qr g fr mid)) {m with boxes:=m.boxes++ex}):
  aB Tryz.prog aD Y 43 [.agg (Qg g),I fr] m K:=by
 obtain⟨mb,ml,ms,mn⟩:=m;refine Xn SN (fun _ _ _=>.junk) zd ?_;simp[ajK,Qg,Qa];refine Qk lS (amw g fr mb ml ms mn) (fun f _=>g.ev.length-(numOf (f 16)).toNat) ?_ ?_
 ·exact⟨0,[],[],(fun c h=>by cases h),zd,zE,zd,zd,by simp[Qg,Qa,Qr,D6]⟩
 rintro f m ⟨i,b,bx,hbx,KC,hi,hb,ek,rfl⟩;rcases zzaa i g.ev.length with ai|bn
 ·obtain⟨e,he⟩:=aV ai;have ah:Qj (g.ev.map Qe) i=Qe e:=Qu (by simp[he]);have aa:(i:Int)<(g.ev.length:Int):=zE
  have hw:=bO i zE;have hd:g.ev.drop i=e::g.ev.drop (i+1):=by rw[zzah ai,(zza.1 he).2]
  rw[hd,Xo]at hb;by_cases hs:e.st<fr
  ·rw[if_pos hs]at hb;have fP:=rG e.id true b;rcases Xy AV.bool e.id b 0 with⟨b1,b2,b3,b4⟩|⟨u,n,b1,b2,b3,b4,b5,b6⟩
   ·simp[KC,lS,aa,ah,hw,Qe,Qg,Qa,Qr,D6,hs,b2];refine⟨aQ,⟨i+1,Vh e.id true b,bx++[Qe e],eL.snoc hbx (eL.of (by simp[Qe]) (DF e)),zd,zE,hb,zE,by simp[Qg,Qa,Qr,D6,Qe,b4]⟩,zE⟩
   simp[KC,lS,aa,ah,hw,Qe,Qg,Qa,Qr,D6,hs,b2];refine⟨aQ,⟨i+1,Vh e.id true b,bx++[Qe e],eL.snoc hbx (eL.of (by simp[Qe]) (DF e)),zd,zE,hb,zE,by simp[Qg,Qa,Qr,D6,Qe,b6]⟩,zE⟩
  rw[if_neg hs]at hb;simp[KC,lS,aa,ah,hw,Qe,Qg,Qa,Qr,D6,hs];refine⟨aQ,⟨i+1,b,bx++[Qe e],eL.snoc hbx (eL.of (by simp[Qe]) (DF e)),zd,zE,hb,zE,by simp[Qg,Qa,Qr,D6,Qe]⟩,zE⟩
 obtain rfl:i=g.ev.length:=zE
 rw[zzbx,Xo]at hb;subst hb;simp[KC,lS,ajL,Qg,Qa,Qr,D6];refine hK _ (mb.length+2) ?_ zd ⟨zd,zd⟩;intro c hc;simp only[zzaq]at hc;obtain rfl|rfl|rfl|rfl|hc:=hc
 ·exact eL.of zd (by simp[Zl])
 ·exact eL.mo g fr _
 ·exact eL.map _
 ·exact eL.mo g fr _
 exact hbx c hc
section
variable {n:Nat} {m':AM}
def Ry(n:Nat)(m':AM):P2->P2->Prop
 |[],[]=>True
 |a::xs,b::ys=>dM n m' a b/\Ry n m' xs ys
 |_,_=>False
def Ry.both:∀{xs ys:P2},Ry n m' xs ys->xs.length=ys.length/\∀(i:Nat)(c d:AV),xs[i]?=some c->ys[i]?=some d->dM n m' c d
 |[],[],_=>⟨rfl,fun i c d h=>by simp at h⟩
 |[],_::_,h=>h.elim
 |_::_,[],h=>h.elim
 |a::xs,b::ys,h=>by
  obtain⟨h1,h2⟩:=Ry.both h.2;refine⟨by simp[h1],fun i c d q1 q2=>?_⟩;cases i with
  |zero=>cases q1;cases q2;exact h.1
  |succ i=>exact h2 i c d (Nm q1) (Nm q2)
def G2{xs ys:P2}(h:Ry n m' xs ys):dM n m' (.agg xs) (.agg ys):=dM.agg h.both.1 h.both.2
def G3{xs ys:P2}(h:Ry n m' xs ys):dM n m' (.aS xs) (.aS ys):=dM.aS h.both.1 h.both.2
def aff(k sz:Nat):dM n m' (.bs k 0 0 sz) (.sl .ro []):=fun N w0 an γ' γ2 w' v hm hr h1 h2=>by
 obtain⟨b,cap,arr,y4,hβ,rfl,hlc,hh,hs⟩:=hr.cN;exact aA.sl (w:=w') (γ:=γ2) (rt:=.ro) (rows:=[]) b 0 sz (fun _ _=>undef) (zzbp _) (fun h=>by cases h) (fun h=>absurd rfl h) (fun _ h=>by cases h) (fun i j c h=>by simp[Qv]at h) (fun i j c h=>by simp[Qv]at h) trivial
def mG.frz{V:AV}{l:List En}(h:mG m'.boxes V l)(hk:GL n V):dM n m' V (.sl .ro (l.map Qd)):=by
 obtain⟨rt,rfl,_⟩|⟨k,z,rfl,h2,h3,h4⟩:=h
 ·exact dM.sl _ _
 cases l with
 |nil=>exact aff _ _
 |cons a r=>
  have bU:Zl (eG (a::r)++z)=true:=by
   have:=Lg (a::r);unfold Zl at this h4 |-
   rw[zzff,this,h4];rfl
  have:=dM.bs (sz:=7) (len:=(a::r).length) (hk _ _ _ _ rfl) (Kc h2 h3) (by simp[eG,Qd]) bU (by rw[zzak,Uy];omega);rw[nV]at this;exact this
end
def Rz:P2:=[I 0,I 0,I 0,I 0,.sl .ro [],I 0,I 0,I 0,I 0,.sl .ro [],.sl .ro [],.sl .ro [],.sl .ro [],I 0]
def zY(x:Option (Pl×Int)):AV:=match x with
 |none=>.aS [.agg Rz,.bool false]
 |some (q,d)=>.aS [.agg (Qa q++[I d]),.bool true]
def Oj(Y:YT)(m:AM)(g:Pg)(f:Int)(mid:Nat)(b:QR)(o:Od)(h:ZS g f o)(hb:fQ m.boxes mid b)(hB:∀c∈m.boxes,eL c):
  aB Tryz.prog aD Y 44 [.agg (Qr g f mid),.agg (Qq o)] m (fun r m'=>m'=m/\r=zY (Uz g f b o)):=by
 refine aB.freeze (fun c hc=>(hB c hc).1) (fun c hc=>(hB c hc).2) (LA Y m g f mid b o h hb _ (fun hx ex ls=>?_) (fun q d hx ex V rt ls hV hk aX=>?_))
 ·refine⟨ex,ls,_,rfl,?_,rfl⟩;rw[hx];refine G3 ⟨G2 ?_,dM.bool _,trivial⟩;unfold uQ Rz;refine⟨dM.int _ _,dM.int _ _,dM.int _ _,dM.int _ _,dM.sl _ _,dM.int _ _,dM.int _ _,dM.int _ _,dM.int _ _,dM.sl _ _,dM.sl _ _,dM.sl _ _,dM.sl _ _,dM.int _ _,trivial⟩
 refine⟨ex,ls,_,rfl,?_,rfl⟩;rw[hx];refine G3 ⟨G2 ?_,dM.bool _,trivial⟩;unfold Xr Qa;simp only[zzae,zzai];exact⟨dM.int _ _,dM.int _ _,dM.int _ _,dM.int _ _,dM.sl _ _,dM.int _ _,dM.int _ _,dM.int _ _,dM.int _ _,dM.sl _ _,mG.frz hV hk,dM.sl _ _,dM.sl _ _,dM.int _ _,trivial⟩
def Ol(Y:YT)(m:AM)(g:Pg)(f:Int)(mid:Nat)(b:QR)(o:Od)(h:ZS g f o)(hb:fQ m.boxes mid b)(hB:∀c∈m.boxes,eL c)(K:So)(hK:K (zY (Uz g f b o)) m):
  aB Tryz.prog aD Y 44 [.agg (Qr g f mid),.agg (Qq o)] m K:=
 aB.mono (Oj Y m g f mid b o h hb hB) (by rintro r m' ⟨rfl,rfl⟩;exact hK)
