import Derived.Test.YthjppoincojfkaaGreatDoorRAMcB
set_option linter.all false
set_option maxRecDepth 100000
set_option maxHeartbeats 64000000
namespace Go.Abs
open Go Go.RowKit
section
variable {N:Nat} {w0:eT} {an:Nat->Nat->Prop} {γ γ':G} {w w':World} {P:Program} {gl:Nat->AV} {Y:YT}
def Rw(m':AM)(γ':G)(n:Nat)(b:Nat):Prop:=∃id,n<=id/\m'.boxes[id]?≠some []/\γ'.β id=some b
def dM(n:Nat)(m':AM)(r r':AV):Prop:=∀(N:Nat)(w0:eT)(an:Nat->Nat->Prop)(γ' γ2:G)(w':World)(v:Value),au N w0 an γ' w' m'.B m'.L->aA w' γ' r v->
 (∀b o,γ'.ro b o->γ2.ro b o)->(∀b,Rw m' γ' n b->∀o,γ2.ro b o)->aA w' γ2 r' v
def G.frz(γ1 γ':G)(m':AM)(n:Nat):G:={γ1 with ro:=fun b o=>γ1.ro b o\/Rw m' γ' n b}
def aB.freeze{f:FuncId}{ags:P2}{m:AM}{K:AV->Prop}(aO:∀c∈m.boxes,c≠[])(iF:∀c∈m.boxes,LG c)
  (h:aB P gl Y f ags m fun r m'=>∃ex exl r',m'={m with boxes:=m.boxes++ex,lens:=m.lens++exl}/\dM m.boxes.length m' r r'/\K r'):aB P gl Y f ags m fun r m'=>m'=m/\K r:=by
 refine⟨h.1,fun N w0 an γ w vs hm hl hg hy hr=>CallsIn.mono (h.2 N w0 an γ w vs hm hl hg hy hr) ?_⟩;rintro en w' ⟨v,γ',r,m',rfl,g1,g2,g3,g4,ex,exl,r',rfl,g5,g6⟩;have e1:=g1.dh hm
 have m1:au N w0 an (γ.dh m.lens.length γ') w' m.B m.L:=hm.dh (m1:=m) (mx:=m.boxes) (ex:=ex) (exl:=exl) g2 g1 rfl rfl rfl fun id cells cn h1 h2=>by
  rw[h1]at h2;cases h2;exact .inl ⟨rfl,h1,iF _ (zzae h1)⟩
 obtain⟨γ1,hγ1⟩:∃γ1,γ1=γ.dh m.lens.length γ':=⟨_,rfl⟩;obtain⟨m',fK⟩:∃m':AM,m'={m with boxes:=m.boxes++ex,lens:=m.lens++exl}:=⟨_,rfl⟩;rw[<- fK]at g2 g3 g5;rw[<- hγ1]at e1 m1
 have hβ:∀{id b},γ1.β id=some b->id<m.boxes.length/\γ'.β id=some b:=fun{id b}h=>by
  rw[hγ1]at h;obtain⟨h1,h2⟩:=Yw h;obtain⟨b0,dY⟩:=zzcd.1 h1;obtain⟨_,_,_,_,c,hc⟩:=hm.β id b0 dY;exact⟨(zza.1 hc).1,h2⟩
 have ct:∀{id b},γ1.own id=some b->γ'.own id=some b:=fun{id b}h=>by
  rw[hγ1]at h;have h:(if id<m.lens.length then γ'.own id else none)=some b:=h;split at h
  ·exact h
  cases h
 have cZ:γ1.sp=γ'.sp:=by rw[hγ1];rfl
 have hlp:γ1.lp=γ'.lp:=by rw[hγ1];rfl
 have gj:γ1.ro=γ'.ro:=by rw[hγ1];rfl
 have gP:∀{id b},γ1.mm id=some b->γ'.mm id=some b:=fun{id b}h=>by rw[hγ1]at h;exact(Qay h).2
 have nβ:∀{b},Rw m' γ' m.boxes.length b->∀id,γ1.β id≠some b:=fun{b}⟨j,j1,j2,j3⟩id h=>by
  obtain⟨h1,h2⟩:=hβ h
  have hB:m'.B id=some (m.boxes[id]):=by
   rw[fK];show(m.boxes++ex)[id]?=_;rw[zzaj h1,zzaf h1]
  rcases g2.inj id j b h2 j3 with k|k|k
  ·rw[hB]at k;exact aO _ (zzdf h1) (Option.some.inj k)
  ·exact j2 k
  omega
 have axM:∀{b},Rw m' γ' m.boxes.length b->∀id,γ'.own id≠some b:=fun{b}⟨j,j1,j2,j3⟩id=>(g2.β j b j3).2.2.2.1 id;have nsp:∀{b},Rw m' γ' m.boxes.length b->¬γ'.sp b:=fun{b}⟨j,j1,j2,j3⟩h=>(g2.sp b h).2.2.2.1 j j3;have nmm:∀{b},Rw m' γ' m.boxes.length b->∀id,γ'.mm id≠some b:=fun{b}⟨j,j1,j2,j3⟩id h=>(g2.mm id b h).2.2.2.1 j j3
 have ev:Ev w' γ1 w' (γ1.frz γ' m' m.boxes.length):=
  ⟨zzab _,fun _ _ _ h=>⟨.inl h,rfl⟩,fun _ _ h=>h,fun _=>zzab _,fun _ _ h=>h,rfl,
   fun id b _ h=>⟨h,fun arr _ h=>⟨arr,h,zzab _⟩,fun o h'=>h'.elim (fun x=>x) (fun hn=>absurd (ct h) (axM hn id))⟩,fun _ h=>⟨h,rfl⟩,Sz.refl _⟩
 refine⟨v,γ1.frz γ' m' m.boxes.length,r',m,rfl,e1.trans ev.cI,?_,?_,?_,rfl,g6⟩
 ·exact{
   bs:=w0.st _ _ _ _ g2.bs ⟨rfl,rfl,rfl,zzab _,fun _ _ _=>rfl,fun b o _ h=>⟨.inl (by rw[gj];exact h),rfl⟩,fun b hb=>.inl (by
     obtain⟨i,hi⟩|⟨i,hi⟩|hb|⟨i,hi⟩:=hb
     ·exact .inl ⟨i,(hβ hi).2⟩
     ·exact .inr (.inl ⟨i,ct hi⟩)
     ·exact .inr (.inr (.inl (by rw[<- cZ];exact hb)))
     ·exact .inr (.inr (.inr ⟨i,gP hi⟩))),fun b o h=>by
     obtain h|⟨j,j1,j2,j3⟩:=h
     ·exact .inl (by rw[<- gj];exact h)
     exact .inr (.inl (.inl ⟨j,j3⟩))⟩
   hN:=m1.hN
   an:=fun b o h=>by
    obtain h|⟨j,j1,j2,j3⟩:=h
    ·exact m1.an b o h
    exact .inr (g2.β j b j3).1
   robd:=fun b o h=>by
    obtain h|⟨j,j1,j2,j3⟩:=h
    ·exact m1.robd b o h
    exact(g2.β j b j3).2.1
   box:=fun id cells b hb h1=>by
    obtain⟨arr,e,h2,h3,h4⟩:=m1.box id cells b hb h1;exact⟨arr,e,h2,h3.mono ev,h4⟩
   β:=fun id b hb=>by
    obtain⟨h1,h2,h3,h4,h5⟩:=m1.β id b hb;exact⟨h1,h2,fun o h=>h.elim (h3 o) (fun hn=>nβ hn id hb),h4,h5⟩
   inj:=m1.inj
   own:=m1.own
   oinj:=m1.oinj
   sp:=fun b hb=>by
    obtain⟨h1,h2,h3,h4⟩:=m1.sp b hb;exact⟨h1,h2,fun o h=>h.elim (h3 o) (fun hn=>nsp hn (by rw[<- cZ];exact hb)),h4⟩
   mm:=fun id b hb=>by
    obtain⟨h1,h2,h3,h4,h5,h6,h8,h7⟩:=m1.mm id b hb;exact⟨h1,h2,fun o h=>h.elim (h3 o) (fun hn=>nmm hn id (gP hb)),h4,h5,h6,h8,h7.mono ev.cI.Au rfl⟩
   minj:=m1.minj
   len:=m1.len
   cur0:=m1.cur0}
 ·have g3':cT γ1 w' m:=by
   rw[fK]at g3;unfold cT at g3 |-
   rw[hlp,cZ];exact g3
  exact g3'.mono ev
 exact g5 N w0 an γ' _ w' v g2 g4 (fun b o h=>.inl (by rw[gj];exact h)) fun b hb o=>.inr hb
variable {n:Nat} {m':AM}
def dM.bool(b:Bool):dM n m' (.bool b) (.bool b):=fun _ _ _ _ _ _ _ _ h _ _=>by rw[h.bu];exact .bool b
def dM.int(k:IntKind)(z:Int):dM n m' (.int k z) (.int k z):=fun _ _ _ _ _ _ _ _ h _ _=>by rw[h.aI];exact .int k z
def dM.agg{cs ds:P2}(hl:cs.length=ds.length)(h:∀(i:Nat)(c d:AV),cs[i]?=some c->ds[i]?=some d->dM n m' c d):dM n m' (.agg cs) (.agg ds):=fun N w0 an γ' γ2 w' v hm hr h1 h2=>by
 cases hr with
 |@agg _ _ arr kl k=>
  refine .agg zE fun i d u hd hu=>?_;have hi:i<cs.length:=by have:=(zza.1 hd).1;omega
  exact h i cs[i] d (zzaf hi) hd N w0 an γ' γ2 w' u hm (k i cs[i] u (zzaf hi) hu) h1 h2
def dM.aS{cs ds:P2}(hl:cs.length=ds.length)(h:∀(i:Nat)(c d:AV),cs[i]?=some c->ds[i]?=some d->dM n m' c d):dM n m' (.aS cs) (.aS ds):=fun N w0 an γ' γ2 w' v hm hr h1 h2=>by
 cases hr with
 |@aS _ _ arr kl k=>
  refine .aS zE fun i d u hd hu=>?_;have hi:i<cs.length:=by have:=(zza.1 hd).1;omega
  exact h i cs[i] d (zzaf hi) hd N w0 an γ' γ2 w' u hm (k i cs[i] u (zzaf hi) hu) h1 h2
def ZX{γ' γ2:G}{w':World}(h1:∀b o,γ'.ro b o->γ2.ro b o){a:AV}{v:Value}(h:aA w' γ'.cV a v):aA w' γ2.cV a v:=
 h.mono ⟨zzab _,fun b o _ h=>⟨h1 b o h,rfl⟩,fun _ _ h=>(by cases h),fun _=>zzab _,fun _ _ h=>(by cases h),rfl,fun _ _ _ h=>(by cases h),fun _ h=>h.elim,Sz.refl w'⟩
def dM.sl(rt:Rt)(rows:T5):dM n m' (.sl rt rows) (.sl .ro rows):=fun N w0 an γ' γ2 w' v hm hr h1 h2=>by
 cases hr with
 |sl b off sz cv hcap hnil ha hsz hc h aX=>
  exact .sl b off sz cv hcap hnil ha hsz (fun i j c q=>⟨(hc i j c q).1,h1 _ _ (hc i j c q).2.1,(hc i j c q).2.2⟩) (fun i j c q=>ZX h1 (h i j c q)) trivial
def dM.bs{k len sz:Nat}{cells:P2}(hn:n<=k)(hk:m'.boxes[k]?=some cells)(aO:cells≠[])(bU:Zm cells=true)(hl:len*sz<=cells.length):dM n m' (.bs k 0 len sz) (.sl .ro (aY sz len cells)):=fun N w0 an γ' γ2 w' v hm hr h1 h2=>by
 obtain⟨b,cap,arr,ze,hβ,rfl,hlc,hh,hs⟩:=hr.cO;obtain⟨bP,e',q2,q3,q4⟩:=hm.box k cells b hk hβ;rw[hh]at q2;cases q2;have hsz:=q3.1;simp only[zzbi]at hsz;have aH:(aY sz len cells).length=len:=by rw[Qac];simp
 have dZ:∀row∈aY sz len cells,row.length=sz:=fun row ah=>by
  rw[Qac]at ah;simp only[zzbg,zzav]at ah;obtain⟨i,hi,rfl⟩:=ah;have:(i+1)*sz<=len*sz:=zzbb _ hi;rw[zzbq,zzdo]at this;simp only[zzaq,zzcx];omega
 have ov:∀(i j:Nat)(c:AV),Qv (aY sz len cells) i j=some c->∃u,cells[i*sz+j]?=some c/\arr[i*sz+j]?=some u/\arr.getD (i*sz+j) undef=u/\aA w' γ' c u:=fun i j c h=>by
  rw[Qac]at h;unfold Qv at h;rcases zzaa i len with hi|hi
  ·rw[zzbm,zzeh hi]at h;simp only[zzcs,zzcw]at h;rw[zzbj]at h;split at h
   ·rw[zzbl]at h;have ai:=(zza.1 h).1;exact⟨arr[i*sz+j],h,zzah zE,by simp[show i*sz+j<arr.size by omega],q3.2 _ _ _ h (by simp[show i*sz+j<arr.size by omega])⟩
   cases h
  rw[zzbm,zzat (Nm hi)]at h;cases h
 have hB:∀id cells,m'.boxes[id]?=some cells->m'.B id=some cells:=fun _ _ h=>h;have axN:∀o,γ2.ro b o:=h2 b ⟨k,hn,by rw[hk];intro h;exact aO (Option.some.inj h),hβ⟩
 have:=aA.sl (w:=w') (γ:=γ2) (rt:=.ro) (rows:=aY sz len cells) (a:=some ⟨b,0,none⟩) (cap:=cap) b 0 sz (fun i j=>arr.getD (i*sz+j) undef) (by rw[aH];exact hlc) (fun h=>by cases h) (fun _=>⟨rfl,aR hh⟩) dZ
  (
   fun i j c h=>by
   obtain⟨u,c1,c2,c3,c4⟩:=ov i j c h;rw[zzbs,aM hh,c2,c3];exact⟨rfl,axN _,q4 u (by rw[<- c3];simp[show i*sz+j<arr.size from(zzbw.1 c2).1])⟩)
  (
   fun i j c h=>by
   obtain⟨u,c1,c2,c3,c4⟩:=ov i j c h;rw[c3];have fD:Ft c=true:=zzas.1 bU c (zzae c1);have:=kH hm (m:=m') hB (ro':=γ2.ro) h1 1 c u c4 (fun hp=>by cases c<;>simp_all[Ft,Vj]);rw[NB m' 0 fD]at this;exact this) trivial
 rw[aH]at this;exact this
end
end Go.Abs
namespace Go.Proofs.YthjppoincojfkaaGreatDoor
open Go Go.Abs
def Kt(g:Pg)(f:Int)(b:QR)(o:Od):Option (Pl×Int):=
 if o.ki=1 then rK g f b o else if o.ki=2 then(yu g o).map fun q=>(q,0)else if o.ki=3 then some (nY g f b o,0)else some (DE g o,0)
def zk(g:Pg)(f:Int)(b:QR)(o:Od)(q:Pl)(d:Int):Bool:=
 if o.ki=1 then Qcf g f b o q d else if o.ki=2 then !(DA g f b o.en)else if o.ki=3 then p7 g o else true
def Ue(g:Pg)(f:Int)(b:QR)(o:Od):Option (Pl×Int):=
 if g.p.ln<=f then none else match Kt g f b o with
 |none=>none
 |some (q,d)=>if(rE q&&zk g f b o q d)=true then some (q,d)else none
def afg(g:Pg)(f:Int)(b:QR)(o:Od)(e:En):tg (uj g f b o e):=by
 unfold uj;cases Bv g f b o.en with
 |none=>exact Qeb _
 |some st=>
  have h1:=Qeb (e.fr+o.n);have h2:=Qeb (f-st);simp only;first|exact Qeb _|(split<;>assumption)|(unfold tg at*;omega)
structure PlB (q:Pl):Prop where
 sh:q.sh.length<=1000000
 aN:q.aN.length<=1000000
 ens:q.ens.length<=1000001
 bks:q.bks.length<=1000000
 cls:q.cls.length<=1000001
 als:∀e∈q.ens,e.al.length<=8796093022208
def yG{g:Pg}{f:Int}{b:QR}{o:Od}{q:Pl}{d:Int}(hp:Bs g.p)(ho:o.nw.al.length<=8796093022208)(h:Kt g f b o=some (q,d)):PlB q/\q.ln=g.p.ln/\tg d:=by
 obtain⟨h1,h2,h3,h4,h5,h6⟩:=hp;unfold Kt at h;have j0:tg 0:=by unfold tg;omega
 split at h
 ·unfold rK at h;split at h
  ·cases h
  rename_i e he;split at h
  ·cases h
  cases h;refine⟨⟨h1,h2,by simp;omega,h4,by show g.p.cls.length<=_;omega,fun x hx=>?_⟩,rfl,afg _ _ _ _ _⟩;rcases zzgj hx with hx|rfl
  ·exact h6 x hx
  exact h6 e (zzae he)
 split at h
 ·unfold yu at h;split at h
  ·cases h
  cases h;exact⟨⟨h1,h2,by have:=zzca (fun e=>!mG o.en e) g.p.ens;simp only;omega,h4,by show g.p.cls.length<=_;omega,fun x hx=>h6 x (zzce.1 hx).1⟩,rfl,j0⟩
 split at h
 ·cases h;refine⟨⟨h1,h2,by simp only[nY,zzak,zzaq,zzbd,zzcx];omega,h4,by show g.p.cls.length<=_;omega,fun x hx=>?_⟩,rfl,j0⟩;simp only[nY,zzam,zzao]at hx;obtain hx|rfl|hx:=hx
  ·exact h6 x (zzcc hx)
  ·exact ho
  exact h6 x (zzdp hx)
 cases h;exact⟨⟨h1,h2,by show g.p.ens.length<=_;omega,h4,by simp only[DE,zzak,zzbd,zzco];omega,h6⟩,rfl,j0⟩
def PlB.S{q:Pl}(h:PlB q):PlS q:=⟨by have:=h.sh;omega,by have:=h.aN;omega,by have:=h.ens;omega,by have:=h.bks;omega,by have:=h.cls;omega,h.als⟩
def Hh(q?:Option (Pl×Int)):UV:=fun _ f _=>if f=95 then(match q? with|some (q,_)=>.bool (rE q)|none=>.junk)else .gd false .junk
def mH.put{mb:T5}{a b c c':P2}{ex:T5}{V:AV}{l:List En}(h:mH (mb++(a::b::c::ex)) V l)(hk:G1 (mb.length+3) V)(gH:T5):mH (mb++(a::b::c'::(ex++gH))) V l:=by
 obtain h|⟨k,z,rfl,h2,h3,h4⟩:=h
 ·exact .inl h
 have cB:=hk _ _ _ _ rfl;obtain⟨j,rfl⟩:∃j,k=mb.length+(j+3):=⟨k-mb.length-3,zE⟩;have hg:=Jj h2;rw[h3,zzap zE,zzdu]at hg;simp only[zzcm]at hg;have hj:=(zza.1 hg).1;refine .inr ⟨_,z,rfl,by simp at h2 |-;omega,Qu ?_,h4⟩;rw[zzap zE,zzdu];simp only[zzcm];rw[zzaj hj,hg]
structure ZY (g:Pg) (f:Int) (o:Od):Prop where
 mo:f<g.p.ln->lQ g f
 pl:Bs g.p
 f0:0<=f
 ln:g.p.ln<=1000000
 n:tg o.n
 fr:∀e∈g.p.ens,tg e.fr
 dr:g.dr.length<=1000000000
 al:o.nw.al.length<=8796093022208
def LH(Y:YT)(m:AM)(g:Pg)(f:Int)(mid:Nat)(b:QR)(o:Od)(h:ZY g f o)(hb:fS m.boxes mid b)(K:So)
  (h0:Ue g f b o=none->∀ex ls,K (.aS [.agg uY,.bool false]) {m with boxes:=m.boxes++ex,lens:=m.lens++ls})
  (h1:∀q d,Ue g f b o=some (q,d)->∀ex V rt ls,mH (m.boxes++ex) V q.ens->G1 m.boxes.length V->DD rt->K (.aS [.agg (Xt q V (.sl rt (q.cls.map Qg)) d),.bool true]) {m with boxes:=m.boxes++ex,lens:=m.lens++ls}):
  aB Tryz.prog aD Y 44 [.agg (Qr g f mid),.agg (Qq o)] m K:=by
 obtain⟨mb,ml,ms,mn⟩:=m;obtain⟨hm,hp,hf0,dG,hn,zJ,fu,ho⟩:=h;have hB:∀ex,fS (mb++ex) mid b:=fun ex=>⟨by have:=hb.1;simp at this |-;omega,hb.ext ex⟩;by_cases tP:g.p.ln<=f
 ·have h0:=h0 (by unfold Ue;rw[if_pos tP]);refine Xn SP (fun _ _ _=>.gd false .junk) zd ?_;simp[OZ,O0,Qr,Qh,Qa,Qq,Qd,Qg,Qi,tP];have:=fun ex=>h0 ex [];simp[uY]at this;exact this _
 have hm:=hm zE;have JP:tg g.p.ln:=by unfold tg;omega
 have e1:Ue g f b o=match Kt g f b o with
  |none=>none
  |some (q,d)=>if(rE q&&zk g f b o q d)=true then some (q,d)else none:=by unfold Ue;rw[if_neg tP]
 have key:∃fb fm:FuncId,((o.ki=1/\fb=89/\fm=90)\/(o.ki=2/\fb=91/\fm=92)\/(o.ki=3/\fb=93/\fm=94)\/(¬o.ki=1/\¬o.ki=2/\¬o.ki=3/\fb=87/\fm=88))/\
   (
    ∀(ex:T5)(K:So),(Kt g f b o=none->∀iK,K (.aS [.agg uY,.bool false]) ⟨mb++(ex++iK),ml,ms,mn⟩)->
    (∀q d,Kt g f b o=some (q,d)->∀iK V rt ls,mH (mb++(ex++iK)) V q.ens->G1 (mb++ex).length V->DD rt->K (.aS [.agg (Xt q V (.sl rt (q.cls.map Qg)) d),.bool true]) ⟨mb++(ex++iK),ml++ls,ms,mn⟩)->
    aB Tryz.prog aD Y fb [.agg (Qr g f mid),.agg (Qq o)] ⟨mb++ex,ml,ms,mn⟩ K)/\
   (
    ∀(ex:T5)(ls:Pa)(q:Pl)(d:Int)(V:AV)(rt:Rt)(K:So),Kt g f b o=some (q,d)->mH (mb++ex) V q.ens->DD rt->K (.bool (zk g f b o q d)) ⟨mb++ex,ml++ls,ms,mn⟩->
    aB Tryz.prog aD Y fm [.agg (Qr g f mid),.agg (Qq o),.agg (Xt q V (.sl rt (q.cls.map Qg)) d)] ⟨mb++ex,ml++ls,ms,mn⟩ K):=by
  by_cases k1:o.ki=1
  ·refine⟨89,90,.inl ⟨k1,rfl,rfl⟩,fun ex K q0 q1=>?_,fun ex ls q d V rt K hq hV aX hK=>?_⟩
   ·have eR:Kt g f b o=rK g f b o:=by unfold Kt;rw[if_pos k1]
    refine aeZ Y ⟨mb++ex,ml,ms,mn⟩ g f mid b o hm hp (hB ex) hn JP zJ K (fun hx iK=>?_) (fun q d hx iK k Nq hk hr=>?_)
    ·have:=q0 (by rw[eR];exact hx) iK;simpa using this
    have:=q1 q d (by rw[eR];exact hx) iK (.bs k 0 q.ens.length 7) .ro [] (.inr ⟨k,[],rfl,Nm hk,by simpa[eF]using hr,rfl⟩) (G1.bs Nq) DD.ro;simpa using this
   have DJ:zk g f b o q d=Qcf g f b o q d:=by unfold zk;rw[if_pos k1]
   obtain⟨Sy,hql,hqd⟩:=yG hp ho hq
   have hqe:q.ens.length=g.p.ens.length/\q.cls=g.p.cls:=by
    have eR:Kt g f b o=rK g f b o:=by unfold Kt;rw[if_pos k1]
    rw[eR]at hq;unfold rK at hq;split at hq
    ·cases hq
    split at hq
    ·cases hq
    cases hq;exact⟨zd,rfl⟩
   refine aB.mono (Lw Y ⟨mb++ex,ml++ls,ms,mn⟩ g f mid b o q V rt d hV aX hm (hB ex) fu ⟨Sy.sh,Sy.aN,by rw[hqe.1];exact hp.2.2.1,Sy.bks,by rw[hqe.2];exact hp.2.2.2.2.1,Sy.als⟩ zE hqd) ?_;rintro r m' ⟨rfl,rfl⟩;rw[<- DJ];exact hK
  by_cases k2:o.ki=2
  ·refine⟨91,92,.inr (.inl ⟨k2,rfl,rfl⟩),fun ex K q0 q1=>?_,fun ex ls q d V rt K hq hV aX hK=>?_⟩
   ·have eR:Kt g f b o=(yu g o).map fun q=>(q,0):=by unfold Kt;rw[if_neg k1,if_pos k2]
    refine ZK Y ⟨mb++ex,ml,ms,mn⟩ g f mid o hm hp K (fun hx iK=>?_) (fun q hx iK k z Nq hk hr hz=>?_)
    ·have:=q0 (by rw[eR,hx];rfl) iK;simpa using this
    have:=q1 q 0 (by rw[eR,hx];rfl) iK (.bs k 0 q.ens.length 7) .ro [] (.inr ⟨k,z,rfl,Nm hk,Nm hr,hz⟩) (G1.bs Nq) DD.ro;simpa using this
   have DJ:zk g f b o q d=!(DA g f b o.en):=by unfold zk;rw[if_neg k1,if_pos k2]
   refine aB.mono (G2 Y ⟨mb++ex,ml++ls,ms,mn⟩ g f mid b o q V rt d hV hm (hB ex)) ?_;rintro r m' ⟨rfl,rfl⟩;rw[<- DJ];exact hK
  by_cases k3:o.ki=3
  ·refine⟨93,94,.inr (.inr (.inl ⟨k3,rfl,rfl⟩)),fun ex K q0 q1=>?_,fun ex ls q d V rt K hq hV aX hK=>?_⟩
   ·have eR:Kt g f b o=some (nY g f b o,0):=by unfold Kt;rw[if_neg k1,if_neg k2,if_pos k3]
    refine LD Y ⟨mb++ex,ml,ms,mn⟩ g f mid b o hp (hB ex) ho K (fun iK V ls hV LI=>?_);have:=q1 _ 0 eR iK V .ro ls (Nm hV) LI DD.ro;simpa[nY]using this
   have DJ:zk g f b o q d=p7 g o:=by unfold zk;rw[if_neg k1,if_neg k2,if_pos k3]
   refine aB.mono (Lv Y ⟨mb++ex,ml++ls,ms,mn⟩ g f mid o q V rt d hV hm fu) ?_;rintro r m' ⟨rfl,rfl⟩;rw[<- DJ];exact hK
  refine⟨87,88,.inr (.inr (.inr ⟨k1,k2,k3,rfl,rfl⟩)),fun ex K q0 q1=>?_,fun ex ls q d V rt K hq hV aX hK=>?_⟩
  ·have eR:Kt g f b o=some (DE g o,0):=by unfold Kt;rw[if_neg k1,if_neg k2,if_neg k3]
   refine ZM Y ⟨mb++ex,ml,ms,mn⟩ g f mid o hp K (fun iK V hV LI=>?_);have:=q1 _ 0 eR iK V (.own ml.length 8) [g.p.cls.length+1] (by simpa[DE]using hV) LI (DD.own _ _);simpa using this
  have DJ:zk g f b o q d=true:=by unfold zk;rw[if_neg k1,if_neg k2,if_neg k3]
  refine aB.mono (Lt Y ⟨mb++ex,ml++ls,ms,mn⟩ g f mid o q V rt d hV) ?_;rintro r m' ⟨rfl,rfl⟩;rw[<- DJ];exact hK
 obtain⟨fb,fm,hk,kb,km⟩:=key;simp only[Qr,Qh,Qa,Qq,Qd,Qg,Qi,zzad,zzai]at kb km;refine Xn SP (Hh (Kt g f b o)) zd ?_;obtain⟨k1,rfl,rfl⟩|⟨k1,rfl,rfl⟩|⟨k1,rfl,rfl⟩|⟨k1,k2,k3,rfl,rfl⟩:=hk
 ·simp[OZ,O0,Qr,Qh,Qa,Qq,Qd,Qg,Qi,tP,k1,Hh];rw[k1]at kb km;refine kb _ _ (fun hbn iK=>?_) (fun q d jH iK V rt ls hV LI aX=>?_)
  ·have h0:=fun ex=>h0 (by rw[e1,hbn]) ex [];simp[uY,zzan];simp[uY]at h0;exact h0 _
  have hc:=hV.cell;have gF:=fun ex ml d=>hV.bz ex ml ms mn d;have hE:=fun gH=>hV.ext gH;simp only[zzbe,zzad,zzai]at gF hE;have Iz:=fun m d x=>aX m d x;obtain⟨Sy,hql,hqd⟩:=yG hp ho jH;have kv:=Wv q Sy.S;simp only[Qa]at kv;have km:=fun ex K hV hK=>km ex ls q d V rt K jH hV aX hK;simp only[Xt]at km;cases hpv:rE q with
  |false=>
   rw[hpv]at kv;have h0:=fun ex=>h0 (by rw[e1,jH];simp[hpv]) ex ls;simp[Xt,jH,hpv,zzan,hc,gF,Iz];simp[uY]at h0;exact⟨kv,h0 _⟩
  |true=>
   rw[hpv]at kv;simp[Xt,jH,hpv,zzan,hc,gF,Iz];refine⟨kv,km _ _ (hE _) ?_⟩;cases DJ:zk g f b o q d with
   |false=>
    have h0:=fun ex=>h0 (by rw[e1,jH];simp[hpv,DJ]) ex ls;simp[zzan];simp[uY]at h0;exact h0 _
   |true=>
    have h1:=fun ex hV hk=>h1 q d (by rw[e1,jH];simp[hpv,DJ]) ex V rt ls hV hk aX;simp[zzan,hc];simp only[Xt]at h1;refine h1 _ ?_ (fun k o l s e=>by have:=LI k o l s e;simp at this;omega);exact mH.put (by simpa using hE []) (Nm LI) _
 ·simp[OZ,O0,Qr,Qh,Qa,Qq,Qd,Qg,Qi,tP,k1,Hh];rw[k1]at kb km;refine kb _ _ (fun hbn iK=>?_) (fun q d jH iK V rt ls hV LI aX=>?_)
  ·have h0:=fun ex=>h0 (by rw[e1,hbn]) ex [];simp[uY,zzan];simp[uY]at h0;exact h0 _
  have hc:=hV.cell;have gF:=fun ex ml d=>hV.bz ex ml ms mn d;have hE:=fun gH=>hV.ext gH;simp only[zzbe,zzad,zzai]at gF hE;have Iz:=fun m d x=>aX m d x;obtain⟨Sy,hql,hqd⟩:=yG hp ho jH;have kv:=Wv q Sy.S;simp only[Qa]at kv;have km:=fun ex K hV hK=>km ex ls q d V rt K jH hV aX hK;simp only[Xt]at km;cases hpv:rE q with
  |false=>
   rw[hpv]at kv;have h0:=fun ex=>h0 (by rw[e1,jH];simp[hpv]) ex ls;simp[Xt,jH,hpv,zzan,hc,gF,Iz];simp[uY]at h0;exact⟨kv,h0 _⟩
  |true=>
   rw[hpv]at kv;simp[Xt,jH,hpv,zzan,hc,gF,Iz];refine⟨kv,km _ _ (hE _) ?_⟩;cases DJ:zk g f b o q d with
   |false=>
    have h0:=fun ex=>h0 (by rw[e1,jH];simp[hpv,DJ]) ex ls;simp[zzan];simp[uY]at h0;exact h0 _
   |true=>
    have h1:=fun ex hV hk=>h1 q d (by rw[e1,jH];simp[hpv,DJ]) ex V rt ls hV hk aX;simp[zzan,hc];simp only[Xt]at h1;refine h1 _ ?_ (fun k o l s e=>by have:=LI k o l s e;simp at this;omega);exact mH.put (by simpa using hE []) (Nm LI) _
 ·simp[OZ,O0,Qr,Qh,Qa,Qq,Qd,Qg,Qi,tP,k1,Hh];rw[k1]at kb km;refine kb _ _ (fun hbn iK=>?_) (fun q d jH iK V rt ls hV LI aX=>?_)
  ·have h0:=fun ex=>h0 (by rw[e1,hbn]) ex [];simp[uY,zzan];simp[uY]at h0;exact h0 _
  have hc:=hV.cell;have gF:=fun ex ml d=>hV.bz ex ml ms mn d;have hE:=fun gH=>hV.ext gH;simp only[zzbe,zzad,zzai]at gF hE;have Iz:=fun m d x=>aX m d x;obtain⟨Sy,hql,hqd⟩:=yG hp ho jH;have kv:=Wv q Sy.S;simp only[Qa]at kv;have km:=fun ex K hV hK=>km ex ls q d V rt K jH hV aX hK;simp only[Xt]at km;cases hpv:rE q with
  |false=>
   rw[hpv]at kv;have h0:=fun ex=>h0 (by rw[e1,jH];simp[hpv]) ex ls;simp[Xt,jH,hpv,zzan,hc,gF,Iz];simp[uY]at h0;exact⟨kv,h0 _⟩
  |true=>
   rw[hpv]at kv;simp[Xt,jH,hpv,zzan,hc,gF,Iz];refine⟨kv,km _ _ (hE _) ?_⟩;cases DJ:zk g f b o q d with
   |false=>
    have h0:=fun ex=>h0 (by rw[e1,jH];simp[hpv,DJ]) ex ls;simp[zzan];simp[uY]at h0;exact h0 _
   |true=>
    have h1:=fun ex hV hk=>h1 q d (by rw[e1,jH];simp[hpv,DJ]) ex V rt ls hV hk aX;simp[zzan,hc];simp only[Xt]at h1;refine h1 _ ?_ (fun k o l s e=>by have:=LI k o l s e;simp at this;omega);exact mH.put (by simpa using hE []) (Nm LI) _
 simp[OZ,O0,Qr,Qh,Qa,Qq,Qd,Qg,Qi,tP,k1,k2,k3,Hh];refine kb _ _ (fun hbn iK=>?_) (fun q d jH iK V rt ls hV LI aX=>?_)
 ·have h0:=fun ex=>h0 (by rw[e1,hbn]) ex [];simp[uY,zzan];simp[uY]at h0;exact h0 _
 have hc:=hV.cell;have gF:=fun ex ml d=>hV.bz ex ml ms mn d;have hE:=fun gH=>hV.ext gH;simp only[zzbe,zzad,zzai]at gF hE;have Iz:=fun m d x=>aX m d x;obtain⟨Sy,hql,hqd⟩:=yG hp ho jH;have kv:=Wv q Sy.S;simp only[Qa]at kv;have km:=fun ex K hV hK=>km ex ls q d V rt K jH hV aX hK;simp only[Xt]at km;cases hpv:rE q with
 |false=>
  rw[hpv]at kv;have h0:=fun ex=>h0 (by rw[e1,jH];simp[hpv]) ex ls;simp[Xt,jH,hpv,zzan,hc,gF,Iz];simp[uY]at h0;exact⟨kv,h0 _⟩
 |true=>
  rw[hpv]at kv;simp[Xt,jH,hpv,zzan,hc,gF,Iz];refine⟨kv,km _ _ (hE _) ?_⟩;cases DJ:zk g f b o q d with
  |false=>
   have h0:=fun ex=>h0 (by rw[e1,jH];simp[hpv,DJ]) ex ls;simp[zzan];simp[uY]at h0;exact h0 _
  |true=>
   have h1:=fun ex hV hk=>h1 q d (by rw[e1,jH];simp[hpv,DJ]) ex V rt ls hV hk aX;simp[zzan,hc];simp only[Xt]at h1;refine h1 _ ?_ (fun k o l s e=>by have:=LI k o l s e;simp at this;omega);exact mH.put (by simpa using hE []) (Nm LI) _
def eL(c:P2):Prop:=c≠[]/\LG c
def Rx{a:AV}(h:Ft a=true):cp a:=by
 cases a<;>simp[Ft]at h
 case bool b=>exact cp.bool b
 case int k n=>exact cp.int k n
 case str s=>exact cp.str s
 case sl rt rows=>
  refine cp.sl fun i s e=>?_;subst e;simp at h
 case nilfn=>exact fun w γ v h=>by cases h;exact .nilfn
 case ep row o=>
  intro w γ v h;cases h with
  |ep cv hb hc h=>exact .ep cv hb hc h
def eL.of{c:P2}(h0:c≠[])(h:Zm c=true):eL c:=by
 refine⟨h0,fun a ha=>⟨Rx (zzas.1 h a ha),fun kn kvs e=>?_⟩⟩;have:=zzas.1 h a ha;subst e;simp[Ft]at this
def eL.snoc{l:T5}{c:P2}(h:∀x∈l,eL x)(hc:eL c):∀x∈l++[c],eL x:=fun x hx=>by
 rcases zzam.1 hx with hx|hx
 ·exact h x hx
 rw[zzcq.1 hx];exact hc
theorem DK(e:bC):Zm (Qf e)=true:=rfl
theorem ZZ(g:Pg):Zm (Qh g)=true:=rfl
def eL.mo(g:Pg)(f:Int)(mid:Nat):eL (Qr g f mid):=by
 refine⟨by simp[Qr],fun a ha=>?_⟩;rcases zzam.1 ha with ha|ha
 ·exact(eL.of (c:=Qh g) (by simp[Qh,Qa]) (ZZ g)).2 a ha
 simp only[zzao,zzd,or_false]at ha;obtain rfl|rfl:=ha
 ·exact⟨cp.int _ _,fun _ _ h=>by cases h⟩
 exact⟨cp.mp _,fun _ _ h=>by cases h⟩
def eL.map(b:QR):eL [.aJ 0 (bG .bool b)]:=by
 refine⟨zd,fun a ha=>?_⟩;rw[zzcq.1 ha];refine⟨cp.aJ _ _,fun kn kvs h p hp=>?_⟩;cases h;simp only[bG,zzbg]at hp;obtain⟨x,_,rfl⟩:=hp;exact cp.bool _
def amy(g:Pg)(fr:Int)(mb:T5)(ml:Pa)(ms:Nat->LS)(mn:Nat)(f:Nat->AV)(m:AM):Prop:=
 ∃(i:Nat)(b:QR)(bx:T5),(∀c∈bx,eL c)/\f 16=I i/\i<=g.ev.length/\Xm fr (g.ev.drop i) b=Xm fr g.ev []/\b.length<=i/\
  m=⟨mb++(Qh g::Ee::[.aJ 0 (bG .bool b)]::Qr g fr (mb.length+2)::bx),ml,ms,mn⟩
def BA(Y:YT)(m:AM)(g:Pg)(fr:Int)(hl:g.ev.length<=1000000)(K:So)
  (hK:∀ex mid,(∀c∈ex,eL c)->m.boxes.length<=mid->fS (m.boxes++ex) mid (Xm fr g.ev [])->K (.agg (Qr g fr mid)) {m with boxes:=m.boxes++ex}):
  aB Tryz.prog aD Y 43 [.agg (Qh g),I fr] m K:=by
 obtain⟨mb,ml,ms,mn⟩:=m;refine Xn SN (fun _ _ _=>.junk) zd ?_;simp[ajL,Qh,Qa];refine Qk lS (amy g fr mb ml ms mn) (fun f _=>g.ev.length-(numOf (f 16)).toNat) ?_ ?_
 ·exact⟨0,[],[],(fun c h=>by cases h),zd,zE,zd,zd,by simp[Qh,Qa,Qr,Ee]⟩
 rintro f m ⟨i,b,bx,hbx,KH,hi,hb,eR,rfl⟩;rcases zzaa i g.ev.length with ai|bn
 ·obtain⟨e,he⟩:=aV ai;have ah:Qj (g.ev.map Qf) i=Qf e:=Qu (by simp[he]);have aa:(i:Int)<(g.ev.length:Int):=zE
  have hw:=bO i zE;have hd:g.ev.drop i=e::g.ev.drop (i+1):=by rw[zzag ai,(zza.1 he).2]
  rw[hd,Xm]at hb;by_cases hs:e.st<fr
  ·rw[if_pos hs]at hb;have fR:=rN e.id true b;rcases Xx AV.bool e.id b 0 with⟨b1,b2,b3,b4⟩|⟨u,n,b1,b2,b3,b4,b5,b6⟩
   ·simp[KH,lS,aa,ah,hw,Qf,Qh,Qa,Qr,Ee,hs,b2];refine⟨aQ,⟨i+1,Vm e.id true b,bx++[Qf e],eL.snoc hbx (eL.of (by simp[Qf]) (DK e)),zd,zE,hb,zE,by simp[Qh,Qa,Qr,Ee,Qf,b4]⟩,zE⟩
   simp[KH,lS,aa,ah,hw,Qf,Qh,Qa,Qr,Ee,hs,b2];refine⟨aQ,⟨i+1,Vm e.id true b,bx++[Qf e],eL.snoc hbx (eL.of (by simp[Qf]) (DK e)),zd,zE,hb,zE,by simp[Qh,Qa,Qr,Ee,Qf,b6]⟩,zE⟩
  rw[if_neg hs]at hb;simp[KH,lS,aa,ah,hw,Qf,Qh,Qa,Qr,Ee,hs];refine⟨aQ,⟨i+1,b,bx++[Qf e],eL.snoc hbx (eL.of (by simp[Qf]) (DK e)),zd,zE,hb,zE,by simp[Qh,Qa,Qr,Ee,Qf]⟩,zE⟩
 obtain rfl:i=g.ev.length:=zE
 rw[zzbv,Xm]at hb;subst hb;simp[KH,lS,ajM,Qh,Qa,Qr,Ee];refine hK _ (mb.length+2) ?_ zd ⟨zd,zd⟩;intro c hc;simp only[zzao]at hc;obtain rfl|rfl|rfl|rfl|hc:=hc
 ·exact eL.of zd (by simp[Zm])
 ·exact eL.mo g fr _
 ·exact eL.map _
 ·exact eL.mo g fr _
 exact hbx c hc
section
variable {n:Nat} {m':AM}
def Ry(n:Nat)(m':AM):P2->P2->Prop
 |[],[]=>True
 |a::xs,b::ys=>dM n m' a b/\Ry n m' xs ys
 |_,_=>False
def Ry.both:∀{xs ys:P2},Ry n m' xs ys->xs.length=ys.length/\∀(i:Nat)(c d:AV),xs[i]?=some c->ys[i]?=some d->dM n m' c d
 |[],[],_=>⟨rfl,fun i c d h=>by simp at h⟩
 |[],_::_,h=>h.elim
 |_::_,[],h=>h.elim
 |a::xs,b::ys,h=>by
  obtain⟨h1,h2⟩:=Ry.both h.2;refine⟨by simp[h1],fun i c d q1 q2=>?_⟩;cases i with
  |zero=>cases q1;cases q2;exact h.1
  |succ i=>exact h2 i c d (Nm q1) (Nm q2)
def Hi{xs ys:P2}(h:Ry n m' xs ys):dM n m' (.agg xs) (.agg ys):=dM.agg h.both.1 h.both.2
def Hj{xs ys:P2}(h:Ry n m' xs ys):dM n m' (.aS xs) (.aS ys):=dM.aS h.both.1 h.both.2
def afh(k sz:Nat):dM n m' (.bs k 0 0 sz) (.sl .ro []):=fun N w0 an γ' γ2 w' v hm hr h1 h2=>by
 obtain⟨b,cap,arr,ze,hβ,rfl,hlc,hh,hs⟩:=hr.cO;exact aA.sl (w:=w') (γ:=γ2) (rt:=.ro) (rows:=[]) b 0 sz (fun _ _=>undef) (zzbp _) (fun h=>by cases h) (fun h=>absurd rfl h) (fun _ h=>by cases h) (fun i j c h=>by simp[Qv]at h) (fun i j c h=>by simp[Qv]at h) trivial
def mH.frz{V:AV}{l:List En}(h:mH m'.boxes V l)(hk:G1 n V):dM n m' V (.sl .ro (l.map Qd)):=by
 obtain⟨rt,rfl,_⟩|⟨k,z,rfl,h2,h3,h4⟩:=h
 ·exact dM.sl _ _
 cases l with
 |nil=>exact afh _ _
 |cons a r=>
  have bU:Zm (eF (a::r)++z)=true:=by
   have:=Lq (a::r);unfold Zm at this h4 |-
   rw[zzf,this,h4];rfl
  have:=dM.bs (sz:=7) (len:=(a::r).length) (hk _ _ _ _ rfl) (Ke h2 h3) (by simp[eF,Qd]) bU (by rw[zzak,Jb];omega);rw[nW]at this;exact this
end
def Rz:P2:=[I 0,I 0,I 0,I 0,.sl .ro [],I 0,I 0,I 0,I 0,.sl .ro [],.sl .ro [],.sl .ro [],.sl .ro [],I 0]
def Ac(x:Option (Pl×Int)):AV:=match x with
 |none=>.aS [.agg Rz,.bool false]
 |some (q,d)=>.aS [.agg (Qa q++[I d]),.bool true]
def On(Y:YT)(m:AM)(g:Pg)(f:Int)(mid:Nat)(b:QR)(o:Od)(h:ZY g f o)(hb:fS m.boxes mid b)(hB:∀c∈m.boxes,eL c):
  aB Tryz.prog aD Y 44 [.agg (Qr g f mid),.agg (Qq o)] m (fun r m'=>m'=m/\r=Ac (Ue g f b o)):=by
 refine aB.freeze (fun c hc=>(hB c hc).1) (fun c hc=>(hB c hc).2) (LH Y m g f mid b o h hb _ (fun hx ex ls=>?_) (fun q d hx ex V rt ls hV hk aX=>?_))
 ·refine⟨ex,ls,_,rfl,?_,rfl⟩;rw[hx];refine Hj ⟨Hi ?_,dM.bool _,trivial⟩;unfold uY Rz;refine⟨dM.int _ _,dM.int _ _,dM.int _ _,dM.int _ _,dM.sl _ _,dM.int _ _,dM.int _ _,dM.int _ _,dM.int _ _,dM.sl _ _,dM.sl _ _,dM.sl _ _,dM.sl _ _,dM.int _ _,trivial⟩
 refine⟨ex,ls,_,rfl,?_,rfl⟩;rw[hx];refine Hj ⟨Hi ?_,dM.bool _,trivial⟩;unfold Xt Qa;simp only[zzad,zzai];exact⟨dM.int _ _,dM.int _ _,dM.int _ _,dM.int _ _,dM.sl _ _,dM.int _ _,dM.int _ _,dM.int _ _,dM.int _ _,dM.sl _ _,mH.frz hV hk,dM.sl _ _,dM.sl _ _,dM.int _ _,trivial⟩
def Oo(Y:YT)(m:AM)(g:Pg)(f:Int)(mid:Nat)(b:QR)(o:Od)(h:ZY g f o)(hb:fS m.boxes mid b)(hB:∀c∈m.boxes,eL c)(K:So)(hK:K (Ac (Ue g f b o)) m):
  aB Tryz.prog aD Y 44 [.agg (Qr g f mid),.agg (Qq o)] m K:=
 aB.mono (On Y m g f mid b o h hb hB) (by rintro r m' ⟨rfl,rfl⟩;exact hK)
