import Derived.Test.YthjppoincojfkaaGreatDoorRPMcB
import Derived.Test.YthjppoincojfkaaGreatDoorRPScK
set_option linter.all false
set_option maxRecDepth 100000
set_option maxHeartbeats 64000000
namespace Go.Abs
open Go Go.RowKit
section
variable {N:Nat} {w0:eN} {an:Nat->Nat->Prop} {γ γ':G} {w w':World} {P:Program} {gl:Nat->AV} {Y:YT}
def Rx(m':AM)(γ':G)(n:Nat)(b:Nat):Prop:=∃id,n<=id/\m'.boxes[id]?≠some []/\γ'.β id=some b
def dL(n:Nat)(m':AM)(r r':AV):Prop:=∀(N:Nat)(w0:eN)(an:Nat->Nat->Prop)(γ' γ2:G)(w':World)(v:Value),au N w0 an γ' w' m'.B m'.L->aA w' γ' r v->
 (∀b o,γ'.ro b o->γ2.ro b o)->(∀b,Rx m' γ' n b->∀o,γ2.ro b o)->aA w' γ2 r' v
def G.frz(γ1 γ':G)(m':AM)(n:Nat):G:={γ1 with ro:=fun b o=>γ1.ro b o\/Rx m' γ' n b}
def aB.freeze{f:FuncId}{ags:P2}{m:AM}{K:AV->Prop}(aO:∀c∈m.boxes,c≠[])(iw:∀c∈m.boxes,LF c)
  (h:aB P gl Y f ags m fun r m'=>∃ex exl r',m'={m with boxes:=m.boxes++ex,lens:=m.lens++exl}/\dL m.boxes.length m' r r'/\K r'):aB P gl Y f ags m fun r m'=>m'=m/\K r:=by
 refine⟨h.1,fun N w0 an γ w vs hm hl hg hy hr=>CallsIn.mono (h.2 N w0 an γ w vs hm hl hg hy hr) ?_⟩;rintro en w' ⟨v,γ',r,m',rfl,g1,g2,g3,g4,ex,exl,r',rfl,g5,g6⟩;have e1:=g1.dg hm
 have m1:au N w0 an (γ.dg m.lens.length γ') w' m.B m.L:=hm.dg (m1:=m) (mx:=m.boxes) (ex:=ex) (exl:=exl) g2 g1 rfl rfl rfl fun id cells ck h1 h2=>by
  rw[h1]at h2;cases h2;exact .inl ⟨rfl,h1,iw _ (zzad h1)⟩
 obtain⟨γ1,hγ1⟩:∃γ1,γ1=γ.dg m.lens.length γ':=⟨_,rfl⟩;obtain⟨m',fE⟩:∃m':AM,m'={m with boxes:=m.boxes++ex,lens:=m.lens++exl}:=⟨_,rfl⟩;rw[<- fE]at g2 g3 g5;rw[<- hγ1]at e1 m1
 have hβ:∀{id b},γ1.β id=some b->id<m.boxes.length/\γ'.β id=some b:=fun{id b}h=>by
  rw[hγ1]at h;obtain⟨h1,h2⟩:=Yr h;obtain⟨b0,dY⟩:=zzcf.1 h1;obtain⟨_,_,_,_,c,hc⟩:=hm.β id b0 dY;exact⟨(zza.1 hc).1,h2⟩
 have ct:∀{id b},γ1.own id=some b->γ'.own id=some b:=fun{id b}h=>by
  rw[hγ1]at h;have h:(if id<m.lens.length then γ'.own id else none)=some b:=h;split at h
  ·exact h
  cases h
 have cV:γ1.sp=γ'.sp:=by rw[hγ1];rfl
 have hlp:γ1.lp=γ'.lp:=by rw[hγ1];rfl
 have fV:γ1.ro=γ'.ro:=by rw[hγ1];rfl
 have gL:∀{id b},γ1.mm id=some b->γ'.mm id=some b:=fun{id b}h=>by rw[hγ1]at h;exact(Qaz h).2
 have nβ:∀{b},Rx m' γ' m.boxes.length b->∀id,γ1.β id≠some b:=fun{b}⟨j,j1,j2,j3⟩id h=>by
  obtain⟨h1,h2⟩:=hβ h
  have hB:m'.B id=some (m.boxes[id]):=by
   rw[fE];show(m.boxes++ex)[id]?=_;rw[zzaj h1,zzaf h1]
  rcases g2.inj id j b h2 j3 with k|k|k
  ·rw[hB]at k;exact aO _ (zzdd h1) (Option.some.inj k)
  ·exact j2 k
  omega
 have ayb:∀{b},Rx m' γ' m.boxes.length b->∀id,γ'.own id≠some b:=fun{b}⟨j,j1,j2,j3⟩id=>(g2.β j b j3).2.2.2.1 id;have nsp:∀{b},Rx m' γ' m.boxes.length b->¬γ'.sp b:=fun{b}⟨j,j1,j2,j3⟩h=>(g2.sp b h).2.2.2.1 j j3;have nmm:∀{b},Rx m' γ' m.boxes.length b->∀id,γ'.mm id≠some b:=fun{b}⟨j,j1,j2,j3⟩id h=>(g2.mm id b h).2.2.2.1 j j3
 have ev:Ev w' γ1 w' (γ1.frz γ' m' m.boxes.length):=
  ⟨zzab _,fun _ _ _ h=>⟨.inl h,rfl⟩,fun _ _ h=>h,fun _=>zzab _,fun _ _ h=>h,rfl,
   fun id b _ h=>⟨h,fun arr _ h=>⟨arr,h,zzab _⟩,fun o h'=>h'.elim (fun x=>x) (fun hn=>absurd (ct h) (ayb hn id))⟩,fun _ h=>⟨h,rfl⟩,Sz.refl _⟩
 refine⟨v,γ1.frz γ' m' m.boxes.length,r',m,rfl,e1.trans ev.cG,?_,?_,?_,rfl,g6⟩
 ·exact{
   bs:=w0.st _ _ _ _ g2.bs ⟨rfl,rfl,rfl,zzab _,fun _ _ _=>rfl,fun b o _ h=>⟨.inl (by rw[fV];exact h),rfl⟩,fun b hb=>.inl (by
     obtain⟨i,hi⟩|⟨i,hi⟩|hb|⟨i,hi⟩:=hb
     ·exact .inl ⟨i,(hβ hi).2⟩
     ·exact .inr (.inl ⟨i,ct hi⟩)
     ·exact .inr (.inr (.inl (by rw[<- cV];exact hb)))
     ·exact .inr (.inr (.inr ⟨i,gL hi⟩))),fun b o h=>by
     obtain h|⟨j,j1,j2,j3⟩:=h
     ·exact .inl (by rw[<- fV];exact h)
     exact .inr (.inl (.inl ⟨j,j3⟩))⟩
   hN:=m1.hN
   an:=fun b o h=>by
    obtain h|⟨j,j1,j2,j3⟩:=h
    ·exact m1.an b o h
    exact .inr (g2.β j b j3).1
   robd:=fun b o h=>by
    obtain h|⟨j,j1,j2,j3⟩:=h
    ·exact m1.robd b o h
    exact(g2.β j b j3).2.1
   box:=fun id cells b hb h1=>by
    obtain⟨arr,e,h2,h3,h4⟩:=m1.box id cells b hb h1;exact⟨arr,e,h2,h3.mono ev,h4⟩
   β:=fun id b hb=>by
    obtain⟨h1,h2,h3,h4,h5⟩:=m1.β id b hb;exact⟨h1,h2,fun o h=>h.elim (h3 o) (fun hn=>nβ hn id hb),h4,h5⟩
   inj:=m1.inj
   own:=m1.own
   oinj:=m1.oinj
   sp:=fun b hb=>by
    obtain⟨h1,h2,h3,h4⟩:=m1.sp b hb;exact⟨h1,h2,fun o h=>h.elim (h3 o) (fun hn=>nsp hn (by rw[<- cV];exact hb)),h4⟩
   mm:=fun id b hb=>by
    obtain⟨h1,h2,h3,h4,h5,h6,h8,h7⟩:=m1.mm id b hb;exact⟨h1,h2,fun o h=>h.elim (h3 o) (fun hn=>nmm hn id (gL hb)),h4,h5,h6,h8,h7.mono ev.cG.Ap rfl⟩
   minj:=m1.minj
   len:=m1.len
   cur0:=m1.cur0}
 ·have g3':cS γ1 w' m:=by
   rw[fE]at g3;unfold cS at g3 |-
   rw[hlp,cV];exact g3
  exact g3'.mono ev
 exact g5 N w0 an γ' _ w' v g2 g4 (fun b o h=>.inl (by rw[fV];exact h)) fun b hb o=>.inr hb
variable {n:Nat} {m':AM}
def dL.bool(b:Bool):dL n m' (.bool b) (.bool b):=fun _ _ _ _ _ _ _ _ h _ _=>by rw[h.bu];exact .bool b
def dL.int(k:IntKind)(z:Int):dL n m' (.int k z) (.int k z):=fun _ _ _ _ _ _ _ _ h _ _=>by rw[h.aI];exact .int k z
def dL.agg{cs ds:P2}(hl:cs.length=ds.length)(h:∀(i:Nat)(c d:AV),cs[i]?=some c->ds[i]?=some d->dL n m' c d):dL n m' (.agg cs) (.agg ds):=fun N w0 an γ' γ2 w' v hm hr h1 h2=>by
 cases hr with
 |@agg _ _ arr kl k=>
  refine .agg zE fun i d u hd hu=>?_;have hi:i<cs.length:=by have:=(zza.1 hd).1;omega
  exact h i cs[i] d (zzaf hi) hd N w0 an γ' γ2 w' u hm (k i cs[i] u (zzaf hi) hu) h1 h2
def dL.aS{cs ds:P2}(hl:cs.length=ds.length)(h:∀(i:Nat)(c d:AV),cs[i]?=some c->ds[i]?=some d->dL n m' c d):dL n m' (.aS cs) (.aS ds):=fun N w0 an γ' γ2 w' v hm hr h1 h2=>by
 cases hr with
 |@aS _ _ arr kl k=>
  refine .aS zE fun i d u hd hu=>?_;have hi:i<cs.length:=by have:=(zza.1 hd).1;omega
  exact h i cs[i] d (zzaf hi) hd N w0 an γ' γ2 w' u hm (k i cs[i] u (zzaf hi) hu) h1 h2
def ZW{γ' γ2:G}{w':World}(h1:∀b o,γ'.ro b o->γ2.ro b o){a:AV}{v:Value}(h:aA w' γ'.cT a v):aA w' γ2.cT a v:=
 h.mono ⟨zzab _,fun b o _ h=>⟨h1 b o h,rfl⟩,fun _ _ h=>(by cases h),fun _=>zzab _,fun _ _ h=>(by cases h),rfl,fun _ _ _ h=>(by cases h),fun _ h=>h.elim,Sz.refl w'⟩
def dL.sl(rt:Rt)(rows:T5):dL n m' (.sl rt rows) (.sl .ro rows):=fun N w0 an γ' γ2 w' v hm hr h1 h2=>by
 cases hr with
 |sl b off sz cv hcap hnil ha hsz hc h aX=>
  exact .sl b off sz cv hcap hnil ha hsz (fun i j c q=>⟨(hc i j c q).1,h1 _ _ (hc i j c q).2.1,(hc i j c q).2.2⟩) (fun i j c q=>ZW h1 (h i j c q)) trivial
def dL.bs{k len sz:Nat}{cells:P2}(hn:n<=k)(hk:m'.boxes[k]?=some cells)(aO:cells≠[])(bU:Zm cells=true)(hl:len*sz<=cells.length):dL n m' (.bs k 0 len sz) (.sl .ro (aY sz len cells)):=fun N w0 an γ' γ2 w' v hm hr h1 h2=>by
 obtain⟨b,cap,arr,y5,hβ,rfl,hlc,hh,hs⟩:=hr.cN;obtain⟨bN,e',q2,q3,q4⟩:=hm.box k cells b hk hβ;rw[hh]at q2;cases q2;have hsz:=q3.1;simp only[zzbi]at hsz;have aH:(aY sz len cells).length=len:=by rw[Qag];simp
 have ee:∀row∈aY sz len cells,row.length=sz:=fun row ah=>by
  rw[Qag]at ah;simp only[zzar,zzaw]at ah;obtain⟨i,hi,rfl⟩:=ah;have:(i+1)*sz<=len*sz:=zzbe _ hi;rw[zzbq,zzdt]at this;simp only[zzaq,zzcw];omega
 have ow:∀(i j:Nat)(c:AV),Qv (aY sz len cells) i j=some c->∃u,cells[i*sz+j]?=some c/\arr[i*sz+j]?=some u/\arr.getD (i*sz+j) undef=u/\aA w' γ' c u:=fun i j c h=>by
  rw[Qag]at h;unfold Qv at h;rcases zzaa i len with hi|hi
  ·rw[zzbm,zzej hi]at h;simp only[zzct,zzcv]at h;rw[zzbj]at h;split at h
   ·rw[zzbl]at h;have ai:=(zza.1 h).1;exact⟨arr[i*sz+j],h,zzah zE,by simp[show i*sz+j<arr.size by omega],q3.2 _ _ _ h (by simp[show i*sz+j<arr.size by omega])⟩
   cases h
  rw[zzbm,zzas (Nm hi)]at h;cases h
 have hB:∀id cells,m'.boxes[id]?=some cells->m'.B id=some cells:=fun _ _ h=>h;have ayc:∀o,γ2.ro b o:=h2 b ⟨k,hn,by rw[hk];intro h;exact aO (Option.some.inj h),hβ⟩
 have:=aA.sl (w:=w') (γ:=γ2) (rt:=.ro) (rows:=aY sz len cells) (a:=some ⟨b,0,none⟩) (cap:=cap) b 0 sz (fun i j=>arr.getD (i*sz+j) undef) (by rw[aH];exact hlc) (fun h=>by cases h) (fun _=>⟨rfl,aR hh⟩) ee
  (
   fun i j c h=>by
   obtain⟨u,c1,c2,c3,c4⟩:=ow i j c h;rw[zzbs,aN hh,c2,c3];exact⟨rfl,ayc _,q4 u (by rw[<- c3];simp[show i*sz+j<arr.size from(zzbx.1 c2).1])⟩)
  (
   fun i j c h=>by
   obtain⟨u,c1,c2,c3,c4⟩:=ow i j c h;rw[c3];have fk:Fu c=true:=zzay.1 bU c (zzad c1);have:=ko hm (m:=m') hB (ro':=γ2.ro) h1 1 c u c4 (fun hp=>by cases c<;>simp_all[Fu,Ve]);rw[NL m' 0 fk]at this;exact this) trivial
 rw[aH]at this;exact this
end
end Go.Abs
namespace Go.Proofs.YthjppoincojfkaaGreatDoor
noncomputable section
open Go Go.Abs
def Je(g:Pg)(f:Int)(b:QR)(o:Od):Option (Pl×Int):=
 if o.ki=1 then lU g f b o else if o.ki=2 then(rE g o).map fun q=>(q,0)else if o.ki=3 then some (oa g f b o,0)else some (Dy g o,0)
def uR(g:Pg)(f:Int)(b:QR)(o:Od)(q:Pl)(d:Int):Bool:=
 if o.ki=1 then Qba g f b o q d else if o.ki=2 then !(Dt g f b o.en)else if o.ki=3 then kX g o else true
def Jc(g:Pg)(f:Int)(b:QR)(o:Od):Option (Pl×Int):=
 if g.p.ln<=f then none else match Je g f b o with
 |none=>none
 |some (q,d)=>if(jJ q&&uR g f b o q d)=true then some (q,d)else none
def afx(g:Pg)(f:Int)(b:QR)(o:Od)(e:En):s5 (tX g f b o e):=by
 unfold tX;cases zb g f b o.en with
 |none=>exact Qdz _
 |some st=>
  have h1:=Qdz (e.fr+o.n);have h2:=Qdz (f-st);simp only;first|exact Qdz _|(split<;>assumption)|(unfold s5 at*;omega)
structure PlB (q:Pl):Prop where
 sh:q.sh.length<=1000000
 aM:q.aM.length<=1000000
 ens:q.ens.length<=1000001
 bks:q.bks.length<=1000000
 cls:q.cls.length<=1000001
 als:∀e∈q.ens,e.al.length<=8796093022208
def yy{g:Pg}{f:Int}{b:QR}{o:Od}{q:Pl}{d:Int}(hp:Bl g.p)(ho:o.nw.al.length<=8796093022208)(h:Je g f b o=some (q,d)):PlB q/\q.ln=g.p.ln/\s5 d:=by
 obtain⟨h1,h2,h3,h4,h5,h6⟩:=hp;unfold Je at h;have j0:s5 0:=by unfold s5;omega
 split at h
 ·unfold lU at h;split at h
  ·cases h
  rename_i e he;split at h
  ·cases h
  cases h;refine⟨⟨h1,h2,by simp;omega,h4,by show g.p.cls.length<=_;omega,fun x hx=>?_⟩,rfl,afx _ _ _ _ _⟩;rcases zzgm hx with hx|rfl
  ·exact h6 x hx
  exact h6 e (zzad he)
 split at h
 ·unfold rE at h;split at h
  ·cases h
  cases h;exact⟨⟨h1,h2,by have:=zzce (fun e=>!jP o.en e) g.p.ens;simp only;omega,h4,by show g.p.cls.length<=_;omega,fun x hx=>h6 x (zzbw.1 hx).1⟩,rfl,j0⟩
 split at h
 ·cases h;refine⟨⟨h1,h2,by simp only[oa,zzak,zzaq,zzaz,zzcw];omega,h4,by show g.p.cls.length<=_;omega,fun x hx=>?_⟩,rfl,j0⟩;simp only[oa,zzam,zzap]at hx;obtain hx|rfl|hx:=hx
  ·exact h6 x (zzcg hx)
  ·exact ho
  exact h6 x (zzdu hx)
 cases h;exact⟨⟨h1,h2,by show g.p.ens.length<=_;omega,h4,by simp only[Dy,zzak,zzaz,zzco];omega,h6⟩,rfl,j0⟩
def PlB.S{q:Pl}(h:PlB q):PlS q:=⟨by have:=h.sh;omega,by have:=h.aM;omega,by have:=h.ens;omega,by have:=h.bks;omega,by have:=h.cls;omega,h.als⟩
def He(q?:Option (Pl×Int)):UV:=fun _ f _=>if f=95 then(match q? with|some (q,_)=>.bool (jJ q)|none=>.junk)else .gd false .junk
def mH.put{mb:T5}{a b c c':P2}{ex:T5}{V:AV}{l:List En}(h:mH (mb++(a::b::c::ex)) V l)(hk:GQ (mb.length+3) V)(gC:T5):mH (mb++(a::b::c'::(ex++gC))) V l:=by
 obtain h|⟨k,z,rfl,h2,h3,h4⟩:=h
 ·exact .inl h
 have cn:=hk _ _ _ _ rfl;obtain⟨j,rfl⟩:∃j,k=mb.length+(j+3):=⟨k-mb.length-3,zE⟩;have hg:=Jj h2;rw[h3,zzao zE,zzdy]at hg;simp only[zzcc]at hg;have hj:=(zza.1 hg).1;refine .inr ⟨_,z,rfl,by simp at h2 |-;omega,Qu ?_,h4⟩;rw[zzao zE,zzdy];simp only[zzcc];rw[zzaj hj,hg]
structure ZX (g:Pg) (f:Int) (o:Od):Prop where
 mo:f<g.p.ln->lT g f
 pl:Bl g.p
 f0:0<=f
 ln:g.p.ln<=1000000
 n:s5 o.n
 fr:∀e∈g.p.ens,s5 e.fr
 dr:g.dr.length<=1000000000
 al:o.nw.al.length<=8796093022208
def LG(Y:YT)(m:AM)(g:Pg)(f:Int)(mid:Nat)(b:QR)(o:Od)(h:ZX g f o)(hb:fL m.boxes mid b)(K:So)
  (h0:Jc g f b o=none->∀ex ls,K (.aS [.agg uO,.bool false]) {m with boxes:=m.boxes++ex,lens:=m.lens++ls})
  (h1:∀q d,Jc g f b o=some (q,d)->∀ex V rt ls,mH (m.boxes++ex) V q.ens->GQ m.boxes.length V->Dx rt->K (.aS [.agg (Xr q V (.sl rt (q.cls.map Qg)) d),.bool true]) {m with boxes:=m.boxes++ex,lens:=m.lens++ls}):
  aB Tryz.prog aD Y 44 [.agg (Qr g f mid),.agg (Qq o)] m K:=by
 obtain⟨mb,ml,ms,mn⟩:=m;obtain⟨hm,hp,hf0,dD,hn,zx,fc,ho⟩:=h;have hB:∀ex,fL (mb++ex) mid b:=fun ex=>⟨by have:=hb.1;simp at this |-;omega,hb.ext ex⟩;by_cases tJ:g.p.ln<=f
 ·have h0:=h0 (by unfold Jc;rw[if_pos tJ]);refine Xn SY (fun _ _ _=>.gd false .junk) zd ?_;simp[O7,O8,Qr,Qm,Qa,Qq,Qd,Qg,Qk,tJ];have:=fun ex=>h0 ex [];simp[uO]at this;exact this _
 have hm:=hm zE;have JU:s5 g.p.ln:=by unfold s5;omega
 have e1:Jc g f b o=match Je g f b o with
  |none=>none
  |some (q,d)=>if(jJ q&&uR g f b o q d)=true then some (q,d)else none:=by unfold Jc;rw[if_neg tJ]
 have key:∃fb fm:FuncId,((o.ki=1/\fb=89/\fm=90)\/(o.ki=2/\fb=91/\fm=92)\/(o.ki=3/\fb=93/\fm=94)\/(¬o.ki=1/\¬o.ki=2/\¬o.ki=3/\fb=87/\fm=88))/\
   (
    ∀(ex:T5)(K:So),(Je g f b o=none->∀iE,K (.aS [.agg uO,.bool false]) ⟨mb++(ex++iE),ml,ms,mn⟩)->
    (∀q d,Je g f b o=some (q,d)->∀iE V rt ls,mH (mb++(ex++iE)) V q.ens->GQ (mb++ex).length V->Dx rt->K (.aS [.agg (Xr q V (.sl rt (q.cls.map Qg)) d),.bool true]) ⟨mb++(ex++iE),ml++ls,ms,mn⟩)->
    aB Tryz.prog aD Y fb [.agg (Qr g f mid),.agg (Qq o)] ⟨mb++ex,ml,ms,mn⟩ K)/\
   (
    ∀(ex:T5)(ls:Pa)(q:Pl)(d:Int)(V:AV)(rt:Rt)(K:So),Je g f b o=some (q,d)->mH (mb++ex) V q.ens->Dx rt->K (.bool (uR g f b o q d)) ⟨mb++ex,ml++ls,ms,mn⟩->
    aB Tryz.prog aD Y fm [.agg (Qr g f mid),.agg (Qq o),.agg (Xr q V (.sl rt (q.cls.map Qg)) d)] ⟨mb++ex,ml++ls,ms,mn⟩ K):=by
  by_cases k1:o.ki=1
  ·refine⟨89,90,.inl ⟨k1,rfl,rfl⟩,fun ex K q0 q1=>?_,fun ex ls q d V rt K hq hV aX hK=>?_⟩
   ·have fO:Je g f b o=lU g f b o:=by unfold Je;rw[if_pos k1]
    refine afc Y ⟨mb++ex,ml,ms,mn⟩ g f mid b o hm hp (hB ex) hn JU zx K (fun hx iE=>?_) (fun q d hx iE k Nz hk hr=>?_)
    ·have:=q0 (by rw[fO];exact hx) iE;simpa using this
    have:=q1 q d (by rw[fO];exact hx) iE (.bs k 0 q.ens.length 7) .ro [] (.inr ⟨k,[],rfl,Nm hk,by simpa[eE]using hr,rfl⟩) (GQ.bs Nz) Dx.ro;simpa using this
   have DE:uR g f b o q d=Qba g f b o q d:=by unfold uR;rw[if_pos k1]
   obtain⟨SH,hql,hqd⟩:=yy hp ho hq
   have hqe:q.ens.length=g.p.ens.length/\q.cls=g.p.cls:=by
    have fO:Je g f b o=lU g f b o:=by unfold Je;rw[if_pos k1]
    rw[fO]at hq;unfold lU at hq;split at hq
    ·cases hq
    split at hq
    ·cases hq
    cases hq;exact⟨zd,rfl⟩
   refine aB.mono (Lt Y ⟨mb++ex,ml++ls,ms,mn⟩ g f mid b o q V rt d hV aX hm (hB ex) fc ⟨SH.sh,SH.aM,by rw[hqe.1];exact hp.2.2.1,SH.bks,by rw[hqe.2];exact hp.2.2.2.2.1,SH.als⟩ zE hqd) ?_;rintro r m' ⟨rfl,rfl⟩;rw[<- DE];exact hK
  by_cases k2:o.ki=2
  ·refine⟨91,92,.inr (.inl ⟨k2,rfl,rfl⟩),fun ex K q0 q1=>?_,fun ex ls q d V rt K hq hV aX hK=>?_⟩
   ·have fO:Je g f b o=(rE g o).map fun q=>(q,0):=by unfold Je;rw[if_neg k1,if_pos k2]
    refine ZG Y ⟨mb++ex,ml,ms,mn⟩ g f mid o hm hp K (fun hx iE=>?_) (fun q hx iE k z Nz hk hr hz=>?_)
    ·have:=q0 (by rw[fO,hx];rfl) iE;simpa using this
    have:=q1 q 0 (by rw[fO,hx];rfl) iE (.bs k 0 q.ens.length 7) .ro [] (.inr ⟨k,z,rfl,Nm hk,Nm hr,hz⟩) (GQ.bs Nz) Dx.ro;simpa using this
   have DE:uR g f b o q d=!(Dt g f b o.en):=by unfold uR;rw[if_neg k1,if_pos k2]
   refine aB.mono (GR Y ⟨mb++ex,ml++ls,ms,mn⟩ g f mid b o q V rt d hV hm (hB ex)) ?_;rintro r m' ⟨rfl,rfl⟩;rw[<- DE];exact hK
  by_cases k3:o.ki=3
  ·refine⟨93,94,.inr (.inr (.inl ⟨k3,rfl,rfl⟩)),fun ex K q0 q1=>?_,fun ex ls q d V rt K hq hV aX hK=>?_⟩
   ·have fO:Je g f b o=some (oa g f b o,0):=by unfold Je;rw[if_neg k1,if_neg k2,if_pos k3]
    refine LB Y ⟨mb++ex,ml,ms,mn⟩ g f mid b o hp (hB ex) ho K (fun iE V ls hV LH=>?_);have:=q1 _ 0 fO iE V .ro ls (Nm hV) LH Dx.ro;simpa[oa]using this
   have DE:uR g f b o q d=kX g o:=by unfold uR;rw[if_neg k1,if_neg k2,if_pos k3]
   refine aB.mono (Ls Y ⟨mb++ex,ml++ls,ms,mn⟩ g f mid o q V rt d hV hm fc) ?_;rintro r m' ⟨rfl,rfl⟩;rw[<- DE];exact hK
  refine⟨87,88,.inr (.inr (.inr ⟨k1,k2,k3,rfl,rfl⟩)),fun ex K q0 q1=>?_,fun ex ls q d V rt K hq hV aX hK=>?_⟩
  ·have fO:Je g f b o=some (Dy g o,0):=by unfold Je;rw[if_neg k1,if_neg k2,if_neg k3]
   refine ZI Y ⟨mb++ex,ml,ms,mn⟩ g f mid o hp K (fun iE V hV LH=>?_);have:=q1 _ 0 fO iE V (.own ml.length 8) [g.p.cls.length+1] (by simpa[Dy]using hV) LH (Dx.own _ _);simpa using this
  have DE:uR g f b o q d=true:=by unfold uR;rw[if_neg k1,if_neg k2,if_neg k3]
  refine aB.mono (Lr Y ⟨mb++ex,ml++ls,ms,mn⟩ g f mid o q V rt d hV) ?_;rintro r m' ⟨rfl,rfl⟩;rw[<- DE];exact hK
 obtain⟨fb,fm,hk,kb,km⟩:=key;simp only[Qr,Qm,Qa,Qq,Qd,Qg,Qk,zzae,zzai]at kb km;refine Xn SY (He (Je g f b o)) zd ?_;obtain⟨k1,rfl,rfl⟩|⟨k1,rfl,rfl⟩|⟨k1,rfl,rfl⟩|⟨k1,k2,k3,rfl,rfl⟩:=hk
 ·simp[O7,O8,Qr,Qm,Qa,Qq,Qd,Qg,Qk,tJ,k1,He];rw[k1]at kb km;refine kb _ _ (fun hbn iE=>?_) (fun q d jo iE V rt ls hV LH aX=>?_)
  ·have h0:=fun ex=>h0 (by rw[e1,hbn]) ex [];simp[uO,zzan];simp[uO]at h0;exact h0 _
  have hc:=hV.cell;have gz:=fun ex ml d=>hV.bz ex ml ms mn d;have hE:=fun gC=>hV.ext gC;simp only[zzav,zzae,zzai]at gz hE;have IL:=fun m d x=>aX m d x;obtain⟨SH,hql,hqd⟩:=yy hp ho jo;have kv:=Wz q SH.S;simp only[Qa]at kv;have km:=fun ex K hV hK=>km ex ls q d V rt K jo hV aX hK;simp only[Xr]at km;cases hpv:jJ q with
  |false=>
   rw[hpv]at kv;have h0:=fun ex=>h0 (by rw[e1,jo];simp[hpv]) ex ls;simp[Xr,jo,hpv,zzan,hc,gz,IL];simp[uO]at h0;exact⟨kv,h0 _⟩
  |true=>
   rw[hpv]at kv;simp[Xr,jo,hpv,zzan,hc,gz,IL];refine⟨kv,km _ _ (hE _) ?_⟩;cases DE:uR g f b o q d with
   |false=>
    have h0:=fun ex=>h0 (by rw[e1,jo];simp[hpv,DE]) ex ls;simp[zzan];simp[uO]at h0;exact h0 _
   |true=>
    have h1:=fun ex hV hk=>h1 q d (by rw[e1,jo];simp[hpv,DE]) ex V rt ls hV hk aX;simp[zzan,hc];simp only[Xr]at h1;refine h1 _ ?_ (fun k o l s e=>by have:=LH k o l s e;simp at this;omega);exact mH.put (by simpa using hE []) (Nm LH) _
 ·simp[O7,O8,Qr,Qm,Qa,Qq,Qd,Qg,Qk,tJ,k1,He];rw[k1]at kb km;refine kb _ _ (fun hbn iE=>?_) (fun q d jo iE V rt ls hV LH aX=>?_)
  ·have h0:=fun ex=>h0 (by rw[e1,hbn]) ex [];simp[uO,zzan];simp[uO]at h0;exact h0 _
  have hc:=hV.cell;have gz:=fun ex ml d=>hV.bz ex ml ms mn d;have hE:=fun gC=>hV.ext gC;simp only[zzav,zzae,zzai]at gz hE;have IL:=fun m d x=>aX m d x;obtain⟨SH,hql,hqd⟩:=yy hp ho jo;have kv:=Wz q SH.S;simp only[Qa]at kv;have km:=fun ex K hV hK=>km ex ls q d V rt K jo hV aX hK;simp only[Xr]at km;cases hpv:jJ q with
  |false=>
   rw[hpv]at kv;have h0:=fun ex=>h0 (by rw[e1,jo];simp[hpv]) ex ls;simp[Xr,jo,hpv,zzan,hc,gz,IL];simp[uO]at h0;exact⟨kv,h0 _⟩
  |true=>
   rw[hpv]at kv;simp[Xr,jo,hpv,zzan,hc,gz,IL];refine⟨kv,km _ _ (hE _) ?_⟩;cases DE:uR g f b o q d with
   |false=>
    have h0:=fun ex=>h0 (by rw[e1,jo];simp[hpv,DE]) ex ls;simp[zzan];simp[uO]at h0;exact h0 _
   |true=>
    have h1:=fun ex hV hk=>h1 q d (by rw[e1,jo];simp[hpv,DE]) ex V rt ls hV hk aX;simp[zzan,hc];simp only[Xr]at h1;refine h1 _ ?_ (fun k o l s e=>by have:=LH k o l s e;simp at this;omega);exact mH.put (by simpa using hE []) (Nm LH) _
 ·simp[O7,O8,Qr,Qm,Qa,Qq,Qd,Qg,Qk,tJ,k1,He];rw[k1]at kb km;refine kb _ _ (fun hbn iE=>?_) (fun q d jo iE V rt ls hV LH aX=>?_)
  ·have h0:=fun ex=>h0 (by rw[e1,hbn]) ex [];simp[uO,zzan];simp[uO]at h0;exact h0 _
  have hc:=hV.cell;have gz:=fun ex ml d=>hV.bz ex ml ms mn d;have hE:=fun gC=>hV.ext gC;simp only[zzav,zzae,zzai]at gz hE;have IL:=fun m d x=>aX m d x;obtain⟨SH,hql,hqd⟩:=yy hp ho jo;have kv:=Wz q SH.S;simp only[Qa]at kv;have km:=fun ex K hV hK=>km ex ls q d V rt K jo hV aX hK;simp only[Xr]at km;cases hpv:jJ q with
  |false=>
   rw[hpv]at kv;have h0:=fun ex=>h0 (by rw[e1,jo];simp[hpv]) ex ls;simp[Xr,jo,hpv,zzan,hc,gz,IL];simp[uO]at h0;exact⟨kv,h0 _⟩
  |true=>
   rw[hpv]at kv;simp[Xr,jo,hpv,zzan,hc,gz,IL];refine⟨kv,km _ _ (hE _) ?_⟩;cases DE:uR g f b o q d with
   |false=>
    have h0:=fun ex=>h0 (by rw[e1,jo];simp[hpv,DE]) ex ls;simp[zzan];simp[uO]at h0;exact h0 _
   |true=>
    have h1:=fun ex hV hk=>h1 q d (by rw[e1,jo];simp[hpv,DE]) ex V rt ls hV hk aX;simp[zzan,hc];simp only[Xr]at h1;refine h1 _ ?_ (fun k o l s e=>by have:=LH k o l s e;simp at this;omega);exact mH.put (by simpa using hE []) (Nm LH) _
 simp[O7,O8,Qr,Qm,Qa,Qq,Qd,Qg,Qk,tJ,k1,k2,k3,He];refine kb _ _ (fun hbn iE=>?_) (fun q d jo iE V rt ls hV LH aX=>?_)
 ·have h0:=fun ex=>h0 (by rw[e1,hbn]) ex [];simp[uO,zzan];simp[uO]at h0;exact h0 _
 have hc:=hV.cell;have gz:=fun ex ml d=>hV.bz ex ml ms mn d;have hE:=fun gC=>hV.ext gC;simp only[zzav,zzae,zzai]at gz hE;have IL:=fun m d x=>aX m d x;obtain⟨SH,hql,hqd⟩:=yy hp ho jo;have kv:=Wz q SH.S;simp only[Qa]at kv;have km:=fun ex K hV hK=>km ex ls q d V rt K jo hV aX hK;simp only[Xr]at km;cases hpv:jJ q with
 |false=>
  rw[hpv]at kv;have h0:=fun ex=>h0 (by rw[e1,jo];simp[hpv]) ex ls;simp[Xr,jo,hpv,zzan,hc,gz,IL];simp[uO]at h0;exact⟨kv,h0 _⟩
 |true=>
  rw[hpv]at kv;simp[Xr,jo,hpv,zzan,hc,gz,IL];refine⟨kv,km _ _ (hE _) ?_⟩;cases DE:uR g f b o q d with
  |false=>
   have h0:=fun ex=>h0 (by rw[e1,jo];simp[hpv,DE]) ex ls;simp[zzan];simp[uO]at h0;exact h0 _
  |true=>
   have h1:=fun ex hV hk=>h1 q d (by rw[e1,jo];simp[hpv,DE]) ex V rt ls hV hk aX;simp[zzan,hc];simp only[Xr]at h1;refine h1 _ ?_ (fun k o l s e=>by have:=LH k o l s e;simp at this;omega);exact mH.put (by simpa using hE []) (Nm LH) _
end
end Go.Proofs.YthjppoincojfkaaGreatDoor
namespace Go.Proofs.YthjppoincojfkaaGreatDoor
noncomputable section
open Go Go.Abs
def stF(ok:Pi->Bool)(rd:Int->Nat)(ids:Pi)(r:Nat):Nat->Nat->List Bool->List Bool
 |0,_,K=>K
 |n+1,i,K=>stF ok rd ids r n (i+1) (Jy ok rd ids r K i)
def Ry(ok:Pi->Bool)(rd:Int->Nat)(ids:Pi)(r:Nat)(K:List Bool):Jf ok rd ids r K=stF ok rd ids r ids.length 0 K:=by
 have:∀(n i:Nat)(K:List Bool),(List.range' i n).foldl (Jy ok rd ids r) K=stF ok rd ids r n i K:=by
  intro n;induction n with
  |zero=>intro i K;rfl
  |succ n ih=>intro i K;rw[zzgr,zzcx,ih];rfl
 unfold Jf;rw[zzfo];exact this _ _ _
def ZY{ok:Pi->Bool}{rd:Int->Nat}{ids:Pi}{r:Nat}{K:List Bool}{i:Nat}{id:Int}(h:ids[i]?=some id):Jy ok rd ids r K i=if rd id=r then K.set i (ok (Xg true ids (K.set i true)))else K:=by
 unfold Jy;rw[h]
def chF(ok:Pi->Bool)(rd:Int->Nat)(ids:Pi):Nat->Nat->List Bool->List Bool
 |0,_,K=>K
 |n+1,r,K=>chF ok rd ids n (r+1) (Jf ok rd ids r K)
def yz(p:Pl)(ids:Pi):T5:=[Qa p,[.sl .ro (ids.map Qy)]]
def dh(E:T5)(n:Nat)(K:List Bool)(ex:T5):T5:=E++(K.map AV.bool::[.bs (E.length+12) 0 n 1]::ex)
def ze(p:Pl)(ids:Pi)(b:Bd)(E:T5)(K:List Bool)(ex:T5)(ls:Pa):AM:=aP (yz p ids) b (dh E ids.length K ex) ls
def lV(b:Bd)(rv:List (Int×(Rt×List Sp)))(li:List (Int×Int))(pm:List ((Int×Int)×List Sp)):Bd:={b with rv:=rv,li:=li,pm:=pm}
def aty(p:Pl)(ids:Pi)(b:Bd)(E:T5)(T:List Bool)(f:Nat->AV)(m:AM):Prop:=
 ∃(r:Nat)(K:List Bool)(rv:List (Int×(Rt×List Sp)))(li:List (Int×Int))(pm:List ((Int×Int)×List Sp))(ex:T5)(ls:Pa),f 36=I r/\r<=3/\K.length=ids.length/\chF (oy b) (Rz p) ids (3-r) r K=T/\Bg (lV b rv li pm)/\m=ze p ids (lV b rv li pm) E K ex ls
def atz(p:Pl)(ids:Pi)(b:Bd)(E:T5)(r:Nat)(T:List Bool)(f:Nat->AV)(m:AM):Prop:=
 ∃(i:Nat)(K:List Bool)(rv:List (Int×(Rt×List Sp)))(li:List (Int×Int))(pm:List ((Int×Int)×List Sp))(ex:T5)(ls:Pa),f 41=I i/\i<=ids.length/\K.length=ids.length/\stF (oy b) (Rz p) ids r (ids.length-i) i K=T/\Bg (lV b rv li pm)/\m=ze p ids (lV b rv li pm) E K ex ls
def ayd(p:Pl)(ids:Pi)(b:Bd)(E:T5)(K:List Bool)(ex:T5)(ls:Pa)(S:Pi)(v:AV)(m:AM):Prop:=
 ∃(a:AV)(rv:List (Int×(Rt×List Sp)))(li:List (Int×Int))(pm:List ((Int×Int)×List Sp))(gC:T5)(exl:Pa),v=.aS [a,.bool (oy b S)]/\Bg (lV b rv li pm)/\m=ze p ids (lV b rv li pm) E K (ex++gC) (ls++exl)
def jU:UV:=fun d f _=>if f=999999 then(if d=34 then .aJ 0 []else .junk)else .gd false .junk
def ZZ{p:Pl}{ids:Pi}(hi:ids.length<=1000)(b:Bd)(E:T5)(K:List Bool)(hk:K.length=ids.length)(ex:T5)(ls:Pa)(w:Bool)(Y:YT)(Q:So)
  (hQ:Q (.sl (rJ ls.length (Xg w ids K)) ((Xg w ids K).map Qy)) (ze p ids b E K ex (ls++oe (Xg w ids K)))):
  aB Tryz.prog aD Y 163 [.bool w,.ptr 1 0,.ptr (E.length+13) 0] (ze p ids b E K ex ls) Q:=by
 refine RA ids K w hi hk (ze p ids b E K ex ls) 1 (E.length+13) (E.length+12) ?_ ?_ ?_ ?_ ?_ ?_ Y Q hQ;all_goals simp[ze,aP,aW,yz,dh]
 all_goals omega
def qS(a:AV):∀n:Nat,bF n [a]=List.replicate n a
 |0=>rfl
 |n+1=>by rw[bF,qS a n];rfl
def Z0{p:Pl}(h:PlK p){at_:Int}(ha:amQ at_){past:List Ad}(hp:past.length<=2500)(pre post:T5)(ls:Pa)(rv:List (Int×(Rt×List Sp)))(li:List (Int×Int))(pm:List ((Int×Int)×List Sp))(hB:Bg (lV (gD p at_ past) rv li pm))
  (S:Pi)(hS:S.length<=1000)(rt0:Rt)(Y:YT)(K:So)
  (
   hK:∀a rv li pm ex exl,Bg (lV (gD p at_ past) rv li pm)->((Yc p at_ past S=none/\a=.sl .nil [])\/∃l rt,Yc p at_ past S=some l/\Dh 2 ls.length (ls++exl) rt l/\a=.sl rt (l.map Qf))->
   K (.aS [a,.bool (oy (gD p at_ past) S)]) (aP pre (lV (gD p at_ past) rv li pm) (post++ex) (ls++exl))):
  aB Tryz.prog aD Y 114 [.ptr (pre.length+9) 0,.sl rt0 (S.map Qy)] (aP pre (lV (gD p at_ past) rv li pm) post ls) K:=by
 have FY:=h.spn;obtain⟨l1,l2,l3,l4,l5,l6,l7,l8,l9,l10⟩:=h;have hU:=Z1 past;have hE:=Z2 p past;refine Qej pre post ls (lV (gD p at_ past) rv li pm) S rt0 past.length zE zE (show p.cls.length<=1000000 by omega) (show p.sh.length<=1000000000 by omega) (show p.aM.length<=1000000000 by omega) (show p.ens.length<=1000000000 by omega) (show(Yy p).length<=1000000000 by omega) l7.2 (fun e he=>(l8 e he).2) ha.2 hU hE hB Y K (fun h0 rv li pm gC exl hB=>?_) (fun l h1 rv li pm gC exl Sh hB Gd=>?_)
 ·have h0:Yc p at_ past S=none:=h0;have:=hK (.sl .nil []) rv li pm gC exl hB (.inl ⟨h0,rfl⟩);rw[uT,h0]at this;exact this
 have h1:Yc p at_ past S=some l:=h1;have:=hK (.sl Sh (l.map Qf)) rv li pm gC exl hB (.inr ⟨l,Sh,h1,Gd,rfl⟩);rw[uT,h1]at this;exact this
def qc(w:Bool)(ids:Pi)(K:List Bool):(Xg w ids K).length<=ids.length:=(jV w ids K).length_le
def Z3{p:Pl}(h:PlK p){at_:Int}(ha:amQ at_){past:List Ad}(hp:past.length<=2500){ids:Pi}(hi:ids.length<=1000):
  Pure Tryz.prog aD 108 [.agg (Qa p),.sl .ro (ids.map Qy),I at_,.sl .ro (past.map Vi)] (RB p at_ past ids):=by
 have E7:=h;obtain⟨l1,l2,l3,l4,l5,l6,l7,l8,l9,l10⟩:=h;refine Qp abX jU zd ?_;simp[MJ,Qa,jU];have k41:=fun K'=>xM (yz p ids) [] p at_ past .ro zE zE zE Y0 K';simp only[yz,Qa]at k41;refine k41 _ fun ex=>?_;clear k41;simp[jU,aP,aW,Qo,Qa];refine Z0 E7 ha hp (yz p ids) ex [] [] [] [] (amR p at_ past) ids hi .ro Y0 _ (fun a rv li pm gC exl hB hr=>?_);obtain⟨h0,rfl⟩|⟨l,rt,h1,hO,rfl⟩:=hr
 ·have bU:oy (gD p at_ past) ids=false:=by rw[uT,h0];rfl
  rw[bU];obtain⟨E,hE⟩:∃E,ex++gC=E:=⟨_,rfl⟩;rw[hE];simp[jU,aP,aW,Qo,yz,Qa,lV,gD];refine⟨zE,?_⟩;refine Qi BS (aty p ids (gD p at_ past) E (Wh p at_ past ids)) (fun f _=>(3-numOf (f 36)).toNat) ?_ ?_
  ·exact⟨0,List.replicate ids.length false,rv,li,pm,[],exl,zd,zE,zd,rfl,hB,by simp[ze,aP,aW,Qo,yz,dh,Qa,lV,gD,qS]⟩
  clear hB;rintro f m ⟨r,K,rv,li,pm,Dk,ls,h36,Ov,hK,hT,hB,rfl⟩;rcases zzaa r 3 with rlt|rge
  ·have aye:(r:Int)<3:=zE
   have pK:=bP r zE;obtain⟨n,hn⟩:∃n,3-r=n+1:=⟨2-r,zE⟩;rw[hn,chF]at hT;obtain⟨T,hTr⟩:∃T,Jf (oy (gD p at_ past)) (Rz p) ids r K=T:=⟨_,rfl⟩;rw[hTr]at hT;rw[Ry]at hTr;simp[h36,rlt,aye,BS,ze,aP,aW,yz,dh,lV,gD];refine Qi I3 (atz p ids (gD p at_ past) E r T) (fun f _=>ids.length-(numOf (f 41)).toNat) ?_ ?_
   ·exact⟨0,K,rv,li,pm,Dk,ls,zd,zE,hK,Nm hTr,hB,by simp[ze,aP,aW,yz,dh,lV,gD]⟩
   clear hTr hK hB;rintro g m ⟨i,K,rv,li,pm,Dk,ls,g41,iV,hK,hTi,hB,rfl⟩;rcases zzaa i ids.length with ai|bq
   ·obtain⟨id,hx⟩:=aV ai;have ah:Qh (ids.map Qy) i=Qy id:=Qu (by simp[hx]);have aa:(i:Int)<(ids.length:Int):=zE
    have hw:=bP i zE;obtain⟨n2,y6⟩:∃n2,ids.length-i=n2+1:=⟨ids.length-i-1,zE⟩;have hn3:ids.length-(i+1)=n2:=zE
    rw[y6,stF,ZY hx]at hTi;simp[g41,ai,aa,ah,Qy,I3,ze,aP,aW,yz,dh,lV,gD,jU];refine afy (yz p ids) (dh E ids.length K Dk) ls (lV (gD p at_ past) rv li pm) id Y0 _ (fun exr=>?_);have hpb:(lV (gD p at_ past) rv li pm).p=p:=rfl;rw[hpb];by_cases iC:Rz p id=r
    ·rw[if_pos iC]at hTi;have amS:((Rz p id:Nat):Int)=(r:Int):=zE
     have hms:(K.map AV.bool).set i (.bool true)=(K.set i true).map AV.bool:=by rw[zzfg]
     simp[amS,aP,aW,yz,dh,lV,gD,jU];refine⟨ai,zE,?_⟩;rw[hms];obtain⟨S,hS⟩:∃S,Xg true ids (K.set i true)=S:=⟨_,rfl⟩;have hSl:S.length<=1000:=by have:=qc true ids (K.set i true);rw[hS]at this;omega
     have hK2:(K.set i true).length=ids.length:=by simpa using hK
     rw[hS]at hTi;obtain⟨ok,atA⟩:∃ok,oy (gD p at_ past) S=ok:=⟨_,rfl⟩;rw[atA]at hTi
     refine WI rfl [(.sl (rJ ls.length S) (S.map Qy),ze p ids (lV (gD p at_ past) rv li pm) E (K.set i true) (Dk++exr) (ls++oe S))] (ayd p ids (gD p at_ past) E (K.set i true) (Dk++exr) (ls++oe S) S)
      ⟨(.aS [.sl .nil [],.bool (oy (gD p at_ past) S)],ze p ids (lV (gD p at_ past) rv li pm) E (K.set i true) ((Dk++exr)++[]) ((ls++oe S)++[])),.sl .nil [],rv,li,pm,[],[],rfl,hB,rfl⟩ (fun v m' hv=>?_)
     obtain⟨a,rv2,sU,Oc,QY,amT,rfl,A4,rfl⟩:=hv;rw[atA];simp[ze,aP,aW,yz,dh,lV,gD,jU,hw];rw[hms];have azl:(K.map AV.bool).set i (.bool ok)=(K.set i ok).map AV.bool:=by rw[zzfg]
     refine⟨?_,?_,ai,zE,aQ,⟨i+1,K.set i ok,rv2,sU,Oc,(Dk++exr)++QY,ls++oe S++amT,zd,zE,Nm hK,by rw[hn3];exact hTi,A4,by simp[ze,aP,aW,yz,dh,lV,gD]⟩,by simp[g41];omega⟩
     ·refine ZZ (p:=p) hi (lV (gD p at_ past) rv li pm) E (K.set i true) hK2 (Dk++exr) ls true Y0 _ ?_;rw[hS];exact⟨rfl,rfl⟩
     refine Z0 E7 ha hp (yz p ids) (dh E ids.length (K.set i true) (Dk++exr)) (ls++oe S) rv li pm hB S hSl _ Y0 _ (fun a rv li pm ex exl hB _=>⟨a,rv,li,pm,ex,exl,rfl,hB,by simp[ze,dh];rfl⟩)
    rw[if_neg iC]at hTi;have amS:¬((Rz p id:Nat):Int)=(r:Int):=zE
    simp[amS,aP,aW,yz,dh,lV,gD,jU,hw];refine⟨aQ,⟨i+1,K,rv,li,pm,Dk++exr,ls,zd,zE,hK,by rw[hn3];exact hTi,hB,by simp[ze,aP,aW,yz,dh,lV,gD]⟩,zE⟩
   have bO:¬(i:Int)<(ids.length:Int):=zE
   have hz:ids.length-i=0:=zE
   rw[hz,stF]at hTi;subst hTi;simp[g41,bO,zzbk.2 bq,I3,BS,h36,ze,aP,aW,yz,dh,lV,gD,pK];refine⟨aQ,⟨r+1,K,rv,li,pm,Dk,ls,zd,zE,hK,by rw[show 3-(r+1)=n by omega];exact hT,hB,by simp[ze,aP,aW,yz,dh,lV,gD]⟩,zE⟩
  have rin:¬(r:Int)<3:=zE
  obtain rfl:r=3:=zE
  have hT:K=Wh p at_ past ids:=hT;subst hT;obtain⟨ka,kb,kc⟩:=LI p at_ past ids;obtain⟨L,hL⟩:=zzcf.1 kb;simp[h36,BS,ze,aP,aW,yz,dh,lV,gD,jU];refine ZZ (p:=p) hi (lV (gD p at_ past) rv li pm) E (Wh p at_ past ids) ka Dk ls true Y0 _ ?_;obtain⟨S,hS⟩:∃S,Xg true ids (Wh p at_ past ids)=S:=⟨_,rfl⟩;have hSl:S.length<=1000:=by have:=qc true ids (Wh p at_ past ids);rw[hS]at this;omega
  have hr:RB p at_ past ids=.aS [IQ L,Hf (Xg false ids (Wh p at_ past ids))]:=by rw[RB,hL];rfl
  rw[hr];rw[hS]at hL |-
  simp[ze,aP,aW,yz,dh,lV,gD,jU];refine Z0 E7 ha hp (yz p ids) (dh E ids.length (Wh p at_ past ids) Dk) (ls++oe S) rv li pm hB S hSl _ Y0 _ (fun a rv li pm QY amT hB hv=>?_);obtain⟨h0,_⟩|⟨l,rt,h1,hO,rfl⟩:=hv
  ·rw[hL]at h0;cases h0
  rw[hL]at h1;cases h1;simp[ze,aP,aW,yz,dh,lV,gD,jU];refine ZZ (p:=p) hi (lV (gD p at_ past) rv li pm) E (Wh p at_ past ids) ka (Dk++QY) (ls++(oe S++amT)) false Y0 _ ?_;obtain⟨D,hD⟩:∃D,Xg false ids (Wh p at_ past ids)=D:=⟨_,rfl⟩;rw[hD];by_cases hDe:D=[]
  ·subst hDe;obtain⟨rfl,rfl⟩|⟨k2,rfl,_,_,aO⟩:=hO
   ·simp[u9,IQ,Hf,rJ]
   simp[u9,IQ,Hf,rJ,aO]
  obtain⟨rfl,rfl⟩|⟨k2,rfl,_,_,aO⟩:=hO
  ·simp[u9,IQ,Hf,rJ,hDe]
  simp[u9,IQ,Hf,rJ,hDe,aO]
 have bU:oy (gD p at_ past) ids=true:=by rw[uT,h1];rfl
 obtain⟨dA,ef⟩:=RC p at_ past ids (by rw[h1];rfl);have hr:RB p at_ past ids=.aS [IQ l,.sl .nil []]:=by rw[RB,dA,ef,h1];rfl
 rw[bU,hr];obtain⟨rfl,rfl⟩|⟨k2,rfl,_,_,aO⟩:=hO
 ·simp[u9,IQ]
 simp[u9,IQ,aO]
def Hg:SC:=(⟨_,by cbv⟩:J4 [1,1,1,1,1,1,1,1] IU).1
def Hh:SC:=(⟨_,fun _=>by cbv⟩:Fm [1,1] (oU [1,1,1,1,1,1] IU)).1 Hg
def Ow:SC:=(⟨_,fun _=>by cbv⟩:Fm [1,1] (oU [1,1,1,1] IU)).1 Hh
def atB:SC:=(⟨_,fun _=>by cbv⟩:Fm [1,1,1,1] IU).1 Ow
theorem afz:IU=atB:=rfl
def Kl(l:Pi):Pi:=l.mergeSort fun x y=>decide (x<=y)
def rK(l:Pi):(Kl l).length=l.length:=zzet l
def Ox(l:Pi):(l.map Qy).flatten=aj l:=by
 induction l with
 |nil=>rfl
 |cons a r ih=>simp only[zzbb,zzcj,ih];rfl
def tZ{α:Type}(l:List α):Rt:=if l=[]then .nil else .ro
def ajj:∀{l:Pi},l≠[]->dd l≠[]
 |[],h=>absurd rfl h
 |[x],_=>by simp[dd]
 |x::y::r,_=>by
  rw[FJ];split
  ·exact ajj zd
  simp
def gR(n:Nat)(m:AM)(V:AV)(rows:T5):Prop:=Qx V=true/\∀m':AM,m.boxes.length<=m'.boxes.length->(∀j,n<=j->j<m.boxes.length->Qh m'.boxes j=Qh m.boxes j)->∀d,bz m' (d+2) V=.sl (tZ rows) rows
def gR.mono{n n':Nat}{m:AM}{V:AV}{rows:T5}(h:gR n m V rows)(hn:n'<=n):gR n' m V rows:=⟨h.1,fun m' h1 h2 d=>h.2 m' h1 (fun j q1 q2=>h2 j zE q2) d⟩
def Z4(Y:YT)(m:AM)(rt:Rt)(K:So)(hK:K (.sl rt []) m):aB Tryz.prog aD Y 111 [.sl rt []] m K:=by
 obtain⟨mb,ml,ms,mn⟩:=m;refine Xn BT (fun _ _ _=>.junk) zd ?_;simp[va,Ac];exact hK
def bB.pre{id:Nat}{mb X B':T5}(h:bB (·=id) (mb++X) B')(aL:mb.length<=id):∃ex,B'=mb++ex:=by
 refine⟨B'.drop mb.length,?_⟩;apply zzcz;intro j;have hl:=h.1;simp only[zzak]at hl;rcases zzaa j mb.length with hj|hj
 ·rw[zzaj hj];have:=h.2 j (by simp;omega) zE;rw[Jj zE,this,Jj hj,Qn hj]
 rw[zzao hj,zzbl];congr 1;omega
def gR.ints{B:T5}{L:Pa}{st:Nat->LS}{n k id:Nat}{l:Pi}{c:P2}(hk:k<=id)(aL:id<B.length)(hB:Qh B id=aj l++c)(hc:Zm c=true)(aO:l≠[]):gR k ⟨B,L,st,n⟩ (.bs id 0 l.length 1) (l.map Qy):=by
 have aX:tZ (l.map Qy)=.ro:=by unfold tZ;rw[if_neg (Nm aO)]
 rw[gR,aX];refine⟨rfl,fun m' h1 h2 d=>?_⟩;have hr:=h2 id hk aL;simp only at hr h1
 have bU:Zm (aj l++c)=true:=by
  have:=WY l;unfold Zm at this hc |-
  rw[zzfd,this,hc];rfl
 rw[WA,Yb];rw[hr,hB,Va _ _ bU,if_pos (by rw[zzak,Uh];omega),zzd,wM];rfl
def Hi(Y:YT)(orc:UV)(ho5:orc 95 999999 []=.aJ 0 [])(ho7:orc 97 999999 []=.aJ 0 [])(hs:∀d l,orc d 110 l=.gd false .junk)(hp:∀d l,orc d 111 l=.gd false .junk)
  (E:QQ)(mb:T5)(ml:Pa)(ms:Nat->LS)(mn:Nat)(g:Pg)(f:Int)(mid k3:Nat)(V8:AV)(rD:Rt)(D:Pi)(Q:R0)
  (h3:Abs.look E 3=.ptr k3 0)(Bh:k3<mb.length)(Ov:Qh mb k3=Qr g f mid)(h8:Abs.look E 8=V8)(KJ:Abs.look E 16=.sl rD (D.map Qy))(gJ:g.dr.length<=1000000)(CN:D.length<=1000000)
  (hQ:∀E' ex vd,Abs.look E' 6=V8->Abs.look E' 7=vd->gR mb.length ⟨mb++ex,ml,ms,mn⟩ vd ((dd (Kl (g.dr++D))).map Qy)->Q .ret ⟨Vw 103 E',⟨mb++ex,ml,ms,mn⟩⟩):
  vc Tryz.prog aD orc Y Hg ⟨Vw 103 E,⟨mb,ml,ms,mn⟩⟩ Q:=by
 simp only[Qr,Qm,Qa,zzae,zzai]at Ov
 have fin:∀(X:T5)(id:Nat)(K:AV->AV->AM->Prop),mb.length<=id->id<(mb++X).length->Qh (mb++X) id=aj (g.dr++D)->g.dr++D≠[]->
   (∀ex vd,gR mb.length ⟨mb++ex,ml,ms,mn⟩ vd ((dd (Kl (g.dr++D))).map Qy)->K (.aS []) vd ⟨mb++ex,ml,ms,mn⟩)->
   aB Tryz.prog aD Y 110 [.bs id 0 (g.dr++D).length 1] ⟨mb++X,ml,ms,mn⟩ (fun r0 m'=>aB Tryz.prog aD Y 111 [.bs id 0 (g.dr++D).length 1] m' (K r0)):=by
  intro X id K cn ai ah aO hK;refine sH Y (g.dr++D) (by simp;omega) _ id [] (by rw[zzau];exact Kg ai ah) (by rw[zzau];intro h;have:=congrArg List.length h;rw[Uh]at this;exact aO (zzbf this)) _ ?_;have aH:(g.dr++D).length=(Kl (g.dr++D)).length:=(rK _).symm;rw[aH];have fG:Kl (g.dr++D)≠[]:=fun h=>aO (by have:=congrArg List.length h;rw[rK]at this;exact zzbf this);refine sE Y (Kl (g.dr++D)) (by rw[<- aH];simp;omega) _ _ _ _ id (Nm ai) fG ?_ _ ?_
  ·rw[zzau];exact Qu (by rw[zzbg ai];first|rfl|(rw[zzau];rfl))
  intro B' z nE eP _
  have bR:(mb++X).set id (aj (List.mergeSort (g.dr++D) fun x y=>decide (x<=y))++[])=mb++X.set (id-mb.length) (aj (List.mergeSort (g.dr++D) fun x y=>decide (x<=y))++[]):=by
   rw[zzdc _ _ cn]
  rw[bR]at nE;obtain⟨ex,rfl⟩:=bB.pre nE cn;refine hK ex _ ?_;have ayf:id<(mb++ex).length:=by have:=nE.1;simp at this ai |-;omega
  rw[nD]at eP;exact gR.ints cn ayf eP (WY z) (ajj fG)
 have hR3:∀ex,Qh (mb++ex) k3=_:=fun ex=>(Qn Bh).trans Ov;have hm5:mutO orc (some 95)=true:=by unfold mutO;simp[ho5]
 have hm7:mutO orc (some 97)=true:=by unfold mutO;simp[ho7]
 simp only[zzak]at fin;by_cases fc:g.dr=[]
 ·by_cases hD:D=[]
  ·simp[Hg,h3,h8,KJ,Ov,fc,hD,hs,hp,ho5,ho7];refine pI _ _ _ _ ?_;refine Z4 _ _ _ _ ?_;have:=fun E' vd h1 h2 h3=>hQ E' [] vd h1 h2 h3;simp only[zzau]at this;refine this _ _ zd (by simp;rfl) ?_;rw[fc,hD];refine⟨rfl,fun m' h1 h2 d=>?_⟩;simp[Kl,dd,tZ]
  have aO:g.dr++D≠[]:=by simp[hD]
  have gj:¬aj D=[]:=fun h=>hD (by have:=congrArg List.length h;rw[Uh]at this;exact zzbf this);rw[fc]at fin hQ aO;simp only[zzco,zzbs,zzai]at fin hQ;have pK:∀a∈D,(Qy a).length=1:=fun _ _=>rfl;simp[Hg,h3,h8,KJ,Ov,fc,hD,hs,hp,ho5,ho7,Ox,Uh];refine⟨⟨zE,pK⟩,fin [aj D] mb.length _ (zzab _) zd zd hD ?_⟩;intro ex vd hv;exact hQ _ _ _ zd zd hv
 have aO:g.dr++D≠[]:=by simp[fc]
 have gj:¬aj g.dr=[]:=fun h=>fc (by have:=congrArg List.length h;rw[Uh]at this;exact zzbf this);have pK:∀a∈D,(Qy a).length=1:=fun _ _=>rfl;have ayg:∀a∈g.dr,(Qy a).length=1:=fun _ _=>rfl;have bA:List.take g.dr.length (aj g.dr)=aj g.dr:=zzat (by rw[Uh];exact zzab _);simp[Hg,h3,h8,KJ,Ov,fc,hs,hp,ho5,Ox,Uh,gj,bA];refine⟨⟨zE,ayg⟩,⟨zE,pK⟩,fin [[],aj g.dr++aj D] (mb.length+1) _ zE zd (by simp[nD]) aO ?_⟩;intro ex vd hv;exact hQ _ _ _ zd zd hv
def DF(rt y4:Rt):Prop:=∀m d x,bz m (d+1) (.sl rt x)=.sl y4 x
def DF.ro:DF .ro .ro:=fun _ _ _=>rfl
def DF.nil:DF .nil .nil:=fun _ _ _=>rfl
def DF.own(k s:Nat):DF (.own k s) .ro:=fun _ _ _=>rfl
def LJ{α:Type}(l:List α):DF (tZ l) (tZ l):=by
 unfold tZ;split
 ·exact DF.nil
 exact DF.ro
def EvW(ml:Pa)(rt:Rt)(n:Nat):Prop:=(rt=.nil/\n=0)\/∃k,rt=.own k 7/\ml[k]?=some n
def Z5(Y:YT)(orc:UV)(ho5:orc 95 999999 []=.aJ 0 [])(ho7:orc 97 999999 []=.aJ 0 [])(ho1:orc 91 999999 []=.junk)(hs:∀d l,orc d 110 l=.gd false .junk)(hp:∀d l,orc d 111 l=.gd false .junk)
  (E:QQ)(mb:T5)(ml:Pa)(ms:Nat->LS)(mn:Nat)(g:Pg)(f:Int)(mid k3 k5:Nat)(q:Pl)(d:Int)(rte ce rti ci rL rD:Rt)(ev bl:List bC)(en:Int)(ids D:Pi)(L:List Sp)(past:List Ad)(Q:R0)
  (atC:∀d l,orc d 109 l=.sl .ro (past.map Vi))(atD:∀d l,orc d 108 l=.aS [.sl rL (L.map Qf),.sl rD (D.map Qy)])(h62:∀d l,orc d 67 l=.sl .ro (bl.map Qe))
  (afA:Pure Tryz.prog aD 109 [.sl ce (ev.map Zt),I en] (.sl .ro (past.map Vi)))
  (Z6:Pure Tryz.prog aD 108 [.agg (Qa q),.sl ci (ids.map Qy),I en,.sl .ro (past.map Vi)] (.aS [.sl rL (L.map Qf),.sl rD (D.map Qy)]))
  (Z7:Pure Tryz.prog aD 67 [.agg (Qa q),.sl rL (L.map Qf),I en] (.sl .ro (bl.map Qe)))
  (hce:DF rte ce)(hci:DF rti ci)(hcL:DF rL rL)
  (h3:Abs.look E 3=.ptr k3 0)(Bh:k3<mb.length)(Ov:Qh mb k3=Qr g f mid)(h5:Abs.look E 5=.ptr k5 0)(hk5:k5<mb.length)(hr5:Qh mb k5=Qa q++[I d])
  (h8:Abs.look E 8=.sl rte (ev.map Zt))(ayh:EvW ml rte ev.length)(h9:Abs.look E 9=I en)(qw:Abs.look E 12=.sl rti (ids.map Qy))
  (gJ:g.dr.length<=1000000)(CN:D.length<=1000000)(hl3:ev.length<=1000000)(hl4:bl.length<=10000000)
  (hQ:∀E' ex ls ke vd,Abs.look E' 6=.sl (.own ke 7) (ev.map Zt++bl.map Qe)->Abs.look E' 7=vd->gR mb.length ⟨mb++ex,ls,ms,mn⟩ vd ((dd (Kl (g.dr++D))).map Qy)->Q .ret ⟨Vw 103 E',⟨mb++ex,ls,ms,mn⟩⟩):
  vc Tryz.prog aD orc Y Hh ⟨Vw 103 E,⟨mb,ml,ms,mn⟩⟩ Q:=by
 have atE:=fun m d x=>hce m d x;have atF:=fun m d x=>hci m d x;have atG:=fun m d x=>hcL m d x;simp only[Qa,zzae,zzai]at hr5;simp only[Qa]at Z6 Z7;have hR5:∀ex,Qh (mb++ex) k5=_:=fun ex=>(Qn hk5).trans hr5;have hw7:∀a∈ev,(Zt a).length=7:=fun _ _=>rfl;have ayi:∀a∈bl,(Qe a).length=7:=fun _ _=>rfl;obtain⟨rfl,hn⟩|⟨k,rfl,hk⟩:=ayh
 ·have he:ev=[]:=zzbf hn;subst he;simp[Hh,h8,h9,qw,h5,hr5,atE,atF,atG,atC,atD,h62,ho1];refine⟨afA,Z6,Z7,⟨ayi,zE⟩,Hi Y orc ho5 ho7 hs hp _ mb _ ms mn g f mid k3 (.sl (.own ml.length 7) (bl.map Qe)) rD D Q (by simp[h3]) Bh Ov zd zd gJ CN ?_⟩;intro E' ex vd q1 q2 q3;exact hQ E' ex _ ml.length vd (by rw[q1];rfl) q2 q3
 simp[Hh,h8,h9,qw,h5,hr5,atE,atF,atG,atC,atD,h62,hk];refine⟨afA,Z6,Z7,⟨?_,zE⟩,Hi Y orc ho5 ho7 hs hp _ mb _ ms mn g f mid k3 (.sl (.own k 7) (ev.map Zt++bl.map Qe)) rD D Q (by simp[h3]) Bh Ov zd zd gJ CN ?_⟩
 ·rintro row (⟨a,_,rfl⟩|⟨a,_,rfl⟩)<;>rfl
 intro E' ex vd q1 q2 q3;exact hQ E' ex _ k vd q1 q2 q3
def eG(c:P2):Prop:=c≠[]/\LF c
def RD{a:AV}(h:Fu a=true):cm a:=by
 cases a<;>simp[Fu]at h
 case bool b=>exact cm.bool b
 case int k n=>exact cm.int k n
 case str s=>exact cm.str s
 case sl rt rows=>
  refine cm.sl fun i s e=>?_;subst e;simp at h
 case nilfn=>exact fun w γ v h=>by cases h;exact .nilfn
 case ep row o=>
  intro w γ v h;cases h with
  |ep cv hb hc h=>exact .ep cv hb hc h
def eG.of{c:P2}(h0:c≠[])(h:Zm c=true):eG c:=by
 refine⟨h0,fun a ha=>⟨RD (zzay.1 h a ha),fun kn kvs e=>?_⟩⟩;have:=zzay.1 h a ha;subst e;simp[Fu]at this
def eG.snoc{l:T5}{c:P2}(h:∀x∈l,eG x)(hc:eG c):∀x∈l++[c],eG x:=fun x hx=>by
 rcases zzam.1 hx with hx|hx
 ·exact h x hx
 rw[zzca.1 hx];exact hc
theorem DG(e:bC):Zm (Qe e)=true:=rfl
theorem Z8(g:Pg):Zm (Qm g)=true:=rfl
def eG.mo(g:Pg)(f:Int)(mid:Nat):eG (Qr g f mid):=by
 refine⟨by simp[Qr],fun a ha=>?_⟩;rcases zzam.1 ha with ha|ha
 ·exact(eG.of (c:=Qm g) (by simp[Qm,Qa]) (Z8 g)).2 a ha
 simp only[zzap,zzdl,or_false]at ha;obtain rfl|rfl:=ha
 ·exact⟨cm.int _ _,fun _ _ h=>by cases h⟩
 exact⟨cm.mp _,fun _ _ h=>by cases h⟩
def eG.map(b:QR):eG [.aJ 0 (bG .bool b)]:=by
 refine⟨zd,fun a ha=>?_⟩;rw[zzca.1 ha];refine⟨cm.aJ _ _,fun kn kvs h p hp=>?_⟩;cases h;simp only[bG,zzar]at hp;obtain⟨x,_,rfl⟩:=hp;exact cm.bool _
def amU(g:Pg)(fr:Int)(mb:T5)(ml:Pa)(ms:Nat->LS)(mn:Nat)(f:Nat->AV)(m:AM):Prop:=
 ∃(i:Nat)(b:QR)(bx:T5),(∀c∈bx,eG c)/\f 16=I i/\i<=g.ev.length/\Xp fr (g.ev.drop i) b=Xp fr g.ev []/\b.length<=i/\
  m=⟨mb++(Qm g::Eh::[.aJ 0 (bG .bool b)]::Qr g fr (mb.length+2)::bx),ml,ms,mn⟩
def Bu(Y:YT)(m:AM)(g:Pg)(fr:Int)(hl:g.ev.length<=1000000)(K:So)
  (hK:∀ex mid,(∀c∈ex,eG c)->m.boxes.length<=mid->fL (m.boxes++ex) mid (Xp fr g.ev [])->K (.agg (Qr g fr mid)) {m with boxes:=m.boxes++ex}):
  aB Tryz.prog aD Y 43 [.agg (Qm g),I fr] m K:=by
 obtain⟨mb,ml,ms,mn⟩:=m;refine Xn SX (fun _ _ _=>.junk) zd ?_;simp[aj6,Qm,Qa];refine Qi lW (amU g fr mb ml ms mn) (fun f _=>g.ev.length-(numOf (f 16)).toNat) ?_ ?_
 ·exact⟨0,[],[],(fun c h=>by cases h),zd,zE,zd,zd,by simp[Qm,Qa,Qr,Eh]⟩
 rintro f m ⟨i,b,bx,hbx,KJ,hi,hb,fO,rfl⟩;rcases zzaa i g.ev.length with ai|bq
 ·obtain⟨e,he⟩:=aV ai;have ah:Qh (g.ev.map Qe) i=Qe e:=Qu (by simp[he]);have aa:(i:Int)<(g.ev.length:Int):=zE
  have hw:=bP i zE;have hd:g.ev.drop i=e::g.ev.drop (i+1):=by rw[zzag ai,(zza.1 he).2]
  rw[hd,Xp]at hb;by_cases hs:e.st<fr
  ·rw[if_pos hs]at hb;have fK:=rF e.id true b;rcases Xw AV.bool e.id b 0 with⟨b1,b2,b3,b4⟩|⟨u,n,b1,b2,b3,b4,b5,b6⟩
   ·simp[KJ,lW,aa,ah,hw,Qe,Qm,Qa,Qr,Eh,hs,b2];refine⟨aQ,⟨i+1,Vf e.id true b,bx++[Qe e],eG.snoc hbx (eG.of (by simp[Qe]) (DG e)),zd,zE,hb,zE,by simp[Qm,Qa,Qr,Eh,Qe,b4]⟩,zE⟩
   simp[KJ,lW,aa,ah,hw,Qe,Qm,Qa,Qr,Eh,hs,b2];refine⟨aQ,⟨i+1,Vf e.id true b,bx++[Qe e],eG.snoc hbx (eG.of (by simp[Qe]) (DG e)),zd,zE,hb,zE,by simp[Qm,Qa,Qr,Eh,Qe,b6]⟩,zE⟩
  rw[if_neg hs]at hb;simp[KJ,lW,aa,ah,hw,Qe,Qm,Qa,Qr,Eh,hs];refine⟨aQ,⟨i+1,b,bx++[Qe e],eG.snoc hbx (eG.of (by simp[Qe]) (DG e)),zd,zE,hb,zE,by simp[Qm,Qa,Qr,Eh,Qe]⟩,zE⟩
 obtain rfl:i=g.ev.length:=zE
 rw[zzbu,Xp]at hb;subst hb;simp[KJ,lW,aj7,Qm,Qa,Qr,Eh];refine hK _ (mb.length+2) ?_ zd ⟨zd,zd⟩;intro c hc;simp only[zzap]at hc;obtain rfl|rfl|rfl|rfl|hc:=hc
 ·exact eG.of zd (by simp[Zm])
 ·exact eG.mo g fr _
 ·exact eG.map _
 ·exact eG.mo g fr _
 exact hbx c hc
section
variable {n:Nat} {m':AM}
def RE(n:Nat)(m':AM):P2->P2->Prop
 |[],[]=>True
 |a::xs,b::ys=>dL n m' a b/\RE n m' xs ys
 |_,_=>False
def RE.both:∀{xs ys:P2},RE n m' xs ys->xs.length=ys.length/\∀(i:Nat)(c d:AV),xs[i]?=some c->ys[i]?=some d->dL n m' c d
 |[],[],_=>⟨rfl,fun i c d h=>by simp at h⟩
 |[],_::_,h=>h.elim
 |_::_,[],h=>h.elim
 |a::xs,b::ys,h=>by
  obtain⟨h1,h2⟩:=RE.both h.2;refine⟨by simp[h1],fun i c d q1 q2=>?_⟩;cases i with
  |zero=>cases q1;cases q2;exact h.1
  |succ i=>exact h2 i c d (Nm q1) (Nm q2)
def Hj{xs ys:P2}(h:RE n m' xs ys):dL n m' (.agg xs) (.agg ys):=dL.agg h.both.1 h.both.2
def Hl{xs ys:P2}(h:RE n m' xs ys):dL n m' (.aS xs) (.aS ys):=dL.aS h.both.1 h.both.2
def afB(k sz:Nat):dL n m' (.bs k 0 0 sz) (.sl .ro []):=fun N w0 an γ' γ2 w' v hm hr h1 h2=>by
 obtain⟨b,cap,arr,y5,hβ,rfl,hlc,hh,hs⟩:=hr.cN;exact aA.sl (w:=w') (γ:=γ2) (rt:=.ro) (rows:=[]) b 0 sz (fun _ _=>undef) (zzbp _) (fun h=>by cases h) (fun h=>absurd rfl h) (fun _ h=>by cases h) (fun i j c h=>by simp[Qv]at h) (fun i j c h=>by simp[Qv]at h) trivial
def mH.frz{V:AV}{l:List En}(h:mH m'.boxes V l)(hk:GQ n V):dL n m' V (.sl .ro (l.map Qd)):=by
 obtain⟨rt,rfl,_⟩|⟨k,z,rfl,h2,h3,h4⟩:=h
 ·exact dL.sl _ _
 cases l with
 |nil=>exact afB _ _
 |cons a r=>
  have bU:Zm (eE (a::r)++z)=true:=by
   have:=Lo (a::r);unfold Zm at this h4 |-
   rw[zzfd,this,h4];rfl
  have:=dL.bs (sz:=7) (len:=(a::r).length) (hk _ _ _ _ rfl) (Kg h2 h3) (by simp[eE,Qd]) bU (by rw[zzak,Jb];omega);rw[nY]at this;exact this
end
def RF:P2:=[I 0,I 0,I 0,I 0,.sl .ro [],I 0,I 0,I 0,I 0,.sl .ro [],.sl .ro [],.sl .ro [],.sl .ro [],I 0]
def zU(x:Option (Pl×Int)):AV:=match x with
 |none=>.aS [.agg RF,.bool false]
 |some (q,d)=>.aS [.agg (Qa q++[I d]),.bool true]
def Oy(Y:YT)(m:AM)(g:Pg)(f:Int)(mid:Nat)(b:QR)(o:Od)(h:ZX g f o)(hb:fL m.boxes mid b)(hB:∀c∈m.boxes,eG c):
  aB Tryz.prog aD Y 44 [.agg (Qr g f mid),.agg (Qq o)] m (fun r m'=>m'=m/\r=zU (Jc g f b o)):=by
 refine aB.freeze (fun c hc=>(hB c hc).1) (fun c hc=>(hB c hc).2) (LG Y m g f mid b o h hb _ (fun hx ex ls=>?_) (fun q d hx ex V rt ls hV hk aX=>?_))
 ·refine⟨ex,ls,_,rfl,?_,rfl⟩;rw[hx];refine Hl ⟨Hj ?_,dL.bool _,trivial⟩;unfold uO RF;refine⟨dL.int _ _,dL.int _ _,dL.int _ _,dL.int _ _,dL.sl _ _,dL.int _ _,dL.int _ _,dL.int _ _,dL.int _ _,dL.sl _ _,dL.sl _ _,dL.sl _ _,dL.sl _ _,dL.int _ _,trivial⟩
 refine⟨ex,ls,_,rfl,?_,rfl⟩;rw[hx];refine Hl ⟨Hj ?_,dL.bool _,trivial⟩;unfold Xr Qa;simp only[zzae,zzai];exact⟨dL.int _ _,dL.int _ _,dL.int _ _,dL.int _ _,dL.sl _ _,dL.int _ _,dL.int _ _,dL.int _ _,dL.int _ _,dL.sl _ _,mH.frz hV hk,dL.sl _ _,dL.sl _ _,dL.int _ _,trivial⟩
def Oz(Y:YT)(m:AM)(g:Pg)(f:Int)(mid:Nat)(b:QR)(o:Od)(h:ZX g f o)(hb:fL m.boxes mid b)(hB:∀c∈m.boxes,eG c)(K:So)(hK:K (zU (Jc g f b o)) m):
  aB Tryz.prog aD Y 44 [.agg (Qr g f mid),.agg (Qq o)] m K:=
 aB.mono (Oy Y m g f mid b o h hb hB) (by rintro r m' ⟨rfl,rfl⟩;exact hK)
def jW(g:Pg)(b:QR)(e:En):Bool:=!oA b e.id&&!decide (e.id∈g.dr)
def Jk(g:Pg)(b:QR)(l:List En):Pi:=(l.filter (jW g b)).map (·.id)
def RG(g:Pg)(b:QR)(l:List En)(e:En):Jk g b (l++[e])=Jk g b l++(if jW g b e then[e.id]else[]):=by
 unfold Jk;rw[zzdg,zzci];congr 1;cases h:jW g b e<;>simp[h]
def jX(g:Pg)(b:QR)(l:List En):(Jk g b l).length<=l.length:=by
 unfold Jk;rw[zzbv];exact zzce _ _
def IdR(ml ls:Pa)(rt:Rt)(n:Nat):Prop:=(rt=.nil/\n=0/\ls=ml)\/(rt=.own ml.length 1/\n≠0/\ls=ml++[n])
def atH(g:Pg)(b:QR)(q:Pl)(mb:T5)(ml:Pa)(ms:Nat->LS)(mn:Nat)(s:Nat->AV)(m:AM):Prop:=
 ∃(i:Nat)(bx:T5)(rt:Rt)(ls:Pa),s 49=I i/\i<=q.ens.length/\m=⟨mb++bx,ls,ms,mn⟩/\s 12=.sl rt ((Jk g b (q.ens.take i)).map Qy)/\IdR ml ls rt (Jk g b (q.ens.take i)).length
def Z9(Y:YT)(orc:UV)(atI:orc 72 999999 []=.junk)(afC:orc 71 999999 []=.junk)
  (E:QQ)(mb:T5)(ml:Pa)(ms:Nat->LS)(mn:Nat)(g:Pg)(f:Int)(mid k3 k5:Nat)(b:QR)(q:Pl)(d:Int)(Q:R0)
  (LK:∀d id,orc d 107 [.sl .ro (g.dr.map Qy),I id]=.bool (decide (id∈g.dr)))
  (h3:Abs.look E 3=.ptr k3 0)(Bh:k3<mb.length)(Ov:Qh mb k3=Qr g f mid)(h5:Abs.look E 5=.ptr k5 0)(hk5:k5<mb.length)(hr5:Qh mb k5=Qa q++[I d])(hb:fL mb mid b)
  (gJ:g.dr.length<=1000000)(CN:q.ens.length<=1000000)
  (hQ:∀E' ex rt ls,(∀k,k≠12->k<14->Abs.look E' k=Abs.look E k)->Abs.look E' 12=.sl rt ((Jk g b q.ens).map Qy)->IdR ml ls rt (Jk g b q.ens).length->vc Tryz.prog aD orc Y Hh ⟨Vw 103 E',⟨mb++ex,ls,ms,mn⟩⟩ Q):
  vc Tryz.prog aD orc Y Ow ⟨Vw 103 E,⟨mb,ml,ms,mn⟩⟩ Q:=by
 simp only[Qr,Qm,Qa,zzae,zzai]at Ov hr5;have hR3:∀ex,Qh (mb++ex) k3=_:=fun ex=>(Qn Bh).trans Ov;have hR5:∀ex,Qh (mb++ex) k5=_:=fun ex=>(Qn hk5).trans hr5;have hRm:∀ex,Qh (mb++ex) mid=[.aJ 0 (bG .bool b)]:=hb.ext;have hk:∀id,Pure Tryz.prog aD 107 [.sl .ro (g.dr.map Qy),I id] (.bool (decide (id∈g.dr))):=fun id=>jR g.dr id zE;simp[Ow,h5,hr5];refine Qi oC (atH g b q mb ml ms mn) (fun s _=>q.ens.length-(numOf (s 49)).toNat) ?_ ?_
 ·exact⟨0,[],.nil,ml,zd,zE,zd,by simp[Jk],.inl ⟨rfl,by simp[Jk],rfl⟩⟩
 rintro s m ⟨i,bx,rt,ls,h49,hi,rfl,qw,aX⟩;rcases zzaa i q.ens.length with ai|bq
 ·obtain⟨x,hx⟩:=aV ai;have ah:Qh (q.ens.map Qd) i=Qd x:=Qu (by simp[hx]);have aa:(i:Int)<(q.ens.length:Int):=zE
  have hw:=bP i zE;have bA:q.ens.take (i+1)=q.ens.take i++[x]:=by rw[zzb,hx];rfl
  have FY:Jk g b (q.ens.take (i+1))=Jk g b (q.ens.take i)++(if jW g b x then[x.id]else[]):=by rw[bA,RG]
  have iV:=jX g b (q.ens.take i);rw[zzaq]at iV;have skip:jW g b x=false->Jk g b (q.ens.take (i+1))=Jk g b (q.ens.take i):=fun h=>by rw[FY,h];simp
  have more:jW g b x=true->Jk g b (q.ens.take (i+1))=Jk g b (q.ens.take i)++[x.id]:=fun h=>by rw[FY,h];simp
  generalize Jk g b (q.ens.take i)=O at*
  generalize cO:Jk g b (q.ens.take (i+1))=O' at*
  have pK:∀a∈O,(Qy a).length=1:=fun _ _=>rfl;rcases Xw AV.bool x.id b 0 with⟨b1,b2,_⟩|⟨u,u',b1,b2,_⟩
  ·by_cases fc:x.id∈g.dr
   ·have e1:=skip (by simp[jW,fc]);simp[h49,aa,ah,Qd,oC,hw,h3,hR3,hRm,b2,fc,LK,qw];refine⟨by simpa[fc]using hk x.id,aQ,⟨i+1,_,rt,ls,zd,zE,rfl,by rw[cO,e1];simp,by rw[cO,e1];exact aX⟩,zE⟩
   have e1:=more (by simp[jW,fc,oA,b1]);obtain⟨rfl,hn,rfl⟩|⟨rfl,hn,rfl⟩:=aX
   ·have hO:O=[]:=zzbf hn;subst hO;simp[h49,aa,ah,Qd,oC,hw,h3,hR3,hRm,b2,fc,LK,qw,atI,afC];refine⟨by simpa[fc]using hk x.id,aQ,⟨i+1,_,_,_,zd,zE,rfl,by rw[cO,e1];simp[Qy];rfl,by rw[cO,e1];exact .inr ⟨rfl,zd,zd⟩⟩,zE⟩
   simp[h49,aa,ah,Qd,oC,hw,h3,hR3,hRm,b2,fc,LK,qw,afC];refine⟨by simpa[fc]using hk x.id,⟨?_,zE⟩,aQ,⟨i+1,_,_,_,zd,zE,rfl,by rw[cO,e1];simp[Qy];rfl,by rw[cO,e1];exact .inr ⟨rfl,zd,zd⟩⟩,zE⟩
   ·rintro row (⟨a,_,rfl⟩|rfl)<;>rfl
  cases u with
  |true=>
   have e1:=skip (by simp[jW,oA,b1]);simp[h49,aa,ah,Qd,oC,hw,h3,hR3,hRm,b2,LK,qw];refine⟨aQ,⟨i+1,_,rt,ls,zd,zE,rfl,by rw[cO,e1];simp,by rw[cO,e1];exact aX⟩,zE⟩
  |false=>
   by_cases fc:x.id∈g.dr
   ·have e1:=skip (by simp[jW,fc]);simp[h49,aa,ah,Qd,oC,hw,h3,hR3,hRm,b2,fc,LK,qw];refine⟨by simpa[fc]using hk x.id,aQ,⟨i+1,_,rt,ls,zd,zE,rfl,by rw[cO,e1];simp,by rw[cO,e1];exact aX⟩,zE⟩
   have e1:=more (by simp[jW,fc,oA,b1]);obtain⟨rfl,hn,rfl⟩|⟨rfl,hn,rfl⟩:=aX
   ·have hO:O=[]:=zzbf hn;subst hO;simp[h49,aa,ah,Qd,oC,hw,h3,hR3,hRm,b2,fc,LK,qw,atI,afC];refine⟨by simpa[fc]using hk x.id,aQ,⟨i+1,_,_,_,zd,zE,rfl,by rw[cO,e1];simp[Qy];rfl,by rw[cO,e1];exact .inr ⟨rfl,zd,zd⟩⟩,zE⟩
   simp[h49,aa,ah,Qd,oC,hw,h3,hR3,hRm,b2,fc,LK,qw,afC];refine⟨by simpa[fc]using hk x.id,⟨?_,zE⟩,aQ,⟨i+1,_,_,_,zd,zE,rfl,by rw[cO,e1];simp[Qy];rfl,by rw[cO,e1];exact .inr ⟨rfl,zd,zd⟩⟩,zE⟩
   ·rintro row (⟨a,_,rfl⟩|rfl)<;>rfl
 have hbf:q.ens.take i=q.ens:=zzat bq;rw[hbf]at qw aX;have bO:¬(i:Int)<(q.ens.length:Int):=zE
 simp[h49,bO,oC];refine hQ _ _ rt ls (fun k h1 h2=>?_) (by simp[qw]) aX;have:k=0\/k=1\/k=2\/k=3\/k=4\/k=5\/k=6\/k=7\/k=8\/k=9\/k=10\/k=11\/k=13:=zE
 rcases this with rfl|rfl|rfl|rfl|rfl|rfl|rfl|rfl|rfl|rfl|rfl|rfl|rfl<;>simp
end
