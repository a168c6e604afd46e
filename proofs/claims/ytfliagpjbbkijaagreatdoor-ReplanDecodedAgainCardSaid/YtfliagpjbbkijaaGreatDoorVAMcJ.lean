import Derived.Test.YtfliagpjbbkijaaGreatDoorVAMcB
set_option linter.all false
set_option maxRecDepth 100000
set_option maxHeartbeats 64000000
namespace Go.Abs
open Go Go.RowKit
section
variable {N:Nat} {w0:fc} {an:Nat->Nat->Prop} {γ γ':G} {w w':World} {P:Program} {gl:Nat->AV} {Y:YT}
def RU(m':AM)(γ':G)(n:Nat)(b:Nat):Prop:=∃id,n<=id/\m'.boxes[id]?≠some []/\γ'.β id=some b
def dQ(n:Nat)(m':AM)(r r':AV):Prop:=∀(N:Nat)(w0:fc)(an:Nat->Nat->Prop)(γ' γ2:G)(w':World)(v:Value),aq N w0 an γ' w' m'.B m'.L->au w' γ' r v->
 (∀b o,γ'.ro b o->γ2.ro b o)->(∀b,RU m' γ' n b->∀o,γ2.ro b o)->au w' γ2 r' v
def G.frz(γ1 γ':G)(m':AM)(n:Nat):G:={γ1 with ro:=fun b o=>γ1.ro b o\/RU m' γ' n b}
def aA.freeze{f:FuncId}{ags:PQ}{m:AM}{K:AV->Prop}(aJ:∀c∈m.boxes,c≠[])(tM:∀c∈m.boxes,Mg c)
  (h:aA P gl Y f ags m fun r m'=>∃ex exl r',m'={m with boxes:=m.boxes++ex,lens:=m.lens++exl}/\dQ m.boxes.length m' r r'/\K r'):aA P gl Y f ags m fun r m'=>m'=m/\K r:=by
 refine⟨h.1,fun N w0 an γ w vs hm hl hg hy hr=>CallsIn.mono (h.2 N w0 an γ w vs hm hl hg hy hr) ?_⟩;rintro en w' ⟨v,γ',r,m',rfl,g1,g2,g3,g4,ex,exl,r',rfl,g5,g6⟩;have e1:=g1.dy hm
 have m1:aq N w0 an (γ.dy m.lens.length γ') w' m.B m.L:=hm.dy (m1:=m) (mx:=m.boxes) (ex:=ex) (exl:=exl) g2 g1 rfl rfl rfl fun id cells cw h1 h2=>by
  rw[h1]at h2;cases h2;exact .inl ⟨rfl,h1,tM _ (zzac h1)⟩
 obtain⟨γ1,hγ1⟩:∃γ1,γ1=γ.dy m.lens.length γ':=⟨_,rfl⟩;obtain⟨m',ez⟩:∃m':AM,m'={m with boxes:=m.boxes++ex,lens:=m.lens++exl}:=⟨_,rfl⟩;rw[<- ez]at g2 g3 g5;rw[<- hγ1]at e1 m1
 have hβ:∀{id b},γ1.β id=some b->id<m.boxes.length/\γ'.β id=some b:=fun{id b}h=>by
  rw[hγ1]at h;obtain⟨h1,h2⟩:=Yr h;obtain⟨b0,dG⟩:=zzcg.1 h1;obtain⟨_,_,_,_,c,hc⟩:=hm.β id b0 dG;exact⟨(zza.1 hc).1,h2⟩
 have cq:∀{id b},γ1.own id=some b->γ'.own id=some b:=fun{id b}h=>by
  rw[hγ1]at h;have h:(if id<m.lens.length then γ'.own id else none)=some b:=h;split at h
  ·exact h
  cases h
 have dA:γ1.sp=γ'.sp:=by rw[hγ1];rfl
 have hlp:γ1.lp=γ'.lp:=by rw[hγ1];rfl
 have gC:γ1.ro=γ'.ro:=by rw[hγ1];rfl
 have eE:∀{id b},γ1.mm id=some b->γ'.mm id=some b:=fun{id b}h=>by rw[hγ1]at h;exact(Qap h).2
 have nβ:∀{b},RU m' γ' m.boxes.length b->∀id,γ1.β id≠some b:=fun{b}⟨j,j1,j2,j3⟩id h=>by
  obtain⟨h1,h2⟩:=hβ h
  have hB:m'.B id=some (m.boxes[id]):=by
   rw[ez];show(m.boxes++ex)[id]?=_;rw[zzak h1,zzad h1]
  rcases g2.inj id j b h2 j3 with k|k|k
  ·rw[hB]at k;exact aJ _ (zzdg h1) (Option.some.inj k)
  ·exact j2 k
  omega
 have ax6:∀{b},RU m' γ' m.boxes.length b->∀id,γ'.own id≠some b:=fun{b}⟨j,j1,j2,j3⟩id=>(g2.β j b j3).2.2.2.1 id;have nsp:∀{b},RU m' γ' m.boxes.length b->¬γ'.sp b:=fun{b}⟨j,j1,j2,j3⟩h=>(g2.sp b h).2.2.2.1 j j3;have nmm:∀{b},RU m' γ' m.boxes.length b->∀id,γ'.mm id≠some b:=fun{b}⟨j,j1,j2,j3⟩id h=>(g2.mm id b h).2.2.2.1 j j3
 have ev:Ev w' γ1 w' (γ1.frz γ' m' m.boxes.length):=
  ⟨zzaa _,fun _ _ _ h=>⟨.inl h,rfl⟩,fun _ _ h=>h,fun _=>zzaa _,fun _ _ h=>h,rfl,
   fun id b _ h=>⟨h,fun arr _ h=>⟨arr,h,zzaa _⟩,fun o h'=>h'.elim (fun x=>x) (fun hn=>absurd (cq h) (ax6 hn id))⟩,fun _ h=>⟨h,rfl⟩,Sz.refl _⟩
 refine⟨v,γ1.frz γ' m' m.boxes.length,r',m,rfl,e1.trans ev.cL,?_,?_,?_,rfl,g6⟩
 ·exact{
   bs:=w0.st _ _ _ _ g2.bs ⟨rfl,rfl,rfl,zzaa _,fun _ _ _=>rfl,fun b o _ h=>⟨.inl (by rw[gC];exact h),rfl⟩,fun b hb=>.inl (by
     obtain⟨i,hi⟩|⟨i,hi⟩|hb|⟨i,hi⟩:=hb
     ·exact .inl ⟨i,(hβ hi).2⟩
     ·exact .inr (.inl ⟨i,cq hi⟩)
     ·exact .inr (.inr (.inl (by rw[<- dA];exact hb)))
     ·exact .inr (.inr (.inr ⟨i,eE hi⟩))),fun b o h=>by
     obtain h|⟨j,j1,j2,j3⟩:=h
     ·exact .inl (by rw[<- gC];exact h)
     exact .inr (.inl (.inl ⟨j,j3⟩))⟩
   hN:=m1.hN
   an:=fun b o h=>by
    obtain h|⟨j,j1,j2,j3⟩:=h
    ·exact m1.an b o h
    exact .inr (g2.β j b j3).1
   robd:=fun b o h=>by
    obtain h|⟨j,j1,j2,j3⟩:=h
    ·exact m1.robd b o h
    exact(g2.β j b j3).2.1
   box:=fun id cells b hb h1=>by
    obtain⟨arr,e,h2,h3,h4⟩:=m1.box id cells b hb h1;exact⟨arr,e,h2,h3.mono ev,h4⟩
   β:=fun id b hb=>by
    obtain⟨h1,h2,h3,h4,h5⟩:=m1.β id b hb;exact⟨h1,h2,fun o h=>h.elim (h3 o) (fun hn=>nβ hn id hb),h4,h5⟩
   inj:=m1.inj
   own:=m1.own
   oinj:=m1.oinj
   sp:=fun b hb=>by
    obtain⟨h1,h2,h3,h4⟩:=m1.sp b hb;exact⟨h1,h2,fun o h=>h.elim (h3 o) (fun hn=>nsp hn (by rw[<- dA];exact hb)),h4⟩
   mm:=fun id b hb=>by
    obtain⟨h1,h2,h3,h4,h5,h6,h8,h7⟩:=m1.mm id b hb;exact⟨h1,h2,fun o h=>h.elim (h3 o) (fun hn=>nmm hn id (eE hb)),h4,h5,h6,h8,h7.mono ev.cL.AR rfl⟩
   minj:=m1.minj
   len:=m1.len
   cur0:=m1.cur0}
 ·have g3':cD γ1 w' m:=by
   rw[ez]at g3;unfold cD at g3 |-
   rw[hlp,dA];exact g3
  exact g3'.mono ev
 exact g5 N w0 an γ' _ w' v g2 g4 (fun b o h=>.inl (by rw[gC];exact h)) fun b hb o=>.inr hb
variable {n:Nat} {m':AM}
def dQ.bool(b:Bool):dQ n m' (.bool b) (.bool b):=fun _ _ _ _ _ _ _ _ h _ _=>by rw[h.bz];exact .bool b
def dQ.int(k:IntKind)(z:Int):dQ n m' (.int k z) (.int k z):=fun _ _ _ _ _ _ _ _ h _ _=>by rw[h.aI];exact .int k z
def dQ.agg{cs ds:PQ}(hl:cs.length=ds.length)(h:∀(i:Nat)(c d:AV),cs[i]?=some c->ds[i]?=some d->dQ n m' c d):dQ n m' (.agg cs) (.agg ds):=fun N w0 an γ' γ2 w' v hm hr h1 h2=>by
 cases hr with
 |@agg _ _ arr kl k=>
  refine .agg zE fun i d u hd hu=>?_;have hi:i<cs.length:=by have:=(zza.1 hd).1;omega
  exact h i cs[i] d (zzad hi) hd N w0 an γ' γ2 w' u hm (k i cs[i] u (zzad hi) hu) h1 h2
def dQ.aQ{cs ds:PQ}(hl:cs.length=ds.length)(h:∀(i:Nat)(c d:AV),cs[i]?=some c->ds[i]?=some d->dQ n m' c d):dQ n m' (.aQ cs) (.aQ ds):=fun N w0 an γ' γ2 w' v hm hr h1 h2=>by
 cases hr with
 |@aQ _ _ arr kl k=>
  refine .aQ zE fun i d u hd hu=>?_;have hi:i<cs.length:=by have:=(zza.1 hd).1;omega
  exact h i cs[i] d (zzad hi) hd N w0 an γ' γ2 w' u hm (k i cs[i] u (zzad hi) hu) h1 h2
def aad{γ' γ2:G}{w':World}(h1:∀b o,γ'.ro b o->γ2.ro b o){a:AV}{v:Value}(h:au w' γ'.cW a v):au w' γ2.cW a v:=
 h.mono ⟨zzaa _,fun b o _ h=>⟨h1 b o h,rfl⟩,fun _ _ h=>(by cases h),fun _=>zzaa _,fun _ _ h=>(by cases h),rfl,fun _ _ _ h=>(by cases h),fun _ h=>h.elim,Sz.refl w'⟩
def dQ.sl(rt:Rt)(rows:X2):dQ n m' (.sl rt rows) (.sl .ro rows):=fun N w0 an γ' γ2 w' v hm hr h1 h2=>by
 cases hr with
 |sl b off sz cv hcap hnil ha hsz hc h bk=>
  exact .sl b off sz cv hcap hnil ha hsz (fun i j c q=>⟨(hc i j c q).1,h1 _ _ (hc i j c q).2.1,(hc i j c q).2.2⟩) (fun i j c q=>aad h1 (h i j c q)) trivial
def dQ.bs{k len sz:Nat}{cells:PQ}(hn:n<=k)(hk:m'.boxes[k]?=some cells)(aJ:cells≠[])(ck:Zl cells=true)(hl:len*sz<=cells.length):dQ n m' (.bs k 0 len sz) (.sl .ro (aW sz len cells)):=fun N w0 an γ' γ2 w' v hm hr h1 h2=>by
 obtain⟨b,cap,arr,zm,hβ,rfl,hlc,hh,hs⟩:=hr.dg;obtain⟨bN,e',q2,q3,q4⟩:=hm.box k cells b hk hβ;rw[hh]at q2;cases q2;have hsz:=q3.1;simp only[zzbj]at hsz;have aH:(aW sz len cells).length=len:=by rw[Wv];simp
 have ew:∀row∈aW sz len cells,row.length=sz:=fun row ai=>by
  rw[Wv]at ai;simp only[zzbh,zzba]at ai;obtain⟨i,hi,rfl⟩:=ai;have:(i+1)*sz<=len*sz:=zzbb _ hi;rw[zzbl,zzdl]at this;simp only[zzaq,zzcb];omega
 have ou:∀(i j:Nat)(c:AV),Qs (aW sz len cells) i j=some c->∃u,cells[i*sz+j]?=some c/\arr[i*sz+j]?=some u/\arr.getD (i*sz+j) undef=u/\au w' γ' c u:=fun i j c h=>by
  rw[Wv]at h;unfold Qs at h;rcases zzab i len with hi|hi
  ·rw[zzbf,zzel hi]at h;simp only[zzcf,zzcw]at h;rw[zzbk]at h;split at h
   ·rw[zzbo]at h;have aa:=(zza.1 h).1;exact⟨arr[i*sz+j],h,zzag zE,by simp[show i*sz+j<arr.size by omega],q3.2 _ _ _ h (by simp[show i*sz+j<arr.size by omega])⟩
   cases h
  rw[zzbf,zzau (Pi hi)]at h;cases h
 have hB:∀id cells,m'.boxes[id]?=some cells->m'.B id=some cells:=fun _ _ h=>h;have ax7:∀o,γ2.ro b o:=h2 b ⟨k,hn,by rw[hk];intro h;exact aJ (Option.some.inj h),hβ⟩
 have:=au.sl (w:=w') (γ:=γ2) (rt:=.ro) (rows:=aW sz len cells) (a:=some ⟨b,0,none⟩) (cap:=cap) b 0 sz (fun i j=>arr.getD (i*sz+j) undef) (by rw[aH];exact hlc) (fun h=>by cases h) (fun _=>⟨rfl,aS hh⟩) ew
  (
   fun i j c h=>by
   obtain⟨u,c1,c2,c3,c4⟩:=ou i j c h;rw[zzbm,aN hh,c2,c3];exact⟨rfl,ax7 _,q4 u (by rw[<- c3];simp[show i*sz+j<arr.size from(zzbr.1 c2).1])⟩)
  (
   fun i j c h=>by
   obtain⟨u,c1,c2,c3,c4⟩:=ou i j c h;rw[c3];have fe:Hp c=true:=zzbe.1 ck c (zzac c1);have:=Qeb hm (m:=m') hB (ro':=γ2.ro) h1 1 c u c4 (fun hp=>by cases c<;>simp_all[Hp,Yf]);rw[OM m' 0 fe]at this;exact this) trivial
 rw[aH]at this;exact this
end
end Go.Abs
namespace Go.Proofs.YtfliagpjbbkijaaGreatDoor
noncomputable section
open Go Go.Abs
def Kl(g:Pg)(f:Int)(b:QP)(o:Od):Option (Pl×Int):=
 if o.ki=1 then rQ g f b o else if o.ki=2 then(yp g o).map fun q=>(q,0)else if o.ki=3 then some (nY g f b o,0)else some (DY g o,0)
def zz(g:Pg)(f:Int)(b:QP)(o:Od)(q:Pl)(d:Int):Bool:=
 if o.ki=1 then Qbw g f b o q d else if o.ki=2 then !(DT g f b o.en)else if o.ki=3 then qh g o else true
def Kg(g:Pg)(f:Int)(b:QP)(o:Od):Option (Pl×Int):=
 if g.p.ln<=f then none else match Kl g f b o with
 |none=>none
 |some (q,d)=>if(rI q&&zz g f b o q d)=true then some (q,d)else none
def afI(g:Pg)(f:Int)(b:QP)(o:Od)(e:En):th (ug g f b o e):=by
 unfold ug;cases BO g f b o.en with
 |none=>exact Qdo _
 |some st=>
  have h1:=Qdo (e.fr+o.n);have h2:=Qdo (f-st);simp only;first|exact Qdo _|(split<;>assumption)|(unfold th at*;omega)
structure PlB (q:Pl):Prop where
 sh:q.sh.length<=1000000
 aO:q.aO.length<=1000000
 ens:q.ens.length<=1000001
 bks:q.bks.length<=1000000
 cls:q.cls.length<=1000001
 als:∀e∈q.ens,e.al.length<=8796093022208
def yE{g:Pg}{f:Int}{b:QP}{o:Od}{q:Pl}{d:Int}(hp:BI g.p)(ho:o.nw.al.length<=8796093022208)(h:Kl g f b o=some (q,d)):PlB q/\q.ln=g.p.ln/\th d:=by
 obtain⟨h1,h2,h3,h4,h5,h6⟩:=hp;unfold Kl at h;have j0:th 0:=by unfold th;omega
 split at h
 ·unfold rQ at h;split at h
  ·cases h
  rename_i e he;split at h
  ·cases h
  cases h;refine⟨⟨h1,h2,by simp;omega,h4,by show g.p.cls.length<=_;omega,fun x hx=>?_⟩,rfl,afI _ _ _ _ _⟩;rcases zzgp hx with hx|rfl
  ·exact h6 x hx
  exact h6 e (zzac he)
 split at h
 ·unfold yp at h;split at h
  ·cases h
  cases h;exact⟨⟨h1,h2,by have:=zzca (fun e=>!mF o.en e) g.p.ens;simp only;omega,h4,by show g.p.cls.length<=_;omega,fun x hx=>h6 x (zzcr.1 hx).1⟩,rfl,j0⟩
 split at h
 ·cases h;refine⟨⟨h1,h2,by simp only[nY,zzah,zzaq,zzav,zzcb];omega,h4,by show g.p.cls.length<=_;omega,fun x hx=>?_⟩,rfl,j0⟩;simp only[nY,zzap,zzao]at hx;obtain hx|rfl|hx:=hx
  ·exact h6 x (zzce hx)
  ·exact ho
  exact h6 x (zzdd hx)
 cases h;exact⟨⟨h1,h2,by show g.p.ens.length<=_;omega,h4,by simp only[DY,zzah,zzav,zzcd];omega,h6⟩,rfl,j0⟩
def PlB.S{q:Pl}(h:PlB q):PlS q:=⟨by have:=h.sh;omega,by have:=h.aO;omega,by have:=h.ens;omega,by have:=h.bks;omega,by have:=h.cls;omega,h.als⟩
def HF(q?:Option (Pl×Int)):X1:=fun _ f _=>if f=83 then(match q? with|some (q,_)=>.bool (rI q)|none=>.junk)else .gd false .junk
def mG.put{mb:X2}{a b c c':PQ}{ex:X2}{V:AV}{l:List En}(h:mG (mb++(a::b::c::ex)) V l)(hk:Hr (mb.length+3) V)(gN:X2):mG (mb++(a::b::c'::(ex++gN))) V l:=by
 obtain h|⟨k,z,rfl,h2,h3,h4⟩:=h
 ·exact .inl h
 have cR:=hk _ _ _ _ rfl;obtain⟨j,rfl⟩:∃j,k=mb.length+(j+3):=⟨k-mb.length-3,zE⟩;have hg:=Je h2;rw[h3,zzat zE,zzdv]at hg;simp only[zzdk]at hg;have hj:=(zza.1 hg).1;refine .inr ⟨_,z,rfl,by simp at h2 |-;omega,Qv ?_,h4⟩;rw[zzat zE,zzdv];simp only[zzdk];rw[zzak hj,hg]
structure aae (g:Pg) (f:Int) (o:Od):Prop where
 mo:f<g.p.ln->lR g f
 pl:BI g.p
 f0:0<=f
 ln:g.p.ln<=1000000
 n:th o.n
 fr:∀e∈g.p.ens,th e.fr
 dr:g.dr.length<=1000000000
 al:o.nw.al.length<=8796093022208
def Mh(Y:YT)(m:AM)(g:Pg)(f:Int)(mid:Nat)(b:QP)(o:Od)(h:aae g f o)(hb:gm m.boxes mid b)(K:UV)
  (h0:Kg g f b o=none->∀ex ls,K (.aQ [.agg uX,.bool false]) {m with boxes:=m.boxes++ex,lens:=m.lens++ls})
  (h1:∀q d,Kg g f b o=some (q,d)->∀ex V rt ls,mG (m.boxes++ex) V q.ens->Hr m.boxes.length V->DX rt->K (.aQ [.agg (Xo q V (.sl rt (q.cls.map Qh)) d),.bool true]) {m with boxes:=m.boxes++ex,lens:=m.lens++ls}):
  aA Tryz.prog aD Y 56 [.agg (Qq g f mid),.agg (Qu o)] m K:=by
 obtain⟨mb,ml,ms,mn⟩:=m;obtain⟨hm,hp,hf0,ei,hn,zQ,eY,ho⟩:=h;have hB:∀ex,gm (mb++ex) mid b:=fun ex=>⟨by have:=hb.1;simp at this |-;omega,hb.ext ex⟩;by_cases tO:g.p.ln<=f
 ·have h0:=h0 (by unfold Kg;rw[if_pos tO]);refine Xh Tj (fun _ _ _=>.gd false .junk) zd ?_;simp[PD,PE,Qq,Qo,Qa,Qu,Qd,Qh,Ql,tO];have:=fun ex=>h0 ex [];simp[uX]at this;exact this _
 have hm:=hm zE;have QJ:th g.p.ln:=by unfold th;omega
 have e1:Kg g f b o=match Kl g f b o with
  |none=>none
  |some (q,d)=>if(rI q&&zz g f b o q d)=true then some (q,d)else none:=by unfold Kg;rw[if_neg tO]
 have key:∃fb fm:FuncId,((o.ki=1/\fb=102/\fm=103)\/(o.ki=2/\fb=104/\fm=105)\/(o.ki=3/\fb=106/\fm=107)\/(¬o.ki=1/\¬o.ki=2/\¬o.ki=3/\fb=100/\fm=101))/\
   (
    ∀(ex:X2)(K:UV),(Kl g f b o=none->∀iM,K (.aQ [.agg uX,.bool false]) ⟨mb++(ex++iM),ml,ms,mn⟩)->
    (∀q d,Kl g f b o=some (q,d)->∀iM V rt ls,mG (mb++(ex++iM)) V q.ens->Hr (mb++ex).length V->DX rt->K (.aQ [.agg (Xo q V (.sl rt (q.cls.map Qh)) d),.bool true]) ⟨mb++(ex++iM),ml++ls,ms,mn⟩)->
    aA Tryz.prog aD Y fb [.agg (Qq g f mid),.agg (Qu o)] ⟨mb++ex,ml,ms,mn⟩ K)/\
   (
    ∀(ex:X2)(ls:P1)(q:Pl)(d:Int)(V:AV)(rt:Rt)(K:UV),Kl g f b o=some (q,d)->mG (mb++ex) V q.ens->DX rt->K (.bool (zz g f b o q d)) ⟨mb++ex,ml++ls,ms,mn⟩->
    aA Tryz.prog aD Y fm [.agg (Qq g f mid),.agg (Qu o),.agg (Xo q V (.sl rt (q.cls.map Qh)) d)] ⟨mb++ex,ml++ls,ms,mn⟩ K):=by
  by_cases k1:o.ki=1
  ·refine⟨102,103,.inl ⟨k1,rfl,rfl⟩,fun ex K q0 q1=>?_,fun ex ls q d V rt K hq hV bk hK=>?_⟩
   ·have eW:Kl g f b o=rQ g f b o:=by unfold Kl;rw[if_pos k1]
    refine afr Y ⟨mb++ex,ml,ms,mn⟩ g f mid b o hm hp (hB ex) hn QJ zQ K (fun hx iM=>?_) (fun q d hx iM k Kx hk hr=>?_)
    ·have:=q0 (by rw[eW];exact hx) iM;simpa using this
    have:=q1 q d (by rw[eW];exact hx) iM (.bs k 0 q.ens.length 7) .ro [] (.inr ⟨k,[],rfl,Pi hk,by simpa[eU]using hr,rfl⟩) (Hr.bs Kx) DX.ro;simpa using this
   have D3:zz g f b o q d=Qbw g f b o q d:=by unfold zz;rw[if_pos k1]
   obtain⟨S8,hql,hqd⟩:=yE hp ho hq
   have hqe:q.ens.length=g.p.ens.length/\q.cls=g.p.cls:=by
    have eW:Kl g f b o=rQ g f b o:=by unfold Kl;rw[if_pos k1]
    rw[eW]at hq;unfold rQ at hq;split at hq
    ·cases hq
    split at hq
    ·cases hq
    cases hq;exact⟨zd,rfl⟩
   refine aA.mono (L7 Y ⟨mb++ex,ml++ls,ms,mn⟩ g f mid b o q V rt d hV bk hm (hB ex) eY ⟨S8.sh,S8.aO,by rw[hqe.1];exact hp.2.2.1,S8.bks,by rw[hqe.2];exact hp.2.2.2.2.1,S8.als⟩ zE hqd) ?_;rintro r m' ⟨rfl,rfl⟩;rw[<- D3];exact hK
  by_cases k2:o.ki=2
  ·refine⟨104,105,.inr (.inl ⟨k2,rfl,rfl⟩),fun ex K q0 q1=>?_,fun ex ls q d V rt K hq hV bk hK=>?_⟩
   ·have eW:Kl g f b o=(yp g o).map fun q=>(q,0):=by unfold Kl;rw[if_neg k1,if_pos k2]
    refine ZU Y ⟨mb++ex,ml,ms,mn⟩ g f mid o hm hp K (fun hx iM=>?_) (fun q hx iM k z Kx hk hr hz=>?_)
    ·have:=q0 (by rw[eW,hx];rfl) iM;simpa using this
    have:=q1 q 0 (by rw[eW,hx];rfl) iM (.bs k 0 q.ens.length 7) .ro [] (.inr ⟨k,z,rfl,Pi hk,Pi hr,hz⟩) (Hr.bs Kx) DX.ro;simpa using this
   have D3:zz g f b o q d=!(DT g f b o.en):=by unfold zz;rw[if_neg k1,if_pos k2]
   refine aA.mono (Hs Y ⟨mb++ex,ml++ls,ms,mn⟩ g f mid b o q V rt d hV hm (hB ex)) ?_;rintro r m' ⟨rfl,rfl⟩;rw[<- D3];exact hK
  by_cases k3:o.ki=3
  ·refine⟨106,107,.inr (.inr (.inl ⟨k3,rfl,rfl⟩)),fun ex K q0 q1=>?_,fun ex ls q d V rt K hq hV bk hK=>?_⟩
   ·have eW:Kl g f b o=some (nY g f b o,0):=by unfold Kl;rw[if_neg k1,if_neg k2,if_pos k3]
    refine Mc Y ⟨mb++ex,ml,ms,mn⟩ g f mid b o hp (hB ex) ho K (fun iM V ls hV Mi=>?_);have:=q1 _ 0 eW iM V .ro ls (Pi hV) Mi DX.ro;simpa[nY]using this
   have D3:zz g f b o q d=qh g o:=by unfold zz;rw[if_neg k1,if_neg k2,if_pos k3]
   refine aA.mono (L6 Y ⟨mb++ex,ml++ls,ms,mn⟩ g f mid o q V rt d hV hm eY) ?_;rintro r m' ⟨rfl,rfl⟩;rw[<- D3];exact hK
  refine⟨100,101,.inr (.inr (.inr ⟨k1,k2,k3,rfl,rfl⟩)),fun ex K q0 q1=>?_,fun ex ls q d V rt K hq hV bk hK=>?_⟩
  ·have eW:Kl g f b o=some (DY g o,0):=by unfold Kl;rw[if_neg k1,if_neg k2,if_neg k3]
   refine ZW Y ⟨mb++ex,ml,ms,mn⟩ g f mid o hp K (fun iM V hV Mi=>?_);have:=q1 _ 0 eW iM V (.own ml.length 8) [g.p.cls.length+1] (by simpa[DY]using hV) Mi (DX.own _ _);simpa using this
  have D3:zz g f b o q d=true:=by unfold zz;rw[if_neg k1,if_neg k2,if_neg k3]
  refine aA.mono (L3 Y ⟨mb++ex,ml++ls,ms,mn⟩ g f mid o q V rt d hV) ?_;rintro r m' ⟨rfl,rfl⟩;rw[<- D3];exact hK
 obtain⟨fb,fm,hk,kb,km⟩:=key;simp only[Qq,Qo,Qa,Qu,Qd,Qh,Ql,zzae,zzaj]at kb km;refine Xh Tj (HF (Kl g f b o)) zd ?_;obtain⟨k1,rfl,rfl⟩|⟨k1,rfl,rfl⟩|⟨k1,rfl,rfl⟩|⟨k1,k2,k3,rfl,rfl⟩:=hk
 ·simp[PD,PE,Qq,Qo,Qa,Qu,Qd,Qh,Ql,tO,k1,HF];rw[k1]at kb km;refine kb _ _ (fun hbn iM=>?_) (fun q d ic iM V rt ls hV Mi bk=>?_)
  ·have h0:=fun ex=>h0 (by rw[e1,hbn]) ex [];simp[uX,zzan];simp[uX]at h0;exact h0 _
  have hc:=hV.cell;have gK:=fun ex ml d=>hV.bE ex ml ms mn d;have hE:=fun gN=>hV.ext gN;simp only[zzaz,zzae,zzaj]at gK hE;have I2:=fun m d x=>bk m d x;obtain⟨S8,hql,hqd⟩:=yE hp ho ic;have kv:=Wo q S8.S;simp only[Qa]at kv;have km:=fun ex K hV hK=>km ex ls q d V rt K ic hV bk hK;simp only[Xo]at km;cases hpv:rI q with
  |false=>
   rw[hpv]at kv;have h0:=fun ex=>h0 (by rw[e1,ic];simp[hpv]) ex ls;simp[Xo,ic,hpv,zzan,hc,gK,I2];simp[uX]at h0;exact⟨kv,h0 _⟩
  |true=>
   rw[hpv]at kv;simp[Xo,ic,hpv,zzan,hc,gK,I2];refine⟨kv,km _ _ (hE _) ?_⟩;cases D3:zz g f b o q d with
   |false=>
    have h0:=fun ex=>h0 (by rw[e1,ic];simp[hpv,D3]) ex ls;simp[zzan];simp[uX]at h0;exact h0 _
   |true=>
    have h1:=fun ex hV hk=>h1 q d (by rw[e1,ic];simp[hpv,D3]) ex V rt ls hV hk bk;simp[zzan,hc];simp only[Xo]at h1;refine h1 _ ?_ (fun k o l s e=>by have:=Mi k o l s e;simp at this;omega);exact mG.put (by simpa using hE []) (Pi Mi) _
 ·simp[PD,PE,Qq,Qo,Qa,Qu,Qd,Qh,Ql,tO,k1,HF];rw[k1]at kb km;refine kb _ _ (fun hbn iM=>?_) (fun q d ic iM V rt ls hV Mi bk=>?_)
  ·have h0:=fun ex=>h0 (by rw[e1,hbn]) ex [];simp[uX,zzan];simp[uX]at h0;exact h0 _
  have hc:=hV.cell;have gK:=fun ex ml d=>hV.bE ex ml ms mn d;have hE:=fun gN=>hV.ext gN;simp only[zzaz,zzae,zzaj]at gK hE;have I2:=fun m d x=>bk m d x;obtain⟨S8,hql,hqd⟩:=yE hp ho ic;have kv:=Wo q S8.S;simp only[Qa]at kv;have km:=fun ex K hV hK=>km ex ls q d V rt K ic hV bk hK;simp only[Xo]at km;cases hpv:rI q with
  |false=>
   rw[hpv]at kv;have h0:=fun ex=>h0 (by rw[e1,ic];simp[hpv]) ex ls;simp[Xo,ic,hpv,zzan,hc,gK,I2];simp[uX]at h0;exact⟨kv,h0 _⟩
  |true=>
   rw[hpv]at kv;simp[Xo,ic,hpv,zzan,hc,gK,I2];refine⟨kv,km _ _ (hE _) ?_⟩;cases D3:zz g f b o q d with
   |false=>
    have h0:=fun ex=>h0 (by rw[e1,ic];simp[hpv,D3]) ex ls;simp[zzan];simp[uX]at h0;exact h0 _
   |true=>
    have h1:=fun ex hV hk=>h1 q d (by rw[e1,ic];simp[hpv,D3]) ex V rt ls hV hk bk;simp[zzan,hc];simp only[Xo]at h1;refine h1 _ ?_ (fun k o l s e=>by have:=Mi k o l s e;simp at this;omega);exact mG.put (by simpa using hE []) (Pi Mi) _
 ·simp[PD,PE,Qq,Qo,Qa,Qu,Qd,Qh,Ql,tO,k1,HF];rw[k1]at kb km;refine kb _ _ (fun hbn iM=>?_) (fun q d ic iM V rt ls hV Mi bk=>?_)
  ·have h0:=fun ex=>h0 (by rw[e1,hbn]) ex [];simp[uX,zzan];simp[uX]at h0;exact h0 _
  have hc:=hV.cell;have gK:=fun ex ml d=>hV.bE ex ml ms mn d;have hE:=fun gN=>hV.ext gN;simp only[zzaz,zzae,zzaj]at gK hE;have I2:=fun m d x=>bk m d x;obtain⟨S8,hql,hqd⟩:=yE hp ho ic;have kv:=Wo q S8.S;simp only[Qa]at kv;have km:=fun ex K hV hK=>km ex ls q d V rt K ic hV bk hK;simp only[Xo]at km;cases hpv:rI q with
  |false=>
   rw[hpv]at kv;have h0:=fun ex=>h0 (by rw[e1,ic];simp[hpv]) ex ls;simp[Xo,ic,hpv,zzan,hc,gK,I2];simp[uX]at h0;exact⟨kv,h0 _⟩
  |true=>
   rw[hpv]at kv;simp[Xo,ic,hpv,zzan,hc,gK,I2];refine⟨kv,km _ _ (hE _) ?_⟩;cases D3:zz g f b o q d with
   |false=>
    have h0:=fun ex=>h0 (by rw[e1,ic];simp[hpv,D3]) ex ls;simp[zzan];simp[uX]at h0;exact h0 _
   |true=>
    have h1:=fun ex hV hk=>h1 q d (by rw[e1,ic];simp[hpv,D3]) ex V rt ls hV hk bk;simp[zzan,hc];simp only[Xo]at h1;refine h1 _ ?_ (fun k o l s e=>by have:=Mi k o l s e;simp at this;omega);exact mG.put (by simpa using hE []) (Pi Mi) _
 simp[PD,PE,Qq,Qo,Qa,Qu,Qd,Qh,Ql,tO,k1,k2,k3,HF];refine kb _ _ (fun hbn iM=>?_) (fun q d ic iM V rt ls hV Mi bk=>?_)
 ·have h0:=fun ex=>h0 (by rw[e1,hbn]) ex [];simp[uX,zzan];simp[uX]at h0;exact h0 _
 have hc:=hV.cell;have gK:=fun ex ml d=>hV.bE ex ml ms mn d;have hE:=fun gN=>hV.ext gN;simp only[zzaz,zzae,zzaj]at gK hE;have I2:=fun m d x=>bk m d x;obtain⟨S8,hql,hqd⟩:=yE hp ho ic;have kv:=Wo q S8.S;simp only[Qa]at kv;have km:=fun ex K hV hK=>km ex ls q d V rt K ic hV bk hK;simp only[Xo]at km;cases hpv:rI q with
 |false=>
  rw[hpv]at kv;have h0:=fun ex=>h0 (by rw[e1,ic];simp[hpv]) ex ls;simp[Xo,ic,hpv,zzan,hc,gK,I2];simp[uX]at h0;exact⟨kv,h0 _⟩
 |true=>
  rw[hpv]at kv;simp[Xo,ic,hpv,zzan,hc,gK,I2];refine⟨kv,km _ _ (hE _) ?_⟩;cases D3:zz g f b o q d with
  |false=>
   have h0:=fun ex=>h0 (by rw[e1,ic];simp[hpv,D3]) ex ls;simp[zzan];simp[uX]at h0;exact h0 _
  |true=>
   have h1:=fun ex hV hk=>h1 q d (by rw[e1,ic];simp[hpv,D3]) ex V rt ls hV hk bk;simp[zzan,hc];simp only[Xo]at h1;refine h1 _ ?_ (fun k o l s e=>by have:=Mi k o l s e;simp at this;omega);exact mG.put (by simpa using hE []) (Pi Mi) _
end
end Go.Proofs.YtfliagpjbbkijaaGreatDoor
namespace Go.Proofs.YtfliagpjbbkijaaGreatDoor
noncomputable section
open Go Go.Abs
def Mj(p:Pl)(e:En)(f:Int):Option Int:=
 if e.fr<1\/1000000<e.fr\/p.ln<e.fr then none else
 if max f 0<1000000/\0<=mC p e/\mC p e<1000000 then(match lQ (Xz p e.it 0) (max f 0) e.fr with
  |none=>none
  |some s=>if mC p e<s then none else some s)else Yc p e f
def RW(p:Pl)(e:En)(f:Int):Mj p e f=Yc p e f:=by
 unfold Mj;split
 ·rename_i h;rw[Yc,if_pos h]
 rename_i h;split
 ·rename_i h2;rw[Yc,if_neg h];have hz:(max f 0).tdiv 1000000=0:=Int.tdiv_eq_zero_of_lt zE zE;rw[hz]
  conv=>rhs;unfold S5
  rw[if_pos zE];cases lQ (Xz p e.it 0) (max f 0) e.fr with
  |none=>
   simp only;unfold S5;rw[if_neg zE]
  |some s=>rfl
 rfl
def amH(p:Pl):P2->List (Int×Int)->List (Int×Int)->Int->Int->Option (List Sp)
 |[],_,_,_,_=>some []
 |id::r,us,en,free,last=>match Ag id p.ens 0 with
  |none=>none
  |some k=>if(k:Int)<=last then none else match p.ens[k]? with
   |none=>none
   |some e=>if Wn p e.it≠ -1/\Wn p e.it<=(af e.it us).getD 0 then none else
    match Mj p e (Uf en (Kr p e.it) (max e.ea free))with
    |none=>none
    |some s=>match amH p r (Vs us e.it) (Zn p en e.it (s+e.fr)) (s+e.fr) k with
     |none=>none
     |some l=>some ((id,s)::l)
def ON(p:Pl):∀(ids:P2)(us en:List (Int×Int))(free last:Int),amH p ids us en free last=Jg p ids us en free last
 |[],_,_,_,_=>rfl
 |id::r,us,en,free,last=>by
  rw[amH,Jg];simp only[RW,ON p r];rfl
def aaf(past:List Ad):p5 (past.length:Int) (Ov past []):=by
 have h:=HG past [] 0 zE (fun k v h=>by cases h);rwa [Int.zero_add]at h
def aag(p:Pl)(past:List Ad):uj (Ow p past []):=HH p past [] (fun k v h=>by cases h)
def aln(p:Pl)(id:Int):Int:=match Ag id p.ens 0 with
 |none=> -1
 |some k=>(k:Int)
def BT{w:Bool}:∀{ids:P2}{K:List Bool}{i:Nat}{id:Int}{k:Bool},ids[i]?=some id->K[i]?=some k->Xc w (ids.take (i+1)) (K.take (i+1))=Xc w (ids.take i) (K.take i)++if(k==w)=true then[id]else[]
 |[],_,_,_,_,h,_=>by simp at h
 |_::_,[],_,_,_,_,h=>by simp at h
 |x::r,y::ks,0,id,k,h1,h2=>by
  simp at h1 h2;subst h1;subst h2;simp[Xc]
 |x::r,y::ks,i+1,id,k,h1,h2=>by
  have ih:=BT (w:=w) (ids:=r) (K:=ks) (i:=i) (Pi h1) (Pi h2);rw[zzdb,zzdb,zzdb,zzdb,Xc,Xc,ih];split<;>simp
def aah(p:Pl)(id:Int):(∃(n k:Nat)(e:En),Zf id p.ens=some e/\p.ens[k]?=some e/\Xi [id] (bF iA (DH p)) 0=some (n,I k))\/(Zf id p.ens=none/\Xi [id] (bF iA (DH p)) 0=none):=by
 have key:∀(l:List En)(i:Nat),Ag id l i=none->Zf id l=none:=by
  intro l;induction l with
  |nil=>intro i _;rfl
  |cons x r ih=>
   intro i h;rw[Ag]at h;split at h
   ·cases h
   rename_i hn;rw[Zf,if_neg hn];exact ih _ h
 rcases Xu iA id (DH p) 0 with⟨p1,p2,_⟩|⟨u,n,p1,p2,_⟩
 ·rw[uQ]at p1;cases hx:Ag id p.ens 0 with
  |none=>exact .inr ⟨key _ _ hx,p2⟩
  |some k=>rw[hx]at p1;cases p1
 rw[uQ]at p1;cases hx:Ag id p.ens 0 with
 |none=>rw[hx]at p1;cases p1
 |some k=>
  rw[hx]at p1;cases p1;obtain⟨_,e,h2,h3,h4⟩:=rK hx;rw[zzet]at h2;exact .inl ⟨_,k,e,h4,h2,p2⟩
def afJ(pre post:X2)(ls:P1)(b:Bd)(id:Int)(Y:YT)(K:UV)(hK:∀ex,K (I (RX b.p id:Nat)) (aP pre b (post++ex) ls)):
  aA Tryz.prog aD Y 169 [.ptr (pre.length+9) 0,I id] (aP pre b post ls) K:=by
 refine Xh acY (fun _ _ _=>.junk) zd ?_;unfold RX at hK;rcases aah b.p id with⟨n,k,e,he,hk,hp⟩|⟨he,hp⟩
 ·rw[he]at hK;simp only at hK;have sM:=(zza.1 hk).1;have z8:(k:Int)<(b.p.ens.length:Int):=zE
  have yF:=Qda hk;by_cases b1:e.bo=0
  ·rw[if_neg (by simp[b1])]at hK;rcases Qcy b.p e.it with⟨ni,y,hy,hi⟩|⟨hy,hi⟩
   ·rw[hy]at hK;simp only at hK;by_cases c1:y.ki=1
    ·rw[if_pos (.inl c1)]at hK;simp[vA,aP,bh,Qp,Qa,hp,sM,z8,yF,Qd,b1];refine Ui ?_;simp[vB,aP,bh,Qp,Qa,Qd,hi,rM,Qm,c1];simpa[aP,bh,Qp,Qa,Qm,Qd,b1,c1]using hK [Qd e,Qm y]
    by_cases c2:y.ki=4
    ·rw[if_pos (.inr c2)]at hK;simp[vA,aP,bh,Qp,Qa,hp,sM,z8,yF,Qd,b1];refine Ui ?_;simp[vB,aP,bh,Qp,Qa,Qd,hi,rM,Qm,c1,c2];simpa[aP,bh,Qp,Qa,Qm,Qd,b1,c1,c2]using hK [Qd e,Qm y]
    rw[if_neg (by rintro(h|h);exact c1 h;exact c2 h)]at hK;simp[vA,aP,bh,Qp,Qa,hp,sM,z8,yF,Qd,b1];refine Ui ?_;simp[vB,aP,bh,Qp,Qa,Qd,hi,rM,Qm,c1,c2];simpa[aP,bh,Qp,Qa,Qm,Qd,b1,c1,c2]using hK [Qd e,Qm y]
   rw[hy]at hK;simp only at hK;simp[vA,aP,bh,Qp,Qa,hp,sM,z8,yF,Qd,b1];refine Ui ?_;simp[vB,aP,bh,Qp,Qa,Qd,hi];simpa[aP,bh,Qp,Qa,Qd,b1]using hK [Qd e,[I 0,I 0,I 0,I 0,I 0]]
  rw[if_pos b1]at hK;simp[vA,vB,aP,bh,Qp,Qa,hp,sM,z8,yF,Qd,b1];simpa[aP,bh,Qp,Qa,Qd]using hK [Qd e]
 rw[he]at hK;simp only at hK;simp[vA,vB,aP,bh,Qp,Qa,hp];simpa[aP,bh,Qp,Qa]using hK []
def rY(n:Nat)(S:P2):Rt:=if S=[]then .nil else .own n 1
def oc(S:P2):P1:=if S=[]then[]else[S.length]
def as0(ids:P2)(K:List Bool)(w:Bool)(m0:AM)(f:Nat->AV)(m:AM):Prop:=
 ∃(i:Nat),f 10=I i/\i<=ids.length/\f 5=.sl (rY m0.lens.length (Xc w (ids.take i) (K.take i))) ((Xc w (ids.take i) (K.take i)).map Xa)/\m={m0 with lens:=m0.lens++oc (Xc w (ids.take i) (K.take i))}
def RY(ids:P2)(K:List Bool)(w:Bool)(hi:ids.length<=1000)(hk:K.length=ids.length)(m:AM)(ia ib kb:Nat)(h1:Qg m.boxes ia=[.sl .ro (ids.map Xa)])(h2:Qg m.boxes ib=[.bs kb 0 ids.length 1])(h3:Qg m.boxes kb=K.map .bool)
  (g1:ia<m.boxes.length)(g2:ib<m.boxes.length)(g3:kb<m.boxes.length)(Y:YT)(Q:UV)(hQ:Q (.sl (rY m.lens.length (Xc w ids K)) ((Xc w ids K).map Xa)) {m with lens:=m.lens++oc (Xc w ids K)}):
  aA Tryz.prog aD Y 168 [.bool w,.ptr ia 0,.ptr ib 0] m Q:=by
 refine Xh acX (fun _ _ _=>.junk) zd ?_;simp[TY,h1,g1];refine Qj vz (as0 ids K w m) (fun f _=>ids.length-(numOf (f 10)).toNat) ?_ ?_
 ·exact⟨0,zd,zE,by simp[Xc,rY],by simp[Xc,oc]⟩
 rintro f m' ⟨i,lN,iI,h5,rfl⟩;rcases zzab i ids.length with aa|bu
 ·obtain⟨id,hx⟩:=aY aa;obtain⟨k,hy⟩:∃x,K[i]?=some x:=⟨_,zzad zE⟩;have ai:Qg (ids.map Xa) i=Xa id:=Qv (by simp[hx]);have bO:nth ((K.map AV.bool).drop i) 0=.bool k:=amI (by simp[hy]);have wW:min 1 (K.length-i)=1:=zE
  have amJ:i<K.length:=zE
  have ah:(i:Int)<(ids.length:Int):=zE
  have hw:=bR i zE;have bB:=BT (w:=w) hx hy
  have iZ:(Xc w (ids.take i) (K.take i)).length<=1000:=by
   have:=(jR w (ids.take i) (K.take i)).length_le;simp at this;omega
  obtain⟨S,hS⟩:∃S,Xc w (ids.take i) (K.take i)=S:=⟨_,rfl⟩;rw[hS]at h5 bB iZ |-
  cases hc:(k==w)with
  |false=>
   rw[hc]at bB;have bB:Xc w (ids.take (i+1)) (K.take (i+1))=S:=by rw[bB];simp
   simp[lN,h5,aa,ah,amJ,ai,Xa,vz,hw,hc,h2,h3,g2,g3,bO,wW,show 1<=K.length-i by omega];refine⟨aR,⟨i+1,zd,zE,by rw[bB];simp[h5,Xa],by rw[bB]⟩,zE⟩
  |true=>
   rw[hc]at bB;have bB:Xc w (ids.take (i+1)) (K.take (i+1))=S++[id]:=by rw[bB];simp
   by_cases hSe:S=[]
   ·subst hSe;simp only[rY,oc,if_true,zzcu,zzas]at h5 |-
    simp[lN,h5,aa,ah,amJ,ai,Xa,vz,hw,hc,h2,h3,g2,g3,bO,wW,show 1<=K.length-i by omega];refine⟨aR,⟨i+1,zd,zE,by rw[bB];simp[Xa,rY],by rw[bB];simp[oc]⟩,zE⟩
   simp only[rY,oc,if_neg hSe]at h5 |-
   have cc:(m.lens++[S.length]).set m.lens.length (S.length+1)=m.lens++[S.length+1]:=by rw[List.set_append,if_neg zE];simp
   simp[lN,h5,aa,ah,amJ,ai,Xa,vz,hw,hc,h2,h3,g2,g3,bO,wW,show 1<=K.length-i by omega];refine⟨⟨?_,zE⟩,aR,⟨i+1,zd,zE,by rw[bB];simp[Xa,rY],by rw[bB];simp[oc]⟩,zE⟩
   ·rintro row (⟨a,_,rfl⟩|rfl)<;>rfl
 have bU:¬(i:Int)<(ids.length:Int):=zE
 rw[zzal zE,zzal zE]at h5 |-
 simp[lN,h5,bU,zzbn.2 bu,vz,ahL];exact hQ
def stF(ok:P2->Bool)(rd:Int->Nat)(ids:P2)(r:Nat):Nat->Nat->List Bool->List Bool
 |0,_,K=>K
 |n+1,i,K=>stF ok rd ids r n (i+1) (Jr ok rd ids r K i)
def RZ(ok:P2->Bool)(rd:Int->Nat)(ids:P2)(r:Nat)(K:List Bool):Uz ok rd ids r K=stF ok rd ids r ids.length 0 K:=by
 have:∀(n i:Nat)(K:List Bool),(List.range' i n).foldl (Jr ok rd ids r) K=stF ok rd ids r n i K:=by
  intro n;induction n with
  |zero=>intro i K;rfl
  |succ n ih=>intro i K;rw[zzez,zzda,ih];rfl
 unfold Uz;rw[zzed];exact this _ _ _
def aai{ok:P2->Bool}{rd:Int->Nat}{ids:P2}{r:Nat}{K:List Bool}{i:Nat}{id:Int}(h:ids[i]?=some id):Jr ok rd ids r K i=if rd id=r then K.set i (ok (Xc true ids (K.set i true)))else K:=by
 unfold Jr;rw[h]
def chF(ok:P2->Bool)(rd:Int->Nat)(ids:P2):Nat->Nat->List Bool->List Bool
 |0,_,K=>K
 |n+1,r,K=>chF ok rd ids n (r+1) (Uz ok rd ids r K)
def yG(p:Pl)(ids:P2):X2:=[Qa p,[.sl .ro (ids.map Xa)]]
def dz(E:X2)(n:Nat)(K:List Bool)(ex:X2):X2:=E++(K.map AV.bool::[.bs (E.length+12) 0 n 1]::ex)
def zA(p:Pl)(ids:P2)(b:Bd)(E:X2)(K:List Bool)(ex:X2)(ls:P1):AM:=aP (yG p ids) b (dz E ids.length K ex) ls
def lS(b:Bd)(rv:List (Int×(Rt×List Sp)))(li:List (Int×Int))(pm:List ((Int×Int)×List Sp)):Bd:={b with rv:=rv,li:=li,pm:=pm}
def as1(p:Pl)(ids:P2)(b:Bd)(E:X2)(T:List Bool)(f:Nat->AV)(m:AM):Prop:=
 ∃(r:Nat)(K:List Bool)(rv:List (Int×(Rt×List Sp)))(li:List (Int×Int))(pm:List ((Int×Int)×List Sp))(ex:X2)(ls:P1),f 36=I r/\r<=3/\K.length=ids.length/\chF (oB b) (RX p) ids (3-r) r K=T/\BU (lS b rv li pm)/\m=zA p ids (lS b rv li pm) E K ex ls
def as2(p:Pl)(ids:P2)(b:Bd)(E:X2)(r:Nat)(T:List Bool)(f:Nat->AV)(m:AM):Prop:=
 ∃(i:Nat)(K:List Bool)(rv:List (Int×(Rt×List Sp)))(li:List (Int×Int))(pm:List ((Int×Int)×List Sp))(ex:X2)(ls:P1),f 41=I i/\i<=ids.length/\K.length=ids.length/\stF (oB b) (RX p) ids r (ids.length-i) i K=T/\BU (lS b rv li pm)/\m=zA p ids (lS b rv li pm) E K ex ls
def ax8(p:Pl)(ids:P2)(b:Bd)(E:X2)(K:List Bool)(ex:X2)(ls:P1)(S:P2)(v:AV)(m:AM):Prop:=
 ∃(a:AV)(rv:List (Int×(Rt×List Sp)))(li:List (Int×Int))(pm:List ((Int×Int)×List Sp))(gN:X2)(exl:P1),v=.aQ [a,.bool (oB b S)]/\BU (lS b rv li pm)/\m=zA p ids (lS b rv li pm) E K (ex++gN) (ls++exl)
def jS:X1:=fun d f _=>if f=999999 then(if d=34 then .aL 0 []else .junk)else .gd false .junk
def aaj{p:Pl}{ids:P2}(hi:ids.length<=1000)(b:Bd)(E:X2)(K:List Bool)(hk:K.length=ids.length)(ex:X2)(ls:P1)(w:Bool)(Y:YT)(Q:UV)
  (hQ:Q (.sl (rY ls.length (Xc w ids K)) ((Xc w ids K).map Xa)) (zA p ids b E K ex (ls++oc (Xc w ids K)))):
  aA Tryz.prog aD Y 168 [.bool w,.ptr 1 0,.ptr (E.length+13) 0] (zA p ids b E K ex ls) Q:=by
 refine RY ids K w hi hk (zA p ids b E K ex ls) 1 (E.length+13) (E.length+12) ?_ ?_ ?_ ?_ ?_ ?_ Y Q hQ;all_goals simp[zA,aP,bh,yG,dz]
 all_goals omega
def rZ(a:AV):∀n:Nat,bG n [a]=List.replicate n a
 |0=>rfl
 |n+1=>by rw[bG,rZ a n];rfl
def aak{p:Pl}(h:PlK p){at_:Int}(ha:amK at_){past:List Ad}(hp:past.length<=2500)(pre post:X2)(ls:P1)(rv:List (Int×(Rt×List Sp)))(li:List (Int×Int))(pm:List ((Int×Int)×List Sp))(hB:BU (lS (gO p at_ past) rv li pm))
  (S:P2)(hS:S.length<=1000)(rt0:Rt)(Y:YT)(K:UV)
  (
   hK:∀a rv li pm ex exl,BU (lS (gO p at_ past) rv li pm)->((Yo p at_ past S=none/\a=.sl .nil [])\/∃l rt,Yo p at_ past S=some l/\D4 2 ls.length (ls++exl) rt l/\a=.sl rt (l.map Qe))->
   K (.aQ [a,.bool (oB (gO p at_ past) S)]) (aP pre (lS (gO p at_ past) rv li pm) (post++ex) (ls++exl))):
  aA Tryz.prog aD Y 85 [.ptr (pre.length+9) 0,.sl rt0 (S.map Xa)] (aP pre (lS (gO p at_ past) rv li pm) post ls) K:=by
 have Gr:=h.spn;obtain⟨l1,l2,l3,l4,l5,l6,l7,l8,l9,l10⟩:=h;have hU:=aaf past;have hE:=aag p past;refine Qdx pre post ls (lS (gO p at_ past) rv li pm) S rt0 past.length zE zE (show p.cls.length<=1000000 by omega) (show p.sh.length<=1000000000 by omega) (show p.aO.length<=1000000000 by omega) (show p.ens.length<=1000000000 by omega) (show(Yx p).length<=1000000000 by omega) l7.2 (fun e he=>(l8 e he).2) ha.2 hU hE hB Y K (fun h0 rv li pm gN exl hB=>?_) (fun l h1 rv li pm gN exl U5 hB hO2=>?_)
 ·have h0:Yo p at_ past S=none:=h0;have:=hK (.sl .nil []) rv li pm gN exl hB (.inl ⟨h0,rfl⟩);rw[u0,h0]at this;exact this
 have h1:Yo p at_ past S=some l:=h1;have:=hK (.sl U5 (l.map Qe)) rv li pm gN exl hB (.inr ⟨l,U5,h1,hO2,rfl⟩);rw[u0,h1]at this;exact this
def qj(w:Bool)(ids:P2)(K:List Bool):(Xc w ids K).length<=ids.length:=(jR w ids K).length_le
def aal{p:Pl}(h:PlK p){at_:Int}(ha:amK at_){past:List Ad}(hp:past.length<=2500){ids:P2}(hi:ids.length<=1000):
  Pure Tryz.prog aD 111 [.agg (Qa p),.sl .ro (ids.map Xa),I at_,.sl .ro (past.map Vj)] (R2 p at_ past ids):=by
 have FB:=h;obtain⟨l1,l2,l3,l4,l5,l6,l7,l8,l9,l10⟩:=h;refine Qn ab9 jS zd ?_;simp[M5,Qa,jS];have k41:=fun K'=>yH (yG p ids) [] p at_ past .ro zE zE zE Y0 K';simp only[yG,Qa]at k41;refine k41 _ fun ex=>?_;clear k41;simp[jS,aP,bh,Qp,Qa];refine aak FB ha hp (yG p ids) ex [] [] [] [] (amL p at_ past) ids hi .ro Y0 _ (fun a rv li pm gN exl hB hr=>?_);obtain⟨h0,rfl⟩|⟨l,rt,h1,hO,rfl⟩:=hr
 ·have ck:oB (gO p at_ past) ids=false:=by rw[u0,h0];rfl
  rw[ck];obtain⟨E,hE⟩:∃E,ex++gN=E:=⟨_,rfl⟩;rw[hE];simp[jS,aP,bh,Qp,yG,Qa,lS,gO];refine⟨zE,?_⟩;refine Qj Cq (as1 p ids (gO p at_ past) E (Ko p at_ past ids)) (fun f _=>(3-numOf (f 36)).toNat) ?_ ?_
  ·exact⟨0,List.replicate ids.length false,rv,li,pm,[],exl,zd,zE,zd,rfl,hB,by simp[zA,aP,bh,Qp,yG,dz,Qa,lS,gO,rZ]⟩
  clear hB;rintro f m ⟨r,K,rv,li,pm,D5,ls,h36,OO,hK,hT,hB,rfl⟩;rcases zzab r 3 with rlt|rge
  ·have ax9:(r:Int)<3:=zE
   have rE:=bR r zE;obtain⟨n,hn⟩:∃n,3-r=n+1:=⟨2-r,zE⟩;rw[hn,chF]at hT;obtain⟨T,hTr⟩:∃T,Uz (oB (gO p at_ past)) (RX p) ids r K=T:=⟨_,rfl⟩;rw[hTr]at hT;rw[RZ]at hTr;simp[h36,rlt,ax9,Cq,zA,aP,bh,yG,dz,lS,gO];refine Qj JH (as2 p ids (gO p at_ past) E r T) (fun f _=>ids.length-(numOf (f 41)).toNat) ?_ ?_
   ·exact⟨0,K,rv,li,pm,D5,ls,zd,zE,hK,Pi hTr,hB,by simp[zA,aP,bh,yG,dz,lS,gO]⟩
   clear hTr hK hB;rintro g m ⟨i,K,rv,li,pm,D5,ls,g41,iI,hK,hTi,hB,rfl⟩;rcases zzab i ids.length with aa|bu
   ·obtain⟨id,hx⟩:=aY aa;have ai:Qg (ids.map Xa) i=Xa id:=Qv (by simp[hx]);have ah:(i:Int)<(ids.length:Int):=zE
    have hw:=bR i zE;obtain⟨n2,eP⟩:∃n2,ids.length-i=n2+1:=⟨ids.length-i-1,zE⟩;have hn3:ids.length-(i+1)=n2:=zE
    rw[eP,stF,aai hx]at hTi;simp[g41,aa,ah,ai,Xa,JH,zA,aP,bh,yG,dz,lS,gO,jS];refine afJ (yG p ids) (dz E ids.length K D5) ls (lS (gO p at_ past) rv li pm) id Y0 _ (fun exr=>?_);have hpb:(lS (gO p at_ past) rv li pm).p=p:=rfl;rw[hpb];by_cases fB:RX p id=r
    ·rw[if_pos fB]at hTi;have amM:((RX p id:Nat):Int)=(r:Int):=zE
     have hms:(K.map AV.bool).set i (.bool true)=(K.set i true).map AV.bool:=by rw[zzfl]
     simp[amM,aP,bh,yG,dz,lS,gO,jS];refine⟨aa,zE,?_⟩;rw[hms];obtain⟨S,hS⟩:∃S,Xc true ids (K.set i true)=S:=⟨_,rfl⟩;have hSl:S.length<=1000:=by have:=qj true ids (K.set i true);rw[hS]at this;omega
     have hK2:(K.set i true).length=ids.length:=by simpa using hK
     rw[hS]at hTi;obtain⟨ok,as3⟩:∃ok,oB (gO p at_ past) S=ok:=⟨_,rfl⟩;rw[as3]at hTi
     refine aam rfl [(.sl (rY ls.length S) (S.map Xa),zA p ids (lS (gO p at_ past) rv li pm) E (K.set i true) (D5++exr) (ls++oc S))] (ax8 p ids (gO p at_ past) E (K.set i true) (D5++exr) (ls++oc S) S)
      ⟨(.aQ [.sl .nil [],.bool (oB (gO p at_ past) S)],zA p ids (lS (gO p at_ past) rv li pm) E (K.set i true) ((D5++exr)++[]) ((ls++oc S)++[])),.sl .nil [],rv,li,pm,[],[],rfl,hB,rfl⟩ (fun v m' hv=>?_)
     obtain⟨a,rv2,tu,OC,R3,amN,rfl,tQ,rfl⟩:=hv;rw[as3];simp[zA,aP,bh,yG,dz,lS,gO,jS,hw];rw[hms];have azq:(K.map AV.bool).set i (.bool ok)=(K.set i ok).map AV.bool:=by rw[zzfl]
     refine⟨?_,?_,aa,zE,aR,⟨i+1,K.set i ok,rv2,tu,OC,(D5++exr)++R3,ls++oc S++amN,zd,zE,Pi hK,by rw[hn3];exact hTi,tQ,by simp[zA,aP,bh,yG,dz,lS,gO]⟩,by simp[g41];omega⟩
     ·refine aaj (p:=p) hi (lS (gO p at_ past) rv li pm) E (K.set i true) hK2 (D5++exr) ls true Y0 _ ?_;rw[hS];exact⟨rfl,rfl⟩
     refine aak FB ha hp (yG p ids) (dz E ids.length (K.set i true) (D5++exr)) (ls++oc S) rv li pm hB S hSl _ Y0 _ (fun a rv li pm ex exl hB _=>⟨a,rv,li,pm,ex,exl,rfl,hB,by simp[zA,dz];rfl⟩)
    rw[if_neg fB]at hTi;have amM:¬((RX p id:Nat):Int)=(r:Int):=zE
    simp[amM,aP,bh,yG,dz,lS,gO,jS,hw];refine⟨aR,⟨i+1,K,rv,li,pm,D5++exr,ls,zd,zE,hK,by rw[hn3];exact hTi,hB,by simp[zA,aP,bh,yG,dz,lS,gO]⟩,zE⟩
   have bU:¬(i:Int)<(ids.length:Int):=zE
   have hz:ids.length-i=0:=zE
   rw[hz,stF]at hTi;subst hTi;simp[g41,bU,zzbn.2 bu,JH,Cq,h36,zA,aP,bh,yG,dz,lS,gO,rE];refine⟨aR,⟨r+1,K,rv,li,pm,D5,ls,zd,zE,hK,by rw[show 3-(r+1)=n by omega];exact hT,hB,by simp[zA,aP,bh,yG,dz,lS,gO]⟩,zE⟩
  have rin:¬(r:Int)<3:=zE
  obtain rfl:r=3:=zE
  have hT:K=Ko p at_ past ids:=hT;subst hT;obtain⟨ka,kb,kc⟩:=Mk p at_ past ids;obtain⟨L,hL⟩:=zzcg.1 kb;simp[h36,Cq,zA,aP,bh,yG,dz,lS,gO,jS];refine aaj (p:=p) hi (lS (gO p at_ past) rv li pm) E (Ko p at_ past ids) ka D5 ls true Y0 _ ?_;obtain⟨S,hS⟩:∃S,Xc true ids (Ko p at_ past ids)=S:=⟨_,rfl⟩;have hSl:S.length<=1000:=by have:=qj true ids (Ko p at_ past ids);rw[hS]at this;omega
  have hr:R2 p at_ past ids=.aQ [I3 L,HI (Xc false ids (Ko p at_ past ids))]:=by rw[R2,hL];rfl
  rw[hr];rw[hS]at hL |-
  simp[zA,aP,bh,yG,dz,lS,gO,jS];refine aak FB ha hp (yG p ids) (dz E ids.length (Ko p at_ past ids) D5) (ls++oc S) rv li pm hB S hSl _ Y0 _ (fun a rv li pm R3 amN hB hv=>?_);obtain⟨h0,_⟩|⟨l,rt,h1,hO,rfl⟩:=hv
  ·rw[hL]at h0;cases h0
  rw[hL]at h1;cases h1;simp[zA,aP,bh,yG,dz,lS,gO,jS];refine aaj (p:=p) hi (lS (gO p at_ past) rv li pm) E (Ko p at_ past ids) ka (D5++R3) (ls++(oc S++amN)) false Y0 _ ?_;obtain⟨D,hD⟩:∃D,Xc false ids (Ko p at_ past ids)=D:=⟨_,rfl⟩;rw[hD];by_cases hDe:D=[]
  ·subst hDe;obtain⟨rfl,rfl⟩|⟨k2,rfl,_,_,aJ⟩:=hO
   ·simp[vl,I3,HI,rY]
   simp[vl,I3,HI,rY,aJ]
  obtain⟨rfl,rfl⟩|⟨k2,rfl,_,_,aJ⟩:=hO
  ·simp[vl,I3,HI,rY,hDe]
  simp[vl,I3,HI,rY,hDe,aJ]
 have ck:oB (gO p at_ past) ids=true:=by rw[u0,h1];rfl
 obtain⟨dF,ey⟩:=R4 p at_ past ids (by rw[h1];rfl);have hr:R2 p at_ past ids=.aQ [I3 l,.sl .nil []]:=by rw[R2,dF,ey,h1];rfl
 rw[ck,hr];obtain⟨rfl,rfl⟩|⟨k2,rfl,_,_,aJ⟩:=hO
 ·simp[vl,I3]
 simp[vl,I3,aJ]
def HJ:SC:=(⟨_,by cbv⟩:KM [1,1,1,1,1,1,1,1] JC).1
def HK:SC:=(⟨_,fun _=>by cbv⟩:FO [1,1] (pE [1,1,1,1,1,1] JC)).1 HJ
def OP:SC:=(⟨_,fun _=>by cbv⟩:FO [1,1] (pE [1,1,1,1] JC)).1 HK
def as4:SC:=(⟨_,fun _=>by cbv⟩:FO [1,1,1,1] JC).1 OP
theorem afK:JC=as4:=rfl
def Ka(l:P2):P2:=l.mergeSort fun x y=>decide (x<=y)
def r6(l:P2):(Ka l).length=l.length:=zzex l
def OQ(l:P2):(l.map Xa).flatten=aj l:=by
 induction l with
 |nil=>rfl
 |cons a r ih=>simp only[zzay,zzci,ih];rfl
def uk{α:Type}(l:List α):Rt:=if l=[]then .nil else .ro
def ajw:∀{l:P2},l≠[]->dd l≠[]
 |[],h=>absurd rfl h
 |[x],_=>by simp[dd]
 |x::y::r,_=>by
  rw[Gk];split
  ·exact ajw zd
  simp
def iu(n:Nat)(m:AM)(V:AV)(rows:X2):Prop:=Qw V=true/\∀m':AM,m.boxes.length<=m'.boxes.length->(∀j,n<=j->j<m.boxes.length->Qg m'.boxes j=Qg m.boxes j)->∀d,bE m' (d+2) V=.sl (uk rows) rows
def iu.mono{n n':Nat}{m:AM}{V:AV}{rows:X2}(h:iu n m V rows)(hn:n'<=n):iu n' m V rows:=⟨h.1,fun m' h1 h2 d=>h.2 m' h1 (fun j q1 q2=>h2 j zE q2) d⟩
def aan(Y:YT)(m:AM)(rt:Rt)(K:UV)(hK:K (.sl rt []) m):aA Tryz.prog aD Y 114 [.sl rt []] m K:=by
 obtain⟨mb,ml,ms,mn⟩:=m;refine Xh Cr (fun _ _ _=>.junk) zd ?_;simp[vm,Az];exact hK
def bC.pre{id:Nat}{mb X B':X2}(h:bC (·=id) (mb++X) B')(aM:mb.length<=id):∃ex,B'=mb++ex:=by
 refine⟨B'.drop mb.length,?_⟩;apply zzcz;intro j;have hl:=h.1;simp only[zzah]at hl;rcases zzab j mb.length with hj|hj
 ·rw[zzak hj];have:=h.2 j (by simp;omega) zE;rw[Je zE,this,Je hj,Qk hj]
 rw[zzat hj,zzbo];congr 1;omega
def iu.ints{B:X2}{L:P1}{st:Nat->LS}{n k id:Nat}{l:P2}{c:PQ}(hk:k<=id)(aM:id<B.length)(hB:Qg B id=aj l++c)(hc:Zl c=true)(aJ:l≠[]):iu k ⟨B,L,st,n⟩ (.bs id 0 l.length 1) (l.map Xa):=by
 have bk:uk (l.map Xa)=.ro:=by unfold uk;rw[if_neg (Pi aJ)]
 rw[iu,bk];refine⟨rfl,fun m' h1 h2 d=>?_⟩;have hr:=h2 id hk aM;simp only at hr h1
 have ck:Zl (aj l++c)=true:=by
  have:=XJ l;unfold Zl at this hc |-
  rw[zzfj,this,hc];rfl
 rw[ZX,Vu];rw[hr,hB,Vd _ _ ck,if_pos (by rw[zzah,Ub];omega),zzd,xk];rfl
def HL(Y:YT)(orc:X1)(R5:orc 95 999999 []=.aL 0 [])(ho7:orc 97 999999 []=.aL 0 [])(hs:∀d l,orc d 113 l=.gd false .junk)(hp:∀d l,orc d 114 l=.gd false .junk)
  (E:R0)(mb:X2)(ml:P1)(ms:Nat->LS)(mn:Nat)(g:Pg)(f:Int)(mid k3:Nat)(V8:AV)(rD:Rt)(D:P2)(Q:T5)
  (h3:Abs.look E 3=.ptr k3 0)(tX:k3<mb.length)(OO:Qg mb k3=Qq g f mid)(h8:Abs.look E 8=V8)(K3:Abs.look E 16=.sl rD (D.map Xa))(gr:g.dr.length<=1000000)(uF:D.length<=1000000)
  (hQ:∀E' ex vd,Abs.look E' 6=V8->Abs.look E' 7=vd->iu mb.length ⟨mb++ex,ml,ms,mn⟩ vd ((dd (Ka (g.dr++D))).map Xa)->Q .ret ⟨Zr 103 E',⟨mb++ex,ml,ms,mn⟩⟩):
  vc Tryz.prog aD orc Y HJ ⟨Zr 103 E,⟨mb,ml,ms,mn⟩⟩ Q:=by
 simp only[Qq,Qo,Qa,zzae,zzaj]at OO
 have fin:∀(X:X2)(id:Nat)(K:AV->AV->AM->Prop),mb.length<=id->id<(mb++X).length->Qg (mb++X) id=aj (g.dr++D)->g.dr++D≠[]->
   (∀ex vd,iu mb.length ⟨mb++ex,ml,ms,mn⟩ vd ((dd (Ka (g.dr++D))).map Xa)->K (.aQ []) vd ⟨mb++ex,ml,ms,mn⟩)->
   aA Tryz.prog aD Y 113 [.bs id 0 (g.dr++D).length 1] ⟨mb++X,ml,ms,mn⟩ (fun r0 m'=>aA Tryz.prog aD Y 114 [.bs id 0 (g.dr++D).length 1] m' (K r0)):=by
  intro X id K cR aa ai aJ hK;refine sO Y (g.dr++D) (by simp;omega) _ id [] (by rw[zzas];exact Ju aa ai) (by rw[zzas];intro h;have:=congrArg List.length h;rw[Ub]at this;exact aJ (zzbc this)) _ ?_;have aH:(g.dr++D).length=(Ka (g.dr++D)).length:=(r6 _).symm;rw[aH];have fU:Ka (g.dr++D)≠[]:=fun h=>aJ (by have:=congrArg List.length h;rw[r6]at this;exact zzbc this);refine sS Y (Ka (g.dr++D)) (by rw[<- aH];simp;omega) _ _ _ _ id (Pi aa) fU ?_ _ ?_
  ·rw[zzas];exact Qv (by rw[zzbg aa];first|rfl|(rw[zzas];rfl))
  intro B' z nB zu _
  have bW:(mb++X).set id (aj (List.mergeSort (g.dr++D) fun x y=>decide (x<=y))++[])=mb++X.set (id-mb.length) (aj (List.mergeSort (g.dr++D) fun x y=>decide (x<=y))++[]):=by
   rw[zzcy _ _ cR]
  rw[bW]at nB;obtain⟨ex,rfl⟩:=bC.pre nB cR;refine hK ex _ ?_;have aya:id<(mb++ex).length:=by have:=nB.1;simp at this aa |-;omega
  rw[nH]at zu;exact iu.ints cR aya zu (XJ z) (ajw fU)
 have hR3:∀ex,Qg (mb++ex) k3=_:=fun ex=>(Qk tX).trans OO;have hm5:mutO orc (some 95)=true:=by unfold mutO;simp[R5]
 have hm7:mutO orc (some 97)=true:=by unfold mutO;simp[ho7]
 simp only[zzah]at fin;by_cases eY:g.dr=[]
 ·by_cases hD:D=[]
  ·simp[HJ,h3,h8,K3,OO,eY,hD,hs,hp,R5,ho7];refine pI _ _ _ _ ?_;refine aan _ _ _ _ ?_;have:=fun E' vd h1 h2 h3=>hQ E' [] vd h1 h2 h3;simp only[zzas]at this;refine this _ _ zd (by simp;rfl) ?_;rw[eY,hD];refine⟨rfl,fun m' h1 h2 d=>?_⟩;simp[Ka,dd,uk]
  have aJ:g.dr++D≠[]:=by simp[hD]
  have eO:¬aj D=[]:=fun h=>hD (by have:=congrArg List.length h;rw[Ub]at this;exact zzbc this);rw[eY]at fin hQ aJ;simp only[zzcd,zzbm,zzaj]at fin hQ;have rE:∀a∈D,(Xa a).length=1:=fun _ _=>rfl;simp[HJ,h3,h8,K3,OO,eY,hD,hs,hp,R5,ho7,OQ,Ub];refine⟨⟨zE,rE⟩,fin [aj D] mb.length _ (zzaa _) zd zd hD ?_⟩;intro ex vd hv;exact hQ _ _ _ zd zd hv
 have aJ:g.dr++D≠[]:=by simp[eY]
 have eO:¬aj g.dr=[]:=fun h=>eY (by have:=congrArg List.length h;rw[Ub]at this;exact zzbc this);have rE:∀a∈D,(Xa a).length=1:=fun _ _=>rfl;have ayb:∀a∈g.dr,(Xa a).length=1:=fun _ _=>rfl;have bB:List.take g.dr.length (aj g.dr)=aj g.dr:=zzal (by rw[Ub];exact zzaa _);simp[HJ,h3,h8,K3,OO,eY,hs,hp,R5,OQ,Ub,eO,bB];refine⟨⟨zE,ayb⟩,⟨zE,rE⟩,fin [[],aj g.dr++aj D] (mb.length+1) _ zE zd (by simp[nH]) aJ ?_⟩;intro ex vd hv;exact hQ _ _ _ zd zd hv
def D6(rt AZ:Rt):Prop:=∀m d x,bE m (d+1) (.sl rt x)=.sl AZ x
def D6.ro:D6 .ro .ro:=fun _ _ _=>rfl
def D6.nil:D6 .nil .nil:=fun _ _ _=>rfl
def D6.own(k s:Nat):D6 (.own k s) .ro:=fun _ _ _=>rfl
def Ml{α:Type}(l:List α):D6 (uk l) (uk l):=by
 unfold uk;split
 ·exact D6.nil
 exact D6.ro
def EvW(ml:P1)(rt:Rt)(n:Nat):Prop:=(rt=.nil/\n=0)\/∃k,rt=.own k 7/\ml[k]?=some n
def aao(Y:YT)(orc:X1)(R5:orc 95 999999 []=.aL 0 [])(ho7:orc 97 999999 []=.aL 0 [])(ho1:orc 91 999999 []=.junk)(hs:∀d l,orc d 113 l=.gd false .junk)(hp:∀d l,orc d 114 l=.gd false .junk)
  (E:R0)(mb:X2)(ml:P1)(ms:Nat->LS)(mn:Nat)(g:Pg)(f:Int)(mid k3 k5:Nat)(q:Pl)(d:Int)(rte ce rti ci rL rD:Rt)(ev bl:List bJ)(en:Int)(ids D:P2)(L:List Sp)(past:List Ad)(Q:T5)
  (as5:∀d l,orc d 112 l=.sl .ro (past.map Vj))(as6:∀d l,orc d 111 l=.aQ [.sl rL (L.map Qe),.sl rD (D.map Xa)])(h62:∀d l,orc d 51 l=.sl .ro (bl.map Qf))
  (afL:Pure Tryz.prog aD 112 [.sl ce (ev.map Zt),I en] (.sl .ro (past.map Vj)))
  (aap:Pure Tryz.prog aD 111 [.agg (Qa q),.sl ci (ids.map Xa),I en,.sl .ro (past.map Vj)] (.aQ [.sl rL (L.map Qe),.sl rD (D.map Xa)]))
  (X9:Pure Tryz.prog aD 51 [.agg (Qa q),.sl rL (L.map Qe),I en] (.sl .ro (bl.map Qf)))
  (hce:D6 rte ce)(hci:D6 rti ci)(hcL:D6 rL rL)
  (h3:Abs.look E 3=.ptr k3 0)(tX:k3<mb.length)(OO:Qg mb k3=Qq g f mid)(h5:Abs.look E 5=.ptr k5 0)(hk5:k5<mb.length)(R6:Qg mb k5=Qa q++[I d])
  (h8:Abs.look E 8=.sl rte (ev.map Zt))(ayc:EvW ml rte ev.length)(h9:Abs.look E 9=I en)(oA:Abs.look E 12=.sl rti (ids.map Xa))
  (gr:g.dr.length<=1000000)(uF:D.length<=1000000)(hl3:ev.length<=1000000)(hl4:bl.length<=10000000)
  (hQ:∀E' ex ls ke vd,Abs.look E' 6=.sl (.own ke 7) (ev.map Zt++bl.map Qf)->Abs.look E' 7=vd->iu mb.length ⟨mb++ex,ls,ms,mn⟩ vd ((dd (Ka (g.dr++D))).map Xa)->Q .ret ⟨Zr 103 E',⟨mb++ex,ls,ms,mn⟩⟩):
  vc Tryz.prog aD orc Y HK ⟨Zr 103 E,⟨mb,ml,ms,mn⟩⟩ Q:=by
 have as7:=fun m d x=>hce m d x;have as8:=fun m d x=>hci m d x;have as9:=fun m d x=>hcL m d x;simp only[Qa,zzae,zzaj]at R6;simp only[Qa]at aap X9;have hR5:∀ex,Qg (mb++ex) k5=_:=fun ex=>(Qk hk5).trans R6;have hw7:∀a∈ev,(Zt a).length=7:=fun _ _=>rfl;have ayd:∀a∈bl,(Qf a).length=7:=fun _ _=>rfl;obtain⟨rfl,hn⟩|⟨k,rfl,hk⟩:=ayc
 ·have he:ev=[]:=zzbc hn;subst he;simp[HK,h8,h9,oA,h5,R6,as7,as8,as9,as5,as6,h62,ho1];refine⟨afL,aap,X9,⟨ayd,zE⟩,HL Y orc R5 ho7 hs hp _ mb _ ms mn g f mid k3 (.sl (.own ml.length 7) (bl.map Qf)) rD D Q (by simp[h3]) tX OO zd zd gr uF ?_⟩;intro E' ex vd q1 q2 q3;exact hQ E' ex _ ml.length vd (by rw[q1];rfl) q2 q3
 simp[HK,h8,h9,oA,h5,R6,as7,as8,as9,as5,as6,h62,hk];refine⟨afL,aap,X9,⟨?_,zE⟩,HL Y orc R5 ho7 hs hp _ mb _ ms mn g f mid k3 (.sl (.own k 7) (ev.map Zt++bl.map Qf)) rD D Q (by simp[h3]) tX OO zd zd gr uF ?_⟩
 ·rintro row (⟨a,_,rfl⟩|⟨a,_,rfl⟩)<;>rfl
 intro E' ex vd q1 q2 q3;exact hQ E' ex _ k vd q1 q2 q3
def eZ(c:PQ):Prop:=c≠[]/\Mg c
def R7{a:AV}(h:Hp a=true):cz a:=by
 cases a<;>simp[Hp]at h
 case bool b=>exact cz.bool b
 case int k n=>exact cz.int k n
 case str s=>exact cz.str s
 case sl rt rows=>
  refine cz.sl fun i s e=>?_;subst e;simp at h
 case nilfn=>exact fun w γ v h=>by cases h;exact .nilfn
 case ep row o=>
  intro w γ v h;cases h with
  |ep cv hb hc h=>exact .ep cv hb hc h
def eZ.of{c:PQ}(h0:c≠[])(h:Zl c=true):eZ c:=by
 refine⟨h0,fun a ha=>⟨R7 (zzbe.1 h a ha),fun kn kvs e=>?_⟩⟩;have:=zzbe.1 h a ha;subst e;simp[Hp]at this
def eZ.snoc{l:X2}{c:PQ}(h:∀x∈l,eZ x)(hc:eZ c):∀x∈l++[c],eZ x:=fun x hx=>by
 rcases zzap.1 hx with hx|hx
 ·exact h x hx
 rw[zzcp.1 hx];exact hc
theorem D7(e:bJ):Zl (Qf e)=true:=rfl
theorem aaq(g:Pg):Zl (Qo g)=true:=rfl
def eZ.mo(g:Pg)(f:Int)(mid:Nat):eZ (Qq g f mid):=by
 refine⟨by simp[Qq],fun a ha=>?_⟩;rcases zzap.1 ha with ha|ha
 ·exact(eZ.of (c:=Qo g) (by simp[Qo,Qa]) (aaq g)).2 a ha
 simp only[zzao,zzcn,or_false]at ha;obtain rfl|rfl:=ha
 ·exact⟨cz.int _ _,fun _ _ h=>by cases h⟩
 exact⟨cz.mp _,fun _ _ h=>by cases h⟩
def eZ.map(b:QP):eZ [.aL 0 (bF .bool b)]:=by
 refine⟨zd,fun a ha=>?_⟩;rw[zzcp.1 ha];refine⟨cz.aL _ _,fun kn kvs h p hp=>?_⟩;cases h;simp only[bF,zzbh]at hp;obtain⟨x,_,rfl⟩:=hp;exact cz.bool _
def amO(g:Pg)(fr:Int)(mb:X2)(ml:P1)(ms:Nat->LS)(mn:Nat)(f:Nat->AV)(m:AM):Prop:=
 ∃(i:Nat)(b:QP)(bx:X2),(∀c∈bx,eZ c)/\f 16=I i/\i<=g.ev.length/\Xw fr (g.ev.drop i) b=Xw fr g.ev []/\b.length<=i/\
  m=⟨mb++(Qo g::ED::[.aL 0 (bF .bool b)]::Qq g fr (mb.length+2)::bx),ml,ms,mn⟩
def BV(Y:YT)(m:AM)(g:Pg)(fr:Int)(hl:g.ev.length<=1000000)(K:UV)
  (hK:∀ex mid,(∀c∈ex,eZ c)->m.boxes.length<=mid->gm (m.boxes++ex) mid (Xw fr g.ev [])->K (.agg (Qq g fr mid)) {m with boxes:=m.boxes++ex}):
  aA Tryz.prog aD Y 55 [.agg (Qo g),I fr] m K:=by
 obtain⟨mb,ml,ms,mn⟩:=m;refine Xh Ti (fun _ _ _=>.junk) zd ?_;simp[akC,Qo,Qa];refine Qj lU (amO g fr mb ml ms mn) (fun f _=>g.ev.length-(numOf (f 16)).toNat) ?_ ?_
 ·exact⟨0,[],[],(fun c h=>by cases h),zd,zE,zd,zd,by simp[Qo,Qa,Qq,ED]⟩
 rintro f m ⟨i,b,bx,hbx,K3,hi,hb,eW,rfl⟩;rcases zzab i g.ev.length with aa|bu
 ·obtain⟨e,he⟩:=aY aa;have ai:Qg (g.ev.map Qf) i=Qf e:=Qv (by simp[he]);have ah:(i:Int)<(g.ev.length:Int):=zE
  have hw:=bR i zE;have hd:g.ev.drop i=e::g.ev.drop (i+1):=by rw[zzaf aa,(zza.1 he).2]
  rw[hd,Xw]at hb;by_cases hs:e.st<fr
  ·rw[if_pos hs]at hb;have fk:=rS e.id true b;rcases Xu AV.bool e.id b 0 with⟨b1,b2,b3,b4⟩|⟨u,n,b1,b2,b3,b4,b5,b6⟩
   ·simp[K3,lU,ah,ai,hw,Qf,Qo,Qa,Qq,ED,hs,b2];refine⟨aR,⟨i+1,Vi e.id true b,bx++[Qf e],eZ.snoc hbx (eZ.of (by simp[Qf]) (D7 e)),zd,zE,hb,zE,by simp[Qo,Qa,Qq,ED,Qf,b4]⟩,zE⟩
   simp[K3,lU,ah,ai,hw,Qf,Qo,Qa,Qq,ED,hs,b2];refine⟨aR,⟨i+1,Vi e.id true b,bx++[Qf e],eZ.snoc hbx (eZ.of (by simp[Qf]) (D7 e)),zd,zE,hb,zE,by simp[Qo,Qa,Qq,ED,Qf,b6]⟩,zE⟩
  rw[if_neg hs]at hb;simp[K3,lU,ah,ai,hw,Qf,Qo,Qa,Qq,ED,hs];refine⟨aR,⟨i+1,b,bx++[Qf e],eZ.snoc hbx (eZ.of (by simp[Qf]) (D7 e)),zd,zE,hb,zE,by simp[Qo,Qa,Qq,ED,Qf]⟩,zE⟩
 obtain rfl:i=g.ev.length:=zE
 rw[zzbx,Xw]at hb;subst hb;simp[K3,lU,akD,Qo,Qa,Qq,ED];refine hK _ (mb.length+2) ?_ zd ⟨zd,zd⟩;intro c hc;simp only[zzao]at hc;obtain rfl|rfl|rfl|rfl|hc:=hc
 ·exact eZ.of zd (by simp[Zl])
 ·exact eZ.mo g fr _
 ·exact eZ.map _
 ·exact eZ.mo g fr _
 exact hbx c hc
section
variable {n:Nat} {m':AM}
def R8(n:Nat)(m':AM):PQ->PQ->Prop
 |[],[]=>True
 |a::xs,b::ys=>dQ n m' a b/\R8 n m' xs ys
 |_,_=>False
def R8.both:∀{xs ys:PQ},R8 n m' xs ys->xs.length=ys.length/\∀(i:Nat)(c d:AV),xs[i]?=some c->ys[i]?=some d->dQ n m' c d
 |[],[],_=>⟨rfl,fun i c d h=>by simp at h⟩
 |[],_::_,h=>h.elim
 |_::_,[],h=>h.elim
 |a::xs,b::ys,h=>by
  obtain⟨h1,h2⟩:=R8.both h.2;refine⟨by simp[h1],fun i c d q1 q2=>?_⟩;cases i with
  |zero=>cases q1;cases q2;exact h.1
  |succ i=>exact h2 i c d (Pi q1) (Pi q2)
def HM{xs ys:PQ}(h:R8 n m' xs ys):dQ n m' (.agg xs) (.agg ys):=dQ.agg h.both.1 h.both.2
def HN{xs ys:PQ}(h:R8 n m' xs ys):dQ n m' (.aQ xs) (.aQ ys):=dQ.aQ h.both.1 h.both.2
def afM(k sz:Nat):dQ n m' (.bs k 0 0 sz) (.sl .ro []):=fun N w0 an γ' γ2 w' v hm hr h1 h2=>by
 obtain⟨b,cap,arr,zm,hβ,rfl,hlc,hh,hs⟩:=hr.dg;exact au.sl (w:=w') (γ:=γ2) (rt:=.ro) (rows:=[]) b 0 sz (fun _ _=>undef) (zzbi _) (fun h=>by cases h) (fun h=>absurd rfl h) (fun _ h=>by cases h) (fun i j c h=>by simp[Qs]at h) (fun i j c h=>by simp[Qs]at h) trivial
def mG.frz{V:AV}{l:List En}(h:mG m'.boxes V l)(hk:Hr n V):dQ n m' V (.sl .ro (l.map Qd)):=by
 obtain⟨rt,rfl,_⟩|⟨k,z,rfl,h2,h3,h4⟩:=h
 ·exact dQ.sl _ _
 cases l with
 |nil=>exact afM _ _
 |cons a r=>
  have ck:Zl (eU (a::r)++z)=true:=by
   have:=LX (a::r);unfold Zl at this h4 |-
   rw[zzfj,this,h4];rfl
  have:=dQ.bs (sz:=7) (len:=(a::r).length) (hk _ _ _ _ rfl) (Ju h2 h3) (by simp[eU,Qd]) ck (by rw[zzah,Ux];omega);rw[nW]at this;exact this
end
def R9:PQ:=[I 0,I 0,I 0,I 0,.sl .ro [],I 0,I 0,I 0,I 0,.sl .ro [],.sl .ro [],.sl .ro [],.sl .ro [],I 0]
def Aj(x:Option (Pl×Int)):AV:=match x with
 |none=>.aQ [.agg R9,.bool false]
 |some (q,d)=>.aQ [.agg (Qa q++[I d]),.bool true]
def OR(Y:YT)(m:AM)(g:Pg)(f:Int)(mid:Nat)(b:QP)(o:Od)(h:aae g f o)(hb:gm m.boxes mid b)(hB:∀c∈m.boxes,eZ c):
  aA Tryz.prog aD Y 56 [.agg (Qq g f mid),.agg (Qu o)] m (fun r m'=>m'=m/\r=Aj (Kg g f b o)):=by
 refine aA.freeze (fun c hc=>(hB c hc).1) (fun c hc=>(hB c hc).2) (Mh Y m g f mid b o h hb _ (fun hx ex ls=>?_) (fun q d hx ex V rt ls hV hk bk=>?_))
 ·refine⟨ex,ls,_,rfl,?_,rfl⟩;rw[hx];refine HN ⟨HM ?_,dQ.bool _,trivial⟩;unfold uX R9;refine⟨dQ.int _ _,dQ.int _ _,dQ.int _ _,dQ.int _ _,dQ.sl _ _,dQ.int _ _,dQ.int _ _,dQ.int _ _,dQ.int _ _,dQ.sl _ _,dQ.sl _ _,dQ.sl _ _,dQ.sl _ _,dQ.int _ _,trivial⟩
 refine⟨ex,ls,_,rfl,?_,rfl⟩;rw[hx];refine HN ⟨HM ?_,dQ.bool _,trivial⟩;unfold Xo Qa;simp only[zzae,zzaj];exact⟨dQ.int _ _,dQ.int _ _,dQ.int _ _,dQ.int _ _,dQ.sl _ _,dQ.int _ _,dQ.int _ _,dQ.int _ _,dQ.int _ _,dQ.sl _ _,mG.frz hV hk,dQ.sl _ _,dQ.sl _ _,dQ.int _ _,trivial⟩
def OS(Y:YT)(m:AM)(g:Pg)(f:Int)(mid:Nat)(b:QP)(o:Od)(h:aae g f o)(hb:gm m.boxes mid b)(hB:∀c∈m.boxes,eZ c)(K:UV)(hK:K (Aj (Kg g f b o)) m):
  aA Tryz.prog aD Y 56 [.agg (Qq g f mid),.agg (Qu o)] m K:=
 aA.mono (OR Y m g f mid b o h hb hB) (by rintro r m' ⟨rfl,rfl⟩;exact hK)
def jT(g:Pg)(b:QP)(e:En):Bool:=!zy b e.id&&!decide (e.id∈g.dr)
def Jl(g:Pg)(b:QP)(l:List En):P2:=(l.filter (jT g b)).map (·.id)
def Sa(g:Pg)(b:QP)(l:List En)(e:En):Jl g b (l++[e])=Jl g b l++(if jT g b e then[e.id]else[]):=by
 unfold Jl;rw[zzdh,zzch];congr 1;cases h:jT g b e<;>simp[h]
def jU(g:Pg)(b:QP)(l:List En):(Jl g b l).length<=l.length:=by
 unfold Jl;rw[zzbu];exact zzca _ _
def IdR(ml ls:P1)(rt:Rt)(n:Nat):Prop:=(rt=.nil/\n=0/\ls=ml)\/(rt=.own ml.length 1/\n≠0/\ls=ml++[n])
def ata(g:Pg)(b:QP)(q:Pl)(mb:X2)(ml:P1)(ms:Nat->LS)(mn:Nat)(s:Nat->AV)(m:AM):Prop:=
 ∃(i:Nat)(bx:X2)(rt:Rt)(ls:P1),s 49=I i/\i<=q.ens.length/\m=⟨mb++bx,ls,ms,mn⟩/\s 12=.sl rt ((Jl g b (q.ens.take i)).map Xa)/\IdR ml ls rt (Jl g b (q.ens.take i)).length
def aar(Y:YT)(orc:X1)(atb:orc 72 999999 []=.junk)(afN:orc 71 999999 []=.junk)
  (E:R0)(mb:X2)(ml:P1)(ms:Nat->LS)(mn:Nat)(g:Pg)(f:Int)(mid k3 k5:Nat)(b:QP)(q:Pl)(d:Int)(Q:T5)
  (Mm:∀d id,orc d 110 [.sl .ro (g.dr.map Xa),I id]=.bool (decide (id∈g.dr)))
  (h3:Abs.look E 3=.ptr k3 0)(tX:k3<mb.length)(OO:Qg mb k3=Qq g f mid)(h5:Abs.look E 5=.ptr k5 0)(hk5:k5<mb.length)(R6:Qg mb k5=Qa q++[I d])(hb:gm mb mid b)
  (gr:g.dr.length<=1000000)(uF:q.ens.length<=1000000)
  (hQ:∀E' ex rt ls,(∀k,k≠12->k<14->Abs.look E' k=Abs.look E k)->Abs.look E' 12=.sl rt ((Jl g b q.ens).map Xa)->IdR ml ls rt (Jl g b q.ens).length->vc Tryz.prog aD orc Y HK ⟨Zr 103 E',⟨mb++ex,ls,ms,mn⟩⟩ Q):
  vc Tryz.prog aD orc Y OP ⟨Zr 103 E,⟨mb,ml,ms,mn⟩⟩ Q:=by
 simp only[Qq,Qo,Qa,zzae,zzaj]at OO R6;have hR3:∀ex,Qg (mb++ex) k3=_:=fun ex=>(Qk tX).trans OO;have hR5:∀ex,Qg (mb++ex) k5=_:=fun ex=>(Qk hk5).trans R6;have hRm:∀ex,Qg (mb++ex) mid=[.aL 0 (bF .bool b)]:=hb.ext;have hk:∀id,Pure Tryz.prog aD 110 [.sl .ro (g.dr.map Xa),I id] (.bool (decide (id∈g.dr))):=fun id=>jP g.dr id zE;simp[OP,h5,R6];refine Qj oE (ata g b q mb ml ms mn) (fun s _=>q.ens.length-(numOf (s 49)).toNat) ?_ ?_
 ·exact⟨0,[],.nil,ml,zd,zE,zd,by simp[Jl],.inl ⟨rfl,by simp[Jl],rfl⟩⟩
 rintro s m ⟨i,bx,rt,ls,h49,hi,rfl,oA,bk⟩;rcases zzab i q.ens.length with aa|bu
 ·obtain⟨x,hx⟩:=aY aa;have ai:Qg (q.ens.map Qd) i=Qd x:=Qv (by simp[hx]);have ah:(i:Int)<(q.ens.length:Int):=zE
  have hw:=bR i zE;have bB:q.ens.take (i+1)=q.ens.take i++[x]:=by rw[zzax,hx];rfl
  have Gr:Jl g b (q.ens.take (i+1))=Jl g b (q.ens.take i)++(if jT g b x then[x.id]else[]):=by rw[bB,Sa]
  have iI:=jU g b (q.ens.take i);rw[zzaq]at iI;have skip:jT g b x=false->Jl g b (q.ens.take (i+1))=Jl g b (q.ens.take i):=fun h=>by rw[Gr,h];simp
  have more:jT g b x=true->Jl g b (q.ens.take (i+1))=Jl g b (q.ens.take i)++[x.id]:=fun h=>by rw[Gr,h];simp
  generalize Jl g b (q.ens.take i)=O at*
  generalize dx:Jl g b (q.ens.take (i+1))=O' at*
  have rE:∀a∈O,(Xa a).length=1:=fun _ _=>rfl;rcases Xu AV.bool x.id b 0 with⟨b1,b2,_⟩|⟨u,u',b1,b2,_⟩
  ·by_cases eY:x.id∈g.dr
   ·have e1:=skip (by simp[jT,eY]);simp[h49,ah,ai,Qd,oE,hw,h3,hR3,hRm,b2,eY,Mm,oA];refine⟨by simpa[eY]using hk x.id,aR,⟨i+1,_,rt,ls,zd,zE,rfl,by rw[dx,e1];simp,by rw[dx,e1];exact bk⟩,zE⟩
   have e1:=more (by simp[jT,eY,zy,b1]);obtain⟨rfl,hn,rfl⟩|⟨rfl,hn,rfl⟩:=bk
   ·have hO:O=[]:=zzbc hn;subst hO;simp[h49,ah,ai,Qd,oE,hw,h3,hR3,hRm,b2,eY,Mm,oA,atb,afN];refine⟨by simpa[eY]using hk x.id,aR,⟨i+1,_,_,_,zd,zE,rfl,by rw[dx,e1];simp[Xa];rfl,by rw[dx,e1];exact .inr ⟨rfl,zd,zd⟩⟩,zE⟩
   simp[h49,ah,ai,Qd,oE,hw,h3,hR3,hRm,b2,eY,Mm,oA,afN];refine⟨by simpa[eY]using hk x.id,⟨?_,zE⟩,aR,⟨i+1,_,_,_,zd,zE,rfl,by rw[dx,e1];simp[Xa];rfl,by rw[dx,e1];exact .inr ⟨rfl,zd,zd⟩⟩,zE⟩
   ·rintro row (⟨a,_,rfl⟩|rfl)<;>rfl
  cases u with
  |true=>
   have e1:=skip (by simp[jT,zy,b1]);simp[h49,ah,ai,Qd,oE,hw,h3,hR3,hRm,b2,Mm,oA];refine⟨aR,⟨i+1,_,rt,ls,zd,zE,rfl,by rw[dx,e1];simp,by rw[dx,e1];exact bk⟩,zE⟩
  |false=>
   by_cases eY:x.id∈g.dr
   ·have e1:=skip (by simp[jT,eY]);simp[h49,ah,ai,Qd,oE,hw,h3,hR3,hRm,b2,eY,Mm,oA];refine⟨by simpa[eY]using hk x.id,aR,⟨i+1,_,rt,ls,zd,zE,rfl,by rw[dx,e1];simp,by rw[dx,e1];exact bk⟩,zE⟩
   have e1:=more (by simp[jT,eY,zy,b1]);obtain⟨rfl,hn,rfl⟩|⟨rfl,hn,rfl⟩:=bk
   ·have hO:O=[]:=zzbc hn;subst hO;simp[h49,ah,ai,Qd,oE,hw,h3,hR3,hRm,b2,eY,Mm,oA,atb,afN];refine⟨by simpa[eY]using hk x.id,aR,⟨i+1,_,_,_,zd,zE,rfl,by rw[dx,e1];simp[Xa];rfl,by rw[dx,e1];exact .inr ⟨rfl,zd,zd⟩⟩,zE⟩
   simp[h49,ah,ai,Qd,oE,hw,h3,hR3,hRm,b2,eY,Mm,oA,afN];refine⟨by simpa[eY]using hk x.id,⟨?_,zE⟩,aR,⟨i+1,_,_,_,zd,zE,rfl,by rw[dx,e1];simp[Xa];rfl,by rw[dx,e1];exact .inr ⟨rfl,zd,zd⟩⟩,zE⟩
   ·rintro row (⟨a,_,rfl⟩|rfl)<;>rfl
 have hbf:q.ens.take i=q.ens:=zzal bu;rw[hbf]at oA bk;have bU:¬(i:Int)<(q.ens.length:Int):=zE
 simp[h49,bU,oE];refine hQ _ _ rt ls (fun k h1 h2=>?_) (by simp[oA]) bk;have:k=0\/k=1\/k=2\/k=3\/k=4\/k=5\/k=6\/k=7\/k=8\/k=9\/k=10\/k=11\/k=13:=zE
 rcases this with rfl|rfl|rfl|rfl|rfl|rfl|rfl|rfl|rfl|rfl|rfl|rfl|rfl<;>simp
def oe(g:Pg)(f:Int)(b:QP)(o:Od)(q:Pl)(d:Int):Option bJ:=match Jf g f b with
 |none=>none
 |some e=>match iH g f o q d e with
  |none=>none
  |some F=>if F=0 then none else some ⟨e.id,e.it,f,F,e.i+(f-e.st),rT q f e.it F q.rg.toNat,jQ q f e.id F ((Zf e.id q.ens).getD yt).al,decide (jQ q f e.id F ((Zf e.id q.ens).getD yt).al=[])⟩
def nl0(e:bJ):bJ:={e with nl:=false}
def Jc(g:Pg)(f:Int)(b:QP)(o:Od)(q:Pl)(d:Int):List bJ:=(Yh f g.ev).map nl0++(oe g f b o q d).toList
def Jn(g:Pg)(f:Int)(b:QP)(o:Od)(q:Pl)(d:Int):Int:=match oe g f b o q d with
 |none=>f
 |some e=>f+e.fr
def ql(g:Pg)(f:Int)(b:QP)(o:Od)(q:Pl)(d:Int):List Ad:=RR (Jc g f b o q d) (Jn g f b o q d)
def mM(g:Pg)(f:Int)(b:QP)(o:Od)(q:Pl)(d:Int):List Bool:=Ko q (Jn g f b o q d) (ql g f b o q d) (Jl g b q.ens)
def Yd(g:Pg)(f:Int)(b:QP)(o:Od)(q:Pl)(d:Int):List Sp:=(Yo q (Jn g f b o q d) (ql g f b o q d) (Xc true (Jl g b q.ens) (mM g f b o q d))).getD []
def Wu(g:Pg)(f:Int)(b:QP)(o:Od)(q:Pl)(d:Int):P2:=Xc false (Jl g b q.ens) (mM g f b o q d)
def Mn(g:Pg)(f:Int)(b:QP)(o:Od)(q:Pl)(d:Int):List bJ:=iG q (Yd g f b o q d) (Jn g f b o q d)
def HO(l:List Sp):I3 l=.sl (uk l) (l.map Qe):=by
 unfold I3 uk;split
 ·rename_i h;rw[h];rfl
 rfl
def afO(l:P2):HI l=.sl (uk l) (l.map Xa):=by
 unfold HI uk;split
 ·rename_i h;rw[h];rfl
 rfl
def yI(l:List bJ):(l.map nl0).map Zt=l.map Qf:=by
 rw[zzdc];exact zzde fun e _=>rfl
def BW(l:List bJ):(l.map nl0).map Qf=l.map Qf:=by
 rw[zzdc];exact zzde fun e _=>rfl
def OT(g:Pg)(past:List Ad)(L:List Sp)(D:P2)(bl:List bJ):X1:=fun dst fn l=>
 if fn=112 then .sl .ro (past.map Vj)else if fn=111 then .aQ [.sl (uk L) (L.map Qe),.sl (uk D) (D.map Xa)]else if fn=51 then .sl .ro (bl.map Qf)
 else if fn=110 then(match l with|[_,.int _ id]=>.bool (decide (id∈g.dr))|_=>.junk)else if fn=999999 then(if dst=95\/dst=97 then .aL 0 []else .junk)else .gd false .junk
structure HP (g:Pg) (f:Int) (b:QP) (o:Od) (q:Pl) (d:Int):Prop where
 mo:lR g f
 pl:BI q
 pk:PlK q
 d0:0<=d/\d<=1000000000
 rg:0<=q.rg/\q.rg<=8
 f0:0<=f/\f<=1000000
 ev:g.ev.length<=2000
 dr:g.dr.length<=1000000
 ln:q.ln<=1000000
 cu:∀e,oe g f b o q d=some e->Ki e
 en:0<=Jn g f b o q d/\Jn g f b o q d<=1000000
 st:∀s∈Yd g f b o q d,-1000000000<=s.2/\s.2<=1000000000
def lz{g:Pg}{f:Int}{b:QP}{o:Od}{q:Pl}{d:Int}(h:HP g f b o q d):(Jc g f b o q d).length<=2001/\∀e∈Jc g f b o q d,Ki e:=by
 have h1:=Qdj f g.ev;have h2:=nZ f h.f0.2 g.ev h.mo.2.1;refine⟨?_,fun e he=>?_⟩
 ·have:=h.ev;have h3:(oe g f b o q d).toList.length<=1:=by cases oe g f b o q d<;>simp
  simp only[Jc,zzah,zzbu];omega
 rcases zzap.1 he with he|he
 ·obtain⟨x,hx,rfl⟩:=zzbh.1 he;exact h2 x hx
 exact h.cu e (by cases hc:oe g f b o q d with
  |none=>rw[hc]at he;simp at he
  |some x=>rw[hc]at he;simp at he;rw[he])
def aas{g:Pg}{f:Int}{b:QP}{o:Od}{q:Pl}{d:Int}(h:HP g f b o q d):(ql g f b o q d).length<=2001:=by
 have h1:=HD (Yh (Jn g f b o q d) (Jc g f b o q d)) none [];have h2:=Qdj (Jn g f b o q d) (Jc g f b o q d);have h3:=(lz h).1;simp only[zzcd]at h1;unfold ql RR;omega
def afP{g:Pg}{f:Int}{b:QP}{o:Od}{q:Pl}{d:Int}(h:HP g f b o q d)(ce:Rt):Pure Tryz.prog aD 112 [.sl ce ((Jc g f b o q d).map Zt),I (Jn g f b o q d)] (.sl .ro ((ql g f b o q d).map Vj)):=
 Xp (Mf (Jc g f b o q d) (Jn g f b o q d) (by have:=(lz h).1;omega) (lz h).2 h.en) ⟨Wk.trans (Wk.sl _ _) (LF _),Pa,trivial⟩
def afQ{g:Pg}{f:Int}{b:QP}{o:Od}{q:Pl}{d:Int}(h:HP g f b o q d)(ci:Rt):
  Pure Tryz.prog aD 111 [.agg (Qa q),.sl ci ((Jl g b q.ens).map Xa),I (Jn g f b o q d),.sl .ro ((ql g f b o q d).map Vj)] (.aQ [.sl (uk (Yd g f b o q d)) ((Yd g f b o q d).map Qe),.sl (uk (Wu g f b o q d)) ((Wu g f b o q d).map Xa)]):=by
 have h1:=jU g b q.ens;have h2:=h.pk.ens;have h3:=h.en;have:=aal h.pk (at_:=Jn g f b o q d) (by unfold amK;omega) (past:=ql g f b o q d) (by have:=aas h;omega) (ids:=Jl g b q.ens) zE;rw[R2,HO,afO]at this;exact Xp this ⟨Pa,Wk.sl _ _,Pa,Pa,trivial⟩
def amP{g:Pg}{f:Int}{b:QP}{o:Od}{q:Pl}{d:Int}(h:HP g f b o q d)(hl:(Yd g f b o q d).length<=1000000)(rL:Rt):
  Pure Tryz.prog aD 51 [.agg (Qa q),.sl rL ((Yd g f b o q d).map Qe),I (Jn g f b o q d)] (.sl .ro ((Mn g f b o q d).map Qf)):=by
 obtain⟨q1,q2,q3,q4,q5,q6⟩:=h.pl;exact Xp (tc q (Yd g f b o q d) (Jn g f b o q d) zE zE zE zE q6 h.ln hl h.st) ⟨Pa,Wk.sl _ _,Pa,trivial⟩
def D8(ex gN:X2)(a b c X:PQ):Qg (a::b::c::(ex++(gN++[X]))) (ex.length+(gN.length+3))=X:=by
 refine Qv ?_;have:a::b::c::(ex++(gN++[X]))=([a,b,c]++ex++gN)++[X]:=zd
 rw[this,zzat (by simp;omega),show ex.length+(gN.length+3)-([a,b,c]++ex++gN).length=0 by simp;omega];rfl
def EvW.more{ml:P1}{rt:Rt}{n:Nat}(h:EvW ml rt n)(x:P1):EvW (ml++x) rt n:=by
 obtain h|⟨k,h1,h2⟩:=h
 ·exact .inl h
 exact .inr ⟨k,h1,by rw[zzak (zza.1 h2).1];exact h2⟩
def EvW.cv{ml:P1}{rt:Rt}{n:Nat}(h:EvW ml rt n):∃ce,D6 rt ce:=by
 obtain⟨rfl,_⟩|⟨k,rfl,_⟩:=h
 ·exact⟨_,D6.nil⟩
 exact⟨_,D6.own _ _⟩
def IdR.cv{ml ls:P1}{rt:Rt}{n:Nat}(h:IdR ml ls rt n):∃ci,D6 rt ci:=by
 obtain⟨rfl,_⟩|⟨rfl,_⟩:=h
 ·exact⟨_,D6.nil⟩
 exact⟨_,D6.own _ _⟩
def IdR.ls{ml ls:P1}{rt:Rt}{n:Nat}(h:IdR ml ls rt n):∃x,ls=ml++x:=by
 obtain⟨_,_,rfl⟩|⟨_,_,rfl⟩:=h
 ·exact⟨[],zd⟩
 exact⟨_,rfl⟩
def Sb(Y:YT)(m:AM)(g:Pg)(f:Int)(mid:Nat)(b:QP)(o:Od)(q:Pl)(d:Int)(h:HP g f b o q d)(hb:gm m.boxes mid b)
  (iZ:(Yd g f b o q d).length<=1000000)(eW:(Mn g f b o q d).length<=10000000)(K:UV)
  (
   hK:∀ex ls ke vd,iu m.boxes.length ⟨m.boxes++ex,ls,m.st,m.ln⟩ vd ((dd (Ka (g.dr++Wu g f b o q d))).map Xa)->
   K (.aQ [.sl (.own ke 7) ((Jc g f b o q d).map Zt++(Mn g f b o q d).map Qf),vd]) ⟨m.boxes++ex,ls,m.st,m.ln⟩):
  aA Tryz.prog aD Y 57 [.agg (Qq g f mid),.agg (Qu o),.agg (Qa q++[I d])] m K:=by
 obtain⟨mb,ml,ms,mn⟩:=m;have hB:∀ex,gm (mb++ex) mid b:=fun ex=>⟨by have:=hb.1;simp at this |-;omega,hb.ext ex⟩;have afL:=fun ce=>afP h ce;have aap:=fun ci=>afQ h ci;have X9:=fun rL=>amP h iZ rL
 have hdl:(Wu g f b o q d).length<=1000000:=by
  have h1:=qj false (Jl g b q.ens) (mM g f b o q d);have h2:=jU g b q.ens;have h3:=h.pk.ens;unfold Wu;omega
 have bZ:=(lz h).1;have hL:∀ev,Jc g f b o q d=ev->ev.length<=2001:=fun ev he=>by rw[<- he];exact bZ
 generalize hpast:ql g f b o q d=past at*
 generalize hstart:Yd g f b o q d=L at*
 generalize hdrop:Wu g f b o q d=D at*
 generalize hbld:Mn g f b o q d=bl at*
 have tail:∀(E:R0)(X:X2)(ls:P1)(rte:Rt)(Q:T5),Abs.look E 3=.ptr mb.length 0->Qg (mb++X) mb.length=Qq g f mid->2<X.length->
   Abs.look E 5=.ptr (mb.length+2) 0->Qg (mb++X) (mb.length+2)=Qa q++[I d]->Abs.look E 8=.sl rte ((Jc g f b o q d).map Zt)->EvW ls rte (Jc g f b o q d).length->Abs.look E 9=I (Jn g f b o q d)->
   (∀E' ex Mo ke vd,Abs.look E' 6=.sl (.own ke 7) ((Jc g f b o q d).map Zt++bl.map Qf)->Abs.look E' 7=vd->iu mb.length ⟨mb++ex,Mo,ms,mn⟩ vd ((dd (Ka (g.dr++D))).map Xa)->Q .ret ⟨Zr 103 E',⟨mb++ex,Mo,ms,mn⟩⟩)->
   vc Tryz.prog aD (OT g past L D bl) Y OP ⟨Zr 103 E,⟨mb++X,ls,ms,mn⟩⟩ Q:=by
  intro E X ls rte Q e3 r3 hX e5 r5 e8 hw e9 hQ;refine aar Y _ (by simp[OT]) (by simp[OT]) E (mb++X) ls ms mn g f mid mb.length (mb.length+2) b q d Q (fun d id=>by simp[OT]) e3 (by simp;omega) r3 e5 (by simp;omega) r5 (hB X) h.dr (by have:=h.pk.ens;omega) ?_;intro E' ex rt Mo hE oA aM;obtain⟨ci,hci⟩:=aM.cv;obtain⟨ce,hce⟩:=hw.cv;obtain⟨x,rfl⟩:=aM.ls
  refine aao Y _ (by simp[OT]) (by simp[OT]) (by simp[OT]) (fun _ _=>by simp[OT]) (fun _ _=>by simp[OT]) E' (mb++X++ex) (ls++x) ms mn g f mid mb.length (mb.length+2) q d rte ce rt ci (uk L) (uk D) (Jc g f b o q d) bl (Jn g f b o q d) (Jl g b q.ens) D L past Q
   (fun _ _=>by simp[OT]) (fun _ _=>by simp[OT]) (fun _ _=>by simp[OT]) (afL ce) (aap ci) (X9 _) hce hci (Ml L)
   ((hE 3 zE zE).trans e3) (by simp;omega) ((Qk (by simp;omega)).trans r3) ((hE 5 zE zE).trans e5) (by simp;omega) ((Qk (by simp;omega)).trans r5)
   ((hE 8 zE zE).trans e8) (hw.more x) ((hE 9 zE zE).trans e9) oA h.dr hdl zE eW ?_
  intro E2 gN ls2 ke vd q1 q2 q3;replace q3:=q3.mono (n':=mb.length) zd;rw[zzaz,zzaz]at q3 |-
  exact hQ E2 _ ls2 ke vd q1 q2 q3
 obtain⟨hm,kK,FB,hd0,Oj,hf0,azr,eY,ei,sH,IZ,cc⟩:=h;refine Xh akE (OT g past L D bl) zd ?_;rw[afK];simp[as4,apd,Qq,Qo,Qa,Qu,Qd,Qh,Ql,OT];refine yy Y _ g.ev f zE hm.2.1 hf0 _ fun ex v ls hO=>?_;simp;have hbr:∀l:List bJ,∀a∈l,(Qf a).length=7:=fun _ _ _=>rfl;have azs:(Yh f g.ev).length<=2000:=by have:=Qdj f g.ev;omega
 refine afw Y _ g f mid b o q (.sl .ro (q.ens.map Qd)) .ro d (.inl ⟨.ro,rfl,DX.ro⟩) DX.ro hm (hB _) kK hd0 Oj _ (fun e F he hF dW gN ls2 v2 hO2=>?_) (fun hn gN=>?_)
 ·have dw:oe g f b o q d=some ⟨e.id,e.it,f,F,e.i+(f-e.st),rT q f e.it F q.rg.toNat,jQ q f e.id F ((Zf e.id q.ens).getD yt).al,decide (jQ q f e.id F ((Zf e.id q.ens).getD yt).al=[])⟩:=by
   unfold oe;rw[he];simp only;rw[hF];simp only;rw[if_neg dW]
  have he1:Jn g f b o q d=f+F:=by unfold Jn;rw[dw]
  have hw:IntKind.i64.wrap (f+F)=f+F:=by rw[Qi]<;>omega
  have fJ:(Jc g f b o q d).map Zt=(Yh f g.ev).map Qf++[[I e.id,I e.it,I f,I F,I (e.i+(f-e.st)),I (rT q f e.it F q.rg.toNat),.sl (if jQ q f e.id F ((Zf e.id q.ens).getD yt).al=[]then .nil else .ro) ((jQ q f e.id F ((Zf e.id q.ens).getD yt).al).map Qe)]]:=by
   unfold Jc;rw[dw,zzch,yI];simp[Zt]
  have amQ:(Jc g f b o q d).length=(Yh f g.ev).length+1:=by
   unfold Jc;rw[dw];simp
  rw[fJ,amQ,he1]at tail;rw[fJ]at hK;generalize jQ q f e.id F ((Zf e.id q.ens).getD yt).al=A at*
  obtain⟨rfl,rfl,rfl⟩|⟨hA,rfl,rfl⟩:=hO2
  ·obtain⟨h0,rfl,rfl⟩|⟨h0,rfl,rfl⟩:=hO
   ·rw[h0]at tail hK;simp[zzan,hw,D8 ex gN];refine tail _ _ _ _ _ zd (by simp[Qq,Qo,Qa]) zd zd (by simp[Qa]) (by simp;rfl) (.inr ⟨_,rfl,zd⟩) zd ?_;intro E' iM Mo ke vd q1 q2 q3;have:=hK iM Mo ke vd q3;simp[q1,q2]at this |-
    exact this
   skip
   simp[zzan,hw,D8 ex gN];refine⟨⟨by rintro row (⟨a,_,rfl⟩|rfl)<;>rfl,zE⟩,tail _ _ _ _ _ zd (by simp[Qq,Qo,Qa]) zd zd (by simp[Qa]) (by simp;rfl) (.inr ⟨_,rfl,zd⟩) zd ?_⟩;intro E' iM Mo ke vd q1 q2 q3;have:=hK iM Mo ke vd q3;simp[q1,q2]at this |-
   exact this
  obtain⟨h0,rfl,rfl⟩|⟨h0,rfl,rfl⟩:=hO
  ·rw[h0]at tail hK;simp[zzan,hw,D8 ex gN];refine tail _ _ _ (.own (ls.length+1) 7) _ zd (by simp[Qq,Qo,Qa]) zd zd (by simp[Qa]) (by simp[hA]) (.inr ⟨_,rfl,zd⟩) zd ?_;intro E' iM Mo ke vd q1 q2 q3;have:=hK iM Mo ke vd q3;simp[q1,q2]at this |-
   exact this
  skip
  simp[zzan,hw,D8 ex gN];refine⟨⟨by rintro row (⟨a,_,rfl⟩|rfl)<;>rfl,zE⟩,tail _ _ _ (.own ml.length 7) _ zd (by simp[Qq,Qo,Qa]) zd zd (by simp[Qa]) (by simp[hA]) (.inr ⟨_,rfl,zd⟩) zd ?_⟩;intro E' iM Mo ke vd q1 q2 q3;have:=hK iM Mo ke vd q3;simp[q1,q2]at this |-
  exact this
 have dw:oe g f b o q d=none:=by
  unfold oe;cases hp:Jf g f b with
  |none=>rfl
  |some e=>
   rw[hp]at hn;simp only[zzcw]at hn;obtain hn|hn:=hn
   ·simp only[hn]
   simp only[hn,if_true]
 have he1:Jn g f b o q d=f:=by unfold Jn;rw[dw]
 have fJ:(Jc g f b o q d).map Zt=(Yh f g.ev).map Qf:=by
  unfold Jc;rw[dw,zzch,yI];simp
 have amQ:(Jc g f b o q d).length=(Yh f g.ev).length:=by
  unfold Jc;rw[dw];simp
 rw[fJ,amQ,he1]at tail;rw[fJ]at hK;obtain⟨h0,rfl,rfl⟩|⟨h0,rfl,rfl⟩:=hO
 ·rw[h0]at tail hK;simp[zzan,nV];refine tail _ _ _ .nil _ zd (by simp[Qq,Qo,Qa]) zd zd (by simp[Qa]) zd (.inl ⟨rfl,rfl⟩) zd ?_;intro E' iM Mo ke vd q1 q2 q3;have:=hK iM Mo ke vd q3;simp[q1,q2]at this |-
  exact this
 simp[zzan,nV];refine tail _ _ _ (.own ml.length 7) _ zd (by simp[Qq,Qo,Qa]) zd zd (by simp[Qa]) zd (.inr ⟨_,rfl,zd⟩) zd ?_;intro E' iM Mo ke vd q1 q2 q3;have:=hK iM Mo ke vd q3;simp[q1,q2]at this |-
 exact this
end
