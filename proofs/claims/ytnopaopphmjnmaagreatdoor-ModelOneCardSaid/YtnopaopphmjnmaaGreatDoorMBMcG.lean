import Derived.Test.YtnopaopphmjnmaaGreatDoorMBMbZ
set_option linter.all false
set_option maxRecDepth 100000
set_option maxHeartbeats 64000000
namespace Go.Abs
open Go Go.RowKit
section
variable {N:Nat} {w0:gY} {aq:Nat->Nat->Prop} {γ γ':G} {w w':World} {P:Program} {gl:Nat->AV} {Y:YT}
def RI(m':AM)(γ':G)(n:Nat)(b:Nat):Prop:=∃id,n<=id/\m'.boxes[id]?≠some []/\γ'.β id=some b
def dF(n:Nat)(m':AM)(r r':AV):Prop:=∀(N:Nat)(w0:gY)(aq:Nat->Nat->Prop)(γ' γ2:G)(w':World)(v:Value),au N w0 aq γ' w' m'.B m'.L->aB w' γ' r v->
 (∀b o,γ'.ro b o->γ2.ro b o)->(∀b,RI m' γ' n b->∀o,γ2.ro b o)->aB w' γ2 r' v
def G.frz(γ1 γ':G)(m':AM)(n:Nat):G:={γ1 with ro:=fun b o=>γ1.ro b o\/RI m' γ' n b}
def an.freeze{f:FuncId}{asX:List AV}{m:AM}{K:AV->Prop}(aJ:∀c∈m.boxes,c≠[])(BT:∀c∈m.boxes,KY c)
  (h:an P gl Y f asX m fun r m'=>∃ex exl r',m'={m with boxes:=m.boxes++ex,lens:=m.lens++exl}/\dF m.boxes.length m' r r'/\K r'):an P gl Y f asX m fun r m'=>m'=m/\K r:=by
 refine⟨h.1,fun N w0 aq γ w vs hm hl hg hy hr=>CallsIn.mono (h.2 N w0 aq γ w vs hm hl hg hy hr) ?_⟩;rintro en w' ⟨v,γ',r,m',rfl,g1,g2,g3,g4,ex,exl,r',rfl,g5,g6⟩;have e1:=g1.cR hm
 have m1:au N w0 aq (γ.cR m.lens.length γ') w' m.B m.L:=hm.cR (m1:=m) (mx:=m.boxes) (ex:=ex) (exl:=exl) g2 g1 rfl rfl rfl fun id cells b9 h1 h2=>by
  rw[h1]at h2;cases h2;exact .inl ⟨rfl,h1,BT _ (zzac h1)⟩
 obtain⟨γ1,hγ1⟩:∃γ1,γ1=γ.cR m.lens.length γ':=⟨_,rfl⟩;obtain⟨m',fG⟩:∃m':AM,m'={m with boxes:=m.boxes++ex,lens:=m.lens++exl}:=⟨_,rfl⟩;rw[<- fG]at g2 g3 g5;rw[<- hγ1]at e1 m1
 have hβ:∀{id b},γ1.β id=some b->id<m.boxes.length/\γ'.β id=some b:=fun{id b}h=>by
  rw[hγ1]at h;obtain⟨h1,h2⟩:=Yu h;obtain⟨b0,dO⟩:=zzco.1 h1;obtain⟨_,_,_,_,c,hc⟩:=hm.β id b0 dO;exact⟨(zza.1 hc).1,h2⟩
 have eN:∀{id b},γ1.own id=some b->γ'.own id=some b:=fun{id b}h=>by
  rw[hγ1]at h;have h:(if id<m.lens.length then γ'.own id else none)=some b:=h;split at h
  ·exact h
  cases h
 have dy:γ1.sp=γ'.sp:=by rw[hγ1];rfl
 have hlp:γ1.lp=γ'.lp:=by rw[hγ1];rfl
 have dG:γ1.ro=γ'.ro:=by rw[hγ1];rfl
 have me:∀{id b},γ1.mm id=some b->γ'.mm id=some b:=fun{id b}h=>by rw[hγ1]at h;exact(Qar h).2
 have nβ:∀{b},RI m' γ' m.boxes.length b->∀id,γ1.β id≠some b:=fun{b}⟨j,j1,j2,j3⟩id h=>by
  obtain⟨h1,h2⟩:=hβ h
  have hB:m'.B id=some (m.boxes[id]):=by
   rw[fG];show(m.boxes++ex)[id]?=_;rw[zzah h1,zzad h1]
  rcases g2.inj id j b h2 j3 with k|k|k
  ·rw[hB]at k;exact aJ _ (zzdc h1) (Option.some.inj k)
  ·exact j2 k
  omega
 have awH:∀{b},RI m' γ' m.boxes.length b->∀id,γ'.own id≠some b:=fun{b}⟨j,j1,j2,j3⟩id=>(g2.β j b j3).2.2.2.1 id;have nsp:∀{b},RI m' γ' m.boxes.length b->¬γ'.sp b:=fun{b}⟨j,j1,j2,j3⟩h=>(g2.sp b h).2.2.2.1 j j3;have nmm:∀{b},RI m' γ' m.boxes.length b->∀id,γ'.mm id≠some b:=fun{b}⟨j,j1,j2,j3⟩id h=>(g2.mm id b h).2.2.2.1 j j3
 have ev:Ev w' γ1 w' (γ1.frz γ' m' m.boxes.length):=
  ⟨zzab _,fun _ _ _ h=>⟨.inl h,rfl⟩,fun _ _ h=>h,fun _=>zzab _,fun _ _ h=>h,rfl,
   fun id b _ h=>⟨h,fun arr _ h=>⟨arr,h,zzab _⟩,fun o h'=>h'.elim (fun x=>x) (fun hn=>absurd (eN h) (awH hn id))⟩,fun _ h=>⟨h,rfl⟩,Sz.refl _⟩
 refine⟨v,γ1.frz γ' m' m.boxes.length,r',m,rfl,e1.trans ev.dB,?_,?_,?_,rfl,g6⟩
 ·exact{
   bs:=w0.st _ _ _ _ g2.bs ⟨rfl,rfl,rfl,zzab _,fun _ _ _=>rfl,fun b o _ h=>⟨.inl (by rw[dG];exact h),rfl⟩,fun b hb=>.inl (by
     obtain⟨i,hi⟩|⟨i,hi⟩|hb|⟨i,hi⟩:=hb
     ·exact .inl ⟨i,(hβ hi).2⟩
     ·exact .inr (.inl ⟨i,eN hi⟩)
     ·exact .inr (.inr (.inl (by rw[<- dy];exact hb)))
     ·exact .inr (.inr (.inr ⟨i,me hi⟩))),fun b o h=>by
     obtain h|⟨j,j1,j2,j3⟩:=h
     ·exact .inl (by rw[<- dG];exact h)
     exact .inr (.inl (.inl ⟨j,j3⟩))⟩
   hN:=m1.hN
   aq:=fun b o h=>by
    obtain h|⟨j,j1,j2,j3⟩:=h
    ·exact m1.aq b o h
    exact .inr (g2.β j b j3).1
   robd:=fun b o h=>by
    obtain h|⟨j,j1,j2,j3⟩:=h
    ·exact m1.robd b o h
    exact(g2.β j b j3).2.1
   box:=fun id cells b hb h1=>by
    obtain⟨arr,e,h2,h3,h4⟩:=m1.box id cells b hb h1;exact⟨arr,e,h2,h3.mono ev,h4⟩
   β:=fun id b hb=>by
    obtain⟨h1,h2,h3,h4,h5⟩:=m1.β id b hb;exact⟨h1,h2,fun o h=>h.elim (h3 o) (fun hn=>nβ hn id hb),h4,h5⟩
   inj:=m1.inj
   own:=m1.own
   oinj:=m1.oinj
   sp:=fun b hb=>by
    obtain⟨h1,h2,h3,h4⟩:=m1.sp b hb;exact⟨h1,h2,fun o h=>h.elim (h3 o) (fun hn=>nsp hn (by rw[<- dy];exact hb)),h4⟩
   mm:=fun id b hb=>by
    obtain⟨h1,h2,h3,h4,h5,h6,h8,h7⟩:=m1.mm id b hb;exact⟨h1,h2,fun o h=>h.elim (h3 o) (fun hn=>nmm hn id (me hb)),h4,h5,h6,h8,h7.mono ev.dB.DL rfl⟩
   minj:=m1.minj
   len:=m1.len
   cur0:=m1.cur0}
 ·have g3':cQ γ1 w' m:=by
   rw[fG]at g3;unfold cQ at g3 |-
   rw[hlp,dy];exact g3
  exact g3'.mono ev
 exact g5 N w0 aq γ' _ w' v g2 g4 (fun b o h=>.inl (by rw[dG];exact h)) fun b hb o=>.inr hb
variable {n:Nat} {m':AM}
def dF.bool(b:Bool):dF n m' (.bool b) (.bool b):=fun _ _ _ _ _ _ _ _ h _ _=>by rw[h.bA];exact .bool b
def dF.int(k:IntKind)(z:Int):dF n m' (.int k z) (.int k z):=fun _ _ _ _ _ _ _ _ h _ _=>by rw[h.aG];exact .int k z
def dF.agg{cs ds:List AV}(hl:cs.length=ds.length)(h:∀(i:Nat)(c d:AV),cs[i]?=some c->ds[i]?=some d->dF n m' c d):dF n m' (.agg cs) (.agg ds):=fun N w0 aq γ' γ2 w' v hm hr h1 h2=>by
 cases hr with
 |@agg _ _ arr kl k=>
  refine .agg (by omega) fun i d u hd hu=>?_;have hi:i<cs.length:=by have:=(zza.1 hd).1;omega
  exact h i cs[i] d (zzad hi) hd N w0 aq γ' γ2 w' u hm (k i cs[i] u (zzad hi) hu) h1 h2
def dF.aV{cs ds:List AV}(hl:cs.length=ds.length)(h:∀(i:Nat)(c d:AV),cs[i]?=some c->ds[i]?=some d->dF n m' c d):dF n m' (.aV cs) (.aV ds):=fun N w0 aq γ' γ2 w' v hm hr h1 h2=>by
 cases hr with
 |@aV _ _ arr kl k=>
  refine .aV (by omega) fun i d u hd hu=>?_;have hi:i<cs.length:=by have:=(zza.1 hd).1;omega
  exact h i cs[i] d (zzad hi) hd N w0 aq γ' γ2 w' u hm (k i cs[i] u (zzad hi) hu) h1 h2
def ZV{γ' γ2:G}{w':World}(h1:∀b o,γ'.ro b o->γ2.ro b o){a:AV}{v:Value}(h:aB w' γ'.cT a v):aB w' γ2.cT a v:=
 h.mono ⟨zzab _,fun b o _ h=>⟨h1 b o h,rfl⟩,fun _ _ h=>(by cases h),fun _=>zzab _,fun _ _ h=>(by cases h),rfl,fun _ _ _ h=>(by cases h),fun _ h=>h.elim,Sz.refl w'⟩
def dF.sl(rt:Rt)(rows:List (List AV)):dF n m' (.sl rt rows) (.sl .ro rows):=fun N w0 aq γ' γ2 w' v hm hr h1 h2=>by
 cases hr with
 |sl b off sz cv hcap hnil ha hsz hc h aT=>
  exact .sl b off sz cv hcap hnil ha hsz (fun i j c q=>⟨(hc i j c q).1,h1 _ _ (hc i j c q).2.1,(hc i j c q).2.2⟩) (fun i j c q=>ZV h1 (h i j c q)) trivial
def dF.bs{k len sz:Nat}{cells:List AV}(hn:n<=k)(hk:m'.boxes[k]?=some cells)(aJ:cells≠[])(bT:Zg cells=true)(hl:len*sz<=cells.length):dF n m' (.bs k 0 len sz) (.sl .ro (aU sz len cells)):=fun N w0 aq γ' γ2 w' v hm hr h1 h2=>by
 obtain⟨b,cap,arr,JK,hβ,rfl,hlc,hh,hs⟩:=hr.cL;obtain⟨bR,e',q2,q3,q4⟩:=hm.box k cells b hk hβ;rw[hh]at q2;cases q2;have hsz:=q3.1;simp only[zzbh]at hsz;have aH:(aU sz len cells).length=len:=by rw[Wz];simp
 have dY:∀row∈aU sz len cells,row.length=sz:=fun row aa=>by
  rw[Wz]at aa;simp only[zzay,zzbf]at aa;obtain⟨i,hi,rfl⟩:=aa;have:(i+1)*sz<=len*sz:=zzb _ hi;rw[zzbo,zzdj]at this;simp only[zzaq,zzcn];omega
 have nW:∀(i j:Nat)(c:AV),Qt (aU sz len cells) i j=some c->∃u,cells[i*sz+j]?=some c/\arr[i*sz+j]?=some u/\arr.getD (i*sz+j) undef=u/\aB w' γ' c u:=fun i j c h=>by
  rw[Wz]at h;unfold Qt at h;rcases zzaa i len with hi|hi
  ·rw[zzbp,zzec hi]at h;simp only[zzcr,zzcz]at h;rw[zzbi]at h;split at h
   ·rw[zzbj]at h;have ai:=(zza.1 h).1;exact⟨arr[i*sz+j],h,zzaj (by omega),by simp[show i*sz+j<arr.size by omega],q3.2 _ _ _ h (by simp[show i*sz+j<arr.size by omega])⟩
   cases h
  rw[zzbp,zzax (by simpa using hi)]at h;cases h
 have hB:∀id cells,m'.boxes[id]?=some cells->m'.B id=some cells:=fun _ _ h=>h;have amP:∀o,γ2.ro b o:=h2 b ⟨k,hn,by rw[hk];intro h;exact aJ (Option.some.inj h),hβ⟩
 have:=aB.sl (w:=w') (γ:=γ2) (rt:=.ro) (rows:=aU sz len cells) (a:=some ⟨b,0,none⟩) (cap:=cap) b 0 sz (fun i j=>arr.getD (i*sz+j) undef) (by rw[aH];exact hlc) (fun h=>by cases h) (fun _=>⟨rfl,aS hh⟩) dY
  (
   fun i j c h=>by
   obtain⟨u,c1,c2,c3,c4⟩:=nW i j c h;rw[zzbt,aL hh,c2,c3];exact⟨rfl,amP _,q4 u (by rw[<- c3];simp[show i*sz+j<arr.size from(zzbu.1 c2).1])⟩)
  (
   fun i j c h=>by
   obtain⟨u,c1,c2,c3,c4⟩:=nW i j c h;rw[c3];have fh:Fj c=true:=zzbg.1 bT c (zzac c1);have:=j8 hm (m:=m') hB (ro':=γ2.ro) h1 1 c u c4 (fun hp=>by cases c<;>simp_all[Fj,Yc]);rw[NO m' 0 fh]at this;exact this) trivial
 rw[aH]at this;exact this
end
end Go.Abs
namespace Go.Proofs.YtnopaopphmjnmaaGreatDoor
open Go Go.Abs
def sH(g:Pg)(f:Int)(b:List (Int×Bool))(o:Od):Option (Pl×Int):=
 if o.ki=1 then rf g f b o else if o.ki=2 then(xK g o).map fun q=>(q,0)else if o.ki=3 then some (nR g f b o,0)else some (C9 g o,0)
def Df(g:Pg)(f:Int)(b:List (Int×Bool))(o:Od)(q:Pl)(d:Int):Bool:=
 if o.ki=1 then Qbr g f b o q d else if o.ki=2 then !(C5 g f b o.en)else if o.ki=3 then pM g o else true
def Dg(g:Pg)(f:Int)(b:List (Int×Bool))(o:Od):Option (Pl×Int):=
 if g.p.ln<=f then none else match sH g f b o with
 |none=>none
 |some (q,d)=>if(sy q&&Df g f b o q d)=true then some (q,d)else none
def afI(g:Pg)(f:Int)(b:List (Int×Bool))(o:Od)(e:En):sF (tJ g f b o e):=by
 unfold tJ;cases A6 g f b o.en with
 |none=>exact Qdh _
 |some st=>
  have h1:=Qdh (e.fr+o.n);have h2:=Qdh (f-st);simp only;first|exact Qdh _|(split<;>assumption)|(unfold sF at*;omega)
structure PlB (q:Pl):Prop where
 sh:q.sh.length<=1000000
 aM:q.aM.length<=1000000
 ens:q.ens.length<=1000001
 bks:q.bks.length<=1000000
 cls:q.cls.length<=1000001
 als:∀e∈q.ens,e.al.length<=8796093022208
def xW{g:Pg}{f:Int}{b:List (Int×Bool)}{o:Od}{q:Pl}{d:Int}(hp:A3 g.p)(ho:o.nw.al.length<=8796093022208)(h:sH g f b o=some (q,d)):PlB q/\q.ln=g.p.ln/\sF d:=by
 obtain⟨h1,h2,h3,h4,h5,h6⟩:=hp;unfold sH at h;have j0:sF 0:=by unfold sF;omega
 split at h
 ·unfold rf at h;split at h
  ·cases h
  rename_i e he;split at h
  ·cases h
  cases h;refine⟨⟨h1,h2,by simp;omega,h4,by show g.p.cls.length<=_;omega,fun x hx=>?_⟩,rfl,afI _ _ _ _ _⟩;rcases zzgi hx with hx|rfl
  ·exact h6 x hx
  exact h6 e (zzac he)
 split at h
 ·unfold xK at h;split at h
  ·cases h
  cases h;exact⟨⟨h1,h2,by have:=zzbn (fun e=>!mC o.en e) g.p.ens;simp only;omega,h4,by show g.p.cls.length<=_;omega,fun x hx=>h6 x (zzcx.1 hx).1⟩,rfl,j0⟩
 split at h
 ·cases h;refine⟨⟨h1,h2,by simp only[nR,zzag,zzaq,zzba,zzcn];omega,h4,by show g.p.cls.length<=_;omega,fun x hx=>?_⟩,rfl,j0⟩;simp only[nR,zzal,zzau]at hx;obtain hx|rfl|hx:=hx
  ·exact h6 x (zzbx hx)
  ·exact ho
  exact h6 x (zzdk hx)
 cases h;exact⟨⟨h1,h2,by show g.p.ens.length<=_;omega,h4,by simp only[C9,zzag,zzba,zzcf];omega,h6⟩,rfl,j0⟩
def PlB.S{q:Pl}(h:PlB q):PlS q:=⟨by have:=h.sh;omega,by have:=h.aM;omega,by have:=h.ens;omega,by have:=h.bks;omega,by have:=h.cls;omega,h.als⟩
def GZ(q?:Option (Pl×Int)):Nat->FuncId->List AV->AV:=fun _ f _=>if f=120 then(match q? with|some (q,_)=>.bool (sy q)|none=>.junk)else .gd false .junk
def mD.put{mb:List (List AV)}{a b c c':List AV}{ex:List (List AV)}{V:AV}{l:List En}(h:mD (mb++(a::b::c::ex)) V l)(hk:GM (mb.length+3) V)(dL:List (List AV)):mD (mb++(a::b::c'::(ex++dL))) V l:=by
 obtain h|⟨k,z,rfl,h2,h3,h4⟩:=h
 ·exact .inl h
 have cc:=hk _ _ _ _ rfl;obtain⟨j,rfl⟩:∃j,k=mb.length+(j+3):=⟨k-mb.length-3,by omega⟩;have hg:=Yz h2;rw[h3,zzap (by omega),zzdm]at hg;simp only[zzdh]at hg;have hj:=(zza.1 hg).1;refine .inr ⟨_,z,rfl,by simp at h2 |-;omega,Qs ?_,h4⟩;rw[zzap (by omega),zzdm];simp only[zzdh];rw[zzah hj,hg]
structure afJ (g:Pg) (f:Int) (o:Od):Prop where
 mo:f<g.p.ln->lP g f
 pl:A3 g.p
 f0:0<=f
 ln:g.p.ln<=1000000
 n:sF o.n
 fr:∀e∈g.p.ens,sF e.fr
 dr:g.dr.length<=1000000000
 al:o.nw.al.length<=8796093022208
def LG(Y:YT)(m:AM)(g:Pg)(f:Int)(mid:Nat)(b:List (Int×Bool))(o:Od)(h:afJ g f o)(hb:fS m.boxes mid b)(K:AV->AM->Prop)
  (h0:Dg g f b o=none->∀ex ls,K (.aV [.agg um,.bool false]) {m with boxes:=m.boxes++ex,lens:=m.lens++ls})
  (h1:∀q d,Dg g f b o=some (q,d)->∀ex V rt ls,mD (m.boxes++ex) V q.ens->GM m.boxes.length V->C8 rt->K (.aV [.agg (Xp q V (.sl rt (q.cls.map Qg)) d),.bool true]) {m with boxes:=m.boxes++ex,lens:=m.lens++ls}):
  an Tryz.prog az Y 71 [.agg (Qu g f mid),.agg (Qq o)] m K:=by
 obtain⟨mb,ml,ms,mn⟩:=m;obtain⟨hm,hp,hf0,dm,hn,wD,dX,ho⟩:=h;have hB:∀ex,fS (mb++ex) mid b:=fun ex=>⟨by have:=hb.1;simp at this |-;omega,hb.ext ex⟩;by_cases Aw:g.p.ln<=f
 ·have h0:=h0 (by unfold Dg;rw[if_pos Aw]);refine Xd Tp (fun _ _ _=>.gd false .junk) (by simp) ?_;simp[Pr,Pt,Qu,Qo,Qc,Qq,Qd,Qg,Qk,Aw];have:=fun ex=>h0 ex [];simp[um]at this;exact this _
 have hm:=hm (by omega);have NG:sF g.p.ln:=by unfold sF;omega
 have e1:Dg g f b o=match sH g f b o with
  |none=>none
  |some (q,d)=>if(sy q&&Df g f b o q d)=true then some (q,d)else none:=by unfold Dg;rw[if_neg Aw]
 have key:∃fb fm:FuncId,((o.ki=1/\fb=137/\fm=138)\/(o.ki=2/\fb=139/\fm=140)\/(o.ki=3/\fb=141/\fm=142)\/(¬o.ki=1/\¬o.ki=2/\¬o.ki=3/\fb=135/\fm=136))/\
   (
    ∀(ex:List (List AV))(K:AV->AM->Prop),(sH g f b o=none->∀gT,K (.aV [.agg um,.bool false]) ⟨mb++(ex++gT),ml,ms,mn⟩)->
    (∀q d,sH g f b o=some (q,d)->∀gT V rt ls,mD (mb++(ex++gT)) V q.ens->GM (mb++ex).length V->C8 rt->K (.aV [.agg (Xp q V (.sl rt (q.cls.map Qg)) d),.bool true]) ⟨mb++(ex++gT),ml++ls,ms,mn⟩)->
    an Tryz.prog az Y fb [.agg (Qu g f mid),.agg (Qq o)] ⟨mb++ex,ml,ms,mn⟩ K)/\
   (
    ∀(ex:List (List AV))(ls:List Nat)(q:Pl)(d:Int)(V:AV)(rt:Rt)(K:AV->AM->Prop),sH g f b o=some (q,d)->mD (mb++ex) V q.ens->C8 rt->K (.bool (Df g f b o q d)) ⟨mb++ex,ml++ls,ms,mn⟩->
    an Tryz.prog az Y fm [.agg (Qu g f mid),.agg (Qq o),.agg (Xp q V (.sl rt (q.cls.map Qg)) d)] ⟨mb++ex,ml++ls,ms,mn⟩ K):=by
  by_cases k1:o.ki=1
  ·refine⟨137,138,.inl ⟨k1,rfl,rfl⟩,fun ex K q0 q1=>?_,fun ex ls q d V rt K hq hV aT hK=>?_⟩
   ·have iT:sH g f b o=rf g f b o:=by unfold sH;rw[if_pos k1]
    refine aft Y ⟨mb++ex,ml,ms,mn⟩ g f mid b o hm hp (hB ex) hn NG wD K (fun hx gT=>?_) (fun q d hx gT k V4 hk hr=>?_)
    ·have:=q0 (by rw[iT];exact hx) gT;simpa using this
    have:=q1 q d (by rw[iT];exact hx) gT (.bs k 0 q.ens.length 7) .ro [] (.inr ⟨k,[],rfl,by simpa using hk,by simpa[eG]using hr,rfl⟩) (GM.bs V4) C8.ro;simpa using this
   have Dh:Df g f b o q d=Qbr g f b o q d:=by unfold Df;rw[if_pos k1]
   obtain⟨S7,hql,hqd⟩:=xW hp ho hq
   have hqe:q.ens.length=g.p.ens.length/\q.cls=g.p.cls:=by
    have iT:sH g f b o=rf g f b o:=by unfold sH;rw[if_pos k1]
    rw[iT]at hq;unfold rf at hq;split at hq
    ·cases hq
    split at hq
    ·cases hq
    cases hq;exact⟨by simp,rfl⟩
   refine an.mono (Lw Y ⟨mb++ex,ml++ls,ms,mn⟩ g f mid b o q V rt d hV aT hm (hB ex) dX ⟨S7.sh,S7.aM,by rw[hqe.1];exact hp.2.2.1,S7.bks,by rw[hqe.2];exact hp.2.2.2.2.1,S7.als⟩ (by omega) hqd) ?_;rintro r m' ⟨rfl,rfl⟩;rw[<- Dh];exact hK
  by_cases k2:o.ki=2
  ·refine⟨139,140,.inr (.inl ⟨k2,rfl,rfl⟩),fun ex K q0 q1=>?_,fun ex ls q d V rt K hq hV aT hK=>?_⟩
   ·have iT:sH g f b o=(xK g o).map fun q=>(q,0):=by unfold sH;rw[if_neg k1,if_pos k2]
    refine ZH Y ⟨mb++ex,ml,ms,mn⟩ g f mid o hm hp K (fun hx gT=>?_) (fun q hx gT k z V4 hk hr hz=>?_)
    ·have:=q0 (by rw[iT,hx];rfl) gT;simpa using this
    have:=q1 q 0 (by rw[iT,hx];rfl) gT (.bs k 0 q.ens.length 7) .ro [] (.inr ⟨k,z,rfl,by simpa using hk,by simpa using hr,hz⟩) (GM.bs V4) C8.ro;simpa using this
   have Dh:Df g f b o q d=!(C5 g f b o.en):=by unfold Df;rw[if_neg k1,if_pos k2]
   refine an.mono (GN Y ⟨mb++ex,ml++ls,ms,mn⟩ g f mid b o q V rt d hV hm (hB ex)) ?_;rintro r m' ⟨rfl,rfl⟩;rw[<- Dh];exact hK
  by_cases k3:o.ki=3
  ·refine⟨141,142,.inr (.inr (.inl ⟨k3,rfl,rfl⟩)),fun ex K q0 q1=>?_,fun ex ls q d V rt K hq hV aT hK=>?_⟩
   ·have iT:sH g f b o=some (nR g f b o,0):=by unfold sH;rw[if_neg k1,if_neg k2,if_pos k3]
    refine LD Y ⟨mb++ex,ml,ms,mn⟩ g f mid b o hp (hB ex) ho K (fun gT V ls hV LH=>?_);have:=q1 _ 0 iT gT V .ro ls (by simpa using hV) LH C8.ro;simpa[nR]using this
   have Dh:Df g f b o q d=pM g o:=by unfold Df;rw[if_neg k1,if_neg k2,if_pos k3]
   refine an.mono (Lv Y ⟨mb++ex,ml++ls,ms,mn⟩ g f mid o q V rt d hV hm dX) ?_;rintro r m' ⟨rfl,rfl⟩;rw[<- Dh];exact hK
  refine⟨135,136,.inr (.inr (.inr ⟨k1,k2,k3,rfl,rfl⟩)),fun ex K q0 q1=>?_,fun ex ls q d V rt K hq hV aT hK=>?_⟩
  ·have iT:sH g f b o=some (C9 g o,0):=by unfold sH;rw[if_neg k1,if_neg k2,if_neg k3]
   refine ZJ Y ⟨mb++ex,ml,ms,mn⟩ g f mid o hp K (fun gT V hV LH=>?_);have:=q1 _ 0 iT gT V (.own ml.length 8) [g.p.cls.length+1] (by simpa[C9]using hV) LH (C8.own _ _);simpa using this
  have Dh:Df g f b o q d=true:=by unfold Df;rw[if_neg k1,if_neg k2,if_neg k3]
  refine an.mono (Lt Y ⟨mb++ex,ml++ls,ms,mn⟩ g f mid o q V rt d hV) ?_;rintro r m' ⟨rfl,rfl⟩;rw[<- Dh];exact hK
 obtain⟨fb,fm,hk,kb,km⟩:=key;simp only[Qu,Qo,Qc,Qq,Qd,Qg,Qk,zzae,zzai]at kb km;refine Xd Tp (GZ (sH g f b o)) (by simp) ?_;obtain⟨k1,rfl,rfl⟩|⟨k1,rfl,rfl⟩|⟨k1,rfl,rfl⟩|⟨k1,k2,k3,rfl,rfl⟩:=hk
 ·simp[Pr,Pt,Qu,Qo,Qc,Qq,Qd,Qg,Qk,Aw,k1,GZ];rw[k1]at kb km;refine kb _ _ (fun hbn gT=>?_) (fun q d ic gT V rt ls hV LH aT=>?_)
  ·have h0:=fun ex=>h0 (by rw[e1,hbn]) ex [];simp[um,zzao];simp[um]at h0;exact h0 _
  have hc:=hV.cell;have fu:=fun ex ml d=>hV.bF ex ml ms mn d;have hE:=fun dL=>hV.ext dL;simp only[zzbc,zzae,zzai]at fu hE;have Iu:=fun m d x=>aT m d x;obtain⟨S7,hql,hqd⟩:=xW hp ho ic;have kv:=Wp q S7.S;simp only[Qc]at kv;have km:=fun ex K hV hK=>km ex ls q d V rt K ic hV aT hK;simp only[Xp]at km;cases jQ:sy q with
  |false=>
   rw[jQ]at kv;have h0:=fun ex=>h0 (by rw[e1,ic];simp[jQ]) ex ls;simp[Xp,ic,jQ,zzao,hc,fu,Iu];simp[um]at h0;exact⟨kv,h0 _⟩
  |true=>
   rw[jQ]at kv;simp[Xp,ic,jQ,zzao,hc,fu,Iu];refine⟨kv,km _ _ (hE _) ?_⟩;cases Dh:Df g f b o q d with
   |false=>
    have h0:=fun ex=>h0 (by rw[e1,ic];simp[jQ,Dh]) ex ls;simp[zzao];simp[um]at h0;exact h0 _
   |true=>
    have h1:=fun ex hV hk=>h1 q d (by rw[e1,ic];simp[jQ,Dh]) ex V rt ls hV hk aT;simp[zzao,hc];simp only[Xp]at h1;refine h1 _ ?_ (fun k o l s e=>by have:=LH k o l s e;simp at this;omega);exact mD.put (by simpa using hE []) (by simpa using LH) _
 ·simp[Pr,Pt,Qu,Qo,Qc,Qq,Qd,Qg,Qk,Aw,k1,GZ];rw[k1]at kb km;refine kb _ _ (fun hbn gT=>?_) (fun q d ic gT V rt ls hV LH aT=>?_)
  ·have h0:=fun ex=>h0 (by rw[e1,hbn]) ex [];simp[um,zzao];simp[um]at h0;exact h0 _
  have hc:=hV.cell;have fu:=fun ex ml d=>hV.bF ex ml ms mn d;have hE:=fun dL=>hV.ext dL;simp only[zzbc,zzae,zzai]at fu hE;have Iu:=fun m d x=>aT m d x;obtain⟨S7,hql,hqd⟩:=xW hp ho ic;have kv:=Wp q S7.S;simp only[Qc]at kv;have km:=fun ex K hV hK=>km ex ls q d V rt K ic hV aT hK;simp only[Xp]at km;cases jQ:sy q with
  |false=>
   rw[jQ]at kv;have h0:=fun ex=>h0 (by rw[e1,ic];simp[jQ]) ex ls;simp[Xp,ic,jQ,zzao,hc,fu,Iu];simp[um]at h0;exact⟨kv,h0 _⟩
  |true=>
   rw[jQ]at kv;simp[Xp,ic,jQ,zzao,hc,fu,Iu];refine⟨kv,km _ _ (hE _) ?_⟩;cases Dh:Df g f b o q d with
   |false=>
    have h0:=fun ex=>h0 (by rw[e1,ic];simp[jQ,Dh]) ex ls;simp[zzao];simp[um]at h0;exact h0 _
   |true=>
    have h1:=fun ex hV hk=>h1 q d (by rw[e1,ic];simp[jQ,Dh]) ex V rt ls hV hk aT;simp[zzao,hc];simp only[Xp]at h1;refine h1 _ ?_ (fun k o l s e=>by have:=LH k o l s e;simp at this;omega);exact mD.put (by simpa using hE []) (by simpa using LH) _
 ·simp[Pr,Pt,Qu,Qo,Qc,Qq,Qd,Qg,Qk,Aw,k1,GZ];rw[k1]at kb km;refine kb _ _ (fun hbn gT=>?_) (fun q d ic gT V rt ls hV LH aT=>?_)
  ·have h0:=fun ex=>h0 (by rw[e1,hbn]) ex [];simp[um,zzao];simp[um]at h0;exact h0 _
  have hc:=hV.cell;have fu:=fun ex ml d=>hV.bF ex ml ms mn d;have hE:=fun dL=>hV.ext dL;simp only[zzbc,zzae,zzai]at fu hE;have Iu:=fun m d x=>aT m d x;obtain⟨S7,hql,hqd⟩:=xW hp ho ic;have kv:=Wp q S7.S;simp only[Qc]at kv;have km:=fun ex K hV hK=>km ex ls q d V rt K ic hV aT hK;simp only[Xp]at km;cases jQ:sy q with
  |false=>
   rw[jQ]at kv;have h0:=fun ex=>h0 (by rw[e1,ic];simp[jQ]) ex ls;simp[Xp,ic,jQ,zzao,hc,fu,Iu];simp[um]at h0;exact⟨kv,h0 _⟩
  |true=>
   rw[jQ]at kv;simp[Xp,ic,jQ,zzao,hc,fu,Iu];refine⟨kv,km _ _ (hE _) ?_⟩;cases Dh:Df g f b o q d with
   |false=>
    have h0:=fun ex=>h0 (by rw[e1,ic];simp[jQ,Dh]) ex ls;simp[zzao];simp[um]at h0;exact h0 _
   |true=>
    have h1:=fun ex hV hk=>h1 q d (by rw[e1,ic];simp[jQ,Dh]) ex V rt ls hV hk aT;simp[zzao,hc];simp only[Xp]at h1;refine h1 _ ?_ (fun k o l s e=>by have:=LH k o l s e;simp at this;omega);exact mD.put (by simpa using hE []) (by simpa using LH) _
 simp[Pr,Pt,Qu,Qo,Qc,Qq,Qd,Qg,Qk,Aw,k1,k2,k3,GZ];refine kb _ _ (fun hbn gT=>?_) (fun q d ic gT V rt ls hV LH aT=>?_)
 ·have h0:=fun ex=>h0 (by rw[e1,hbn]) ex [];simp[um,zzao];simp[um]at h0;exact h0 _
 have hc:=hV.cell;have fu:=fun ex ml d=>hV.bF ex ml ms mn d;have hE:=fun dL=>hV.ext dL;simp only[zzbc,zzae,zzai]at fu hE;have Iu:=fun m d x=>aT m d x;obtain⟨S7,hql,hqd⟩:=xW hp ho ic;have kv:=Wp q S7.S;simp only[Qc]at kv;have km:=fun ex K hV hK=>km ex ls q d V rt K ic hV aT hK;simp only[Xp]at km;cases jQ:sy q with
 |false=>
  rw[jQ]at kv;have h0:=fun ex=>h0 (by rw[e1,ic];simp[jQ]) ex ls;simp[Xp,ic,jQ,zzao,hc,fu,Iu];simp[um]at h0;exact⟨kv,h0 _⟩
 |true=>
  rw[jQ]at kv;simp[Xp,ic,jQ,zzao,hc,fu,Iu];refine⟨kv,km _ _ (hE _) ?_⟩;cases Dh:Df g f b o q d with
  |false=>
   have h0:=fun ex=>h0 (by rw[e1,ic];simp[jQ,Dh]) ex ls;simp[zzao];simp[um]at h0;exact h0 _
  |true=>
   have h1:=fun ex hV hk=>h1 q d (by rw[e1,ic];simp[jQ,Dh]) ex V rt ls hV hk aT;simp[zzao,hc];simp only[Xp]at h1;refine h1 _ ?_ (fun k o l s e=>by have:=LH k o l s e;simp at this;omega);exact mD.put (by simpa using hE []) (by simpa using LH) _
def jR(c:List AV):Prop:=c≠[]/\KY c
def RJ{a:AV}(h:Fj a=true):ck a:=by
 cases a<;>simp[Fj]at h
 case bool b=>exact ck.bool b
 case int k n=>exact ck.int k n
 case str s=>exact ck.str s
 case sl rt rows=>
  refine ck.sl fun i s e=>?_;subst e;simp at h
 case nilfn=>exact fun w γ v h=>by cases h;exact .nilfn
 case ep row o=>
  intro w γ v h;cases h with
  |ep cv hb hc h=>exact .ep cv hb hc h
def jR.of{c:List AV}(h0:c≠[])(h:Zg c=true):jR c:=by
 refine⟨h0,fun a ha=>⟨RJ (zzbg.1 h a ha),fun kn kvs e=>?_⟩⟩;have:=zzbg.1 h a ha;subst e;simp[Fj]at this
def jR.snoc{l:List (List AV)}{c:List AV}(h:∀x∈l,jR x)(hc:jR c):∀x∈l++[c],jR x:=fun x hx=>by
 rcases zzal.1 hx with hx|hx
 ·exact h x hx
 rw[zzbk.1 hx];exact hc
theorem LI(e:bE):Zg (Qf e)=true:=rfl
theorem asu(g:Pg):Zg (Qo g)=true:=rfl
def jR.mo(g:Pg)(f:Int)(mid:Nat):jR (Qu g f mid):=by
 refine⟨by simp[Qu],fun a ha=>?_⟩;rcases zzal.1 ha with ha|ha
 ·exact(jR.of (c:=Qo g) (by simp[Qo,Qc]) (asu g)).2 a ha
 simp only[zzau,zzdq,or_false]at ha;obtain rfl|rfl:=ha
 ·exact⟨ck.int _ _,fun _ _ h=>by cases h⟩
 exact⟨ck.mp _,fun _ _ h=>by cases h⟩
def jR.map(b:List (Int×Bool)):jR [.aK 0 (bH .bool b)]:=by
 refine⟨by simp,fun a ha=>?_⟩;rw[zzbk.1 ha];refine⟨ck.aK _ _,fun kn kvs h p hp=>?_⟩;cases h;simp only[bH,zzay]at hp;obtain⟨x,_,rfl⟩:=hp;exact ck.bool _
def amQ(g:Pg)(fr:Int)(mb:List (List AV))(ml:List Nat)(ms:Nat->LS)(mn:Nat)(f:Nat->AV)(m:AM):Prop:=
 ∃(i:Nat)(b:List (Int×Bool))(bx:List (List AV)),(∀c∈bx,jR c)/\f 16=I i/\i<=g.ev.length/\Yd fr (g.ev.drop i) b=Yd fr g.ev []/\b.length<=i/\
  m=⟨mb++(Qo g::moZ::[.aK 0 (bH .bool b)]::Qu g fr (mb.length+2)::bx),ml,ms,mn⟩
def Ba(Y:YT)(m:AM)(g:Pg)(fr:Int)(hl:g.ev.length<=1000000)(K:AV->AM->Prop)
  (hK:∀ex mid,(∀c∈ex,jR c)->m.boxes.length<=mid->fS (m.boxes++ex) mid (Yd fr g.ev [])->K (.agg (Qu g fr mid)) {m with boxes:=m.boxes++ex}):
  an Tryz.prog az Y 70 [.agg (Qo g),I fr] m K:=by
 obtain⟨mb,ml,ms,mn⟩:=m;refine Xd akT (fun _ _ _=>.junk) (by simp) ?_;simp[aoG,Qo,Qc];refine Qj D7 (amQ g fr mb ml ms mn) (fun f _=>g.ev.length-(numOf (f 16)).toNat) ?_ ?_
 ·exact⟨0,[],[],(fun c h=>by cases h),by simp,by omega,by simp,by simp,by simp[Qo,Qc,Qu,moZ]⟩
 rintro f m ⟨i,b,bx,hbx,CB,hi,hb,iT,rfl⟩;rcases zzaa i g.ev.length with ai|bB
 ·obtain⟨e,he⟩:=aR ai;have aa:Qh (g.ev.map Qf) i=Qf e:=Qs (by simp[he]);have ah:(i:Int)<(g.ev.length:Int):=by omega
  have hw:=bJ i (by omega);have hd:g.ev.drop i=e::g.ev.drop (i+1):=by rw[zzaf ai,(zza.1 he).2]
  rw[hd,Yd]at hb;by_cases hs:e.st<fr
  ·rw[if_pos hs]at hb;have ey:=A9 e.id true b;rcases Xq AV.bool e.id b 0 with⟨b1,b2,b3,b4⟩|⟨u,n,b1,b2,b3,b4,b5,b6⟩
   ·simp[CB,D7,ah,aa,hw,Qf,Qo,Qc,Qu,moZ,hs,b2];refine⟨aN,⟨i+1,Zx e.id true b,bx++[Qf e],jR.snoc hbx (jR.of (by simp[Qf]) (LI e)),by simp,by omega,hb,by omega,by simp[Qo,Qc,Qu,moZ,Qf,b4]⟩,by omega⟩
   simp[CB,D7,ah,aa,hw,Qf,Qo,Qc,Qu,moZ,hs,b2];refine⟨aN,⟨i+1,Zx e.id true b,bx++[Qf e],jR.snoc hbx (jR.of (by simp[Qf]) (LI e)),by simp,by omega,hb,by omega,by simp[Qo,Qc,Qu,moZ,Qf,b6]⟩,by omega⟩
  rw[if_neg hs]at hb;simp[CB,D7,ah,aa,hw,Qf,Qo,Qc,Qu,moZ,hs];refine⟨aN,⟨i+1,b,bx++[Qf e],jR.snoc hbx (jR.of (by simp[Qf]) (LI e)),by simp,by omega,hb,by omega,by simp[Qo,Qc,Qu,moZ,Qf]⟩,by omega⟩
 obtain rfl:i=g.ev.length:=by omega
 rw[zzbr,Yd]at hb;subst hb;simp[CB,D7,aoH,Qo,Qc,Qu,moZ];refine hK _ (mb.length+2) ?_ (by simp) ⟨by simp,by simp⟩;intro c hc;simp only[zzau]at hc;obtain rfl|rfl|rfl|rfl|hc:=hc
 ·exact jR.of (by simp) (by simp[Zg])
 ·exact jR.mo g fr _
 ·exact jR.map _
 ·exact jR.mo g fr _
 exact hbx c hc
section
variable {n:Nat} {m':AM}
def RK(n:Nat)(m':AM):List AV->List AV->Prop
 |[],[]=>True
 |a::xs,b::ys=>dF n m' a b/\RK n m' xs ys
 |_,_=>False
def RK.both:∀{xs ys:List AV},RK n m' xs ys->xs.length=ys.length/\∀(i:Nat)(c d:AV),xs[i]?=some c->ys[i]?=some d->dF n m' c d
 |[],[],_=>⟨rfl,fun i c d h=>by simp at h⟩
 |[],_::_,h=>h.elim
 |_::_,[],h=>h.elim
 |a::xs,b::ys,h=>by
  obtain⟨h1,h2⟩:=RK.both h.2;refine⟨by simp[h1],fun i c d q1 q2=>?_⟩;cases i with
  |zero=>cases q1;cases q2;exact h.1
  |succ i=>exact h2 i c d (by simpa using q1) (by simpa using q2)
def G1{xs ys:List AV}(h:RK n m' xs ys):dF n m' (.agg xs) (.agg ys):=dF.agg h.both.1 h.both.2
def G2{xs ys:List AV}(h:RK n m' xs ys):dF n m' (.aV xs) (.aV ys):=dF.aV h.both.1 h.both.2
def afK(k sz:Nat):dF n m' (.bs k 0 0 sz) (.sl .ro []):=fun N w0 aq γ' γ2 w' v hm hr h1 h2=>by
 obtain⟨b,cap,arr,JK,hβ,rfl,hlc,hh,hs⟩:=hr.cL;exact aB.sl (w:=w') (γ:=γ2) (rt:=.ro) (rows:=[]) b 0 sz (fun _ _=>undef) (zzcc _) (fun h=>by cases h) (fun h=>absurd rfl h) (fun _ h=>by cases h) (fun i j c h=>by simp[Qt]at h) (fun i j c h=>by simp[Qt]at h) trivial
def mD.frz{V:AV}{l:List En}(h:mD m'.boxes V l)(hk:GM n V):dF n m' V (.sl .ro (l.map Qd)):=by
 obtain⟨rt,rfl,_⟩|⟨k,z,rfl,h2,h3,h4⟩:=h
 ·exact dF.sl _ _
 cases l with
 |nil=>exact afK _ _
 |cons a r=>
  have bT:Zg (eG (a::r)++z)=true:=by
   have:=Lq (a::r);unfold Zg at this h4 |-
   rw[zzez,this,h4];rfl
  have:=dF.bs (sz:=7) (len:=(a::r).length) (hk _ _ _ _ rfl) (Ju h2 h3) (by simp[eG,Qd]) bT (by rw[zzag,Ux];omega);rw[nP]at this;exact this
end
def amR:List AV:=[I 0,I 0,I 0,I 0,.sl .ro [],I 0,I 0,I 0,I 0,.sl .ro [],.sl .ro [],.sl .ro [],.sl .ro [],I 0]
def afL(x:Option (Pl×Int)):AV:=match x with
 |none=>.aV [.agg amR,.bool false]
 |some (q,d)=>.aV [.agg (Qc q++[I d]),.bool true]
def afM(Y:YT)(m:AM)(g:Pg)(f:Int)(mid:Nat)(b:List (Int×Bool))(o:Od)(h:afJ g f o)(hb:fS m.boxes mid b)(hB:∀c∈m.boxes,jR c):
  an Tryz.prog az Y 71 [.agg (Qu g f mid),.agg (Qq o)] m (fun r m'=>m'=m/\r=afL (Dg g f b o)):=by
 refine an.freeze (fun c hc=>(hB c hc).1) (fun c hc=>(hB c hc).2) (LG Y m g f mid b o h hb _ (fun hx ex ls=>?_) (fun q d hx ex V rt ls hV hk aT=>?_))
 ·refine⟨ex,ls,_,rfl,?_,rfl⟩;rw[hx];refine G2 ⟨G1 ?_,dF.bool _,trivial⟩;unfold um amR;refine⟨dF.int _ _,dF.int _ _,dF.int _ _,dF.int _ _,dF.sl _ _,dF.int _ _,dF.int _ _,dF.int _ _,dF.int _ _,dF.sl _ _,dF.sl _ _,dF.sl _ _,dF.sl _ _,dF.int _ _,trivial⟩
 refine⟨ex,ls,_,rfl,?_,rfl⟩;rw[hx];refine G2 ⟨G1 ?_,dF.bool _,trivial⟩;unfold Xp Qc;simp only[zzae,zzai];exact⟨dF.int _ _,dF.int _ _,dF.int _ _,dF.int _ _,dF.sl _ _,dF.int _ _,dF.int _ _,dF.int _ _,dF.int _ _,dF.sl _ _,mD.frz hV hk,dF.sl _ _,dF.sl _ _,dF.int _ _,trivial⟩
def Ou(Y:YT)(m:AM)(g:Pg)(f:Int)(mid:Nat)(b:List (Int×Bool))(o:Od)(h:afJ g f o)(hb:fS m.boxes mid b)(hB:∀c∈m.boxes,jR c)(K:AV->AM->Prop)(hK:K (afL (Dg g f b o)) m):
  an Tryz.prog az Y 71 [.agg (Qu g f mid),.agg (Qq o)] m K:=
 an.mono (afM Y m g f mid b o h hb hB) (by rintro r m' ⟨rfl,rfl⟩;exact hK)
end Go.Proofs.YtnopaopphmjnmaaGreatDoor
