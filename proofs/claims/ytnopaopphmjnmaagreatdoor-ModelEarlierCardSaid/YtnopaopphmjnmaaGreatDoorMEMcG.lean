import Derived.Test.YtnopaopphmjnmaaGreatDoorMEMbZ
set_option linter.all false
set_option maxRecDepth 100000
set_option maxHeartbeats 64000000
namespace Go.Abs
open Go Go.RowKit
section
variable {N:Nat} {w0:iy} {aq:Nat->Nat->Prop} {γ γ':G} {w w':World} {P:Program} {gl:Nat->AV} {Y:YT}
def Se(m':AM)(γ':G)(n:Nat)(b:Nat):Prop:=∃id,n<=id/\m'.boxes[id]?≠some []/\γ'.β id=some b
def dL(n:Nat)(m':AM)(r r':AV):Prop:=∀(N:Nat)(w0:iy)(aq:Nat->Nat->Prop)(γ' γ2:G)(w':World)(v:Value),au N w0 aq γ' w' m'.B m'.L->aB w' γ' r v->
 (∀b o,γ'.ro b o->γ2.ro b o)->(∀b,Se m' γ' n b->∀o,γ2.ro b o)->aB w' γ2 r' v
def G.frz(γ1 γ':G)(m':AM)(n:Nat):G:={γ1 with ro:=fun b o=>γ1.ro b o\/Se m' γ' n b}
def an.freeze{f:FuncId}{ags:List AV}{m:AM}{K:AV->Prop}(aK:∀c∈m.boxes,c≠[])(Cq:∀c∈m.boxes,Lp c)
  (h:an P gl Y f ags m fun r m'=>∃ex exl r',m'={m with boxes:=m.boxes++ex,lens:=m.lens++exl}/\dL m.boxes.length m' r r'/\K r'):an P gl Y f ags m fun r m'=>m'=m/\K r:=by
 refine⟨h.1,fun N w0 aq γ w vs hm hl hg hy hr=>CallsIn.mono (h.2 N w0 aq γ w vs hm hl hg hy hr) ?_⟩;rintro en w' ⟨v,γ',r,m',rfl,g1,g2,g3,g4,ex,exl,r',rfl,g5,g6⟩;have e1:=g1.cZ hm
 have m1:au N w0 aq (γ.cZ m.lens.length γ') w' m.B m.L:=hm.cZ (m1:=m) (mx:=m.boxes) (ex:=ex) (exl:=exl) g2 g1 rfl rfl rfl fun id cells ck h1 h2=>by
  rw[h1]at h2;cases h2;exact .inl ⟨rfl,h1,Cq _ (zzac h1)⟩
 obtain⟨γ1,hγ1⟩:∃γ1,γ1=γ.cZ m.lens.length γ':=⟨_,rfl⟩;obtain⟨m',fV⟩:∃m':AM,m'={m with boxes:=m.boxes++ex,lens:=m.lens++exl}:=⟨_,rfl⟩;rw[<- fV]at g2 g3 g5;rw[<- hγ1]at e1 m1
 have hβ:∀{id b},γ1.β id=some b->id<m.boxes.length/\γ'.β id=some b:=fun{id b}h=>by
  rw[hγ1]at h;obtain⟨h1,h2⟩:=Ub h;obtain⟨b0,dV⟩:=zzci.1 h1;obtain⟨_,_,_,_,c,hc⟩:=hm.β id b0 dV;exact⟨(zza.1 hc).1,h2⟩
 have eY:∀{id b},γ1.own id=some b->γ'.own id=some b:=fun{id b}h=>by
  rw[hγ1]at h;have h:(if id<m.lens.length then γ'.own id else none)=some b:=h;split at h
  ·exact h
  cases h
 have dm:γ1.sp=γ'.sp:=by rw[hγ1];rfl
 have hlp:γ1.lp=γ'.lp:=by rw[hγ1];rfl
 have dQ:γ1.ro=γ'.ro:=by rw[hγ1];rfl
 have k8:∀{id b},γ1.mm id=some b->γ'.mm id=some b:=fun{id b}h=>by rw[hγ1]at h;exact(Qbd h).2
 have nβ:∀{b},Se m' γ' m.boxes.length b->∀id,γ1.β id≠some b:=fun{b}⟨j,j1,j2,j3⟩id h=>by
  obtain⟨h1,h2⟩:=hβ h
  have hB:m'.B id=some (m.boxes[id]):=by
   rw[fV];show(m.boxes++ex)[id]?=_;rw[zzag h1,zzad h1]
  rcases g2.inj id j b h2 j3 with k|k|k
  ·rw[hB]at k;exact aK _ (zzdj h1) (Option.some.inj k)
  ·exact j2 k
  omega
 have axp:∀{b},Se m' γ' m.boxes.length b->∀id,γ'.own id≠some b:=fun{b}⟨j,j1,j2,j3⟩id=>(g2.β j b j3).2.2.2.1 id;have nsp:∀{b},Se m' γ' m.boxes.length b->¬γ'.sp b:=fun{b}⟨j,j1,j2,j3⟩h=>(g2.sp b h).2.2.2.1 j j3;have nmm:∀{b},Se m' γ' m.boxes.length b->∀id,γ'.mm id≠some b:=fun{b}⟨j,j1,j2,j3⟩id h=>(g2.mm id b h).2.2.2.1 j j3
 have ev:Ev w' γ1 w' (γ1.frz γ' m' m.boxes.length):=
  ⟨zzab _,fun _ _ _ h=>⟨.inl h,rfl⟩,fun _ _ h=>h,fun _=>zzab _,fun _ _ h=>h,rfl,
   fun id b _ h=>⟨h,fun arr _ h=>⟨arr,h,zzab _⟩,fun o h'=>h'.elim (fun x=>x) (fun hn=>absurd (eY h) (axp hn id))⟩,fun _ h=>⟨h,rfl⟩,Sz.refl _⟩
 refine⟨v,γ1.frz γ' m' m.boxes.length,r',m,rfl,e1.trans ev.dJ,?_,?_,?_,rfl,g6⟩
 ·exact{
   bs:=w0.st _ _ _ _ g2.bs ⟨rfl,rfl,rfl,zzab _,fun _ _ _=>rfl,fun b o _ h=>⟨.inl (by rw[dQ];exact h),rfl⟩,fun b hb=>.inl (by
     obtain⟨i,hi⟩|⟨i,hi⟩|hb|⟨i,hi⟩:=hb
     ·exact .inl ⟨i,(hβ hi).2⟩
     ·exact .inr (.inl ⟨i,eY hi⟩)
     ·exact .inr (.inr (.inl (by rw[<- dm];exact hb)))
     ·exact .inr (.inr (.inr ⟨i,k8 hi⟩))),fun b o h=>by
     obtain h|⟨j,j1,j2,j3⟩:=h
     ·exact .inl (by rw[<- dQ];exact h)
     exact .inr (.inl (.inl ⟨j,j3⟩))⟩
   hN:=m1.hN
   aq:=fun b o h=>by
    obtain h|⟨j,j1,j2,j3⟩:=h
    ·exact m1.aq b o h
    exact .inr (g2.β j b j3).1
   robd:=fun b o h=>by
    obtain h|⟨j,j1,j2,j3⟩:=h
    ·exact m1.robd b o h
    exact(g2.β j b j3).2.1
   box:=fun id cells b hb h1=>by
    obtain⟨arr,e,h2,h3,h4⟩:=m1.box id cells b hb h1;exact⟨arr,e,h2,h3.mono ev,h4⟩
   β:=fun id b hb=>by
    obtain⟨h1,h2,h3,h4,h5⟩:=m1.β id b hb;exact⟨h1,h2,fun o h=>h.elim (h3 o) (fun hn=>nβ hn id hb),h4,h5⟩
   inj:=m1.inj
   own:=m1.own
   oinj:=m1.oinj
   sp:=fun b hb=>by
    obtain⟨h1,h2,h3,h4⟩:=m1.sp b hb;exact⟨h1,h2,fun o h=>h.elim (h3 o) (fun hn=>nsp hn (by rw[<- dm];exact hb)),h4⟩
   mm:=fun id b hb=>by
    obtain⟨h1,h2,h3,h4,h5,h6,h8,h7⟩:=m1.mm id b hb;exact⟨h1,h2,fun o h=>h.elim (h3 o) (fun hn=>nmm hn id (k8 hb)),h4,h5,h6,h8,h7.mono ev.dJ.D8 rfl⟩
   minj:=m1.minj
   len:=m1.len
   cur0:=m1.cur0}
 ·have g3':cW γ1 w' m:=by
   rw[fV]at g3;unfold cW at g3 |-
   rw[hlp,dm];exact g3
  exact g3'.mono ev
 exact g5 N w0 aq γ' _ w' v g2 g4 (fun b o h=>.inl (by rw[dQ];exact h)) fun b hb o=>.inr hb
variable {n:Nat} {m':AM}
def dL.bool(b:Bool):dL n m' (.bool b) (.bool b):=fun _ _ _ _ _ _ _ _ h _ _=>by rw[h.bA];exact .bool b
def dL.int(k:IntKind)(z:Int):dL n m' (.int k z) (.int k z):=fun _ _ _ _ _ _ _ _ h _ _=>by rw[h.aG];exact .int k z
def dL.agg{cs ds:List AV}(hl:cs.length=ds.length)(h:∀(i:Nat)(c d:AV),cs[i]?=some c->ds[i]?=some d->dL n m' c d):dL n m' (.agg cs) (.agg ds):=fun N w0 aq γ' γ2 w' v hm hr h1 h2=>by
 cases hr with
 |@agg _ _ arr kl k=>
  refine .agg (by omega) fun i d u hd hu=>?_;have hi:i<cs.length:=by have:=(zza.1 hd).1;omega
  exact h i cs[i] d (zzad hi) hd N w0 aq γ' γ2 w' u hm (k i cs[i] u (zzad hi) hu) h1 h2
def dL.aW{cs ds:List AV}(hl:cs.length=ds.length)(h:∀(i:Nat)(c d:AV),cs[i]?=some c->ds[i]?=some d->dL n m' c d):dL n m' (.aW cs) (.aW ds):=fun N w0 aq γ' γ2 w' v hm hr h1 h2=>by
 cases hr with
 |@aW _ _ arr kl k=>
  refine .aW (by omega) fun i d u hd hu=>?_;have hi:i<cs.length:=by have:=(zza.1 hd).1;omega
  exact h i cs[i] d (zzad hi) hd N w0 aq γ' γ2 w' u hm (k i cs[i] u (zzad hi) hu) h1 h2
def aad{γ' γ2:G}{w':World}(h1:∀b o,γ'.ro b o->γ2.ro b o){a:AV}{v:Value}(h:aB w' γ'.dg a v):aB w' γ2.dg a v:=
 h.mono ⟨zzab _,fun b o _ h=>⟨h1 b o h,rfl⟩,fun _ _ h=>(by cases h),fun _=>zzab _,fun _ _ h=>(by cases h),rfl,fun _ _ _ h=>(by cases h),fun _ h=>h.elim,Sz.refl w'⟩
def dL.sl(rt:Rt)(rows:List (List AV)):dL n m' (.sl rt rows) (.sl .ro rows):=fun N w0 aq γ' γ2 w' v hm hr h1 h2=>by
 cases hr with
 |sl b off sz cv hcap hnil ha hsz hc h aS=>
  exact .sl b off sz cv hcap hnil ha hsz (fun i j c q=>⟨(hc i j c q).1,h1 _ _ (hc i j c q).2.1,(hc i j c q).2.2⟩) (fun i j c q=>aad h1 (h i j c q)) trivial
def dL.bs{k len sz:Nat}{cells:List AV}(hn:n<=k)(hk:m'.boxes[k]?=some cells)(aK:cells≠[])(bV:Zg cells=true)(hl:len*sz<=cells.length):dL n m' (.bs k 0 len sz) (.sl .ro (aV sz len cells)):=fun N w0 aq γ' γ2 w' v hm hr h1 h2=>by
 obtain⟨b,cap,arr,J3,hβ,rfl,hlc,hh,hs⟩:=hr.cM;obtain⟨bT,e',q2,q3,q4⟩:=hm.box k cells b hk hβ;rw[hh]at q2;cases q2;have hsz:=q3.1;simp only[zzbi]at hsz;have aH:(aV sz len cells).length=len:=by rw[Qah];simp
 have eu:∀row∈aV sz len cells,row.length=sz:=fun row ah=>by
  rw[Qah]at ah;simp only[zzbc,zzbd]at ah;obtain⟨i,hi,rfl⟩:=ah;have:(i+1)*sz<=len*sz:=zzb _ hi;rw[zzbp,zzdo]at this;simp only[zzaq,zzcq];omega
 have oz:∀(i j:Nat)(c:AV),Qt (aV sz len cells) i j=some c->∃u,cells[i*sz+j]?=some c/\arr[i*sz+j]?=some u/\arr.getD (i*sz+j) undef=u/\aB w' γ' c u:=fun i j c h=>by
  rw[Qah]at h;unfold Qt at h;rcases zzaa i len with hi|hi
  ·rw[zzbm,zzeh hi]at h;simp only[zzcs,zzcu]at h;rw[zzbj]at h;split at h
   ·rw[zzbk]at h;have ai:=(zza.1 h).1;exact⟨arr[i*sz+j],h,zzai (by omega),by simp[show i*sz+j<arr.size by omega],q3.2 _ _ _ h (by simp[show i*sz+j<arr.size by omega])⟩
   cases h
  rw[zzbm,zzau (by simpa using hi)]at h;cases h
 have hB:∀id cells,m'.boxes[id]?=some cells->m'.B id=some cells:=fun _ _ h=>h;have aae:∀o,γ2.ro b o:=h2 b ⟨k,hn,by rw[hk];intro h;exact aK (Option.some.inj h),hβ⟩
 have:=aB.sl (w:=w') (γ:=γ2) (rt:=.ro) (rows:=aV sz len cells) (a:=some ⟨b,0,none⟩) (cap:=cap) b 0 sz (fun i j=>arr.getD (i*sz+j) undef) (by rw[aH];exact hlc) (fun h=>by cases h) (fun _=>⟨rfl,aT hh⟩) eu
  (
   fun i j c h=>by
   obtain⟨u,c1,c2,c3,c4⟩:=oz i j c h;rw[zzbu,aL hh,c2,c3];exact⟨rfl,aae _,q4 u (by rw[<- c3];simp[show i*sz+j<arr.size from(zzbw.1 c2).1])⟩)
  (
   fun i j c h=>by
   obtain⟨u,c1,c2,c3,c4⟩:=oz i j c h;rw[c3];have fL:FD c=true:=zzbh.1 bV c (zzac c1);have:=kU hm (m:=m') hB (ro':=γ2.ro) h1 1 c u c4 (fun hp=>by cases c<;>simp_all[FD,Yk]);rw[Oi m' 0 fL]at this;exact this) trivial
 rw[aH]at this;exact this
end
end Go.Abs
namespace Go.Proofs.YtnopaopphmjnmaaGreatDoor
open Go Go.Abs
def tf(g:Pg)(f:Int)(b:List (Int×Bool))(o:Od):Option (Pl×Int):=
 if o.ki=1 then rK g f b o else if o.ki=2 then(yq g o).map fun q=>(q,0)else if o.ki=3 then some (ot g f b o,0)else some (DA g o,0)
def DG(g:Pg)(f:Int)(b:List (Int×Bool))(o:Od)(q:Pl)(d:Int):Bool:=
 if o.ki=1 then Qcg g f b o q d else if o.ki=2 then !(Dw g f b o.en)else if o.ki=3 then qb g o else true
def DH(g:Pg)(f:Int)(b:List (Int×Bool))(o:Od):Option (Pl×Int):=
 if g.p.ln<=f then none else match tf g f b o with
 |none=>none
 |some (q,d)=>if(sR q&&DG g f b o q d)=true then some (q,d)else none
def af4(g:Pg)(f:Int)(b:List (Int×Bool))(o:Od)(e:En):sZ (um g f b o e):=by
 unfold um;cases Bq g f b o.en with
 |none=>exact Qea _
 |some st=>
  have h1:=Qea (e.fr+o.n);have h2:=Qea (f-st);simp only;first|exact Qea _|(split<;>assumption)|(unfold sZ at*;omega)
structure PlB (q:Pl):Prop where
 sh:q.sh.length<=1000000
 aM:q.aM.length<=1000000
 ens:q.ens.length<=1000001
 bks:q.bks.length<=1000000
 cls:q.cls.length<=1000001
 als:∀e∈q.ens,e.al.length<=8796093022208
def yB{g:Pg}{f:Int}{b:List (Int×Bool)}{o:Od}{q:Pl}{d:Int}(hp:Bn g.p)(ho:o.nw.al.length<=8796093022208)(h:tf g f b o=some (q,d)):PlB q/\q.ln=g.p.ln/\sZ d:=by
 obtain⟨h1,h2,h3,h4,h5,h6⟩:=hp;unfold tf at h;have j0:sZ 0:=by unfold sZ;omega
 split at h
 ·unfold rK at h;split at h
  ·cases h
  rename_i e he;split at h
  ·cases h
  cases h;refine⟨⟨h1,h2,by simp;omega,h4,by show g.p.cls.length<=_;omega,fun x hx=>?_⟩,rfl,af4 _ _ _ _ _⟩;rcases zzgk hx with hx|rfl
  ·exact h6 x hx
  exact h6 e (zzac he)
 split at h
 ·unfold yq at h;split at h
  ·cases h
  cases h;exact⟨⟨h1,h2,by have:=zzbr (fun e=>!mX o.en e) g.p.ens;simp only;omega,h4,by show g.p.cls.length<=_;omega,fun x hx=>h6 x (zzcp.1 hx).1⟩,rfl,j0⟩
 split at h
 ·cases h;refine⟨⟨h1,h2,by simp only[ot,zzah,zzaq,zzba,zzcq];omega,h4,by show g.p.cls.length<=_;omega,fun x hx=>?_⟩,rfl,j0⟩;simp only[ot,zzao,zzaw]at hx;obtain hx|rfl|hx:=hx
  ·exact h6 x (zzcb hx)
  ·exact ho
  exact h6 x (zzdp hx)
 cases h;exact⟨⟨h1,h2,by show g.p.ens.length<=_;omega,h4,by simp only[DA,zzah,zzba,zzch];omega,h6⟩,rfl,j0⟩
def PlB.S{q:Pl}(h:PlB q):PlS q:=⟨by have:=h.sh;omega,by have:=h.aM;omega,by have:=h.ens;omega,by have:=h.bks;omega,by have:=h.cls;omega,h.als⟩
def Hp(q?:Option (Pl×Int)):Nat->FuncId->List AV->AV:=fun _ f _=>if f=120 then(match q? with|some (q,_)=>.bool (sR q)|none=>.junk)else .gd false .junk
def mY.put{mb:List (List AV)}{a b c c':List AV}{ex:List (List AV)}{V:AV}{l:List En}(h:mY (mb++(a::b::c::ex)) V l)(hk:G8 (mb.length+3) V)(dW:List (List AV)):mY (mb++(a::b::c'::(ex++dW))) V l:=by
 obtain h|⟨k,z,rfl,h2,h3,h4⟩:=h
 ·exact .inl h
 have bZ:=hk _ _ _ _ rfl;obtain⟨j,rfl⟩:∃j,k=mb.length+(j+3):=⟨k-mb.length-3,by omega⟩;have hg:=Ug h2;rw[h3,zzan (by omega),zzds]at hg;simp only[zzde]at hg;have hj:=(zza.1 hg).1;refine .inr ⟨_,z,rfl,by simp at h2 |-;omega,Qs ?_,h4⟩;rw[zzan (by omega),zzds];simp only[zzde];rw[zzag hj,hg]
structure af5 (g:Pg) (f:Int) (o:Od):Prop where
 mo:f<g.p.ln->mq g f
 pl:Bn g.p
 f0:0<=f
 ln:g.p.ln<=1000000
 n:sZ o.n
 fr:∀e∈g.p.ens,sZ e.fr
 dr:g.dr.length<=1000000000
 al:o.nw.al.length<=8796093022208
def Mc(Y:YT)(m:AM)(g:Pg)(f:Int)(mid:Nat)(b:List (Int×Bool))(o:Od)(h:af5 g f o)(hb:gz m.boxes mid b)(K:AV->AM->Prop)
  (h0:DH g f b o=none->∀ex ls,K (.aW [.agg uV,.bool false]) {m with boxes:=m.boxes++ex,lens:=m.lens++ls})
  (h1:∀q d,DH g f b o=some (q,d)->∀ex V rt ls,mY (m.boxes++ex) V q.ens->G8 m.boxes.length V->Dz rt->K (.aW [.agg (Xp q V (.sl rt (q.cls.map Qg)) d),.bool true]) {m with boxes:=m.boxes++ex,lens:=m.lens++ls}):
  an Tryz.prog az Y 71 [.agg (Qu g f mid),.agg (Qq o)] m K:=by
 obtain⟨mb,ml,ms,mn⟩:=m;obtain⟨hm,hp,hf0,cS,hn,uD,ei,ho⟩:=h;have hB:∀ex,gz (mb++ex) mid b:=fun ex=>⟨by have:=hb.1;simp at this |-;omega,hb.ext ex⟩;by_cases AR:g.p.ln<=f
 ·have h0:=h0 (by unfold DH;rw[if_pos AR]);refine Xe TM (fun _ _ _=>.gd false .junk) (by simp) ?_;simp[PZ,P0,Qu,Qo,Qc,Qq,Qd,Qg,Qi,AR];have:=fun ex=>h0 ex [];simp[uV]at this;exact this _
 have hm:=hm (by omega);have KF:sZ g.p.ln:=by unfold sZ;omega
 have e1:DH g f b o=match tf g f b o with
  |none=>none
  |some (q,d)=>if(sR q&&DG g f b o q d)=true then some (q,d)else none:=by unfold DH;rw[if_neg AR]
 have key:∃fb fm:FuncId,((o.ki=1/\fb=137/\fm=138)\/(o.ki=2/\fb=139/\fm=140)\/(o.ki=3/\fb=141/\fm=142)\/(¬o.ki=1/\¬o.ki=2/\¬o.ki=3/\fb=135/\fm=136))/\
   (
    ∀(ex:List (List AV))(K:AV->AM->Prop),(tf g f b o=none->∀iq,K (.aW [.agg uV,.bool false]) ⟨mb++(ex++iq),ml,ms,mn⟩)->
    (∀q d,tf g f b o=some (q,d)->∀iq V rt ls,mY (mb++(ex++iq)) V q.ens->G8 (mb++ex).length V->Dz rt->K (.aW [.agg (Xp q V (.sl rt (q.cls.map Qg)) d),.bool true]) ⟨mb++(ex++iq),ml++ls,ms,mn⟩)->
    an Tryz.prog az Y fb [.agg (Qu g f mid),.agg (Qq o)] ⟨mb++ex,ml,ms,mn⟩ K)/\
   (
    ∀(ex:List (List AV))(ls:List Nat)(q:Pl)(d:Int)(V:AV)(rt:Rt)(K:AV->AM->Prop),tf g f b o=some (q,d)->mY (mb++ex) V q.ens->Dz rt->K (.bool (DG g f b o q d)) ⟨mb++ex,ml++ls,ms,mn⟩->
    an Tryz.prog az Y fm [.agg (Qu g f mid),.agg (Qq o),.agg (Xp q V (.sl rt (q.cls.map Qg)) d)] ⟨mb++ex,ml++ls,ms,mn⟩ K):=by
  by_cases k1:o.ki=1
  ·refine⟨137,138,.inl ⟨k1,rfl,rfl⟩,fun ex K q0 q1=>?_,fun ex ls q d V rt K hq hV aS hK=>?_⟩
   ·have iL:tf g f b o=rK g f b o:=by unfold tf;rw[if_pos k1]
    refine afQ Y ⟨mb++ex,ml,ms,mn⟩ g f mid b o hm hp (hB ex) hn KF uD K (fun hx iq=>?_) (fun q d hx iq k QZ hk hr=>?_)
    ·have:=q0 (by rw[iL];exact hx) iq;simpa using this
    have:=q1 q d (by rw[iL];exact hx) iq (.bs k 0 q.ens.length 7) .ro [] (.inr ⟨k,[],rfl,by simpa using hk,by simpa[eT]using hr,rfl⟩) (G8.bs QZ) Dz.ro;simpa using this
   have DI:DG g f b o q d=Qcg g f b o q d:=by unfold DG;rw[if_pos k1]
   obtain⟨Tu,hql,hqd⟩:=yB hp ho hq
   have hqe:q.ens.length=g.p.ens.length/\q.cls=g.p.cls:=by
    have iL:tf g f b o=rK g f b o:=by unfold tf;rw[if_pos k1]
    rw[iL]at hq;unfold rK at hq;split at hq
    ·cases hq
    split at hq
    ·cases hq
    cases hq;exact⟨by simp,rfl⟩
   refine an.mono (LY Y ⟨mb++ex,ml++ls,ms,mn⟩ g f mid b o q V rt d hV aS hm (hB ex) ei ⟨Tu.sh,Tu.aM,by rw[hqe.1];exact hp.2.2.1,Tu.bks,by rw[hqe.2];exact hp.2.2.2.2.1,Tu.als⟩ (by omega) hqd) ?_;rintro r m' ⟨rfl,rfl⟩;rw[<- DI];exact hK
  by_cases k2:o.ki=2
  ·refine⟨139,140,.inr (.inl ⟨k2,rfl,rfl⟩),fun ex K q0 q1=>?_,fun ex ls q d V rt K hq hV aS hK=>?_⟩
   ·have iL:tf g f b o=(yq g o).map fun q=>(q,0):=by unfold tf;rw[if_neg k1,if_pos k2]
    refine Z0 Y ⟨mb++ex,ml,ms,mn⟩ g f mid o hm hp K (fun hx iq=>?_) (fun q hx iq k z QZ hk hr hz=>?_)
    ·have:=q0 (by rw[iL,hx];rfl) iq;simpa using this
    have:=q1 q 0 (by rw[iL,hx];rfl) iq (.bs k 0 q.ens.length 7) .ro [] (.inr ⟨k,z,rfl,by simpa using hk,by simpa using hr,hz⟩) (G8.bs QZ) Dz.ro;simpa using this
   have DI:DG g f b o q d=!(Dw g f b o.en):=by unfold DG;rw[if_neg k1,if_pos k2]
   refine an.mono (G9 Y ⟨mb++ex,ml++ls,ms,mn⟩ g f mid b o q V rt d hV hm (hB ex)) ?_;rintro r m' ⟨rfl,rfl⟩;rw[<- DI];exact hK
  by_cases k3:o.ki=3
  ·refine⟨141,142,.inr (.inr (.inl ⟨k3,rfl,rfl⟩)),fun ex K q0 q1=>?_,fun ex ls q d V rt K hq hV aS hK=>?_⟩
   ·have iL:tf g f b o=some (ot g f b o,0):=by unfold tf;rw[if_neg k1,if_neg k2,if_pos k3]
    refine L8 Y ⟨mb++ex,ml,ms,mn⟩ g f mid b o hp (hB ex) ho K (fun iq V ls hV Me=>?_);have:=q1 _ 0 iL iq V .ro ls (by simpa using hV) Me Dz.ro;simpa[ot]using this
   have DI:DG g f b o q d=qb g o:=by unfold DG;rw[if_neg k1,if_neg k2,if_pos k3]
   refine an.mono (LX Y ⟨mb++ex,ml++ls,ms,mn⟩ g f mid o q V rt d hV hm ei) ?_;rintro r m' ⟨rfl,rfl⟩;rw[<- DI];exact hK
  refine⟨135,136,.inr (.inr (.inr ⟨k1,k2,k3,rfl,rfl⟩)),fun ex K q0 q1=>?_,fun ex ls q d V rt K hq hV aS hK=>?_⟩
  ·have iL:tf g f b o=some (DA g o,0):=by unfold tf;rw[if_neg k1,if_neg k2,if_neg k3]
   refine Z2 Y ⟨mb++ex,ml,ms,mn⟩ g f mid o hp K (fun iq V hV Me=>?_);have:=q1 _ 0 iL iq V (.own ml.length 8) [g.p.cls.length+1] (by simpa[DA]using hV) Me (Dz.own _ _);simpa using this
  have DI:DG g f b o q d=true:=by unfold DG;rw[if_neg k1,if_neg k2,if_neg k3]
  refine an.mono (LV Y ⟨mb++ex,ml++ls,ms,mn⟩ g f mid o q V rt d hV) ?_;rintro r m' ⟨rfl,rfl⟩;rw[<- DI];exact hK
 obtain⟨fb,fm,hk,kb,km⟩:=key;simp only[Qu,Qo,Qc,Qq,Qd,Qg,Qi,zzae,zzaj]at kb km;refine Xe TM (Hp (tf g f b o)) (by simp) ?_;obtain⟨k1,rfl,rfl⟩|⟨k1,rfl,rfl⟩|⟨k1,rfl,rfl⟩|⟨k1,k2,k3,rfl,rfl⟩:=hk
 ·simp[PZ,P0,Qu,Qo,Qc,Qq,Qd,Qg,Qi,AR,k1,Hp];rw[k1]at kb km;refine kb _ _ (fun hbn iq=>?_) (fun q d iC iq V rt ls hV Me aS=>?_)
  ·have h0:=fun ex=>h0 (by rw[e1,hbn]) ex [];simp[uV,zzam];simp[uV]at h0;exact h0 _
  have hc:=hV.cell;have fO:=fun ex ml d=>hV.bF ex ml ms mn d;have hE:=fun dW=>hV.ext dW;simp only[zzax,zzae,zzaj]at fO hE;have IU:=fun m d x=>aS m d x;obtain⟨Tu,hql,hqd⟩:=yB hp ho iC;have kv:=Wy q Tu.S;simp only[Qc]at kv;have km:=fun ex K hV hK=>km ex ls q d V rt K iC hV aS hK;simp only[Xp]at km;cases j9:sR q with
  |false=>
   rw[j9]at kv;have h0:=fun ex=>h0 (by rw[e1,iC];simp[j9]) ex ls;simp[Xp,iC,j9,zzam,hc,fO,IU];simp[uV]at h0;exact⟨kv,h0 _⟩
  |true=>
   rw[j9]at kv;simp[Xp,iC,j9,zzam,hc,fO,IU];refine⟨kv,km _ _ (hE _) ?_⟩;cases DI:DG g f b o q d with
   |false=>
    have h0:=fun ex=>h0 (by rw[e1,iC];simp[j9,DI]) ex ls;simp[zzam];simp[uV]at h0;exact h0 _
   |true=>
    have h1:=fun ex hV hk=>h1 q d (by rw[e1,iC];simp[j9,DI]) ex V rt ls hV hk aS;simp[zzam,hc];simp only[Xp]at h1;refine h1 _ ?_ (fun k o l s e=>by have:=Me k o l s e;simp at this;omega);exact mY.put (by simpa using hE []) (by simpa using Me) _
 ·simp[PZ,P0,Qu,Qo,Qc,Qq,Qd,Qg,Qi,AR,k1,Hp];rw[k1]at kb km;refine kb _ _ (fun hbn iq=>?_) (fun q d iC iq V rt ls hV Me aS=>?_)
  ·have h0:=fun ex=>h0 (by rw[e1,hbn]) ex [];simp[uV,zzam];simp[uV]at h0;exact h0 _
  have hc:=hV.cell;have fO:=fun ex ml d=>hV.bF ex ml ms mn d;have hE:=fun dW=>hV.ext dW;simp only[zzax,zzae,zzaj]at fO hE;have IU:=fun m d x=>aS m d x;obtain⟨Tu,hql,hqd⟩:=yB hp ho iC;have kv:=Wy q Tu.S;simp only[Qc]at kv;have km:=fun ex K hV hK=>km ex ls q d V rt K iC hV aS hK;simp only[Xp]at km;cases j9:sR q with
  |false=>
   rw[j9]at kv;have h0:=fun ex=>h0 (by rw[e1,iC];simp[j9]) ex ls;simp[Xp,iC,j9,zzam,hc,fO,IU];simp[uV]at h0;exact⟨kv,h0 _⟩
  |true=>
   rw[j9]at kv;simp[Xp,iC,j9,zzam,hc,fO,IU];refine⟨kv,km _ _ (hE _) ?_⟩;cases DI:DG g f b o q d with
   |false=>
    have h0:=fun ex=>h0 (by rw[e1,iC];simp[j9,DI]) ex ls;simp[zzam];simp[uV]at h0;exact h0 _
   |true=>
    have h1:=fun ex hV hk=>h1 q d (by rw[e1,iC];simp[j9,DI]) ex V rt ls hV hk aS;simp[zzam,hc];simp only[Xp]at h1;refine h1 _ ?_ (fun k o l s e=>by have:=Me k o l s e;simp at this;omega);exact mY.put (by simpa using hE []) (by simpa using Me) _
 ·simp[PZ,P0,Qu,Qo,Qc,Qq,Qd,Qg,Qi,AR,k1,Hp];rw[k1]at kb km;refine kb _ _ (fun hbn iq=>?_) (fun q d iC iq V rt ls hV Me aS=>?_)
  ·have h0:=fun ex=>h0 (by rw[e1,hbn]) ex [];simp[uV,zzam];simp[uV]at h0;exact h0 _
  have hc:=hV.cell;have fO:=fun ex ml d=>hV.bF ex ml ms mn d;have hE:=fun dW=>hV.ext dW;simp only[zzax,zzae,zzaj]at fO hE;have IU:=fun m d x=>aS m d x;obtain⟨Tu,hql,hqd⟩:=yB hp ho iC;have kv:=Wy q Tu.S;simp only[Qc]at kv;have km:=fun ex K hV hK=>km ex ls q d V rt K iC hV aS hK;simp only[Xp]at km;cases j9:sR q with
  |false=>
   rw[j9]at kv;have h0:=fun ex=>h0 (by rw[e1,iC];simp[j9]) ex ls;simp[Xp,iC,j9,zzam,hc,fO,IU];simp[uV]at h0;exact⟨kv,h0 _⟩
  |true=>
   rw[j9]at kv;simp[Xp,iC,j9,zzam,hc,fO,IU];refine⟨kv,km _ _ (hE _) ?_⟩;cases DI:DG g f b o q d with
   |false=>
    have h0:=fun ex=>h0 (by rw[e1,iC];simp[j9,DI]) ex ls;simp[zzam];simp[uV]at h0;exact h0 _
   |true=>
    have h1:=fun ex hV hk=>h1 q d (by rw[e1,iC];simp[j9,DI]) ex V rt ls hV hk aS;simp[zzam,hc];simp only[Xp]at h1;refine h1 _ ?_ (fun k o l s e=>by have:=Me k o l s e;simp at this;omega);exact mY.put (by simpa using hE []) (by simpa using Me) _
 simp[PZ,P0,Qu,Qo,Qc,Qq,Qd,Qg,Qi,AR,k1,k2,k3,Hp];refine kb _ _ (fun hbn iq=>?_) (fun q d iC iq V rt ls hV Me aS=>?_)
 ·have h0:=fun ex=>h0 (by rw[e1,hbn]) ex [];simp[uV,zzam];simp[uV]at h0;exact h0 _
 have hc:=hV.cell;have fO:=fun ex ml d=>hV.bF ex ml ms mn d;have hE:=fun dW=>hV.ext dW;simp only[zzax,zzae,zzaj]at fO hE;have IU:=fun m d x=>aS m d x;obtain⟨Tu,hql,hqd⟩:=yB hp ho iC;have kv:=Wy q Tu.S;simp only[Qc]at kv;have km:=fun ex K hV hK=>km ex ls q d V rt K iC hV aS hK;simp only[Xp]at km;cases j9:sR q with
 |false=>
  rw[j9]at kv;have h0:=fun ex=>h0 (by rw[e1,iC];simp[j9]) ex ls;simp[Xp,iC,j9,zzam,hc,fO,IU];simp[uV]at h0;exact⟨kv,h0 _⟩
 |true=>
  rw[j9]at kv;simp[Xp,iC,j9,zzam,hc,fO,IU];refine⟨kv,km _ _ (hE _) ?_⟩;cases DI:DG g f b o q d with
  |false=>
   have h0:=fun ex=>h0 (by rw[e1,iC];simp[j9,DI]) ex ls;simp[zzam];simp[uV]at h0;exact h0 _
  |true=>
   have h1:=fun ex hV hk=>h1 q d (by rw[e1,iC];simp[j9,DI]) ex V rt ls hV hk aS;simp[zzam,hc];simp only[Xp]at h1;refine h1 _ ?_ (fun k o l s e=>by have:=Me k o l s e;simp at this;omega);exact mY.put (by simpa using hE []) (by simpa using Me) _
def kj(c:List AV):Prop:=c≠[]/\Lp c
def Sf{a:AV}(h:FD a=true):cn a:=by
 cases a<;>simp[FD]at h
 case bool b=>exact cn.bool b
 case int k n=>exact cn.int k n
 case str s=>exact cn.str s
 case sl rt rows=>
  refine cn.sl fun i s e=>?_;subst e;simp at h
 case nilfn=>exact fun w γ v h=>by cases h;exact .nilfn
 case ep row o=>
  intro w γ v h;cases h with
  |ep cv hb hc h=>exact .ep cv hb hc h
def kj.of{c:List AV}(h0:c≠[])(h:Zg c=true):kj c:=by
 refine⟨h0,fun a ha=>⟨Sf (zzbh.1 h a ha),fun kn kvs e=>?_⟩⟩;have:=zzbh.1 h a ha;subst e;simp[FD]at this
def kj.snoc{l:List (List AV)}{c:List AV}(h:∀x∈l,kj x)(hc:kj c):∀x∈l++[c],kj x:=fun x hx=>by
 rcases zzao.1 hx with hx|hx
 ·exact h x hx
 rw[zzbg.1 hx];exact hc
theorem Mf(e:bE):Zg (Qf e)=true:=rfl
theorem as8(g:Pg):Zg (Qo g)=true:=rfl
def kj.mo(g:Pg)(f:Int)(mid:Nat):kj (Qu g f mid):=by
 refine⟨by simp[Qu],fun a ha=>?_⟩;rcases zzao.1 ha with ha|ha
 ·exact(kj.of (c:=Qo g) (by simp[Qo,Qc]) (as8 g)).2 a ha
 simp only[zzaw,zzef,or_false]at ha;obtain rfl|rfl:=ha
 ·exact⟨cn.int _ _,fun _ _ h=>by cases h⟩
 exact⟨cn.mp _,fun _ _ h=>by cases h⟩
def kj.map(b:List (Int×Bool)):kj [.aJ 0 (bH .bool b)]:=by
 refine⟨by simp,fun a ha=>?_⟩;rw[zzbg.1 ha];refine⟨cn.aJ _ _,fun kn kvs h p hp=>?_⟩;cases h;simp only[bH,zzbc]at hp;obtain⟨x,_,rfl⟩:=hp;exact cn.bool _
def anh(g:Pg)(fr:Int)(mb:List (List AV))(ml:List Nat)(ms:Nat->LS)(mn:Nat)(f:Nat->AV)(m:AM):Prop:=
 ∃(i:Nat)(b:List (Int×Bool))(bx:List (List AV)),(∀c∈bx,kj c)/\f 16=I i/\i<=g.ev.length/\Yl fr (g.ev.drop i) b=Yl fr g.ev []/\b.length<=i/\
  m=⟨mb++(Qo g::moZ::[.aJ 0 (bH .bool b)]::Qu g fr (mb.length+2)::bx),ml,ms,mn⟩
def Bu(Y:YT)(m:AM)(g:Pg)(fr:Int)(hl:g.ev.length<=1000000)(K:AV->AM->Prop)
  (hK:∀ex mid,(∀c∈ex,kj c)->m.boxes.length<=mid->gz (m.boxes++ex) mid (Yl fr g.ev [])->K (.agg (Qu g fr mid)) {m with boxes:=m.boxes++ex}):
  an Tryz.prog az Y 70 [.agg (Qo g),I fr] m K:=by
 obtain⟨mb,ml,ms,mn⟩:=m;refine Xe alj (fun _ _ _=>.junk) (by simp) ?_;simp[ape,Qo,Qc];refine Qj Er (anh g fr mb ml ms mn) (fun f _=>g.ev.length-(numOf (f 16)).toNat) ?_ ?_
 ·exact⟨0,[],[],(fun c h=>by cases h),by simp,by omega,by simp,by simp,by simp[Qo,Qc,Qu,moZ]⟩
 rintro f m ⟨i,b,bx,hbx,K4,hi,hb,iL,rfl⟩;rcases zzaa i g.ev.length with ai|bu
 ·obtain⟨e,he⟩:=aR ai;have ah:Qh (g.ev.map Qf) i=Qf e:=Qs (by simp[he]);have aa:(i:Int)<(g.ev.length:Int):=by omega
  have hw:=bK i (by omega);have hd:g.ev.drop i=e::g.ev.drop (i+1):=by rw[zzaf ai,(zza.1 he).2]
  rw[hd,Yl]at hb;by_cases hs:e.st<fr
  ·rw[if_pos hs]at hb;have eP:=Bt e.id true b;rcases Xq AV.bool e.id b 0 with⟨b1,b2,b3,b4⟩|⟨u,n,b1,b2,b3,b4,b5,b6⟩
   ·simp[K4,Er,aa,ah,hw,Qf,Qo,Qc,Qu,moZ,hs,b2];refine⟨aO,⟨i+1,Vb e.id true b,bx++[Qf e],kj.snoc hbx (kj.of (by simp[Qf]) (Mf e)),by simp,by omega,hb,by omega,by simp[Qo,Qc,Qu,moZ,Qf,b4]⟩,by omega⟩
   simp[K4,Er,aa,ah,hw,Qf,Qo,Qc,Qu,moZ,hs,b2];refine⟨aO,⟨i+1,Vb e.id true b,bx++[Qf e],kj.snoc hbx (kj.of (by simp[Qf]) (Mf e)),by simp,by omega,hb,by omega,by simp[Qo,Qc,Qu,moZ,Qf,b6]⟩,by omega⟩
  rw[if_neg hs]at hb;simp[K4,Er,aa,ah,hw,Qf,Qo,Qc,Qu,moZ,hs];refine⟨aO,⟨i+1,b,bx++[Qf e],kj.snoc hbx (kj.of (by simp[Qf]) (Mf e)),by simp,by omega,hb,by omega,by simp[Qo,Qc,Qu,moZ,Qf]⟩,by omega⟩
 obtain rfl:i=g.ev.length:=by omega
 rw[zzbo,Yl]at hb;subst hb;simp[K4,Er,apf,Qo,Qc,Qu,moZ];refine hK _ (mb.length+2) ?_ (by simp) ⟨by simp,by simp⟩;intro c hc;simp only[zzaw]at hc;obtain rfl|rfl|rfl|rfl|hc:=hc
 ·exact kj.of (by simp) (by simp[Zg])
 ·exact kj.mo g fr _
 ·exact kj.map _
 ·exact kj.mo g fr _
 exact hbx c hc
section
variable {n:Nat} {m':AM}
def Sg(n:Nat)(m':AM):List AV->List AV->Prop
 |[],[]=>True
 |a::xs,b::ys=>dL n m' a b/\Sg n m' xs ys
 |_,_=>False
def Sg.both:∀{xs ys:List AV},Sg n m' xs ys->xs.length=ys.length/\∀(i:Nat)(c d:AV),xs[i]?=some c->ys[i]?=some d->dL n m' c d
 |[],[],_=>⟨rfl,fun i c d h=>by simp at h⟩
 |[],_::_,h=>h.elim
 |_::_,[],h=>h.elim
 |a::xs,b::ys,h=>by
  obtain⟨h1,h2⟩:=Sg.both h.2;refine⟨by simp[h1],fun i c d q1 q2=>?_⟩;cases i with
  |zero=>cases q1;cases q2;exact h.1
  |succ i=>exact h2 i c d (by simpa using q1) (by simpa using q2)
def Hq{xs ys:List AV}(h:Sg n m' xs ys):dL n m' (.agg xs) (.agg ys):=dL.agg h.both.1 h.both.2
def Hr{xs ys:List AV}(h:Sg n m' xs ys):dL n m' (.aW xs) (.aW ys):=dL.aW h.both.1 h.both.2
def af6(k sz:Nat):dL n m' (.bs k 0 0 sz) (.sl .ro []):=fun N w0 aq γ' γ2 w' v hm hr h1 h2=>by
 obtain⟨b,cap,arr,J3,hβ,rfl,hlc,hh,hs⟩:=hr.cM;exact aB.sl (w:=w') (γ:=γ2) (rt:=.ro) (rows:=[]) b 0 sz (fun _ _=>undef) (zzbz _) (fun h=>by cases h) (fun h=>absurd rfl h) (fun _ h=>by cases h) (fun i j c h=>by simp[Qt]at h) (fun i j c h=>by simp[Qt]at h) trivial
def mY.frz{V:AV}{l:List En}(h:mY m'.boxes V l)(hk:G8 n V):dL n m' V (.sl .ro (l.map Qd)):=by
 obtain⟨rt,rfl,_⟩|⟨k,z,rfl,h2,h3,h4⟩:=h
 ·exact dL.sl _ _
 cases l with
 |nil=>exact af6 _ _
 |cons a r=>
  have bV:Zg (eT (a::r)++z)=true:=by
   have:=LQ (a::r);unfold Zg at this h4 |-
   rw[zzfd,this,h4];rfl
  have:=dL.bs (sz:=7) (len:=(a::r).length) (hk _ _ _ _ rfl) (Ke h2 h3) (by simp[eT,Qd]) bV (by rw[zzah,Jg];omega);rw[oo]at this;exact this
end
def ani:List AV:=[I 0,I 0,I 0,I 0,.sl .ro [],I 0,I 0,I 0,I 0,.sl .ro [],.sl .ro [],.sl .ro [],.sl .ro [],I 0]
def af7(x:Option (Pl×Int)):AV:=match x with
 |none=>.aW [.agg ani,.bool false]
 |some (q,d)=>.aW [.agg (Qc q++[I d]),.bool true]
def af8(Y:YT)(m:AM)(g:Pg)(f:Int)(mid:Nat)(b:List (Int×Bool))(o:Od)(h:af5 g f o)(hb:gz m.boxes mid b)(hB:∀c∈m.boxes,kj c):
  an Tryz.prog az Y 71 [.agg (Qu g f mid),.agg (Qq o)] m (fun r m'=>m'=m/\r=af7 (DH g f b o)):=by
 refine an.freeze (fun c hc=>(hB c hc).1) (fun c hc=>(hB c hc).2) (Mc Y m g f mid b o h hb _ (fun hx ex ls=>?_) (fun q d hx ex V rt ls hV hk aS=>?_))
 ·refine⟨ex,ls,_,rfl,?_,rfl⟩;rw[hx];refine Hr ⟨Hq ?_,dL.bool _,trivial⟩;unfold uV ani;refine⟨dL.int _ _,dL.int _ _,dL.int _ _,dL.int _ _,dL.sl _ _,dL.int _ _,dL.int _ _,dL.int _ _,dL.int _ _,dL.sl _ _,dL.sl _ _,dL.sl _ _,dL.sl _ _,dL.int _ _,trivial⟩
 refine⟨ex,ls,_,rfl,?_,rfl⟩;rw[hx];refine Hr ⟨Hq ?_,dL.bool _,trivial⟩;unfold Xp Qc;simp only[zzae,zzaj];exact⟨dL.int _ _,dL.int _ _,dL.int _ _,dL.int _ _,dL.sl _ _,dL.int _ _,dL.int _ _,dL.int _ _,dL.int _ _,dL.sl _ _,mY.frz hV hk,dL.sl _ _,dL.sl _ _,dL.int _ _,trivial⟩
def O1(Y:YT)(m:AM)(g:Pg)(f:Int)(mid:Nat)(b:List (Int×Bool))(o:Od)(h:af5 g f o)(hb:gz m.boxes mid b)(hB:∀c∈m.boxes,kj c)(K:AV->AM->Prop)(hK:K (af7 (DH g f b o)) m):
  an Tryz.prog az Y 71 [.agg (Qu g f mid),.agg (Qq o)] m K:=
 an.mono (af8 Y m g f mid b o h hb hB) (by rintro r m' ⟨rfl,rfl⟩;exact hK)
end Go.Proofs.YtnopaopphmjnmaaGreatDoor
