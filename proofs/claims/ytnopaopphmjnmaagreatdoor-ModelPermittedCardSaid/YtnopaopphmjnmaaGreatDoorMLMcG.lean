import Derived.Test.YtnopaopphmjnmaaGreatDoorMLMbZ
set_option linter.all false
set_option maxRecDepth 100000
set_option maxHeartbeats 64000000
namespace Go.Abs
open Go Go.RowKit
section
variable {N:Nat} {w0:ir} {aq:Nat->Nat->Prop} {γ γ':G} {w w':World} {P:Program} {gl:Nat->AV} {Y:YT}
def Sb(m':AM)(γ':G)(n:Nat)(b:Nat):Prop:=∃id,n<=id/\m'.boxes[id]?≠some []/\γ'.β id=some b
def dG(n:Nat)(m':AM)(r r':AV):Prop:=∀(N:Nat)(w0:ir)(aq:Nat->Nat->Prop)(γ' γ2:G)(w':World)(v:Value),au N w0 aq γ' w' m'.B m'.L->aB w' γ' r v->
 (∀b o,γ'.ro b o->γ2.ro b o)->(∀b,Sb m' γ' n b->∀o,γ2.ro b o)->aB w' γ2 r' v
def G.frz(γ1 γ':G)(m':AM)(n:Nat):G:={γ1 with ro:=fun b o=>γ1.ro b o\/Sb m' γ' n b}
def an.freeze{f:FuncId}{ags:List AV}{m:AM}{K:AV->Prop}(aK:∀c∈m.boxes,c≠[])(zh:∀c∈m.boxes,Lb c)
  (h:an P gl Y f ags m fun r m'=>∃ex exl r',m'={m with boxes:=m.boxes++ex,lens:=m.lens++exl}/\dG m.boxes.length m' r r'/\K r'):an P gl Y f ags m fun r m'=>m'=m/\K r:=by
 refine⟨h.1,fun N w0 aq γ w vs hm hl hg hy hr=>CallsIn.mono (h.2 N w0 aq γ w vs hm hl hg hy hr) ?_⟩;rintro en w' ⟨v,γ',r,m',rfl,g1,g2,g3,g4,ex,exl,r',rfl,g5,g6⟩;have e1:=g1.cR hm
 have m1:au N w0 aq (γ.cR m.lens.length γ') w' m.B m.L:=hm.cR (m1:=m) (mx:=m.boxes) (ex:=ex) (exl:=exl) g2 g1 rfl rfl rfl fun id cells b9 h1 h2=>by
  rw[h1]at h2;cases h2;exact .inl ⟨rfl,h1,zh _ (zzad h1)⟩
 obtain⟨γ1,hγ1⟩:∃γ1,γ1=γ.cR m.lens.length γ':=⟨_,rfl⟩;obtain⟨m',fO⟩:∃m':AM,m'={m with boxes:=m.boxes++ex,lens:=m.lens++exl}:=⟨_,rfl⟩;rw[<- fO]at g2 g3 g5;rw[<- hγ1]at e1 m1
 have hβ:∀{id b},γ1.β id=some b->id<m.boxes.length/\γ'.β id=some b:=fun{id b}h=>by
  rw[hγ1]at h;obtain⟨h1,h2⟩:=Yx h;obtain⟨b0,dO⟩:=zzcj.1 h1;obtain⟨_,_,_,_,c,hc⟩:=hm.β id b0 dO;exact⟨(zza.1 hc).1,h2⟩
 have eP:∀{id b},γ1.own id=some b->γ'.own id=some b:=fun{id b}h=>by
  rw[hγ1]at h;have h:(if id<m.lens.length then γ'.own id else none)=some b:=h;split at h
  ·exact h
  cases h
 have dy:γ1.sp=γ'.sp:=by rw[hγ1];rfl
 have hlp:γ1.lp=γ'.lp:=by rw[hγ1];rfl
 have dM:γ1.ro=γ'.ro:=by rw[hγ1];rfl
 have kU:∀{id b},γ1.mm id=some b->γ'.mm id=some b:=fun{id b}h=>by rw[hγ1]at h;exact(Qax h).2
 have nβ:∀{b},Sb m' γ' m.boxes.length b->∀id,γ1.β id≠some b:=fun{b}⟨j,j1,j2,j3⟩id h=>by
  obtain⟨h1,h2⟩:=hβ h
  have hB:m'.B id=some (m.boxes[id]):=by
   rw[fO];show(m.boxes++ex)[id]?=_;rw[zzag h1,zzac h1]
  rcases g2.inj id j b h2 j3 with k|k|k
  ·rw[hB]at k;exact aK _ (zzdi h1) (Option.some.inj k)
  ·exact j2 k
  omega
 have axk:∀{b},Sb m' γ' m.boxes.length b->∀id,γ'.own id≠some b:=fun{b}⟨j,j1,j2,j3⟩id=>(g2.β j b j3).2.2.2.1 id;have nsp:∀{b},Sb m' γ' m.boxes.length b->¬γ'.sp b:=fun{b}⟨j,j1,j2,j3⟩h=>(g2.sp b h).2.2.2.1 j j3;have nmm:∀{b},Sb m' γ' m.boxes.length b->∀id,γ'.mm id≠some b:=fun{b}⟨j,j1,j2,j3⟩id h=>(g2.mm id b h).2.2.2.1 j j3
 have ev:Ev w' γ1 w' (γ1.frz γ' m' m.boxes.length):=
  ⟨zzab _,fun _ _ _ h=>⟨.inl h,rfl⟩,fun _ _ h=>h,fun _=>zzab _,fun _ _ h=>h,rfl,
   fun id b _ h=>⟨h,fun arr _ h=>⟨arr,h,zzab _⟩,fun o h'=>h'.elim (fun x=>x) (fun hn=>absurd (eP h) (axk hn id))⟩,fun _ h=>⟨h,rfl⟩,Sz.refl _⟩
 refine⟨v,γ1.frz γ' m' m.boxes.length,r',m,rfl,e1.trans ev.dD,?_,?_,?_,rfl,g6⟩
 ·exact{
   bs:=w0.st _ _ _ _ g2.bs ⟨rfl,rfl,rfl,zzab _,fun _ _ _=>rfl,fun b o _ h=>⟨.inl (by rw[dM];exact h),rfl⟩,fun b hb=>.inl (by
     obtain⟨i,hi⟩|⟨i,hi⟩|hb|⟨i,hi⟩:=hb
     ·exact .inl ⟨i,(hβ hi).2⟩
     ·exact .inr (.inl ⟨i,eP hi⟩)
     ·exact .inr (.inr (.inl (by rw[<- dy];exact hb)))
     ·exact .inr (.inr (.inr ⟨i,kU hi⟩))),fun b o h=>by
     obtain h|⟨j,j1,j2,j3⟩:=h
     ·exact .inl (by rw[<- dM];exact h)
     exact .inr (.inl (.inl ⟨j,j3⟩))⟩
   hN:=m1.hN
   aq:=fun b o h=>by
    obtain h|⟨j,j1,j2,j3⟩:=h
    ·exact m1.aq b o h
    exact .inr (g2.β j b j3).1
   robd:=fun b o h=>by
    obtain h|⟨j,j1,j2,j3⟩:=h
    ·exact m1.robd b o h
    exact(g2.β j b j3).2.1
   box:=fun id cells b hb h1=>by
    obtain⟨arr,e,h2,h3,h4⟩:=m1.box id cells b hb h1;exact⟨arr,e,h2,h3.mono ev,h4⟩
   β:=fun id b hb=>by
    obtain⟨h1,h2,h3,h4,h5⟩:=m1.β id b hb;exact⟨h1,h2,fun o h=>h.elim (h3 o) (fun hn=>nβ hn id hb),h4,h5⟩
   inj:=m1.inj
   own:=m1.own
   oinj:=m1.oinj
   sp:=fun b hb=>by
    obtain⟨h1,h2,h3,h4⟩:=m1.sp b hb;exact⟨h1,h2,fun o h=>h.elim (h3 o) (fun hn=>nsp hn (by rw[<- dy];exact hb)),h4⟩
   mm:=fun id b hb=>by
    obtain⟨h1,h2,h3,h4,h5,h6,h8,h7⟩:=m1.mm id b hb;exact⟨h1,h2,fun o h=>h.elim (h3 o) (fun hn=>nmm hn id (kU hb)),h4,h5,h6,h8,h7.mono ev.dD.D4 rfl⟩
   minj:=m1.minj
   len:=m1.len
   cur0:=m1.cur0}
 ·have g3':cO γ1 w' m:=by
   rw[fO]at g3;unfold cO at g3 |-
   rw[hlp,dy];exact g3
  exact g3'.mono ev
 exact g5 N w0 aq γ' _ w' v g2 g4 (fun b o h=>.inl (by rw[dM];exact h)) fun b hb o=>.inr hb
variable {n:Nat} {m':AM}
def dG.bool(b:Bool):dG n m' (.bool b) (.bool b):=fun _ _ _ _ _ _ _ _ h _ _=>by rw[h.bA];exact .bool b
def dG.int(k:IntKind)(z:Int):dG n m' (.int k z) (.int k z):=fun _ _ _ _ _ _ _ _ h _ _=>by rw[h.aG];exact .int k z
def dG.agg{cs ds:List AV}(hl:cs.length=ds.length)(h:∀(i:Nat)(c d:AV),cs[i]?=some c->ds[i]?=some d->dG n m' c d):dG n m' (.agg cs) (.agg ds):=fun N w0 aq γ' γ2 w' v hm hr h1 h2=>by
 cases hr with
 |@agg _ _ arr kl k=>
  refine .agg (by omega) fun i d u hd hu=>?_;have hi:i<cs.length:=by have:=(zza.1 hd).1;omega
  exact h i cs[i] d (zzac hi) hd N w0 aq γ' γ2 w' u hm (k i cs[i] u (zzac hi) hu) h1 h2
def dG.aW{cs ds:List AV}(hl:cs.length=ds.length)(h:∀(i:Nat)(c d:AV),cs[i]?=some c->ds[i]?=some d->dG n m' c d):dG n m' (.aW cs) (.aW ds):=fun N w0 aq γ' γ2 w' v hm hr h1 h2=>by
 cases hr with
 |@aW _ _ arr kl k=>
  refine .aW (by omega) fun i d u hd hu=>?_;have hi:i<cs.length:=by have:=(zza.1 hd).1;omega
  exact h i cs[i] d (zzac hi) hd N w0 aq γ' γ2 w' u hm (k i cs[i] u (zzac hi) hu) h1 h2
def aai{γ' γ2:G}{w':World}(h1:∀b o,γ'.ro b o->γ2.ro b o){a:AV}{v:Value}(h:aB w' γ'.cT a v):aB w' γ2.cT a v:=
 h.mono ⟨zzab _,fun b o _ h=>⟨h1 b o h,rfl⟩,fun _ _ h=>(by cases h),fun _=>zzab _,fun _ _ h=>(by cases h),rfl,fun _ _ _ h=>(by cases h),fun _ h=>h.elim,Sz.refl w'⟩
def dG.sl(rt:Rt)(rows:List (List AV)):dG n m' (.sl rt rows) (.sl .ro rows):=fun N w0 aq γ' γ2 w' v hm hr h1 h2=>by
 cases hr with
 |sl b off sz cv hcap hnil ha hsz hc h aR=>
  exact .sl b off sz cv hcap hnil ha hsz (fun i j c q=>⟨(hc i j c q).1,h1 _ _ (hc i j c q).2.1,(hc i j c q).2.2⟩) (fun i j c q=>aai h1 (h i j c q)) trivial
def dG.bs{k len sz:Nat}{cells:List AV}(hn:n<=k)(hk:m'.boxes[k]?=some cells)(aK:cells≠[])(bQ:Zg cells=true)(hl:len*sz<=cells.length):dG n m' (.bs k 0 len sz) (.sl .ro (aV sz len cells)):=fun N w0 aq γ' γ2 w' v hm hr h1 h2=>by
 obtain⟨b,cap,arr,JU,hβ,rfl,hlc,hh,hs⟩:=hr.cI;obtain⟨bT,e',q2,q3,q4⟩:=hm.box k cells b hk hβ;rw[hh]at q2;cases q2;have hsz:=q3.1;simp only[zzbi]at hsz;have aH:(aV sz len cells).length=len:=by rw[Qad];simp
 have dY:∀row∈aV sz len cells,row.length=sz:=fun row ah=>by
  rw[Qad]at ah;simp only[zzax,zzbf]at ah;obtain⟨i,hi,rfl⟩:=ah;have:(i+1)*sz<=len*sz:=zzba _ hi;rw[zzbp,zzdl]at this;simp only[zzaq,zzcr];omega
 have ow:∀(i j:Nat)(c:AV),Qt (aV sz len cells) i j=some c->∃u,cells[i*sz+j]?=some c/\arr[i*sz+j]?=some u/\arr.getD (i*sz+j) undef=u/\aB w' γ' c u:=fun i j c h=>by
  rw[Qad]at h;unfold Qt at h;rcases zzaa i len with hi|hi
  ·rw[zzbl,zzef hi]at h;simp only[zzcv,zzcg]at h;rw[zzbj]at h;split at h
   ·rw[zzbk]at h;have ai:=(zza.1 h).1;exact⟨arr[i*sz+j],h,zzaj (by omega),by simp[show i*sz+j<arr.size by omega],q3.2 _ _ _ h (by simp[show i*sz+j<arr.size by omega])⟩
   cases h
  rw[zzbl,zzay (by simpa using hi)]at h;cases h
 have hB:∀id cells,m'.boxes[id]?=some cells->m'.B id=some cells:=fun _ _ h=>h;have ane:∀o,γ2.ro b o:=h2 b ⟨k,hn,by rw[hk];intro h;exact aK (Option.some.inj h),hβ⟩
 have:=aB.sl (w:=w') (γ:=γ2) (rt:=.ro) (rows:=aV sz len cells) (a:=some ⟨b,0,none⟩) (cap:=cap) b 0 sz (fun i j=>arr.getD (i*sz+j) undef) (by rw[aH];exact hlc) (fun h=>by cases h) (fun _=>⟨rfl,aT hh⟩) dY
  (
   fun i j c h=>by
   obtain⟨u,c1,c2,c3,c4⟩:=ow i j c h;rw[zzbv,aM hh,c2,c3];exact⟨rfl,ane _,q4 u (by rw[<- c3];simp[show i*sz+j<arr.size from(zzbw.1 c2).1])⟩)
  (
   fun i j c h=>by
   obtain⟨u,c1,c2,c3,c4⟩:=ow i j c h;rw[c3];have fE:Fv c=true:=zzbh.1 bQ c (zzad c1);have:=kK hm (m:=m') hB (ro':=γ2.ro) h1 1 c u c4 (fun hp=>by cases c<;>simp_all[Fv,Yj]);rw[N6 m' 0 fE]at this;exact this) trivial
 rw[aH]at this;exact this
end
end Go.Abs
namespace Go.Proofs.YtnopaopphmjnmaaGreatDoor
open Go Go.Abs
def sY(g:Pg)(f:Int)(b:List (Int×Bool))(o:Od):Option (Pl×Int):=
 if o.ki=1 then rJ g f b o else if o.ki=2 then(ym g o).map fun q=>(q,0)else if o.ki=3 then some (oh g f b o,0)else some (DA g o,0)
def DF(g:Pg)(f:Int)(b:List (Int×Bool))(o:Od)(q:Pl)(d:Int):Bool:=
 if o.ki=1 then Qbz g f b o q d else if o.ki=2 then !(Dw g f b o.en)else if o.ki=3 then p9 g o else true
def Bv(g:Pg)(f:Int)(b:List (Int×Bool))(o:Od):Option (Pl×Int):=
 if g.p.ln<=f then none else match sY g f b o with
 |none=>none
 |some (q,d)=>if(nU q&&DF g f b o q d)=true then some (q,d)else none
def af5(g:Pg)(f:Int)(b:List (Int×Bool))(o:Od)(e:En):sW (ua g f b o e):=by
 unfold ua;cases Br g f b o.en with
 |none=>exact Qdq _
 |some st=>
  have h1:=Qdq (e.fr+o.n);have h2:=Qdq (f-st);simp only;first|exact Qdq _|(split<;>assumption)|(unfold sW at*;omega)
structure PlB (q:Pl):Prop where
 sh:q.sh.length<=1000000
 aL:q.aL.length<=1000000
 ens:q.ens.length<=1000001
 bks:q.bks.length<=1000000
 cls:q.cls.length<=1000001
 als:∀e∈q.ens,e.al.length<=8796093022208
def yz{g:Pg}{f:Int}{b:List (Int×Bool)}{o:Od}{q:Pl}{d:Int}(hp:Bo g.p)(ho:o.nw.al.length<=8796093022208)(h:sY g f b o=some (q,d)):PlB q/\q.ln=g.p.ln/\sW d:=by
 obtain⟨h1,h2,h3,h4,h5,h6⟩:=hp;unfold sY at h;have j0:sW 0:=by unfold sW;omega
 split at h
 ·unfold rJ at h;split at h
  ·cases h
  rename_i e he;split at h
  ·cases h
  cases h;refine⟨⟨h1,h2,by simp;omega,h4,by show g.p.cls.length<=_;omega,fun x hx=>?_⟩,rfl,af5 _ _ _ _ _⟩;rcases zzgr hx with hx|rfl
  ·exact h6 x hx
  exact h6 e (zzad he)
 split at h
 ·unfold ym at h;split at h
  ·cases h
  cases h;exact⟨⟨h1,h2,by have:=zzbr (fun e=>!mV o.en e) g.p.ens;simp only;omega,h4,by show g.p.cls.length<=_;omega,fun x hx=>h6 x (zzck.1 hx).1⟩,rfl,j0⟩
 split at h
 ·cases h;refine⟨⟨h1,h2,by simp only[oh,zzah,zzaq,zzbb,zzcr];omega,h4,by show g.p.cls.length<=_;omega,fun x hx=>?_⟩,rfl,j0⟩;simp only[oh,zzao,zzat]at hx;obtain hx|rfl|hx:=hx
  ·exact h6 x (zzca hx)
  ·exact ho
  exact h6 x (zzdm hx)
 cases h;exact⟨⟨h1,h2,by show g.p.ens.length<=_;omega,h4,by simp only[DA,zzah,zzbb,zzch];omega,h6⟩,rfl,j0⟩
def PlB.S{q:Pl}(h:PlB q):PlS q:=⟨by have:=h.sh;omega,by have:=h.aL;omega,by have:=h.ens;omega,by have:=h.bks;omega,by have:=h.cls;omega,h.als⟩
def G9(q?:Option (Pl×Int)):Nat->FuncId->List AV->AV:=fun _ f _=>if f=120 then(match q? with|some (q,_)=>.bool (nU q)|none=>.junk)else .gd false .junk
def mW.put{mb:List (List AV)}{a b c c':List AV}{ex:List (List AV)}{V:AV}{l:List En}(h:mW (mb++(a::b::c::ex)) V l)(hk:GX (mb.length+3) V)(eO:List (List AV)):mW (mb++(a::b::c'::(ex++eO))) V l:=by
 obtain h|⟨k,z,rfl,h2,h3,h4⟩:=h
 ·exact .inl h
 have ck:=hk _ _ _ _ rfl;obtain⟨j,rfl⟩:∃j,k=mb.length+(j+3):=⟨k-mb.length-3,by omega⟩;have hg:=Uc h2;rw[h3,zzal (by omega),zzdq]at hg;simp only[zzdc]at hg;have hj:=(zza.1 hg).1;refine .inr ⟨_,z,rfl,by simp at h2 |-;omega,Qs ?_,h4⟩;rw[zzal (by omega),zzdq];simp only[zzdc];rw[zzag hj,hg]
structure af6 (g:Pg) (f:Int) (o:Od):Prop where
 mo:f<g.p.ln->lY g f
 pl:Bo g.p
 f0:0<=f
 ln:g.p.ln<=1000000
 n:sW o.n
 fr:∀e∈g.p.ens,sW e.fr
 dr:g.dr.length<=1000000000
 al:o.nw.al.length<=8796093022208
def LQ(Y:YT)(m:AM)(g:Pg)(f:Int)(mid:Nat)(b:List (Int×Bool))(o:Od)(h:af6 g f o)(hb:gj m.boxes mid b)(K:AV->AM->Prop)
  (h0:Bv g f b o=none->∀ex ls,K (.aW [.agg uP,.bool false]) {m with boxes:=m.boxes++ex,lens:=m.lens++ls})
  (h1:∀q d,Bv g f b o=some (q,d)->∀ex V rt ls,mW (m.boxes++ex) V q.ens->GX m.boxes.length V->Dz rt->K (.aW [.agg (Xq q V (.sl rt (q.cls.map Qg)) d),.bool true]) {m with boxes:=m.boxes++ex,lens:=m.lens++ls}):
  an Tryz.prog az Y 71 [.agg (Qu g f mid),.agg (Qq o)] m K:=by
 obtain⟨mb,ml,ms,mn⟩:=m;obtain⟨hm,hp,hf0,dg,hn,uv,dX,ho⟩:=h;have hB:∀ex,gj (mb++ex) mid b:=fun ex=>⟨by have:=hb.1;simp at this |-;omega,hb.ext ex⟩;by_cases AR:g.p.ln<=f
 ·have h0:=h0 (by unfold Bv;rw[if_pos AR]);refine Xe TO (fun _ _ _=>.gd false .junk) (by simp) ?_;simp[PK,PL,Qu,Qo,Qb,Qq,Qd,Qg,Qj,AR];have:=fun ex=>h0 ex [];simp[uP]at this;exact this _
 have hm:=hm (by omega);have QV:sW g.p.ln:=by unfold sW;omega
 have e1:Bv g f b o=match sY g f b o with
  |none=>none
  |some (q,d)=>if(nU q&&DF g f b o q d)=true then some (q,d)else none:=by unfold Bv;rw[if_neg AR]
 have key:∃fb fm:FuncId,((o.ki=1/\fb=137/\fm=138)\/(o.ki=2/\fb=139/\fm=140)\/(o.ki=3/\fb=141/\fm=142)\/(¬o.ki=1/\¬o.ki=2/\¬o.ki=3/\fb=135/\fm=136))/\
   (
    ∀(ex:List (List AV))(K:AV->AM->Prop),(sY g f b o=none->∀gZ,K (.aW [.agg uP,.bool false]) ⟨mb++(ex++gZ),ml,ms,mn⟩)->
    (∀q d,sY g f b o=some (q,d)->∀gZ V rt ls,mW (mb++(ex++gZ)) V q.ens->GX (mb++ex).length V->Dz rt->K (.aW [.agg (Xq q V (.sl rt (q.cls.map Qg)) d),.bool true]) ⟨mb++(ex++gZ),ml++ls,ms,mn⟩)->
    an Tryz.prog az Y fb [.agg (Qu g f mid),.agg (Qq o)] ⟨mb++ex,ml,ms,mn⟩ K)/\
   (
    ∀(ex:List (List AV))(ls:List Nat)(q:Pl)(d:Int)(V:AV)(rt:Rt)(K:AV->AM->Prop),sY g f b o=some (q,d)->mW (mb++ex) V q.ens->Dz rt->K (.bool (DF g f b o q d)) ⟨mb++ex,ml++ls,ms,mn⟩->
    an Tryz.prog az Y fm [.agg (Qu g f mid),.agg (Qq o),.agg (Xq q V (.sl rt (q.cls.map Qg)) d)] ⟨mb++ex,ml++ls,ms,mn⟩ K):=by
  by_cases k1:o.ki=1
  ·refine⟨137,138,.inl ⟨k1,rfl,rfl⟩,fun ex K q0 q1=>?_,fun ex ls q d V rt K hq hV aR hK=>?_⟩
   ·have ja:sY g f b o=rJ g f b o:=by unfold sY;rw[if_pos k1]
    refine afR Y ⟨mb++ex,ml,ms,mn⟩ g f mid b o hm hp (hB ex) hn QV uv K (fun hx gZ=>?_) (fun q d hx gZ k QL hk hr=>?_)
    ·have:=q0 (by rw[ja];exact hx) gZ;simpa using this
    have:=q1 q d (by rw[ja];exact hx) gZ (.bs k 0 q.ens.length 7) .ro [] (.inr ⟨k,[],rfl,by simpa using hk,by simpa[eH]using hr,rfl⟩) (GX.bs QL) Dz.ro;simpa using this
   have DG:DF g f b o q d=Qbz g f b o q d:=by unfold DF;rw[if_pos k1]
   obtain⟨Ty,hql,hqd⟩:=yz hp ho hq
   have hqe:q.ens.length=g.p.ens.length/\q.cls=g.p.cls:=by
    have ja:sY g f b o=rJ g f b o:=by unfold sY;rw[if_pos k1]
    rw[ja]at hq;unfold rJ at hq;split at hq
    ·cases hq
    split at hq
    ·cases hq
    cases hq;exact⟨by simp,rfl⟩
   refine an.mono (LI Y ⟨mb++ex,ml++ls,ms,mn⟩ g f mid b o q V rt d hV aR hm (hB ex) dX ⟨Ty.sh,Ty.aL,by rw[hqe.1];exact hp.2.2.1,Ty.bks,by rw[hqe.2];exact hp.2.2.2.2.1,Ty.als⟩ (by omega) hqd) ?_;rintro r m' ⟨rfl,rfl⟩;rw[<- DG];exact hK
  by_cases k2:o.ki=2
  ·refine⟨139,140,.inr (.inl ⟨k2,rfl,rfl⟩),fun ex K q0 q1=>?_,fun ex ls q d V rt K hq hV aR hK=>?_⟩
   ·have ja:sY g f b o=(ym g o).map fun q=>(q,0):=by unfold sY;rw[if_neg k1,if_pos k2]
    refine Z6 Y ⟨mb++ex,ml,ms,mn⟩ g f mid o hm hp K (fun hx gZ=>?_) (fun q hx gZ k z QL hk hr hz=>?_)
    ·have:=q0 (by rw[ja,hx];rfl) gZ;simpa using this
    have:=q1 q 0 (by rw[ja,hx];rfl) gZ (.bs k 0 q.ens.length 7) .ro [] (.inr ⟨k,z,rfl,by simpa using hk,by simpa using hr,hz⟩) (GX.bs QL) Dz.ro;simpa using this
   have DG:DF g f b o q d=!(Dw g f b o.en):=by unfold DF;rw[if_neg k1,if_pos k2]
   refine an.mono (GY Y ⟨mb++ex,ml++ls,ms,mn⟩ g f mid b o q V rt d hV hm (hB ex)) ?_;rintro r m' ⟨rfl,rfl⟩;rw[<- DG];exact hK
  by_cases k3:o.ki=3
  ·refine⟨141,142,.inr (.inr (.inl ⟨k3,rfl,rfl⟩)),fun ex K q0 q1=>?_,fun ex ls q d V rt K hq hV aR hK=>?_⟩
   ·have ja:sY g f b o=some (oh g f b o,0):=by unfold sY;rw[if_neg k1,if_neg k2,if_pos k3]
    refine LP Y ⟨mb++ex,ml,ms,mn⟩ g f mid b o hp (hB ex) ho K (fun gZ V ls hV LR=>?_);have:=q1 _ 0 ja gZ V .ro ls (by simpa using hV) LR Dz.ro;simpa[oh]using this
   have DG:DF g f b o q d=p9 g o:=by unfold DF;rw[if_neg k1,if_neg k2,if_pos k3]
   refine an.mono (LH Y ⟨mb++ex,ml++ls,ms,mn⟩ g f mid o q V rt d hV hm dX) ?_;rintro r m' ⟨rfl,rfl⟩;rw[<- DG];exact hK
  refine⟨135,136,.inr (.inr (.inr ⟨k1,k2,k3,rfl,rfl⟩)),fun ex K q0 q1=>?_,fun ex ls q d V rt K hq hV aR hK=>?_⟩
  ·have ja:sY g f b o=some (DA g o,0):=by unfold sY;rw[if_neg k1,if_neg k2,if_neg k3]
   refine Z8 Y ⟨mb++ex,ml,ms,mn⟩ g f mid o hp K (fun gZ V hV LR=>?_);have:=q1 _ 0 ja gZ V (.own ml.length 8) [g.p.cls.length+1] (by simpa[DA]using hV) LR (Dz.own _ _);simpa using this
  have DG:DF g f b o q d=true:=by unfold DF;rw[if_neg k1,if_neg k2,if_neg k3]
  refine an.mono (LF Y ⟨mb++ex,ml++ls,ms,mn⟩ g f mid o q V rt d hV) ?_;rintro r m' ⟨rfl,rfl⟩;rw[<- DG];exact hK
 obtain⟨fb,fm,hk,kb,km⟩:=key;simp only[Qu,Qo,Qb,Qq,Qd,Qg,Qj,zzae,zzai]at kb km;refine Xe TO (G9 (sY g f b o)) (by simp) ?_;obtain⟨k1,rfl,rfl⟩|⟨k1,rfl,rfl⟩|⟨k1,rfl,rfl⟩|⟨k1,k2,k3,rfl,rfl⟩:=hk
 ·simp[PK,PL,Qu,Qo,Qb,Qq,Qd,Qg,Qj,AR,k1,G9];rw[k1]at kb km;refine kb _ _ (fun hbn gZ=>?_) (fun q d iy gZ V rt ls hV LR aR=>?_)
  ·have h0:=fun ex=>h0 (by rw[e1,hbn]) ex [];simp[uP,zzan];simp[uP]at h0;exact h0 _
  have hc:=hV.cell;have fH:=fun ex ml d=>hV.bF ex ml ms mn d;have hE:=fun eO=>hV.ext eO;simp only[zzaw,zzae,zzai]at fH hE;have IM:=fun m d x=>aR m d x;obtain⟨Ty,hql,hqd⟩:=yz hp ho iy;have kv:=Wt q Ty.S;simp only[Qb]at kv;have km:=fun ex K hV hK=>km ex ls q d V rt K iy hV aR hK;simp only[Xq]at km;cases jW:nU q with
  |false=>
   rw[jW]at kv;have h0:=fun ex=>h0 (by rw[e1,iy];simp[jW]) ex ls;simp[Xq,iy,jW,zzan,hc,fH,IM];simp[uP]at h0;exact⟨kv,h0 _⟩
  |true=>
   rw[jW]at kv;simp[Xq,iy,jW,zzan,hc,fH,IM];refine⟨kv,km _ _ (hE _) ?_⟩;cases DG:DF g f b o q d with
   |false=>
    have h0:=fun ex=>h0 (by rw[e1,iy];simp[jW,DG]) ex ls;simp[zzan];simp[uP]at h0;exact h0 _
   |true=>
    have h1:=fun ex hV hk=>h1 q d (by rw[e1,iy];simp[jW,DG]) ex V rt ls hV hk aR;simp[zzan,hc];simp only[Xq]at h1;refine h1 _ ?_ (fun k o l s e=>by have:=LR k o l s e;simp at this;omega);exact mW.put (by simpa using hE []) (by simpa using LR) _
 ·simp[PK,PL,Qu,Qo,Qb,Qq,Qd,Qg,Qj,AR,k1,G9];rw[k1]at kb km;refine kb _ _ (fun hbn gZ=>?_) (fun q d iy gZ V rt ls hV LR aR=>?_)
  ·have h0:=fun ex=>h0 (by rw[e1,hbn]) ex [];simp[uP,zzan];simp[uP]at h0;exact h0 _
  have hc:=hV.cell;have fH:=fun ex ml d=>hV.bF ex ml ms mn d;have hE:=fun eO=>hV.ext eO;simp only[zzaw,zzae,zzai]at fH hE;have IM:=fun m d x=>aR m d x;obtain⟨Ty,hql,hqd⟩:=yz hp ho iy;have kv:=Wt q Ty.S;simp only[Qb]at kv;have km:=fun ex K hV hK=>km ex ls q d V rt K iy hV aR hK;simp only[Xq]at km;cases jW:nU q with
  |false=>
   rw[jW]at kv;have h0:=fun ex=>h0 (by rw[e1,iy];simp[jW]) ex ls;simp[Xq,iy,jW,zzan,hc,fH,IM];simp[uP]at h0;exact⟨kv,h0 _⟩
  |true=>
   rw[jW]at kv;simp[Xq,iy,jW,zzan,hc,fH,IM];refine⟨kv,km _ _ (hE _) ?_⟩;cases DG:DF g f b o q d with
   |false=>
    have h0:=fun ex=>h0 (by rw[e1,iy];simp[jW,DG]) ex ls;simp[zzan];simp[uP]at h0;exact h0 _
   |true=>
    have h1:=fun ex hV hk=>h1 q d (by rw[e1,iy];simp[jW,DG]) ex V rt ls hV hk aR;simp[zzan,hc];simp only[Xq]at h1;refine h1 _ ?_ (fun k o l s e=>by have:=LR k o l s e;simp at this;omega);exact mW.put (by simpa using hE []) (by simpa using LR) _
 ·simp[PK,PL,Qu,Qo,Qb,Qq,Qd,Qg,Qj,AR,k1,G9];rw[k1]at kb km;refine kb _ _ (fun hbn gZ=>?_) (fun q d iy gZ V rt ls hV LR aR=>?_)
  ·have h0:=fun ex=>h0 (by rw[e1,hbn]) ex [];simp[uP,zzan];simp[uP]at h0;exact h0 _
  have hc:=hV.cell;have fH:=fun ex ml d=>hV.bF ex ml ms mn d;have hE:=fun eO=>hV.ext eO;simp only[zzaw,zzae,zzai]at fH hE;have IM:=fun m d x=>aR m d x;obtain⟨Ty,hql,hqd⟩:=yz hp ho iy;have kv:=Wt q Ty.S;simp only[Qb]at kv;have km:=fun ex K hV hK=>km ex ls q d V rt K iy hV aR hK;simp only[Xq]at km;cases jW:nU q with
  |false=>
   rw[jW]at kv;have h0:=fun ex=>h0 (by rw[e1,iy];simp[jW]) ex ls;simp[Xq,iy,jW,zzan,hc,fH,IM];simp[uP]at h0;exact⟨kv,h0 _⟩
  |true=>
   rw[jW]at kv;simp[Xq,iy,jW,zzan,hc,fH,IM];refine⟨kv,km _ _ (hE _) ?_⟩;cases DG:DF g f b o q d with
   |false=>
    have h0:=fun ex=>h0 (by rw[e1,iy];simp[jW,DG]) ex ls;simp[zzan];simp[uP]at h0;exact h0 _
   |true=>
    have h1:=fun ex hV hk=>h1 q d (by rw[e1,iy];simp[jW,DG]) ex V rt ls hV hk aR;simp[zzan,hc];simp only[Xq]at h1;refine h1 _ ?_ (fun k o l s e=>by have:=LR k o l s e;simp at this;omega);exact mW.put (by simpa using hE []) (by simpa using LR) _
 simp[PK,PL,Qu,Qo,Qb,Qq,Qd,Qg,Qj,AR,k1,k2,k3,G9];refine kb _ _ (fun hbn gZ=>?_) (fun q d iy gZ V rt ls hV LR aR=>?_)
 ·have h0:=fun ex=>h0 (by rw[e1,hbn]) ex [];simp[uP,zzan];simp[uP]at h0;exact h0 _
 have hc:=hV.cell;have fH:=fun ex ml d=>hV.bF ex ml ms mn d;have hE:=fun eO=>hV.ext eO;simp only[zzaw,zzae,zzai]at fH hE;have IM:=fun m d x=>aR m d x;obtain⟨Ty,hql,hqd⟩:=yz hp ho iy;have kv:=Wt q Ty.S;simp only[Qb]at kv;have km:=fun ex K hV hK=>km ex ls q d V rt K iy hV aR hK;simp only[Xq]at km;cases jW:nU q with
 |false=>
  rw[jW]at kv;have h0:=fun ex=>h0 (by rw[e1,iy];simp[jW]) ex ls;simp[Xq,iy,jW,zzan,hc,fH,IM];simp[uP]at h0;exact⟨kv,h0 _⟩
 |true=>
  rw[jW]at kv;simp[Xq,iy,jW,zzan,hc,fH,IM];refine⟨kv,km _ _ (hE _) ?_⟩;cases DG:DF g f b o q d with
  |false=>
   have h0:=fun ex=>h0 (by rw[e1,iy];simp[jW,DG]) ex ls;simp[zzan];simp[uP]at h0;exact h0 _
  |true=>
   have h1:=fun ex hV hk=>h1 q d (by rw[e1,iy];simp[jW,DG]) ex V rt ls hV hk aR;simp[zzan,hc];simp only[Xq]at h1;refine h1 _ ?_ (fun k o l s e=>by have:=LR k o l s e;simp at this;omega);exact mW.put (by simpa using hE []) (by simpa using LR) _
def jX(c:List AV):Prop:=c≠[]/\Lb c
def Sc{a:AV}(h:Fv a=true):cn a:=by
 cases a<;>simp[Fv]at h
 case bool b=>exact cn.bool b
 case int k n=>exact cn.int k n
 case str s=>exact cn.str s
 case sl rt rows=>
  refine cn.sl fun i s e=>?_;subst e;simp at h
 case nilfn=>exact fun w γ v h=>by cases h;exact .nilfn
 case ep row o=>
  intro w γ v h;cases h with
  |ep cv hb hc h=>exact .ep cv hb hc h
def jX.of{c:List AV}(h0:c≠[])(h:Zg c=true):jX c:=by
 refine⟨h0,fun a ha=>⟨Sc (zzbh.1 h a ha),fun kn kvs e=>?_⟩⟩;have:=zzbh.1 h a ha;subst e;simp[Fv]at this
def jX.snoc{l:List (List AV)}{c:List AV}(h:∀x∈l,jX x)(hc:jX c):∀x∈l++[c],jX x:=fun x hx=>by
 rcases zzao.1 hx with hx|hx
 ·exact h x hx
 rw[zzbd.1 hx];exact hc
theorem LU(e:bD):Zg (Qf e)=true:=rfl
theorem as2(g:Pg):Zg (Qo g)=true:=rfl
def jX.mo(g:Pg)(f:Int)(mid:Nat):jX (Qu g f mid):=by
 refine⟨by simp[Qu],fun a ha=>?_⟩;rcases zzao.1 ha with ha|ha
 ·exact(jX.of (c:=Qo g) (by simp[Qo,Qb]) (as2 g)).2 a ha
 simp only[zzat,zzee,or_false]at ha;obtain rfl|rfl:=ha
 ·exact⟨cn.int _ _,fun _ _ h=>by cases h⟩
 exact⟨cn.mp _,fun _ _ h=>by cases h⟩
def jX.map(b:List (Int×Bool)):jX [.aJ 0 (bH .bool b)]:=by
 refine⟨by simp,fun a ha=>?_⟩;rw[zzbd.1 ha];refine⟨cn.aJ _ _,fun kn kvs h p hp=>?_⟩;cases h;simp only[bH,zzax]at hp;obtain⟨x,_,rfl⟩:=hp;exact cn.bool _
def anf(g:Pg)(fr:Int)(mb:List (List AV))(ml:List Nat)(ms:Nat->LS)(mn:Nat)(f:Nat->AV)(m:AM):Prop:=
 ∃(i:Nat)(b:List (Int×Bool))(bx:List (List AV)),(∀c∈bx,jX c)/\f 16=I i/\i<=g.ev.length/\Yg fr (g.ev.drop i) b=Yg fr g.ev []/\b.length<=i/\
  m=⟨mb++(Qo g::moZ::[.aJ 0 (bH .bool b)]::Qu g fr (mb.length+2)::bx),ml,ms,mn⟩
def Bw(Y:YT)(m:AM)(g:Pg)(fr:Int)(hl:g.ev.length<=1000000)(K:AV->AM->Prop)
  (hK:∀ex mid,(∀c∈ex,jX c)->m.boxes.length<=mid->gj (m.boxes++ex) mid (Yg fr g.ev [])->K (.agg (Qu g fr mid)) {m with boxes:=m.boxes++ex}):
  an Tryz.prog az Y 70 [.agg (Qo g),I fr] m K:=by
 obtain⟨mb,ml,ms,mn⟩:=m;refine Xe alj (fun _ _ _=>.junk) (by simp) ?_;simp[ao7,Qo,Qb];refine Qi El (anf g fr mb ml ms mn) (fun f _=>g.ev.length-(numOf (f 16)).toNat) ?_ ?_
 ·exact⟨0,[],[],(fun c h=>by cases h),by simp,by omega,by simp,by simp,by simp[Qo,Qb,Qu,moZ]⟩
 rintro f m ⟨i,b,bx,hbx,KR,hi,hb,ja,rfl⟩;rcases zzaa i g.ev.length with ai|bu
 ·obtain⟨e,he⟩:=aS ai;have ah:Qh (g.ev.map Qf) i=Qf e:=Qs (by simp[he]);have aa:(i:Int)<(g.ev.length:Int):=by omega
  have hw:=bJ i (by omega);have hd:g.ev.drop i=e::g.ev.drop (i+1):=by rw[zzaf ai,(zza.1 he).2]
  rw[hd,Yg]at hb;by_cases hs:e.st<fr
  ·rw[if_pos hs]at hb;have eu:=Bu e.id true b;rcases Xr AV.bool e.id b 0 with⟨b1,b2,b3,b4⟩|⟨u,n,b1,b2,b3,b4,b5,b6⟩
   ·simp[KR,El,aa,ah,hw,Qf,Qo,Qb,Qu,moZ,hs,b2];refine⟨aO,⟨i+1,Zq e.id true b,bx++[Qf e],jX.snoc hbx (jX.of (by simp[Qf]) (LU e)),by simp,by omega,hb,by omega,by simp[Qo,Qb,Qu,moZ,Qf,b4]⟩,by omega⟩
   simp[KR,El,aa,ah,hw,Qf,Qo,Qb,Qu,moZ,hs,b2];refine⟨aO,⟨i+1,Zq e.id true b,bx++[Qf e],jX.snoc hbx (jX.of (by simp[Qf]) (LU e)),by simp,by omega,hb,by omega,by simp[Qo,Qb,Qu,moZ,Qf,b6]⟩,by omega⟩
  rw[if_neg hs]at hb;simp[KR,El,aa,ah,hw,Qf,Qo,Qb,Qu,moZ,hs];refine⟨aO,⟨i+1,b,bx++[Qf e],jX.snoc hbx (jX.of (by simp[Qf]) (LU e)),by simp,by omega,hb,by omega,by simp[Qo,Qb,Qu,moZ,Qf]⟩,by omega⟩
 obtain rfl:i=g.ev.length:=by omega
 rw[zzbo,Yg]at hb;subst hb;simp[KR,El,ao8,Qo,Qb,Qu,moZ];refine hK _ (mb.length+2) ?_ (by simp) ⟨by simp,by simp⟩;intro c hc;simp only[zzat]at hc;obtain rfl|rfl|rfl|rfl|hc:=hc
 ·exact jX.of (by simp) (by simp[Zg])
 ·exact jX.mo g fr _
 ·exact jX.map _
 ·exact jX.mo g fr _
 exact hbx c hc
section
variable {n:Nat} {m':AM}
def Sd(n:Nat)(m':AM):List AV->List AV->Prop
 |[],[]=>True
 |a::xs,b::ys=>dG n m' a b/\Sd n m' xs ys
 |_,_=>False
def Sd.both:∀{xs ys:List AV},Sd n m' xs ys->xs.length=ys.length/\∀(i:Nat)(c d:AV),xs[i]?=some c->ys[i]?=some d->dG n m' c d
 |[],[],_=>⟨rfl,fun i c d h=>by simp at h⟩
 |[],_::_,h=>h.elim
 |_::_,[],h=>h.elim
 |a::xs,b::ys,h=>by
  obtain⟨h1,h2⟩:=Sd.both h.2;refine⟨by simp[h1],fun i c d q1 q2=>?_⟩;cases i with
  |zero=>cases q1;cases q2;exact h.1
  |succ i=>exact h2 i c d (by simpa using q1) (by simpa using q2)
def He{xs ys:List AV}(h:Sd n m' xs ys):dG n m' (.agg xs) (.agg ys):=dG.agg h.both.1 h.both.2
def Hf{xs ys:List AV}(h:Sd n m' xs ys):dG n m' (.aW xs) (.aW ys):=dG.aW h.both.1 h.both.2
def af7(k sz:Nat):dG n m' (.bs k 0 0 sz) (.sl .ro []):=fun N w0 aq γ' γ2 w' v hm hr h1 h2=>by
 obtain⟨b,cap,arr,JU,hβ,rfl,hlc,hh,hs⟩:=hr.cI;exact aB.sl (w:=w') (γ:=γ2) (rt:=.ro) (rows:=[]) b 0 sz (fun _ _=>undef) (zzcc _) (fun h=>by cases h) (fun h=>absurd rfl h) (fun _ h=>by cases h) (fun i j c h=>by simp[Qt]at h) (fun i j c h=>by simp[Qt]at h) trivial
def mW.frz{V:AV}{l:List En}(h:mW m'.boxes V l)(hk:GX n V):dG n m' V (.sl .ro (l.map Qd)):=by
 obtain⟨rt,rfl,_⟩|⟨k,z,rfl,h2,h3,h4⟩:=h
 ·exact dG.sl _ _
 cases l with
 |nil=>exact af7 _ _
 |cons a r=>
  have bQ:Zg (eH (a::r)++z)=true:=by
   have:=LB (a::r);unfold Zg at this h4 |-
   rw[zzfd,this,h4];rfl
  have:=dG.bs (sz:=7) (len:=(a::r).length) (hk _ _ _ _ rfl) (Jz h2 h3) (by simp[eH,Qd]) bQ (by rw[zzah,Uz];omega);rw[oe]at this;exact this
end
def ang:List AV:=[I 0,I 0,I 0,I 0,.sl .ro [],I 0,I 0,I 0,I 0,.sl .ro [],.sl .ro [],.sl .ro [],.sl .ro [],I 0]
def af8(x:Option (Pl×Int)):AV:=match x with
 |none=>.aW [.agg ang,.bool false]
 |some (q,d)=>.aW [.agg (Qb q++[I d]),.bool true]
def af9(Y:YT)(m:AM)(g:Pg)(f:Int)(mid:Nat)(b:List (Int×Bool))(o:Od)(h:af6 g f o)(hb:gj m.boxes mid b)(hB:∀c∈m.boxes,jX c):
  an Tryz.prog az Y 71 [.agg (Qu g f mid),.agg (Qq o)] m (fun r m'=>m'=m/\r=af8 (Bv g f b o)):=by
 refine an.freeze (fun c hc=>(hB c hc).1) (fun c hc=>(hB c hc).2) (LQ Y m g f mid b o h hb _ (fun hx ex ls=>?_) (fun q d hx ex V rt ls hV hk aR=>?_))
 ·refine⟨ex,ls,_,rfl,?_,rfl⟩;rw[hx];refine Hf ⟨He ?_,dG.bool _,trivial⟩;unfold uP ang;refine⟨dG.int _ _,dG.int _ _,dG.int _ _,dG.int _ _,dG.sl _ _,dG.int _ _,dG.int _ _,dG.int _ _,dG.int _ _,dG.sl _ _,dG.sl _ _,dG.sl _ _,dG.sl _ _,dG.int _ _,trivial⟩
 refine⟨ex,ls,_,rfl,?_,rfl⟩;rw[hx];refine Hf ⟨He ?_,dG.bool _,trivial⟩;unfold Xq Qb;simp only[zzae,zzai];exact⟨dG.int _ _,dG.int _ _,dG.int _ _,dG.int _ _,dG.sl _ _,dG.int _ _,dG.int _ _,dG.int _ _,dG.int _ _,dG.sl _ _,mW.frz hV hk,dG.sl _ _,dG.sl _ _,dG.int _ _,trivial⟩
def OM(Y:YT)(m:AM)(g:Pg)(f:Int)(mid:Nat)(b:List (Int×Bool))(o:Od)(h:af6 g f o)(hb:gj m.boxes mid b)(hB:∀c∈m.boxes,jX c)(K:AV->AM->Prop)(hK:K (af8 (Bv g f b o)) m):
  an Tryz.prog az Y 71 [.agg (Qu g f mid),.agg (Qq o)] m K:=
 an.mono (af9 Y m g f mid b o h hb hB) (by rintro r m' ⟨rfl,rfl⟩;exact hK)
end Go.Proofs.YtnopaopphmjnmaaGreatDoor
