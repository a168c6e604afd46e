import Derived.Test.YtnopaopphmjnmaaGreatDoorMDMbZ
set_option linter.all false
set_option maxRecDepth 100000
set_option maxHeartbeats 64000000
namespace Go.Abs
open Go Go.RowKit
section
variable {N:Nat} {w0:iu} {au:Nat->Nat->Prop} {γ γ':G} {w w':World} {P:Program} {gl:Nat->AV} {Y:YT}
def R9(m':AM)(γ':G)(n:Nat)(b:Nat):Prop:=∃id,n<=id/\m'.boxes[id]?≠some []/\γ'.β id=some b
def dH(n:Nat)(m':AM)(r r':AV):Prop:=∀(N:Nat)(w0:iu)(au:Nat->Nat->Prop)(γ' γ2:G)(w':World)(v:Value),az N w0 au γ' w' m'.B m'.L->aB w' γ' r v->
 (∀b o,γ'.ro b o->γ2.ro b o)->(∀b,R9 m' γ' n b->∀o,γ2.ro b o)->aB w' γ2 r' v
def G.frz(γ1 γ':G)(m':AM)(n:Nat):G:={γ1 with ro:=fun b o=>γ1.ro b o\/R9 m' γ' n b}
def an.freeze{f:FuncId}{asX:List AV}{m:AM}{K:AV->Prop}(aJ:∀c∈m.boxes,c≠[])(ue:∀c∈m.boxes,Ll c)
  (h:an P gl Y f asX m fun r m'=>∃ex exl r',m'={m with boxes:=m.boxes++ex,lens:=m.lens++exl}/\dH m.boxes.length m' r r'/\K r'):an P gl Y f asX m fun r m'=>m'=m/\K r:=by
 refine⟨h.1,fun N w0 au γ w vs hm hl hg hy hr=>CallsIn.mono (h.2 N w0 au γ w vs hm hl hg hy hr) ?_⟩;rintro en w' ⟨v,γ',r,m',rfl,g1,g2,g3,g4,ex,exl,r',rfl,g5,g6⟩;have e1:=g1.cS hm
 have m1:az N w0 au (γ.cS m.lens.length γ') w' m.B m.L:=hm.cS (m1:=m) (mx:=m.boxes) (ex:=ex) (exl:=exl) g2 g1 rfl rfl rfl fun id cells b9 h1 h2=>by
  rw[h1]at h2;cases h2;exact .inl ⟨rfl,h1,ue _ (zzac h1)⟩
 obtain⟨γ1,hγ1⟩:∃γ1,γ1=γ.cS m.lens.length γ':=⟨_,rfl⟩;obtain⟨m',fN⟩:∃m':AM,m'={m with boxes:=m.boxes++ex,lens:=m.lens++exl}:=⟨_,rfl⟩;rw[<- fN]at g2 g3 g5;rw[<- hγ1]at e1 m1
 have hβ:∀{id b},γ1.β id=some b->id<m.boxes.length/\γ'.β id=some b:=fun{id b}h=>by
  rw[hγ1]at h;obtain⟨h1,h2⟩:=Yu h;obtain⟨b0,dQ⟩:=zzcp.1 h1;obtain⟨_,_,_,_,c,hc⟩:=hm.β id b0 dQ;exact⟨(zza.1 hc).1,h2⟩
 have eR:∀{id b},γ1.own id=some b->γ'.own id=some b:=fun{id b}h=>by
  rw[hγ1]at h;have h:(if id<m.lens.length then γ'.own id else none)=some b:=h;split at h
  ·exact h
  cases h
 have dy:γ1.sp=γ'.sp:=by rw[hγ1];rfl
 have hlp:γ1.lp=γ'.lp:=by rw[hγ1];rfl
 have dF:γ1.ro=γ'.ro:=by rw[hγ1];rfl
 have mz:∀{id b},γ1.mm id=some b->γ'.mm id=some b:=fun{id b}h=>by rw[hγ1]at h;exact(Qas h).2
 have nβ:∀{b},R9 m' γ' m.boxes.length b->∀id,γ1.β id≠some b:=fun{b}⟨j,j1,j2,j3⟩id h=>by
  obtain⟨h1,h2⟩:=hβ h
  have hB:m'.B id=some (m.boxes[id]):=by
   rw[fN];show(m.boxes++ex)[id]?=_;rw[zzag h1,zzad h1]
  rcases g2.inj id j b h2 j3 with k|k|k
  ·rw[hB]at k;exact aJ _ (zzdh h1) (Option.some.inj k)
  ·exact j2 k
  omega
 have ayp:∀{b},R9 m' γ' m.boxes.length b->∀id,γ'.own id≠some b:=fun{b}⟨j,j1,j2,j3⟩id=>(g2.β j b j3).2.2.2.1 id;have nsp:∀{b},R9 m' γ' m.boxes.length b->¬γ'.sp b:=fun{b}⟨j,j1,j2,j3⟩h=>(g2.sp b h).2.2.2.1 j j3;have nmm:∀{b},R9 m' γ' m.boxes.length b->∀id,γ'.mm id≠some b:=fun{b}⟨j,j1,j2,j3⟩id h=>(g2.mm id b h).2.2.2.1 j j3
 have ev:Ev w' γ1 w' (γ1.frz γ' m' m.boxes.length):=
  ⟨zzab _,fun _ _ _ h=>⟨.inl h,rfl⟩,fun _ _ h=>h,fun _=>zzab _,fun _ _ h=>h,rfl,
   fun id b _ h=>⟨h,fun arr _ h=>⟨arr,h,zzab _⟩,fun o h'=>h'.elim (fun x=>x) (fun hn=>absurd (eR h) (ayp hn id))⟩,fun _ h=>⟨h,rfl⟩,Sz.refl _⟩
 refine⟨v,γ1.frz γ' m' m.boxes.length,r',m,rfl,e1.trans ev.dD,?_,?_,?_,rfl,g6⟩
 ·exact{
   bs:=w0.st _ _ _ _ g2.bs ⟨rfl,rfl,rfl,zzab _,fun _ _ _=>rfl,fun b o _ h=>⟨.inl (by rw[dF];exact h),rfl⟩,fun b hb=>.inl (by
     obtain⟨i,hi⟩|⟨i,hi⟩|hb|⟨i,hi⟩:=hb
     ·exact .inl ⟨i,(hβ hi).2⟩
     ·exact .inr (.inl ⟨i,eR hi⟩)
     ·exact .inr (.inr (.inl (by rw[<- dy];exact hb)))
     ·exact .inr (.inr (.inr ⟨i,mz hi⟩))),fun b o h=>by
     obtain h|⟨j,j1,j2,j3⟩:=h
     ·exact .inl (by rw[<- dF];exact h)
     exact .inr (.inl (.inl ⟨j,j3⟩))⟩
   hN:=m1.hN
   au:=fun b o h=>by
    obtain h|⟨j,j1,j2,j3⟩:=h
    ·exact m1.au b o h
    exact .inr (g2.β j b j3).1
   robd:=fun b o h=>by
    obtain h|⟨j,j1,j2,j3⟩:=h
    ·exact m1.robd b o h
    exact(g2.β j b j3).2.1
   box:=fun id cells b hb h1=>by
    obtain⟨arr,e,h2,h3,h4⟩:=m1.box id cells b hb h1;exact⟨arr,e,h2,h3.mono ev,h4⟩
   β:=fun id b hb=>by
    obtain⟨h1,h2,h3,h4,h5⟩:=m1.β id b hb;exact⟨h1,h2,fun o h=>h.elim (h3 o) (fun hn=>nβ hn id hb),h4,h5⟩
   inj:=m1.inj
   own:=m1.own
   oinj:=m1.oinj
   sp:=fun b hb=>by
    obtain⟨h1,h2,h3,h4⟩:=m1.sp b hb;exact⟨h1,h2,fun o h=>h.elim (h3 o) (fun hn=>nsp hn (by rw[<- dy];exact hb)),h4⟩
   mm:=fun id b hb=>by
    obtain⟨h1,h2,h3,h4,h5,h6,h8,h7⟩:=m1.mm id b hb;exact⟨h1,h2,fun o h=>h.elim (h3 o) (fun hn=>nmm hn id (mz hb)),h4,h5,h6,h8,h7.mono ev.dD.D2 rfl⟩
   minj:=m1.minj
   len:=m1.len
   cur0:=m1.cur0}
 ·have g3':cQ γ1 w' m:=by
   rw[fN]at g3;unfold cQ at g3 |-
   rw[hlp,dy];exact g3
  exact g3'.mono ev
 exact g5 N w0 au γ' _ w' v g2 g4 (fun b o h=>.inl (by rw[dF];exact h)) fun b hb o=>.inr hb
variable {n:Nat} {m':AM}
def dH.bool(b:Bool):dH n m' (.bool b) (.bool b):=fun _ _ _ _ _ _ _ _ h _ _=>by rw[h.bB];exact .bool b
def dH.int(k:IntKind)(z:Int):dH n m' (.int k z) (.int k z):=fun _ _ _ _ _ _ _ _ h _ _=>by rw[h.aH];exact .int k z
def dH.agg{cs ds:List AV}(hl:cs.length=ds.length)(h:∀(i:Nat)(c d:AV),cs[i]?=some c->ds[i]?=some d->dH n m' c d):dH n m' (.agg cs) (.agg ds):=fun N w0 au γ' γ2 w' v hm hr h1 h2=>by
 cases hr with
 |@agg _ _ arr kl k=>
  refine .agg (by omega) fun i d u hd hu=>?_;have hi:i<cs.length:=by have:=(zza.1 hd).1;omega
  exact h i cs[i] d (zzad hi) hd N w0 au γ' γ2 w' u hm (k i cs[i] u (zzad hi) hu) h1 h2
def dH.aU{cs ds:List AV}(hl:cs.length=ds.length)(h:∀(i:Nat)(c d:AV),cs[i]?=some c->ds[i]?=some d->dH n m' c d):dH n m' (.aU cs) (.aU ds):=fun N w0 au γ' γ2 w' v hm hr h1 h2=>by
 cases hr with
 |@aU _ _ arr kl k=>
  refine .aU (by omega) fun i d u hd hu=>?_;have hi:i<cs.length:=by have:=(zza.1 hd).1;omega
  exact h i cs[i] d (zzad hi) hd N w0 au γ' γ2 w' u hm (k i cs[i] u (zzad hi) hu) h1 h2
def aav{γ' γ2:G}{w':World}(h1:∀b o,γ'.ro b o->γ2.ro b o){a:AV}{v:Value}(h:aB w' γ'.cV a v):aB w' γ2.cV a v:=
 h.mono ⟨zzab _,fun b o _ h=>⟨h1 b o h,rfl⟩,fun _ _ h=>(by cases h),fun _=>zzab _,fun _ _ h=>(by cases h),rfl,fun _ _ _ h=>(by cases h),fun _ h=>h.elim,Sz.refl w'⟩
def dH.sl(rt:Rt)(rows:List (List AV)):dH n m' (.sl rt rows) (.sl .ro rows):=fun N w0 au γ' γ2 w' v hm hr h1 h2=>by
 cases hr with
 |sl b off sz cv hcap hnil ha hsz hc h aT=>
  exact .sl b off sz cv hcap hnil ha hsz (fun i j c q=>⟨(hc i j c q).1,h1 _ _ (hc i j c q).2.1,(hc i j c q).2.2⟩) (fun i j c q=>aav h1 (h i j c q)) trivial
def dH.bs{k len sz:Nat}{cells:List AV}(hn:n<=k)(hk:m'.boxes[k]?=some cells)(aJ:cells≠[])(bT:Zg cells=true)(hl:len*sz<=cells.length):dH n m' (.bs k 0 len sz) (.sl .ro (aV sz len cells)):=fun N w0 au γ' γ2 w' v hm hr h1 h2=>by
 obtain⟨b,cap,arr,J1,hβ,rfl,hlc,hh,hs⟩:=hr.cL;obtain⟨bR,e',q2,q3,q4⟩:=hm.box k cells b hk hβ;rw[hh]at q2;cases q2;have hsz:=q3.1;simp only[zzbi]at hsz;have aI:(aV sz len cells).length=len:=by rw[Qab];simp
 have ee:∀row∈aV sz len cells,row.length=sz:=fun row aa=>by
  rw[Qab]at aa;simp only[zzaw,zzbf]at aa;obtain⟨i,hi,rfl⟩:=aa;have:(i+1)*sz<=len*sz:=zzb _ hi;rw[zzbp,zzdj]at this;simp only[zzaq,zzco];omega
 have oe:∀(i j:Nat)(c:AV),Qt (aV sz len cells) i j=some c->∃u,cells[i*sz+j]?=some c/\arr[i*sz+j]?=some u/\arr.getD (i*sz+j) undef=u/\aB w' γ' c u:=fun i j c h=>by
  rw[Qab]at h;unfold Qt at h;rcases zzaa i len with hi|hi
  ·rw[zzbl,zzef hi]at h;simp only[zzcs,zzch]at h;rw[zzbj]at h;split at h
   ·rw[zzbk]at h;have ai:=(zza.1 h).1;exact⟨arr[i*sz+j],h,zzaj (by omega),by simp[show i*sz+j<arr.size by omega],q3.2 _ _ _ h (by simp[show i*sz+j<arr.size by omega])⟩
   cases h
  rw[zzbl,zzax (by simpa using hi)]at h;cases h
 have hB:∀id cells,m'.boxes[id]?=some cells->m'.B id=some cells:=fun _ _ h=>h;have an4:∀o,γ2.ro b o:=h2 b ⟨k,hn,by rw[hk];intro h;exact aJ (Option.some.inj h),hβ⟩
 have:=aB.sl (w:=w') (γ:=γ2) (rt:=.ro) (rows:=aV sz len cells) (a:=some ⟨b,0,none⟩) (cap:=cap) b 0 sz (fun i j=>arr.getD (i*sz+j) undef) (by rw[aI];exact hlc) (fun h=>by cases h) (fun _=>⟨rfl,aS hh⟩) ee
  (
   fun i j c h=>by
   obtain⟨u,c1,c2,c3,c4⟩:=oe i j c h;rw[zzbt,aM hh,c2,c3];exact⟨rfl,an4 _,q4 u (by rw[<- c3];simp[show i*sz+j<arr.size from(zzbu.1 c2).1])⟩)
  (
   fun i j c h=>by
   obtain⟨u,c1,c2,c3,c4⟩:=oe i j c h;rw[c3];have fE:Fx c=true:=zzbc.1 bT c (zzac c1);have:=kz hm (m:=m') hB (ro':=γ2.ro) h1 1 c u c4 (fun hp=>by cases c<;>simp_all[Fx,Yc]);rw[Oa m' 0 fE]at this;exact this) trivial
 rw[aI]at this;exact this
end
end Go.Abs
namespace Go.Proofs.YtnopaopphmjnmaaGreatDoor
open Go Go.Abs
def sV(g:Pg)(f:Int)(b:List (Int×Bool))(o:Od):Option (Pl×Int):=
 if o.ki=1 then rF g f b o else if o.ki=2 then(xX g o).map fun q=>(q,0)else if o.ki=3 then some (nW g f b o,0)else some (Dr g o,0)
def Dx(g:Pg)(f:Int)(b:List (Int×Bool))(o:Od)(q:Pl)(d:Int):Bool:=
 if o.ki=1 then Qbq g f b o q d else if o.ki=2 then !(Dm g f b o.en)else if o.ki=3 then pV g o else true
def Dy(g:Pg)(f:Int)(b:List (Int×Bool))(o:Od):Option (Pl×Int):=
 if g.p.ln<=f then none else match sV g f b o with
 |none=>none
 |some (q,d)=>if(qp q&&Dx g f b o q d)=true then some (q,d)else none
def agt(g:Pg)(f:Int)(b:List (Int×Bool))(o:Od)(e:En):sR (tX g f b o e):=by
 unfold tX;cases Bl g f b o.en with
 |none=>exact Qdj _
 |some st=>
  have h1:=Qdj (e.fr+o.n);have h2:=Qdj (f-st);simp only;first|exact Qdj _|(split<;>assumption)|(unfold sR at*;omega)
structure PlB (q:Pl):Prop where
 sh:q.sh.length<=1000000
 aL:q.aL.length<=1000000
 ens:q.ens.length<=1000001
 bks:q.bks.length<=1000000
 cls:q.cls.length<=1000001
 als:∀e∈q.ens,e.al.length<=8796093022208
def yf{g:Pg}{f:Int}{b:List (Int×Bool)}{o:Od}{q:Pl}{d:Int}(hp:Bh g.p)(ho:o.nw.al.length<=8796093022208)(h:sV g f b o=some (q,d)):PlB q/\q.ln=g.p.ln/\sR d:=by
 obtain⟨h1,h2,h3,h4,h5,h6⟩:=hp;unfold sV at h;have j0:sR 0:=by unfold sR;omega
 split at h
 ·unfold rF at h;split at h
  ·cases h
  rename_i e he;split at h
  ·cases h
  cases h;refine⟨⟨h1,h2,by simp;omega,h4,by show g.p.cls.length<=_;omega,fun x hx=>?_⟩,rfl,agt _ _ _ _ _⟩;rcases zzgh hx with hx|rfl
  ·exact h6 x hx
  exact h6 e (zzac he)
 split at h
 ·unfold xX at h;split at h
  ·cases h
  cases h;exact⟨⟨h1,h2,by have:=zzbs (fun e=>!mJ o.en e) g.p.ens;simp only;omega,h4,by show g.p.cls.length<=_;omega,fun x hx=>h6 x (zzcy.1 hx).1⟩,rfl,j0⟩
 split at h
 ·cases h;refine⟨⟨h1,h2,by simp only[nW,zzai,zzaq,zzbd,zzco];omega,h4,by show g.p.cls.length<=_;omega,fun x hx=>?_⟩,rfl,j0⟩;simp only[nW,zzap,zzau]at hx;obtain hx|rfl|hx:=hx
  ·exact h6 x (zzbv hx)
  ·exact ho
  exact h6 x (zzdk hx)
 cases h;exact⟨⟨h1,h2,by show g.p.ens.length<=_;omega,h4,by simp only[Dr,zzai,zzbd,zzcf];omega,h6⟩,rfl,j0⟩
def PlB.S{q:Pl}(h:PlB q):PlS q:=⟨by have:=h.sh;omega,by have:=h.aL;omega,by have:=h.ens;omega,by have:=h.bks;omega,by have:=h.cls;omega,h.als⟩
def Hf(q?:Option (Pl×Int)):Nat->FuncId->List AV->AV:=fun _ f _=>if f=120 then(match q? with|some (q,_)=>.bool (qp q)|none=>.junk)else .gd false .junk
def mM.put{mb:List (List AV)}{a b c c':List AV}{ex:List (List AV)}{V:AV}{l:List En}(h:mM (mb++(a::b::c::ex)) V l)(hk:G1 (mb.length+3) V)(eD:List (List AV)):mM (mb++(a::b::c'::(ex++eD))) V l:=by
 obtain h|⟨k,z,rfl,h2,h3,h4⟩:=h
 ·exact .inl h
 have bX:=hk _ _ _ _ rfl;obtain⟨j,rfl⟩:∃j,k=mb.length+(j+3):=⟨k-mb.length-3,by omega⟩;have hg:=Yz h2;rw[h3,zzal (by omega),zzdn]at hg;simp only[zzdf]at hg;have hj:=(zza.1 hg).1;refine .inr ⟨_,z,rfl,by simp at h2 |-;omega,Qr ?_,h4⟩;rw[zzal (by omega),zzdn];simp only[zzdf];rw[zzag hj,hg]
structure agu (g:Pg) (f:Int) (o:Od):Prop where
 mo:f<g.p.ln->lS g f
 pl:Bh g.p
 f0:0<=f
 ln:g.p.ln<=1000000
 n:sR o.n
 fr:∀e∈g.p.ens,sR e.fr
 dr:g.dr.length<=1000000000
 al:o.nw.al.length<=8796093022208
def L8(Y:YT)(m:AM)(g:Pg)(f:Int)(mid:Nat)(b:List (Int×Bool))(o:Od)(h:agu g f o)(hb:fW m.boxes mid b)(K:AV->AM->Prop)
  (h0:Dy g f b o=none->∀ex ls,K (.aU [.agg uF,.bool false]) {m with boxes:=m.boxes++ex,lens:=m.lens++ls})
  (h1:∀q d,Dy g f b o=some (q,d)->∀ex V rt ls,mM (m.boxes++ex) V q.ens->G1 m.boxes.length V->Dq rt->K (.aU [.agg (Xo q V (.sl rt (q.cls.map Qg)) d),.bool true]) {m with boxes:=m.boxes++ex,lens:=m.lens++ls}):
  an Tryz.prog aq Y 71 [.agg (Qu g f mid),.agg (Qp o)] m K:=by
 obtain⟨mb,ml,ms,mn⟩:=m;obtain⟨hm,hp,hf0,dx,hn,sE,dZ,ho⟩:=h;have hB:∀ex,fW (mb++ex) mid b:=fun ex=>⟨by have:=hb.1;simp at this |-;omega,hb.ext ex⟩;by_cases AK:g.p.ln<=f
 ·have h0:=h0 (by unfold Dy;rw[if_pos AK]);refine Xe TS (fun _ _ _=>.gd false .junk) (by simp) ?_;simp[PT,PU,Qu,Qo,Qc,Qp,Qd,Qg,Qj,AK];have:=fun ex=>h0 ex [];simp[uF]at this;exact this _
 have hm:=hm (by omega);have Tc:sR g.p.ln:=by unfold sR;omega
 have e1:Dy g f b o=match sV g f b o with
  |none=>none
  |some (q,d)=>if(qp q&&Dx g f b o q d)=true then some (q,d)else none:=by unfold Dy;rw[if_neg AK]
 have key:∃fb fm:FuncId,((o.ki=1/\fb=137/\fm=138)\/(o.ki=2/\fb=139/\fm=140)\/(o.ki=3/\fb=141/\fm=142)\/(¬o.ki=1/\¬o.ki=2/\¬o.ki=3/\fb=135/\fm=136))/\
   (
    ∀(ex:List (List AV))(K:AV->AM->Prop),(sV g f b o=none->∀gX,K (.aU [.agg uF,.bool false]) ⟨mb++(ex++gX),ml,ms,mn⟩)->
    (∀q d,sV g f b o=some (q,d)->∀gX V rt ls,mM (mb++(ex++gX)) V q.ens->G1 (mb++ex).length V->Dq rt->K (.aU [.agg (Xo q V (.sl rt (q.cls.map Qg)) d),.bool true]) ⟨mb++(ex++gX),ml++ls,ms,mn⟩)->
    an Tryz.prog aq Y fb [.agg (Qu g f mid),.agg (Qp o)] ⟨mb++ex,ml,ms,mn⟩ K)/\
   (
    ∀(ex:List (List AV))(ls:List Nat)(q:Pl)(d:Int)(V:AV)(rt:Rt)(K:AV->AM->Prop),sV g f b o=some (q,d)->mM (mb++ex) V q.ens->Dq rt->K (.bool (Dx g f b o q d)) ⟨mb++ex,ml++ls,ms,mn⟩->
    an Tryz.prog aq Y fm [.agg (Qu g f mid),.agg (Qp o),.agg (Xo q V (.sl rt (q.cls.map Qg)) d)] ⟨mb++ex,ml++ls,ms,mn⟩ K):=by
  by_cases k1:o.ki=1
  ·refine⟨137,138,.inl ⟨k1,rfl,rfl⟩,fun ex K q0 q1=>?_,fun ex ls q d V rt K hq hV aT hK=>?_⟩
   ·have iY:sV g f b o=rF g f b o:=by unfold sV;rw[if_pos k1]
    refine agd Y ⟨mb++ex,ml,ms,mn⟩ g f mid b o hm hp (hB ex) hn Tc sE K (fun hx gX=>?_) (fun q d hx gX k WY hk hr=>?_)
    ·have:=q0 (by rw[iY];exact hx) gX;simpa using this
    have:=q1 q d (by rw[iY];exact hx) gX (.bs k 0 q.ens.length 7) .ro [] (.inr ⟨k,[],rfl,by simpa using hk,by simpa[eM]using hr,rfl⟩) (G1.bs WY) Dq.ro;simpa using this
   have Dz:Dx g f b o q d=Qbq g f b o q d:=by unfold Dx;rw[if_pos k1]
   obtain⟨Tu,hql,hqd⟩:=yf hp ho hq
   have hqe:q.ens.length=g.p.ens.length/\q.cls=g.p.cls:=by
    have iY:sV g f b o=rF g f b o:=by unfold sV;rw[if_pos k1]
    rw[iY]at hq;unfold rF at hq;split at hq
    ·cases hq
    split at hq
    ·cases hq
    cases hq;exact⟨by simp,rfl⟩
   refine an.mono (LW Y ⟨mb++ex,ml++ls,ms,mn⟩ g f mid b o q V rt d hV aT hm (hB ex) dZ ⟨Tu.sh,Tu.aL,by rw[hqe.1];exact hp.2.2.1,Tu.bks,by rw[hqe.2];exact hp.2.2.2.2.1,Tu.als⟩ (by omega) hqd) ?_;rintro r m' ⟨rfl,rfl⟩;rw[<- Dz];exact hK
  by_cases k2:o.ki=2
  ·refine⟨139,140,.inr (.inl ⟨k2,rfl,rfl⟩),fun ex K q0 q1=>?_,fun ex ls q d V rt K hq hV aT hK=>?_⟩
   ·have iY:sV g f b o=(xX g o).map fun q=>(q,0):=by unfold sV;rw[if_neg k1,if_pos k2]
    refine aai Y ⟨mb++ex,ml,ms,mn⟩ g f mid o hm hp K (fun hx gX=>?_) (fun q hx gX k z WY hk hr hz=>?_)
    ·have:=q0 (by rw[iY,hx];rfl) gX;simpa using this
    have:=q1 q 0 (by rw[iY,hx];rfl) gX (.bs k 0 q.ens.length 7) .ro [] (.inr ⟨k,z,rfl,by simpa using hk,by simpa using hr,hz⟩) (G1.bs WY) Dq.ro;simpa using this
   have Dz:Dx g f b o q d=!(Dm g f b o.en):=by unfold Dx;rw[if_neg k1,if_pos k2]
   refine an.mono (G2 Y ⟨mb++ex,ml++ls,ms,mn⟩ g f mid b o q V rt d hV hm (hB ex)) ?_;rintro r m' ⟨rfl,rfl⟩;rw[<- Dz];exact hK
  by_cases k3:o.ki=3
  ·refine⟨141,142,.inr (.inr (.inl ⟨k3,rfl,rfl⟩)),fun ex K q0 q1=>?_,fun ex ls q d V rt K hq hV aT hK=>?_⟩
   ·have iY:sV g f b o=some (nW g f b o,0):=by unfold sV;rw[if_neg k1,if_neg k2,if_pos k3]
    refine L6 Y ⟨mb++ex,ml,ms,mn⟩ g f mid b o hp (hB ex) ho K (fun gX V ls hV L9=>?_);have:=q1 _ 0 iY gX V .ro ls (by simpa using hV) L9 Dq.ro;simpa[nW]using this
   have Dz:Dx g f b o q d=pV g o:=by unfold Dx;rw[if_neg k1,if_neg k2,if_pos k3]
   refine an.mono (LV Y ⟨mb++ex,ml++ls,ms,mn⟩ g f mid o q V rt d hV hm dZ) ?_;rintro r m' ⟨rfl,rfl⟩;rw[<- Dz];exact hK
  refine⟨135,136,.inr (.inr (.inr ⟨k1,k2,k3,rfl,rfl⟩)),fun ex K q0 q1=>?_,fun ex ls q d V rt K hq hV aT hK=>?_⟩
  ·have iY:sV g f b o=some (Dr g o,0):=by unfold sV;rw[if_neg k1,if_neg k2,if_neg k3]
   refine aak Y ⟨mb++ex,ml,ms,mn⟩ g f mid o hp K (fun gX V hV L9=>?_);have:=q1 _ 0 iY gX V (.own ml.length 8) [g.p.cls.length+1] (by simpa[Dr]using hV) L9 (Dq.own _ _);simpa using this
  have Dz:Dx g f b o q d=true:=by unfold Dx;rw[if_neg k1,if_neg k2,if_neg k3]
  refine an.mono (LR Y ⟨mb++ex,ml++ls,ms,mn⟩ g f mid o q V rt d hV) ?_;rintro r m' ⟨rfl,rfl⟩;rw[<- Dz];exact hK
 obtain⟨fb,fm,hk,kb,km⟩:=key;simp only[Qu,Qo,Qc,Qp,Qd,Qg,Qj,zzae,zzah]at kb km;refine Xe TS (Hf (sV g f b o)) (by simp) ?_;obtain⟨k1,rfl,rfl⟩|⟨k1,rfl,rfl⟩|⟨k1,rfl,rfl⟩|⟨k1,k2,k3,rfl,rfl⟩:=hk
 ·simp[PT,PU,Qu,Qo,Qc,Qp,Qd,Qg,Qj,AK,k1,Hf];rw[k1]at kb km;refine kb _ _ (fun hbn gX=>?_) (fun q d iy gX V rt ls hV L9 aT=>?_)
  ·have h0:=fun ex=>h0 (by rw[e1,hbn]) ex [];simp[uF,zzao];simp[uF]at h0;exact h0 _
  have hc:=hV.cell;have fG:=fun ex ml d=>hV.bF ex ml ms mn d;have hE:=fun eD=>hV.ext eD;simp only[zzba,zzae,zzah]at fG hE;have IC:=fun m d x=>aT m d x;obtain⟨Tu,hql,hqd⟩:=yf hp ho iy;have kv:=Wq q Tu.S;simp only[Qc]at kv;have km:=fun ex K hV hK=>km ex ls q d V rt K iy hV aT hK;simp only[Xo]at km;cases jU:qp q with
  |false=>
   rw[jU]at kv;have h0:=fun ex=>h0 (by rw[e1,iy];simp[jU]) ex ls;simp[Xo,iy,jU,zzao,hc,fG,IC];simp[uF]at h0;exact⟨kv,h0 _⟩
  |true=>
   rw[jU]at kv;simp[Xo,iy,jU,zzao,hc,fG,IC];refine⟨kv,km _ _ (hE _) ?_⟩;cases Dz:Dx g f b o q d with
   |false=>
    have h0:=fun ex=>h0 (by rw[e1,iy];simp[jU,Dz]) ex ls;simp[zzao];simp[uF]at h0;exact h0 _
   |true=>
    have h1:=fun ex hV hk=>h1 q d (by rw[e1,iy];simp[jU,Dz]) ex V rt ls hV hk aT;simp[zzao,hc];simp only[Xo]at h1;refine h1 _ ?_ (fun k o l s e=>by have:=L9 k o l s e;simp at this;omega);exact mM.put (by simpa using hE []) (by simpa using L9) _
 ·simp[PT,PU,Qu,Qo,Qc,Qp,Qd,Qg,Qj,AK,k1,Hf];rw[k1]at kb km;refine kb _ _ (fun hbn gX=>?_) (fun q d iy gX V rt ls hV L9 aT=>?_)
  ·have h0:=fun ex=>h0 (by rw[e1,hbn]) ex [];simp[uF,zzao];simp[uF]at h0;exact h0 _
  have hc:=hV.cell;have fG:=fun ex ml d=>hV.bF ex ml ms mn d;have hE:=fun eD=>hV.ext eD;simp only[zzba,zzae,zzah]at fG hE;have IC:=fun m d x=>aT m d x;obtain⟨Tu,hql,hqd⟩:=yf hp ho iy;have kv:=Wq q Tu.S;simp only[Qc]at kv;have km:=fun ex K hV hK=>km ex ls q d V rt K iy hV aT hK;simp only[Xo]at km;cases jU:qp q with
  |false=>
   rw[jU]at kv;have h0:=fun ex=>h0 (by rw[e1,iy];simp[jU]) ex ls;simp[Xo,iy,jU,zzao,hc,fG,IC];simp[uF]at h0;exact⟨kv,h0 _⟩
  |true=>
   rw[jU]at kv;simp[Xo,iy,jU,zzao,hc,fG,IC];refine⟨kv,km _ _ (hE _) ?_⟩;cases Dz:Dx g f b o q d with
   |false=>
    have h0:=fun ex=>h0 (by rw[e1,iy];simp[jU,Dz]) ex ls;simp[zzao];simp[uF]at h0;exact h0 _
   |true=>
    have h1:=fun ex hV hk=>h1 q d (by rw[e1,iy];simp[jU,Dz]) ex V rt ls hV hk aT;simp[zzao,hc];simp only[Xo]at h1;refine h1 _ ?_ (fun k o l s e=>by have:=L9 k o l s e;simp at this;omega);exact mM.put (by simpa using hE []) (by simpa using L9) _
 ·simp[PT,PU,Qu,Qo,Qc,Qp,Qd,Qg,Qj,AK,k1,Hf];rw[k1]at kb km;refine kb _ _ (fun hbn gX=>?_) (fun q d iy gX V rt ls hV L9 aT=>?_)
  ·have h0:=fun ex=>h0 (by rw[e1,hbn]) ex [];simp[uF,zzao];simp[uF]at h0;exact h0 _
  have hc:=hV.cell;have fG:=fun ex ml d=>hV.bF ex ml ms mn d;have hE:=fun eD=>hV.ext eD;simp only[zzba,zzae,zzah]at fG hE;have IC:=fun m d x=>aT m d x;obtain⟨Tu,hql,hqd⟩:=yf hp ho iy;have kv:=Wq q Tu.S;simp only[Qc]at kv;have km:=fun ex K hV hK=>km ex ls q d V rt K iy hV aT hK;simp only[Xo]at km;cases jU:qp q with
  |false=>
   rw[jU]at kv;have h0:=fun ex=>h0 (by rw[e1,iy];simp[jU]) ex ls;simp[Xo,iy,jU,zzao,hc,fG,IC];simp[uF]at h0;exact⟨kv,h0 _⟩
  |true=>
   rw[jU]at kv;simp[Xo,iy,jU,zzao,hc,fG,IC];refine⟨kv,km _ _ (hE _) ?_⟩;cases Dz:Dx g f b o q d with
   |false=>
    have h0:=fun ex=>h0 (by rw[e1,iy];simp[jU,Dz]) ex ls;simp[zzao];simp[uF]at h0;exact h0 _
   |true=>
    have h1:=fun ex hV hk=>h1 q d (by rw[e1,iy];simp[jU,Dz]) ex V rt ls hV hk aT;simp[zzao,hc];simp only[Xo]at h1;refine h1 _ ?_ (fun k o l s e=>by have:=L9 k o l s e;simp at this;omega);exact mM.put (by simpa using hE []) (by simpa using L9) _
 simp[PT,PU,Qu,Qo,Qc,Qp,Qd,Qg,Qj,AK,k1,k2,k3,Hf];refine kb _ _ (fun hbn gX=>?_) (fun q d iy gX V rt ls hV L9 aT=>?_)
 ·have h0:=fun ex=>h0 (by rw[e1,hbn]) ex [];simp[uF,zzao];simp[uF]at h0;exact h0 _
 have hc:=hV.cell;have fG:=fun ex ml d=>hV.bF ex ml ms mn d;have hE:=fun eD=>hV.ext eD;simp only[zzba,zzae,zzah]at fG hE;have IC:=fun m d x=>aT m d x;obtain⟨Tu,hql,hqd⟩:=yf hp ho iy;have kv:=Wq q Tu.S;simp only[Qc]at kv;have km:=fun ex K hV hK=>km ex ls q d V rt K iy hV aT hK;simp only[Xo]at km;cases jU:qp q with
 |false=>
  rw[jU]at kv;have h0:=fun ex=>h0 (by rw[e1,iy];simp[jU]) ex ls;simp[Xo,iy,jU,zzao,hc,fG,IC];simp[uF]at h0;exact⟨kv,h0 _⟩
 |true=>
  rw[jU]at kv;simp[Xo,iy,jU,zzao,hc,fG,IC];refine⟨kv,km _ _ (hE _) ?_⟩;cases Dz:Dx g f b o q d with
  |false=>
   have h0:=fun ex=>h0 (by rw[e1,iy];simp[jU,Dz]) ex ls;simp[zzao];simp[uF]at h0;exact h0 _
  |true=>
   have h1:=fun ex hV hk=>h1 q d (by rw[e1,iy];simp[jU,Dz]) ex V rt ls hV hk aT;simp[zzao,hc];simp only[Xo]at h1;refine h1 _ ?_ (fun k o l s e=>by have:=L9 k o l s e;simp at this;omega);exact mM.put (by simpa using hE []) (by simpa using L9) _
def jV(c:List AV):Prop:=c≠[]/\Ll c
def Sa{a:AV}(h:Fx a=true):ck a:=by
 cases a<;>simp[Fx]at h
 case bool b=>exact ck.bool b
 case int k n=>exact ck.int k n
 case str s=>exact ck.str s
 case sl rt rows=>
  refine ck.sl fun i s e=>?_;subst e;simp at h
 case nilfn=>exact fun w γ v h=>by cases h;exact .nilfn
 case ep row o=>
  intro w γ v h;cases h with
  |ep cv hb hc h=>exact .ep cv hb hc h
def jV.of{c:List AV}(h0:c≠[])(h:Zg c=true):jV c:=by
 refine⟨h0,fun a ha=>⟨Sa (zzbc.1 h a ha),fun kn kvs e=>?_⟩⟩;have:=zzbc.1 h a ha;subst e;simp[Fx]at this
def jV.snoc{l:List (List AV)}{c:List AV}(h:∀x∈l,jV x)(hc:jV c):∀x∈l++[c],jV x:=fun x hx=>by
 rcases zzap.1 hx with hx|hx
 ·exact h x hx
 rw[zzbr.1 hx];exact hc
theorem Ma(e:bD):Zg (Qf e)=true:=rfl
theorem at2(g:Pg):Zg (Qo g)=true:=rfl
def jV.mo(g:Pg)(f:Int)(mid:Nat):jV (Qu g f mid):=by
 refine⟨by simp[Qu],fun a ha=>?_⟩;rcases zzap.1 ha with ha|ha
 ·exact(jV.of (c:=Qo g) (by simp[Qo,Qc]) (at2 g)).2 a ha
 simp only[zzau,zzdr,or_false]at ha;obtain rfl|rfl:=ha
 ·exact⟨ck.int _ _,fun _ _ h=>by cases h⟩
 exact⟨ck.mp _,fun _ _ h=>by cases h⟩
def jV.map(b:List (Int×Bool)):jV [.aK 0 (bI .bool b)]:=by
 refine⟨by simp,fun a ha=>?_⟩;rw[zzbr.1 ha];refine⟨ck.aK _ _,fun kn kvs h p hp=>?_⟩;cases h;simp only[bI,zzaw]at hp;obtain⟨x,_,rfl⟩:=hp;exact ck.bool _
def an5(g:Pg)(fr:Int)(mb:List (List AV))(ml:List Nat)(ms:Nat->LS)(mn:Nat)(f:Nat->AV)(m:AM):Prop:=
 ∃(i:Nat)(b:List (Int×Bool))(bx:List (List AV)),(∀c∈bx,jV c)/\f 16=I i/\i<=g.ev.length/\Yd fr (g.ev.drop i) b=Yd fr g.ev []/\b.length<=i/\
  m=⟨mb++(Qo g::moZ::[.aK 0 (bI .bool b)]::Qu g fr (mb.length+2)::bx),ml,ms,mn⟩
def Bp(Y:YT)(m:AM)(g:Pg)(fr:Int)(hl:g.ev.length<=1000000)(K:AV->AM->Prop)
  (hK:∀ex mid,(∀c∈ex,jV c)->m.boxes.length<=mid->fW (m.boxes++ex) mid (Yd fr g.ev [])->K (.agg (Qu g fr mid)) {m with boxes:=m.boxes++ex}):
  an Tryz.prog aq Y 70 [.agg (Qo g),I fr] m K:=by
 obtain⟨mb,ml,ms,mn⟩:=m;refine Xe al2 (fun _ _ _=>.junk) (by simp) ?_;simp[ap1,Qo,Qc];refine Qi Em (an5 g fr mb ml ms mn) (fun f _=>g.ev.length-(numOf (f 16)).toNat) ?_ ?_
 ·exact⟨0,[],[],(fun c h=>by cases h),by simp,by omega,by simp,by simp,by simp[Qo,Qc,Qu,moZ]⟩
 rintro f m ⟨i,b,bx,hbx,zu,hi,hb,iY,rfl⟩;rcases zzaa i g.ev.length with ai|bw
 ·obtain⟨e,he⟩:=aP ai;have aa:Qh (g.ev.map Qf) i=Qf e:=Qr (by simp[he]);have ah:(i:Int)<(g.ev.length:Int):=by omega
  have hw:=bH i (by omega);have hd:g.ev.drop i=e::g.ev.drop (i+1):=by rw[zzaf ai,(zza.1 he).2]
  rw[hd,Yd]at hb;by_cases hs:e.st<fr
  ·rw[if_pos hs]at hb;have ei:=Bo e.id true b;rcases Xp AV.bool e.id b 0 with⟨b1,b2,b3,b4⟩|⟨u,n,b1,b2,b3,b4,b5,b6⟩
   ·simp[zu,Em,ah,aa,hw,Qf,Qo,Qc,Qu,moZ,hs,b2];refine⟨aN,⟨i+1,Zt e.id true b,bx++[Qf e],jV.snoc hbx (jV.of (by simp[Qf]) (Ma e)),by simp,by omega,hb,by omega,by simp[Qo,Qc,Qu,moZ,Qf,b4]⟩,by omega⟩
   simp[zu,Em,ah,aa,hw,Qf,Qo,Qc,Qu,moZ,hs,b2];refine⟨aN,⟨i+1,Zt e.id true b,bx++[Qf e],jV.snoc hbx (jV.of (by simp[Qf]) (Ma e)),by simp,by omega,hb,by omega,by simp[Qo,Qc,Qu,moZ,Qf,b6]⟩,by omega⟩
  rw[if_neg hs]at hb;simp[zu,Em,ah,aa,hw,Qf,Qo,Qc,Qu,moZ,hs];refine⟨aN,⟨i+1,b,bx++[Qf e],jV.snoc hbx (jV.of (by simp[Qf]) (Ma e)),by simp,by omega,hb,by omega,by simp[Qo,Qc,Qu,moZ,Qf]⟩,by omega⟩
 obtain rfl:i=g.ev.length:=by omega
 rw[zzbo,Yd]at hb;subst hb;simp[zu,Em,ap2,Qo,Qc,Qu,moZ];refine hK _ (mb.length+2) ?_ (by simp) ⟨by simp,by simp⟩;intro c hc;simp only[zzau]at hc;obtain rfl|rfl|rfl|rfl|hc:=hc
 ·exact jV.of (by simp) (by simp[Zg])
 ·exact jV.mo g fr _
 ·exact jV.map _
 ·exact jV.mo g fr _
 exact hbx c hc
section
variable {n:Nat} {m':AM}
def Sb(n:Nat)(m':AM):List AV->List AV->Prop
 |[],[]=>True
 |a::xs,b::ys=>dH n m' a b/\Sb n m' xs ys
 |_,_=>False
def Sb.both:∀{xs ys:List AV},Sb n m' xs ys->xs.length=ys.length/\∀(i:Nat)(c d:AV),xs[i]?=some c->ys[i]?=some d->dH n m' c d
 |[],[],_=>⟨rfl,fun i c d h=>by simp at h⟩
 |[],_::_,h=>h.elim
 |_::_,[],h=>h.elim
 |a::xs,b::ys,h=>by
  obtain⟨h1,h2⟩:=Sb.both h.2;refine⟨by simp[h1],fun i c d q1 q2=>?_⟩;cases i with
  |zero=>cases q1;cases q2;exact h.1
  |succ i=>exact h2 i c d (by simpa using q1) (by simpa using q2)
def Hg{xs ys:List AV}(h:Sb n m' xs ys):dH n m' (.agg xs) (.agg ys):=dH.agg h.both.1 h.both.2
def Hh{xs ys:List AV}(h:Sb n m' xs ys):dH n m' (.aU xs) (.aU ys):=dH.aU h.both.1 h.both.2
def agv(k sz:Nat):dH n m' (.bs k 0 0 sz) (.sl .ro []):=fun N w0 au γ' γ2 w' v hm hr h1 h2=>by
 obtain⟨b,cap,arr,J1,hβ,rfl,hlc,hh,hs⟩:=hr.cL;exact aB.sl (w:=w') (γ:=γ2) (rt:=.ro) (rows:=[]) b 0 sz (fun _ _=>undef) (zzcc _) (fun h=>by cases h) (fun h=>absurd rfl h) (fun _ h=>by cases h) (fun i j c h=>by simp[Qt]at h) (fun i j c h=>by simp[Qt]at h) trivial
def mM.frz{V:AV}{l:List En}(h:mM m'.boxes V l)(hk:G1 n V):dH n m' V (.sl .ro (l.map Qd)):=by
 obtain⟨rt,rfl,_⟩|⟨k,z,rfl,h2,h3,h4⟩:=h
 ·exact dH.sl _ _
 cases l with
 |nil=>exact agv _ _
 |cons a r=>
  have bT:Zg (eM (a::r)++z)=true:=by
   have:=LO (a::r);unfold Zg at this h4 |-
   rw[zzdy,this,h4];rfl
  have:=dH.bs (sz:=7) (len:=(a::r).length) (hk _ _ _ _ rfl) (Jt h2 h3) (by simp[eM,Qd]) bT (by rw[zzai,Ux];omega);rw[nU]at this;exact this
end
def an6:List AV:=[I 0,I 0,I 0,I 0,.sl .ro [],I 0,I 0,I 0,I 0,.sl .ro [],.sl .ro [],.sl .ro [],.sl .ro [],I 0]
def agw(x:Option (Pl×Int)):AV:=match x with
 |none=>.aU [.agg an6,.bool false]
 |some (q,d)=>.aU [.agg (Qc q++[I d]),.bool true]
def agx(Y:YT)(m:AM)(g:Pg)(f:Int)(mid:Nat)(b:List (Int×Bool))(o:Od)(h:agu g f o)(hb:fW m.boxes mid b)(hB:∀c∈m.boxes,jV c):
  an Tryz.prog aq Y 71 [.agg (Qu g f mid),.agg (Qp o)] m (fun r m'=>m'=m/\r=agw (Dy g f b o)):=by
 refine an.freeze (fun c hc=>(hB c hc).1) (fun c hc=>(hB c hc).2) (L8 Y m g f mid b o h hb _ (fun hx ex ls=>?_) (fun q d hx ex V rt ls hV hk aT=>?_))
 ·refine⟨ex,ls,_,rfl,?_,rfl⟩;rw[hx];refine Hh ⟨Hg ?_,dH.bool _,trivial⟩;unfold uF an6;refine⟨dH.int _ _,dH.int _ _,dH.int _ _,dH.int _ _,dH.sl _ _,dH.int _ _,dH.int _ _,dH.int _ _,dH.int _ _,dH.sl _ _,dH.sl _ _,dH.sl _ _,dH.sl _ _,dH.int _ _,trivial⟩
 refine⟨ex,ls,_,rfl,?_,rfl⟩;rw[hx];refine Hh ⟨Hg ?_,dH.bool _,trivial⟩;unfold Xo Qc;simp only[zzae,zzah];exact⟨dH.int _ _,dH.int _ _,dH.int _ _,dH.int _ _,dH.sl _ _,dH.int _ _,dH.int _ _,dH.int _ _,dH.int _ _,dH.sl _ _,mM.frz hV hk,dH.sl _ _,dH.sl _ _,dH.int _ _,trivial⟩
def OS(Y:YT)(m:AM)(g:Pg)(f:Int)(mid:Nat)(b:List (Int×Bool))(o:Od)(h:agu g f o)(hb:fW m.boxes mid b)(hB:∀c∈m.boxes,jV c)(K:AV->AM->Prop)(hK:K (agw (Dy g f b o)) m):
  an Tryz.prog aq Y 71 [.agg (Qu g f mid),.agg (Qp o)] m K:=
 an.mono (agx Y m g f mid b o h hb hB) (by rintro r m' ⟨rfl,rfl⟩;exact hK)
end Go.Proofs.YtnopaopphmjnmaaGreatDoor
