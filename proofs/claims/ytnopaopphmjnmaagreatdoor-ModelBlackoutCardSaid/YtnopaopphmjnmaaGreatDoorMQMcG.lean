import Derived.Test.YtnopaopphmjnmaaGreatDoorMQMcB
set_option linter.all false
set_option maxRecDepth 100000
set_option maxHeartbeats 64000000
namespace Go.Abs
open Go Go.RowKit
section
variable {N:Nat} {w0:fF} {aq:Nat->Nat->Prop} {γ γ':G} {w w':World} {P:Program} {gl:Nat->AV} {Y:YT}
def S3(m':AM)(γ':G)(n:Nat)(b:Nat):Prop:=∃id,n<=id/\m'.boxes[id]?≠some []/\γ'.β id=some b
def dQ(n:Nat)(m':AM)(r r':AV):Prop:=∀(N:Nat)(w0:fF)(aq:Nat->Nat->Prop)(γ' γ2:G)(w':World)(v:Value),au N w0 aq γ' w' m'.B m'.L->aC w' γ' r v->
 (∀b o,γ'.ro b o->γ2.ro b o)->(∀b,S3 m' γ' n b->∀o,γ2.ro b o)->aC w' γ2 r' v
def G.frz(γ1 γ':G)(m':AM)(n:Nat):G:={γ1 with ro:=fun b o=>γ1.ro b o\/S3 m' γ' n b}
def an.freeze{f:FuncId}{ags:List AV}{m:AM}{K:AV->Prop}(aM:∀c∈m.boxes,c≠[])(qT:∀c∈m.boxes,L5 c)
  (h:an P gl Y f ags m fun r m'=>∃ex exl r',m'={m with boxes:=m.boxes++ex,lens:=m.lens++exl}/\dQ m.boxes.length m' r r'/\K r'):an P gl Y f ags m fun r m'=>m'=m/\K r:=by
 refine⟨h.1,fun N w0 aq γ w vs hm hl hg hy hr=>CallsIn.mono (h.2 N w0 aq γ w vs hm hl hg hy hr) ?_⟩;rintro en w' ⟨v,γ',r,m',rfl,g1,g2,g3,g4,ex,exl,r',rfl,g5,g6⟩;have e1:=g1.dg hm
 have m1:au N w0 aq (γ.dg m.lens.length γ') w' m.B m.L:=hm.dg (m1:=m) (mx:=m.boxes) (ex:=ex) (exl:=exl) g2 g1 rfl rfl rfl fun id cells cq h1 h2=>by
  rw[h1]at h2;cases h2;exact .inl ⟨rfl,h1,qT _ (zzac h1)⟩
 obtain⟨γ1,hγ1⟩:∃γ1,γ1=γ.dg m.lens.length γ':=⟨_,rfl⟩;obtain⟨m',gi⟩:∃m':AM,m'={m with boxes:=m.boxes++ex,lens:=m.lens++exl}:=⟨_,rfl⟩;rw[<- gi]at g2 g3 g5;rw[<- hγ1]at e1 m1
 have hβ:∀{id b},γ1.β id=some b->id<m.boxes.length/\γ'.β id=some b:=fun{id b}h=>by
  rw[hγ1]at h;obtain⟨h1,h2⟩:=Ub h;obtain⟨b0,dV⟩:=zzci.1 h1;obtain⟨_,_,_,_,c,hc⟩:=hm.β id b0 dV;exact⟨(zza.1 hc).1,h2⟩
 have fh:∀{id b},γ1.own id=some b->γ'.own id=some b:=fun{id b}h=>by
  rw[hγ1]at h;have h:(if id<m.lens.length then γ'.own id else none)=some b:=h;split at h
  ·exact h
  cases h
 have cU:γ1.sp=γ'.sp:=by rw[hγ1];rfl
 have hlp:γ1.lp=γ'.lp:=by rw[hγ1];rfl
 have c9:γ1.ro=γ'.ro:=by rw[hγ1];rfl
 have gm:∀{id b},γ1.mm id=some b->γ'.mm id=some b:=fun{id b}h=>by rw[hγ1]at h;exact(Qbc h).2
 have nβ:∀{b},S3 m' γ' m.boxes.length b->∀id,γ1.β id≠some b:=fun{b}⟨j,j1,j2,j3⟩id h=>by
  obtain⟨h1,h2⟩:=hβ h
  have hB:m'.B id=some (m.boxes[id]):=by
   rw[gi];show(m.boxes++ex)[id]?=_;rw[zzag h1,zzae h1]
  rcases g2.inj id j b h2 j3 with k|k|k
  ·rw[hB]at k;exact aM _ (zzdk h1) (Option.some.inj k)
  ·exact j2 k
  omega
 have ayG:∀{b},S3 m' γ' m.boxes.length b->∀id,γ'.own id≠some b:=fun{b}⟨j,j1,j2,j3⟩id=>(g2.β j b j3).2.2.2.1 id;have nsp:∀{b},S3 m' γ' m.boxes.length b->¬γ'.sp b:=fun{b}⟨j,j1,j2,j3⟩h=>(g2.sp b h).2.2.2.1 j j3;have nmm:∀{b},S3 m' γ' m.boxes.length b->∀id,γ'.mm id≠some b:=fun{b}⟨j,j1,j2,j3⟩id h=>(g2.mm id b h).2.2.2.1 j j3
 have ev:Ev w' γ1 w' (γ1.frz γ' m' m.boxes.length):=
  ⟨zzab _,fun _ _ _ h=>⟨.inl h,rfl⟩,fun _ _ h=>h,fun _=>zzab _,fun _ _ h=>h,rfl,
   fun id b _ h=>⟨h,fun arr _ h=>⟨arr,h,zzab _⟩,fun o h'=>h'.elim (fun x=>x) (fun hn=>absurd (fh h) (ayG hn id))⟩,fun _ h=>⟨h,rfl⟩,Sz.refl _⟩
 refine⟨v,γ1.frz γ' m' m.boxes.length,r',m,rfl,e1.trans ev.cK,?_,?_,?_,rfl,g6⟩
 ·exact{
   bs:=w0.st _ _ _ _ g2.bs ⟨rfl,rfl,rfl,zzab _,fun _ _ _=>rfl,fun b o _ h=>⟨.inl (by rw[c9];exact h),rfl⟩,fun b hb=>.inl (by
     obtain⟨i,hi⟩|⟨i,hi⟩|hb|⟨i,hi⟩:=hb
     ·exact .inl ⟨i,(hβ hi).2⟩
     ·exact .inr (.inl ⟨i,fh hi⟩)
     ·exact .inr (.inr (.inl (by rw[<- cU];exact hb)))
     ·exact .inr (.inr (.inr ⟨i,gm hi⟩))),fun b o h=>by
     obtain h|⟨j,j1,j2,j3⟩:=h
     ·exact .inl (by rw[<- c9];exact h)
     exact .inr (.inl (.inl ⟨j,j3⟩))⟩
   hN:=m1.hN
   aq:=fun b o h=>by
    obtain h|⟨j,j1,j2,j3⟩:=h
    ·exact m1.aq b o h
    exact .inr (g2.β j b j3).1
   robd:=fun b o h=>by
    obtain h|⟨j,j1,j2,j3⟩:=h
    ·exact m1.robd b o h
    exact(g2.β j b j3).2.1
   box:=fun id cells b hb h1=>by
    obtain⟨arr,e,h2,h3,h4⟩:=m1.box id cells b hb h1;exact⟨arr,e,h2,h3.mono ev,h4⟩
   β:=fun id b hb=>by
    obtain⟨h1,h2,h3,h4,h5⟩:=m1.β id b hb;exact⟨h1,h2,fun o h=>h.elim (h3 o) (fun hn=>nβ hn id hb),h4,h5⟩
   inj:=m1.inj
   own:=m1.own
   oinj:=m1.oinj
   sp:=fun b hb=>by
    obtain⟨h1,h2,h3,h4⟩:=m1.sp b hb;exact⟨h1,h2,fun o h=>h.elim (h3 o) (fun hn=>nsp hn (by rw[<- cU];exact hb)),h4⟩
   mm:=fun id b hb=>by
    obtain⟨h1,h2,h3,h4,h5,h6,h8,h7⟩:=m1.mm id b hb;exact⟨h1,h2,fun o h=>h.elim (h3 o) (fun hn=>nmm hn id (gm hb)),h4,h5,h6,h8,h7.mono ev.cK.AR rfl⟩
   minj:=m1.minj
   len:=m1.len
   cur0:=m1.cur0}
 ·have g3':cZ γ1 w' m:=by
   rw[gi]at g3;unfold cZ at g3 |-
   rw[hlp,cU];exact g3
  exact g3'.mono ev
 exact g5 N w0 aq γ' _ w' v g2 g4 (fun b o h=>.inl (by rw[c9];exact h)) fun b hb o=>.inr hb
variable {n:Nat} {m':AM}
def dQ.bool(b:Bool):dQ n m' (.bool b) (.bool b):=fun _ _ _ _ _ _ _ _ h _ _=>by rw[h.bB];exact .bool b
def dQ.int(k:IntKind)(z:Int):dQ n m' (.int k z) (.int k z):=fun _ _ _ _ _ _ _ _ h _ _=>by rw[h.aI];exact .int k z
def dQ.agg{cs ds:List AV}(hl:cs.length=ds.length)(h:∀(i:Nat)(c d:AV),cs[i]?=some c->ds[i]?=some d->dQ n m' c d):dQ n m' (.agg cs) (.agg ds):=fun N w0 aq γ' γ2 w' v hm hr h1 h2=>by
 cases hr with
 |@agg _ _ arr kl k=>
  refine .agg zE fun i d u hd hu=>?_;have hi:i<cs.length:=by have:=(zza.1 hd).1;omega
  exact h i cs[i] d (zzae hi) hd N w0 aq γ' γ2 w' u hm (k i cs[i] u (zzae hi) hu) h1 h2
def dQ.aZ{cs ds:List AV}(hl:cs.length=ds.length)(h:∀(i:Nat)(c d:AV),cs[i]?=some c->ds[i]?=some d->dQ n m' c d):dQ n m' (.aZ cs) (.aZ ds):=fun N w0 aq γ' γ2 w' v hm hr h1 h2=>by
 cases hr with
 |@aZ _ _ arr kl k=>
  refine .aZ zE fun i d u hd hu=>?_;have hi:i<cs.length:=by have:=(zza.1 hd).1;omega
  exact h i cs[i] d (zzae hi) hd N w0 aq γ' γ2 w' u hm (k i cs[i] u (zzae hi) hu) h1 h2
def aaU{γ' γ2:G}{w':World}(h1:∀b o,γ'.ro b o->γ2.ro b o){a:AV}{v:Value}(h:aC w' γ'.cT a v):aC w' γ2.cT a v:=
 h.mono ⟨zzab _,fun b o _ h=>⟨h1 b o h,rfl⟩,fun _ _ h=>(by cases h),fun _=>zzab _,fun _ _ h=>(by cases h),rfl,fun _ _ _ h=>(by cases h),fun _ h=>h.elim,Sz.refl w'⟩
def dQ.sl(rt:Rt)(rows:List (List AV)):dQ n m' (.sl rt rows) (.sl .ro rows):=fun N w0 aq γ' γ2 w' v hm hr h1 h2=>by
 cases hr with
 |sl b off sz cv hcap hnil ha hsz hc h aT=>
  exact .sl b off sz cv hcap hnil ha hsz (fun i j c q=>⟨(hc i j c q).1,h1 _ _ (hc i j c q).2.1,(hc i j c q).2.2⟩) (fun i j c q=>aaU h1 (h i j c q)) trivial
def dQ.bs{k len sz:Nat}{cells:List AV}(hn:n<=k)(hk:m'.boxes[k]?=some cells)(aM:cells≠[])(bZ:Zj cells=true)(hl:len*sz<=cells.length):dQ n m' (.bs k 0 len sz) (.sl .ro (bh sz len cells)):=fun N w0 aq γ' γ2 w' v hm hr h1 h2=>by
 obtain⟨b,cap,arr,zn,hβ,rfl,hlc,hh,hs⟩:=hr.cQ;obtain⟨bR,e',q2,q3,q4⟩:=hm.box k cells b hk hβ;rw[hh]at q2;cases q2;have hsz:=q3.1;simp only[zzbk]at hsz;have aH:(bh sz len cells).length=len:=by rw[Qai];simp
 have ey:∀row∈bh sz len cells,row.length=sz:=fun row ah=>by
  rw[Qai]at ah;simp only[zzax,zzbb]at ah;obtain⟨i,hi,rfl⟩:=ah;have:(i+1)*sz<=len*sz:=zzbc _ hi;rw[zzbr,zzds]at this;simp only[zzaq,zzcr];omega
 have oE:∀(i j:Nat)(c:AV),Qv (bh sz len cells) i j=some c->∃u,cells[i*sz+j]?=some c/\arr[i*sz+j]?=some u/\arr.getD (i*sz+j) undef=u/\aC w' γ' c u:=fun i j c h=>by
  rw[Qai]at h;unfold Qv at h;rcases zzaa i len with hi|hi
  ·rw[zzbi,zzej hi]at h;simp only[zzcw,zzbz]at h;rw[zzbl]at h;split at h
   ·rw[zzbm]at h;have ai:=(zza.1 h).1;exact⟨arr[i*sz+j],h,zzaj zE,by simp[show i*sz+j<arr.size by omega],q3.2 _ _ _ h (by simp[show i*sz+j<arr.size by omega])⟩
   cases h
  rw[zzbi,zzaw (by simpa using hi)]at h;cases h
 have hB:∀id cells,m'.boxes[id]?=some cells->m'.B id=some cells:=fun _ _ h=>h;have an9:∀o,γ2.ro b o:=h2 b ⟨k,hn,by rw[hk];intro h;exact aM (Option.some.inj h),hβ⟩
 have:=aC.sl (w:=w') (γ:=γ2) (rt:=.ro) (rows:=bh sz len cells) (a:=some ⟨b,0,none⟩) (cap:=cap) b 0 sz (fun i j=>arr.getD (i*sz+j) undef) (by rw[aH];exact hlc) (fun h=>by cases h) (fun _=>⟨rfl,aS hh⟩) ey
  (
   fun i j c h=>by
   obtain⟨u,c1,c2,c3,c4⟩:=oE i j c h;rw[zzbw,aO hh,c2,c3];exact⟨rfl,an9 _,q4 u (by rw[<- c3];simp[show i*sz+j<arr.size from(zzby.1 c2).1])⟩)
  (
   fun i j c h=>by
   obtain⟨u,c1,c2,c3,c4⟩:=oE i j c h;rw[c3];have fN:Gd c=true:=zzbh.1 bZ c (zzac c1);have:=kU hm (m:=m') hB (ro':=γ2.ro) h1 1 c u c4 (fun hp=>by cases c<;>simp_all[Gd,Yl]);rw[OT m' 0 fN]at this;exact this) trivial
 rw[aH]at this;exact this
end
end Go.Abs
namespace Go.Proofs.YtnopaopphmjnmaaGreatDoor
open Go Go.Abs
def Wq(g:Pg)(f:Int)(b:List (Int×Bool))(o:Od):Option (Pl×Int):=
 if o.ki=1 then rY g f b o else if o.ki=2 then(yF g o).map fun q=>(q,0)else if o.ki=3 then some (ov g f b o,0)else some (Ak g o,0)
def D7(g:Pg)(f:Int)(b:List (Int×Bool))(o:Od)(q:Pl)(d:Int):Bool:=
 if o.ki=1 then Qch g f b o q d else if o.ki=2 then !(DY g f b o.en)else if o.ki=3 then qo g o else true
def yR(g:Pg)(f:Int)(b:List (Int×Bool))(o:Od):Option (Pl×Int):=
 if g.p.ln<=f then none else match Wq g f b o with
 |none=>none
 |some (q,d)=>if(oa q&&D7 g f b o q d)=true then some (q,d)else none
def agL(g:Pg)(f:Int)(b:List (Int×Bool))(o:Od)(e:En):tC (uA g f b o e):=by
 unfold uA;cases BM g f b o.en with
 |none=>exact Qea _
 |some st=>
  have h1:=Qea (e.fr+o.n);have h2:=Qea (f-st);simp only;first|exact Qea _|(split<;>assumption)|(unfold tC at*;omega)
structure PlB (q:Pl):Prop where
 sh:q.sh.length<=1000000
 aN:q.aN.length<=1000000
 ens:q.ens.length<=1000001
 bks:q.bks.length<=1000000
 cls:q.cls.length<=1000001
 als:∀e∈q.ens,e.al.length<=8796093022208
def yS{g:Pg}{f:Int}{b:List (Int×Bool)}{o:Od}{q:Pl}{d:Int}(hp:BJ g.p)(ho:o.nw.al.length<=8796093022208)(h:Wq g f b o=some (q,d)):PlB q/\q.ln=g.p.ln/\tC d:=by
 obtain⟨h1,h2,h3,h4,h5,h6⟩:=hp;unfold Wq at h;have j0:tC 0:=by unfold tC;omega
 split at h
 ·unfold rY at h;split at h
  ·cases h
  rename_i e he;split at h
  ·cases h
  cases h;refine⟨⟨h1,h2,by simp;omega,h4,by show g.p.cls.length<=_;omega,fun x hx=>?_⟩,rfl,agL _ _ _ _ _⟩;rcases zzgr hx with hx|rfl
  ·exact h6 x hx
  exact h6 e (zzac he)
 split at h
 ·unfold yF at h;split at h
  ·cases h
  cases h;exact⟨⟨h1,h2,by have:=zzbs (fun e=>!mZ o.en e) g.p.ens;simp only;omega,h4,by show g.p.cls.length<=_;omega,fun x hx=>h6 x (zzcg.1 hx).1⟩,rfl,j0⟩
 split at h
 ·cases h;refine⟨⟨h1,h2,by simp only[ov,zzai,zzaq,zzbe,zzcr];omega,h4,by show g.p.cls.length<=_;omega,fun x hx=>?_⟩,rfl,j0⟩;simp only[ov,zzam,zzat]at hx;obtain hx|rfl|hx:=hx
  ·exact h6 x (zzcb hx)
  ·exact ho
  exact h6 x (zzdt hx)
 cases h;exact⟨⟨h1,h2,by show g.p.ens.length<=_;omega,h4,by simp only[Ak,zzai,zzbe,zzcf];omega,h6⟩,rfl,j0⟩
def PlB.S{q:Pl}(h:PlB q):PlS q:=⟨by have:=h.sh;omega,by have:=h.aN;omega,by have:=h.ens;omega,by have:=h.bks;omega,by have:=h.cls;omega,h.als⟩
def HV(q?:Option (Pl×Int)):Nat->FuncId->List AV->AV:=fun _ f _=>if f=120 then(match q? with|some (q,_)=>.bool (oa q)|none=>.junk)else .gd false .junk
def nc.put{mb:List (List AV)}{a b c c':List AV}{ex:List (List AV)}{V:AV}{l:List En}(h:nc (mb++(a::b::c::ex)) V l)(hk:HI (mb.length+3) V)(eW:List (List AV)):nc (mb++(a::b::c'::(ex++eW))) V l:=by
 obtain h|⟨k,z,rfl,h2,h3,h4⟩:=h
 ·exact .inl h
 have cw:=hk _ _ _ _ rfl;obtain⟨j,rfl⟩:∃j,k=mb.length+(j+3):=⟨k-mb.length-3,zE⟩;have hg:=Ug h2;rw[h3,zzal zE,zzdw]at hg;simp only[zzdh]at hg;have hj:=(zza.1 hg).1;refine .inr ⟨_,z,rfl,by simp at h2 |-;omega,Qt ?_,h4⟩;rw[zzal zE,zzdw];simp only[zzdh];rw[zzag hj,hg]
structure aaV (g:Pg) (f:Int) (o:Od):Prop where
 mo:f<g.p.ln->mg g f
 pl:BJ g.p
 f0:0<=f
 ln:g.p.ln<=1000000
 n:tC o.n
 fr:∀e∈g.p.ens,tC e.fr
 dr:g.dr.length<=1000000000
 al:o.nw.al.length<=8796093022208
def MG(Y:YT)(m:AM)(g:Pg)(f:Int)(mid:Nat)(b:List (Int×Bool))(o:Od)(h:aaV g f o)(hb:gz m.boxes mid b)(K:AV->AM->Prop)
  (h0:yR g f b o=none->∀ex ls,K (.aZ [.agg vh,.bool false]) {m with boxes:=m.boxes++ex,lens:=m.lens++ls})
  (h1:∀q d,yR g f b o=some (q,d)->∀ex V rt ls,nc (m.boxes++ex) V q.ens->HI m.boxes.length V->D1 rt->K (.aZ [.agg (Xr q V (.sl rt (q.cls.map Qg)) d),.bool true]) {m with boxes:=m.boxes++ex,lens:=m.lens++ls}):
  an Tryz.prog aA Y 71 [.agg (Qr g f mid),.agg (Qp o)] m K:=by
 obtain⟨mb,ml,ms,mn⟩:=m;obtain⟨hm,hp,hf0,dy,hn,iS,ew,ho⟩:=h;have hB:∀ex,gz (mb++ex) mid b:=fun ex=>⟨by have:=hb.1;simp at this |-;omega,hb.ext ex⟩;by_cases rz:g.p.ln<=f
 ·have h0:=h0 (by unfold yR;rw[if_pos rz]);refine Xd UY (fun _ _ _=>.gd false .junk) zd ?_;simp[Q3,Q4,Qr,Qm,Qa,Qp,Qd,Qg,Qi,rz];have:=fun ex=>h0 ex [];simp[vh]at this;exact this _
 have hm:=hm zE;have RK:tC g.p.ln:=by unfold tC;omega
 have e1:yR g f b o=match Wq g f b o with
  |none=>none
  |some (q,d)=>if(oa q&&D7 g f b o q d)=true then some (q,d)else none:=by unfold yR;rw[if_neg rz]
 have key:∃fb fm:FuncId,((o.ki=1/\fb=137/\fm=138)\/(o.ki=2/\fb=139/\fm=140)\/(o.ki=3/\fb=141/\fm=142)\/(¬o.ki=1/\¬o.ki=2/\¬o.ki=3/\fb=135/\fm=136))/\
   (
    ∀(ex:List (List AV))(K:AV->AM->Prop),(Wq g f b o=none->∀ir,K (.aZ [.agg vh,.bool false]) ⟨mb++(ex++ir),ml,ms,mn⟩)->
    (∀q d,Wq g f b o=some (q,d)->∀ir V rt ls,nc (mb++(ex++ir)) V q.ens->HI (mb++ex).length V->D1 rt->K (.aZ [.agg (Xr q V (.sl rt (q.cls.map Qg)) d),.bool true]) ⟨mb++(ex++ir),ml++ls,ms,mn⟩)->
    an Tryz.prog aA Y fb [.agg (Qr g f mid),.agg (Qp o)] ⟨mb++ex,ml,ms,mn⟩ K)/\
   (
    ∀(ex:List (List AV))(ls:List Nat)(q:Pl)(d:Int)(V:AV)(rt:Rt)(K:AV->AM->Prop),Wq g f b o=some (q,d)->nc (mb++ex) V q.ens->D1 rt->K (.bool (D7 g f b o q d)) ⟨mb++ex,ml++ls,ms,mn⟩->
    an Tryz.prog aA Y fm [.agg (Qr g f mid),.agg (Qp o),.agg (Xr q V (.sl rt (q.cls.map Qg)) d)] ⟨mb++ex,ml++ls,ms,mn⟩ K):=by
  by_cases k1:o.ki=1
  ·refine⟨137,138,.inl ⟨k1,rfl,rfl⟩,fun ex K q0 q1=>?_,fun ex ls q d V rt K hq hV aT hK=>?_⟩
   ·have iP:Wq g f b o=rY g f b o:=by unfold Wq;rw[if_pos k1]
    refine agu Y ⟨mb++ex,ml,ms,mn⟩ g f mid b o hm hp (hB ex) hn RK iS K (fun hx ir=>?_) (fun q d hx ir k RF hk hr=>?_)
    ·have:=q0 (by rw[iP];exact hx) ir;simpa using this
    have:=q1 q d (by rw[iP];exact hx) ir (.bs k 0 q.ens.length 7) .ro [] (.inr ⟨k,[],rfl,by simpa using hk,by simpa[eY]using hr,rfl⟩) (HI.bs RF) D1.ro;simpa using this
   have D8:D7 g f b o q d=Qch g f b o q d:=by unfold D7;rw[if_pos k1]
   obtain⟨UF,hql,hqd⟩:=yS hp ho hq
   have hqe:q.ens.length=g.p.ens.length/\q.cls=g.p.cls:=by
    have iP:Wq g f b o=rY g f b o:=by unfold Wq;rw[if_pos k1]
    rw[iP]at hq;unfold rY at hq;split at hq
    ·cases hq
    split at hq
    ·cases hq
    cases hq;exact⟨zd,rfl⟩
   refine an.mono (Mx Y ⟨mb++ex,ml++ls,ms,mn⟩ g f mid b o q V rt d hV aT hm (hB ex) ew ⟨UF.sh,UF.aN,by rw[hqe.1];exact hp.2.2.1,UF.bks,by rw[hqe.2];exact hp.2.2.2.2.1,UF.als⟩ zE hqd) ?_;rintro r m' ⟨rfl,rfl⟩;rw[<- D8];exact hK
  by_cases k2:o.ki=2
  ·refine⟨139,140,.inr (.inl ⟨k2,rfl,rfl⟩),fun ex K q0 q1=>?_,fun ex ls q d V rt K hq hV aT hK=>?_⟩
   ·have iP:Wq g f b o=(yF g o).map fun q=>(q,0):=by unfold Wq;rw[if_neg k1,if_pos k2]
    refine aaF Y ⟨mb++ex,ml,ms,mn⟩ g f mid o hm hp K (fun hx ir=>?_) (fun q hx ir k z RF hk hr hz=>?_)
    ·have:=q0 (by rw[iP,hx];rfl) ir;simpa using this
    have:=q1 q 0 (by rw[iP,hx];rfl) ir (.bs k 0 q.ens.length 7) .ro [] (.inr ⟨k,z,rfl,by simpa using hk,by simpa using hr,hz⟩) (HI.bs RF) D1.ro;simpa using this
   have D8:D7 g f b o q d=!(DY g f b o.en):=by unfold D7;rw[if_neg k1,if_pos k2]
   refine an.mono (HJ Y ⟨mb++ex,ml++ls,ms,mn⟩ g f mid b o q V rt d hV hm (hB ex)) ?_;rintro r m' ⟨rfl,rfl⟩;rw[<- D8];exact hK
  by_cases k3:o.ki=3
  ·refine⟨141,142,.inr (.inr (.inl ⟨k3,rfl,rfl⟩)),fun ex K q0 q1=>?_,fun ex ls q d V rt K hq hV aT hK=>?_⟩
   ·have iP:Wq g f b o=some (ov g f b o,0):=by unfold Wq;rw[if_neg k1,if_neg k2,if_pos k3]
    refine MD Y ⟨mb++ex,ml,ms,mn⟩ g f mid b o hp (hB ex) ho K (fun ir V ls hV MH=>?_);have:=q1 _ 0 iP ir V .ro ls (by simpa using hV) MH D1.ro;simpa[ov]using this
   have D8:D7 g f b o q d=qo g o:=by unfold D7;rw[if_neg k1,if_neg k2,if_pos k3]
   refine an.mono (Mw Y ⟨mb++ex,ml++ls,ms,mn⟩ g f mid o q V rt d hV hm ew) ?_;rintro r m' ⟨rfl,rfl⟩;rw[<- D8];exact hK
  refine⟨135,136,.inr (.inr (.inr ⟨k1,k2,k3,rfl,rfl⟩)),fun ex K q0 q1=>?_,fun ex ls q d V rt K hq hV aT hK=>?_⟩
  ·have iP:Wq g f b o=some (Ak g o,0):=by unfold Wq;rw[if_neg k1,if_neg k2,if_neg k3]
   refine aaH Y ⟨mb++ex,ml,ms,mn⟩ g f mid o hp K (fun ir V hV MH=>?_);have:=q1 _ 0 iP ir V (.own ml.length 8) [g.p.cls.length+1] (by simpa[Ak]using hV) MH (D1.own _ _);simpa using this
  have D8:D7 g f b o q d=true:=by unfold D7;rw[if_neg k1,if_neg k2,if_neg k3]
  refine an.mono (Mu Y ⟨mb++ex,ml++ls,ms,mn⟩ g f mid o q V rt d hV) ?_;rintro r m' ⟨rfl,rfl⟩;rw[<- D8];exact hK
 obtain⟨fb,fm,hk,kb,km⟩:=key;simp only[Qr,Qm,Qa,Qp,Qd,Qg,Qi,zzad,zzah]at kb km;refine Xd UY (HV (Wq g f b o)) zd ?_;obtain⟨k1,rfl,rfl⟩|⟨k1,rfl,rfl⟩|⟨k1,rfl,rfl⟩|⟨k1,k2,k3,rfl,rfl⟩:=hk
 ·simp[Q3,Q4,Qr,Qm,Qa,Qp,Qd,Qg,Qi,rz,k1,HV];rw[k1]at kb km;refine kb _ _ (fun hbn ir=>?_) (fun q d iG ir V rt ls hV MH aT=>?_)
  ·have h0:=fun ex=>h0 (by rw[e1,hbn]) ex [];simp[vh,zzao];simp[vh]at h0;exact h0 _
  have hc:=hV.cell;have fS:=fun ex ml d=>hV.bJ ex ml ms mn d;have hE:=fun eW=>hV.ext eW;simp only[zzb,zzad,zzah]at fS hE;have JU:=fun m d x=>aT m d x;obtain⟨UF,hql,hqd⟩:=yS hp ho iG;have kv:=Wz q UF.S;simp only[Qa]at kv;have km:=fun ex K hV hK=>km ex ls q d V rt K iG hV aT hK;simp only[Xr]at km;cases ko:oa q with
  |false=>
   rw[ko]at kv;have h0:=fun ex=>h0 (by rw[e1,iG];simp[ko]) ex ls;simp[Xr,iG,ko,zzao,hc,fS,JU];simp[vh]at h0;exact⟨kv,h0 _⟩
  |true=>
   rw[ko]at kv;simp[Xr,iG,ko,zzao,hc,fS,JU];refine⟨kv,km _ _ (hE _) ?_⟩;cases D8:D7 g f b o q d with
   |false=>
    have h0:=fun ex=>h0 (by rw[e1,iG];simp[ko,D8]) ex ls;simp[zzao];simp[vh]at h0;exact h0 _
   |true=>
    have h1:=fun ex hV hk=>h1 q d (by rw[e1,iG];simp[ko,D8]) ex V rt ls hV hk aT;simp[zzao,hc];simp only[Xr]at h1;refine h1 _ ?_ (fun k o l s e=>by have:=MH k o l s e;simp at this;omega);exact nc.put (by simpa using hE []) (by simpa using MH) _
 ·simp[Q3,Q4,Qr,Qm,Qa,Qp,Qd,Qg,Qi,rz,k1,HV];rw[k1]at kb km;refine kb _ _ (fun hbn ir=>?_) (fun q d iG ir V rt ls hV MH aT=>?_)
  ·have h0:=fun ex=>h0 (by rw[e1,hbn]) ex [];simp[vh,zzao];simp[vh]at h0;exact h0 _
  have hc:=hV.cell;have fS:=fun ex ml d=>hV.bJ ex ml ms mn d;have hE:=fun eW=>hV.ext eW;simp only[zzb,zzad,zzah]at fS hE;have JU:=fun m d x=>aT m d x;obtain⟨UF,hql,hqd⟩:=yS hp ho iG;have kv:=Wz q UF.S;simp only[Qa]at kv;have km:=fun ex K hV hK=>km ex ls q d V rt K iG hV aT hK;simp only[Xr]at km;cases ko:oa q with
  |false=>
   rw[ko]at kv;have h0:=fun ex=>h0 (by rw[e1,iG];simp[ko]) ex ls;simp[Xr,iG,ko,zzao,hc,fS,JU];simp[vh]at h0;exact⟨kv,h0 _⟩
  |true=>
   rw[ko]at kv;simp[Xr,iG,ko,zzao,hc,fS,JU];refine⟨kv,km _ _ (hE _) ?_⟩;cases D8:D7 g f b o q d with
   |false=>
    have h0:=fun ex=>h0 (by rw[e1,iG];simp[ko,D8]) ex ls;simp[zzao];simp[vh]at h0;exact h0 _
   |true=>
    have h1:=fun ex hV hk=>h1 q d (by rw[e1,iG];simp[ko,D8]) ex V rt ls hV hk aT;simp[zzao,hc];simp only[Xr]at h1;refine h1 _ ?_ (fun k o l s e=>by have:=MH k o l s e;simp at this;omega);exact nc.put (by simpa using hE []) (by simpa using MH) _
 ·simp[Q3,Q4,Qr,Qm,Qa,Qp,Qd,Qg,Qi,rz,k1,HV];rw[k1]at kb km;refine kb _ _ (fun hbn ir=>?_) (fun q d iG ir V rt ls hV MH aT=>?_)
  ·have h0:=fun ex=>h0 (by rw[e1,hbn]) ex [];simp[vh,zzao];simp[vh]at h0;exact h0 _
  have hc:=hV.cell;have fS:=fun ex ml d=>hV.bJ ex ml ms mn d;have hE:=fun eW=>hV.ext eW;simp only[zzb,zzad,zzah]at fS hE;have JU:=fun m d x=>aT m d x;obtain⟨UF,hql,hqd⟩:=yS hp ho iG;have kv:=Wz q UF.S;simp only[Qa]at kv;have km:=fun ex K hV hK=>km ex ls q d V rt K iG hV aT hK;simp only[Xr]at km;cases ko:oa q with
  |false=>
   rw[ko]at kv;have h0:=fun ex=>h0 (by rw[e1,iG];simp[ko]) ex ls;simp[Xr,iG,ko,zzao,hc,fS,JU];simp[vh]at h0;exact⟨kv,h0 _⟩
  |true=>
   rw[ko]at kv;simp[Xr,iG,ko,zzao,hc,fS,JU];refine⟨kv,km _ _ (hE _) ?_⟩;cases D8:D7 g f b o q d with
   |false=>
    have h0:=fun ex=>h0 (by rw[e1,iG];simp[ko,D8]) ex ls;simp[zzao];simp[vh]at h0;exact h0 _
   |true=>
    have h1:=fun ex hV hk=>h1 q d (by rw[e1,iG];simp[ko,D8]) ex V rt ls hV hk aT;simp[zzao,hc];simp only[Xr]at h1;refine h1 _ ?_ (fun k o l s e=>by have:=MH k o l s e;simp at this;omega);exact nc.put (by simpa using hE []) (by simpa using MH) _
 simp[Q3,Q4,Qr,Qm,Qa,Qp,Qd,Qg,Qi,rz,k1,k2,k3,HV];refine kb _ _ (fun hbn ir=>?_) (fun q d iG ir V rt ls hV MH aT=>?_)
 ·have h0:=fun ex=>h0 (by rw[e1,hbn]) ex [];simp[vh,zzao];simp[vh]at h0;exact h0 _
 have hc:=hV.cell;have fS:=fun ex ml d=>hV.bJ ex ml ms mn d;have hE:=fun eW=>hV.ext eW;simp only[zzb,zzad,zzah]at fS hE;have JU:=fun m d x=>aT m d x;obtain⟨UF,hql,hqd⟩:=yS hp ho iG;have kv:=Wz q UF.S;simp only[Qa]at kv;have km:=fun ex K hV hK=>km ex ls q d V rt K iG hV aT hK;simp only[Xr]at km;cases ko:oa q with
 |false=>
  rw[ko]at kv;have h0:=fun ex=>h0 (by rw[e1,iG];simp[ko]) ex ls;simp[Xr,iG,ko,zzao,hc,fS,JU];simp[vh]at h0;exact⟨kv,h0 _⟩
 |true=>
  rw[ko]at kv;simp[Xr,iG,ko,zzao,hc,fS,JU];refine⟨kv,km _ _ (hE _) ?_⟩;cases D8:D7 g f b o q d with
  |false=>
   have h0:=fun ex=>h0 (by rw[e1,iG];simp[ko,D8]) ex ls;simp[zzao];simp[vh]at h0;exact h0 _
  |true=>
   have h1:=fun ex hV hk=>h1 q d (by rw[e1,iG];simp[ko,D8]) ex V rt ls hV hk aT;simp[zzao,hc];simp only[Xr]at h1;refine h1 _ ?_ (fun k o l s e=>by have:=MH k o l s e;simp at this;omega);exact nc.put (by simpa using hE []) (by simpa using MH) _
def fe(c:List AV):Prop:=c≠[]/\L5 c
def S4{a:AV}(h:Gd a=true):cz a:=by
 cases a<;>simp[Gd]at h
 case bool b=>exact cz.bool b
 case int k n=>exact cz.int k n
 case str s=>exact cz.str s
 case sl rt rows=>
  refine cz.sl fun i s e=>?_;subst e;simp at h
 case nilfn=>exact fun w γ v h=>by cases h;exact .nilfn
 case ep row o=>
  intro w γ v h;cases h with
  |ep cv hb hc h=>exact .ep cv hb hc h
def fe.of{c:List AV}(h0:c≠[])(h:Zj c=true):fe c:=by
 refine⟨h0,fun a ha=>⟨S4 (zzbh.1 h a ha),fun kn kvs e=>?_⟩⟩;have:=zzbh.1 h a ha;subst e;simp[Gd]at this
def fe.snoc{l:List (List AV)}{c:List AV}(h:∀x∈l,fe x)(hc:fe c):∀x∈l++[c],fe x:=fun x hx=>by
 rcases zzam.1 hx with hx|hx
 ·exact h x hx
 rw[zzbd.1 hx];exact hc
theorem D9(e:bE):Zj (Qe e)=true:=rfl
theorem aaW(g:Pg):Zj (Qm g)=true:=rfl
def fe.mo(g:Pg)(f:Int)(mid:Nat):fe (Qr g f mid):=by
 refine⟨by simp[Qr],fun a ha=>?_⟩;rcases zzam.1 ha with ha|ha
 ·exact(fe.of (c:=Qm g) (by simp[Qm,Qa]) (aaW g)).2 a ha
 simp only[zzat,zzdy,or_false]at ha;obtain rfl|rfl:=ha
 ·exact⟨cz.int _ _,fun _ _ h=>by cases h⟩
 exact⟨cz.mp _,fun _ _ h=>by cases h⟩
def fe.map(b:List (Int×Bool)):fe [.aL 0 (bH .bool b)]:=by
 refine⟨zd,fun a ha=>?_⟩;rw[zzbd.1 ha];refine⟨cz.aL _ _,fun kn kvs h p hp=>?_⟩;cases h;simp only[bH,zzax]at hp;obtain⟨x,_,rfl⟩:=hp;exact cz.bool _
def aoa(g:Pg)(fr:Int)(mb:List (List AV))(ml:List Nat)(ms:Nat->LS)(mn:Nat)(f:Nat->AV)(m:AM):Prop:=
 ∃(i:Nat)(b:List (Int×Bool))(bx:List (List AV)),(∀c∈bx,fe c)/\f 16=I i/\i<=g.ev.length/\Vb fr (g.ev.drop i) b=Vb fr g.ev []/\b.length<=i/\
  m=⟨mb++(Qm g::EN::[.aL 0 (bH .bool b)]::Qr g fr (mb.length+2)::bx),ml,ms,mn⟩
def BR(Y:YT)(m:AM)(g:Pg)(fr:Int)(hl:g.ev.length<=1000000)(K:AV->AM->Prop)
  (hK:∀ex mid,(∀c∈ex,fe c)->m.boxes.length<=mid->gz (m.boxes++ex) mid (Vb fr g.ev [])->K (.agg (Qr g fr mid)) {m with boxes:=m.boxes++ex}):
  an Tryz.prog aA Y 70 [.agg (Qm g),I fr] m K:=by
 obtain⟨mb,ml,ms,mn⟩:=m;refine Xd UX (fun _ _ _=>.junk) zd ?_;simp[amc,Qm,Qa];refine Qk mB (aoa g fr mb ml ms mn) (fun f _=>g.ev.length-(numOf (f 16)).toNat) ?_ ?_
 ·exact⟨0,[],[],(fun c h=>by cases h),zd,zE,zd,zd,by simp[Qm,Qa,Qr,EN]⟩
 rintro f m ⟨i,b,bx,hbx,Bo,hi,hb,iP,rfl⟩;rcases zzaa i g.ev.length with ai|bz
 ·obtain⟨e,he⟩:=aU ai;have ah:Qh (g.ev.map Qe) i=Qe e:=Qt (by simp[he]);have aa:(i:Int)<(g.ev.length:Int):=zE
  have hw:=bM i zE;have hd:g.ev.drop i=e::g.ev.drop (i+1):=by rw[zzaf ai,(zza.1 he).2]
  rw[hd,Vb]at hb;by_cases hs:e.st<fr
  ·rw[if_pos hs]at hb;have eD:=r6 e.id true b;rcases Xq AV.bool e.id b 0 with⟨b1,b2,b3,b4⟩|⟨u,n,b1,b2,b3,b4,b5,b6⟩
   ·simp[Bo,mB,aa,ah,hw,Qe,Qm,Qa,Qr,EN,hs,b2];refine⟨aP,⟨i+1,Zr e.id true b,bx++[Qe e],fe.snoc hbx (fe.of (by simp[Qe]) (D9 e)),zd,zE,hb,zE,by simp[Qm,Qa,Qr,EN,Qe,b4]⟩,zE⟩
   simp[Bo,mB,aa,ah,hw,Qe,Qm,Qa,Qr,EN,hs,b2];refine⟨aP,⟨i+1,Zr e.id true b,bx++[Qe e],fe.snoc hbx (fe.of (by simp[Qe]) (D9 e)),zd,zE,hb,zE,by simp[Qm,Qa,Qr,EN,Qe,b6]⟩,zE⟩
  rw[if_neg hs]at hb;simp[Bo,mB,aa,ah,hw,Qe,Qm,Qa,Qr,EN,hs];refine⟨aP,⟨i+1,b,bx++[Qe e],fe.snoc hbx (fe.of (by simp[Qe]) (D9 e)),zd,zE,hb,zE,by simp[Qm,Qa,Qr,EN,Qe]⟩,zE⟩
 obtain rfl:i=g.ev.length:=zE
 rw[zzbn,Vb]at hb;subst hb;simp[Bo,mB,amd,Qm,Qa,Qr,EN];refine hK _ (mb.length+2) ?_ zd ⟨zd,zd⟩;intro c hc;simp only[zzat]at hc;obtain rfl|rfl|rfl|rfl|hc:=hc
 ·exact fe.of zd (by simp[Zj])
 ·exact fe.mo g fr _
 ·exact fe.map _
 ·exact fe.mo g fr _
 exact hbx c hc
section
variable {n:Nat} {m':AM}
def S5(n:Nat)(m':AM):List AV->List AV->Prop
 |[],[]=>True
 |a::xs,b::ys=>dQ n m' a b/\S5 n m' xs ys
 |_,_=>False
def S5.both:∀{xs ys:List AV},S5 n m' xs ys->xs.length=ys.length/\∀(i:Nat)(c d:AV),xs[i]?=some c->ys[i]?=some d->dQ n m' c d
 |[],[],_=>⟨rfl,fun i c d h=>by simp at h⟩
 |[],_::_,h=>h.elim
 |_::_,[],h=>h.elim
 |a::xs,b::ys,h=>by
  obtain⟨h1,h2⟩:=S5.both h.2;refine⟨by simp[h1],fun i c d q1 q2=>?_⟩;cases i with
  |zero=>cases q1;cases q2;exact h.1
  |succ i=>exact h2 i c d (by simpa using q1) (by simpa using q2)
def HW{xs ys:List AV}(h:S5 n m' xs ys):dQ n m' (.agg xs) (.agg ys):=dQ.agg h.both.1 h.both.2
def HX{xs ys:List AV}(h:S5 n m' xs ys):dQ n m' (.aZ xs) (.aZ ys):=dQ.aZ h.both.1 h.both.2
def agM(k sz:Nat):dQ n m' (.bs k 0 0 sz) (.sl .ro []):=fun N w0 aq γ' γ2 w' v hm hr h1 h2=>by
 obtain⟨b,cap,arr,zn,hβ,rfl,hlc,hh,hs⟩:=hr.cQ;exact aC.sl (w:=w') (γ:=γ2) (rt:=.ro) (rows:=[]) b 0 sz (fun _ _=>undef) (zzbt _) (fun h=>by cases h) (fun h=>absurd rfl h) (fun _ h=>by cases h) (fun i j c h=>by simp[Qv]at h) (fun i j c h=>by simp[Qv]at h) trivial
def nc.frz{V:AV}{l:List En}(h:nc m'.boxes V l)(hk:HI n V):dQ n m' V (.sl .ro (l.map Qd)):=by
 obtain⟨rt,rfl,_⟩|⟨k,z,rfl,h2,h3,h4⟩:=h
 ·exact dQ.sl _ _
 cases l with
 |nil=>exact agM _ _
 |cons a r=>
  have bZ:Zj (eY (a::r)++z)=true:=by
   have:=Mr (a::r);unfold Zj at this h4 |-
   rw[zzfk,this,h4];rfl
  have:=dQ.bs (sz:=7) (len:=(a::r).length) (hk _ _ _ _ rfl) (Ki h2 h3) (by simp[eY,Qd]) bZ (by rw[zzai,Jg];omega);rw[ot]at this;exact this
end
def S6:List AV:=[I 0,I 0,I 0,I 0,.sl .ro [],I 0,I 0,I 0,I 0,.sl .ro [],.sl .ro [],.sl .ro [],.sl .ro [],I 0]
def Am(x:Option (Pl×Int)):AV:=match x with
 |none=>.aZ [.agg S6,.bool false]
 |some (q,d)=>.aZ [.agg (Qa q++[I d]),.bool true]
def PC(Y:YT)(m:AM)(g:Pg)(f:Int)(mid:Nat)(b:List (Int×Bool))(o:Od)(h:aaV g f o)(hb:gz m.boxes mid b)(hB:∀c∈m.boxes,fe c):
  an Tryz.prog aA Y 71 [.agg (Qr g f mid),.agg (Qp o)] m (fun r m'=>m'=m/\r=Am (yR g f b o)):=by
 refine an.freeze (fun c hc=>(hB c hc).1) (fun c hc=>(hB c hc).2) (MG Y m g f mid b o h hb _ (fun hx ex ls=>?_) (fun q d hx ex V rt ls hV hk aT=>?_))
 ·refine⟨ex,ls,_,rfl,?_,rfl⟩;rw[hx];refine HX ⟨HW ?_,dQ.bool _,trivial⟩;unfold vh S6;refine⟨dQ.int _ _,dQ.int _ _,dQ.int _ _,dQ.int _ _,dQ.sl _ _,dQ.int _ _,dQ.int _ _,dQ.int _ _,dQ.int _ _,dQ.sl _ _,dQ.sl _ _,dQ.sl _ _,dQ.sl _ _,dQ.int _ _,trivial⟩
 refine⟨ex,ls,_,rfl,?_,rfl⟩;rw[hx];refine HX ⟨HW ?_,dQ.bool _,trivial⟩;unfold Xr Qa;simp only[zzad,zzah];exact⟨dQ.int _ _,dQ.int _ _,dQ.int _ _,dQ.int _ _,dQ.sl _ _,dQ.int _ _,dQ.int _ _,dQ.int _ _,dQ.int _ _,dQ.sl _ _,nc.frz hV hk,dQ.sl _ _,dQ.sl _ _,dQ.int _ _,trivial⟩
def PD(Y:YT)(m:AM)(g:Pg)(f:Int)(mid:Nat)(b:List (Int×Bool))(o:Od)(h:aaV g f o)(hb:gz m.boxes mid b)(hB:∀c∈m.boxes,fe c)(K:AV->AM->Prop)(hK:K (Am (yR g f b o)) m):
  an Tryz.prog aA Y 71 [.agg (Qr g f mid),.agg (Qp o)] m K:=
 an.mono (PC Y m g f mid b o h hb hB) (by rintro r m' ⟨rfl,rfl⟩;exact hK)
