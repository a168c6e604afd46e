import Derived.Test.YtfliagpjbbkijaaGreatDoorVBMcC
import Derived.Test.YtfliagpjbbkijaaGreatDoorVBScL
set_option linter.all false
set_option maxRecDepth 100000
set_option maxHeartbeats 64000000
namespace Go.Abs
open Go Go.RowKit
section
variable {N:Nat} {w0:fE} {an:Nat->Nat->Prop} {γ γ':G} {w w':World} {P:Program} {gl:Nat->AV} {Y:YT}
def RC(m':AM)(γ':G)(n:Nat)(b:Nat):Prop:=∃id,n<=id/\m'.boxes[id]?≠some []/\γ'.β id=some b
def dU(n:Nat)(m':AM)(r r':AV):Prop:=∀(N:Nat)(w0:fE)(an:Nat->Nat->Prop)(γ' γ2:G)(w':World)(v:Value),aq N w0 an γ' w' m'.B m'.L->au w' γ' r v->
 (∀b o,γ'.ro b o->γ2.ro b o)->(∀b,RC m' γ' n b->∀o,γ2.ro b o)->au w' γ2 r' v
def G.frz(γ1 γ':G)(m':AM)(n:Nat):G:={γ1 with ro:=fun b o=>γ1.ro b o\/RC m' γ' n b}
def aF.freeze{f:FuncId}{ags:P1}{m:AM}{K:AV->Prop}(aK:∀c∈m.boxes,c≠[])(tH:∀c∈m.boxes,LA c)
  (h:aF P gl Y f ags m fun r m'=>∃ex exl r',m'={m with boxes:=m.boxes++ex,lens:=m.lens++exl}/\dU m.boxes.length m' r r'/\K r'):aF P gl Y f ags m fun r m'=>m'=m/\K r:=by
 refine⟨h.1,fun N w0 an γ w vs hm hl hg hy hr=>CallsIn.mono (h.2 N w0 an γ w vs hm hl hg hy hr) ?_⟩;rintro en w' ⟨v,γ',r,m',rfl,g1,g2,g3,g4,ex,exl,r',rfl,g5,g6⟩;have e1:=g1.dn hm
 have m1:aq N w0 an (γ.dn m.lens.length γ') w' m.B m.L:=hm.dn (m1:=m) (mx:=m.boxes) (ex:=ex) (exl:=exl) g2 g1 rfl rfl rfl fun id cells ct h1 h2=>by
  rw[h1]at h2;cases h2;exact .inl ⟨rfl,h1,tH _ (zzad h1)⟩
 obtain⟨γ1,hγ1⟩:∃γ1,γ1=γ.dn m.lens.length γ':=⟨_,rfl⟩;obtain⟨m',eH⟩:∃m':AM,m'={m with boxes:=m.boxes++ex,lens:=m.lens++exl}:=⟨_,rfl⟩;rw[<- eH]at g2 g3 g5;rw[<- hγ1]at e1 m1
 have hβ:∀{id b},γ1.β id=some b->id<m.boxes.length/\γ'.β id=some b:=fun{id b}h=>by
  rw[hγ1]at h;obtain⟨h1,h2⟩:=Yt h;obtain⟨b0,di⟩:=zzcd.1 h1;obtain⟨_,_,_,_,c,hc⟩:=hm.β id b0 di;exact⟨(zza.1 hc).1,h2⟩
 have cp:∀{id b},γ1.own id=some b->γ'.own id=some b:=fun{id b}h=>by
  rw[hγ1]at h;have h:(if id<m.lens.length then γ'.own id else none)=some b:=h;split at h
  ·exact h
  cases h
 have dy:γ1.sp=γ'.sp:=by rw[hγ1];try rfl
 have hlp:γ1.lp=γ'.lp:=by rw[hγ1];try rfl
 have gA:γ1.ro=γ'.ro:=by rw[hγ1];try rfl
 have eN:∀{id b},γ1.mm id=some b->γ'.mm id=some b:=fun{id b}h=>by rw[hγ1]at h;exact(Qak h).2
 have nβ:∀{b},RC m' γ' m.boxes.length b->∀id,γ1.β id≠some b:=fun{b}⟨j,j1,j2,j3⟩id h=>by
  obtain⟨h1,h2⟩:=hβ h
  have hB:m'.B id=some (m.boxes[id]):=by
   rw[eH];show(m.boxes++ex)[id]?=_;rw[zzam h1,zzac h1]
  rcases g2.inj id j b h2 j3 with k|k|k
  ·rw[hB]at k;exact aK _ (zzdc h1) (Option.some.inj k)
  ·exact j2 k
  omega
 have ay0:∀{b},RC m' γ' m.boxes.length b->∀id,γ'.own id≠some b:=fun{b}⟨j,j1,j2,j3⟩id=>(g2.β j b j3).2.2.2.1 id;have nsp:∀{b},RC m' γ' m.boxes.length b->¬γ'.sp b:=fun{b}⟨j,j1,j2,j3⟩h=>(g2.sp b h).2.2.2.1 j j3;have nmm:∀{b},RC m' γ' m.boxes.length b->∀id,γ'.mm id≠some b:=fun{b}⟨j,j1,j2,j3⟩id h=>(g2.mm id b h).2.2.2.1 j j3
 have ev:Ev w' γ1 w' (γ1.frz γ' m' m.boxes.length):=
  ⟨zzaa _,fun _ _ _ h=>⟨.inl h,rfl⟩,fun _ _ h=>h,fun _=>zzaa _,fun _ _ h=>h,rfl,
   fun id b _ h=>⟨h,fun arr _ h=>⟨arr,h,zzaa _⟩,fun o h'=>h'.elim (fun x=>x) (fun hn=>absurd (cp h) (ay0 hn id))⟩,fun _ h=>⟨h,rfl⟩,Sz.refl _⟩
 refine⟨v,γ1.frz γ' m' m.boxes.length,r',m,rfl,e1.trans ev.cR,?_,?_,?_,rfl,g6⟩
 ·exact{
   bs:=w0.st _ _ _ _ g2.bs ⟨rfl,rfl,rfl,zzaa _,fun _ _ _=>rfl,fun b o _ h=>⟨.inl (by rw[gA];exact h),rfl⟩,fun b hb=>.inl (by
     obtain⟨i,hi⟩|⟨i,hi⟩|hb|⟨i,hi⟩:=hb
     ·exact .inl ⟨i,(hβ hi).2⟩
     ·exact .inr (.inl ⟨i,cp hi⟩)
     ·exact .inr (.inr (.inl (by rw[<- dy];exact hb)))
     ·exact .inr (.inr (.inr ⟨i,eN hi⟩))),fun b o h=>by
     obtain h|⟨j,j1,j2,j3⟩:=h
     ·exact .inl (by rw[<- gA];exact h)
     exact .inr (.inl (.inl ⟨j,j3⟩))⟩
   hN:=m1.hN
   an:=fun b o h=>by
    obtain h|⟨j,j1,j2,j3⟩:=h
    ·exact m1.an b o h
    exact .inr (g2.β j b j3).1
   robd:=fun b o h=>by
    obtain h|⟨j,j1,j2,j3⟩:=h
    ·exact m1.robd b o h
    exact(g2.β j b j3).2.1
   box:=fun id cells b hb h1=>by
    obtain⟨arr,e,h2,h3,h4⟩:=m1.box id cells b hb h1;exact⟨arr,e,h2,h3.mono ev,h4⟩
   β:=fun id b hb=>by
    obtain⟨h1,h2,h3,h4,h5⟩:=m1.β id b hb;exact⟨h1,h2,fun o h=>h.elim (h3 o) (fun hn=>nβ hn id hb),h4,h5⟩
   inj:=m1.inj
   own:=m1.own
   oinj:=m1.oinj
   sp:=fun b hb=>by
    obtain⟨h1,h2,h3,h4⟩:=m1.sp b hb;exact⟨h1,h2,fun o h=>h.elim (h3 o) (fun hn=>nsp hn (by rw[<- dy];exact hb)),h4⟩
   mm:=fun id b hb=>by
    obtain⟨h1,h2,h3,h4,h5,h6,h8,h7⟩:=m1.mm id b hb;exact⟨h1,h2,fun o h=>h.elim (h3 o) (fun hn=>nmm hn id (eN hb)),h4,h5,h6,h8,h7.mono ev.cR.Aq rfl⟩
   minj:=m1.minj
   len:=m1.len
   cur0:=m1.cur0}
 ·have g3':cB γ1 w' m:=by
   rw[eH]at g3;unfold cB at g3 |-
   rw[hlp,dy];exact g3
  exact g3'.mono ev
 exact g5 N w0 an γ' _ w' v g2 g4 (fun b o h=>.inl (by rw[gA];exact h)) fun b hb o=>.inr hb
variable {n:Nat} {m':AM}
def dU.bool(b:Bool):dU n m' (.bool b) (.bool b):=fun _ _ _ _ _ _ _ _ h _ _=>by rw[h.bA];exact .bool b
def dU.int(k:IntKind)(z:Int):dU n m' (.int k z) (.int k z):=fun _ _ _ _ _ _ _ _ h _ _=>by rw[h.aJ];exact .int k z
def dU.agg{cs ds:P1}(hl:cs.length=ds.length)(h:∀(i:Nat)(c d:AV),cs[i]?=some c->ds[i]?=some d->dU n m' c d):dU n m' (.agg cs) (.agg ds):=fun N w0 an γ' γ2 w' v hm hr h1 h2=>by
 cases hr with
 |@agg _ _ arr kl k=>
  refine .agg zE fun i d u hd hu=>?_;have hi:i<cs.length:=by have:=(zza.1 hd).1;omega
  exact h i cs[i] d (zzac hi) hd N w0 an γ' γ2 w' u hm (k i cs[i] u (zzac hi) hu) h1 h2
def dU.aS{cs ds:P1}(hl:cs.length=ds.length)(h:∀(i:Nat)(c d:AV),cs[i]?=some c->ds[i]?=some d->dU n m' c d):dU n m' (.aS cs) (.aS ds):=fun N w0 an γ' γ2 w' v hm hr h1 h2=>by
 cases hr with
 |@aS _ _ arr kl k=>
  refine .aS zE fun i d u hd hu=>?_;have hi:i<cs.length:=by have:=(zza.1 hd).1;omega
  exact h i cs[i] d (zzac hi) hd N w0 an γ' γ2 w' u hm (k i cs[i] u (zzac hi) hu) h1 h2
def ZJ{γ' γ2:G}{w':World}(h1:∀b o,γ'.ro b o->γ2.ro b o){a:AV}{v:Value}(h:au w' γ'.cQ a v):au w' γ2.cQ a v:=
 h.mono ⟨zzaa _,fun b o _ h=>⟨h1 b o h,rfl⟩,fun _ _ h=>(by cases h),fun _=>zzaa _,fun _ _ h=>(by cases h),rfl,fun _ _ _ h=>(by cases h),fun _ h=>h.elim,Sz.refl w'⟩
def dU.sl(rt:Rt)(rows:X2):dU n m' (.sl rt rows) (.sl .ro rows):=fun N w0 an γ' γ2 w' v hm hr h1 h2=>by
 cases hr with
 |sl b off sz cv hcap hnil ha hsz hc h bn=>
  exact .sl b off sz cv hcap hnil ha hsz (fun i j c q=>⟨(hc i j c q).1,h1 _ _ (hc i j c q).2.1,(hc i j c q).2.2⟩) (fun i j c q=>ZJ h1 (h i j c q)) trivial
def dU.bs{k len sz:Nat}{cells:P1}(hn:n<=k)(hk:m'.boxes[k]?=some cells)(aK:cells≠[])(bY:Zw cells=true)(hl:len*sz<=cells.length):dU n m' (.bs k 0 len sz) (.sl .ro (aY sz len cells)):=fun N w0 an γ' γ2 w' v hm hr h1 h2=>by
 obtain⟨b,cap,arr,y7,hβ,rfl,hlc,hh,hs⟩:=hr.dz;obtain⟨bU,e',q2,q3,q4⟩:=hm.box k cells b hk hβ;rw[hh]at q2;cases q2;have hsz:=q3.1;simp only[zzcs]at hsz;have aH:(aY sz len cells).length=len:=by rw[Wp];simp
 have eE:∀row∈aY sz len cells,row.length=sz:=fun row ai=>by
  rw[Wp]at ai;simp only[zzbk,zzay]at ai;obtain⟨i,hi,rfl⟩:=ai;have:(i+1)*sz<=len*sz:=zzbb _ hi;rw[zzbi,zzdp]at this;simp only[zzav,zzcw];omega
 have nZ:∀(i j:Nat)(c:AV),Qr (aY sz len cells) i j=some c->∃u,cells[i*sz+j]?=some c/\arr[i*sz+j]?=some u/\arr.getD (i*sz+j) undef=u/\au w' γ' c u:=fun i j c h=>by
  rw[Wp]at h;unfold Qr at h;rcases zzab i len with hi|hi
  ·rw[zzbc,zzei hi]at h;simp only[zzcb,zzcr]at h;rw[zzbw]at h;split at h
   ·rw[zzbr]at h;have ah:=(zza.1 h).1;exact⟨arr[i*sz+j],h,zzag zE,by simp[show i*sz+j<arr.size by omega],q3.2 _ _ _ h (by simp[show i*sz+j<arr.size by omega])⟩
   cases h
  rw[zzbc,zzar (Nm hi)]at h;cases h
 have hB:∀id cells,m'.boxes[id]?=some cells->m'.B id=some cells:=fun _ _ h=>h;have ay1:∀o,γ2.ro b o:=h2 b ⟨k,hn,by rw[hk];intro h;exact aK (Option.some.inj h),hβ⟩
 have:=au.sl (w:=w') (γ:=γ2) (rt:=.ro) (rows:=aY sz len cells) (a:=some ⟨b,0,none⟩) (cap:=cap) b 0 sz (fun i j=>arr.getD (i*sz+j) undef) (by rw[aH];exact hlc) (fun h=>by cases h) (fun _=>⟨rfl,aW hh⟩) eE
  (
   fun i j c h=>by
   obtain⟨u,c1,c2,c3,c4⟩:=nZ i j c h;rw[zzbn,aQ hh,c2,c3];exact⟨rfl,ay1 _,q4 u (by rw[<- c3];simp[show i*sz+j<arr.size from(zzbs.1 c2).1])⟩)
  (
   fun i j c h=>by
   obtain⟨u,c1,c2,c3,c4⟩:=nZ i j c h;rw[c3];have fB:FJ c=true:=zzbf.1 bY c (zzad c1);have:=Qel hm (m:=m') hB (ro':=γ2.ro) h1 1 c u c4 (fun hp=>by cases c<;>simp_all[FJ,Vz]);rw[NW m' 0 fB]at this;exact this) trivial
 rw[aH]at this;exact this
end
end Go.Abs
namespace Go.Proofs.YtfliagpjbbkijaaGreatDoor
noncomputable section
open Go Go.Abs
def Xu(f:Int):List ck->QQ->QQ
 |[],b=>b
 |e::r,b=>Xu f r (if e.st<f then Vi e.id true b else b)
def Ee:P1:=[I 0,I 0,I 0,I 0,.sl .nil [],I 0,I 0,I 0,I 0,.sl .nil [],.sl .nil [],.sl .nil [],.sl .nil [],.sl .nil [],.sl .nil [],I 0,.sl .nil [],I 0,I 0,.nilv false]
def rN(k:Int)(v:Bool):∀l:QQ,(Vi k v l).length<=l.length+1
 |[]=>by simp[Vi]
 |x::r=>by
  unfold Vi;split
  ·simp
  have:=rN k v r;simp;omega
end
end Go.Proofs.YtfliagpjbbkijaaGreatDoor
namespace Go.Proofs.YtfliagpjbbkijaaGreatDoor
noncomputable section
open Go Go.Abs
def afA{α:Type}(l:List α)(n:Nat):l.take (if(n:Int)<(l.length:Int)then(n:Int)else(l.length:Int)).toNat=l.take n:=by
 split
 ·simp
 rw[zzai zd,zzai zE]
def ZK{a:Nat}(n:Nat):(if(n:Int)<(a:Int)then(n:Int)else(a:Int))<=a:=by split<;>omega
def ZL{a:Nat}(n:Nat):0<=(if(n:Int)<(a:Int)then(n:Int)else(a:Int)):=by split<;>omega
def Hh(g:Pg)(f:Int)(q:Pl)(d:Int)(er:P1):P1:=[.ep (Qc q++[I d]) 0,.ep (Qo g++[I f,.junk]) 0,.ep er 0]
def Qdk(g:Pg)(f:Int)(q:Pl)(d:Int)(a0 a1 a2:AV)(fr:Int)(r:P1)(item region:Int)(h1:q.cls.length<=1000000)(h2:q.sh.length<=1000000000)(h3:q.aT.length<=1000000000):
  Pure Tryz.prog aD 166 ([I item,I region]++Hh g f q d (a0::a1::a2::I fr::r)) (.bool (Zv q item region f fr)):=by
 have k:=Qen q item region f fr h1 h2 h3;simp only[Qc]at k;refine Qm acR (fun _ _ _=>.bool (Zv q item region f fr)) (by simp[Hh]) ?_;simp[ahy,ahz,Hh,Qc,Qo];exact k
def lI(g:Pg)(f:Int)(o:Od)(q:Pl)(d:Int)(e:ck):Option Int:=
 if o.ki=1/\o.en=e.id then some (tV g e.id+d-f)
 else if o.ki=2/\o.en=e.id then none
 else if o.ki=4/\Zv q e.it 0 f (xG f e).fr=false then none
 else some (xG f e).fr
def s8(q:Pl)(f:Int):X1:=fun _ k l=>if k=166 then(match l with
 |[.int _ it,.int _ re,_,_,.ep (_::_::_::.int _ F::_) 0]=>.bool (Zv q it re f F)
 |_=>.junk)else .gd false .junk
def lJ(q:Pl)(f:Int)(id F:Int)(l:List Sp):List Sp:=l.filter fun a=>Zv q a.2 a.1 f F
def anm(ml:P2)(o:List Sp)(v:AV)(ls:P2):Prop:=(o=[]/\v=.sl .nil []/\ls=ml)\/(o≠[]/\v=.sl (.own ml.length 2) (o.map Qe)/\ls=ml++[o.length])
def aue(mb:X2)(ml:P2)(ms:Nat->LS)(mn:Nat)(r0 r1 r2 pre:P1)(al:List Sp)(A:List Sp->List Sp)(s:Nat->AV)(m:AM):Prop:=
 ∃(j:Nat)(bx:X2)(ls:P2)(v:AV),s 106=I j/\j<=al.length/\anm ml (A (al.take j)) v ls/\m=⟨mb++(r0::r1::r2::nN::(pre++[v])::bx),ls,ms,mn⟩
def rO(q:Pl)(f:Int)(it F:Int)(n:Nat):Int:=uC (fun r=>Zv q it r f F) n
def afB(b:Nat->Bool)(i:Nat)(h:i<8):IntKind.i64.wrap ((((uC b i%2 ^ IntKind.i64.bits).toNat|||(IntKind.i64.wrap (2 ^ min i IntKind.i64.bits)%2 ^ IntKind.i64.bits).toNat:Nat)):Int)=uC b i+2 ^ i:=by
 have gT:=Dj b i;obtain⟨x,hx⟩:∃x:Nat,uC b i=(x:Int):=⟨(uC b i).toNat,zE⟩
 have Q0:x<2 ^ i:=by
  have h2:=gT.2;rw[hx]at h2
  exact_mod_cast h2
 rw[hx];exact XY i h x Q0
def LB:SC:=(⟨_,by cbv⟩:we [1,1,1,1,1,1] z6).1
def ZM:SC:=(⟨_,fun _=>by cbv⟩:jh [1,1,1,1,1,1] z6).1 LB
theorem Hi:z6=ZM:=rfl
def xM(Y:YT)(mb:X2)(ml:P2)(ms:Nat->LS)(mn:Nat)(g:Pg)(f:Int)(mid:Nat)(R1:P1)(q:Pl)(V:AV)(rt:Rt)(d:Int)(e:ck)(F:Int)(E0:QP)(x5 x6:AV)(hV:sZ mb V q.ens)(bn:Rz rt)(hq:Ec q)(SY:0<=q.rg/\q.rg<=8)(K:UV)
  (h3:Abs.look E0 3=.ptr mb.length 0)(h5:Abs.look E0 5=.ptr (mb.length+2) 0)(h6:Abs.look E0 6=.ptr (mb.length+3) 0)(h8:Abs.look E0 8=.ptr (mb.length+4) 0)(pG:Abs.look E0 11=.fn 166 [] [.ptr (mb.length+2) 0,.ptr mb.length 0,.ptr (mb.length+4) 0])
  (h1:∀ex ls v,anm ml (lJ q f e.id F ((Zo e.id q.ens).getD yT).al) v ls->K (.aS [.agg [I e.id,I e.it,I f,I F,I (e.i+(f-e.st)),I (rO q f e.it F q.rg.toNat),v],.bool true]) ⟨mb++ex,ls,ms,mn⟩):
  vc Tryz.prog aD (s8 q f) Y LB ⟨Za 124 E0,⟨mb++[Qu g f mid,R1,Vb q V (.sl rt (q.cls.map Qj)) d,nN,[I e.id,I e.it,I f,I F,I (e.i+(f-e.st)),x5,x6]],ml,ms,mn⟩⟩ (wj Tryz.prog aD (s8 q f) Ey K):=by
 obtain⟨q1,q2,q3,q4,q5,q6⟩:=hq;have hc:=hV.cell;have nr:=fun ex ml d=>hV.bG ex ml ms mn d;simp[LB,h5,h8,Qu,Qo,Qc,Vb,nN];refine Qk I3 (fun s m=>∃i:Nat,s 80=I i/\(i:Int)<=q.rg/\m=⟨mb++[Qu g f mid,R1,Vb q V (.sl rt (q.cls.map Qj)) d,nN,[I e.id,I e.it,I f,I F,I (e.i+(f-e.st)),I (rO q f e.it F i),.sl .nil []]],ml,ms,mn⟩) (fun s _=>(q.rg-numOf (s 80)).toNat) ?_ ?_
 ·exact⟨0,zd,by simp;omega,by simp[Qu,Qo,Qc,Vb,nN,rO,uC]⟩
 rintro s m ⟨i,h80,hi,rfl⟩;by_cases ah:(i:Int)<q.rg
 ·have hw:=bO i zE;have kc:=Qdk g f q d (I e.id) (I e.it) (I f) F [I (e.i+(f-e.st)),I (rO q f e.it F i),.sl .nil []] e.it i q5 zE zE;simp only[Hh,Qc,Qo,zzaf,zzah]at kc;simp[h8,pG,h80,I3,ah,hw,Qu,Qo,Qc,Vb,nN,s8,nr,bn _ _ _];have hor:=afB (fun r=>Zv q e.it r f F) i zE;refine⟨kc,?_⟩;have dX:rO q f e.it F (i+1)=rO q f e.it F i+if Zv q e.it (i:Int) f F=true then 2 ^ i else 0:=rfl;split
  ·rename_i ha;rw[if_pos ha]at dX;refine⟨aP,⟨i+1,zd,zE,by rw[dX];exact hor⟩,zE⟩
  rename_i ha;rw[if_neg ha]at dX;refine⟨aP,⟨i+1,zd,zE,by rw[dX];simp⟩,zE⟩
 have kn:=fun ex K hK=>OC Y ⟨mb++ex,ml,ms,mn⟩ q V rt e.id (hV.ext ex) zE q6 K hK;simp only[Qcj]at kn;simp[h5,h8,h80,I3,ah,Qu,Qo,Qc,Vb,nN,s8];refine kn _ _ ?_;rw[Hg];generalize rtE (Zo e.id q.ens)=r7;generalize(Zo e.id q.ens).isSome=b7;obtain⟨E,hE⟩:∃E,(Zo e.id q.ens).getD yT=E:=⟨_,rfl⟩;rw[hE]
 have hEl:E.al.length<=8796093022208:=by
  rw[<- hE];cases hf:Zo e.id q.ens with
  |none=>simp[yT]
  |some x=>exact q6 x (w9 hf).1
 have hiq:i=q.rg.toNat:=zE
 rw[hE]at h1;simp[Ey];refine Qk BT (aue mb ml ms mn (Qu g f mid) R1 (Vb q V (.sl rt (q.cls.map Qj)) d) [I e.id,I e.it,I f,I F,I (e.i+(f-e.st)),I (rO q f e.it F i)] E.al (lJ q f e.id F)) (fun s _=>E.al.length-(numOf (s 106)).toNat) ?_ ?_
 ·exact⟨0,_,ml,.sl .nil [],zd,zE,.inl ⟨by simp[lJ],rfl,rfl⟩,by simp[Qu,Qo,Qc,Vb,nN];rfl⟩
 rintro s2 m ⟨j,bx,ls,v,h106,hj,hO,rfl⟩;rcases zzab j E.al.length with QC|hgj
 ·obtain⟨a,ha⟩:=aX QC;have ai:=Ze ha;have auf:(j:Int)<(E.al.length:Int):=zE
  have hw:=bO j zE
  have bD:lJ q f e.id F (E.al.take (j+1))=lJ q f e.id F (E.al.take j)++if Zv q a.2 a.1 f F=true then[a]else[]:=by
   unfold lJ;rw[zzap,ha,zzdd];congr 1;by_cases hh:Zv q a.2 a.1 f F=true<;>simp[hh]
  have XC:(lJ q f e.id F (E.al.take j)).length<=j:=by
   refine zzaz (zzci _ _) ?_;simp;omega
  generalize lJ q f e.id F (E.al.take j)=oL at hO bD XC;obtain⟨rfl,rfl,rfl⟩|⟨ho,rfl,rfl⟩:=hO
  ·have kc:=Qdk g f q d (I e.id) (I e.it) (I f) F [I (e.i+(f-e.st)),I (rO q f e.it F i),.sl .nil []] a.2 a.1 q5 zE zE;simp only[Hh,Qc,Qo,zzaf,zzah]at kc;simp[h8,pG,h106,BT,auf,ai,hw,Qu,Qo,Qc,Vb,nN,s8,nr,bn _ _ _];refine⟨kc,?_⟩;split
   ·rename_i hh;rw[if_pos hh]at bD;refine⟨aP,⟨j+1,bx++[[I a.1,I a.2]],ls++[1],.sl (.own ls.length 2) [Qe a],zd,zE,.inr ⟨by rw[bD];simp,by rw[bD];try rfl,by rw[bD];try rfl⟩,by simp[nN,Qe]⟩,zE⟩
   rename_i hh;rw[if_neg hh]at bD;refine⟨aP,⟨j+1,bx++[[I a.1,I a.2]],ls,.sl .nil [],zd,zE,.inl ⟨by rw[bD];try rfl,rfl,rfl⟩,by simp[nN]⟩,zE⟩
  have kc:=Qdk g f q d (I e.id) (I e.it) (I f) F [I (e.i+(f-e.st)),I (rO q f e.it F i),.sl .ro (oL.map Qe)] a.2 a.1 q5 zE zE;simp only[Hh,Qc,Qo,zzaf,zzah]at kc;simp[h8,pG,h106,BT,auf,ai,hw,Qu,Qo,Qc,Vb,nN,s8,nr,bn _ _ _];refine⟨kc,?_⟩
  have XN:∀row:P1,((∃x y,(x,y)∈oL/\Qe (x,y)=row)\/row=Qe a)->row.length=2:=by
   rintro row (⟨x,y,_,rfl⟩|rfl)<;>rfl
  split
  ·rename_i hh;rw[if_pos hh]at bD;refine⟨⟨XN,zE⟩,aP,⟨j+1,bx++[[I a.1,I a.2]],ml++[oL.length+1],.sl (.own ml.length 2) ((oL++[a]).map Qe),zd,zE,.inr ⟨by rw[bD];simp,by rw[bD],by rw[bD];simp⟩,by simp[nN,Qe]⟩,zE⟩
  rename_i hh;rw[if_neg hh,zzau]at bD;refine⟨aP,⟨j+1,bx++[[I a.1,I a.2]],ml++[oL.length],.sl (.own ml.length 2) (oL.map Qe),zd,zE,.inr ⟨by rw[bD];exact ho,by rw[bD],by rw[bD]⟩,by simp[nN]⟩,zE⟩
 obtain rfl:j=E.al.length:=zE
 rw[zzbp]at hO;have bP:Qw v=true:=by rcases hO with⟨_,rfl,_⟩|⟨_,rfl,_⟩<;>rfl
 have h1:=fun ex=>h1 ex ls v hO;rw[<- hiq]at h1;simp[h6,h8,h106,BT,Qu,Qo,Qc,Vb,nN,bP];exact h1 _
def afC(Y:YT)(m:AM)(g:Pg)(f:Int)(mid:Nat)(b:QQ)(o:Od)(q:Pl)(V:AV)(rt:Rt)(d:Int)(hV:sZ m.boxes V q.ens)(bn:Rz rt)(h:nM g f)(hb:iJ m.boxes mid b)(hq:Ec q)(hd:0<=d/\d<=1000000000)(SY:0<=q.rg/\q.rg<=8)(K:UV)
  (h1:∀e F,Jw g f b=some e->lI g f o q d e=some F->F≠0->∀ex ls v,anm m.lens (lJ q f e.id F ((Zo e.id q.ens).getD yT).al) v ls->K (.aS [.agg [I e.id,I e.it,I f,I F,I (e.i+(f-e.st)),I (rO q f e.it F q.rg.toNat),v],.bool true]) {m with boxes:=m.boxes++ex,lens:=ls})
  (h0:(Jw g f b).bind (lI g f o q d)=none\/(Jw g f b).bind (lI g f o q d)=some 0->∀ex,K (.aS [.agg nN,.bool false]) {m with boxes:=m.boxes++ex}):
  aF Tryz.prog aD Y 109 [.agg (Qu g f mid),.agg (Qt o),.agg (Vb q V (.sl rt (q.cls.map Qj)) d)] m K:=by
 obtain⟨mb,ml,ms,mn⟩:=m;obtain⟨q1,q2,q3,q4,q5,q6⟩:=hq;have hc:=hV.cell;have hB:∀ex,iJ (mb++ex) mid b:=fun ex=>⟨by have:=hb.1;simp at this |-;omega,hb.ext ex⟩;have kp:=fun ex K hK=>ajy Y ⟨mb++ex,ml,ms,mn⟩ g f mid b h (hB ex) K hK;simp only[Qu,Qo,Qc,zzaf,zzah]at kp;have nr:=fun ex ml d=>hV.bG ex ml ms mn d;cases hp:Jw g f b with
 |none=>
  have h0:=h0 (by rw[hp];exact .inl rfl);refine Xn MR (fun _ f _=>.gd false .junk) zd ?_;simp[Hi,ZM,Ey,Qu,Qo,Qc,Qt,Qd,Qj,Qp,Vb,hc];refine kp _ _ ?_;simp[Um,hp];simp[nN]at h0;exact h0 _
 |some e=>
  refine Xn MR (s8 q f) zd ?_;simp[Hi,ZM,Ey,Qu,Qo,Qc,Qt,Qd,Qj,Qp,Vb,hc,s8];refine kp _ _ ?_;have Iz:=Ls h e.id;have hfs:=h.2.2.1;unfold nJ at hfs;by_cases cZ:o.ki=1
  ·by_cases aL:o.en=e.id
   ·have w1:IntKind.i64.wrap (tV g e.id+d)=tV g e.id+d:=by rw[Qh]<;>omega
    have w2:IntKind.i64.wrap (tV g e.id+d-f)=tV g e.id+d-f:=by rw[Qh]<;>omega
    obtain⟨F,hF⟩:∃F,tV g e.id+d-f=F:=⟨_,rfl⟩;have wF:IntKind.i64.wrap F=F:=by rw[<- hF];exact w2
    have w0:IntKind.i64.wrap 0=0:=by decide
    have ud:(Jw g f b).bind (lI g f o q d)=some F:=by rw[hp];simp[lI,cZ,aL,hF]
    by_cases ey:F=0
    ·have h0:=h0 (by rw[ud,ey];exact .inr rfl);simp[Um,hp,Qg,xG,cZ,aL,w1,w0,hF,ey];simp[nN]at h0;exact h0 _
    simp[Um,hp,Qg,xG,cZ,aL,w1,wF,hF,ey];refine xM Y mb ml ms mn g f mid _ q V rt d e F _ _ _ hV bn ⟨q1,q2,q3,q4,q5,q6⟩ SY K ?_ ?_ ?_ ?_ ?_ (h1 e F hp (by simpa[hp]using ud) ey)<;>simp
   have w0:True:=trivial;obtain⟨F,hF⟩:∃F,e.fr-(f-e.st)=F:=⟨_,rfl⟩;have ud:(Jw g f b).bind (lI g f o q d)=some F:=by rw[hp];simp[lI,xG,hF,cZ,aL]
   by_cases ey:F=0
   ·have h0:=h0 (by rw[ud,ey];exact .inr rfl);simp[Um,hp,Qg,xG,cZ,aL,hF,ey];simp[nN]at h0;exact h0 _
   simp[Um,hp,Qg,xG,cZ,aL,hF,ey];refine xM Y mb ml ms mn g f mid _ q V rt d e F _ _ _ hV bn ⟨q1,q2,q3,q4,q5,q6⟩ SY K ?_ ?_ ?_ ?_ ?_ (h1 e F hp (by simpa[hp]using ud) ey)<;>simp
  by_cases dM:o.ki=2
  ·by_cases aL:o.en=e.id
   ·have w0:True:=trivial;have h0:=h0 (by rw[hp];simp[lI,dM,aL]);simp[Um,hp,Qg,xG,dM,aL];simp[nN]at h0;exact h0 _
   have w0:True:=trivial;obtain⟨F,hF⟩:∃F,e.fr-(f-e.st)=F:=⟨_,rfl⟩;have ud:(Jw g f b).bind (lI g f o q d)=some F:=by rw[hp];simp[lI,xG,hF,dM,aL]
   by_cases ey:F=0
   ·have h0:=h0 (by rw[ud,ey];exact .inr rfl);simp[Um,hp,Qg,xG,dM,aL,hF,ey];simp[nN]at h0;exact h0 _
   simp[Um,hp,Qg,xG,dM,aL,hF,ey];refine xM Y mb ml ms mn g f mid _ q V rt d e F _ _ _ hV bn ⟨q1,q2,q3,q4,q5,q6⟩ SY K ?_ ?_ ?_ ?_ ?_ (h1 e F hp (by simpa[hp]using ud) ey)<;>simp
  by_cases C6:o.ki=4
  ·cases ha0:Zv q e.it 0 f (e.fr-(f-e.st))with
   |false=>
    have h0:=h0 (by rw[hp];simp[lI,xG,C6,ha0]);have kc0:=Qdk g f q d (I e.id) (I e.it) (I f) (e.fr-(f-e.st)) [I (e.i+(f-e.st)),I e.re,.sl .ro (e.al.map Qe)] e.it 0 q5 zE zE;simp only[Hh,Qc,Qo,zzaf,zzah]at kc0;rw[ha0]at kc0;simp[Um,hp,Qg,xG,C6,nr,bn _ _ _,ha0];simp[nN]at h0;exact⟨kc0,h0 _⟩
   |true=>
    obtain⟨F,hF⟩:∃F,e.fr-(f-e.st)=F:=⟨_,rfl⟩;rw[hF]at ha0;have ud:(Jw g f b).bind (lI g f o q d)=some F:=by rw[hp];simp[lI,xG,hF,C6,ha0]
    have kc0:=Qdk g f q d (I e.id) (I e.it) (I f) F [I (e.i+(f-e.st)),I e.re,.sl .ro (e.al.map Qe)] e.it 0 q5 zE zE;simp only[Hh,Qc,Qo,zzaf,zzah]at kc0;rw[ha0]at kc0;by_cases ey:F=0
    ·have h0:=h0 (by rw[ud,ey];exact .inr rfl);rw[ey]at ha0 kc0;simp[Um,hp,Qg,xG,C6,nr,bn _ _ _,hF,ha0,ey];simp[nN]at h0;exact⟨kc0,h0 _⟩
    simp[Um,hp,Qg,xG,C6,nr,bn _ _ _,hF,ha0,ey];refine⟨kc0,?_⟩;refine xM Y mb ml ms mn g f mid _ q V rt d e F _ _ _ hV bn ⟨q1,q2,q3,q4,q5,q6⟩ SY K ?_ ?_ ?_ ?_ ?_ (h1 e F hp (by simpa[hp]using ud) ey)<;>simp
  have w0:True:=trivial;obtain⟨F,hF⟩:∃F,e.fr-(f-e.st)=F:=⟨_,rfl⟩;have ud:(Jw g f b).bind (lI g f o q d)=some F:=by rw[hp];simp[lI,xG,hF,cZ,dM,C6]
  by_cases ey:F=0
  ·have h0:=h0 (by rw[ud,ey];exact .inr rfl);simp[Um,hp,Qg,xG,cZ,dM,C6,hF,ey];simp[nN]at h0;exact h0 _
  simp[Um,hp,Qg,xG,cZ,dM,C6,hF,ey];refine xM Y mb ml ms mn g f mid _ q V rt d e F _ _ _ hV bn ⟨q1,q2,q3,q4,q5,q6⟩ SY K ?_ ?_ ?_ ?_ ?_ (h1 e F hp (by simpa[hp]using ud) ey)<;>simp
def afD(f:Int)(e:ck):ck:={e with fr:=if f-e.st<e.fr then f-e.st else e.fr}
def Ug(f:Int):List ck->List ck
 |[]=>[]
 |e::r=>if f<=e.st then Ug f r else afD f e::Ug f r
def xN(f:Int):∀(l r:List ck),Ug f (l++r)=Ug f l++Ug f r
 |[],_=>rfl
 |e::l,r=>by
  simp only[zzaf,Ug,xN f l r];split<;>rfl
def Qdp(f:Int):∀(l:List ck),(Ug f l).length<=l.length
 |[]=>zzaa _
 |e::l=>by
  have:=Qdp f l;simp only[Ug];split<;>simp<;>omega
def ajz(ml:P2)(o:List ck)(v:AV)(ls:P2):Prop:=(o=[]/\v=.sl .nil []/\ls=ml)\/(o≠[]/\v=.sl (.own ml.length 7) (o.map Qg)/\ls=ml++[o.length])
def aug(l:List ck)(F:Int)(mb:X2)(ml:P2)(ms:Nat->LS)(mn:Nat)(g:Nat->AV)(m:AM):Prop:=
 ∃(i:Nat)(bx:X2)(ls:P2),i<=l.length/\g 11=I i/\m=⟨mb++bx,ls,ms,mn⟩/\ajz ml (Ug F (l.take i)) (g 5) ls
def ZN:X1:=fun _ g l=>if g=60 then l.headD .junk else .junk
def xO(Y:YT)(m:AM)(l:List ck)(f:Int)(hl:l.length<=1000000)(hs:∀e∈l,Yl e)(hf:0<=f/\f<=1000000)(K:UV)
  (hK:∀ex v ls,ajz m.lens (Ug f l) v ls->K v {m with boxes:=m.boxes++ex,lens:=ls}):aF Tryz.prog aD Y 108 [.sl .ro (l.map Qg),I f] m K:=by
 obtain⟨mb,ml,ms,mn⟩:=m;refine Xn ab4 ZN zd ?_;simp[Tv,agS];refine Qk uV (aug l f mb ml ms mn) (fun g _=>l.length-(numOf (g 11)).toNat) ?_ ?_
 ·exact⟨0,[],ml,zE,zd,zd,.inl ⟨by simp[Ug],zd,rfl⟩⟩
 rintro g m ⟨i,bx,ls,hi,pG,rfl,bn⟩;rcases zzab i l.length with ah|bu
 ·obtain⟨a,ha⟩:=aX ah;have ai:Qf (l.map Qg) i=Qg a:=Qv (by simp[ha]);have hw:=bO i zE;have bD:l.take (i+1)=l.take i++[a]:=by rw[zzap,ha];try rfl
  have aa:(i:Int)<(l.length:Int):=zE
  obtain⟨⟨a1,a2⟩,⟨a3,a4⟩,a5,a6⟩:=hs a (zzad ha);have gI:=Qdp f (l.take i);have az5:(Ug f (l.take i)).length<=1000000:=by simp at gI;omega
  by_cases h1:f<=a.st
  ·have hb:Ug f (l.take (i+1))=Ug f (l.take i):=by rw[bD,xN];simp[Ug,h1]
   simp[pG,ai,ah,Qg,h1,hw,uV];refine⟨aP,⟨i+1,_,ls,zE,zd,rfl,?_⟩,zE⟩
   ·rw[hb];exact bn
  have hb:Ug f (l.take (i+1))=Ug f (l.take i)++[afD f a]:=by rw[bD,xN];simp[Ug,h1]
  have wf1:=wu f zE zE;have wf2:=wu a.st zE zE;have wf3:=wu a.fr zE zE;have wf4:=wu (f-a.st) zE zE;have wf5:IntKind.i64.wrap (f-a.st)=f-a.st:=by rw[Qh]<;>omega
  have oJ:=Qcd a.al a6;obtain⟨fr',ann⟩:∃fr',fr'=if f-a.st<a.fr then f-a.st else a.fr:=⟨_,rfl⟩;have XN:Qg (afD f a)=[I a.id,I a.it,I a.st,I fr',I a.i,I a.re,.sl .ro (a.al.map Qe)]:=by rw[ann];try rfl
  have ud:(0<a.fr/\f-a.st<a.fr/\fr'=f-a.st)\/(0<a.fr/\¬f-a.st<a.fr/\fr'=a.fr)\/(¬0<a.fr/\fr'=a.fr):=by
   rw[ann];by_cases h0:0<a.fr
   ·by_cases hc:f-a.st<a.fr
    ·exact .inl ⟨h0,hc,by simp[hc]⟩
    exact .inr (.inl ⟨h0,hc,by simp[hc]⟩)
   exact .inr (.inr ⟨h0,by rw[if_neg zE]⟩)
  have sD:(Ug f (l.take (i+1))).length=(Ug f (l.take i)).length+1:=by rw[hb];simp
  have afE:Ug f (l.take (i+1))≠[]:=by rw[hb];simp
  have fin:(Ug f (l.take (i+1))).map Qg=(Ug f (l.take i)).map Qg++[[I a.id,I a.it,I a.st,I fr',I a.i,I a.re,.sl .ro (a.al.map Qe)]]:=by rw[hb,zzcj,<- XN];try rfl
  clear ann XN;have XV:=bn;clear bn;obtain⟨e0,h5,rfl⟩|⟨e0,h5,rfl⟩:=XV
  ·rw[e0]at fin sD;obtain⟨h0,hc,rfl⟩|⟨h0,hc,rfl⟩|⟨h0,rfl⟩:=ud
   all_goals
    simp[Qg,ZN,uV, *];refine⟨aP,⟨i+1,_,_,zE,zd,rfl,.inr ⟨afE,?_,?_⟩⟩,zE⟩
    ·simp[fin]
    rw[sD];try rfl
  obtain⟨h0,hc,rfl⟩|⟨h0,hc,rfl⟩|⟨h0,rfl⟩:=ud
  all_goals
   simp[Qg,ZN,uV, *];refine⟨⟨by rintro row (⟨x,_,rfl⟩|rfl)<;>rfl,zE⟩,ag ?_,⟨i+1,_,_,zE,zd,rfl,.inr ⟨afE,?_,?_⟩⟩,zE⟩
   ·repeat(first|exact Qa _ _|refine Qb _ rfl ?_)
   ·simp[fin]
   rw[sD]
 have hbf:l.take i=l:=zzai bu;rw[hbf]at bn;simp[pG,zzbj.2 bu,uV];exact hK _ _ _ bn
def xP(n a b:Int)(ha:0<=a/\a<=1000000000)(hb:0<=b/\b<=1000000000):Pure Tryz.prog aD 170 [I n,I a,I b] (.bool (decide (n=a+b))):=by
 have hw:IntKind.i64.wrap (a+b)=a+b:=by rw[Qh]<;>omega
 have h1:¬a<0:=zE
 have h2:¬b<0:=zE
 have h3:¬a+b<0:=zE
 refine Qm acV (fun _ _ _=>.junk) zd ?_;by_cases h:n=a+b<;>simp[ahC,ahD,hw,h1,h2,h3,h]
def RD(e:ck):Ad:=⟨e.it,0,e.st,e.fr⟩
def rP(n:Int):List Ad->List Ad
 |[]=>[]
 |[a]=>[{a with fs:=a.fs+n}]
 |a::b::r=>a::rP n (b::r)
def Hj(n:Int)(a:Ad):∀l:List Ad,rP n (l++[a])=l++[{a with fs:=a.fs+n}]
 |[]=>rfl
 |[x]=>rfl
 |x::y::r=>by have:=Hj n a (y::r);simp only[zzaf]at this |-;rw[rP,this]
def xQ(x e:ck):Prop:=x.id=e.id/\e.st=x.st+x.fr/\e.i=x.i+x.fr
instance (x e:ck):Decidable (xQ x e):=by unfold xQ;infer_instance
def Yv(x:Option ck)(e:ck)(out:List Ad):List Ad:=
 if e.id=0 then out else match x with
 |none=>out++[RD e]
 |some x=>if xQ x e then rP e.fr out else out++[RD e]
def Wv:Option ck->List ck->List Ad->List Ad
 |_,[],out=>out
 |x,e::r,out=>Wv (some e) r (Yv x e out)
def RE(l:List ck)(f:Int):List Ad:=Wv none (Ug f l) []
def Bs(e:ck):∀(l:List ck)(x:Option ck)(out:List Ad),Wv x (l++[e]) out=Yv (match l.getLast? with|some y=>some y|none=>x) e (Wv x l out)
 |[],_,_=>rfl
 |[a],_,_=>rfl
 |a::b::r,x,out=>by
  have:=Bs e (b::r) (some a) (Yv x a out);simp only[zzaf]at this |-
  rw[Wv,this,List.getLast?_cons_cons];congr 1
def afF{n:Int}:∀{l:List Ad},l≠[]->rP n l≠[]
 |[],h=>absurd rfl h
 |[a],_=>by simp[rP]
 |a::b::r,_=>by simp[rP]
def rQ{B:List ck}{i:Nat}{e:ck}(h:B[i]?=some e):Wv none (B.take (i+1)) []=Yv (if i=0 then none else B[i-1]?) e (Wv none (B.take i) []):=by
 have ah:=(zza.1 h).1;rw[zzap,h];show Wv none (B.take i++[e]) []=_;rw[Bs];congr 1;cases i with
 |zero=>rfl
 |succ i=>
  have hx:B[i]?=some B[i]:=zzac zE;rw[zzap,hx,Option.toList_some,List.getLast?_concat,if_neg zE,zzge,hx]
def OD{B:List ck}:∀{i:Nat}{e:ck},B[i]?=some e->e.id≠0->Wv none (B.take (i+1)) []≠[]
 |0,e,h,h0=>by rw[rQ h,if_pos rfl];simp[Yv,h0]
 |i+1,e,h,h0=>by
  rw[rQ h,if_neg zE,zzge];have ah:=(zza.1 h).1;obtain⟨x,hx⟩:∃x,B[i]?=some x:=⟨_,zzac zE⟩;rw[hx];unfold Yv;rw[if_neg h0];simp only;split
  ·rename_i hj;exact afF (OD hx (by rw[hj.1];exact h0))
  simp
def nQ(f:Int)(hf:f<=1000000):∀(l:List ck),(∀e∈l,Yl e)->∀e∈Ug f l,Yl e
 |[],_,e,h=>by cases h
 |a::r,hs,e,h=>by
  have ih:=nQ f hf r fun e he=>hs e (by simp[he]);rw[Ug]at h;split at h
  ·exact ih e h
  rename_i cI;rcases zzao.1 h with rfl|h
  ·obtain⟨⟨a1,a2⟩,⟨a3,a4⟩,a5,a6⟩:=hs a zd;refine⟨⟨a1,a2⟩,?_,a5,a6⟩;simp only[afD];split<;>omega
  exact ih e h
def FsB(n:Int)(out:List Ad):Prop:=∀a∈out,0<=a.fs/\a.fs<=n
def FsB.inc{n k:Int}(hk:0<=k/\k<=1000000):∀{l:List Ad},FsB n l->FsB (n+1000000) (rP k l)
 |[],_,a,h=>by cases h
 |[x],hl,a,h=>by
  have:=hl x zd;simp only[rP,zzcv]at h;subst h;simp only;omega
 |x::y::r,hl,a,h=>by
  rw[rP]at h;rcases zzao.1 h with rfl|h
  ·have:=hl a zd;omega
  exact FsB.inc hk (l:=y::r) (fun b hb=>hl b (by simp[hb])) a h
def FsB.step{n:Int}{x:Option ck}{e:ck}{out:List Ad}(h:FsB n out)(hn:0<=n)(he:Yl e):FsB (n+1000000) (Yv x e out):=by
 obtain⟨_,h3,_⟩:=he;have hw:FsB (n+1000000) out:=fun a ha=>by have:=h a ha;omega
 have hp:FsB (n+1000000) (out++[RD e]):=fun a ha=>by
  rcases zzat.1 ha with ha|ha
  ·exact hw a ha
  simp only[zzcv]at ha;subst ha;simp only[RD];omega
 unfold Yv;split
 ·exact hw
 cases x with
 |none=>exact hp
 |some x=>
  simp only;split
  ·exact h.inc h3
  exact hp
def Hl(B:List ck)(x:Option ck)(out:List Ad):(Wv x B out).length<=out.length+B.length:=by
 induction B generalizing x out with
 |nil=>simp[Wv]
 |cons e r ih=>
  rw[Wv];have h1:=ih (some e) (Yv x e out)
  have h2:(Yv x e out).length<=out.length+1:=by
   have hi:∀(k:Int)(l:List Ad),(rP k l).length=l.length:=by
    intro k l;induction l with
    |nil=>rfl
    |cons a r ih=>cases r with
     |nil=>rfl
     |cons b r=>rw[rP,zzba,ih];try rfl
   unfold Yv;split
   ·omega
   cases x with
   |none=>simp
   |some x=>
    simp only;split
    · rw[hi];omega
    simp
  simp only[zzba];omega
def s9(l:List Ad):P1:=(l.map Vj).flatten
def uL:∀l,(s9 l).length=l.length*4
 |[]=>rfl
 |a::r=>by have:=uL r;simp only[s9,zzax,zzcg,zzal]at this |-;rw[this];simp[Vj];omega
def afG(a b:List Ad):s9 (a++b)=s9 a++s9 b:=by simp[s9]
def ano(l:List Ad):Zw (s9 l)=true:=p8 (fun _=>rfl) l
def RF{bx:X2}{k:Nat}{c:P1}(h:k<bx.length)(ex:X2):Qf (bx.set k c++ex) k=c:=
 Qv (by rw[zzam (Nm h)];simp[h])
def rR(bx:X2)(k:Nat)(c p q r:P1):Qf (bx.set k c++[p,q,r]) (bx.length+2)=r:=
 Qv (by rw[zzaw zd];simp)
def RG(l:List Ad):aY 4 l.length (s9 l)=l.map Vj:=by
 have:=Qbh (sz:=4) (rows:=l.map Vj) (pY (f:=Vj) (fun _=>rfl) l);rw[zzbv]at this;exact this
def OE(bx:X2)(o:List Ad)(v:AV):Prop:=(o=[]/\v=.sl .nil [])\/(o≠[]/\∃k,v=.bs k 0 o.length 4/\k<bx.length/\Qf bx k=s9 o)
def auh(B:List ck)(ls:P2)(g:Nat->AV)(m:AM):Prop:=
 ∃(i:Nat)(bx:X2),g 15=I i/\i<=B.length/\m=⟨bx,ls,fun _=>.gone,0⟩/\OE bx (Wv none (B.take i) []) (g 5)/\FsB (i*1000000) (Wv none (B.take i) [])
def mB:X1:=fun d f l=>if f=108 then .gd false .junk else if f=170 then(match l with|[.int _ n,.int _ a,.int _ b]=>.bool (decide (n=a+b))|_=>.junk)else if f=999999 then(if d=73 then .junk else .aM 0 [])else .junk
def OE.ext{bx:X2}{o:List Ad}{v:AV}(h:OE bx o v)(ex:X2):OE (bx++ex) o v:=by
 obtain h|⟨h0,k,h1,h2,h3⟩:=h
 ·exact .inl h
 exact .inr ⟨h0,k,h1,by simp;omega,by rw[Qi h2,h3]⟩
def LC(l:List ck)(f:Int)(hl:l.length<=1000000)(hs:∀e∈l,Yl e)(hf:0<=f/\f<=1000000):Pure Tryz.prog aD 112 [.sl .ro (l.map Qg),I f] (.sl .ro ((RE l f).map Vj)):=by
 have hsB:=nQ f hf.2 l hs;have hlB:(Ug f l).length<=1000000:=by have:=Qdp f l;omega
 have:Pure Tryz.prog aD 112 [.sl .ro (l.map Qg),I f] (.sl (if RE l f=[]then .nil else .ro) ((RE l f).map Vj)):=by
  refine Qm ab7 mB zd ?_;simp[Tw,agV,mB];refine xO _ _ l f hl hs hf _ fun ex v ls hO=>?_
  obtain⟨rt,rfl⟩:∃rt,v=.sl rt ((Ug f l).map Qg):=by
   obtain⟨e,rfl,_⟩|⟨e,rfl,_⟩:=hO
   ·exact⟨.nil,by rw[e];try rfl⟩
   exact⟨_,rfl⟩
  clear hO;unfold RE;generalize Ug f l=B at*
  simp;refine Qk ee (auh B ls) (fun g _=>B.length-(numOf (g 15)).toNat) ?_ ?_
  ·exact⟨0,ex,zd,zE,zd,.inl ⟨by simp[Wv],zd⟩,fun a h=>by simp[Wv]at h⟩
  rintro g m ⟨i,bx,sJ,hi,rfl,hO,hF⟩;rcases zzab i B.length with ah|bu
  ·obtain⟨a,ha⟩:=aX ah;have ai:Qf (B.map Qg) i=Qg a:=Qv (by simp[ha]);have hw:=bO i zE;have aa:(i:Int)<(B.length:Int):=zE
   have rf:=hsB a (zzad ha);have bD:=rQ ha;have mj:=hF.step (x:=if i=0 then none else B[i-1]?) (e:=a) zE rf;rw[<- bD]at mj;obtain⟨⟨a1,a2⟩,⟨a3,a4⟩,⟨a5,a6⟩,a7⟩:=rf;by_cases h0:a.id=0
   ·simp[sJ,ai,ah,Qg,h0,ee,hw];refine⟨aP,⟨i+1,_,zd,zE,rfl,?_,?_⟩,zE⟩
    ·simp[Yv,h0]at bD;rw[bD];simpa using hO.ext _
    have:((i+1:Nat):Int)*1000000=(i:Int)*1000000+1000000:=zE
    rw[this];exact mj
   cases i with
   |zero=>
    have e1:Wv none (B.take 1) []=[RD a]:=by rw[bD];simp[Yv,h0,Wv]
    have hO0:g 5=.sl .nil []:=by
     obtain⟨_,h⟩|⟨h,_⟩:=hO
     ·exact h
     exact absurd (by simp[Wv]) h
    have gm:IntKind.i64.wrap 1=1:=by rw[Qh]<;>omega
    simp at sJ;simp[sJ,ai,ah,Qg,h0,ee,gm,hO0,mB];refine⟨aP,⟨1,_,zd,zE,rfl,.inr ⟨by rw[e1];simp,bx.length+1,by simp[e1],zd,?_⟩,?_⟩,zE⟩
    ·simp[e1,s9,Vj,RD]
    simpa using mj
   |succ i=>
    have ay2:i<B.length:=zE
    obtain⟨x,hx⟩:=aX ay2;have xR:Qf (B.map Qg) i=Qg x:=Qv (by simp[hx]);obtain⟨⟨x1,x2⟩,⟨x3,x4⟩,⟨x5,x6⟩,x7⟩:=hsB x (zzad hx);have k1:=xP a.st x.st x.fr zE zE;have k2:=xP a.i x.i x.fr zE zE;have XU:IntKind.i64.wrap (i:Int)=i:=by rw[Qh]<;>omega
    have xS:(i:Int)<(B.length:Int):=zE
    have oC:(0:Int)<(i:Int)+1:=zE
    rw[if_neg zE,zzge,hx]at bD;have aK:=OD hx;have gL:((i+1+1:Nat):Int)*1000000=((i+1:Nat):Int)*1000000+1000000:=zE
    have XC:=Hl (B.take (i+1)) none [];have anp:¬xQ x a->Wv none (B.take (i+1+1)) []=Wv none (B.take (i+1)) []++[RD a]:=fun h=>by rw[bD];simp[Yv,h0,h]
    have LD:xQ x a->Wv none (B.take (i+1+1)) []=rP a.fr (Wv none (B.take (i+1)) []):=fun h=>by rw[bD];simp[Yv,h0,h]
    rw[<- gL]at mj;clear bD;generalize Wv none (B.take (i+1)) []=out at*
    generalize dg:Wv none (B.take (i+1+1)) []=out' at*
    simp at sJ ah aa hw XC;have atv:out.length<=1000000:=zE
    by_cases hj:xQ x a
    ·have e1:=LD hj;obtain⟨j1,j2,j3⟩:=hj;have aK:=aK (by rw[j1];exact h0)
     obtain⟨O,z,rfl⟩:∃O z,out=O++[z]:=by
      rcases zzhg out with e|⟨O,z,e⟩
      ·exact absurd e aK
      exact⟨O,z,by rw[e,zzhh]⟩
     have hOl:(s9 O).length=O.length*4:=uL O;have hz:=hF z zd;have hwz:IntKind.i64.wrap (z.fs+a.fr)=z.fs+a.fr:=by rw[Qh]<;>omega
     have Ho:∀X:P1,(s9 O++X).drop (O.length*4+3)=X.drop 3:=fun X=>Br _ _ _ _ hOl;have hs3:∀X Y:P1,setA (s9 O++X) (O.length*4+3) Y=s9 O++setA X 3 Y:=fun X Y=>Bq _ _ _ _ _ hOl;obtain⟨e,_⟩|⟨_,k,h5,hk,hr⟩:=hO
     ·exact absurd e aK
     have hR:∀ex,Qf (bx++ex) k=s9 O++[I z.it,I z.re,I z.fr,I z.fs]:=fun ex=>by rw[Qi hk,hr,afG];try rfl
     rw[Hj]at e1;rw[zzal,zzhe]at h5;have hwo:IntKind.i64.wrap (O.length:Int)=O.length:=by simp at atv;rw[Qh]<;>omega
     have qu:k<bx.length+1:=zE
     have ZO:k<bx.length+(1+1):=zE
     have ay3:k<bx.length+2:=zE
     simp[sJ,ai,aa,Qg,h0,ee,hw,xR,xS,oC,XU,mB,j1,j2,j3,h5,hR,hwo,Ho,hs3,hOl,hwz,hk,ZO];refine⟨zE,by rw[j2]at k1;simpa using k1,by rw[j3]at k2;simpa using k2,zE,aP,⟨i+1+1,_,zd,zE,rfl,.inr ⟨by rw[dg,e1];simp,k,by rw[dg,e1];simp,by simp;omega,?_⟩,by rw[dg];exact mj⟩,zE⟩
     ·rw[dg,e1,RF hk];simp[s9,Vj]
    have e1:=anp hj
    have ja:¬x.id=a.id\/(x.id=a.id/\¬a.st=x.st+x.fr)\/(x.id=a.id/\a.st=x.st+x.fr/\¬a.i=x.i+x.fr):=by
     unfold xQ at hj;by_cases j1:x.id=a.id
     ·by_cases j2:a.st=x.st+x.fr
      ·exact .inr (.inr ⟨j1,j2,fun j3=>hj ⟨j1,j2,j3⟩⟩)
      exact .inr (.inl ⟨j1,j2⟩)
     exact .inl j1
    obtain⟨rfl,h5⟩|⟨afE,k,h5,hk,hr⟩:=hO
    ·obtain j1|⟨j1,j2⟩|⟨j1,j2,j3⟩:=ja
     ·simp[sJ,ai,aa,Qg,h0,ee,hw,xR,xS,oC,XU,mB,j1,h5];refine⟨zE,aP,⟨i+1+1,_,zd,zE,rfl,.inr ⟨by rw[dg,e1];simp,bx.length+2,by rw[dg,e1];simp,zd,?_⟩,by rw[dg];exact mj⟩,zE⟩
      ·rw[dg,e1];simp[s9,Vj,RD]
     ·simp[sJ,ai,aa,Qg,h0,ee,hw,xR,xS,oC,XU,mB,j1,j2,h5];refine⟨zE,by simpa[j2]using k1,aP,⟨i+1+1,_,zd,zE,rfl,.inr ⟨by rw[dg,e1];simp,bx.length+2,by rw[dg,e1];simp,zd,?_⟩,by rw[dg];exact mj⟩,zE⟩
      ·rw[dg,e1];simp[s9,Vj,RD]
     simp[sJ,ai,aa,Qg,h0,ee,hw,xR,xS,oC,XU,mB,j1,j2,j3,h5];refine⟨zE,by rw[j2]at k1;simpa using k1,by simpa[j3]using k2,aP,⟨i+1+1,_,zd,zE,rfl,.inr ⟨by rw[dg,e1];simp,bx.length+2,by rw[dg,e1];simp,zd,?_⟩,by rw[dg];exact mj⟩,zE⟩
     ·rw[dg,e1];simp[s9,Vj,RD,j2]
    have hR:∀ex,Qf (bx++ex) k=s9 out:=fun ex=>by rw[Qi hk,hr]
    have qu:k<bx.length+1:=zE
    have ZO:k<bx.length+(1+1):=zE
    have ay3:k<bx.length+2:=zE
    have hlo:=uL out;have anq:¬s9 out=[]:=by intro h;rw[h]at hlo;exact afE (zzbh (by simp at hlo;omega))
    have LF:List.take (out.length*4) (s9 out)=s9 out:=zzai zE;obtain j1|⟨j1,j2⟩|⟨j1,j2,j3⟩:=ja
    ·simp[sJ,ai,aa,Qg,h0,ee,hw,xR,xS,oC,XU,mB,j1,h5,hR,hk,ZO,hlo,anq,LF];refine⟨zE,zE,aP,⟨i+1+1,_,zd,zE,rfl,.inr ⟨by rw[dg,e1];simp,bx.length+2,by rw[dg,e1];simp,zd,?_⟩,by rw[dg];exact mj⟩,zE⟩
     ·rw[dg,e1,rR];simp[s9,Vj,RD]
    ·simp[sJ,ai,aa,Qg,h0,ee,hw,xR,xS,oC,XU,mB,j1,j2,h5,hR,hk,ZO,hlo,anq,LF];refine⟨zE,by simpa[j2]using k1,zE,aP,⟨i+1+1,_,zd,zE,rfl,.inr ⟨by rw[dg,e1];simp,bx.length+2,by rw[dg,e1];simp,zd,?_⟩,by rw[dg];exact mj⟩,zE⟩
     ·rw[dg,e1,rR];simp[s9,Vj,RD]
    simp[sJ,ai,aa,Qg,h0,ee,hw,xR,xS,oC,XU,mB,j1,j2,j3,h5,hR,hk,ZO,hlo,anq,LF];refine⟨zE,by rw[j2]at k1;simpa using k1,by simpa[j3]using k2,zE,aP,⟨i+1+1,_,zd,zE,rfl,.inr ⟨by rw[dg,e1];simp,bx.length+2,by rw[dg,e1];simp,zd,?_⟩,by rw[dg];exact mj⟩,zE⟩
    ·rw[dg,e1,rR];simp[s9,Vj,RD,j2]
  obtain rfl:i=B.length:=zE
  rw[zzbp]at hO;obtain⟨e,h5⟩|⟨e,k,h5,hk,hr⟩:=hO
  ·simp[sJ,ee,h5,e]
  simp[sJ,ee,h5,e];rw[hr,Vn _ _ (ano _),uL,if_pos (zzaa _),RG]
 exact Zc this (Wk.sl _ _)
def Hp:SC:=(⟨_,by cbv⟩:we [1,1,1,1,1,1,1,1] IY).1
def Hq:SC:=(⟨_,fun _=>by cbv⟩:jh [1,1] (AT [1,1,1,1,1,1] IY)).1 Hp
def OF:SC:=(⟨_,fun _=>by cbv⟩:jh [1,1] (AT [1,1,1,1] IY)).1 Hq
def aui:SC:=(⟨_,fun _=>by cbv⟩:jh [1,1,1,1] IY).1 OF
theorem afH:IY=aui:=rfl
def Wd(l:Pi):Pi:=l.mergeSort fun x y=>decide (x<=y)
def Bt(l:Pi):(Wd l).length=l.length:=zzeu l
def OG(l:Pi):(l.map Qy).flatten=aj l:=by
 induction l with
 |nil=>rfl
 |cons a r ih=>simp only[zzax,zzcg,ih];rfl
def Bu{α:Type}(l:List α):Rt:=if l=[]then .nil else .ro
def ajA:∀{l:Pi},l≠[]->dd l≠[]
 |[],h=>absurd rfl h
 |[x],_=>by simp[dd]
 |x::y::r,_=>by
  rw[FP];split
  ·exact ajA zd
  simp
def ic(n:Nat)(m:AM)(V:AV)(rows:X2):Prop:=Qw V=true/\∀m':AM,m.boxes.length<=m'.boxes.length->(∀j,n<=j->j<m.boxes.length->Qf m'.boxes j=Qf m.boxes j)->∀d,bG m' (d+2) V=.sl (Bu rows) rows
def ic.mono{n n':Nat}{m:AM}{V:AV}{rows:X2}(h:ic n m V rows)(hn:n'<=n):ic n' m V rows:=⟨h.1,fun m' h1 h2 d=>h.2 m' h1 (fun j q1 q2=>h2 j zE q2) d⟩
def ZP(Y:YT)(m:AM)(rt:Rt)(K:UV)(hK:K (.sl rt []) m):aF Tryz.prog aD Y 114 [.sl rt []] m K:=by
 obtain⟨mb,ml,ms,mn⟩:=m;refine Xn BV (fun _ _ _=>.junk) zd ?_;simp[uX,z8];exact hK
def bE.pre{id:Nat}{mb X B':X2}(h:bE (·=id) (mb++X) B')(aL:mb.length<=id):∃ex,B'=mb++ex:=by
 refine⟨B'.drop mb.length,?_⟩;apply zzct;intro j;have hl:=h.1;simp only[zzal]at hl;rcases zzab j mb.length with hj|hj
 ·rw[zzam hj];have:=h.2 j (by simp;omega) zE;rw[Jf zE,this,Jf hj,Qi hj]
 rw[zzaw hj,zzbr];congr 1;omega
def ic.ints{B:X2}{L:P2}{st:Nat->LS}{n k id:Nat}{l:Pi}{c:P1}(hk:k<=id)(aL:id<B.length)(hB:Qf B id=aj l++c)(hc:Zw c=true)(aK:l≠[]):ic k ⟨B,L,st,n⟩ (.bs id 0 l.length 1) (l.map Qy):=by
 have bn:Bu (l.map Qy)=.ro:=by unfold Bu;rw[if_neg (Nm aK)]
 rw[ic,bn];refine⟨rfl,fun m' h1 h2 d=>?_⟩;have hr:=h2 id hk aL;simp only at hr h1
 have bY:Zw (aj l++c)=true:=by
  have:=WU l;unfold Zw at this hc |-
  rw[zzfi,this,hc];try rfl
 rw[WK,Vo];rw[hr,hB,Vn _ _ bY,if_pos (by rw[zzal,Ue];omega),zzdf,wo];try rfl
def Hr(Y:YT)(orc:X1)(RH:orc 95 999999 []=.aM 0 [])(ho7:orc 97 999999 []=.aM 0 [])(hs:∀d l,orc d 113 l=.gd false .junk)(hp:∀d l,orc d 114 l=.gd false .junk)
  (E:QP)(mb:X2)(ml:P2)(ms:Nat->LS)(mn:Nat)(g:Pg)(f:Int)(mid k3:Nat)(V8:AV)(rD:Rt)(D:Pi)(Q:So)
  (h3:Abs.look E 3=.ptr k3 0)(tO:k3<mb.length)(Hs:Qf mb k3=Qu g f mid)(h8:Abs.look E 8=V8)(KT:Abs.look E 16=.sl rD (D.map Qy))(eR:g.dr.length<=1000000)(uq:D.length<=1000000)
  (hQ:∀E' ex vd,Abs.look E' 6=V8->Abs.look E' 7=vd->ic mb.length ⟨mb++ex,ml,ms,mn⟩ vd ((dd (Wd (g.dr++D))).map Qy)->Q .ret ⟨Za 103 E',⟨mb++ex,ml,ms,mn⟩⟩):
  vc Tryz.prog aD orc Y Hp ⟨Za 103 E,⟨mb,ml,ms,mn⟩⟩ Q:=by
 simp only[Qu,Qo,Qc,zzaf,zzah]at Hs
 have fin:∀(X:X2)(id:Nat)(K:AV->AV->AM->Prop),mb.length<=id->id<(mb++X).length->Qf (mb++X) id=aj (g.dr++D)->g.dr++D≠[]->
   (∀ex vd,ic mb.length ⟨mb++ex,ml,ms,mn⟩ vd ((dd (Wd (g.dr++D))).map Qy)->K (.aS []) vd ⟨mb++ex,ml,ms,mn⟩)->
   aF Tryz.prog aD Y 113 [.bs id 0 (g.dr++D).length 1] ⟨mb++X,ml,ms,mn⟩ (fun r0 m'=>aF Tryz.prog aD Y 114 [.bs id 0 (g.dr++D).length 1] m' (K r0)):=by
  intro X id K cw ah ai aK hK;refine sI Y (g.dr++D) (by simp;omega) _ id [] (by rw[zzau];exact s7 ah ai) (by rw[zzau];intro h;have:=congrArg List.length h;rw[Ue]at this;exact aK (zzbh this)) _ ?_;have aH:(g.dr++D).length=(Wd (g.dr++D)).length:=(Bt _).symm;rw[aH];have dW:Wd (g.dr++D)≠[]:=fun h=>aK (by have:=congrArg List.length h;rw[Bt]at this;exact zzbh this);refine sH Y (Wd (g.dr++D)) (by rw[<- aH];simp;omega) _ _ _ _ id (Nm ah) dW ?_ _ ?_
  ·rw[zzau];exact Qv (by rw[zzbg ah];first|rfl|(rw[zzau];try rfl))
  intro B' z nh yO _
  have bQ:(mb++X).set id (aj (List.mergeSort (g.dr++D) fun x y=>decide (x<=y))++[])=mb++X.set (id-mb.length) (aj (List.mergeSort (g.dr++D) fun x y=>decide (x<=y))++[]):=by
   rw[zzch _ _ cw]
  rw[bQ]at nh;obtain⟨ex,rfl⟩:=bE.pre nh cw;refine hK ex _ ?_;have ay4:id<(mb++ex).length:=by have:=nh.1;simp at this ah |-;omega
  rw[ng]at yO;exact ic.ints cw ay4 yO (WU z) (ajA dW)
 have hR3:∀ex,Qf (mb++ex) k3=_:=fun ex=>(Qi tO).trans Hs;have hm5:mutO orc (some 95)=true:=by unfold mutO;simp[RH]
 have hm7:mutO orc (some 97)=true:=by unfold mutO;simp[ho7]
 simp only[zzal]at fin;by_cases fD:g.dr=[]
 ·by_cases hD:D=[]
  ·simp[Hp,h3,h8,KT,Hs,fD,hD,hs,hp,RH,ho7];refine pH _ _ _ _ ?_;refine ZP _ _ _ _ ?_;have:=fun E' vd h1 h2 h3=>hQ E' [] vd h1 h2 h3;simp only[zzau]at this;refine this _ _ zd (by simp;rfl) ?_;rw[fD,hD];refine⟨rfl,fun m' h1 h2 d=>?_⟩;simp[Wd,dd,Bu]
  have aK:g.dr++D≠[]:=by simp[hD]
  have fF:¬aj D=[]:=fun h=>hD (by have:=congrArg List.length h;rw[Ue]at this;exact zzbh this);rw[fD]at fin hQ aK;simp only[zzcp,zzbn,zzah]at fin hQ;have ry:∀a∈D,(Qy a).length=1:=fun _ _=>rfl;simp[Hp,h3,h8,KT,Hs,fD,hD,hs,hp,RH,ho7,OG,Ue];refine⟨⟨zE,ry⟩,fin [aj D] mb.length _ (zzaa _) zd zd hD ?_⟩;intro ex vd hv;exact hQ _ _ _ zd zd hv
 have aK:g.dr++D≠[]:=by simp[fD]
 have fF:¬aj g.dr=[]:=fun h=>fD (by have:=congrArg List.length h;rw[Ue]at this;exact zzbh this);have ry:∀a∈D,(Qy a).length=1:=fun _ _=>rfl;have ay5:∀a∈g.dr,(Qy a).length=1:=fun _ _=>rfl;have bD:List.take g.dr.length (aj g.dr)=aj g.dr:=zzai (by rw[Ue];exact zzaa _);simp[Hp,h3,h8,KT,Hs,fD,hs,hp,RH,OG,Ue,fF,bD];refine⟨⟨zE,ay5⟩,⟨zE,ry⟩,fin [[],aj g.dr++aj D] (mb.length+1) _ zE zd (by simp[ng]) aK ?_⟩;intro ex vd hv;exact hQ _ _ _ zd zd hv
def DA(rt dA:Rt):Prop:=∀m d x,bG m (d+1) (.sl rt x)=.sl dA x
def DA.ro:DA .ro .ro:=fun _ _ _=>rfl
def DA.nil:DA .nil .nil:=fun _ _ _=>rfl
def DA.own(k s:Nat):DA (.own k s) .ro:=fun _ _ _=>rfl
def ZQ{α:Type}(l:List α):DA (Bu l) (Bu l):=by
 unfold Bu;split
 ·exact DA.nil
 exact DA.ro
def EvW(ml:P2)(rt:Rt)(n:Nat):Prop:=(rt=.nil/\n=0)\/∃k,rt=.own k 7/\ml[k]?=some n
def ZR(Y:YT)(orc:X1)(RH:orc 95 999999 []=.aM 0 [])(ho7:orc 97 999999 []=.aM 0 [])(ho1:orc 91 999999 []=.junk)(hs:∀d l,orc d 113 l=.gd false .junk)(hp:∀d l,orc d 114 l=.gd false .junk)
  (E:QP)(mb:X2)(ml:P2)(ms:Nat->LS)(mn:Nat)(g:Pg)(f:Int)(mid k3 k5:Nat)(q:Pl)(d:Int)(rte ce rti ci rL rD:Rt)(ev bl:List ck)(en:Int)(ids D:Pi)(L:List Sp)(past:List Ad)(Q:So)
  (auj:∀d l,orc d 112 l=.sl .ro (past.map Vj))(auk:∀d l,orc d 111 l=.aS [.sl rL (L.map Qe),.sl rD (D.map Qy)])(h62:∀d l,orc d 51 l=.sl .ro (bl.map Qg))
  (afI:Pure Tryz.prog aD 112 [.sl ce (ev.map Zy),I en] (.sl .ro (past.map Vj)))
  (ZS:Pure Tryz.prog aD 111 [.agg (Qc q),.sl ci (ids.map Qy),I en,.sl .ro (past.map Vj)] (.aS [.sl rL (L.map Qe),.sl rD (D.map Qy)]))
  (XZ:Pure Tryz.prog aD 51 [.agg (Qc q),.sl rL (L.map Qe),I en] (.sl .ro (bl.map Qg)))
  (hce:DA rte ce)(hci:DA rti ci)(hcL:DA rL rL)
  (h3:Abs.look E 3=.ptr k3 0)(tO:k3<mb.length)(Hs:Qf mb k3=Qu g f mid)(h5:Abs.look E 5=.ptr k5 0)(Ri:k5<mb.length)(RI:Qf mb k5=Qc q++[I d])
  (h8:Abs.look E 8=.sl rte (ev.map Zy))(ay6:EvW ml rte ev.length)(h9:Abs.look E 9=I en)(oe:Abs.look E 12=.sl rti (ids.map Qy))
  (eR:g.dr.length<=1000000)(uq:D.length<=1000000)(hl3:ev.length<=1000000)(hl4:bl.length<=10000000)
  (hQ:∀E' ex ls ke vd,Abs.look E' 6=.sl (.own ke 7) (ev.map Zy++bl.map Qg)->Abs.look E' 7=vd->ic mb.length ⟨mb++ex,ls,ms,mn⟩ vd ((dd (Wd (g.dr++D))).map Qy)->Q .ret ⟨Za 103 E',⟨mb++ex,ls,ms,mn⟩⟩):
  vc Tryz.prog aD orc Y Hq ⟨Za 103 E,⟨mb,ml,ms,mn⟩⟩ Q:=by
 have aul:=fun m d x=>hce m d x;have aum:=fun m d x=>hci m d x;have aun:=fun m d x=>hcL m d x;simp only[Qc,zzaf,zzah]at RI;simp only[Qc]at ZS XZ;have hR5:∀ex,Qf (mb++ex) k5=_:=fun ex=>(Qi Ri).trans RI;have hw7:∀a∈ev,(Zy a).length=7:=fun _ _=>rfl;have ay7:∀a∈bl,(Qg a).length=7:=fun _ _=>rfl;obtain⟨rfl,hn⟩|⟨k,rfl,hk⟩:=ay6
 ·have he:ev=[]:=zzbh hn;subst he;simp[Hq,h8,h9,oe,h5,RI,aul,aum,aun,auj,auk,h62,ho1];refine⟨afI,ZS,XZ,⟨ay7,zE⟩,Hr Y orc RH ho7 hs hp _ mb _ ms mn g f mid k3 (.sl (.own ml.length 7) (bl.map Qg)) rD D Q (by simp[h3]) tO Hs zd zd eR uq ?_⟩;intro E' ex vd q1 q2 q3;exact hQ E' ex _ ml.length vd (by rw[q1];try rfl) q2 q3
 simp[Hq,h8,h9,oe,h5,RI,aul,aum,aun,auj,auk,h62,hk];refine⟨afI,ZS,XZ,⟨?_,zE⟩,Hr Y orc RH ho7 hs hp _ mb _ ms mn g f mid k3 (.sl (.own k 7) (ev.map Zy++bl.map Qg)) rD D Q (by simp[h3]) tO Hs zd zd eR uq ?_⟩
 ·rintro row (⟨a,_,rfl⟩|⟨a,_,rfl⟩)<;>rfl
 intro E' ex vd q1 q2 q3;exact hQ E' ex _ k vd q1 q2 q3
def fq(c:P1):Prop:=c≠[]/\LA c
def RJ{a:AV}(h:FJ a=true):cz a:=by
 cases a<;>simp[FJ]at h
 case bool b=>exact cz.bool b
 case int k n=>exact cz.int k n
 case str s=>exact cz.str s
 case sl rt rows=>
  refine cz.sl fun i s e=>?_;subst e;simp at h
 case nilfn=>exact fun w γ v h=>by cases h;exact .nilfn
 case ep row o=>
  intro w γ v h;cases h with
  |ep cv hb hc h=>exact .ep cv hb hc h
def fq.of{c:P1}(h0:c≠[])(h:Zw c=true):fq c:=by
 refine⟨h0,fun a ha=>⟨RJ (zzbf.1 h a ha),fun kn kvs e=>?_⟩⟩;have:=zzbf.1 h a ha;subst e;simp[FJ]at this
def fq.snoc{l:X2}{c:P1}(h:∀x∈l,fq x)(hc:fq c):∀x∈l++[c],fq x:=fun x hx=>by
 rcases zzat.1 hx with hx|hx
 ·exact h x hx
 rw[zzcv.1 hx];exact hc
theorem DB(e:ck):Zw (Qg e)=true:=rfl
theorem ZT(g:Pg):Zw (Qo g)=true:=rfl
def fq.mo(g:Pg)(f:Int)(mid:Nat):fq (Qu g f mid):=by
 refine⟨by simp[Qu],fun a ha=>?_⟩;rcases zzat.1 ha with ha|ha
 ·exact(fq.of (c:=Qo g) (by simp[Qo,Qc]) (ZT g)).2 a ha
 simp only[zzao,zzcm,or_false]at ha;obtain rfl|rfl:=ha
 ·exact⟨cz.int _ _,fun _ _ h=>by cases h⟩
 exact⟨cz.mp _,fun _ _ h=>by cases h⟩
def fq.map(b:QQ):fq [.aM 0 (bI .bool b)]:=by
 refine⟨zd,fun a ha=>?_⟩;rw[zzcv.1 ha];refine⟨cz.aM _ _,fun kn kvs h p hp=>?_⟩;cases h;simp only[bI,zzbk]at hp;obtain⟨x,_,rfl⟩:=hp;exact cz.bool _
def anr(g:Pg)(fr:Int)(mb:X2)(ml:P2)(ms:Nat->LS)(mn:Nat)(f:Nat->AV)(m:AM):Prop:=
 ∃(i:Nat)(b:QQ)(bx:X2),(∀c∈bx,fq c)/\f 16=I i/\i<=g.ev.length/\Xu fr (g.ev.drop i) b=Xu fr g.ev []/\b.length<=i/\
  m=⟨mb++(Qo g::Ee::[.aM 0 (bI .bool b)]::Qu g fr (mb.length+2)::bx),ml,ms,mn⟩
def Bv(Y:YT)(m:AM)(g:Pg)(fr:Int)(hl:g.ev.length<=1000000)(K:UV)
  (hK:∀ex mid,(∀c∈ex,fq c)->m.boxes.length<=mid->iJ (m.boxes++ex) mid (Xu fr g.ev [])->K (.agg (Qu g fr mid)) {m with boxes:=m.boxes++ex}):
  aF Tryz.prog aD Y 55 [.agg (Qo g),I fr] m K:=by
 obtain⟨mb,ml,ms,mn⟩:=m;refine Xn Ta (fun _ _ _=>.junk) zd ?_;simp[akG,Qo,Qc];refine Qk lN (anr g fr mb ml ms mn) (fun f _=>g.ev.length-(numOf (f 16)).toNat) ?_ ?_
 ·exact⟨0,[],[],(fun c h=>by cases h),zd,zE,zd,zd,by simp[Qo,Qc,Qu,Ee]⟩
 rintro f m ⟨i,b,bx,hbx,KT,hi,hb,gI,rfl⟩;rcases zzab i g.ev.length with ah|bu
 ·obtain⟨e,he⟩:=aX ah;have ai:Qf (g.ev.map Qg) i=Qg e:=Qv (by simp[he]);have aa:(i:Int)<(g.ev.length:Int):=zE
  have hw:=bO i zE;have hd:g.ev.drop i=e::g.ev.drop (i+1):=by rw[zzae ah,(zza.1 he).2]
  rw[hd,Xu]at hb;by_cases hs:e.st<fr
  ·rw[if_pos hs]at hb;have fc:=rN e.id true b;rcases Xx AV.bool e.id b 0 with⟨b1,b2,b3,b4⟩|⟨u,n,b1,b2,b3,b4,b5,b6⟩
   ·simp[KT,lN,aa,ai,hw,Qg,Qo,Qc,Qu,Ee,hs,b2];refine⟨aP,⟨i+1,Vi e.id true b,bx++[Qg e],fq.snoc hbx (fq.of (by simp[Qg]) (DB e)),zd,zE,hb,zE,by simp[Qo,Qc,Qu,Ee,Qg,b4]⟩,zE⟩
   simp[KT,lN,aa,ai,hw,Qg,Qo,Qc,Qu,Ee,hs,b2];refine⟨aP,⟨i+1,Vi e.id true b,bx++[Qg e],fq.snoc hbx (fq.of (by simp[Qg]) (DB e)),zd,zE,hb,zE,by simp[Qo,Qc,Qu,Ee,Qg,b6]⟩,zE⟩
  rw[if_neg hs]at hb;simp[KT,lN,aa,ai,hw,Qg,Qo,Qc,Qu,Ee,hs];refine⟨aP,⟨i+1,b,bx++[Qg e],fq.snoc hbx (fq.of (by simp[Qg]) (DB e)),zd,zE,hb,zE,by simp[Qo,Qc,Qu,Ee,Qg]⟩,zE⟩
 obtain rfl:i=g.ev.length:=zE
 rw[zzbz,Xu]at hb;subst hb;simp[KT,lN,akH,Qo,Qc,Qu,Ee];refine hK _ (mb.length+2) ?_ zd ⟨zd,zd⟩;intro c hc;simp only[zzao]at hc;obtain rfl|rfl|rfl|rfl|hc:=hc
 ·exact fq.of zd (by simp[Zw])
 ·exact fq.mo g fr _
 ·exact fq.map _
 ·exact fq.mo g fr _
 exact hbx c hc
section
variable {n:Nat} {m':AM}
def RK(n:Nat)(m':AM):P1->P1->Prop
 |[],[]=>True
 |a::xs,b::ys=>dU n m' a b/\RK n m' xs ys
 |_,_=>False
def RK.both:∀{xs ys:P1},RK n m' xs ys->xs.length=ys.length/\∀(i:Nat)(c d:AV),xs[i]?=some c->ys[i]?=some d->dU n m' c d
 |[],[],_=>⟨rfl,fun i c d h=>by simp at h⟩
 |[],_::_,h=>h.elim
 |_::_,[],h=>h.elim
 |a::xs,b::ys,h=>by
  obtain⟨h1,h2⟩:=RK.both h.2;refine⟨by simp[h1],fun i c d q1 q2=>?_⟩;cases i with
  |zero=>cases q1;cases q2;exact h.1
  |succ i=>exact h2 i c d (Nm q1) (Nm q2)
def Ht{xs ys:P1}(h:RK n m' xs ys):dU n m' (.agg xs) (.agg ys):=dU.agg h.both.1 h.both.2
def Hu{xs ys:P1}(h:RK n m' xs ys):dU n m' (.aS xs) (.aS ys):=dU.aS h.both.1 h.both.2
def afJ(k sz:Nat):dU n m' (.bs k 0 0 sz) (.sl .ro []):=fun N w0 an γ' γ2 w' v hm hr h1 h2=>by
 obtain⟨b,cap,arr,y7,hβ,rfl,hlc,hh,hs⟩:=hr.dz;exact au.sl (w:=w') (γ:=γ2) (rt:=.ro) (rows:=[]) b 0 sz (fun _ _=>undef) (zzbe _) (fun h=>by cases h) (fun h=>absurd rfl h) (fun _ h=>by cases h) (fun i j c h=>by simp[Qr]at h) (fun i j c h=>by simp[Qr]at h) trivial
def sZ.frz{V:AV}{l:List En}(h:sZ m'.boxes V l)(hk:EnK n V):dU n m' V (.sl .ro (l.map Qd)):=by
 obtain⟨rt,rfl,_⟩|⟨k,z,rfl,h2,h3,h4⟩:=h
 ·exact dU.sl _ _
 cases l with
 |nil=>exact afJ _ _
 |cons a r=>
  have bY:Zw (gZ (a::r)++z)=true:=by
   have:=Lt (a::r);unfold Zw at this h4 |-
   rw[zzfi,this,h4];try rfl
  have:=dU.bs (sz:=7) (len:=(a::r).length) (hk _ _ _ _ rfl) (s7 h2 h3) (by simp[gZ,Qd]) bY (by rw[zzal,Qca];omega);rw[nP]at this;exact this
end
def RL:P1:=[I 0,I 0,I 0,I 0,.sl .ro [],I 0,I 0,I 0,I 0,.sl .ro [],.sl .ro [],.sl .ro [],.sl .ro [],I 0]
def zI(x:Option (Pl×Int)):AV:=match x with
 |none=>.aS [.agg RL,.bool false]
 |some (q,d)=>.aS [.agg (Qc q++[I d]),.bool true]
def OH(Y:YT)(m:AM)(g:Pg)(f:Int)(mid:Nat)(b:QQ)(o:Od)(h:ZH g f o)(hb:iJ m.boxes mid b)(hB:∀c∈m.boxes,fq c):
  aF Tryz.prog aD Y 56 [.agg (Qu g f mid),.agg (Qt o)] m (fun r m'=>m'=m/\r=zI (uK g f b o)):=by
 refine aF.freeze (fun c hc=>(hB c hc).1) (fun c hc=>(hB c hc).2) (Lz Y m g f mid b o h hb _ (fun hx ex ls=>?_) (fun q d hx ex V rt ls hV hk bn=>?_))
 ·refine⟨ex,ls,_,rfl,?_,rfl⟩;rw[hx];refine Hu ⟨Ht ?_,dU.bool _,trivial⟩;unfold II RL;refine⟨dU.int _ _,dU.int _ _,dU.int _ _,dU.int _ _,dU.sl _ _,dU.int _ _,dU.int _ _,dU.int _ _,dU.int _ _,dU.sl _ _,dU.sl _ _,dU.sl _ _,dU.sl _ _,dU.int _ _,trivial⟩
 refine⟨ex,ls,_,rfl,?_,rfl⟩;rw[hx];refine Hu ⟨Ht ?_,dU.bool _,trivial⟩;unfold Vb Qc;simp only[zzaf,zzah];exact⟨dU.int _ _,dU.int _ _,dU.int _ _,dU.int _ _,dU.sl _ _,dU.int _ _,dU.int _ _,dU.int _ _,dU.int _ _,dU.sl _ _,sZ.frz hV hk,dU.sl _ _,dU.sl _ _,dU.int _ _,trivial⟩
def OJ(Y:YT)(m:AM)(g:Pg)(f:Int)(mid:Nat)(b:QQ)(o:Od)(h:ZH g f o)(hb:iJ m.boxes mid b)(hB:∀c∈m.boxes,fq c)(K:UV)(hK:K (zI (uK g f b o)) m):
  aF Tryz.prog aD Y 56 [.agg (Qu g f mid),.agg (Qt o)] m K:=
 aF.mono (OH Y m g f mid b o h hb hB) (by rintro r m' ⟨rfl,rfl⟩;exact hK)
def jN(g:Pg)(b:QQ)(e:En):Bool:=!Zs b e.id&&!decide (e.id∈g.dr)
def Kg(g:Pg)(b:QQ)(l:List En):Pi:=(l.filter (jN g b)).map (·.id)
def RM(g:Pg)(b:QQ)(l:List En)(e:En):Kg g b (l++[e])=Kg g b l++(if jN g b e then[e.id]else[]):=by
 unfold Kg;rw[zzdd,zzcj];congr 1;cases h:jN g b e<;>simp[h]
def xU(g:Pg)(b:QQ)(l:List En):(Kg g b l).length<=l.length:=by
 unfold Kg;rw[zzbv];exact zzci _ _
def IdR(ml ls:P2)(rt:Rt)(n:Nat):Prop:=(rt=.nil/\n=0/\ls=ml)\/(rt=.own ml.length 1/\n≠0/\ls=ml++[n])
def auo(g:Pg)(b:QQ)(q:Pl)(mb:X2)(ml:P2)(ms:Nat->LS)(mn:Nat)(s:Nat->AV)(m:AM):Prop:=
 ∃(i:Nat)(bx:X2)(rt:Rt)(ls:P2),s 49=I i/\i<=q.ens.length/\m=⟨mb++bx,ls,ms,mn⟩/\s 12=.sl rt ((Kg g b (q.ens.take i)).map Qy)/\IdR ml ls rt (Kg g b (q.ens.take i)).length
def ZU(Y:YT)(orc:X1)(aup:orc 72 999999 []=.junk)(afK:orc 71 999999 []=.junk)
  (E:QP)(mb:X2)(ml:P2)(ms:Nat->LS)(mn:Nat)(g:Pg)(f:Int)(mid k3 k5:Nat)(b:QQ)(q:Pl)(d:Int)(Q:So)
  (LG:∀d id,orc d 110 [.sl .ro (g.dr.map Qy),I id]=.bool (decide (id∈g.dr)))
  (h3:Abs.look E 3=.ptr k3 0)(tO:k3<mb.length)(Hs:Qf mb k3=Qu g f mid)(h5:Abs.look E 5=.ptr k5 0)(Ri:k5<mb.length)(RI:Qf mb k5=Qc q++[I d])(hb:iJ mb mid b)
  (eR:g.dr.length<=1000000)(uq:q.ens.length<=1000000)
  (hQ:∀E' ex rt ls,(∀k,k≠12->k<14->Abs.look E' k=Abs.look E k)->Abs.look E' 12=.sl rt ((Kg g b q.ens).map Qy)->IdR ml ls rt (Kg g b q.ens).length->vc Tryz.prog aD orc Y Hq ⟨Za 103 E',⟨mb++ex,ls,ms,mn⟩⟩ Q):
  vc Tryz.prog aD orc Y OF ⟨Za 103 E,⟨mb,ml,ms,mn⟩⟩ Q:=by
 simp only[Qu,Qo,Qc,zzaf,zzah]at Hs RI;have hR3:∀ex,Qf (mb++ex) k3=_:=fun ex=>(Qi tO).trans Hs;have hR5:∀ex,Qf (mb++ex) k5=_:=fun ex=>(Qi Ri).trans RI;have hRm:∀ex,Qf (mb++ex) mid=[.aM 0 (bI .bool b)]:=hb.ext;have hk:∀id,Pure Tryz.prog aD 110 [.sl .ro (g.dr.map Qy),I id] (.bool (decide (id∈g.dr))):=fun id=>s5 g.dr id zE;simp[OF,h5,RI];refine Qk om (auo g b q mb ml ms mn) (fun s _=>q.ens.length-(numOf (s 49)).toNat) ?_ ?_
 ·exact⟨0,[],.nil,ml,zd,zE,zd,by simp[Kg],.inl ⟨rfl,by simp[Kg],rfl⟩⟩
 rintro s m ⟨i,bx,rt,ls,h49,hi,rfl,oe,bn⟩;rcases zzab i q.ens.length with ah|bu
 ·obtain⟨x,hx⟩:=aX ah;have ai:Qf (q.ens.map Qd) i=Qd x:=Qv (by simp[hx]);have aa:(i:Int)<(q.ens.length:Int):=zE
  have hw:=bO i zE;have bD:q.ens.take (i+1)=q.ens.take i++[x]:=by rw[zzap,hx];try rfl
  have FX:Kg g b (q.ens.take (i+1))=Kg g b (q.ens.take i)++(if jN g b x then[x.id]else[]):=by rw[bD,RM]
  have lu:=xU g b (q.ens.take i);rw[zzav]at lu;have skip:jN g b x=false->Kg g b (q.ens.take (i+1))=Kg g b (q.ens.take i):=fun h=>by rw[FX,h];simp
  have more:jN g b x=true->Kg g b (q.ens.take (i+1))=Kg g b (q.ens.take i)++[x.id]:=fun h=>by rw[FX,h];simp
  generalize Kg g b (q.ens.take i)=O at*
  generalize dg:Kg g b (q.ens.take (i+1))=O' at*
  have ry:∀a∈O,(Qy a).length=1:=fun _ _=>rfl;rcases Xx AV.bool x.id b 0 with⟨b1,b2,_⟩|⟨u,u',b1,b2,_⟩
  ·by_cases fD:x.id∈g.dr
   ·have e1:=skip (by simp[jN,fD]);simp[h49,aa,ai,Qd,om,hw,h3,hR3,hRm,b2,fD,LG,oe];refine⟨by simpa[fD]using hk x.id,aP,⟨i+1,_,rt,ls,zd,zE,rfl,by rw[dg,e1];simp,by rw[dg,e1];exact bn⟩,zE⟩
   have e1:=more (by simp[jN,fD,Zs,b1]);obtain⟨rfl,hn,rfl⟩|⟨rfl,hn,rfl⟩:=bn
   ·have hO:O=[]:=zzbh hn;subst hO;simp[h49,aa,ai,Qd,om,hw,h3,hR3,hRm,b2,fD,LG,oe,aup,afK];refine⟨by simpa[fD]using hk x.id,aP,⟨i+1,_,_,_,zd,zE,rfl,by rw[dg,e1];simp[Qy];rfl,by rw[dg,e1];exact .inr ⟨rfl,zd,zd⟩⟩,zE⟩
   simp[h49,aa,ai,Qd,om,hw,h3,hR3,hRm,b2,fD,LG,oe,afK];refine⟨by simpa[fD]using hk x.id,⟨?_,zE⟩,aP,⟨i+1,_,_,_,zd,zE,rfl,by rw[dg,e1];simp[Qy];rfl,by rw[dg,e1];exact .inr ⟨rfl,zd,zd⟩⟩,zE⟩
   ·rintro row (⟨a,_,rfl⟩|rfl)<;>rfl
  cases u with
  |true=>
   have e1:=skip (by simp[jN,Zs,b1]);simp[h49,aa,ai,Qd,om,hw,h3,hR3,hRm,b2,LG,oe];refine⟨aP,⟨i+1,_,rt,ls,zd,zE,rfl,by rw[dg,e1];simp,by rw[dg,e1];exact bn⟩,zE⟩
  |false=>
   by_cases fD:x.id∈g.dr
   ·have e1:=skip (by simp[jN,fD]);simp[h49,aa,ai,Qd,om,hw,h3,hR3,hRm,b2,fD,LG,oe];refine⟨by simpa[fD]using hk x.id,aP,⟨i+1,_,rt,ls,zd,zE,rfl,by rw[dg,e1];simp,by rw[dg,e1];exact bn⟩,zE⟩
   have e1:=more (by simp[jN,fD,Zs,b1]);obtain⟨rfl,hn,rfl⟩|⟨rfl,hn,rfl⟩:=bn
   ·have hO:O=[]:=zzbh hn;subst hO;simp[h49,aa,ai,Qd,om,hw,h3,hR3,hRm,b2,fD,LG,oe,aup,afK];refine⟨by simpa[fD]using hk x.id,aP,⟨i+1,_,_,_,zd,zE,rfl,by rw[dg,e1];simp[Qy];rfl,by rw[dg,e1];exact .inr ⟨rfl,zd,zd⟩⟩,zE⟩
   simp[h49,aa,ai,Qd,om,hw,h3,hR3,hRm,b2,fD,LG,oe,afK];refine⟨by simpa[fD]using hk x.id,⟨?_,zE⟩,aP,⟨i+1,_,_,_,zd,zE,rfl,by rw[dg,e1];simp[Qy];rfl,by rw[dg,e1];exact .inr ⟨rfl,zd,zd⟩⟩,zE⟩
   ·rintro row (⟨a,_,rfl⟩|rfl)<;>rfl
 have hbf:q.ens.take i=q.ens:=zzai bu;rw[hbf]at oe bn;have bT:¬(i:Int)<(q.ens.length:Int):=zE
 simp[h49,bT,om];refine hQ _ _ rt ls (fun k h1 h2=>?_) (by simp[oe]) bn;have:k=0\/k=1\/k=2\/k=3\/k=4\/k=5\/k=6\/k=7\/k=8\/k=9\/k=10\/k=11\/k=13:=zE
 rcases this with rfl|rfl|rfl|rfl|rfl|rfl|rfl|rfl|rfl|rfl|rfl|rfl|rfl<;>simp
def tW(g:Pg)(f:Int)(b:QQ)(o:Od)(q:Pl)(d:Int):Option ck:=match Jw g f b with
 |none=>none
 |some e=>match lI g f o q d e with
  |none=>none
  |some F=>if F=0 then none else some ⟨e.id,e.it,f,F,e.i+(f-e.st),rO q f e.it F q.rg.toNat,lJ q f e.id F ((Zo e.id q.ens).getD yT).al,decide (lJ q f e.id F ((Zo e.id q.ens).getD yT).al=[])⟩
def nl0(e:ck):ck:={e with nl:=false}
def Jp(g:Pg)(f:Int)(b:QQ)(o:Od)(q:Pl)(d:Int):List ck:=(Ug f g.ev).map nl0++(tW g f b o q d).toList
def Wm(g:Pg)(f:Int)(b:QQ)(o:Od)(q:Pl)(d:Int):Int:=match tW g f b o q d with
 |none=>f
 |some e=>f+e.fr
def tc(g:Pg)(f:Int)(b:QQ)(o:Od)(q:Pl)(d:Int):List Ad:=RE (Jp g f b o q d) (Wm g f b o q d)
def xV(g:Pg)(f:Int)(b:QQ)(o:Od)(q:Pl)(d:Int):List Bool:=Kh q (Wm g f b o q d) (tc g f b o q d) (Kg g b q.ens)
def Yq(g:Pg)(f:Int)(b:QQ)(o:Od)(q:Pl)(d:Int):List Sp:=(Ud q (Wm g f b o q d) (tc g f b o q d) (Xc true (Kg g b q.ens) (xV g f b o q d))).getD []
def RN(g:Pg)(f:Int)(b:QQ)(o:Od)(q:Pl)(d:Int):Pi:=Xc false (Kg g b q.ens) (xV g f b o q d)
def IJ(g:Pg)(f:Int)(b:QQ)(o:Od)(q:Pl)(d:Int):List ck:=rA q (Yq g f b o q d) (Wm g f b o q d)
def Hv(l:List Sp):Ww l=.sl (Bu l) (l.map Qe):=by
 unfold Ww Bu;split
 ·rename_i h;rw[h];try rfl
 rfl
def afL(l:Pi):Hw l=.sl (Bu l) (l.map Qy):=by
 unfold Hw Bu;split
 ·rename_i h;rw[h];try rfl
 rfl
def xW(l:List ck):(l.map nl0).map Zy=l.map Qg:=by
 rw[zzcz];exact zzdb fun e _=>rfl
def Bw(l:List ck):(l.map nl0).map Qg=l.map Qg:=by
 rw[zzcz];exact zzdb fun e _=>rfl
def OK(g:Pg)(past:List Ad)(L:List Sp)(D:Pi)(bl:List ck):X1:=fun dst fn l=>
 if fn=112 then .sl .ro (past.map Vj)else if fn=111 then .aS [.sl (Bu L) (L.map Qe),.sl (Bu D) (D.map Qy)]else if fn=51 then .sl .ro (bl.map Qg)
 else if fn=110 then(match l with|[_,.int _ id]=>.bool (decide (id∈g.dr))|_=>.junk)else if fn=999999 then(if dst=95\/dst=97 then .aM 0 []else .junk)else .gd false .junk
structure Hx (g:Pg) (f:Int) (b:QQ) (o:Od) (q:Pl) (d:Int):Prop where
 mo:nM g f
 pl:Ec q
 pk:PlK q
 d0:0<=d/\d<=1000000000
 rg:0<=q.rg/\q.rg<=8
 f0:0<=f/\f<=1000000
 ev:g.ev.length<=2000
 dr:g.dr.length<=1000000
 ln:q.ln<=1000000
 cu:∀e,tW g f b o q d=some e->Yl e
 en:0<=Wm g f b o q d/\Wm g f b o q d<=1000000
 st:∀s∈Yq g f b o q d,-1000000000<=s.2/\s.2<=1000000000
def kT{g:Pg}{f:Int}{b:QQ}{o:Od}{q:Pl}{d:Int}(h:Hx g f b o q d):(Jp g f b o q d).length<=2001/\∀e∈Jp g f b o q d,Yl e:=by
 have h1:=Qdp f g.ev;have h2:=nQ f h.f0.2 g.ev h.mo.2.1;refine⟨?_,fun e he=>?_⟩
 ·have:=h.ev;have h3:(tW g f b o q d).toList.length<=1:=by cases tW g f b o q d<;>simp
  simp only[Jp,zzal,zzbv];omega
 rcases zzat.1 he with he|he
 ·obtain⟨x,hx,rfl⟩:=zzbk.1 he;exact h2 x hx
 exact h.cu e (by cases hc:tW g f b o q d with
  |none=>rw[hc]at he;simp at he
  |some x=>rw[hc]at he;simp at he;rw[he])
def ZV{g:Pg}{f:Int}{b:QQ}{o:Od}{q:Pl}{d:Int}(h:Hx g f b o q d):(tc g f b o q d).length<=2001:=by
 have h1:=Hl (Ug (Wm g f b o q d) (Jp g f b o q d)) none [];have h2:=Qdp (Wm g f b o q d) (Jp g f b o q d);have h3:=(kT h).1;simp only[zzcp]at h1;unfold tc RE;omega
def afM{g:Pg}{f:Int}{b:QQ}{o:Od}{q:Pl}{d:Int}(h:Hx g f b o q d)(ce:Rt):Pure Tryz.prog aD 112 [.sl ce ((Jp g f b o q d).map Zy),I (Wm g f b o q d)] (.sl .ro ((tc g f b o q d).map Vj)):=
 Xl (LC (Jp g f b o q d) (Wm g f b o q d) (by have:=(kT h).1;omega) (kT h).2 h.en) ⟨Wk.trans (Wk.sl _ _) (La _),Ps,trivial⟩
def afN{g:Pg}{f:Int}{b:QQ}{o:Od}{q:Pl}{d:Int}(h:Hx g f b o q d)(ci:Rt):
  Pure Tryz.prog aD 111 [.agg (Qc q),.sl ci ((Kg g b q.ens).map Qy),I (Wm g f b o q d),.sl .ro ((tc g f b o q d).map Vj)] (.aS [.sl (Bu (Yq g f b o q d)) ((Yq g f b o q d).map Qe),.sl (Bu (RN g f b o q d)) ((RN g f b o q d).map Qy)]):=by
 have h1:=xU g b q.ens;have h2:=h.pk.ens;have h3:=h.en;have:=ZW h.pk (at_:=Wm g f b o q d) (by unfold ans;omega) (past:=tc g f b o q d) (by have:=ZV h;omega) (ids:=Kg g b q.ens) zE;rw[RP,Hv,afL]at this;exact Xl this ⟨Ps,Wk.sl _ _,Ps,Ps,trivial⟩
def ant{g:Pg}{f:Int}{b:QQ}{o:Od}{q:Pl}{d:Int}(h:Hx g f b o q d)(hl:(Yq g f b o q d).length<=1000000)(rL:Rt):
  Pure Tryz.prog aD 51 [.agg (Qc q),.sl rL ((Yq g f b o q d).map Qe),I (Wm g f b o q d)] (.sl .ro ((IJ g f b o q d).map Qg)):=by
 obtain⟨q1,q2,q3,q4,q5,q6⟩:=h.pl;exact Xl (sP q (Yq g f b o q d) (Wm g f b o q d) zE zE zE zE q6 h.ln hl h.st) ⟨Ps,Wk.sl _ _,Ps,trivial⟩
def DC(ex jL:X2)(a b c X:P1):Qf (a::b::c::(ex++(jL++[X]))) (ex.length+(jL.length+3))=X:=by
 refine Qv ?_;have:a::b::c::(ex++(jL++[X]))=([a,b,c]++ex++jL)++[X]:=zd
 rw[this,zzaw (by simp;omega),show ex.length+(jL.length+3)-([a,b,c]++ex++jL).length=0 by simp;omega];try rfl
def EvW.more{ml:P2}{rt:Rt}{n:Nat}(h:EvW ml rt n)(x:P2):EvW (ml++x) rt n:=by
 obtain h|⟨k,h1,h2⟩:=h
 ·exact .inl h
 exact .inr ⟨k,h1,by rw[zzam (zza.1 h2).1];exact h2⟩
def EvW.cv{ml:P2}{rt:Rt}{n:Nat}(h:EvW ml rt n):∃ce,DA rt ce:=by
 obtain⟨rfl,_⟩|⟨k,rfl,_⟩:=h
 ·exact⟨_,DA.nil⟩
 exact⟨_,DA.own _ _⟩
def IdR.cv{ml ls:P2}{rt:Rt}{n:Nat}(h:IdR ml ls rt n):∃ci,DA rt ci:=by
 obtain⟨rfl,_⟩|⟨rfl,_⟩:=h
 ·exact⟨_,DA.nil⟩
 exact⟨_,DA.own _ _⟩
def IdR.ls{ml ls:P2}{rt:Rt}{n:Nat}(h:IdR ml ls rt n):∃x,ls=ml++x:=by
 obtain⟨_,_,rfl⟩|⟨_,_,rfl⟩:=h
 ·exact⟨[],zd⟩
 exact⟨_,rfl⟩
def RQ(Y:YT)(m:AM)(g:Pg)(f:Int)(mid:Nat)(b:QQ)(o:Od)(q:Pl)(d:Int)(h:Hx g f b o q d)(hb:iJ m.boxes mid b)
  (fQ:(Yq g f b o q d).length<=1000000)(gI:(IJ g f b o q d).length<=10000000)(K:UV)
  (
   hK:∀ex ls ke vd,ic m.boxes.length ⟨m.boxes++ex,ls,m.st,m.ln⟩ vd ((dd (Wd (g.dr++RN g f b o q d))).map Qy)->
   K (.aS [.sl (.own ke 7) ((Jp g f b o q d).map Zy++(IJ g f b o q d).map Qg),vd]) ⟨m.boxes++ex,ls,m.st,m.ln⟩):
  aF Tryz.prog aD Y 57 [.agg (Qu g f mid),.agg (Qt o),.agg (Qc q++[I d])] m K:=by
 obtain⟨mb,ml,ms,mn⟩:=m;have hB:∀ex,iJ (mb++ex) mid b:=fun ex=>⟨by have:=hb.1;simp at this |-;omega,hb.ext ex⟩;have afI:=fun ce=>afM h ce;have ZS:=fun ci=>afN h ci;have XZ:=fun rL=>ant h fQ rL
 have hdl:(RN g f b o q d).length<=1000000:=by
  have h1:=DD false (Kg g b q.ens) (xV g f b o q d);have h2:=xU g b q.ens;have h3:=h.pk.ens;unfold RN;omega
 have bZ:=(kT h).1;have hL:∀ev,Jp g f b o q d=ev->ev.length<=2001:=fun ev he=>by rw[<- he];exact bZ
 generalize hpast:tc g f b o q d=past at*
 generalize hstart:Yq g f b o q d=L at*
 generalize hdrop:RN g f b o q d=D at*
 generalize hbld:IJ g f b o q d=bl at*
 have tail:∀(E:QP)(X:X2)(ls:P2)(rte:Rt)(Q:So),Abs.look E 3=.ptr mb.length 0->Qf (mb++X) mb.length=Qu g f mid->2<X.length->
   Abs.look E 5=.ptr (mb.length+2) 0->Qf (mb++X) (mb.length+2)=Qc q++[I d]->Abs.look E 8=.sl rte ((Jp g f b o q d).map Zy)->EvW ls rte (Jp g f b o q d).length->Abs.look E 9=I (Wm g f b o q d)->
   (∀E' ex LH ke vd,Abs.look E' 6=.sl (.own ke 7) ((Jp g f b o q d).map Zy++bl.map Qg)->Abs.look E' 7=vd->ic mb.length ⟨mb++ex,LH,ms,mn⟩ vd ((dd (Wd (g.dr++D))).map Qy)->Q .ret ⟨Za 103 E',⟨mb++ex,LH,ms,mn⟩⟩)->
   vc Tryz.prog aD (OK g past L D bl) Y OF ⟨Za 103 E,⟨mb++X,ls,ms,mn⟩⟩ Q:=by
  intro E X ls rte Q e3 r3 hX e5 r5 e8 hw e9 hQ;refine ZU Y _ (by simp[OK]) (by simp[OK]) E (mb++X) ls ms mn g f mid mb.length (mb.length+2) b q d Q (fun d id=>by simp[OK]) e3 (by simp;omega) r3 e5 (by simp;omega) r5 (hB X) h.dr (by have:=h.pk.ens;omega) ?_;intro E' ex rt LH hE oe aL;obtain⟨ci,hci⟩:=aL.cv;obtain⟨ce,hce⟩:=hw.cv;obtain⟨x,rfl⟩:=aL.ls
  refine ZR Y _ (by simp[OK]) (by simp[OK]) (by simp[OK]) (fun _ _=>by simp[OK]) (fun _ _=>by simp[OK]) E' (mb++X++ex) (ls++x) ms mn g f mid mb.length (mb.length+2) q d rte ce rt ci (Bu L) (Bu D) (Jp g f b o q d) bl (Wm g f b o q d) (Kg g b q.ens) D L past Q
   (fun _ _=>by simp[OK]) (fun _ _=>by simp[OK]) (fun _ _=>by simp[OK]) (afI ce) (ZS ci) (XZ _) hce hci (ZQ L)
   ((hE 3 zE zE).trans e3) (by simp;omega) ((Qi (by simp;omega)).trans r3) ((hE 5 zE zE).trans e5) (by simp;omega) ((Qi (by simp;omega)).trans r5)
   ((hE 8 zE zE).trans e8) (hw.more x) ((hE 9 zE zE).trans e9) oe h.dr hdl zE gI ?_
  intro E2 jL ls2 ke vd q1 q2 q3;replace q3:=q3.mono (n':=mb.length) zd;rw[zzbd,zzbd]at q3 |-
  exact hQ E2 _ ls2 ke vd q1 q2 q3
 obtain⟨hm,iy,Fl,hd0,SY,hf0,az6,fD,eO,ud,hen,cI⟩:=h;refine Xn akI (OK g past L D bl) zd ?_;rw[afH];simp[aui,apw,Qu,Qo,Qc,Qt,Qd,Qj,Qp,OK];refine xO Y _ g.ev f zE hm.2.1 hf0 _ fun ex v ls hO=>?_;simp;have hbr:∀l:List ck,∀a∈l,(Qg a).length=7:=fun _ _ _=>rfl;have az7:(Ug f g.ev).length<=2000:=by have:=Qdp f g.ev;omega
 refine afC Y _ g f mid b o q (.sl .ro (q.ens.map Qd)) .ro d (.inl ⟨.ro,rfl,Rz.ro⟩) Rz.ro hm (hB _) iy hd0 SY _ (fun e F he hF ey jL ls2 v2 hO2=>?_) (fun hn jL=>?_)
 ·have eu:tW g f b o q d=some ⟨e.id,e.it,f,F,e.i+(f-e.st),rO q f e.it F q.rg.toNat,lJ q f e.id F ((Zo e.id q.ens).getD yT).al,decide (lJ q f e.id F ((Zo e.id q.ens).getD yT).al=[])⟩:=by
   unfold tW;rw[he];simp only;rw[hF];simp only;rw[if_neg ey]
  have Ln:Wm g f b o q d=f+F:=by unfold Wm;rw[eu]
  have hw:IntKind.i64.wrap (f+F)=f+F:=by rw[Qh]<;>omega
  have fL:(Jp g f b o q d).map Zy=(Ug f g.ev).map Qg++[[I e.id,I e.it,I f,I F,I (e.i+(f-e.st)),I (rO q f e.it F q.rg.toNat),.sl (if lJ q f e.id F ((Zo e.id q.ens).getD yT).al=[]then .nil else .ro) ((lJ q f e.id F ((Zo e.id q.ens).getD yT).al).map Qe)]]:=by
   unfold Jp;rw[eu,zzcj,xW];simp[Zy]
  have anu:(Jp g f b o q d).length=(Ug f g.ev).length+1:=by
   unfold Jp;rw[eu];simp
  rw[fL,anu,Ln]at tail;rw[fL]at hK;generalize lJ q f e.id F ((Zo e.id q.ens).getD yT).al=A at*
  obtain⟨rfl,rfl,rfl⟩|⟨hA,rfl,rfl⟩:=hO2
  ·obtain⟨h0,rfl,rfl⟩|⟨h0,rfl,rfl⟩:=hO
   ·rw[h0]at tail hK;simp[zzas,hw,DC ex jL];refine tail _ _ _ _ _ zd (by simp[Qu,Qo,Qc]) zd zd (by simp[Qc]) (by simp;rfl) (.inr ⟨_,rfl,zd⟩) zd ?_;intro E' qv LH ke vd q1 q2 q3;have:=hK qv LH ke vd q3;simp[q1,q2]at this |-
    exact this
   skip
   simp[zzas,hw,DC ex jL];refine⟨⟨by rintro row (⟨a,_,rfl⟩|rfl)<;>rfl,zE⟩,tail _ _ _ _ _ zd (by simp[Qu,Qo,Qc]) zd zd (by simp[Qc]) (by simp;rfl) (.inr ⟨_,rfl,zd⟩) zd ?_⟩;intro E' qv LH ke vd q1 q2 q3;have:=hK qv LH ke vd q3;simp[q1,q2]at this |-
   exact this
  obtain⟨h0,rfl,rfl⟩|⟨h0,rfl,rfl⟩:=hO
  ·rw[h0]at tail hK;simp[zzas,hw,DC ex jL];refine tail _ _ _ (.own (ls.length+1) 7) _ zd (by simp[Qu,Qo,Qc]) zd zd (by simp[Qc]) (by simp[hA]) (.inr ⟨_,rfl,zd⟩) zd ?_;intro E' qv LH ke vd q1 q2 q3;have:=hK qv LH ke vd q3;simp[q1,q2]at this |-
   exact this
  skip
  simp[zzas,hw,DC ex jL];refine⟨⟨by rintro row (⟨a,_,rfl⟩|rfl)<;>rfl,zE⟩,tail _ _ _ (.own ml.length 7) _ zd (by simp[Qu,Qo,Qc]) zd zd (by simp[Qc]) (by simp[hA]) (.inr ⟨_,rfl,zd⟩) zd ?_⟩;intro E' qv LH ke vd q1 q2 q3;have:=hK qv LH ke vd q3;simp[q1,q2]at this |-
  exact this
 have eu:tW g f b o q d=none:=by
  unfold tW;cases hp:Jw g f b with
  |none=>rfl
  |some e=>
   rw[hp]at hn;simp only[zzcr]at hn;obtain hn|hn:=hn
   ·simp only[hn]
   simp only[hn,if_true]
 have Ln:Wm g f b o q d=f:=by unfold Wm;rw[eu]
 have fL:(Jp g f b o q d).map Zy=(Ug f g.ev).map Qg:=by
  unfold Jp;rw[eu,zzcj,xW];simp
 have anu:(Jp g f b o q d).length=(Ug f g.ev).length:=by
  unfold Jp;rw[eu];simp
 rw[fL,anu,Ln]at tail;rw[fL]at hK;obtain⟨h0,rfl,rfl⟩|⟨h0,rfl,rfl⟩:=hO
 ·rw[h0]at tail hK;simp[zzas,nN];refine tail _ _ _ .nil _ zd (by simp[Qu,Qo,Qc]) zd zd (by simp[Qc]) zd (.inl ⟨rfl,rfl⟩) zd ?_;intro E' qv LH ke vd q1 q2 q3;have:=hK qv LH ke vd q3;simp[q1,q2]at this |-
  exact this
 simp[zzas,nN];refine tail _ _ _ (.own ml.length 7) _ zd (by simp[Qu,Qo,Qc]) zd zd (by simp[Qc]) zd (.inr ⟨_,rfl,zd⟩) zd ?_;intro E' qv LH ke vd q1 q2 q3;have:=hK qv LH ke vd q3;simp[q1,q2]at this |-
 exact this
def nR(g:Pg)(o:Od)(b:QQ)(q:Pl)(d:Int):Pg:=
 {g with p:=q,ev:=Jp g o.fr b o q d++IJ g o.fr b o q d,dr:=dd (Wd (g.dr++RN g o.fr b o q d)),ve:=g.ve+1}
def Uu(g:Pg)(o:Od):Pg:=
 if IG g o=false then{g with ve:=g.ve+1}
 else match uK g o.fr (Xu o.fr g.ev []) o with
  |none=>{g with ve:=g.ve+1}
  |some (q,d)=>nR g o (Xu o.fr g.ev []) q d
structure LI (g:Pg) (o:Od):Prop where
 pg:PgC g
 al:o.nw.al.length<=8796093022208
 ve:0<=g.ve/\g.ve<=1000000
 cu:g.cu.length<=1000000
 ZI:o.ki=1\/o.ki=2
 ch:IG g o=true->ZH g o.fr o
 rn:IG g o=true->∀q d,uK g o.fr (Xu o.fr g.ev []) o=some (q,d)->Hx g o.fr (Xu o.fr g.ev []) o q d/\(Yq g o.fr (Xu o.fr g.ev []) o q d).length<=1000000/\(IJ g o.fr (Xu o.fr g.ev []) o q d).length<=10000000
def iJ.more{bx:X2}{mid:Nat}{b:QQ}(h:iJ bx mid b)(x:X2):iJ (bx++x) mid b:=⟨by have:=h.1;simp;omega,h.ext x⟩
def iJ.ay8{a b c d d':P1}{ex:X2}{mid:Nat}{bg:QQ}(h:iJ (a::b::c::d::ex) mid bg)(hm:4<=mid)(x:X2):iJ (a::b::c::d'::(ex++x)) mid bg:=by
 obtain⟨j,rfl⟩:∃j,mid=j+4:=⟨mid-4,zE⟩;obtain⟨h1,h2⟩:=h;have hg:=Jf h1;rw[h2]at hg;simp only[zzdh]at hg;have hj:=(zza.1 hg).1;refine⟨by simp;omega,Qv ?_⟩;simp only[zzdh];rw[zzam hj,hg]
def cell_of{a:AV}(h:Qw a=true):cellsOf a=[a]:=by cases a<;>simp_all[Qw,cellsOf]
def afO{a:AV}(h:Qw a=true):bare a=true:=by cases a<;>simp_all[Qw,bare]
def anv(a b:List ck):Wk (.sl .ro (a.map Zy++b.map Qg)) (.sl .ro ((a++b).map Qg)):=by
 have h:a.map Zy++b.map Qg=(a++b.map nl0).map Zy:=by rw[zzcj,xW]
 have h2:(a++b).map Qg=(a++b.map nl0).map Qg:=by rw[zzcj,zzcj,Bw]
 rw[h,h2];exact La _
def anw(g:Pg)(o:Od)(h:LI g o):∃re rc rd evr,Wk (.sl re evr) (.sl .ro ((Uu g o).ev.map Qg))/\
  Pure Tryz.prog aD 18 [.agg (Qo g),.agg (Qt o)] (.agg (Qc (Uu g o).p++[.sl re evr,.sl rc ((Uu g o).cu.map Qp),I (Uu g o).ed,.sl rd ((Uu g o).dr.map Qy),I (Uu g o).ve])):=by
 obtain⟨hpg,fc,hve,ud,ZI,kL,hrn⟩:=h;have h5:¬o.ki=5:=zE
 have k76:=ZX g hpg;have RR:=sY g o fc;simp only[Qo,Qc,Qt,Qd,Qj,Qp,zzaf,zzah]at k76 RR;have hw:IntKind.i64.wrap (g.ve+1)=g.ve+1:=by rw[Qh]<;>omega
 cases hc:IG g o with
 |false=>
  have ha:Uu g o={g with ve:=g.ve+1}:=by unfold Uu;rw[if_pos hc]
  rw[ha];rw[hc]at RR;refine⟨.ro,.ro,.ro,g.ev.map Qg,Ps,Qm IP (fun _ f l=>if f=52 then l.headD .junk else if f=53 then .bool (IG g o)else .gd false .junk) zd ?_⟩;simp[abC,abD,Qo,Qc,Qt,Qd,Qj,Qp,hc,hw];exact⟨k76,RR⟩
 |true=>
  rw[hc]at RR
  ·have kL:=kL hc;have hrn:=hrn hc;cases hx:uK g o.fr (Xu o.fr g.ev []) o with
   |none=>
    have ha:Uu g o={g with ve:=g.ve+1}:=by unfold Uu;rw[if_neg (by rw[hc];decide),hx]
    rw[ha];refine⟨.ro,.ro,.ro,g.ev.map Qg,Ps,Qm IP (fun _ f l=>if f=52 then l.headD .junk else if f=53 then .bool true else .gd false .junk) zd ?_⟩;simp[abC,abD,Qo,Qc,Qt,Qd,Qj,Qp,hw,h5];refine⟨k76,RR,?_⟩;refine Bv Y0 _ g o.fr (by have:=hpg.2.1;omega) _ fun ex mid hex VM gT=>?_;simp[Qu,Qo,Qc,zzas];refine OJ Y0 _ g o.fr mid (Xu o.fr g.ev []) o kL ?_ ?_ _ ?_
    ·have:=fun x=>iJ.more gT x;simp only[zzaf,zzah]at this;exact this _
    ·intro c hc;simp only[zzao,zzat,zzcm,or_false]at hc;obtain rfl|rfl|rfl|rfl|hc|rfl:=hc
     ·exact fq.of zd rfl
     ·exact fq.of zd rfl
     ·exact fq.of zd rfl
     ·exact fq.of zd rfl
     ·exact hex c hc
     exact fq.mo g o.fr mid
    rw[hx];simp[zI,RL]
   |some r=>
    obtain⟨q,d⟩:=r;obtain⟨hR,fQ,gI⟩:=hrn q d hx;have ha:Uu g o=nR g o (Xu o.fr g.ev []) q d:=by unfold Uu;rw[if_neg (by rw[hc];decide),hx]
    rw[ha];refine⟨.ro,.ro,Bu ((nR g o (Xu o.fr g.ev []) q d).dr.map Qy),(Jp g o.fr (Xu o.fr g.ev []) o q d).map Zy++(IJ g o.fr (Xu o.fr g.ev []) o q d).map Qg,anv _ _,Qm IP (fun _ f l=>if f=52 then l.headD .junk else if f=53 then .bool true else .gd false .junk) zd ?_⟩;simp[abC,abD,Qo,Qc,Qt,Qd,Qj,Qp,hw,h5];refine⟨k76,RR,?_⟩;refine Bv Y0 _ g o.fr (by have:=hpg.2.1;omega) _ fun ex mid hex VM gT=>?_;simp[Qu,Qo,Qc,zzas];have od:=fun x=>iJ.more gT x;simp only[zzaf,zzah]at od
    refine OJ Y0 _ g o.fr mid (Xu o.fr g.ev []) o kL (od _) (by
     intro c hc;simp only[zzao,zzat,zzcm,or_false]at hc;obtain rfl|rfl|rfl|rfl|hc|rfl:=hc
     ·exact fq.of zd rfl
     ·exact fq.of zd rfl
     ·exact fq.of zd rfl
     ·exact fq.of zd rfl
     ·exact hex c hc
     exact fq.mo g o.fr mid) _ ?_
    rw[hx];simp[zI,Qc,zzas];refine RQ Y0 _ g o.fr mid (Xu o.fr g.ev []) o q d hR (iJ.ay8 (by simpa using od []) (Nm VM) _) fQ gI _ fun jL ls ke vd hv=>?_;have fB:=hv.1;have yZ:=cell_of fB;have hc3:=afO fB;simp[zzas,fB,yZ,hc3];refine⟨zE,zE,rfl,rfl,rfl,rfl,rfl,rfl,rfl,rfl,rfl,rfl,rfl,rfl,rfl,rfl,rfl,?_,?_⟩
    ·refine hv.2 _ zd (fun j h1 h2=>?_) _;simp at h1;obtain⟨i,rfl⟩:∃i,j=i+4:=⟨j-4,zE⟩;simp
    rfl
def xX(g:Pg)(o:Od)(h:LI g o):Pure Tryz.prog aD 18 [.agg (Qo g),.agg (Qt o)] (.agg (Qo (Uu g o))):=by
 obtain⟨re,rc,rd,evr,hw,hp⟩:=anw g o h;refine Zc hp ?_;unfold Qo;simp only[Qc,zzaf,zzah];refine Wq ?_;exact⟨Ps,Ps,Ps,Ps,Ps,Ps,Ps,Ps,Ps,Ps,Ps,Ps,Ps,hw,Wk.sl _ _,Ps,Wk.sl _ _,Ps,trivial⟩
def DE{l l':P1}(h:WkL l l'):Wk (.aS l) (.aS l'):=fun w γ v hr=>by
 have key:∀{l l':P1},WkL l l'->l.length=l'.length/\∀(i:Nat)(c':AV),l'[i]?=some c'->∃c,l[i]?=some c/\Wk c c':=by
  intro l;induction l with
  |nil=>intro l' h;cases l' with
   |nil=>exact⟨rfl,fun i c' h=>by simp at h⟩
   |cons _ _=>exact h.elim
  |cons a l ih=>intro l' h;cases l' with
   |nil=>exact h.elim
   |cons b l'=>
    obtain⟨h1,h2⟩:=ih h.2;refine⟨by simp[h1],fun i c' hc=>?_⟩;cases i with
    |zero=>simp at hc;subst hc;exact⟨a,rfl,h.1⟩
    |succ i=>simpa using h2 i c' (Nm hc)
 obtain⟨h1,h2⟩:=key h;cases hr with
 |aS hl hc=>
  refine .aS zE fun i c' v kj hv=>?_;obtain⟨c,g1,g2⟩:=h2 i c' kj;exact g2 _ _ _ (hc i c v g1 hv)
def pl0:Pl:=⟨0,0,0,0,[],0,0,0,0,[],[],[],[]⟩
def pg0:Pg:=⟨pl0,[],[],0,[],0⟩
def RS(p:Pl):Option (List Sp):=if Ea p=false then none else Jz p (Uq p) [] [] 0 (-1)
def zJ(p:Pl):Pg:=match RS p with
 |none=>pg0
 |some l=>⟨p,rA p l 0,[],0,[],0⟩
def DF(p:Pl):Pi:=if Ea p=false then[]else match RS p with
 |none=>nI (IF p) (Uq p)
 |some _=>[]
def zK(p:Pl):Int:=if Ea p=false then 80 else match RS p with
 |none=>90
 |some _=>0
def auq{V X Y:AV}{p:Pl}{ev:List ck}{cu:List Cue}{dr:Pi}{ed ve:Int}(h1:Wk V (.sl .ro (ev.map Qg)))(h2:Wk X (.sl .ro (cu.map Qp)))(h3:Wk Y (.sl .ro (dr.map Qy))):
  Wk (.agg (Qc p++[V,X,I ed,Y,I ve])) (.agg (Qo ⟨p,ev,cu,ed,dr,ve⟩)):=by
 unfold Qo;simp only[Qc,zzaf,zzah];exact Wq ⟨Ps,Ps,Ps,Ps,Ps,Ps,Ps,Ps,Ps,Ps,Ps,Ps,Ps,h1,h2,Ps,h3,Ps,trivial⟩
def ZY:Wk (.agg ZZ) (.agg (Qo pg0)):=by
 unfold ZZ pg0 pl0 Qo;simp only[Qc,zzaf,zzah,zzce];exact Wq ⟨Ps,Ps,Ps,Ps,Wk.sl _ _,Ps,Ps,Ps,Ps,Wk.sl _ _,Wk.sl _ _,Wk.sl _ _,Wk.sl _ _,Wk.sl _ _,Wk.sl _ _,Ps,Wk.sl _ _,Ps,trivial⟩
def LJ(p:Pl)(hp:Ec p)(eO:p.ln<=1000000)(hea:∀e∈p.ens,e.ea<=9223372036854775807)(hl:∀l,RS p=some l->l.length<=1000000/\∀s∈l,-1000000000<=s.2/\s.2<=1000000000):
  Pure Tryz.prog aD 16 [.agg (Qc p)] (.aS [.agg (Qo (zJ p)),.sl .ro ((DF p).map Qy),I (zK p)]):=by
 obtain⟨h1,h2,h3,h4,h5,h6⟩:=hp;have k60:=Rq p ⟨zE,zE,zE,zE,zE,h6⟩ h5 zE zE hea;have k61:=p9 p ⟨h1,h2,h3,h4,h5,h6⟩;by_cases hv:Ea p=false
 ·have hr:Rp p=.aS [.sl .nil [],.sl .nil [],I 80]:=by unfold Rp;rw[if_pos hv]
  have hb:RS p=none:=by unfold RS;rw[if_pos hv]
  have hg:zJ p=pg0:=by unfold zJ;rw[hb]
  have hc:DF p=[]:=by unfold DF;rw[if_pos hv]
  have he:zK p=80:=by unfold zK;rw[if_pos hv]
  rw[hr]at k60;rw[hg,hc,he];simp only[Qc]at k60
  have:Pure Tryz.prog aD 16 [.agg (Qc p)] (.aS [.agg ZZ,.sl .nil [],I 80]):=by
   refine Qm IN (fun _ f _=>if f=49 then .aS [.sl .nil [],.sl .nil [],I 80]else .junk) zd ?_;simp[abA,abB,Qc,ZZ];exact k60
  exact Zc this (DE ⟨ZY,Wk.sl _ _,Ps,trivial⟩)
 cases hx:Jz p (Uq p) [] [] 0 (-1)with
 |none=>
  have hr:Rp p=.aS [.sl .nil [],.sl .ro ((nI (IF p) (Uq p)).map Qy),I 90]:=by unfold Rp;rw[if_neg hv,hx]
  have hb:RS p=none:=by unfold RS;rw[if_neg hv,hx]
  have hg:zJ p=pg0:=by unfold zJ;rw[hb]
  have hc:DF p=nI (IF p) (Uq p):=by unfold DF;rw[if_neg hv,hb]
  have he:zK p=90:=by unfold zK;rw[if_neg hv,hb]
  rw[hr]at k60;rw[hg,hc,he];simp only[Qc]at k60
  have:Pure Tryz.prog aD 16 [.agg (Qc p)] (.aS [.agg ZZ,.sl .ro ((nI (IF p) (Uq p)).map Qy),I 90]):=by
   refine Qm IN (fun _ f _=>if f=49 then .aS [.sl .nil [],.sl .ro ((nI (IF p) (Uq p)).map Qy),I 90]else .junk) zd ?_;simp[abA,abB,Qc,ZZ];exact k60
  exact Zc this (DE ⟨ZY,Ps,Ps,trivial⟩)
 |some l=>
  have hr:Rp p=.aS [Ww l,.sl .nil [],I 0]:=by unfold Rp;rw[if_neg hv,hx]
  have hb:RS p=some l:=by unfold RS;rw[if_neg hv,hx]
  have hg:zJ p=⟨p,rA p l 0,[],0,[],0⟩:=by unfold zJ;rw[hb]
  have hc:DF p=[]:=by unfold DF;rw[if_neg hv,hb]
  have he:zK p=0:=by unfold zK;rw[if_neg hv,hb]
  obtain⟨eR,uq⟩:=hl l hb;rw[hr,Hv]at k60;rw[hg,hc,he];have hcx:=ZQ l;have ay9:=fun m d y=>hcx m d y;have XZ:=Xl (sP p l 0 h5 zE zE zE h6 eO eR uq) (l:=[.agg (Qc p),.sl (Bu l) (l.map Qe),I 0]) ⟨Ps,Wk.sl _ _,Ps,trivial⟩;simp only[Qc]at k60 k61 XZ
  have:Pure Tryz.prog aD 16 [.agg (Qc p)] (.aS [.agg (Qc p++[.sl .ro ((rA p l 0).map Qg),.sl .nil [],I 0,.sl .nil [],I 0]),.sl .nil [],I 0]):=by
   refine Qm IN (fun _ f x=>if f=49 then .aS [.sl (Bu l) (l.map Qe),.sl .nil [],I 0]else if f=50 then x.headD .junk else if f=51 then .sl .ro ((rA p l 0).map Qg)else .junk) zd ?_;simp[abA,abB,Qc,ay9];exact⟨k60,k61,XZ⟩
  exact Zc this (DE ⟨auq (Ps) (Wk.sl _ _) (Wk.sl _ _),Wk.sl _ _,Ps,trivial⟩)
end
