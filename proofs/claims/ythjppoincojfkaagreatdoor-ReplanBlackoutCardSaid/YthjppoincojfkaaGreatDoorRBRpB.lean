import Derived.Test.YthjppoincojfkaaGreatDoorRBSnC
set_option linter.all false
namespace Go.Proofs.YthjppoincojfkaaGreatDoor
open Go Go.Abs
def Hs{p:Pl}:∀{l:List Sp}{a:Int},aan p l a->∀s∈l,∀e,Za s.1 p.ens=some e->Xk p e.it 0 s.2 e.fr=true
 |[],_,_,s,h,_,_=>by cases h
 |y::r,a,h,s,hs,e,he=>by
  obtain⟨x,h1,h2,h3,h4,h5,h6,h7,h8,h9,jy⟩:=h;rcases zzaq.1 hs with rfl|hs
  ·rw[h1]at he;cases he;exact h9
  exact Hs jy s hs e he
def aao(q:Pl)(e:bF):Prop:=∀x,e.st<=x->x<e.st+e.fr->RK q e.it 0 x
def aap{q:Pl}(hv:iG q=true)(a:Int×Int):aao q (Zy q a):=by
 obtain⟨y,hy,hk,_⟩:=(rA hv).fill;exact fun x _ _=>⟨y,hy,.inl hk⟩
def aaq{q:Pl}(hv:iG q=true):∀(l:List Sp)(a:Int),(∀s∈l,∀e,Za s.1 q.ens=some e->Xk q e.it 0 s.2 e.fr=true)->∀e∈Kv q l a,aao q e
 |[],a,_,e,h=>by
  rw[Kv,zzb]at h;obtain⟨y,_,rfl⟩:=h;exact aap hv y
 |s::r,a,hl,e,h=>by
  rw[Kv]at h;have hr:=aaq hv r;cases hs:jJ q s a with
  |none=>rw[hs]at h;exact hr a (fun t ht=>hl t (by simp[ht])) e h
  |some y=>
   rw[hs]at h;simp only[zzbe,zzam,zzb,zzcf]at h;obtain⟨z,_,rfl⟩|rfl|h:=h
   ·exact aap hv z
   ·exact fun x h1 h2=>RK.of (hl s zd y (yD hs).1) h1 h2
   exact hr _ (fun t ht=>hl t (by simp[ht])) e h
def am6{q:Pl}(hv:iG q=true)(l:List Sp)(a:Int)(h:∀s∈l,∀e,Za s.1 q.ens=some e->Xk q e.it 0 s.2 e.fr=true):∀e∈y7 q l a,aao q e:=by
 unfold y7;split
 ·intro e he;cases he
 exact aaq hv l a h
def aar{g:Pg}{f:Int}{b:QR}{o:Od}{q:Pl}{d:Int}:∀s∈Vk g f b o q d,∀e,Za s.1 q.ens=some e->Xk q e.it 0 s.2 e.fr=true:=by
 unfold Vk;cases hs:Yb q (Jk g f b o q d) (mM g f b o q d) (Xe true (Jj g b q.ens) (j4 g f b o q d))with
 |none=>intro s h;cases h
 |some l=>exact Hs (OD hs).2
def atI{g:Pg}{f:Int}{b:QR}{o:Od}{q:Pl}{d:Int}{e:bF}(eM:o.ki=4)(he:Bu g f b o q d=some e):aao q e:=by
 unfold Bu at he;split at he
 ·cases he
 rename_i x hx;split at he
 ·cases he
 rename_i F hF;split at he
 ·cases he
 cases he;intro y h1 h2;unfold DA at hF;rw[if_neg zE,if_neg zE]at hF;split at hF
 ·cases hF
 rename_i hn;cases hF
 have ha:Xk q x.it 0 f (sX f x).fr=true:=by
  cases h:Xk q x.it 0 f (sX f x).fr with
  |true=>rfl
  |false=>exact(hn ⟨eM,h⟩).elim
 exact RK.of ha h1 h2
def Ht{id:Int}(aL:1<=id/\id<=12):Xu (zZ id)=true:=by
 simp[Xu,Oz,Kb,Yv,wi,zZ];exact decide_eq_true (show 1<=(zZ id).it/\(zZ id).it<=4611686018427387903 by simp only[zZ];omega)
def dF(id f:Int):Od:=⟨0,-1,f,4,0,0,Iz,zZ id,Q3⟩
def atJ{id f:Int}(aL:1<=id/\id<=12)(hf:0<=f/\f<=100000000):Vj (dF id f)=true:=by
 unfold Vj;rw[if_neg (by simp[dF]),if_neg (by simp only[dF];omega),if_neg (by simp[dF]),if_neg (by simp[dF])];have h1:okB (dF id f)=true:=by simp only[okB,dF];exact Ht aL
 have h2:Sw (Jb (dF id f))=true:=by simp[Jb,dF,Sw,Iz,Sx,Q3,eB]
 rw[h1,h2];rfl
def Hu:∀a b:List Cl,xD (a++b)=(xD a&&xD b)
 |[],b=>rfl
 |c::r,b=>by rw[zzae,xD,xD,Hu r b,Bool.and_assoc]
def Hv{p:Pl}{X:List Cl}:∀l:List Bk,zS {p with cls:=X} l=zS p l
 |[]=>rfl
 |x::r=>by rw[zS,zS,Hv r];rfl
def aas{p:Pl}{X:List Cl}(seen:Pi)(e:En):ru {p with cls:=X} seen e=ru p seen e:=by
 unfold ru;have h1:QN {p with cls:=X} e=QN p e:=rfl;have h2:gQ {p with cls:=X} e=gQ p e:=rfl;have h3:Gi {p with cls:=X} e=Gi p e:=rfl;rw[h1,h2,h3]
def Hw{p:Pl}{X:List Cl}:∀(l:List En)(seen:Pi),tZ {p with cls:=X} seen l=tZ p seen l
 |[],_=>rfl
 |e::r,seen=>by rw[tZ,tZ,Hw r,aas]
def atK{k:Nat}{g:Pg}{id f:Int}(h:dx k g)(hk:k<=100)(aL:1<=id/\id<=12):iG (Bq g (dF id f))=true:=by
 have hv:=h.v;have hc:=h.cls;unfold iG at hv |-
 simp only[zzac]at hv |-
 obtain⟨v1,v2,v3,v4,v5⟩:=hv;refine⟨v1,v2,?_,?_,?_⟩
 ·have:XZ (Bq g (dF id f))=XZ g.p:=by unfold XZ Bq;rw[Hv]
  rw[this];exact v3
 ·have:mA (Bq g (dF id f))=mA g.p:=by unfold mA Bq;rw[Hw]
  rw[this];exact v4
 unfold Qbs at v5 |-
 rw[zzac,decide_eq_true_eq]at v5 |-
 refine⟨by simp only[Bq,zzak,zzfk];omega,?_⟩
 have:xD (g.p.cls++[zZ id])=true:=by
  rw[Hu,v5.2];simp[xD,Ht aL]
 exact this
def am7{k:Nat}{g:Pg}{id f:Int}(h:dx k g)(hk:k<=100)(aL:1<=id/\id<=12)(hf:0<=f/\f<g.p.ln):j9 g (dF id f)=true:=by
 have dG:=h.ln
 have h1:Us g (dF id f)=true:=by
  unfold Us;rw[atJ aL zE];rfl
 have h2:Uz g f (Xo f g.ev []) (dF id f)=some (Bq g (dF id f),0):=by
  unfold Uz;rw[if_neg zE];have hb:Kh g f (Xo f g.ev []) (dF id f)=some (Bq g (dF id f),0):=rfl;have hm:yy g f (Xo f g.ev []) (dF id f) (Bq g (dF id f)) 0=true:=rfl;rw[hb];simp only;rw[atK h hk aL,hm];rfl
 unfold j9;rw[h1,if_neg (by simp[dF])];show(true&&(Uz g f (Xo f g.ev []) (dF id f)).isSome)=true;rw[h2];rfl
def aat{k:Nat}{g:Pg}{id f:Int}(h:dx k g)(hk:k<=100)(aL:1<=id/\id<=12)(hy:∀y,Xg id g.p.aM=some y->y.ki≠5)(hf:j9 g (dF id f)=true):
  ∀e∈(LU g (dF id f)).ev,e.st+e.fr<=f\/(e.it≠id/\∀a∈e.al,a.2≠id):=by
 unfold j9 at hf;rw[zzac,if_neg (by simp[dF])]at hf;obtain⟨hc,hx⟩:=hf;obtain⟨⟨q,d⟩,SA⟩:=zzcd.1 hx;have SA:Uz g f (Xo f g.ev []) (dF id f)=some (q,d):=SA;obtain⟨c1,c2,c3,c4⟩:=j7 SA
 have hq:q=Bq g (dF id f):=by
  have:Kh g f (Xo f g.ev []) (dF id f)=some (Bq g (dF id f),0):=rfl;rw[this]at c2;cases c2;rfl
 have hv:Vj (dF id f)=true:=by unfold Us at hc;rw[zzac]at hc;exact hc.1
 obtain⟨v1,v2,v3,v4⟩:=p8 hv;have v1:0<=f/\f<=100000000:=v1;obtain⟨n1,n2,n3,n4⟩:=LK h zE v1.1 SA;have ek:=Ow q (Vk g f (Xo f g.ev []) (dF id f) q d) _ zE n2
 have hap:(Zu g (dF id f)).ev=Uq g f (Xo f g.ev []) (dF id f) q d++IB g f (Xo f g.ev []) (dF id f) q d:=by
  unfold Zu;rw[if_neg (by rw[hc];decide),if_neg (by simp[dF])]
  show(match Uz g f (Xo f g.ev []) (dF id f)with
   |none=>({g with ve:=g.ve+1}:Pg)
   |some (q,d)=>j5 g (dF id f) (Xo f g.ev []) q d).ev=_
  rw[SA];rfl
 have ax3:q.cls=g.p.cls++[zZ id]:=by rw[hq];rfl
 have KR:q.aM=g.p.aM:=by rw[hq];rfl
 have gi:∀r x,¬RK q id r x:=fun r x=>amO ax3 aL (by rw[KR];exact hy)
 have key:∀e:bF,1<=e.fr->aao q e->(∀x,e.st<=x->x<e.st+e.fr->EvG q e x)->e.it≠id/\∀a∈e.al,a.2≠id:=by
  intro e wC hn hg;refine⟨fun h=>?_,fun a ha h=>?_⟩
  ·have:=hn e.st zE zE;rw[h]at this;exact gi _ _ this
  have:=(hg e.st zE zE).2 a ha;rw[h]at this;exact gi _ _ this
 intro e he;obtain⟨y,hy2,rfl⟩:=zzb.1 (show e∈(Zu g (dF id f)).ev.map Z5 from he);rw[hap]at hy2;show y.st+y.fr<=f\/(y.it≠id/\∀a∈y.al,a.2≠id);rcases zzam.1 hy2 with h2|h2
 ·unfold Uq at h2;rcases zzam.1 h2 with h3|h3
  ·obtain⟨z,hz,rfl⟩:=zzb.1 h3;exact .inl (yH f g.ev z hz)
  have cB:Bu g f (Xo f g.ev []) (dF id f) q d=some y:=by simpa using h3
  obtain⟨e1,e2,e3,e4⟩:=LJ h zE v1.1 SA cB;exact .inr (key y e2 (atI rfl cB) (aty c3 cB))
 obtain⟨m1,m2,m3⟩:=ek.mem y h2;exact .inr (key y m2 (am6 c3 _ _ aar y h2) (amL c3 _ _ y h2))
