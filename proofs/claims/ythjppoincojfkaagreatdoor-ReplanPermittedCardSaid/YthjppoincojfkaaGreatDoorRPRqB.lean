import Derived.Test.YthjppoincojfkaaGreatDoorRPMfR
set_option linter.all false
set_option maxRecDepth 100000
set_option maxHeartbeats 64000000
namespace Go.Proofs.YthjppoincojfkaaGreatDoor
open Go Go.Abs
def HF(b:Nat->Bool)(n:Nat)(hn:n<=8)(r:Int):RN (Ul b n) r=(decide (r.toNat<n)&&b r.toNat):=by
 have ai:=uN b n;have hp:(2:Nat) ^ n<=2 ^ 8:=zzez zE hn
 have key:∀k:Nat,((nR b n:Nat):Int).fdiv (2 ^ k)%2=((nR b n/2 ^ k%2:Nat):Int):=fun k=>by
  rw[zzgf _ (by have:=Int.pow_pos (n:=(2:Int)) (m:=k) zE;omega)]
  push_cast
  rfl
 unfold RN;rw[Dq,key,<- xX b r.toNat n,zzdm];by_cases h:r.toNat<=64
 ·rw[zzfl h];refine decide_eq_decide.2 ?_;omega
 rw[zzgq zE];have z1:nR b n/2 ^ 64=0:=zzew zE
 have z2:nR b n/2 ^ r.toNat=0:=zzew (by
  have:(2:Nat) ^ 8<=2 ^ r.toNat:=zzez zE zE;omega)
 rw[z1,z2];rfl
def RR{q:Pl}{id r f n:Int}(h:Xd q id r f n=true):∃y,Xj id q.aM=some y:=by
 obtain⟨⟨h1,_⟩,h2⟩:=(Jt q id r f n).1 h;obtain⟨y,hy,_⟩:=h2 f (zzbt _) zE;exact⟨y,hy⟩
def HD(q:Pl)(id r x:Int):Prop:=∃y,Xj id q.aM=some y/\(y.ki=5\/Xd q id r x 1=true)
def HD.of{q:Pl}{id r f n x:Int}(h:Xd q id r f n=true)(h1:f<=x)(h2:x<f+n):HD q id r x:=by
 obtain⟨y,hy⟩:=RR h;exact⟨y,hy,.inr (LY h h1 zE zE)⟩
def EvG(q:Pl)(e:bC)(x:Int):Prop:=(∀r,0<=r->RN e.re r=true->HD q e.it r x)/\∀a∈e.al,HD q a.2 a.1 x
def BB(g:Pg)(F:Int):Prop:=∀e∈g.ev,∀x,F<=x->e.st<=x->x<e.st+e.fr->EvG g.p e x
def j5(f:Int):∀(L:List bC),∀e∈Vz f L,e.st+e.fr<=f
 |[],e,he=>by cases he
 |a::r,e,he=>by
  rw[Vz]at he;split at he
  ·exact j5 f r e he
  rcases zzap.1 he with rfl|he
  ·simp only[G7];split<;>omega
  exact j5 f r e he
def aaC{q:Pl}(hv:jJ q=true)(a:Int×Int)(x:Int):EvG q (Zy q a) x:=by
 obtain⟨y,hy,hk,_⟩:=(nS hv).fill;exact⟨fun r _ _=>⟨y,hy,.inl hk⟩,fun a ha=>by cases ha⟩
def at1{q:Pl}(e:En)(fr x:Int)(h1:fr<=x)(h2:x<fr+e.fr):EvG q (zM q e fr) x:=by
 refine⟨fun r hr hb=>?_,fun a ha=>?_⟩
 ·simp only[zM,evM]at hb;rw[HF _ _ zE]at hb;simp only[zzac]at hb;have hb:=hb.2;rw[zzfz hr]at hb;exact HD.of hb h1 h2
 have:=(zzbw.1 ha).2;simp only[lQ,zzac]at this;exact HD.of this.2 h1 h2
def LZ{q:Pl}(hv:jJ q=true):∀(l:List Sp)(a:Int),∀e∈Jd q l a,∀x,e.st<=x->x<e.st+e.fr->EvG q e x
 |[],a,e,h,x,h1,h2=>by
  rw[Jd,zzar]at h;obtain⟨y,_,rfl⟩:=h;exact aaC hv y x
 |s::r,a,e,h,x,h1,h2=>by
  rw[Jd]at h;cases hs:QE q s a with
  |none=>rw[hs]at h;exact LZ hv r a e h x h1 h2
  |some y=>
   rw[hs]at h;simp only[zzav,zzam,zzar,zzca]at h;obtain⟨z,_,rfl⟩|rfl|h:=h
   ·exact aaC hv z x
   ·exact at1 y s.2 x h1 h2
   exact LZ hv r _ e h x h1 h2
def aaD{q:Pl}(hv:jJ q=true)(l:List Sp)(a:Int):∀e∈Kw q l a,∀x,e.st<=x->x<e.st+e.fr->EvG q e x:=by
 unfold Kw;split
 ·intro e he;cases he
 exact LZ hv l a
def at2{g:Pg}{f:Int}{b:QR}{o:Od}{q:Pl}{d:Int}{e:bC}(hv:jJ q=true)(he:uV g f b o q d=some e)(x:Int)(h1:e.st<=x)(h2:x<e.st+e.fr):EvG q e x:=by
 unfold uV at he;split at he
 ·cases he
 split at he
 ·cases he
 split at he
 ·cases he
 cases he;refine⟨fun r hr hb=>?_,fun a ha=>?_⟩
 ·have IJ:=(nS hv).rg;simp only[p7]at hb;rw[HF _ _ zE]at hb;simp only[zzac]at hb;have hb:=hb.2;rw[zzfz hr]at hb;exact HD.of hb h1 h2
 have:=(zzbw.1 ha).2;exact HD.of this h1 h2
def atX{p:Pl}(h:zV p=0)(F:Int):BB (Yv p) F/\(Yv p).p=p:=by
 obtain⟨hv,l,hl⟩:=qf h;have hg:Yv p=⟨p,Kw p l 0,[],0,[],0⟩:=by unfold Yv;rw[hl]
 rw[hg];exact⟨fun e he x _ h1 h2=>aaD hv l 0 e he x h1 h2,rfl⟩
def BB.dZ{g:Pg}{F:Int}(h:BB g F):BB (dZ g) F:=by
 intro e he x h0 h1 h2;obtain⟨y,hy,rfl⟩:=zzar.1 he;exact h y hy x h0 h1 h2
def af0{g:Pg}{o:Od}{b:QR}{q:Pl}{d F:Int}(hv:jJ q=true)(hF:o.fr<=F):BB (Kn g o b q d) F:=by
 intro e he x h0 h1 h2;simp only[Kn,Ui,zzav,zzam,zzar]at he;obtain⟨y,hy,rfl⟩|he|he:=he
 ·have h1:y.st<=x:=h1;have h2:x<y.st+y.fr:=h2;have:=j5 _ _ y hy;omega
 ·exact at2 hv (Nm he) x h1 h2
 exact aaD hv _ _ e he x h1 h2
open Go Go.Abs
open Go Go.Abs
def zZ(o:Od):Od:={o with nw:={o.nw with al:=o.nw.al.take 9},cu:={o.cu with tx:=o.cu.tx.extract 0 (if 300<o.cu.tx.size then 300 else o.cu.tx.size)}}
def SJ(a b:Int):Int:=if a<b then b else a
def af2(o:Od)(last:Int):Od:={zZ o with fr:=SJ o.fr last}
def L3(o:Od)(last:Int):Int:=if SJ o.fr last<=100000000 then SJ o.fr last else last
def DT:Nat->List Od->Int->List Od
 |0,_,_=>[]
 |_+1,[],_=>[]
 |n+1,o::r,last=>af2 o last::DT n r (L3 o last)
def DU(l:List Od):List Od:=DT 8 l 0
def af3(o:Od)(last:Int):last<=L3 o last:=by unfold L3 SJ;split<;>split<;>omega
def HG:∀(n:Nat)(l:List Od)(last:Int),(DT n l last).length<=n
 |0,_,_=>by simp[DT]
 |n+1,[],_=>by simp[DT]
 |n+1,o::r,last=>by have:=HG n r (L3 o last);simp[DT];omega
def DV:∀(n:Nat)(l:List Od)(last:Int),∀o∈DT n l last,zW o/\last<=o.fr
 |0,_,_,_,h=>by simp[DT]at h
 |n+1,[],_,_,h=>by simp[DT]at h
 |n+1,a::r,last,o,h=>by
  rw[DT]at h;rcases zzap.1 h with rfl|h
  ·refine⟨by simp[zW,af2,zZ];omega,?_⟩;show last<=SJ a.fr last;unfold SJ;split<;>omega
  have h1:=DV n r _ o h;have h2:=af3 a last;exact⟨h1.1,zE⟩
def HH:∀(n:Nat)(l:List Od)(last:Int),(DT n l last).Pairwise fun a b=>a.fr<=100000000->a.fr<=b.fr
 |0,_,_=>by simp[DT]
 |n+1,[],_=>by simp[DT]
 |n+1,a::r,last=>by
  rw[DT];refine zzby.2 ⟨fun b hb h=>?_,HH n r _⟩;have h1:=(DV n r _ b hb).2;have h2:SJ a.fr last<=100000000:=h;show SJ a.fr last<=b.fr;unfold L3 at h1;rw[if_pos h2]at h1;exact h1
def aaE(l:List Od):(DU l).length<=8:=HG 8 l 0
def af4(l:List Od):∀o∈DU l,zW o/\0<=o.fr:=DV 8 l 0
def Jw(g:Pg)(o:Od):Pg:=dZ (Zg g o)
def Ka:Pg->List Od->List Pg
 |_,[]=>[]
 |g,o::r=>Jw g o::Ka (Jw g o) r
def DW(p:Pl)(l:List Od):List Pg:=if zV p=0 then dZ (Yv p)::Ka (dZ (Yv p)) l else[]
def lz:∀(g:Pg)(l:List Od),(Ka g l).length=l.length
 |_,[]=>rfl
 |g,o::r=>by rw[Ka,zzaz,zzaz,lz]
def uW(g:Pg):dZ (dZ g)=dZ g:=by
 unfold dZ;simp only[zzcu];congr 1
def oh(g:Pg)(o:Od):Qm (Jw g o)=Qm (Zg g o):=lu _
structure ChP (k:Nat) (g:Pg):Prop where
 ok:dQ k g
 nn:dZ g=g
def ChP.step{k:Nat}{g:Pg}{o:Od}(h:ChP k g)(hk:k<=900):ChP (k+1) (Jw g o):=⟨(rM h.ok hk).dZ,uW _⟩
def OM:∀{l:List Od}{g:Pg}{k:Nat},ChP k g->k+l.length<=900->∀(i:Nat)(h:Pg),(g::Ka g l)[i]?=some h->ChP (k+i) h
 |[],g,k,hg,hk,0,h,e=>by simp at e;subst e;exact hg
 |[],g,k,hg,hk,i+1,h,e=>by simp[Ka]at e
 |o::r,g,k,hg,hk,0,h,e=>by simp at e;subst e;exact hg
 |o::r,g,k,hg,hk,i+1,h,e=>by
  rw[Ka,zzcc]at e;simp only[zzaz]at hk;have:=OM (hg.step (o:=o) zE) zE i h e;rw[show k+(i+1)=k+1+i by omega];exact this
def BC:∀{l:List Od}{g:Pg}(i:Nat)(h:Pg)(o:Od),l[i]?=some o->(g::Ka g l)[i]?=some h->(g::Ka g l)[i+1]?=some (Jw h o)
 |[],g,i,h,o,hl,e=>by simp at hl
 |a::r,g,0,h,o,hl,e=>by simp at hl e;subst hl;subst e;simp[Ka]
 |a::r,g,i+1,h,o,hl,e=>by
  rw[Ka,zzcc]at e |-
  exact BC i h o (Nm hl) e
def aaF{p:Pl}(hp:RH p){l:List Od}(hl:l.length<=8)(i:Nat)(g:Pg)(h:(DW p l)[i]?=some g):ChP i g:=by
 unfold DW at h;split at h
 ·rename_i hb;have:=OM (l:=l) (g:=dZ (Yv p)) (k:=0) ⟨(uU hp hb).dZ,uW _⟩ zE i g h;rw[zzbs]at this;exact this
 simp at h
def RS{g:Pg}{o:Od}(h:iu g o=true):Vp o=true/\(o.ch= -1\/o.ch=g.p.ch):=by
 unfold iu at h;rw[zzac]at h;have h1:=h.1;unfold Uj at h1;rw[zzac,zzfn,decide_eq_true_eq,decide_eq_true_eq]at h1;exact h1
def atW{g:Pg}{o:Od}(h:iu g o=false):Zg g o={g with ve:=g.ve+1}:=by
 unfold iu at h;unfold Zg;cases hc:Uj g o with
 |false=>simp
 |true=>
  rw[hc,zzdk]at h;rw[if_neg (by decide)];by_cases hk:o.ki=5
  ·rw[if_pos hk]at h |-
   cases he:yB o.cu g.cu with
   |none=>rfl
   |some x=>rw[he]at h;cases h
  rw[if_neg hk]at h |-
  cases he:Jc g o.fr (Xp o.fr g.ev []) o with
  |none=>rfl
  |some x=>rw[he]at h;cases h
def EvT(lo up:Int):List bC->Prop
 |[]=>lo=up
 |e::r=>e.st=lo/\1<=e.fr/\0<=e.i/\EvT (e.st+e.fr) up r
def azq(g:Pg):Prop:=EvT 0 g.p.ln g.ev
structure PlL (p:Pl):Prop where
 sh:RH p
 al:∀e∈p.ens,e.al.length<=8796093022208
 ea:∀e∈p.ens,e.ea<=9223372036854775807
open Go Go.Abs
def DX{p:Pl}{e:En}{from_ s:Int}(h:Vq p e from_=some s):Xd p e.it 0 s e.fr=true:=by
 obtain⟨h1,h2,h3,h4,h5,h6,h7⟩:=Jz h;have hl:=(h7 (s+e.fr-1) zE zE);obtain⟨_,_,_,hx,_⟩:=hl;exact(Jt _ _ _ _ _).2 ⟨⟨h1.1,h1.2,h3,zE⟩,h7⟩
def OL(p:Pl):List Sp->Int->Prop
 |[],_=>True
 |s::r,free=>(∃e,Xb s.1 p.ens=some e/\(1<=e.fr/\e.fr<=1000000)/\free<=s.2/\0<=s.2/\s.2<=100000000/\e.ea<=s.2/\s.2<=e.la/\s.2+e.fr<=p.ln/\Xd p e.it 0 s.2 e.fr=true/\OL p r (s.2+e.fr))
def DS{p:Pl}:∀{ids:Pi}{us en:List (Int×Int)}{free last:Int}{l:List Sp},Uu p ids us en free last=some l->l.map (·.1)=ids/\OL p l free
 |[],_,_,_,_,l,h=>by cases h;exact⟨rfl,trivial⟩
 |id::r,us,en,free,last,l,h=>by
  rw[Uu]at h;cases hf:za id p.ens 0 with
  |none=>rw[hf]at h;cases h
  |some k=>
   rw[hf]at h;simp only at h;split at h
   ·cases h
   obtain⟨_,e,h2,h3,h4⟩:=kT hf;rw[zzer]at h2;rw[h2]at h;simp only at h;split at h
   ·cases h
   cases hs:Vq p e (Ub en (Km p e.it) (max e.ea free))with
   |none=>rw[hs]at h;cases h
   |some s=>
    rw[hs]at h;simp only at h;cases hg:Uu p r (Vv us e.it) (Zn p en e.it (s+e.fr)) (s+e.fr) k with
    |none=>rw[hg]at h;cases h
    |some l'=>
     rw[hg]at h;cases h;obtain⟨g1,g2⟩:=DS hg;obtain⟨a1,a2,a3,a4,a5,a6,a7⟩:=Jz hs;have fh:=xH en (Km p e.it) (max e.ea free);exact⟨by simp[g1],e,h4,a1,zE,a3,a6,zE,a4,a5,DX hs,g2⟩
open Go Go.Abs
def yK{p:Pl}:∀{l:List Sp}{a:Int},OL p l a->∀s∈l,∀e,Xb s.1 p.ens=some e->Xd p e.it 0 s.2 e.fr=true
 |[],_,_,s,h,_,_=>by cases h
 |y::r,a,h,s,hs,e,he=>by
  obtain⟨x,h1,h2,h3,h4,h5,h6,h7,h8,h9,jq⟩:=h;rcases zzap.1 hs with rfl|hs
  ·rw[h1]at he;cases he;exact h9
  exact yK jq s hs e he
def afZ(q:Pl)(e:bC):Prop:=∀x,e.st<=x->x<e.st+e.fr->HD q e.it 0 x
def aaG{q:Pl}(hv:jJ q=true)(a:Int×Int):afZ q (Zy q a):=by
 obtain⟨y,hy,hk,_⟩:=(nS hv).fill;exact fun x _ _=>⟨y,hy,.inl hk⟩
def aaH{q:Pl}(hv:jJ q=true):∀(l:List Sp)(a:Int),(∀s∈l,∀e,Xb s.1 q.ens=some e->Xd q e.it 0 s.2 e.fr=true)->∀e∈Jd q l a,afZ q e
 |[],a,_,e,h=>by
  rw[Jd,zzar]at h;obtain⟨y,_,rfl⟩:=h;exact aaG hv y
 |s::r,a,hl,e,h=>by
  rw[Jd]at h;have hr:=aaH hv r;cases hs:QE q s a with
  |none=>rw[hs]at h;exact hr a (fun t ht=>hl t (by simp[ht])) e h
  |some y=>
   rw[hs]at h;simp only[zzav,zzam,zzar,zzca]at h;obtain⟨z,_,rfl⟩|rfl|h:=h
   ·exact aaG hv z
   ·exact fun x h1 h2=>HD.of (hl s zd y (qd hs).1) h1 h2
   exact hr _ (fun t ht=>hl t (by simp[ht])) e h
def aay{q:Pl}(hv:jJ q=true)(l:List Sp)(a:Int)(h:∀s∈l,∀e,Xb s.1 q.ens=some e->Xd q e.it 0 s.2 e.fr=true):∀e∈Kw q l a,afZ q e:=by
 unfold Kw;split
 ·intro e he;cases he
 exact aaH hv l a h
def aaz{g:Pg}{f:Int}{b:QR}{o:Od}{q:Pl}{d:Int}:∀s∈Vr g f b o q d,∀e,Xb s.1 q.ens=some e->Xd q e.it 0 s.2 e.fr=true:=by
 unfold Vr;cases hs:Yc q (Jl g f b o q d) (mN g f b o q d) (Xg true (Jk g b q.ens) (j4 g f b o q d))with
 |none=>intro s h;cases h
 |some l=>exact yK (DS hs).2
open Go Go.Abs
theorem L5(o:Od)(last:Int):Qq (af2 o last)=[I o.sq,I o.ch,I (SJ o.fr last),I o.ki,I o.en,I o.n,I o.nw.id,I o.nw.it,I o.nw.fr,I o.nw.ea,I o.nw.la,I o.nw.bo,.sl .ro (List.map Qf (List.take 9 o.nw.al)),
  I o.cl.ki,I o.cl.it,I o.cl.fr,I o.cl.to,I o.cl.re,I o.cl.n,I o.cl.a,I o.cl.b,I o.cu.id,I o.cu.fr,I o.cu.to,I o.cu.pr,.str (o.cu.tx.extract 0 (if 300<o.cu.tx.size then 300 else o.cu.tx.size))]:=rfl
def at3(o:Od):Pure Tryz.prog aD 24 [.agg (Qq o)] (.agg (Qq (zZ o))):=by
 have t1:List.take (if(9:Int)<(o.nw.al.length:Int)then(9:Int)else(o.nw.al.length:Int)).toNat (o.nw.al.map Qf)=List.take 9 (o.nw.al.map Qf):=by
  have:=kY (o.nw.al.map Qf) 9;rw[zzbv]at this;exact this
 have a1:=yg (a:=o.nw.al.length) 9;have b1:=yh (a:=o.nw.al.length) 9;have a2:=yg (a:=o.cu.tx.size) 300;have b2:=yh (a:=o.cu.tx.size) 300
 have e2:(if(300:Int)<(o.cu.tx.size:Int)then(300:Int)else(o.cu.tx.size:Int)).toNat=if 300<o.cu.tx.size then 300 else o.cu.tx.size:=by
  by_cases h:300<o.cu.tx.size
  ·rw[if_pos h,if_pos zE];rfl
  rw[if_neg h,if_neg zE];omega
 simp at a1 b1 a2 b2;refine Qp ajP (fun _ _ _=>.junk) zd ?_;simp[aoL,aoM,Qq,Qd,Qg,Qk,zZ,t1,a1,b1,a2,b2,e2];rintro row a b _ rfl;rfl
def ayt(o:List Od)(rt:Rt)(ls:Pa):Prop:=(o=[]/\rt=.nil/\ls=[])\/(o≠[]/\rt=.own 0 26/\ls=[o.length])
def at4(l:List Od)(f:Nat->AV)(m:AM):Prop:=
 ∃(i:Nat)(out:List Od)(last:Int)(rt:Rt)(ls:Pa)(bx:T5),f 5=I i/\i<=l.length/\i<=8/\f 3=.sl rt (out.map Qq)/\f 4=I last/\ayt out rt ls/\out.length=i/\out++DT (8-i) (l.drop i) last=DU l/\m=⟨bx,ls,fun _=>.gone,0⟩
def qh:UV:=fun _ f l=>if f=24 then(match l with
 |[.agg cs]=>.agg (Qq (zZ (dOd cs)))
 |_=>.junk)else .junk
def RT(l:List Od)(hl:l.length<=1000000000000):∃rt,Pure Tryz.prog aD 12 [.sl .ro (l.map Qq)] (.sl rt ((DU l).map Qq)):=by
 refine⟨if DU l=[]then .nil else .ro,Qp ajI qh zd ?_⟩;simp[ajH];refine Qi rU (at4 l) (fun f _=>l.length-(numOf (f 5)).toNat) ?_ ?_
 ·exact⟨0,[],0,.nil,[],[],zd,zE,zE,zd,zd,.inl ⟨rfl,rfl,rfl⟩,rfl,rfl,rfl⟩
 rintro f m ⟨i,out,last,rt,ls,bx,f5,hi,h8,f3,f4,hO,zF,hr,rfl⟩;rcases zzaa i l.length with ai|bq
 ·have aa:(i:Int)<(l.length:Int):=zE
  rcases zzaa i 8 with hl8|hg8
  ·have hi8:(i:Int)<8:=zE
   obtain⟨o,ho⟩:=aV ai;have ah:Qh (l.map Qq) i=Qq o:=Qu (by simp[ho]);have hw:=bP i zE;have hd:l.drop i=o::l.drop (i+1):=by rw[zzag ai,(zza.1 ho).2]
   rw[hd,show 8-i=(8-(i+1))+1 by omega,DT]at hr;have k24:=at3 o;have AP:=DQ o;have Gd:=L5 o last;have hx:SJ o.fr last=if o.fr<last then last else o.fr:=rfl;have hN:L3 o last=if SJ o.fr last<=100000000 then SJ o.fr last else last:=rfl;rw[hx]at Gd hN;generalize hM:(if o.fr<last then last else o.fr)=M at*
   generalize hC:af2 o last=C at*
   simp only[Qq,Qd,Qg,Qk,zZ,zzae,zzai,List.map_take]at ah k24 AP;simp only[List.map_take]at Gd;have mY:(out++[C])++DT (8-(i+1)) (l.drop (i+1)) (L3 o last)=DU l:=by rw[<- hr];simp
   by_cases hm:M<=100000000
   ·rw[if_pos hm]at hN;rw[hN]at mY;obtain⟨rfl,rfl,rfl⟩|⟨h0,rfl,rfl⟩:=hO
    ·simp[f5,f3,f4,rU,aa,hi8,hw,ah,qh,AP,hM,hm,zZ,Qq,Qd,Qg,Qk];refine⟨k24,ag ?_,⟨i+1,[]++[C],M,.own 0 26,[1],_,zd,zE,zE,by simp[Gd],zd,.inr ⟨zd,rfl,zd⟩,by simp at zF |-;omega,mY,rfl⟩,zE⟩;repeat(first|exact Qb _ _|refine Qc _ rfl ?_)
    simp[f5,f3,f4,rU,aa,hi8,hw,ah,qh,AP,hM,hm,zZ,Qq,Qd,Qg,Qk];refine⟨k24,⟨?_,zE⟩,aQ,⟨i+1,out++[C],M,.own 0 26,[out.length+1],_,zd,zE,zE,by simp[Gd],zd,.inr ⟨zd,rfl,zd⟩,by simp;omega,mY,rfl⟩,zE⟩
    ·rintro row (⟨a,_,rfl⟩|rfl)<;>rfl
   rw[if_neg hm]at hN;rw[hN]at mY;obtain⟨rfl,rfl,rfl⟩|⟨h0,rfl,rfl⟩:=hO
   ·simp[f5,f3,f4,rU,aa,hi8,hw,ah,qh,AP,hM,hm,zZ,Qq,Qd,Qg,Qk];refine⟨k24,ag ?_,⟨i+1,[]++[C],last,.own 0 26,[1],_,zd,zE,zE,by simp[Gd],by simp[f4],.inr ⟨zd,rfl,zd⟩,by simp at zF |-;omega,mY,rfl⟩,zE⟩;repeat(first|exact Qb _ _|refine Qc _ rfl ?_)
   simp[f5,f3,f4,rU,aa,hi8,hw,ah,qh,AP,hM,hm,zZ,Qq,Qd,Qg,Qk];refine⟨k24,⟨?_,zE⟩,aQ,⟨i+1,out++[C],last,.own 0 26,[out.length+1],_,zd,zE,zE,by simp[Gd],by simp[f4],.inr ⟨zd,rfl,zd⟩,by simp;omega,mY,rfl⟩,zE⟩
   ·rintro row (⟨a,_,rfl⟩|rfl)<;>rfl
  obtain rfl:i=8:=zE
  rw[zzfp,DT,zzau]at hr;rw[<- hr];obtain⟨rfl,rfl,rfl⟩|⟨h0,rfl,rfl⟩:=hO
  ·simp at zF
  simp[f5,f3,rU,aa,abo,h0]
 obtain rfl:i=l.length:=zE
 have e0:DT (8-l.length) (l.drop l.length) last=[]:=by rw[zzbu];cases 8-l.length<;>rfl
 rw[e0,zzau]at hr;rw[<- hr];obtain⟨rfl,rfl,rfl⟩|⟨h0,rfl,rfl⟩:=hO
 ·simp[f5,f3,rU,abo]
 simp[f5,f3,rU,abo,h0]
def L6(l:List Od)(hl:l.length<=1000000000000):Pure Tryz.prog aD 12 [.sl .ro (l.map Qq)] (.sl .ro ((DU l).map Qq)):=by
 obtain⟨rt,h⟩:=RT l hl;exact Zh h (Wk.sl _ _)
open Go Go.Abs
def at5(o:List Pg)(rt:Rt)(ls:Pa):Prop:=(rt=.full/\ls=[]/\o.length=1)\/(rt=.own 0 18/\ls=[o.length]/\2<=o.length)
def at6(p:Pl)(l:List Od)(f:Nat->AV)(m:AM):Prop:=
 ∃(i:Nat)(g:Pg)(out:List Pg)(rt:Rt)(ls:Pa),f 9=I i/\i<=l.length/\f 8=.sl rt (out.map Qm)/\at5 out rt ls/\out.length=i+1/\out++Ka g (l.drop i)=DW p l/\ChP i g/\m=⟨[Qa p,Qm g],ls,fun _=>.gone,0⟩
def HI:UV:=fun _ f l=>if f=30 then(match l with
 |[.agg cs]=>Hv (dPl cs)
 |_=>.junk)else if f=25 then(match l with
 |[.agg cs,.agg ds]=>.agg (Qm (Jw (dPg cs) (dOd ds)))
 |_=>.junk)else .junk
def af5(p:Pl)(l:List Od)(hp:PlL p)(hl:l.length<=8)(ho:∀o∈l,zW o):∃rt,Pure Tryz.prog aD 13 [.agg (Qa p),.sl .ro (l.map Qq)] (.sl rt ((DW p l).map Qm)):=by
 refine⟨if zV p=0 then(if l=[]then .full else .ro)else .nil,Qp ajJ HI zd ?_⟩;have y9:=Bz p (ajm hp.sh hp.al hp.ea);have P5:=DP p;unfold Hv at y9;by_cases hb:zV p=0
 ·have WW:ChP 0 (dZ (Yv p)):=⟨(uU hp.sh hb).dZ,uW _⟩;have gX:DW p l=dZ (Yv p)::Ka (dZ (Yv p)) l:=by unfold DW;rw[if_pos hb]
  rw[<- lu,hb]at y9;rw[if_pos hb];have hR:Hv p=.aS [.agg (Qm (dZ (Yv p))),.sl .ro ((yG p).map Qy),I 0]:=by unfold Hv;rw[lu,hb]
  have hc:=(aaF (l:=l) hp.sh hl 0 (dZ (Yv p)) (by rw[gX];rfl));generalize dZ (Yv p)=g0 at*
  simp only[Qa,Qm,zzae,zzai]at y9 P5 hR;simp[abp,Qa,Qm,HI,P5,hR];refine⟨y9,?_⟩;refine Qi Ei (at6 p l) (fun f _=>l.length-(numOf (f 9)).toNat) ?_ ?_
  ·exact⟨0,g0,[g0],.full,[],zd,zE,by simp[Qm,Qa],.inl ⟨rfl,rfl,rfl⟩,rfl,by rw[gX];simp,hc,by simp[Qm,Qa]⟩
  rintro f m ⟨i,g,out,rt,ls,f9,hi,f8,hO,zF,hr,hg,rfl⟩;rcases zzaa i l.length with ai|bq
  ·obtain⟨o,cO⟩:∃o,l[i]?=some o:=⟨_,zzaf ai⟩;have aa:(i:Int)<(l.length:Int):=zE
   have ah:Qh (l.map Qq) i=Qq o:=Qu (by simp[cO]);have hw:=bP i zE;have hd:l.drop i=o::l.drop (i+1):=by rw[zzag ai,(zza.1 cO).2]
   rw[hd,Ka]at hr;have k25:=og g o (Bv hg.ok zE (ho o (zzad cO)));rw[<- oh]at k25;have hg':=hg.step (o:=o) zE;have hdg:dPg (Qm g)=g:=by rw[OJ,hg.nn]
   have AP:=DQ o;generalize hG:Jw g o=h at*
   simp only[Qa,Qm,Qq,Qd,Qg,Qk,zzae,zzai]at k25 hdg AP ah;obtain⟨rfl,rfl,h1⟩|⟨rfl,rfl,h1⟩:=hO
   ·simp[f9,f8,Ei,aa,hw,ah,HI,hdg,AP,hG,Qa,Qm];refine⟨k25,⟨?_,zE⟩,aQ,⟨i+1,h,out++[h],.own 0 18,[out.length+1],zd,zE,by simp[Qm,Qa],.inr ⟨rfl,zd,by simp;omega⟩,by simp;omega,by rw[<- hr];simp,hg',by simp[Qm,Qa]⟩,zE⟩
    ·rintro row (⟨a,_,rfl⟩|rfl)<;>rfl
   simp[f9,f8,Ei,aa,hw,ah,HI,hdg,AP,hG,Qa,Qm];refine⟨k25,⟨?_,zE⟩,aQ,⟨i+1,h,out++[h],.own 0 18,[out.length+1],zd,zE,by simp[Qm,Qa],.inr ⟨rfl,zd,by simp;omega⟩,by simp;omega,by rw[<- hr];simp,hg',by simp[Qm,Qa]⟩,zE⟩
   ·rintro row (⟨a,_,rfl⟩|rfl)<;>rfl
  obtain rfl:i=l.length:=zE
  rw[zzbu,Ka,zzau]at hr;rw[<- hr];obtain⟨rfl,rfl,h1⟩|⟨rfl,rfl,h1⟩:=hO
  ·have h0:l=[]:=zzc.1 zE;simp[f9,f8,Ei,abq,h0]
  have h0:l≠[]:=fun h=>by rw[h]at zF;simp at zF;omega
  simp[f9,f8,Ei,abq,h0]
 have gX:DW p l=[]:=by unfold DW;rw[if_neg hb]
 rw[if_neg hb,gX];have hR:Hv p=.aS [.agg (Qm (Yv p)),.sl .ro ((yG p).map Qy),I (zV p)]:=rfl;generalize Yv p=g0 at*
 simp only[Qa,Qm,zzae,zzai]at y9 P5 hR;simp[abp,abq,Qa,Qm,HI,P5,hR,hb];exact y9
def aaI(p:Pl)(l:List Od)(hp:PlL p)(hl:l.length<=8)(ho:∀o∈l,zW o):Pure Tryz.prog aD 13 [.agg (Qa p),.sl .ro (l.map Qq)] (.sl .ro ((DW p l).map Qm)):=by
 obtain⟨rt,h⟩:=af5 p l hp hl ho;exact Zh h (Wk.sl _ _)
open Go Go.Abs
def ua:Pl:=⟨0,25,1,0,[],0,1,200,1,[⟨1,5,50,0,0⟩,⟨2,2,20,0,0⟩,⟨3,4,100,0,0⟩],[⟨1,2,20,0,0,0,[]⟩,⟨2,3,40,20,50,0,[]⟩],[],[⟨1,2,0,1000,255,0,0,0⟩,⟨1,3,0,1000,255,0,0,0⟩]⟩
def zf:Pl:={ua with ens:=[⟨1,2,20,0,0,0,[]⟩,⟨2,3,50,20,50,0,[]⟩]}
def zg:Pl:={ua with ens:=[⟨1,2,20,0,0,0,[]⟩]}
def fiE(a n:Int):bC:=⟨0,1,a,n,0,1,[],false⟩
def bI:Pg:=⟨ua,[⟨1,2,0,20,0,1,[],false⟩,⟨2,3,20,40,0,1,[],false⟩,fiE 60 50,fiE 110 50,fiE 160 40],[],0,[],0⟩
def SK:Pg:=⟨zf,[⟨1,2,0,20,0,1,[],false⟩,⟨2,3,20,10,0,1,[],false⟩,⟨2,3,30,40,10,1,[],false⟩,fiE 70 50,fiE 120 50,fiE 170 30],[],0,[],1⟩
def exK:Pg:=⟨zg,[⟨1,2,0,20,0,1,[],false⟩,fiE 20 50,fiE 70 50,fiE 120 50,fiE 170 30],[],0,[],1⟩
def oL:Od:=⟨1,-1,30,1,2,10,SG,ZB,ZC⟩
def oD:Od:=⟨1,0,20,2,2,0,SG,ZB,ZC⟩
def oX:Od:=⟨1,0,20,2,1,0,SG,ZB,ZC⟩
def anp(fr a:Int):Vo fr a a=[]:=by rw[Vo,if_neg zE]
def anq{fr t a:Int}(h:a<t)(h2:t-a<=fr):Vo fr t a=[(a,t-a)]:=by
 have hN:Uc fr t a=t-a:=by unfold Uc;rw[if_pos zE];omega
 rw[Vo,if_pos h,hN,show a+(t-a)=t by omega,anp]
def L7{fr t a:Int}(h:a<t)(h1:1<=fr)(h2:fr<t-a):Vo fr t a=(a,fr)::Vo fr t (a+fr):=by
 have hN:Uc fr t a=fr:=by unfold Uc;split<;>omega
 rw[Vo,if_pos h,hN]
def aaJ:jJ ua=true:=by cbv
def at7:jJ zf=true:=by cbv
def aua:jJ zg=true:=by cbv
def aub:Uu ua [1,2] [] [] 0 (-1)=some [(1,0),(2,20)]:=by rw[<- ON];cbv
def aaK:Hp ua=some [(1,0),(2,20)]:=by unfold Hp;rw[if_neg (by rw[aaJ];decide)];exact aub
def auc:zM ua ⟨1,2,20,0,0,0,[]⟩ 0=⟨1,2,0,20,0,1,[],false⟩:=by cbv
def aud:zM ua ⟨2,3,40,20,50,0,[]⟩ 20=⟨2,3,20,40,0,1,[],false⟩:=by cbv
def aue:(Kw ua [(1,0),(2,20)] 0).map nl0=bI.ev:=by
 have h1:QE ua (1,0) 0=some ⟨1,2,20,0,0,0,[]⟩:=by cbv
 have h2:QE ua (2,20) 20=some ⟨2,3,40,20,50,0,[]⟩:=by cbv
 have hf:Yf ua=50:=by cbv
 have hl:ua.ln=200:=rfl;rw[Kw,if_neg (by rw[hl];omega),Jd,h1];simp only[hf,anp,zzcs,zzai];rw[show(0:Int)+20=20 from rfl,Jd,h2];simp only[hf,anp,zzcs,zzai];rw[show(20:Int)+40=60 from rfl,Jd,hf,hl,L7 zE zE zE,L7 zE zE zE,anq zE zE,auc,aud];rfl
def ajq:zV ua=0:=by unfold zV;rw[if_neg (by rw[aaJ];decide),aaK]
def ajr:dZ (Yv ua)=bI:=by
 unfold Yv dZ;rw[aaK];simp only;rw[aue];rfl
def ayu:Vp oL=true:=by
 unfold Vp;rw[if_neg (by simp[oL]),if_neg (by simp[oL]),if_neg (by simp[oL]),if_neg (by simp[oL])];simp[oL,okB,Kb,Qcy,uM,SG,ZB,ZC,eB]
def auf:Vp oD=true:=by
 unfold Vp;rw[if_neg (by simp[oD]),if_neg (by simp[oD]),if_neg (by simp[oD]),if_neg (by simp[oD])];simp[oD,okB,Kb,Qcy,uM,SG,ZB,ZC,eB]
def sD0:Kl ([]:Pi)=[]:=by unfold Kl;simp
def anr:Jc bI 30 (Xp 30 bI.ev []) oL=some (zf,50):=by
 unfold Jc;rw[if_neg (by simp[bI,ua])];have hb:Je bI 30 (Xp 30 bI.ev []) oL=some (zf,50):=by cbv
 have hm:uR bI 30 (Xp 30 bI.ev []) oL zf 50=true:=by cbv
 rw[hb];simp only;rw[if_pos (by rw[at7,hm];rfl)]
def aaL:Jc bI 20 (Xp 20 bI.ev []) oD=some (zg,0):=by
 unfold Jc;rw[if_neg (by simp[bI,ua])];have hb:Je bI 20 (Xp 20 bI.ev []) oD=some (zg,0):=by cbv
 have hm:uR bI 20 (Xp 20 bI.ev []) oD zg 0=true:=by cbv
 rw[hb];simp only;rw[if_pos (by rw[aua,hm];rfl)]
def ans:Jc bI 20 (Xp 20 bI.ev []) oX=none:=by
 unfold Jc;rw[if_neg (by simp[bI,ua])];cases hb:Je bI 20 (Xp 20 bI.ev []) oX with
 |none=>rfl
 |some r=>
  obtain⟨q,d⟩:=r
  have hm:uR bI 20 (Xp 20 bI.ev []) oX q d=false:=by
   unfold uR;rw[if_neg (by simp[oX]),if_pos (by rfl)];cbv
  simp only;rw[hm,zzhe,if_neg (by decide)]
def ayv:Uj bI oL=true:=by unfold Uj;rw[ayu];rfl
def aug:Uj bI oD=true:=by unfold Uj;rw[auf];rfl
def ant:iu bI oD=true:=by
 unfold iu;rw[aug,if_neg (by simp[oD])];show(true&&(Jc bI 20 (Xp 20 bI.ev []) oD).isSome)=true;rw[aaL];rfl
def anu:iu bI oX=false:=by
 unfold iu;rw[if_neg (by simp[oX])];show(Uj bI oX&&(Jc bI 20 (Xp 20 bI.ev []) oX).isSome)=false;rw[ans,Option.isSome_none,zzhe]
def ajs:Jw bI oL=SK:=by
 have cW:uV bI 30 (Xp 30 bI.ev []) oL zf 50=some ⟨2,3,30,40,10,1,[],true⟩:=by cbv
 have he:Jl bI 30 (Xp 30 bI.ev []) oL zf 50=70:=by unfold Jl;rw[cW];rfl
 have h1:Ui bI 30 (Xp 30 bI.ev []) oL zf 50=[⟨1,2,0,20,0,1,[],false⟩,⟨2,3,20,10,0,1,[],false⟩,⟨2,3,30,40,10,1,[],true⟩]:=by unfold Ui;rw[cW];cbv
 have hi:Jk bI (Xp 30 bI.ev []) zf.ens=[]:=by cbv
 have hk:j4 bI 30 (Xp 30 bI.ev []) oL zf 50=[]:=by unfold j4;rw[hi];rfl
 have hs:Vr bI 30 (Xp 30 bI.ev []) oL zf 50=[]:=by unfold Vr;rw[hi,hk];rfl
 have hd:Hr bI 30 (Xp 30 bI.ev []) oL zf 50=[]:=by unfold Hr;rw[hi,hk];rfl
 have hf:Yf zf=50:=by cbv
 have hl:zf.ln=200:=rfl
 have hb:LM bI 30 (Xp 30 bI.ev []) oL zf 50=[⟨0,1,70,50,0,1,[],true⟩,⟨0,1,120,50,0,1,[],true⟩,⟨0,1,170,30,0,1,[],true⟩]:=by
  unfold LM;rw[hs,he,Kw,if_neg (by rw[hl];omega),Jd,hf,hl,L7 zE zE zE,L7 zE zE zE,anq zE zE];rfl
 unfold Jw Zg;rw[if_neg (by rw[ayv];decide),if_neg (by simp[oL])];have hx:Jc bI oL.fr (Xp oL.fr bI.ev []) oL=some (zf,50):=anr;rw[hx];show dZ (Kn bI oL (Xp 30 bI.ev []) zf 50)=SK;unfold Kn;show dZ ({bI with p:=zf,ev:=Ui bI 30 _ _ zf 50++LM bI 30 _ _ zf 50,dr:=dd (Kl (bI.dr++Hr bI 30 _ _ zf 50)),ve:=bI.ve+1}:Pg)=SK;rw[h1,hb,hd];show dZ ({bI with p:=zf,ev:=_,dr:=dd (Kl []),ve:=_}:Pg)=SK;rw[sD0];rfl
def ajt:Jw bI oD=exK:=by
 have cW:uV bI 20 (Xp 20 bI.ev []) oD zg 0=none:=by cbv
 have he:Jl bI 20 (Xp 20 bI.ev []) oD zg 0=20:=by unfold Jl;rw[cW]
 have h1:Ui bI 20 (Xp 20 bI.ev []) oD zg 0=[⟨1,2,0,20,0,1,[],false⟩]:=by unfold Ui;rw[cW];cbv
 have hi:Jk bI (Xp 20 bI.ev []) zg.ens=[]:=by cbv
 have hk:j4 bI 20 (Xp 20 bI.ev []) oD zg 0=[]:=by unfold j4;rw[hi];rfl
 have hs:Vr bI 20 (Xp 20 bI.ev []) oD zg 0=[]:=by unfold Vr;rw[hi,hk];rfl
 have hd:Hr bI 20 (Xp 20 bI.ev []) oD zg 0=[]:=by unfold Hr;rw[hi,hk];rfl
 have hf:Yf zg=50:=by cbv
 have hl:zg.ln=200:=rfl
 have hb:LM bI 20 (Xp 20 bI.ev []) oD zg 0=[⟨0,1,20,50,0,1,[],true⟩,⟨0,1,70,50,0,1,[],true⟩,⟨0,1,120,50,0,1,[],true⟩,⟨0,1,170,30,0,1,[],true⟩]:=by
  unfold LM;rw[hs,he,Kw,if_neg (by rw[hl];omega),Jd,hf,hl,L7 zE zE zE,L7 zE zE zE,L7 zE zE zE,anq zE zE];rfl
 unfold Jw Zg;rw[if_neg (by rw[aug];decide),if_neg (by simp[oD])];have hx:Jc bI oD.fr (Xp oD.fr bI.ev []) oD=some (zg,0):=aaL;rw[hx];show dZ (Kn bI oD (Xp 20 bI.ev []) zg 0)=exK;unfold Kn;show dZ ({bI with p:=zg,ev:=Ui bI 20 _ _ zg 0++LM bI 20 _ _ zg 0,dr:=dd (Kl (bI.dr++Hr bI 20 _ _ zg 0)),ve:=bI.ve+1}:Pg)=exK;rw[h1,hb,hd];show dZ ({bI with p:=zg,ev:=_,dr:=dd (Kl []),ve:=_}:Pg)=exK;rw[sD0];rfl
open Go Go.Abs
def aaM(e:En×Rt):P2:=[I e.1.id,I e.1.it,I e.1.fr,I e.1.ea,I e.1.la,I e.1.bo,.sl e.2 (e.1.al.map Qf)]
def anv(l:List (En×Rt))(rt:Rt):Wk (.sl rt (l.map aaM)) (.sl .ro ((l.map (·.1)).map Qd)):=by
 refine Wk.trans (Wk.sl _ _) ?_;rw[zzcu];refine Wk.rows l aaM (Qd ∘ (·.1)) (fun _=>rfl) fun a j c' h=>?_
 match j,h with
 |0,h=>exact⟨_,rfl,by cases h;exact Ps⟩
 |1,h=>exact⟨_,rfl,by cases h;exact Ps⟩
 |2,h=>exact⟨_,rfl,by cases h;exact Ps⟩
 |3,h=>exact⟨_,rfl,by cases h;exact Ps⟩
 |4,h=>exact⟨_,rfl,by cases h;exact Ps⟩
 |5,h=>exact⟨_,rfl,by cases h;exact Ps⟩
 |6,h=>exact⟨_,rfl,by cases h;exact Wk.sl _ _⟩
 |j+7,h=>simp[Qd]at h
def aaN:P2:=[I 0,I 25,I 1,I 0,.sl .nil [],I 0,I 1,I 200,I 1,.sl .full [[I 1,I 5,I 50,I 0,I 0],[I 2,I 2,I 20,I 0,I 0],[I 3,I 4,I 100,I 0,I 0]],
 .sl .full [[I 1,I 2,I 20,I 0,I 0,I 0,.sl .nil []],[I 2,I 3,I 40,I 20,I 50,I 0,.sl .nil []]],.sl .nil [],
 .sl .full [[I 1,I 2,I 0,I 1000,I 255,I 0,I 0,I 0],[I 1,I 3,I 0,I 1000,I 255,I 0,I 0,I 0]]]
def L8:Pure Tryz.prog aD 31 [] (.agg aaN):=by
 refine Qp ajS (fun _ _ _=>.junk) zd ?_;simp[aoR,aoS,aaN]
def RU:Pure Tryz.prog aD 31 [] (.agg (Qa ua)):=
 Zh L8 (jv ⟨Ps,Ps,Ps,Ps,Wk.sl _ _,Ps,Ps,Ps,Ps,Wk.sl _ _,anv [(⟨1,2,20,0,0,0,[]⟩,.nil),(⟨2,3,40,20,50,0,[]⟩,.nil)] .full,Wk.sl _ _,Wk.sl _ _,trivial⟩)
def L9:RH ua:=⟨by decide,by decide,by decide,by decide,by decide,by decide⟩
def aaO:PlL ua:=⟨L9,by decide,by decide⟩
def om:dQ 0 bI:=by rw[<- ajr];exact(uU L9 ajq).dZ
def anw:dQ 1 SK:=by rw[<- ajs];exact(rM om zE).dZ
def anx:dQ 1 exK:=by rw[<- ajt];exact(rM om zE).dZ
def af6:Pure Tryz.prog aD 30 [.agg (Qa ua)] (.aS [.agg (Qm bI),.sl .ro [],I 0]):=by
 have k:=Bz ua (ajm L9 aaO.al aaO.ea)
 have e:Hv ua=.aS [.agg (Qm bI),.sl .ro [],I 0]:=by
  unfold Hv yG;rw[ajq,aaK,aaJ,<- lu,ajr];rfl
 rw[e]at k;exact k
def qi(q c f k e n:Int):P2:=[I q,I c,I f,I k,I e,I n,I 0,I 0,I 0,I 0,I 0,I 0,.sl .nil [],I 0,I 0,I 0,I 0,I 0,I 0,I 0,I 0,I 0,I 0,I 0,I 0,.str ⟨#[]⟩]
def HJ(q c f k e n:Int):Wk (.agg (qi q c f k e n)) (.agg (Qq ⟨q,c,f,k,e,n,SG,ZB,ZC⟩)):=
 jv ⟨Ps,Ps,Ps,Ps,Ps,Ps,Ps,Ps,Ps,Ps,Ps,Ps,Wk.sl _ _,Ps,Ps,Ps,Ps,Ps,Ps,Ps,Ps,Ps,Ps,Ps,Ps,Ps,trivial⟩
def OO(q c f k e n:Int):zW ⟨q,c,f,k,e,n,SG,ZB,ZC⟩:=by simp[zW,SG]
def anz:Pure Tryz.prog aD 25 [.agg (Qm bI),.agg (qi 1 (-1) 30 1 2 10)] (.agg (Qm SK)):=by
 have k:=og bI oL (Bv om zE (OO _ _ _ _ _ _));rw[<- oh,ajs]at k;exact Xz k ⟨Ps,HJ _ _ _ _ _ _,trivial⟩
def anA:Pure Tryz.prog aD 25 [.agg (Qm bI),.agg (qi 1 0 20 2 2 0)] (.agg (Qm exK)):=by
 have k:=og bI oD (Bv om zE (OO _ _ _ _ _ _));rw[<- oh,ajt]at k;exact Xz k ⟨Ps,HJ _ _ _ _ _ _,trivial⟩
def ayw:Pure Tryz.prog aD 21 [.agg (Qm bI),.agg (qi 1 0 20 2 2 0)] (.bool true):=by
 have k:=rO bI oD (Bv om zE (OO _ _ _ _ _ _));rw[ant]at k;exact Xz k ⟨Ps,HJ _ _ _ _ _ _,trivial⟩
def ayx:Pure Tryz.prog aD 21 [.agg (Qm bI),.agg (qi 1 0 20 2 1 0)] (.bool false):=by
 have k:=rO bI oX (Bv om zE (OO _ _ _ _ _ _));rw[anu]at k;exact Xz k ⟨Ps,HJ _ _ _ _ _ _,trivial⟩
def ayy:Pure Tryz.prog aD 22 [.agg (qi 1 0 20 2 2 0)] (.bool true):=by
 have k:=sY oD (by decide);rw[auf]at k;exact Xz k ⟨HJ _ _ _ _ _ _,trivial⟩
def af7:Pure Tryz.prog aD 23 [.agg (Qm bI),.agg (Qm bI)] (.bool true):=am4 bI (om.sm zE)
def af8(g h:Pg)(hv:g.ve≠h.ve):Pure Tryz.prog aD 23 [.agg (Qm g),.agg (Qm h)] (.bool false):=by
 refine Qp SR (fun _ _ _=>.bool true) zd ?_;by_cases he:g.ed=h.ed
 ·simp[abr,abt,Qm,Qa,he,hv]
 simp[abr,abt,Qm,Qa,he,hv]
def ayz:Pure Tryz.prog aD 34 [.sl .ro (SK.ev.map Qe),I 69] (.aS [.agg [I 2,I 3,I 30,I 40,I 10,I 1,.sl .ro []],I 49,.bool true]):=by
 have k:=Hy SK.ev 69 (by decide) anw.small.2 zE;have e:xS 69 (lS 69 SK.ev)=.aS [.agg [I 2,I 3,I 30,I 40,I 10,I 1,.sl .ro []],I 49,.bool true]:=by cbv
 rw[e]at k;exact k
def ayA:Pure Tryz.prog aD 34 [.sl .ro (exK.ev.map Qe),I 30] (.aS [.agg [I 0,I 1,I 20,I 50,I 0,I 1,.sl .ro []],I 10,.bool true]):=by
 have k:=Hy exK.ev 30 (by decide) anx.small.2 zE;have e:xS 30 (lS 30 exK.ev)=.aS [.agg [I 0,I 1,I 20,I 50,I 0,I 1,.sl .ro []],I 10,.bool true]:=by cbv
 rw[e]at k;exact k
def aaP:UV:=fun d f _=>if f=31 then .agg (Qa ua)else if f=30 then .aS [.agg (Qm bI),.sl .ro [],I 0]else if f=25 then(if d=29 then .agg (Qm SK)else .agg (Qm exK))
 else if f=32 then .aS [.str ⟨#[2,1,60,2,4,20]⟩,I 0]else if f=33 then .aS [.agg (qi 1 (-1) 30 1 2 10),I 0]
 else if f=34 then(if d=46 then .aS [.agg [I 2,I 3,I 30,I 40,I 10,I 1,.sl .ro []],I 49,.bool true]else .aS [.agg [I 0,I 1,I 20,I 50,I 0,I 1,.sl .ro []],I 10,.bool true])
 else if f=21 then .bool (decide (d≠59))else if f=22 then .bool true else if f=23 then .bool (decide (d=130))else .junk
def anB:Pure Tryz.prog aD 11 [] (.bool true):=by
 have h1:Qh (bI.ev.map Qe) 1=[I 2,I 3,I 20,I 40,I 0,I 1,.sl .ro []]:=rfl;have h2:bI.ev.length=5:=rfl;have h3:SK.ve=1:=rfl;have k1:=RU;have k2:=af6;have k3:=anz;have k4:=anA;have k5:=HK (gl:=aD);have k6:=HL (gl:=aD);have k7:=ayz;have k8:=ayA;have k9:=ayx;have k10:=ayy;have k11:=ayw;have k12:=af7;have k13:=af8 bI SK (by decide);simp only[Qm,Qa,qi,oSL,zzae,zzai]at k1 k2 k3 k4 k5 k6 k7 k8 k9 k10 k11 k12 k13;refine Qp ajG aaP zd ?_;simp[aoH,aoI,aaP,Qm,Qa,qi,h1,h2,h3];exact⟨k1,k2,k3,k4,k5,k6,k7,k8,k9,k10,k11,k12,k13⟩
def anC{p:Pl}(hp:(∀e∈p.ens,e.al.length<=8796093022208)/\∀e∈p.ens,e.ea<=9223372036854775807):PlL (Rg p):=
 ⟨amY p,fun e he=>hp.1 e (zzcg he),fun e he=>hp.2 e (zzcg he)⟩
