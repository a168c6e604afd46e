import Derived.Test.YtnopaopphmjnmaaGreatDoorMLMeD
set_option linter.all false
set_option maxRecDepth 100000
set_option maxHeartbeats 64000000
namespace Go.Proofs.YtnopaopphmjnmaaGreatDoor
noncomputable section
open Go Go.Abs
def at4(ps:List Pl):Prop:=∀p∈ps,(∀e∈p.ens,e.al.length<=8796093022208)/\∀e∈p.ens,e.ea<=9223372036854775807
def anK(ps:List Pl):List Pl:=(ps.take 3).map R3
def agM{ps:List Pl}(h:at4 ps):SN (anK ps):=by
 have key:∀p∈anK ps,∃q∈ps,p=R3 q:=fun p hp=>by
  obtain⟨q,hq,rfl⟩:=zzax.1 hp;exact⟨q,zzca hq,rfl⟩
 refine⟨by simp[anK];omega,fun p hp=>?_,fun p hp e he=>?_,fun p hp e he=>?_⟩
 ·obtain⟨q,hq,rfl⟩:=key p hp;exact anu q
 ·obtain⟨q,hq,rfl⟩:=key p hp;exact(h q hq).1 e (zzca he)
 obtain⟨q,hq,rfl⟩:=key p hp;exact(h q hq).2 e (zzca he)
def DV:∀(l out:List Od)(last:Int),(∀o∈out,zX o)->out.length<=7->(∀o∈yL l out last,zX o)/\(yL l out last).length<=7
 |[],out,_,h,h7=>⟨h,h7⟩
 |o::r,out,last,h,h7=>by
  rw[yL];split
  ·exact⟨h,h7⟩
  split
  ·refine DV r _ _ (fun x hx=>?_) (by simp;omega);rcases zzao.1 hx with hx|hx
   ·exact h x hx
   rw[zzbd]at hx;subst hx;unfold zX kj;simp;omega
  exact DV r _ _ h h7
def agN(l:List Od):(∀o∈HP l,zX o)/\(HP l).length<=7:=DV l [] 0 (fun o h=>by cases h) (by simp)
open Go Go.Abs
def HR:∀{l:List Od}{M M':Md},SM M l=some M'->M'.os=M.os++l.map (fun o=>(o.sq,o.fr))/\M'.pl=M.pl
 |[],M,M',h=>by cases h;simp
 |o::r,M,M',h=>by
  rw[SM]at h;cases ho:DP M o with
  |none=>rw[ho]at h;cases h
  |some M2=>
   rw[ho]at h;obtain⟨h1,h2⟩:=HR h;unfold DP at ho;split at ho
   ·cases ho
   cases ho;exact⟨by rw[h1];simp,h2⟩
def Pe:∀{l:List Od}{M M':Md},SM M l=some M'->M'.ps.length=M.ps.length/\∀(i:Nat)(x:List Pg)(g:Pg),M.ps[i]?=some x->x[0]?=some g->∃y:List Pg,M'.ps[i]?=some y/\y[0]?=some g
 |[],M,M',h=>by cases h;exact⟨rfl,fun i x g h1 h2=>⟨x,h1,h2⟩⟩
 |o::r,M,M',h=>by
  rw[SM]at h;cases ho:DP M o with
  |none=>rw[ho]at h;cases h
  |some M2=>
   rw[ho]at h;obtain⟨h1,h2⟩:=Pe h;unfold DP at ho;split at ho
   ·cases ho
   cases ho;refine⟨by rw[h1];simp,fun i x g hx hg=>?_⟩;refine h2 i (Yh o M.os.length x) g (by simp[hx]) ?_;unfold Yh;rw[zzag (zza.1 hg).1];exact hg
def SR{p:Pl}{l:List Od}{M:Md}(h:yM [p] l=some M):uU p=0/\M.os=l.map (fun o=>(o.sq,o.fr))/\∃x,Ka M p.ch=some x/\x[0]?=some (Js p):=by
 unfold yM mg at h;rw[if_neg (by simp),me]at h;by_cases hb:uU p=0
 ·rw[if_neg (by simp[md0,af,hb]),me]at h;simp only at h;obtain⟨h1,h2⟩:=HR h;obtain⟨h3,h4⟩:=Pe h;obtain⟨y,y1,y2⟩:=h4 0 [Js p] (Js p) (by simp[md0]) rfl;refine⟨hb,by rw[h1];simp[md0],y,?_,y2⟩;unfold Ka;rw[h2];simp[md0,Zq,af];exact y1
 rw[if_pos (.inr hb)]at h;cases h
def BD{α:Type}(P:α->Prop)[DecidablePred P](a:α)(r:List α):(((a::r).filter fun o=>decide (P o)).length:Int)=(if P a then 1 else 0)+((r.filter fun o=>decide (P o)).length:Int):=by
 rw[zzdu];by_cases h:P a
 ·rw[if_pos h,if_pos (by simpa using h),zzbb];omega
 rw[if_neg h,if_neg (by simpa using h)];omega
def HS:∀(n:Nat)(lo hi:Int),(hi+1-lo).toNat<=n->(Vs lo hi).Pairwise (·<·)/\(∀v∈Vs lo hi,lo<=v/\v<=hi)/\((Vs lo hi).length:Int)=max 0 (hi+1-lo)
 |0,lo,hi,h=>by rw[Vs,if_neg (by omega)];exact⟨List.Pairwise.nil,(fun v hv=>by cases hv),by simp;omega⟩
 |n+1,lo,hi,h=>by
  rw[Vs];split
  ·obtain⟨h1,h2,h3⟩:=HS n (lo+1) hi (by omega);refine⟨zzbx.2 ⟨fun v hv=>by have:=h2 v hv;omega,h1⟩,fun v hv=>?_,by simp only[zzbb];omega⟩;rcases zzat.1 hv with rfl|hv
   ·omega
   have:=h2 v hv;omega
  exact⟨List.Pairwise.nil,(fun v hv=>by cases hv),by simp;omega⟩
open Go Go.Abs
open Go Go.Abs
def yN(l:List Od):Int:=match l.getLast? with
 |none=>0
 |some o=>o.fr
structure th (l:List Od):Prop where
 ok:∀(i:Nat)(o:Od),l[i]?=some o->kj o ((i:Int)+1) o.fr=o/\Xx o=true
 asc:l.Pairwise fun a b=>a.fr<=b.fr
 pos:∀o∈l,0<=o.fr
 len:l.length<=7
def ot(l:List Od)(o:Od):yN (l++[o])=o.fr:=by unfold yN;simp
def aa2{l:List Od}(h:l.Pairwise fun a b=>a.fr<=b.fr):∀o∈l,o.fr<=yN l:=fun o ho=>by
 rcases zzer l with rfl|⟨t,x,rfl⟩
 ·cases ho
 rw[zzes]at*
 rw[ot];obtain⟨_,_,h3⟩:=zzew.1 h;rcases zzao.1 ho with ho|ho
 ·exact h3 o ho x (by simp)
 rw[zzbd.1 ho];exact zzbu _
def SS(o:Od)(n f:Int):kj (kj o n f) n f=kj o n f:=by
 have h:∀b:ByteArray,(b.extract 0 (if 300<b.size then 300 else b.size)).extract 0 (if 300<(b.extract 0 (if 300<b.size then 300 else b.size)).size then 300 else(b.extract 0 (if 300<b.size then 300 else b.size)).size)=b.extract 0 (if 300<b.size then 300 else b.size):=fun b=>by
  have h1:¬300<(b.extract 0 (if 300<b.size then 300 else b.size)).size:=by rw[zzfo];split<;>omega
  rw[if_neg h1,ByteArray.extract_zero_size]
 unfold kj;simp only[List.take_take,Nat.min_self,h]
def th.snoc{l:List Od}(h:th l)(o:Od)(h7:¬7<=l.length)(f:Int)(hf:yN l<=f)(h0:0<=f)(hv:Xx (kj o (l.length+1) f)=true):th (l++[kj o (l.length+1) f]) where
 ok i x hx:=by
  rcases zzaa i l.length with hi|hi
  ·rw[zzag hi]at hx;exact h.ok i x hx
  rw[zzal hi]at hx
  obtain⟨hi2,rfl⟩:i-l.length=0/\x=kj o (l.length+1) f:=by
   cases hk:i-l.length with
   |zero=>rw[hk]at hx;exact⟨rfl,(Option.some.inj hx).symm⟩
   |succ n=>rw[hk]at hx;simp at hx
  obtain rfl:i=l.length:=by omega
  exact⟨SS o _ f,hv⟩
 asc:=zzew.2 ⟨h.asc,zzhd _ _,fun a ha b hb=>by
  rw[zzbd.1 hb];have:=aa2 h.asc a ha;show a.fr<=f;omega⟩
 pos x hx:=by
  rcases zzao.1 hx with hx|hx
  ·exact h.pos x hx
  rw[zzbd.1 hx];exact h0
 len:=by simp;omega
def at5(a b:Int):b<=SL a b/\(b<=a->SL a b=a)/\a<=SL a b:=by
 unfold SL;split<;>omega
def SU{l:List Od}(h:th l):0<=yN l:=by
 rcases zzer l with rfl|⟨t,x,rfl⟩
 ·exact zzbu _
 rw[zzes]at*
 rw[ot];exact h.pos x (by simp)
def yO:∀(l out:List Od),th out->th (yL l out (yN out))
 |[],out,h=>h
 |o::r,out,h=>by
  rw[yL];have hp:=SU h;have hm:=at5 o.fr (yN out);split
  ·exact h
  rename_i h7;split
  ·rename_i hv;have:=yO r _ (h.snoc o h7 _ hm.1 (by omega) hv);rw[ot]at this;exact this
  exact yO r out h
def aa3(l:List Od):th (HP l):=yO l [] ⟨(fun i o h=>by simp at h),List.Pairwise.nil,(fun o h=>by cases h),by simp⟩
def Next(Ma Mb:Md)(o:Od):Prop:=Mb={Ma with ps:=Ma.ps.map (Yh o Ma.os.length),os:=Ma.os++[(o.sq,o.fr)]}
def agO(l:List (Int×Int))(f:Int):0<=qv f l/\qv f l<=Je f l/\Je f l<=(l.length:Int):=by
 induction l with
 |nil=>simp[Je,qv]
 |cons x r ih=>
  have e1:=BD (fun x:Int×Int=>x.2<=f) x r;have e3:=BD (fun x:Int×Int=>x.2+8<=f) x r;unfold Je qv at*
  rw[e1,e3,zzbb];by_cases c:x.2+8<=f
  ·rw[if_pos c,if_pos (by omega)];omega
  rw[if_neg c];split<;>omega
open Go Go.Abs
structure ayv (g:Pg):Prop where
 sh:g.p.sh.length<=8796093022208
 aL:g.p.aL.length<=8796093022208
 ens:g.p.ens.length<=8796093022208
 al:∀e∈g.p.ens,e.al.length<=8796093022208
 bks:g.p.bks.length<=8796093022208
 cls:g.p.cls.length<=8796093022208
 ev:g.ev.length<=8796093022208
 eal:∀e∈g.ev,e.al.length<=8796093022208
 cu:g.cu.length<=8796093022208
 dr:g.dr.length<=8796093022208
open Go Go.Abs
def SV(M:Md)(dn:List Od)(p:Pl):Prop:=
 ∃x:List Pg,Ka M p.ch=some x/\x.length=dn.length+1/\x[0]?=some (Js p)/\∀(v:Nat)(o:Od)(g:Pg),dn[v]?=some o->x[v]?=some g->x[v+1]?=some (Xz (cQ g) o)
def anL{M M':Md}{o:Od}{dn:List Od}{p:Pl}(h:DP M o=some M')(hn:M.os.length=dn.length)(hc:SV M dn p):SV M' (dn++[o]) p/\M'.os.length=(dn++[o]).length:=by
 unfold DP at h;split at h
 ·cases h
 cases h;obtain⟨x,h1,h2,h3,h4⟩:=hc;have hl:dn.length<x.length:=by omega
 obtain⟨g,hg⟩:∃g,x[dn.length]?=some g:=⟨_,zzac hl⟩;refine⟨⟨x++[Xz (cQ g) o],?_,by simp[h2],by rw[zzag (by omega)];exact h3,fun v o' g' ho Rg=>?_⟩,by simp[hn]⟩
 ·unfold Ka at h1 |-
  simp only;cases ha:af p.ch M.pl with
  |none=>rw[ha]at h1;cases h1
  |some i=>
   rw[ha]at h1;simp only[zzcg]at h1 |-
   rw[zzbl,h1];simp[Yh,hn,hg]
 rcases zzaa v dn.length with hv|hv
 ·rw[zzag hv]at ho;rw[zzag (by omega)]at Rg |-
  exact h4 v o' g' ho Rg
 have se:v=dn.length:=by
  have:=(zza.1 ho).1;simp at this;omega
 subst se;rw[zzag hl,hg]at Rg;cases Rg;rw[zzal (zzab _),zzdn]at ho;cases ho;rw[zzal (by omega),h2,zzdn];rfl
def Pf:∀{l dn:List Od}{M M':Md}{p:Pl},SM M l=some M'->M.os.length=dn.length->SV M dn p->SV M' (dn++l) p
 |[],dn,M,M',p,h,hn,hc=>by cases h;simpa using hc
 |o::r,dn,M,M',p,h,hn,hc=>by
  rw[SM]at h;cases ho:DP M o with
  |none=>rw[ho]at h;cases h
  |some M2=>
   rw[ho]at h;obtain⟨h1,h2⟩:=anL ho hn hc;have:=Pf h h2 h1;rwa [zzaw,zzdy]at this
def Ph:∀{ps:List Pl}{i:Nat}{M M':Md},me i ps M=some M'->M.ps.length=i->(∀c j,af c M.pl=some j->0<=j/\j.toNat<i)->
  (∀p∈ps,uU p=0/\SV M' [] p)/\M'.os=M.os/\∀c x,Ka M c=some x->Ka M' c=some x
 |[],i,M,M',h,hi,hp=>by cases h;exact⟨(fun p hp=>by cases hp),rfl,fun c x hx=>hx⟩
 |p::r,i,M,M',h,hi,hp=>by
  rw[me]at h;split at h
  ·cases h
  rename_i hn;rw[not_or]at hn;have hb:uU p=0:=by omega
  have zh:af p.ch M.pl=none:=by
   cases hc:af p.ch M.pl with
   |none=>rfl
   |some j=>rw[hc]at hn;simp at hn
  have hq:∀c j,af c (Zq p.ch (i:Int) M.pl)=some j->0<=j/\j.toNat<i+1:=fun c j hc=>by
   rw[Yc]at hc;split at hc
   ·cases hc;omega
   have:=hp c j hc;omega
  obtain⟨h1,h2,h3⟩:=Ph h (by simp[hi]) hq
  have hme:Ka {M with pl:=Zq p.ch (i:Int) M.pl,ps:=M.ps++[[Js p]]} p.ch=some [Js p]:=by
   unfold Ka;simp only;rw[Yc,if_pos rfl,zzcg,zzgq,zzal (by omega),hi,zzdn];rfl
  refine⟨fun q P3=>?_,h2,fun c x hx=>?_⟩
  ·rcases zzat.1 P3 with rfl|P3
   ·exact⟨hb,[Js q],h3 _ _ hme,rfl,rfl,fun v o g ho _=>by simp at ho⟩
   exact h1 q P3
  refine h3 c x ?_;unfold Ka at hx |-
  simp only;rw[Yc];by_cases hc:c=p.ch
  ·rw[hc,zh]at hx;cases hx
  rw[if_neg hc];cases ha:af c M.pl with
  |none=>rw[ha]at hx;cases hx
  |some j=>
   rw[ha]at hx;simp only[zzcg]at hx |-
   rw[zzag (zza.1 hx).1];exact hx
def aa4{ps:List Pl}{l:List Od}{M:Md}(h:yM ps l=some M):∀p∈ps,uU p=0/\SV M l p:=by
 unfold yM at h;cases hn:mg ps with
 |none=>rw[hn]at h;cases h
 |some M0=>
  rw[hn]at h;unfold mg at hn;split at hn
  ·cases hn
  obtain⟨h1,h2,_⟩:=Ph hn rfl (fun c j hc=>by cases hc);exact fun p hp=>⟨(h1 p hp).1,by simpa using Pf h (by rw[h2];rfl) (h1 p hp).2⟩
open Go Go.Abs
def HT(b:Nat->Bool)(n:Nat)(hn:n<=8)(r:Int):Sw (Uk b n) r=(decide (r.toNat<n)&&b r.toNat):=by
 have ai:=uM b n;have hp:(2:Nat) ^ n<=2 ^ 8:=zzev (by omega) hn
 have key:∀k:Nat,((nX b n:Nat):Int).fdiv (2 ^ k)%2=((nX b n/2 ^ k%2:Nat):Int):=fun k=>by
  rw[zzgl _ (by have:=Int.pow_pos (n:=(2:Int)) (m:=k) (by omega);omega)]
  push_cast
  rfl
 unfold Sw;rw[Dv,key,<- yb b r.toNat n,zzdj];by_cases h:r.toNat<=64
 ·rw[zzft h];refine decide_eq_decide.2 ?_;omega
 rw[zzgw (by omega)];have z1:nX b n/2 ^ 64=0:=zzet (by omega)
 have z2:nX b n/2 ^ r.toNat=0:=zzet (by
  have:(2:Nat) ^ 8<=2 ^ r.toNat:=zzev (by omega) (by omega);omega)
 rw[z1,z2];rfl
def SX{q:Pl}{id r f n:Int}(h:Xo q id r f n=true):∃y,Xh id q.aL=some y:=by
 obtain⟨⟨h1,_⟩,h2⟩:=(nY q id r f n).1 h;obtain⟨y,hy,_⟩:=h2 f (zzbu _) (by omega);exact⟨y,hy⟩
def okI(q:Pl)(id r x:Int):Prop:=∃y,Xh id q.aL=some y/\(y.ki=5\/Xo q id r x 1=true)
def okI.of{q:Pl}{id r f n x:Int}(h:Xo q id r f n=true)(h1:f<=x)(h2:x<f+n):okI q id r x:=by
 obtain⟨y,hy⟩:=SX h;exact⟨y,hy,.inr (Mq h h1 (by omega) (by omega))⟩
def EvG(q:Pl)(e:bD)(x:Int):Prop:=(∀r,0<=r->Sw e.re r=true->okI q e.it r x)/\∀a∈e.al,okI q a.2 a.1 x
def tj(g:Pg)(F:Int):Prop:=∀e∈g.ev,∀x,F<=x->e.st<=x->x<e.st+e.fr->EvG g.p e x
def yP(f:Int):∀(L:List bD),∀e∈Yb f L,e.st+e.fr<=f
 |[],e,he=>by cases he
 |a::r,e,he=>by
  rw[Yb]at he;split at he
  ·exact yP f r e he
  rcases zzat.1 he with rfl|he
  ·simp only[G8];split<;>omega
  exact yP f r e he
def aa5{q:Pl}(hv:nU q=true)(a:Int×Int)(x:Int):EvG q (Ve q a) x:=by
 obtain⟨y,hy,hk,_⟩:=(yd hv).fill;exact⟨fun r _ _=>⟨y,hy,.inl hk⟩,fun a ha=>by cases ha⟩
def at6{q:Pl}(e:En)(fr x:Int)(h1:fr<=x)(h2:x<fr+e.fr):EvG q (zJ q e fr) x:=by
 refine⟨fun r hr hb=>?_,fun a ha=>?_⟩
 ·simp only[zJ,evM]at hb;rw[HT _ _ (by omega)]at hb;simp only[zzak]at hb;have hb:=hb.2;rw[zzge hr]at hb;exact okI.of hb h1 h2
 have:=(zzck.1 ha).2;simp only[nQ,zzak]at this;exact okI.of this.2 h1 h2
def Mr{q:Pl}(hv:nU q=true):∀(l:List Sp)(a:Int),∀e∈uG q l a,∀x,e.st<=x->x<e.st+e.fr->EvG q e x
 |[],a,e,h,x,h1,h2=>by
  rw[uG,zzax]at h;obtain⟨y,_,rfl⟩:=h;exact aa5 hv y x
 |s::r,a,e,h,x,h1,h2=>by
  rw[uG]at h;cases hs:mP q s a with
  |none=>rw[hs]at h;exact Mr hv r a e h x h1 h2
  |some y=>
   rw[hs]at h;simp only[zzaw,zzao,zzax,zzbd]at h;obtain⟨z,_,rfl⟩|rfl|h:=h
   ·exact aa5 hv z x
   ·exact at6 y s.2 x h1 h2
   exact Mr hv r _ e h x h1 h2
def aa6{q:Pl}(hv:nU q=true)(l:List Sp)(a:Int):∀e∈A9 q l a,∀x,e.st<=x->x<e.st+e.fr->EvG q e x:=by
 unfold A9;split
 ·intro e he;cases he
 exact Mr hv l a
def at7{g:Pg}{f:Int}{b:List (Int×Bool)}{o:Od}{q:Pl}{d:Int}{e:bD}(hv:nU q=true)(he:lZ g f b o q d=some e)(x:Int)(h1:e.st<=x)(h2:x<e.st+e.fr):EvG q e x:=by
 unfold lZ at he;split at he
 ·cases he
 split at he
 ·cases he
 split at he
 ·cases he
 cases he;refine⟨fun r hr hb=>?_,fun a ha=>?_⟩
 ·have Ld:=(yd hv).rg;simp only[qb]at hb;rw[HT _ _ (by omega)]at hb;simp only[zzak]at hb;have hb:=hb.2;rw[zzge hr]at hb;exact okI.of hb h1 h2
 have:=(zzck.1 ha).2;exact okI.of this h1 h2
def aua{p:Pl}(h:uU p=0)(F:Int):tj (Js p) F/\(Js p).p=p:=by
 obtain⟨hv,l,hl⟩:=HC h;have hg:Js p=⟨p,A9 p l 0,[],0,[],0⟩:=by unfold Js;rw[hl]
 rw[hg];exact⟨fun e he x _ h1 h2=>aa6 hv l 0 e he x h1 h2,rfl⟩
def tj.cQ{g:Pg}{F:Int}(h:tj g F):tj (cQ g) F:=by
 intro e he x h0 h1 h2;obtain⟨y,hy,rfl⟩:=zzax.1 he;exact h y hy x h0 h1 h2
def agP{g:Pg}{o:Od}{b:List (Int×Bool)}{q:Pl}{d F:Int}(hv:nU q=true)(hF:o.fr<=F):tj (oo g o b q d) F:=by
 intro e he x h0 h1 h2;simp only[oo,Jp,zzaw,zzao,zzax]at he;obtain⟨y,hy,rfl⟩|he|he:=he
 ·have h1:y.st<=x:=h1;have h2:x<y.st+y.fr:=h2;have:=yP _ _ y hy;omega
 ·exact at7 hv (by simpa using he) x h1 h2
 exact aa6 hv _ _ e he x h1 h2
def agQ{g:Pg}{o:Od}{F:Int}(h:tj g F)(hF:o.fr<=F):tj (Xz g o) F:=by
 unfold Xz;split
 ·exact h
 split
 ·cases LZ o.cu g.cu<;>exact h
 cases hx:Bv g o.fr (Yg o.fr g.ev []) o with
 |none=>exact h
 |some r=>
  obtain⟨q,d⟩:=r;exact agP (j5 hx).2.2.1 hF
def Pj{M:Md}{l:List Od}{p:Pl}(hb:uU p=0){x:List Pg}(h0:x[0]?=some (Js p))(hs:∀(v:Nat)(o:Od)(g:Pg),l[v]?=some o->x[v]?=some g->x[v+1]?=some (Xz (cQ g) o))(hl:x.length=l.length+1){F:Int}:
  ∀(v:Nat),(∀(i:Nat)(o:Od),i<v->l[i]?=some o->o.fr<=F)->∀g,x[v]?=some g->tj g F
 |0,_,g,hg=>by
  rw[h0]at hg;cases hg;exact(aua hb F).1
 |v+1,hf,g,hg=>by
  have ai:=(zza.1 hg).1;obtain⟨o,ho⟩:∃o,l[v]?=some o:=⟨_,zzac (by omega)⟩;obtain⟨g',Rg⟩:∃g',x[v]?=some g':=⟨_,zzac (by omega)⟩;have ih:=Pj (M:=M) hb h0 hs hl v (fun i o' hi c9=>hf i o' (by omega) c9) g' Rg;rw[hs v o g' ho Rg]at hg;cases hg;exact agQ ih.cQ (hf v o (by omega) ho)
def Pk{f:Int}:∀{l:List Od},l.Pairwise (fun a b=>a.fr<=b.fr)->∀(i:Nat)(o:Od),l[i]?=some o->(i:Int)<Je f (l.map fun o=>(o.sq,o.fr))->o.fr<=f
 |[],_,i,o,h,_=>by simp at h
 |a::r,h,i,o,ho,hi=>by
  obtain⟨h1,h2⟩:=zzbx.1 h;unfold Je at hi;by_cases hc:a.fr<=f
  ·cases i with
   |zero=>simp at ho;subst ho;exact hc
   |succ j=>
    simp only[zzdc]at ho;refine Pk h2 j o ho ?_;unfold Je;simp[hc]at hi;omega
  exfalso
  have hz:(((a::r).map fun o:Od=>(o.sq,o.fr)).filter fun o=>decide (o.2<=f))=[]:=by
   rw[zzfn];intro y hy;obtain⟨z,hz,rfl⟩:=zzax.1 hy;rcases zzat.1 hz with rfl|hz
   ·simpa using hc
   have:=h1 z hz;simp;omega
  rw[hz]at hi;simp at hi;omega
def Ms{p:Pl}{l:List Od}{M:Md}(hM:yM [p] l=some M)(hn:th l){x:List Pg}(hx:Ka M p.ch=some x)(r f:Int):∀s∈Zp M p.ch r f,s=sh0\/∃g,0<=s.2.2/\s.2.2<=l.length/\x[s.2.2.toNat]?=some g/\okI g.p s.1 r f:=by
 obtain⟨hb,hos,_⟩:=SR hM;obtain⟨_,x',kL,hxl,hx0,hxs⟩:=aa4 hM p (by simp);rw[hx]at kL;cases kL;intro s hs;unfold Zp at hs;rw[hx]at hs;cases x with
 |nil=>simp at hxl
 |cons g0 t=>
  simp only at hs;split at hs
  ·cases hs
  rename_i hr;rcases zzat.1 hs with rfl|hs
  ·exact .inl rfl
  right;obtain⟨v,hv,hs⟩:=zzgz.1 hs;have hcb:=agO M.os f;obtain⟨_,se,_⟩:=HS _ (qv f M.os) (Je f M.os) (zzab _);have X5:=se v hv;unfold iG at hs;cases hg:(g0::t)[v.toNat]? with
  |none=>rw[hg]at hs;cases hs
  |some g=>
   rw[hg]at hs;simp only at hs;cases he:y9 f g.ev with
   |none=>rw[he]at hs;cases hs
   |some e=>
    rw[he]at hs;simp only at hs;obtain⟨e1,e2,e3⟩:=uW he;have hP:=Pj (M:=M) hb hx0 hxs hxl (F:=f) v.toNat (fun i o hi ho=>Pk hn.asc i o ho (by rw[<- hos];omega)) g hg;obtain⟨p1,p2⟩:=hP e e1 f (zzbu _) e2 e3;have aH:(M.os.length:Int)=l.length:=by rw[hos,zzbg]
    unfold Hw at hs;rcases zzao.1 hs with hs|hs
    ·split at hs
     ·rename_i axO;rw[zzbd]at hs;subst hs;exact⟨g,by simp only;omega,by simp only;omega,hg,p1 r (by omega) axO⟩
     cases hs
    unfold zW at hs;obtain⟨a,ha,rfl⟩:=zzax.1 hs;obtain⟨ha1,ha2⟩:=zzck.1 ha;have har:a.1=r:=by simpa using ha2
    exact⟨g,by simp only;omega,by simp only;omega,hg,by rw[<- har];exact p2 a ha1⟩
open Go Go.Abs
def aa7(x:AM)(md:Nat)(M:Md)(pid aQ:Nat)(bh:List Rt)(bO:Rt)(z:List AV)(c v:Int)(h:gm x.boxes md M pid aQ bh bO z)(aR:∀rt∈bh,rt=.full\/∃k,rt=.own k 18)(hV:SF M)(V:AV)(hv:ko (ij M c v)=V):
  an Tryz.prog az Y0 20 [.ptr md 0,I c,I v] x (fun y m2=>y=V/\m2=x):=by
 have hgg:∀l∈M.ps,∀g∈l,PgC g:=fun l hl g hg=>by
  obtain⟨i,hi⟩:=zzby.1 hg;have h1:=(zza.1 hi).1;have h2:=hV.n l hl;have h3:=hV.los;exact(hV.pr l hl i g hi).pgc (by omega)
 have wI:∀l∈M.ps,l.length<=1000000:=fun l hl=>by have:=hV.n l hl;have:=hV.los;omega
 refine an.mono (an.read (K:=fun y=>y=V) (HQ Y0 x md M pid aQ bh bO z c v h aR hgg wI _ fun ex=>⟨ex,rfl,?_,hv⟩)) (fun r m' h=>⟨h.2,h.1⟩);rw[hv];rw[<- hv];cases ij M c v with
 |none=>exact iI
 |some g=>exact iI
def Qbi(q:Pl)(a:List Od)(rta:Rt)(M:Option Md):Nat->FuncId->List AV->AV:=fun _ f l=>
 if f=11 then .bool true else if f=28 then .agg (Qb q)else if f=15 then .sl rta (a.map Qq)
 else if f=20 then(match l with|[_,.int _ c,.int _ v]=>.gd true (ko (M.bind fun M=>ij M c v))|_=>.junk)
 else if f=29 then(match l with|[.agg cs,.int _ id]=>Zh (Xh id (dPl cs).aL)|_=>.junk)
 else if f=30 then(match l with|[.agg cs,.int _ id,.int _ r,.int _ x,.int _ n]=>.bool (Xo (dPl cs) id r x n)|_=>.junk)
 else .gd false .junk
def anM:SC:=(⟨_,by cbv⟩:tM [1,1,1,1,1,0,1,0,0,1,0,0,1,1,0,0,1,0,0] sc5).1
def hd5:SC:=(⟨_,fun _=>by cbv⟩:uw [1,1,1,1,1,0,1,0,0,1,0,0,1,1,0,0,1,0,0] sc5).1 anM
theorem anN:sc5=hd5:=rfl
def agR(q:Pl)(a:List Od)(rta:Rt)(r f:Int)(fs:List Int)(i k:Nat)(M:Md)(hV:SF M)(E:List (Nat×AV))(B:List (List AV))(ls:List Nat)(ms:Nat->LS)(mn:Nat)(Q:Exit->AS->Prop)
  (md pid aQ:Nat)(bh:List Rt)(bO:Rt)(z:List AV)(hB:gm B md M pid aQ bh bO z)(gI:∀rt∈bh,rt=.full\/∃k,rt=.own k 18)
  (eV:∀X,Qh (B++X) 0=Qb q)(hBl:0<B.length)(L:List Sh)(s:Sh)(hs:L[k]?=some s)(AD:fs[i]?=some f)
  (g:Pg)(hg:ij M q.ch s.2.2=some g)(hsz:g.p.cls.length<=1000000/\g.p.sh.length<=1000000000/\g.p.aL.length<=1000000000)(bQ:(s.1=0/\s.2.1=0)\/okI g.p s.1 r f)
  (e2:Abs.look E 2=I r)(e3:Abs.look E 3=.sl .ro (fs.map Qy))(e4:Abs.look E 4=.ptr 0 0)(Mc:Abs.look E 10=.ptr md 0)(Me:Abs.look E 11=I i)(e12:Abs.look E 12=.sl .ro (L.map Zo))(e13:Abs.look E 13=I k)
  (hQ:∀E' C,(∀t,t<14\/(19<t/\t<56)\/119<t->Abs.look E' t=Abs.look E t)->Q .normal ⟨Zf 121 E',⟨B++C,ls,ms,mn⟩⟩):
  vc Tryz.prog az (Qbi q a rta (some M)) Y0 anM ⟨Zf 121 E,⟨B,ls,ms,mn⟩⟩ Q:=by
 have h00:=eV [];rw[zzau]at h00;simp only[Qb]at h00;have aub:=eV;simp only[Qb]at aub;have ah:Qh (L.map Zo) k=Zo s:=Qs (by simp[hs]);have oz:=(zza.1 hs).1;have HU:Qh (fs.map Qy) i=Qy f:=Qs (by simp[AD]);have eS:=(zza.1 AD).1;simp only[Qy]at HU;have k20:=fun x(h:gm x.boxes md M pid aQ bh bO z)=>aa7 x md M pid aQ bh bO z q.ch s.2.2 h gI hV _ (by rw[hg]);simp only[ko,Qo,Qb,zzae,zzai]at k20;have k29:=A7 g.p s.1 hsz.2.2;have FC:dPl (Qb g.p)=g.p:=DL g.p;simp only[Qb]at FC k29;simp[anM];refine Q2 ?_;simp[e4,Mc,e12,e13,h00,hBl,oz,ah,Zo,Qbi,hg,ko,Qo,Qb,aub];refine⟨.inr ⟨k20 _ hB,k20 _ (hB.ext _),k20 _ (hB.ext _)⟩,?_⟩;cases cm:Xh s.1 g.p.aL with
 |none=>
  rw[cm]at k29;simp only[Zh]at k29
  have gP:s.1=0/\s.2.1=0:=by
   obtain h|⟨y,h,_⟩:=bQ
   ·exact h
   rw[cm]at h;cases h
  refine Xu ?_;simp[e4,Mc,e12,e13,oz,ah,Zo,Qbi,FC,cm,Zh];refine⟨k29,?_⟩;simp[gP.1,gP.2,e2,e3,Me,eS,HU,Qbi];refine hQ _ _ fun t ht=>?_;simp only[Kw];repeat rw[if_neg (by omega)]
 |some y=>
  rw[cm]at k29;simp only[Zh,Qm]at k29;have hyi:=(pQ cm).2;have zK:=Qbe g.p s.1 r f 1 hsz.1 hsz.2.1 hsz.2.2;simp only[Qb]at zK;refine Xu ?_;simp[e4,Mc,e12,e13,oz,ah,Zo,Qbi,FC,cm,Zh,Qm];refine⟨k29,?_⟩;by_cases h5:y.ki=5
  ·simp[h5,e2,e3,Me,eS,HU,Qbi];refine hQ _ _ fun t ht=>?_;simp only[Kw];repeat rw[if_neg (by omega)]
  by_cases gP:s.1=0/\s.2.1=0
  ·rw[gP.1]at zK hyi;simp[h5,gP.1,gP.2,hyi,e2,e3,Me,eS,HU,FC,Qbi];refine⟨zK,hQ _ _ fun t ht=>?_⟩;simp only[Kw];repeat rw[if_neg (by omega)]
  have eu:Xo g.p s.1 r f 1=true:=by
   obtain h|⟨y',h,h2⟩:=bQ
   ·exact absurd h gP
   rw[cm]at h;cases h;exact h2.resolve_left h5
  rw[eu]at zK;simp[h5,hyi,eu,e2,e3,Me,eS,HU,FC,Qbi];refine⟨zK,hQ _ _ fun t ht=>?_⟩;simp only[Kw];repeat rw[if_neg (by omega)]
def auc(n:Nat)(B:List (List AV))(f:Nat->AV)(m:AM):Prop:=∃(i:Nat)(C:List (List AV))(ls:List Nat)(ms:Nat->LS)(mn:Nat),f 11=I i/\i<=n/\m=⟨B++C,ls,ms,mn⟩
def aud(n:Nat)(B:List (List AV))(ls:List Nat)(ms:Nat->LS)(mn:Nat)(f:Nat->AV)(m:AM):Prop:=∃(k:Nat)(C:List (List AV)),f 13=I k/\k<=n/\m=⟨B++C,ls,ms,mn⟩
def agS(t:Nat)(ht:Px.contains t=false):t<14\/(19<t/\t<56)\/119<t:=by
 by_cases h:t<120
 ·exact(by decide:∀t,t<120->Px.contains t=false->t<14\/(19<t/\t<56)\/119<t) t h ht
 omega
def law5(p:Pl)(l:List Od)(r:Int)(fs:List Int)(hp:at4 [p])(hl:l.length<=1000000000000)(Tm:∀f∈fs,f<=9223372036854775807)(gh:fs.length<=17592186044416):
  Pure Tryz.prog az 5 [.agg (Qb p),.sl .ro (l.map Qq),I r,.sl .ro (fs.map Qy)] (.bool true):=by
 have k11:=anJ;have k28:=LJ p;have hps:SN [R3 p]:=agM hp;generalize hq:R3 p=q at k28 hps;obtain⟨rta,k15⟩:=z8 l hl;have hna:=aa3 l;obtain⟨OH,axP⟩:=agN l;generalize ha:HP l=a at k15 hna OH axP;refine Qn aoK (Qbi q a rta (yM [q] a)) (by simp) ?_;simp[anN,hd5,Qb,Qbi];simp only[Qb]at k28;refine⟨k11,k28,k15,an.wka (xs':=[.sl .ro ([q].map Qb),.sl .ro (a.map Qq)]) ⟨Wk.sl _ _,Wk.sl _ _,trivial⟩ ?_⟩;refine SP Y0 _ [q] a hps OH (by omega) _ (fun hn ex ls=>?_) (fun M hM ex ls md pid aQ bh bO z Iu hV aH hB aR dM=>?_)
 ·simp[rs5]
 rw[hM];have hm:=hV.mok;have hr:=aR.own hB.hrts;obtain⟨hbe,x,hx,hxl,hx0,hxs⟩:=aa4 hM q (by simp);have axQ:=fun f=>Ms hM hna hx r f;simp only at hB;simp;generalize hBB:([Qb q]++ex:List (List AV))=BB;have hBa:gm BB md M pid aQ bh bO z:=by rw[<- hBB];simpa[Qb]using hB
 have eV:∀C,Qh (BB++C) 0=Qb q:=fun C=>by rw[<- hBB];simp
 have hBl:0<BB.length:=by rw[<- hBB];simp
 refine Qi abM (auc fs.length BB) (fun g _=>fs.length-(numOf (g 11)).toNat) ?_ ?_
 ·exact⟨0,[],_,_,_,by simp,by omega,by rw[<- hBB];simp[Qb];exact⟨rfl,rfl,rfl⟩⟩
 rintro g m ⟨i,C,ls2,ms2,mn2,kY,hi,rfl⟩;rcases zzaa i fs.length with ai|bu
 ·obtain⟨f,AD⟩:=aS ai;have hff:=Tm f (zzad AD);have ah:Qh (fs.map Qy) i=Qy f:=Qs (by simp[AD]);have aa:(i:Int)<(fs.length:Int):=by omega
  have hw:=bJ i (by omega);have hC0:=eV C;simp only[Qb]at hC0;by_cases h40:i<40
  ·have HV:(i:Int)<40:=by omega
   simp[kY,abM,ai,aa,ah,Qy,h40,HV,hC0,hBl,Qbi];have axR:=oq M hm q.ch r f;have hlw:=axQ f;refine j7 Y0 _ md M pid aQ bh bO z q.ch r f (hBa.ext C) hm hr hff _ fun C2 lx ms3 mn3=>?_;generalize Zp M q.ch r f=L at axR hlw |-
   simp;have ri:=(hBa.ext C).ext C2;have ae4:∀X,Qh (((BB++C)++C2)++X) 0=Qb q:=fun X=>by rw[zzaw,zzaw];exact eV _
   have ayw:0<((BB++C)++C2).length:=by simp;omega
   have anO:∀X,((BB++C)++C2)++X=BB++(C++(C2++X)):=fun X=>by simp
   have agT:BB++(C++C2)=(BB++C)++C2:=by simp
   rw[agT];generalize hBX:(BB++C)++C2=BX at*
   refine Qi Px (aud L.length BX (ls2++lx) ms3 mn3) (fun g _=>L.length-(numOf (g 13)).toNat) ?_ ?_
   ·exact⟨0,[],by simp,by omega,by simp⟩
   rintro g2 m ⟨k,D,rq,hk,rfl⟩;rcases zzaa k L.length with klt|kge
   ·obtain⟨s,hs⟩:=aS klt;have axS:(k:Int)<(L.length:Int):=by omega
    have Q3:=bJ k (by omega);have gP:=hlw s (zzad hs)
    obtain⟨g,v0,hgx,bQ⟩:∃g,0<=s.2.2/\x[s.2.2.toNat]?=some g/\((s.1=0/\s.2.1=0)\/okI g.p s.1 r f):=by
     obtain rfl|⟨g,h1,h2,h3,h4⟩:=gP
     ·exact⟨Js q,by simp[sh0],hx0,.inl ⟨rfl,rfl⟩⟩
     exact⟨g,h1,h3,.inr h4⟩
    have hpg:ij M q.ch s.2.2=some g:=by
     unfold ij;rw[hx,zzcg,if_neg (by omega),hgx]
    have hpr:=hV.pr x (lJ hx) _ g hgx;have hvl:=(zza.1 hgx).1;simp[rq,Px,axS];refine agR q a rta r f fs i k M hV _ (BX++D) _ _ _ _ md pid aQ bh bO z (ri.ext D) hr (fun X=>by rw[zzaw];exact ae4 _) (by simp;omega) L s hs AD g hpg ⟨by have:=hpr.cls;omega,by have:=hpr.sh;omega,by have:=hpr.aL;omega⟩ bQ (by simp) (by simp) (by simp) (by simp) (by simp) (by simp) (by simp) ?_;intro E' D2 hE';have e13:=hE' 13 (.inl (by omega));simp at e13;simp[e13,rq,Px];refine⟨ag ?_,⟨k+1,D++D2,by simp[Q3],by omega,by simp⟩,by omega⟩;refine Qa _ rfl (Qa _ rfl (Qa _ rfl fun t ht=>?_));rw[hE' t (agS t ht)];exact(show fc _ _ _ by repeat(first|exact Qc _ _|refine Qa _ rfl ?_)) t ht
   obtain rfl:k=L.length:=by omega
   simp[rq,kY,Px,hw];refine⟨aO,⟨i+1,C++(C2++D),_,_,_,by simp[hw],by omega,by rw[<- anO]⟩,by omega⟩
  have HV:¬(i:Int)<40:=by omega
  simp[kY,abM,aa,HV,rs5]
 have bI:¬(i:Int)<(fs.length:Int):=by omega
 simp[kY,abM,bI,rs5]
end
end Go.Proofs.YtnopaopphmjnmaaGreatDoor
