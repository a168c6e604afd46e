import Derived.Test.YtnopaopphmjnmaaGreatDoorMQMfC
set_option linter.all false
set_option maxRecDepth 100000
set_option maxHeartbeats 64000000
namespace Go.Proofs.YtnopaopphmjnmaaGreatDoor
open Go Go.Abs
def TC(M:Md)(dn:List Od)(p:Pl):Prop:=
 ∃x:List Pg,Yx M p.ch=some x/\x.length=dn.length+1/\x[0]?=some (uD p)/\∀(v:Nat)(o:Od)(g:Pg),dn[v]?=some o->x[v]?=some g->x[v+1]?=some (Xw (cr g) o)
def aoC{M M':Md}{o:Od}{dn:List Od}{p:Pl}(h:zF M o=some M')(hn:M.os.length=dn.length)(hc:TC M dn p):TC M' (dn++[o]) p/\M'.os.length=(dn++[o]).length:=by
 unfold zF at h;split at h
 ·cases h
 cases h;obtain⟨x,h1,h2,h3,h4⟩:=hc;have hl:dn.length<x.length:=zE
 obtain⟨g,hg⟩:∃g,x[dn.length]?=some g:=⟨_,zzae hl⟩;refine⟨⟨x++[Xw (cr g) o],?_,by simp[h2],by rw[zzag zE];exact h3,fun v o' g' ho hg'=>?_⟩,by simp[hn]⟩
 ·unfold Yx at h1 |-
  simp only;cases ha:af p.ch M.pl with
  |none=>rw[ha]at h1;cases h1
  |some i=>
   rw[ha]at h1;simp only[zzbz]at h1 |-
   rw[zzbi,h1];simp[Vv,hn,hg]
 rcases zzaa v dn.length with hv|hv
 ·rw[zzag hv]at ho;rw[zzag zE]at hg' |-
  exact h4 v o' g' ho hg'
 have uJ:v=dn.length:=by
  have:=(zza.1 ho).1;simp at this;omega
 subst uJ;rw[zzag hl,hg]at hg';cases hg';rw[zzal (zzab _),zzdi]at ho;cases ho;rw[zzal zE,h2,zzdi];rfl
def P7:∀{l dn:List Od}{M M':Md}{p:Pl},Tx M l=some M'->M.os.length=dn.length->TC M dn p->TC M' (dn++l) p
 |[],dn,M,M',p,h,hn,hc=>by cases h;simpa using hc
 |o::r,dn,M,M',p,h,hn,hc=>by
  rw[Tx]at h;cases ho:zF M o with
  |none=>rw[ho]at h;cases h
  |some M2=>
   rw[ho]at h;obtain⟨h1,h2⟩:=aoC ho hn hc;have:=P7 h h2 h1;rwa [zzb,zzdo]at this
def P8:∀{ps:List Pl}{i:Nat}{M M':Md},mq i ps M=some M'->M.ps.length=i->(∀c j,af c M.pl=some j->0<=j/\j.toNat<i)->
  (∀p∈ps,zD p=0/\TC M' [] p)/\M'.os=M.os/\∀c x,Yx M c=some x->Yx M' c=some x
 |[],i,M,M',h,hi,hp=>by cases h;exact⟨(fun p hp=>by cases hp),rfl,fun c x hx=>hx⟩
 |p::r,i,M,M',h,hi,hp=>by
  rw[mq]at h;split at h
  ·cases h
  rename_i hn;rw[not_or]at hn;have hb:zD p=0:=zE
  have qT:af p.ch M.pl=none:=by
   cases hc:af p.ch M.pl with
   |none=>rfl
   |some j=>rw[hc]at hn;simp at hn
  have hq:∀c j,af c (Zr p.ch (i:Int) M.pl)=some j->0<=j/\j.toNat<i+1:=fun c j hc=>by
   rw[Yf]at hc;split at hc
   ·cases hc;omega
   have:=hp c j hc;omega
  obtain⟨h1,h2,h3⟩:=P8 h (by simp[hi]) hq
  have hme:Yx {M with pl:=Zr p.ch (i:Int) M.pl,ps:=M.ps++[[uD p]]} p.ch=some [uD p]:=by
   unfold Yx;simp only;rw[Yf,if_pos rfl,zzbz,zzes,zzal zE,hi,zzdi];rfl
  refine⟨fun q Rl=>?_,h2,fun c x hx=>?_⟩
  ·rcases zzat.1 Rl with rfl|Rl
   ·exact⟨hb,[uD q],h3 _ _ hme,rfl,rfl,fun v o g ho _=>by simp at ho⟩
   exact h1 q Rl
  refine h3 c x ?_;unfold Yx at hx |-
  simp only;rw[Yf];by_cases hc:c=p.ch
  ·rw[hc,qT]at hx;cases hx
  rw[if_neg hc];cases ha:af c M.pl with
  |none=>rw[ha]at hx;cases hx
  |some j=>
   rw[ha]at hx;simp only[zzbz]at hx |-
   rw[zzag (zza.1 hx).1];exact hx
def M5{ps:List Pl}{l:List Od}{M:Md}(h:qu ps l=some M):∀p∈ps,zD p=0/\TC M l p:=by
 unfold qu at h;cases hn:mw ps with
 |none=>rw[hn]at h;cases h
 |some M0=>
  rw[hn]at h;unfold mw at hn;split at hn
  ·cases hn
  obtain⟨h1,h2,_⟩:=P8 hn rfl (fun c j hc=>by cases hc);exact fun p hp=>⟨(h1 p hp).1,by simpa using P7 h (by rw[h2];rfl) (h1 p hp).2⟩
open Go Go.Abs
def IK(b:Nat->Bool)(n:Nat)(hn:n<=8)(r:Int):Tl (Un b n) r=(decide (r.toNat<n)&&b r.toNat):=by
 have ai:=va b n;have hp:(2:Nat) ^ n<=2 ^ 8:=zzfa zE hn
 have key:∀k:Nat,((oe b n:Nat):Int).fdiv (2 ^ k)%2=((oe b n/2 ^ k%2:Nat):Int):=fun k=>by
  rw[zzgm _ (by have:=Int.pow_pos (n:=(2:Int)) (m:=k) zE;omega)]
  push_cast
  rfl
 unfold Tl;rw[DX,key,<- yy b r.toNat n,zzdm];by_cases h:r.toNat<=64
 ·rw[zzfw h];refine decide_eq_decide.2 ?_;omega
 rw[zzgw zE];have z1:oe b n/2 ^ 64=0:=zzey zE
 have z2:oe b n/2 ^ r.toNat=0:=zzey (by
  have:(2:Nat) ^ 8<=2 ^ r.toNat:=zzfa zE zE;omega)
 rw[z1,z2];rfl
def TD{q:Pl}{id r f n:Int}(h:Xt q id r f n=true):∃y,Xh id q.aN=some y:=by
 obtain⟨⟨h1,_⟩,h2⟩:=(Qes q id r f n).1 h;obtain⟨y,hy,_⟩:=h2 f (zzbq _) zE;exact⟨y,hy⟩
def okI(q:Pl)(id r x:Int):Prop:=∃y,Xh id q.aN=some y/\(y.ki=5\/Xt q id r x 1=true)
def okI.of{q:Pl}{id r f n x:Int}(h:Xt q id r f n=true)(h1:f<=x)(h2:x<f+n):okI q id r x:=by
 obtain⟨y,hy⟩:=TD h;exact⟨y,hy,.inr (M6 h h1 zE zE)⟩
def EvG(q:Pl)(e:bE)(x:Int):Prop:=(∀r,0<=r->Tl e.re r=true->okI q e.it r x)/\∀a∈e.al,okI q a.2 a.1 x
def ale(g:Pg)(F:Int):Prop:=∀e∈g.ev,∀x,F<=x->e.st<=x->x<e.st+e.fr->EvG g.p e x
def y7(f:Int):∀(L:List bE),∀e∈Ye f L,e.st+e.fr<=f
 |[],e,he=>by cases he
 |a::r,e,he=>by
  rw[Ye]at he;split at he
  ·exact y7 f r e he
  rcases zzat.1 he with rfl|he
  ·simp only[HS];split<;>omega
  exact y7 f r e he
def abI{q:Pl}(hv:oa q=true)(a:Int×Int)(x:Int):EvG q (Vg q a) x:=by
 obtain⟨y,hy,hk,_⟩:=(rV hv).fill;exact⟨fun r _ _=>⟨y,hy,.inl hk⟩,fun a ha=>by cases ha⟩
def ava{q:Pl}(e:En)(fr x:Int)(h1:fr<=x)(h2:x<fr+e.fr):EvG q (z8 q e fr) x:=by
 refine⟨fun r hr hb=>?_,fun a ha=>?_⟩
 ·simp only[z8,evM]at hb;rw[IK _ _ zE]at hb;simp only[zzak]at hb;have hb:=hb.2;rw[zzgg hr]at hb;exact okI.of hb h1 h2
 have:=(zzcg.1 ha).2;simp only[nW,zzak]at this;exact okI.of this.2 h1 h2
def M7{q:Pl}(hv:oa q=true):∀(l:List Sp)(a:Int),∀e∈uY q l a,∀x,e.st<=x->x<e.st+e.fr->EvG q e x
 |[],a,e,h,x,h1,h2=>by
  rw[uY,zzax]at h;obtain⟨y,_,rfl⟩:=h;exact abI hv y x
 |s::r,a,e,h,x,h1,h2=>by
  rw[uY]at h;cases hs:mU q s a with
  |none=>rw[hs]at h;exact M7 hv r a e h x h1 h2
  |some y=>
   rw[hs]at h;simp only[zzb,zzam,zzax,zzbd]at h;obtain⟨z,_,rfl⟩|rfl|h:=h
   ·exact abI hv z x
   ·exact ava y s.2 x h1 h2
   exact M7 hv r _ e h x h1 h2
def aoD{q:Pl}(hv:oa q=true)(l:List Sp)(a:Int):∀e∈DC q l a,∀x,e.st<=x->x<e.st+e.fr->EvG q e x:=by
 unfold DC;split
 ·intro e he;cases he
 exact M7 hv l a
def avb{g:Pg}{f:Int}{b:List (Int×Bool)}{o:Od}{q:Pl}{d:Int}{e:bE}(hv:oa q=true)(he:mj g f b o q d=some e)(x:Int)(h1:e.st<=x)(h2:x<e.st+e.fr):EvG q e x:=by
 unfold mj at he;split at he
 ·cases he
 split at he
 ·cases he
 split at he
 ·cases he
 cases he;refine⟨fun r hr hb=>?_,fun a ha=>?_⟩
 ·have EL:=(rV hv).rg;simp only[qp]at hb;rw[IK _ _ zE]at hb;simp only[zzak]at hb;have hb:=hb.2;rw[zzgg hr]at hb;exact okI.of hb h1 h2
 have:=(zzcg.1 ha).2;exact okI.of this h1 h2
def ahn{g:Pg}{o:Od}{b:List (Int×Bool)}{q:Pl}{d F:Int}(hv:oa q=true)(hF:o.fr<=F):ale (kK g o b q d) F:=by
 intro e he x h0 h1 h2;simp only[kK,Jw,zzb,zzam,zzax]at he;obtain⟨y,hy,rfl⟩|he|he:=he
 ·have h1:y.st<=x:=h1;have h2:x<y.st+y.fr:=h2;have:=y7 _ _ y hy;omega
 ·exact avb hv (by simpa using he) x h1 h2
 exact aoD hv _ _ e he x h1 h2
open Go Go.Abs
def IL(id:Int):Cl:=⟨2,id,0,10000000000,255,0,0,0⟩
def aoE:∀k:Nat,k<8->∀id:Int,abJ (IL id) (k:Int)=true:=by
 intro k hk id;show abJ ⟨2,id,0,10000000000,255,0,0,0⟩ (k:Int)=true;rcases(by omega:k=0\/k=1\/k=2\/k=3\/k=4\/k=5\/k=6\/k=7)with rfl|rfl|rfl|rfl|rfl|rfl|rfl|rfl<;>rfl
def aoF{id r:Int}(aK:1<=id/\id<=12)(hr:0<=r/\r<8):uh id r (IL id)=true:=by
 obtain⟨k,rfl⟩:∃k:Nat,r=k:=⟨r.toNat,zE⟩;have hb:=aoE k zE id
 have h1:Xj (IL id)=true:=by
  simp[Xj,Km,Yv,Ve,wi,IL];exact decide_eq_true (show 1<=(IL id).it/\(IL id).it<=4611686018427387903 by simp only[IL];omega)
 have h2:wi (k:Int) 0 7=true:=by simp only[wi,decide_eq_true_eq];omega
 unfold uh RT;rw[h1,h2,hb];simp[IL]
def aho{id r:Int}{c:Cl}(h:uh id r c=true):0<=c.fr/\c.to<=10000000000:=by
 simp only[uh,zzak,decide_eq_true_eq,Xj]at h;obtain⟨h1,_,_,h2⟩:=h;unfold Yv at h2;rw[if_pos h1]at h2;simp only[zzak,decide_eq_true_eq]at h2;omega
def avc{cs:List Cl}{id r:Int}(aK:1<=id/\id<=12)(hr:0<=r/\r<8)(X:Int):grX (Jr (cs++[IL id]) id r) X=false:=by
 have e:Jr (cs++[IL id]) id r=Jr cs id r++[IL id]:=by
  unfold Jr;rw[zzct,zzdg (aoF aK hr)];rfl
 unfold grX;rw[e,List.reverse_append,List.reverse_singleton,zzdo,zzeo];cases hc:Es X (IL id)with
 |true=>rfl
 |false=>
  have hn:(Jr cs id r).reverse.find? (Es X)=none:=by
   rw[List.find?_eq_none];intro c zJ;obtain⟨c1,c2⟩:=aho (zzcg.1 (zzf.1 zJ)).2;have oW:¬((0:Int)<=X/\X<10000000000):=of_decide_eq_false hc;simp only[Es,decide_eq_true_eq];omega
  rw[hn]
def abK{p:Pl}{cs:List Cl}{id r x:Int}(hq:p.cls=cs++[IL id])(aK:1<=id/\id<=12)(hy:∀y,Xh id p.aN=some y->y.ki≠5):¬okI p id r x:=by
 rintro⟨y,h1,h2⟩;obtain h2|h2:=h2
 ·exact hy y h1 h2
 obtain⟨_,h3⟩:=(Qes p id r x 1).1 h2;obtain⟨it,i1,i2,i3,i4⟩:=h3 x (zzbq _) zE;obtain i4|⟨_,i4,_⟩:=i4
 ·exact hy it i1 i4
 rw[(p7 i1).2,hq,avc aK i2]at i4;cases i4
def IM{p:Pl}{l:List Od}{M M':Md}{o:Od}{id:Int}(hM:qu [p] l=some M)(ho:zF M o=some M')(fP:o.ki=4)(oF:o.cl=IL id)(aK:1<=id/\id<=12)(iS:∀a∈l,a.fr<=o.fr)
  {x:List Pg}{g:Pg}(hx:Yx M p.ch=some x)(hg:x[l.length]?=some g)(hc:Kv (cr g) o=true)(fQ:(yR (cr g) o.fr (Vb o.fr (cr g).ev []) o).isSome=true)(hy:∀y,Xh id g.p.aN=some y->y.ki≠5)
  (r f:Int)(hf:o.fr+8<=f):∀s∈Zi M' p.ch r f,s.1≠id:=by
 obtain⟨hb,MR,_⟩:=BX hM;obtain⟨_,x',iD,hxl,_,_⟩:=M5 hM p zd;rw[hx]at iD;cases iD;unfold zF at ho;split at ho
 ·cases ho
 cases ho;obtain⟨⟨q,d⟩,hqd⟩:=zzci.1 fQ;obtain⟨c1,c2,c3,c4⟩:=kM hqd
 have hq:q=Ak (cr g) o:=by
  unfold Wq at c2;rw[if_neg zE,if_neg zE,if_neg zE]at c2;cases c2;rfl
 have hap:Xw (cr g) o=kK (cr g) o (Vb o.fr (cr g).ev []) q d:=by
  unfold Xw;rw[if_neg (by rw[hc];decide),if_neg zE,hqd]
 have hP:ale (Xw (cr g) o) o.fr:=by rw[hap];exact ahn c3 (zzbq _)
 have avd:(Xw (cr g) o).p.cls=g.p.cls++[IL id]:=by rw[hap,hq,<- oF];rfl
 have GZ:(Xw (cr g) o).p.aN=g.p.aN:=by rw[hap,hq];rfl
 have jI:Yx {M with ps:=M.ps.map (Vv o M.os.length),os:=M.os++[(o.sq,o.fr)]} p.ch=some (x++[Xw (cr g) o]):=by
  unfold Yx at hx |-
  simp only;cases ha:af p.ch M.pl with
  |none=>rw[ha]at hx;cases hx
  |some i=>
   rw[ha]at hx;simp only[zzbz]at hx |-
   rw[zzbi,hx];simp[Vv,MR,hg]
 have bF:∀y∈M.os++[(o.sq,o.fr)],y.2<=o.fr:=by
  intro y hy;rw[MR]at hy;rcases zzam.1 hy with hy|hy
  ·obtain⟨z,hz,rfl⟩:=zzax.1 hy;exact iS z hz
  rw[zzbd]at hy;subst hy;exact zzbq _
 have JJ:uE f (M.os++[(o.sq,o.fr)])=((l.length+1:Nat):Int):=by
  unfold uE;rw[zzel.2 (fun y hy=>by have:=bF y hy;simp;omega),MR];simp
 have hhi:Wo f (M.os++[(o.sq,o.fr)])=((l.length+1:Nat):Int):=by
  unfold Wo;rw[zzel.2 (fun y hy=>by have:=bF y hy;simp;omega),MR];simp
 intro s hs;unfold Zi at hs;rw[jI]at hs;cases x with
 |nil=>simp at hxl
 |cons g0 t=>
  simp only[zzad]at hs;split at hs
  ·cases hs
  rename_i hr;rcases zzat.1 hs with rfl|hs
  ·simp only[sh0];omega
  rw[JJ,hhi,Yg,if_pos (zzbq _),Yg,if_neg zE]at hs;simp only[zzdb,zzdn,zzau]at hs;unfold iO at hs;rw[zzes,<- zzad,zzal zE,hxl,zzdi]at hs;simp only[zzhb]at hs;cases he:zy f (Xw (cr g) o).ev with
  |none=>rw[he]at hs;cases hs
  |some e=>
   rw[he]at hs;simp only at hs;obtain⟨e1,e2,e3⟩:=vm he;obtain⟨p1,p2⟩:=hP e e1 f zE e2 e3;unfold Io at hs;rcases zzam.1 hs with hs|hs
   ·split at hs
    ·rename_i ay6;rw[zzbd]at hs;subst hs;intro dW;simp only at dW;have:=p1 r zE ay6;rw[dW]at this;exact abK avd aK (by rw[GZ];exact hy) this
    cases hs
   unfold Ap at hs;obtain⟨a,ha,rfl⟩:=zzax.1 hs;intro dW;simp only at dW;have:=p2 a (zzcg.1 ha).1;rw[dW]at this;exact abK avd aK (by rw[GZ];exact hy) this
open Go Go.Abs
def IN(g:Pg)(o:Od):Bool:=Kv g o&&(if o.ki=5 then(Ia o.cu g.cu).isSome else(yR g o.fr (Vb o.fr g.ev []) o).isSome)
open Go Go.Abs
def TE(g:Pg)(fr:Int)(mb:List (List AV)):List (List AV):=mb++(Qm g::Qr g fr (mb.length+2)::[.aL 0 (bH .bool (Vb fr g.ev []))]::Qr g fr (mb.length+2)::g.ev.map Qe)
def aoG(g:Pg)(fr:Int)(mb:List (List AV))(ml:List Nat)(ms:Nat->LS)(mn:Nat)(f:Nat->AV)(m:AM):Prop:=
 ∃(i:Nat)(b:List (Int×Bool)),f 16=I i/\i<=g.ev.length/\Vb fr (g.ev.drop i) b=Vb fr g.ev []/\b.length<=i/\
  m=⟨mb++(Qm g::EN::[.aL 0 (bH .bool b)]::Qr g fr (mb.length+2)::(g.ev.take i).map Qe),ml,ms,mn⟩
def TF(Y:YT)(m:AM)(g:Pg)(fr:Int)(hl:g.ev.length<=1000000):
  an Tryz.prog aA Y 70 [.agg (Qm g),I fr] m (fun r m'=>r=.agg (Qr g fr (m.boxes.length+2))/\m'={m with boxes:=TE g fr m.boxes}):=by
 obtain⟨mb,ml,ms,mn⟩:=m;refine Xd UX (fun _ _ _=>.junk) zd ?_;simp[amc,Qm,Qa];refine Qk mB (aoG g fr mb ml ms mn) (fun f _=>g.ev.length-(numOf (f 16)).toNat) ?_ ?_
 ·exact⟨0,[],zd,zE,zd,zd,by simp[Qm,Qa,Qr,EN]⟩
 rintro f m ⟨i,b,Bo,hi,hb,iP,rfl⟩;rcases zzaa i g.ev.length with ai|bz
 ·obtain⟨e,he⟩:=aU ai;have ah:Qh (g.ev.map Qe) i=Qe e:=Qt (by simp[he]);have aa:(i:Int)<(g.ev.length:Int):=zE
  have hw:=bM i zE;have hd:g.ev.drop i=e::g.ev.drop (i+1):=by rw[zzaf ai,(zza.1 he).2]
  have bC:(g.ev.take (i+1)).map Qe=(g.ev.take i).map Qe++[Qe e]:=by rw[zzas,he];simp
  generalize(g.ev.take i).map Qe=bx at bC |-
  rw[hd,Vb]at hb;by_cases hs:e.st<fr
  ·rw[if_pos hs]at hb;have eD:=r6 e.id true b;rcases Xq AV.bool e.id b 0 with⟨b1,b2,b3,b4⟩|⟨u,n,b1,b2,b3,b4,b5,b6⟩
   ·simp[Bo,mB,aa,ah,hw,Qe,Qm,Qa,Qr,EN,hs,b2];refine⟨aP,⟨i+1,Zr e.id true b,zd,zE,hb,zE,by rw[bC];simp[Qm,Qa,Qr,EN,Qe,b4]⟩,zE⟩
   simp[Bo,mB,aa,ah,hw,Qe,Qm,Qa,Qr,EN,hs,b2];refine⟨aP,⟨i+1,Zr e.id true b,zd,zE,hb,zE,by rw[bC];simp[Qm,Qa,Qr,EN,Qe,b6]⟩,zE⟩
  rw[if_neg hs]at hb;simp[Bo,mB,aa,ah,hw,Qe,Qm,Qa,Qr,EN,hs];refine⟨aP,⟨i+1,b,zd,zE,hb,zE,by rw[bC];simp[Qm,Qa,Qr,EN,Qe]⟩,zE⟩
 obtain rfl:i=g.ev.length:=zE
 rw[zzbn,Vb]at hb;subst hb;simp[Bo,mB,amd,Qm,Qa,Qr,EN,TE]
def aoH(g:Pg)(fr:Int)(mb:List (List AV))(h:∀c∈mb,fe c):(∀c∈TE g fr mb,fe c)/\gz (TE g fr mb) (mb.length+2) (Vb fr g.ev []):=by
 refine⟨fun c hc=>?_,⟨by simp[TE],by simp[TE]⟩⟩;simp only[TE,zzam,zzat,zzax]at hc;obtain hc|rfl|rfl|rfl|rfl|⟨e,_,rfl⟩:=hc
 ·exact h c hc
 ·exact fe.of (by simp[Qm,Qa]) (aaW g)
 ·exact fe.mo g fr _
 ·exact fe.map _
 ·exact fe.mo g fr _
 exact fe.of (by simp[Qe]) (D9 e)
def ahp(g:Pg)(fr:Int)(o:Od)(mb:List (List AV))(ml:List Nat)(ms:Nat->LS)(mn:Nat)(h:aaV g fr o)(fI:∀c∈mb,fe c)(v:AV)(hv:Am (yR g fr (Vb fr g.ev []) o)=v):
  an Tryz.prog aA Y0 71 [.agg (Qr g fr (mb.length+2)),.agg (Qp o)] ⟨TE g fr mb,ml,ms,mn⟩ (fun r m'=>r=v/\m'=⟨TE g fr mb,ml,ms,mn⟩):=by
 obtain⟨h1,h2⟩:=aoH g fr mb fI;exact an.mono (PC Y0 ⟨TE g fr mb,ml,ms,mn⟩ g fr (mb.length+2) _ o h h2 h1) (by rintro r m' ⟨rfl,rfl⟩;exact⟨hv,rfl⟩)
def TG(g:Pg)(o:Od)(h:ML g o):Pure Tryz.prog aA 35 [.agg (Qm g),.agg (Qp o)] (.bool (IN g o)):=by
 obtain⟨hpg,eD,hve,sD,fQ,uj⟩:=h;have Eb:=tw g o eD;have sV:=BP g.cu o.cu sD;rw[Ib]at sV;unfold IN;simp only[Qm,Qa,Qp,Qd,Qg,Qi,zzad,zzah]at Eb sV;cases hc:Kv g o with
 |false=>
  rw[hc]at Eb;refine Qo vp (fun _ f l=>if f=68 then .bool false else .gd false .junk) zd ?_;simp[QW,QX,Qm,Qa,Qp,Qd,Qg,Qi];exact Eb
 |true=>
  rw[hc]at Eb;by_cases h5:o.ki=5
  ·rw[if_pos h5];rw[h5]at Eb;cases he:Ia o.cu g.cu with
   |none=>
    rw[he]at sV;refine Qo vp (fun _ f l=>if f=68 then .bool true else if f=69 then .aZ [.sl .nil [],I 150]else .gd false .junk) zd ?_;simp[QW,QX,Qm,Qa,Qp,Qd,Qg,Qi,h5];exact⟨Eb,sV⟩
   |some x=>
    rw[he]at sV;refine Qo vp (fun _ f l=>if f=68 then .bool true else if f=69 then .aZ [.sl (uC x) (x.map Qi),I 0]else .gd false .junk) zd ?_;simp[QW,QX,Qm,Qa,Qp,Qd,Qg,Qi,h5];exact⟨Eb,sV⟩
  rw[if_neg h5];have fQ:=fQ hc h5;have bT:g.ev.length<=1000000:=by have:=hpg.2.1;omega
  have fI:∀c∈[Qm g,Qp o],fe c:=by
   intro c hc;simp only[zzat,zzdy,or_false]at hc;obtain rfl|rfl:=hc
   ·exact fe.of (by simp[Qm,Qa]) (aaW g)
   exact fe.of (by simp[Qp]) rfl
  have kl:=TF Y0 ⟨[Qm g,Qp o],[],fun _=>.gone,0⟩ g o.fr bT;have kc:=ahp g o.fr o [Qm g,Qp o] [] (fun _=>.gone) 0 fQ fI;simp only[zzbe,zzcf]at kl kc;generalize hM:TE g o.fr [Qm g,Qp o]=M at kl kc;have hM1:∀x,Qh (M++x) 1=Qp o:=fun x=>by rw[<- hM];simp[TE]
  have aoI:Qh M 1=Qp o:=by rw[<- hM];simp[TE]
  simp only[Qp,Qd,Qg,Qi,zzad,zzah]at hM1 aoI;cases hx:yR g o.fr (Vb o.fr g.ev []) o with
  |none=>
   have kc:=kc _ (by rw[hx]);simp only[Qm,Qa,Qp,Qd,Qg,Qi,Qr,zzad,zzah]at kl kc;refine Qo vp (fun _ f l=>if f=68 then .bool true else .gd false .junk) zd ?_;simp[QW,QX,Qm,Qa,Qp,Qd,Qg,Qi,h5];refine⟨Eb,Gh zd [(.agg (Qr g o.fr 4),⟨M,[],fun _=>.gone,0⟩),(Am none,⟨M,[],fun _=>.gone,0⟩),(.ptr M.length 0,⟨M++[[I 0,I 0,I 0,I 0,.sl .nil [],I 0,I 0,I 0,I 0,.sl .nil [],.sl .nil [],.sl .nil [],.sl .nil [],I 0]],[],fun _=>.gone,0⟩),(.junk,⟨M++[S6],[],fun _=>.gone,0⟩)] ?_⟩;simp[Qr,Qm,Qa,Am,S6,hM1,aoI,Qp,Qd,Qg,Qi];exact⟨kl,kc⟩
  |some r=>
   obtain⟨q,d⟩:=r;have kc:=kc _ (by rw[hx]);simp only[Qm,Qa,Qp,Qd,Qg,Qi,Qr,zzad,zzah]at kl kc;refine Qo vp (fun _ f l=>if f=68 then .bool true else .gd false .junk) zd ?_;simp[QW,QX,Qm,Qa,Qp,Qd,Qg,Qi,h5];refine⟨Eb,Gh zd [(.agg (Qr g o.fr 4),⟨M,[],fun _=>.gone,0⟩),(Am (some (q,d)),⟨M,[],fun _=>.gone,0⟩),(.ptr M.length 0,⟨M++[[I 0,I 0,I 0,I 0,.sl .nil [],I 0,I 0,I 0,I 0,.sl .nil [],.sl .nil [],.sl .nil [],.sl .nil [],I 0]],[],fun _=>.gone,0⟩),(.junk,⟨M++[Qa q++[I d]],[],fun _=>.gone,0⟩)] ?_⟩;simp[Qr,Qm,Qa,Am,S6,hM1,aoI,Qp,Qd,Qg,Qi];simp only[Am,Qa,zzad,zzah]at kc;exact⟨kl,kc⟩
