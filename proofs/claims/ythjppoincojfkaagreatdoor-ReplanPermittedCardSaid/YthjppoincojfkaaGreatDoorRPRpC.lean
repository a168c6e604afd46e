import Derived.Test.YthjppoincojfkaaGreatDoorRPRqB
set_option linter.all false
namespace Go.Proofs.YthjppoincojfkaaGreatDoor
open Go Go.Abs
def yJ{q:Pl}{id r f n x:Int}(h:Xd q id r f n=true)(h1:f<=x)(h2:x<f+n):KZ q id r x:=((Jt q id r f n).1 h).2 x h1 h2
def ann(q:Pl)(e:bC):Prop:=∀a∈e.al,∀x,e.st<=x->x<e.st+e.fr->KZ q a.2 a.1 x
def LX{q:Pl}:∀(l:List Sp)(a:Int),∀e∈Jd q l a,ann q e
 |[],a,e,h=>by
  rw[Jd,zzar]at h;obtain⟨y,_,rfl⟩:=h;intro a ha;cases ha
 |s::r,a,e,h=>by
  rw[Jd]at h;cases hs:QE q s a with
  |none=>rw[hs]at h;exact LX r a e h
  |some y=>
   rw[hs]at h;simp only[zzav,zzam,zzar,zzca]at h;obtain⟨z,_,rfl⟩|rfl|h:=h
   ·intro a ha;cases ha
   ·intro a ha x h1 h2;have:=(zzbw.1 ha).2;simp only[lQ,zzac]at this;exact yJ this.2 h1 h2
   exact LX r _ e h
def aaw{q:Pl}(l:List Sp)(a:Int):∀e∈Kw q l a,ann q e:=by
 unfold Kw;split
 ·intro e he;cases he
 exact LX l a
def atU{g:Pg}{f:Int}{b:QR}{o:Od}{q:Pl}{d:Int}{e:bC}(he:uV g f b o q d=some e):ann q e:=by
 unfold uV at he;split at he
 ·cases he
 split at he
 ·cases he
 split at he
 ·cases he
 cases he;intro a ha x h1 h2;exact yJ (zzbw.1 ha).2 h1 h2
def atV(g:Pg)(F:Int):Prop:=∀e∈g.ev,∀x,F<=x->e.st<=x->x<e.st+e.fr->HD g.p e.it 0 x
def ays(g:Pg)(F:Int):Prop:=∀e∈g.ev,∀a∈e.al,∀x,F<=x->e.st<=x->x<e.st+e.fr->KZ g.p a.2 a.1 x
structure DR (g:Pg) (F:Int):Prop where
 it:zX g
 re:BB g F
 ne:atV g F
 al:ays g F
def OK{id:Int}:∀{l:List En}{e:En},e∈l->e.id=id->∃z,Xb id l=some z
 |y::r,e,h,hi=>by
  rw[Xb];by_cases hy:y.id=id
  ·exact⟨y,by rw[if_pos hy]⟩
  rw[if_neg hy];rcases zzap.1 h with rfl|h
  ·exact(hy hi).elim
  exact OK h hi
def afX{p:Pl}{X:List En}{id r x:Int}:HD {p with ens:=X} id r x<->HD p id r x:=Iff.rfl
def aax{g:Pg}{f:Int}{b:QR}{o:Od}{q:Pl}{d:Int}(h:Je g f b o=some (q,d))(h4:o.ki=1\/o.ki=2\/o.ki=3):∃X,q={g.p with ens:=X}:=by
 unfold Je at h;by_cases h1:o.ki=1
 ·rw[if_pos h1]at h;unfold lU at h;split at h
  ·cases h
  split at h
  ·cases h
  cases h;exact⟨_,rfl⟩
 rw[if_neg h1]at h;by_cases h2:o.ki=2
 ·rw[if_pos h2]at h;unfold rE at h;split at h
  ·cases h
  cases h;exact⟨_,rfl⟩
 rw[if_neg h2,if_pos zE]at h;cases h;exact⟨_,rfl⟩
def ano{g:Pg}{f:Int}{b:QR}{o:Od}{q:Pl}{d:Int}(h:Je g f b o=some (q,d))(h1:o.ki=1):∃z,Xb o.en q.ens=some z:=by
 unfold Je at h;rw[if_pos h1]at h;unfold lU at h;cases he:g.p.ens[(Yi g o.en).toNat]? with
 |none=>rw[he]at h;cases h
 |some e=>
  rw[he]at h;simp only at h;split at h
  ·cases h
  rename_i hp;simp only[Option.some.injEq,Prod.mk.injEq]at h;have sg:=aak g o.en;have hs:(Xb o.en g.p.ens).isNone=false:=by rw[<- sg];exact decide_eq_false hp
  obtain⟨y,hy⟩:∃y,Xb o.en g.p.ens=some y:=by
   cases hf:Xb o.en g.p.ens with
   |none=>rw[hf]at hs;cases hs
   |some y=>exact⟨y,rfl⟩
  obtain⟨k,k1,k2,k3⟩:=Bx hy;have hk:Yi g o.en=k:=k1;rw[hk,zzgl]at he h;rw[k2]at he;cases he;rw[<- h.1];exact OK (l:=g.p.ens.set k (Du g f b o e)) (e:=Du g f b o e) (zzad (i:=k) (by rw[zzbg (zza.1 k2).1])) k3
def afY{k:Nat}{g:Pg}{f F0:Int}{b:QR}{o:Od}{q:Pl}{d:Int}{e:bC}(hE:zX g)(hN:atV g F0)(p8:F0<=f)(eO:1<=o.ki/\o.ki<=4)(hc:Jc g f b o=some (q,d))(he:uV g f b o q d=some e):afZ q e:=by
 obtain⟨c1,c2,c3,c4⟩:=Qbz hc;unfold uV at he;cases hp:Yz g f b with
 |none=>rw[hp]at he;cases he
 |some x=>
  rw[hp]at he;simp only at he;cases hF:Br g f o q d x with
  |none=>rw[hF]at he;cases he
  |some F=>
   rw[hF]at he;simp only at he;split at he
   ·cases he
   rename_i azp;cases he
   have hxm:x∈g.ev/\Kr f x=true/\x.id≠0:=by
    unfold Yz at hp;cases hfd:g.ev.find? (Kr f)with
    |none=>rw[hfd]at hp;cases hp
    |some y=>
     rw[hfd]at hp;simp only at hp;split at hp
     ·cases hp
     split at hp
     ·cases hp;rename_i h1 h2;exact⟨zzds hfd,zzfq hfd,h1⟩
     cases hp
   obtain⟨x1,x2,x3⟩:=hxm;simp only[Kr,decide_eq_true_eq]at x2;intro y h1 h2;show HD q x.it 0 y;have h1:f<=y:=h1;have h2:y<f+F:=h2;unfold Br at hF;split at hF
   ·rename_i hk;cases hF
    have bO:zb g f b o.en=some (nV g x.id):=by
     unfold zb;rw[hp];simp only;rw[if_pos hk.2.symm]
    obtain⟨z,hz⟩:=ano c2 hk.1;obtain⟨w,w1,w2⟩:=aah c2 (fun h3=>zE) hz;have hzi:z.it=x.it:=by rw[<- w2];exact hE x x1 x3 w (by rw[<- hk.2];exact w1)
    unfold uR at c4;rw[if_pos hk.1]at c4;unfold Qba at c4;rw[bO,hz]at c4;split at c4
    ·cases c4
    split at c4
    ·cases c4
    split at c4
    ·cases c4
    split at c4
    ·cases c4
    split at c4
    ·cases c4
    simp only at c4;split at c4
    ·cases c4
    have c4:Xd q z.it 0 f (nV g x.id+d-f)=true:=c4;rw[hzi]at c4;exact HD.of c4 h1 h2
   split at hF
   ·cases hF
   split at hF
   ·cases hF
   rename_i qp y6 hn4;cases hF;by_cases IC:o.ki=4
   ·have ha:Xd q x.it 0 f (Wp f x).fr=true:=by
     cases h:Xd q x.it 0 f (Wp f x).fr with
     |true=>rfl
     |false=>exact(hn4 ⟨IC,h⟩).elim
    exact HD.of ha h1 h2
   obtain⟨X,rfl⟩:=aax c2 zE;simp only[Wp]at h2;exact afX.2 (hN x x1 y zE zE zE)
def DR.dZ{g:Pg}{F:Int}(h:DR g F):DR (dZ g) F:=
 ⟨h.it.dZ,h.re.dZ,fun e he x h0 h1 h2=>by
  obtain⟨y,hy,rfl⟩:=zzar.1 he;exact h.ne y hy x h0 h1 h2,fun e he a ha x h0 h1 h2=>by
  obtain⟨y,hy,rfl⟩:=zzar.1 he;exact h.al y hy a ha x h0 h1 h2⟩
def zY(g:Pg)(o:Od)(F:Int):Int:=if o.ki≠5/\iu g o=true then o.fr else F
def RQ{k:Nat}{g:Pg}{o:Od}{F:Int}(h:DR g F)(hF:iu g o=true->F<=o.fr):DR (Zg g o) (zY g o F):=by
 cases hf:iu g o with
 |false=>
  have e:zY g o F=F:=by unfold zY;rw[if_neg (by rw[hf];simp)]
  rw[e,atW hf];exact⟨h.it,h.re,h.ne,h.al⟩
 |true=>
  have hF:=hF hf;have hc:Uj g o=true:=by unfold iu at hf;rw[zzac]at hf;exact hf.1
  have hv:Vp o=true:=by unfold Uj at hc;rw[zzac]at hc;exact hc.1
  obtain⟨v1,v2,v3,v4⟩:=jY hv;by_cases h5:o.ki=5
  ·have e:zY g o F=F:=by unfold zY;rw[if_neg (by simp[h5])]
   rw[e];unfold Zg;rw[hc,if_neg (by decide),if_pos h5];cases yB o.cu g.cu<;>exact⟨h.it,h.re,h.ne,h.al⟩
  have e:zY g o F=o.fr:=by unfold zY;rw[if_pos ⟨h5,hf⟩]
  rw[e];have cM:=aaj (o:=o) h.it
  have hx:(Jc g o.fr (Xp o.fr g.ev []) o).isSome=true:=by
   unfold iu at hf;rw[hc,if_neg h5,zzdk]at hf;exact hf
  obtain⟨⟨q,d⟩,hqd⟩:=zzcf.1 hx;obtain⟨c1,c2,c3,c4⟩:=Qbz hqd
  have hap:Zg g o=Kn g o (Xp o.fr g.ev []) q d:=by
   unfold Zg;rw[hc,if_neg (by decide),if_neg h5,hqd]
  rw[hap]at cM |-
  refine⟨cM,af0 c3 (zzbt _),?_,?_⟩
  ·intro e he x h0 h1 h2;simp only[Kn,Ui,zzav,zzam,zzar]at he;obtain⟨y,hy,rfl⟩|he|he:=he
   ·have h1:y.st<=x:=h1;have h2:x<y.st+y.fr:=h2;have:=j5 _ _ y hy;omega
   ·exact afY (k:=0) h.it h.ne hF zE hqd (Nm he) x h1 h2
   exact aay c3 _ _ aaz e he x h1 h2
  intro e he a ha x h0 h1 h2;simp only[Kn,Ui,zzav,zzam,zzar]at he;obtain⟨y,hy,rfl⟩|he|he:=he
  ·have h1:y.st<=x:=h1;have h2:x<y.st+y.fr:=h2;have:=j5 _ _ y hy;omega
  ·have he:uV g o.fr (Xp o.fr g.ev []) o q d=some e:=by simpa using he
   exact atU he a ha x h1 h2
  exact aaw _ _ e he a ha x h1 h2
def af1{p:Pl}(h:zV p=0):DR (Yv p) 0:=by
 obtain⟨hv,l,hl⟩:=qf h;have hg:Yv p=⟨p,Kw p l 0,[],0,[],0⟩:=by unfold Yv;rw[hl]
 have hsc:OL p l 0:=by
  unfold Hp at hl;rw[if_neg (by rw[hv];decide)]at hl;exact(DS hl).2
 refine⟨am5 h,(atX h 0).1,?_,?_⟩
 ·rw[hg];exact fun e he x _ h1 h2=>aay hv l 0 (yK hsc) e he x h1 h2
 rw[hg];exact fun e he a ha x _ h1 h2=>aaw l 0 e he a ha x h1 h2
def HE{q:Pl}{id r f n:Int}(h:∀x,f<=x->x<f+n->HD q id r x)(hy:∀y,Xj id q.aM=some y->y.ki≠5)(hn:1<=n/\n<=1000000)(hf:0<=f/\f+n<=100000000):Xd q id r f n=true:=by
 refine(Jt q id r f n).2 ⟨⟨hn.1,hn.2,hf.1,zE⟩,fun x h1 h2=>?_⟩;obtain⟨y,y1,y2⟩:=h x h1 h2;obtain y2|y2:=y2
 ·exact(hy y y1 y2).elim
 exact yJ y2 (zzbt _) zE
