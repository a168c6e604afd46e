import Derived.Test.YthjppoincojfkaaGreatDoorRSMS
set_option linter.all false
set_option maxRecDepth 100000
set_option maxHeartbeats 64000000
namespace Go.Proofs.YthjppoincojfkaaGreatDoor
open Go Go.Abs
def yW{at_ n t:Int}(hn:1<=n)(ht:at_<=t):∀{l:List Sp},VS l->(∀x,t<=x->x<t+n->Xr l x)->∃s,Gq at_ n l=some s/\s<=t
 |[],_,h=>by
  have:=h t (zzby _) zE;simp at this
 |a::r,hv,h=>by
  have ha:=hv.1 a zd;have hp:=zzcd.1 hv.2;have hr:VS r:=⟨fun s hs=>hv.1 s (by simp[hs]),hp.2⟩;rw[Gq];by_cases c:max a.1 at_<a.2/\n<=a.2-max a.1 at_
  ·rw[if_pos c];refine⟨_,rfl,?_⟩;have h0:=h t (zzby _) zE;rw[Xf]at h0;obtain h0|⟨s,hs,h1,h2⟩:=h0
   ·omega
   have:=hp.1 s hs;omega
  rw[if_neg c]
  have ayj:∀x,t<=x->x<t+n->¬(a.1<=x/\x<a.2):=by
   intro x Pr QK hx
   have h2:¬Xr (a::r) a.2:=by
    rw[Xf];rintro(h|⟨s,hs,h1,_⟩)
    ·omega
    have:=hp.1 s hs;omega
   have h3:t+n<=a.2:=by
    rcases zzex a.2 (t+n)with h'|h'
    ·exact absurd (h a.2 zE h') h2
    exact h'
   have h4:a.1<=t:=by
    rcases zzex t a.1 with h'|h'
    ·have h5:=h (a.1-1) zE zE;rw[Xf]at h5;obtain h5|⟨s,hs,h6,_⟩:=h5
     ·omega
     have:=hp.1 s hs;omega
    exact h'
   exact c ⟨zE,zE⟩
  refine yW hn ht hr fun x h1 h2=>?_;have h3:=h x h1 h2;rw[Xf]at h3;exact h3.resolve_left (ayj x h1 h2)
def yX{p:Pl}{it k at_ n t:Int}(hn:1<=n/\n<=1000000)(ht:at_<=t)(hk:k*1000000<=t/\t+n<=(k+2)*1000000)(h:∀x,t<=x->x<t+n->Q0 p it 0 x):∃s,lP (Xy p it k) at_ n=some s/\s<=t:=by
 rw[lP,if_neg zE];refine yW hn.1 ht (Zx _).1 fun x h1 h2=>?_;rw[(Zx _).2,Qch];exact⟨zE,zE,h x h1 h2⟩
def afW{p:Pl}{it k at_ n s:Int}(hn:1<=n)(h:lP (Xy p it k) at_ n=some s):s+n<=(k+2)*1000000:=by
 rw[lP,if_neg zE]at h;obtain⟨a,ha,h1,h2,h3⟩:=Dj h;have:Xr (Xk (Xy p it k)) (s+n-1):=⟨a,ha,zE,zE⟩;rw[(Zx _).2,Qch]at this;omega
def BM{p:Pl}{e:En}{last from_ n t:Int}(he:1<=e.fr/\e.fr<=1000000)(h1:from_<=t)(h2:t<=last)(h3:n*1000000<=t)(h:∀x,t<=x->x<t+e.fr->Q0 p e.it 0 x):∃s,SP p e last from_ n=some s/\s<=t:=by
 rw[SP,if_pos zE];cases hs:lP (Xy p e.it n) from_ e.fr with
 |none=>
  simp only;refine BM he h1 h2 ?_ h;rcases zzex t ((n+1)*1000000)with h'|h'
  ·obtain⟨s,dM,_⟩:=yX (p:=p) (it:=e.it) (k:=n) he h1 ⟨h3,zE⟩ h;rw[hs]at dM;cases dM
  exact h'
 |some s=>
  simp only;have bQ:=afW he.1 hs
  have bY:s<=t:=by
   rcases zzex ((n+2)*1000000) (t+e.fr)with h'|h'
   ·omega
   obtain⟨s',dM,cE⟩:=yX (p:=p) (it:=e.it) (k:=n) he h1 ⟨h3,h'⟩ h;rw[hs]at dM;cases dM;exact cE
  rw[if_neg zE];exact⟨s,rfl,bY⟩
termination_by(last-n*1000000+1000000).toNat
decreasing_by omega
def D0{p:Pl}{e:En}{from_ t:Int}(he:1<=e.fr/\e.fr<=1000000)(h1:from_<=t)(h0:0<=t)(h2:t<=e.la/\t+e.fr<=p.ln/\t<=100000000)(h:∀x,t<=x->x<t+e.fr->Q0 p e.it 0 x):∃s,Vr p e from_=some s/\s<=t:=by
 rw[Vr,if_neg zE];refine BM he zE (by simp only[mw];omega) ?_ h;have hm:0<=max from_ 0:=zE
 rw[zzcl hm];omega
def LeU(us' us:List (Int×Int)):Prop:=∀k,(af k us').getD 0<=(af k us).getD 0
def LeE(en' en:List (Int×Int)):Prop:=∀k v',af k en'=some v'->∃v,af k en=some v/\v'<=v
def LeE.refl(en:List (Int×Int)):LeE en en:=fun k v h=>⟨v,h,zzby _⟩
def LeU.note{us' us:List (Int×Int)}(h:LeU us' us)(it:Int):LeU (Vw us' it) (Vw us it):=fun k=>by
 rw[Vw,Vw,Ug,Ug];have:=h it;split
 ·simp;omega
 exact h k
def LeU.skip{us' us:List (Int×Int)}(h:LeU us' us)(it:Int):LeU us' (Vw us it):=fun k=>by
 rw[Vw,Ug];split
 ·rename_i e;have:=h it;rw[e];simp;omega
 exact h k
def LeE.note{p p':Pl}{en' en:List (Int×Int)}(h:LeE en' en)(it:Int){e' e:Int}(he:e'<=e)(h0:0<=e')(hp:Xj it p'.aN=Xj it p.aN):LeE (Zm p' en' it e') (Zm p en it e):=fun k v' hk=>by
 unfold Zm at hk |-
 rw[hp]at hk;cases hf:Xj it p.aN with
 |none=>rw[hf]at hk;exact h k v' hk
 |some x=>
  rw[hf]at hk;simp only[Ug]at hk |-
  split at hk
  ·rename_i X3;cases hk;refine⟨_,by rw[if_pos X3],?_⟩;cases h1:af x.sp en' with
   |none=>
    cases h2:af x.sp en with
    |none=>simp;omega
    |some v=>simp;omega
   |some v1=>
    obtain⟨v,hv,cE⟩:=h _ _ h1;rw[hv];simp;omega
  rename_i X3;obtain⟨v,hv,cE⟩:=h k v' hk;exact⟨v,by rw[if_neg X3];exact hv,cE⟩
def LeE.skip{p:Pl}{en' en:List (Int×Int)}(h:LeE en' en)(it e:Int):LeE en' (Zm p en it e):=fun k v' hk=>by
 obtain⟨v,hv,cE⟩:=h k v' hk;unfold Zm;cases hf:Xj it p.aN with
 |none=>exact⟨v,hv,cE⟩
 |some x=>
  simp only[Ug];split
  ·rename_i X3;subst X3;exact⟨_,rfl,by rw[hv];simp;omega⟩
  exact⟨v,hv,cE⟩
def yY{en' en:List (Int×Int)}(h:LeE en' en):∀(l:List Sp){f' f:Int},f'<=f->Ua en' l f'<=Ua en l f
 |[],_,_,hf=>hf
 |r::l,f',f,hf=>by
  rw[Ua,Ua];refine yY h l ?_;cases h1:af r.1 en' with
  |none=>
   cases h2:af r.1 en with
   |none=>exact hf
   |some v=>simp only;omega
  |some v1=>
   obtain⟨v,hv,cE⟩:=h _ _ h1;rw[hv];simp only;omega
structure afX (p' p:Pl):Prop where
 aN:p'.aN=p.aN
 ens:p'.ens=p.ens
 ln:p'.ln=p.ln
 runs:∀it,Ww p' it=Ww p it
 riv:∀it,Kl p' it=Kl p it
 perm:∀it x,Q0 p it 0 x->Q0 p' it 0 x
def afX.refl(p:Pl):afX p p:=⟨rfl,rfl,rfl,fun _=>rfl,fun _=>rfl,fun _ _ h=>h⟩
inductive BN:List Sp->List Sp->Prop
 |nil (l:List Sp):BN [] l
 |skip {l' l:List Sp} (s:Sp):BN l' l->BN l' (s::l)
 |cons {l' l:List Sp} (id s' s:Int):s'<=s->BN l' l->BN ((id,s')::l') ((id,s)::l)
def R5{p' p:Pl}(hm:afX p' p){afY ids:Pi}(anb:afY.Sublist ids):∀{us' us en' en:List (Int×Int)}{free' free last' last:Int}{l:List Sp},LeU us' us->LeE en' en->free'<=free->last'<=last->Ut p ids us en free last=some l->
  ∃l',Ut p' afY us' en' free' last'=some l'/\BN l' l:=by
 induction anb with
 |slnil=>
  intro us' us en' en free' free last' last l _ _ _ _ h;exact⟨[],rfl,.nil _⟩
 |@cons afY ids id _ ih=>
  intro us' us en' en free' free last' last l hu he hf hla h;rw[Ut]at h;cases hk:zn id p.ens 0 with
  |none=>rw[hk]at h;cases h
  |some k=>
   rw[hk]at h;simp only at h;split at h
   ·cases h
   rename_i qt;cases hx:p.ens[k]? with
   |none=>rw[hx]at h;cases h
   |some e=>
    rw[hx]at h;simp only at h;split at h
    ·cases h
    cases hs:Vr p e (Ua en (Kl p e.it) (max e.ea free))with
    |none=>rw[hs]at h;cases h
    |some s=>
     rw[hs]at h;simp only at h;cases hg:Ut p ids (Vw us e.it) (Zm p en e.it (s+e.fr)) (s+e.fr) k with
     |none=>rw[hg]at h;cases h
     |some r=>
      rw[hg]at h;cases h;obtain⟨a1,a2,_⟩:=Jz hs;have fu:=xV en (Kl p e.it) (max e.ea free);obtain⟨l',h1,h2⟩:=ih (hu.skip e.it) (he.skip e.it (s+e.fr)) (free':=free') zE (last':=last') zE hg;exact⟨l',h1,.skip _ h2⟩
 |@cons_cons afY ids id _ ih=>
  intro us' us en' en free' free last' last l hu he hf hla h;rw[Ut]at h;rw[Ut,hm.ens];cases hk:zn id p.ens 0 with
  |none=>rw[hk]at h;cases h
  |some k=>
   rw[hk]at h;simp only at h |-
   split at h
   ·cases h
   rename_i qt;rw[if_neg zE];cases hx:p.ens[k]? with
   |none=>rw[hx]at h;cases h
   |some e=>
    rw[hx]at h;simp only at h |-
    split at h
    ·cases h
    rename_i hr;have hue:=hu e.it;rw[hm.runs,hm.riv,if_neg (by intro hh;exact hr ⟨hh.1,zE⟩)];cases hs:Vr p e (Ua en (Kl p e.it) (max e.ea free))with
    |none=>rw[hs]at h;cases h
    |some s=>
     rw[hs]at h;simp only at h;cases hg:Ut p ids (Vw us e.it) (Zm p en e.it (s+e.fr)) (s+e.fr) k with
     |none=>rw[hg]at h;cases h
     |some r=>
      rw[hg]at h;cases h;obtain⟨a1,a2,a3,a4,a5,a6,a7⟩:=Jz hs;have hfm:=yY he (Kl p e.it) (show max e.ea free'<=max e.ea free by omega);obtain⟨s',dM,cE⟩:=D0 (p:=p') (from_:=Ua en' (Kl p e.it) (max e.ea free')) a1 zE a3 ⟨a4,by rw[hm.ln];exact a5,a6⟩ (fun x h1 h2=>hm.perm _ _ (a7 x h1 h2));have cM:=Jz dM;rw[dM];simp only;obtain⟨l',h1,h2⟩:=ih (hu.note e.it) (he.note e.it (e':=s'+e.fr) (e:=s+e.fr) zE zE (by rw[hm.aN])) (free':=s'+e.fr) zE (last':=(k:Int)) (zzby _) hg;rw[h1];exact⟨_,rfl,.cons id s' s cE h2⟩
def HM{l:Pa}{n:Nat}(h:l.Nodup)(hb:∀i∈l,i<n):l.length<=n:=by
 have hp:l.Perm ((List.range n).filter fun i=>decide (i∈l)):=by
  rw[zzge h (zzdl.filter _)];intro i;simp only[zzca,zzaw,decide_eq_true_eq];exact⟨fun hi=>⟨hb i hi,hi⟩,fun hi=>hi.2⟩
 rw[hp.length_eq];refine zzbc (zzcc _ _) ?_;simp
def OV(id:Nat)(m:AM):Nat:=match Qh m.boxes id with
 |[.mitr _ _ s]=>s.length
 |_=>0
def afZ{α:Type}{row:α->AV}{L:List (Int×α)}{i:Nat}{k:Pi}{c:AV}(h:(bG row L)[i]?=some (k,c)):∃o x,L[i]?=some (o,x)/\k=[o]/\c=row x/\(bG row L).getD i ([],.junk)=([o],row x)/\i<L.length:=by
 have hg:(bG row L).getD i ([],.junk)=(k,c):=by rw[zzax,h];rfl
 rw[bG,zzbm]at h;cases hL:L[i]? with
 |none=>rw[hL]at h;cases h
 |some y=>
  rw[hL]at h;cases h;exact⟨y.1,y.2,rfl,rfl,rfl,hg,(zza.1 hL).1⟩
def L8(p:Pl)(it:Int)(L:List (Int×Int))(o x:Int):xX p it (L++[(o,x)])=if 0<Kh p x it then xX p it L++[(o,Kh p x it)]else xX p it L:=by
 unfold xX;rw[List.filterMap_append];by_cases h:0<Kh p x it
 ·rw[if_pos h];simp[h]
 rw[if_neg h];simp[h]
def HN{m:AM}{K:So}{id mid n kn:Nat}{seen:Pa}{kvs:List (Pi×AV)}(h1:Qh m.boxes id=[.mitr mid n seen])(h2:Qh m.boxes mid=[.aJ kn kvs])(h:kvs.length=n)
  (hs:∀i k c,kvs[i]?=some (k,c)->i ∉ seen->K (.aS [.bool true,keyAV kn k,c]) {m with boxes:=m.boxes.set id [.mitr mid n (seen++[i])]})(he:(∀i,i<n->i∈seen)->K (.aS [.bool false]) m):vcNxt m K (.it id):=by
 simp only[vcNxt,Yb,h1,h2];exact⟨h,hs,he⟩
def OW(p:Pl)(it:Int):UV:=fun _ f l=>if f=227 then(match l with|[_,.int _ x,_]=>I (Kh p x it)|_=>.junk)else .junk
def atW(pre:T5)(b:Bd)(post:T5)(ls:Pa)(it:Int)(f:Nat->AV)(m:AM):Prop:=∃(seen:Pa)(l:List Sp)(rt:Rt)(exl:Pa),
 seen.Nodup/\(∀i∈seen,i<(Yx b.p).length)/\l=xX b.p it (atL (0,0) (Yx b.p) seen)/\f 8=.sl rt (l.map Qe)/\(l=[]/\rt=.nil/\exl=[]\/l≠[]/\rt=.own ls.length 2/\exl=[l.length])/\
 m=aP pre b (post++[[.mitr (pre.length+3) (Yx b.p).length seen]]) (ls++exl)
def HO(pre post:T5)(ls:Pa)(b:Bd)(it:Int)(hc:b.p.cls.length<=1000000000)(cT:b.p.aN.length<=1000000000)(FO:(Yx b.p).length<=1000000000)(IL:aeA b)(Y:YT)(K:So)
  (hK:∀(rv:List (Int×(Rt×List Sp)))(ex:T5)(exl:Pa)(rt:Rt)(l:List Sp),aeA {b with rv:=rv}->l.Perm (Kl b.p it)->K (.sl rt (l.map Qe)) (aP pre {b with rv:=rv} (post++ex) (ls++exl))):
  aB Tryz.prog aD Y 171 [.ptr (pre.length+9) 0,I it] (aP pre b post ls) K:=by
 have nil:Kl b.p it=[]->K (.sl .nil []) (aP pre b post ls):=fun h=>by
  have:=hK b.rv [] [] .nil [] IL (by rw[h]);simpa using this
 refine Xl acL (OW b.p it) zd ?_
 have ayk:∃r,Xh [it] (bG rz (Aa b.p)) 0=r/\((∃n y,Xj it b.p.aN=some y/\r=some (n,rz y))\/(Xj it b.p.aN=none/\r=none)):=by
  rcases Xv rz it (Aa b.p) 0 with⟨h1,h2,_,_⟩|⟨u,n,h1,h2,_⟩
  ·rw[uR]at h1;exact⟨_,rfl,.inr ⟨h1,h2⟩⟩
  rw[uR]at h1;exact⟨_,rfl,.inl ⟨_,u,h1,h2⟩⟩
 obtain⟨r,hr,QV⟩:=ayk;obtain⟨n,y,hf,rfl⟩|⟨hf,rfl⟩:=QV
 ·rcases Xv iA y.sp (Yx b.p) 0 with⟨s1,s2,_,_⟩|⟨su,sn,s1,s2,_⟩
  ·simp[Ay,ED,aP,aW,Qo,Qa,hr,rz,Qm,s2];exact nil (by simp[Kl,hf,s1])
  have hrl:Kl b.p it=xX b.p it (Yx b.p):=by simp[Kl,hf,s1,xX]
  rcases Xv rvA y.sp b.rv 0 with⟨m1,m2,_,m4⟩|⟨mu,mn,m1,m2,_⟩
  ·simp[Ay,aP,aW,Qo,Qa,hr,rz,Qm,s2,m2];refine Qi vF (atW pre b post ls it) (fun _ m=>(Yx b.p).length-OV (pre.length+(post.length+10)) m) ?_ ?_
   ·exact⟨[],[],.nil,[],List.nodup_nil,zd,rfl,zd,.inl ⟨rfl,rfl,rfl⟩,by simp[aP,aW,Qo,Qa]⟩
   rintro f m ⟨seen,l,rt,exl,hn,hb,hl,h8,aX,rfl⟩;have fT:seen.length<=(Yx b.p).length:=HM hn hb;simp[-vcNxt,aP,aW,Qo,Qa,vF];refine HN (mid:=pre.length+3) (n:=(Yx b.p).length) (kn:=0) (seen:=seen) (kvs:=bG iA (Yx b.p)) ?_ ?_ ?_ (fun i k c hi Sx=>?_) fun bD=>?_
   ·simp
   ·simp
   ·simp
   ·obtain⟨o,x,hx,rfl,rfl,JM,ah⟩:=afZ hi
    have bq:(bG iA (Yx b.p))[i]'(Nm ah)=([o],iA x):=by
     have:=zza.1 hi;exact this.2
    have anc:=alR b.p x it hc cT;have qq:(seen++[i]).Nodup:=List.nodup_append.2 ⟨hn,zd,fun a ha c hc=>by simp at hc;subst hc;rintro rfl;exact Sx ha⟩
    have cM:∀j∈seen++[i],j<(Yx b.p).length:=fun j hj=>by
     rcases zzao.1 hj with h|h
     ·exact hb j h
     simp at h;subst h;exact ah
    have cE:seen.length+1<=(Yx b.p).length:=by simpa using HM qq cM
    have hxo:(Yx b.p).getD i (0,0)=(o,x):=by rw[zzax,hx];rfl
    have Iv:atL (0,0) (Yx b.p) (seen++[i])=atL (0,0) (Yx b.p) seen++[(o,x)]:=by
     simp only[atL,zzci,zzas,zzcs,hxo]
    have Fb:=L8 b.p it (atL (0,0) (Yx b.p) seen) o x;rw[<- Iv,<- hl]at Fb;by_cases hg:0<Kh b.p x it
    ·rw[if_pos hg]at Fb
     have Ei:l.length<=(Yx b.p).length:=by
      rw[hl];refine zzbc (zzgo _ _) ?_;simp only[atL,zzbv];exact fT
     obtain⟨rfl,rfl,rfl⟩|⟨qp,rfl,rfl⟩:=aX
     ·simp[keyAV,hi,bq,ah,OW,hg,h8,vF,OV];refine⟨by simpa[Qa]using anc,aQ,⟨seen++[i],_,_,[1],qq,cM,rfl,by simp[Fb,Qe],.inr ⟨by simp[Fb],rfl,by simp[Fb]⟩,by simp[aP,aW,Qo,Qa]⟩,zE⟩
     simp[keyAV,hi,bq,ah,OW,hg,h8,vF,OV];refine⟨by simpa[Qa]using anc,⟨?_,zE⟩,aQ,⟨seen++[i],_,_,[l.length+1],qq,cM,rfl,by simp[Fb,Qe],.inr ⟨by simp[Fb],rfl,by simp[Fb]⟩,by simp[aP,aW,Qo,Qa]⟩,zE⟩
     ·rintro row (⟨a,b,_,rfl⟩|rfl)<;>rfl
    rw[if_neg hg]at Fb;simp[keyAV,hi,bq,ah,OW,hg,h8,vF,OV];refine⟨by simpa[Qa]using anc,aQ,⟨seen++[i],l,rt,exl,qq,cM,Fb.symm,by simp[h8],aX,by simp[aP,aW,Qo,Qa]⟩,zE⟩
   have hpm:l.Perm (Kl b.p it):=by
    rw[hl,hrl];exact(aeB _ _ _ hn bD hb).filterMap _
   have ayl:aeA {b with rv:=Vg y.sp (rt,l) b.rv}:=fun k x h it' y' hf' cW=>by
    rw[Ug]at h;split at h
    ·rename_i e;cases h;rw[aeD hf' hf (by rw[cW,e])];exact hpm
    exact IL k x h it' y' hf' cW
   have:=hK _ [[.mitr (pre.length+3) (Yx b.p).length seen]] exl rt l ayl hpm;have m4':bG rvA b.rv++[([y.sp],.sl rt (l.map Qe))]=bG rvA (Vg y.sp (rt,l) b.rv):=m4 (rt,l);simp[h8,m2,ED];rw[m4'];simpa[aP,aW,Qo,Qa]using this
  simp[Ay,ED,aP,aW,Qo,Qa,hr,rz,Qm,s2,m2,rvA];have:=hK b.rv [] [] mu.1 mu.2 IL (IL _ _ m1 it y hf rfl);simpa[aP,aW,Qo,Qa]using this
 have s2:Xh [0] (bG iA (Yx b.p)) 0=none:=by
  rcases Xv iA 0 (Yx b.p) 0 with⟨_,s2,_,_⟩|⟨su,sn,s1,_⟩
  ·exact s2
  rw[Yx,xY _ _ _ rfl]at s1;cases s1
 simp[Ay,ED,aP,aW,Qo,Qa,hr,s2];exact nil (by simp[Kl,hf])
def Ag(pre:T5)(p:Pl)(at_:Int)(pl:List (Int×Int))(im:List (Int×It))(sp:List (Int×Int))(post:T5)(ls:Pa):AM:=
 ⟨pre++(Qa p::[.aJ 0 (bG iA pl)]::[.aJ 0 (bG rz im)]::[.aJ 0 (bG iA sp)]::[.aJ 0 []]::[.aJ 0 []]::[.aJ 0 []]::[.aJ 0 []]::[.aJ 2 []]::Qo pre.length ⟨p,at_,[],[],[],[],[]⟩::post),ls,fun _=>.gone,0⟩
def aym(pre:T5)(p:Pl)(at_:Int)(ls:Pa)(f:Nat->AV)(m:AM):Prop:=∃(i:Nat)(pl:List (Int×Int))(post:T5),f 36=I i/\i<=p.ens.length/\Gp (p.ens.drop i) i pl=Di p/\m=Ag pre p at_ pl [] [] post ls
def ayn(pre:T5)(p:Pl)(at_:Int)(ls:Pa)(f:Nat->AV)(m:AM):Prop:=∃(i:Nat)(im:List (Int×It))(sp:List (Int×Int))(post:T5),f 67=I i/\i<=p.aN.length/\KY (p.aN.drop i) im=Aa p/\z8 (p.aN.drop i) im sp=Yx p/\m=Ag pre p at_ (Di p) im sp post ls
def ayo(pre:T5)(p:Pl)(at_:Int)(past:List Ad)(ls:Pa)(f:Nat->AV)(m:AM):Prop:=∃(i:Nat)(us en:List (Int×Int))(post:T5),f 108=I i/\i<=past.length/\pN i us/\N9 (past.drop i) us=N9 past []/\Oa p (past.drop i) en=Oa p past []/\m=aP pre ⟨p,at_,us,en,[],[],[]⟩ post ls
def IQ:UV:=fun _ f _=>if f=999999 then .junk else .gd false .junk
def yM(pre:T5)(ls:Pa)(p:Pl)(at_:Int)(past:List Ad)(rtp:Rt)(IJ:p.ens.length<=1000000000)(cT:p.aN.length<=1000000000)(kJ:past.length<=1000000000)(Y:YT)(K:So)
  (hK:∀ex,K (.ptr (pre.length+9) 0) (aP pre ⟨p,at_,N9 past [],Oa p past [],[],[],[]⟩ ex ls)):
  aB Tryz.prog aD Y 113 [.agg (Qa p),I at_,.sl rtp (past.map Vj)] ⟨pre,ls,fun _=>.gone,0⟩ K:=by
 refine Xl abX IQ zd ?_;simp[Eu,Qa,IQ];refine Qi B7 (aym pre p at_ ls) (fun f _=>p.ens.length-(numOf (f 36)).toNat) ?_ ?_
 ·exact⟨0,[],[],zd,zE,rfl,by simp[Ag,Qo,Qa]⟩
 rintro f m ⟨i,pl,post,h36,hi,uu,rfl⟩;rcases zzaa i p.ens.length with ah|bq
 ·obtain⟨e,he⟩:=aV ah;have ai:=Qdk he;have aa:(i:Int)<(p.ens.length:Int):=zE
  have hw:=bO i zE;rw[Za he,Gp]at uu;rcases Xv iA e.id pl 0 with⟨h1,h2,_,h4⟩|⟨u,n,h1,h2,_⟩
  ·rw[h1]at uu;have SR:bG iA pl++[([e.id],I i)]=bG iA (Vg e.id (i:Int) pl):=h4 _;simp[h36,ah,aa,ai,Qd,Ag,Qo,Qa,h2,B7,hw];refine⟨aQ,⟨i+1,_,post++[Qd e],zd,zE,uu,?_⟩,zE⟩
   ·rw[SR];simp[Ag,Qo,Qa,Qd]
  rw[h1]at uu;simp[h36,ah,aa,ai,Qd,Ag,Qo,Qa,h2,B7,hw];refine⟨aQ,⟨i+1,pl,post++[Qd e],zd,zE,uu,by simp[Ag,Qo,Qa,Qd]⟩,zE⟩
 have bQ:¬(i:Int)<(p.ens.length:Int):=zE
 rw[zzal bq,Gp]at uu;subst uu;simp[h36,bQ,zzbk.2 bq,B7,Ag,Qo,Qa,IQ];refine Qi iP (ayn pre p at_ ls) (fun f _=>p.aN.length-(numOf (f 67)).toNat) ?_ ?_
 ·exact⟨0,[],[],post,zd,zE,rfl,rfl,by simp[Ag,Qo,Qa]⟩
 clear bq bQ hi h36;rintro g m ⟨i,im,sp,post,h67,hi,R6,cW,rfl⟩;rcases zzaa i p.aN.length with ah|bq
 ·obtain⟨x,hx⟩:=aV ah;have ai:Qh (p.aN.map Qm) i=Qm x:=Qu (by simp[hx]);have aa:(i:Int)<(p.aN.length:Int):=zE
  have hw:=bO i zE;rw[Za hx,KY]at R6;rw[Za hx,z8]at cW;simp[h67,ah,aa,ai,Qm,Ag,Qo,Qa,iP,hw,IQ];refine Uh ?_;rcases Xv rz x.id im 0 with⟨h1,h2,_,h4⟩|⟨u,n,h1,h2,_⟩
  ·rw[h1]at R6 cW;have SR:bG rz im++[([x.id],.agg [I x.id,I x.ki,I x.fr,I x.sp,I x.ra])]=bG rz (Vg x.id x im):=h4 x;simp only at R6 cW;by_cases s1:1<=x.sp
   ·by_cases s2:x.sp<=200
    ·rw[if_pos ⟨s1,s2⟩]at cW;rcases Xv iA x.sp sp 0 with⟨_,q2,_,q4⟩|⟨u,n,_,q2,_,_,_,q4⟩
     ·have q4':bG iA sp++[([x.sp],I x.id)]=bG iA (Vg x.sp x.id sp):=q4 _;simp[h67,ah,aa,ai,Qm,Ag,Qo,Qa,iP,hw,IQ,h2,s1,s2,q2];refine⟨aQ,⟨i+1,Vg x.id x im,Vg x.sp x.id sp,post++[Qm x,[I 0,I 0,I 0,I 0,I 0]],zd,zE,R6,cW,?_⟩,zE⟩
      ·rw[SR,q4'];simp[Ag,Qo,Qa,Qm]
     have q4':(bG iA sp).set n ([x.sp],I x.id)=bG iA (Vg x.sp x.id sp):=q4 _;rw[zzbs]at q2;simp[h67,ah,aa,ai,Qm,Ag,Qo,Qa,iP,hw,IQ,h2,s1,s2,q2];refine⟨aQ,⟨i+1,Vg x.id x im,Vg x.sp x.id sp,post++[Qm x,[I 0,I 0,I 0,I 0,I 0]],zd,zE,R6,cW,?_⟩,zE⟩
     ·rw[SR,q4'];simp[Ag,Qo,Qa,Qm]
    rw[if_neg (fun h=>s2 h.2)]at cW;simp[h67,ah,aa,ai,Qm,Ag,Qo,Qa,iP,hw,IQ,h2,s1,s2];refine⟨aQ,⟨i+1,Vg x.id x im,sp,post++[Qm x,[I 0,I 0,I 0,I 0,I 0]],zd,zE,R6,cW,?_⟩,zE⟩
    ·rw[SR];simp[Ag,Qo,Qa,Qm]
   rw[if_neg (fun h=>s1 h.1)]at cW;simp[h67,ah,aa,ai,Qm,Ag,Qo,Qa,iP,hw,IQ,h2,s1];refine⟨aQ,⟨i+1,Vg x.id x im,sp,post++[Qm x,[I 0,I 0,I 0,I 0,I 0]],zd,zE,R6,cW,?_⟩,zE⟩
   ·rw[SR];simp[Ag,Qo,Qa,Qm]
  rw[h1]at R6 cW;simp[h67,ah,aa,ai,Qm,Ag,Qo,Qa,iP,hw,IQ,h2,rz];refine⟨aQ,⟨i+1,im,sp,post++[Qm x,Qm u],zd,zE,R6,cW,by simp[Ag,Qo,Qa,Qm]⟩,zE⟩
 have bQ:¬(i:Int)<(p.aN.length:Int):=zE
 rw[zzal bq]at R6 cW;have R6:im=Aa p:=R6;have cW:sp=Yx p:=cW;subst R6;subst cW;simp[h67,bQ,zzbk.2 bq,iP,Ag,Qo,Qa,IQ];refine Qi gh (ayo pre p at_ past ls) (fun f _=>past.length-(numOf (f 108)).toNat) ?_ ?_
 ·exact⟨0,[],[],post,zd,zE,fun k v h=>(by cases h),rfl,rfl,by simp[aP,aW,Qo,Qa,SQ]⟩
 clear bq bQ hi h67;rintro h m ⟨i,us,en,post,h108,hi,hus,hu,he,rfl⟩;rcases zzaa i past.length with ah|bq
 ·obtain⟨a,ha⟩:=aV ah;have ai:Qh (past.map Vj) i=Vj a:=Qu (by simp[ha]);have aa:(i:Int)<(past.length:Int):=zE
  have hw:=bO i zE;rw[Za ha,N9]at hu;rw[Za ha,Oa]at he;have aaE:pN (i+1:Nat) us:=fun k v h=>by have:=hus k v h;omega
  have skip:ry a=false->N9 (past.drop (i+1)) us=N9 past []/\Oa p (past.drop (i+1)) en=Oa p past []:=fun h=>by
   rw[h]at hu he;exact⟨hu,he⟩
  by_cases c1:a.re=0
  ·by_cases c2:0<=a.fr
   ·by_cases c3:a.fr<=100000000
    ·by_cases c4:1<=a.fs
     ·by_cases c5:a.fs<=100000000
      ·have hc:ry a=true:=by simp[ry];omega
       rw[hc]at hu he;simp only[if_true]at hu he;have hwa:IntKind.i64.wrap (a.fr+a.fs)=a.fr+a.fs:=by rw[Ql]<;>omega
       simp[h108,ah,aa,ai,Vj,aP,aW,Qo,Qa,gh,hw,IQ,c1,c2,c3,c4,c5,hwa];have kn:=aeL pre (post++[Vj a]) ls ⟨p,at_,us,en,[],[],[]⟩ us en a.it (a.fr+a.fs) (fun k v h=>by have:=hus k v h;omega) Y;simp only[aP,aW,Qo,Qa,Vj,c1]at kn;refine kn _ fun ex=>?_;simp[h108,gh,hw];refine⟨aQ,⟨i+1,Vw us a.it,Zm p en a.it (a.fr+a.fs),post++[[I a.it,I 0,I a.fr,I a.fs]]++ex,zd,zE,?_,hu,he,by simp[aP,aW,Qo,Qa]⟩,zE⟩
       ·have:=hus.note zE a.it;exact this
      obtain⟨hu,he⟩:=skip (by simp[ry];omega);simp[h108,ah,aa,ai,Vj,aP,aW,Qo,Qa,gh,hw,IQ,c1,c2,c3,c4,c5];refine⟨aQ,⟨i+1,us,en,post++[[I a.it,I 0,I a.fr,I a.fs]],zd,zE,aaE,hu,he,by simp[aP,aW,Qo,Qa]⟩,zE⟩
     obtain⟨hu,he⟩:=skip (by simp[ry];omega);simp[h108,ah,aa,ai,Vj,aP,aW,Qo,Qa,gh,hw,IQ,c1,c2,c3,c4];refine⟨aQ,⟨i+1,us,en,post++[[I a.it,I 0,I a.fr,I a.fs]],zd,zE,aaE,hu,he,by simp[aP,aW,Qo,Qa]⟩,zE⟩
    obtain⟨hu,he⟩:=skip (by simp[ry];omega);simp[h108,ah,aa,ai,Vj,aP,aW,Qo,Qa,gh,hw,IQ,c1,c2,c3];refine⟨aQ,⟨i+1,us,en,post++[[I a.it,I 0,I a.fr,I a.fs]],zd,zE,aaE,hu,he,by simp[aP,aW,Qo,Qa]⟩,zE⟩
   obtain⟨hu,he⟩:=skip (by simp[ry];omega);simp[h108,ah,aa,ai,Vj,aP,aW,Qo,Qa,gh,hw,IQ,c1,c2];refine⟨aQ,⟨i+1,us,en,post++[[I a.it,I 0,I a.fr,I a.fs]],zd,zE,aaE,hu,he,by simp[aP,aW,Qo,Qa]⟩,zE⟩
  obtain⟨hu,he⟩:=skip (by simp[ry,c1]);simp[h108,ah,aa,ai,Vj,aP,aW,Qo,Qa,gh,hw,IQ,c1];refine⟨aQ,⟨i+1,us,en,post++[[I a.it,I a.re,I a.fr,I a.fs]],zd,zE,aaE,hu,he,by simp[aP,aW,Qo,Qa]⟩,zE⟩
 have bQ:¬(i:Int)<(past.length:Int):=zE
 rw[zzal bq]at hu he;have hu:us=N9 past []:=hu;have he:en=Oa p past []:=he;subst hu;subst he;simp[h108,bQ,zzbk.2 bq,gh,agy];simpa[aP,aW,Qo,Qa,SQ]using hK post
def BF(b:Bd):Prop:=alS b/\aeA b/\K3 b
def DN{α:Type}(sz:Nat)(lo:Nat)(ls:Pa)(rt:Rt)(l:List α):Prop:=(l=[]/\rt=.nil)\/∃k,rt=.own k sz/\lo<=k/\ls[k]?=some l.length/\l≠[]
def DN.app{α:Type}{sz lo:Nat}{ls exl:Pa}{rt:Rt}{l:List α}(h:DN sz lo ls rt l):DN sz lo (ls++exl) rt l:=by
 obtain h|⟨k,h1,h2,h3,h4⟩:=h
 ·exact .inl h
 exact .inr ⟨k,h1,h2,by rw[zzaj (zza.1 h3).1];exact h3,h4⟩
def af0(p:Pl)(a b:Int):0<=Kh p a b/\Kh p a b<=6000000000:=by
 unfold Kh;cases Xj a p.aN with
 |none=>simp
 |some x=>
  cases Xj b p.aN with
  |none=>simp
  |some y=>
   simp only;split
   ·omega
   rename_i h;simp only[not_or]at h;have hv:Ve p.nu p.de=true:=by simpa using h.2.1
   obtain⟨v1,v2,v3,v4,v5⟩:=Ju hv;have hg:=Oc x.sp y.sp p.cls 0 zE;generalize pL x.sp y.sp p.cls 0=g at hg;rw[xD,if_pos ⟨hv,zE,zE⟩];have hp:=D1 hg ⟨(by omega:0<=p.nu),v2⟩;have:=D2 (x:=g*p.nu+p.de-1) (y:=p.de) zE zE;omega
def vj{p:Pl}{it:Int}:∀r∈Kl p it,0<=r.2/\r.2<=6000000000:=fun r hr=>by
 unfold Kl at hr;cases hf:Xj it p.aN with
 |none=>rw[hf]at hr;cases hr
 |some y=>
  rw[hf]at hr;simp only at hr;cases ha:af y.sp (Yx p)with
  |none=>rw[ha]at hr;cases hr
  |some _=>
   rw[ha]at hr;simp only[zzfg]at hr;obtain⟨x,_,hx⟩:=hr;split at hx
   ·cases hx;exact af0 p _ _
   cases hx
def HP(p:Pl)(it:Int):(Kl p it).length<=(Yx p).length:=by
 unfold Kl;cases Xj it p.aN with
 |none=>simp
 |some y=>
  simp only;cases af y.sp (Yx p)with
  |none=>simp
  |some _=>exact zzgo _ _
def ug(en:List (Int×Int)):Prop:=∀k v,af k en=some v->0<=v/\v<=1000000000
def ug.note{p:Pl}{en:List (Int×Int)}(h:ug en)(it e:Int)(he:0<=e/\e<=1000000000):ug (Zm p en it e):=fun k v hk=>by
 unfold Zm at hk;cases hf:Xj it p.aN with
 |none=>rw[hf]at hk;exact h k v hk
 |some x=>
  rw[hf]at hk;simp only[Ug]at hk;split at hk
  ·cases hk;cases ha:af x.sp en with
   |none=>simp;omega
   |some u=>have:=h _ u ha;simp;omega
  exact h k v hk
def yZ{en:List (Int×Int)}(h:ug en):∀{l:List Sp}{f M:Int},(∀r∈l,0<=r.2/\r.2<=6000000000)->f<=M->7000000000<=M->Ua en l f<=M
 |[],f,M,_,h1,_=>h1
 |r::l,f,M,hl,h1,h2=>by
  rw[Ua];refine yZ h (fun x hx=>hl x (by simp[hx])) ?_ h2;have:=hl r zd;cases ha:af r.1 en with
  |none=>exact h1
  |some e=>have:=h _ e ha;simp only;omega
def aaF(l:List Sp):Option (List Sp)->Option (List Sp)
 |none=>none
 |some r=>some (l++r)
def ane(pre post:T5)(ls:Pa)(b:Bd)(ids:Pi)(N:Int)(T:Option (List Sp))(f:Nat->AV)(m:AM):Prop:=
 ∃(i:Nat)(us en:List (Int×Int))(free last:Int)(l:List Sp)(rt:Rt)(rv:List (Int×(Rt×List Sp)))(li:List (Int×Int))(pm:List ((Int×Int)×List Sp))(bx:T5)(exl:Pa),
  f 39=I i/\i<=ids.length/\f 8=I free/\f 9=I last/\f 10=.sl rt (l.map Qe)/\l.length=i/\(-1<=last/\last<=1000000000)/\free<=9223372036854775807/\pN (N+i) us/\ug en/\DN 2 ls.length (ls++exl) rt l/\BF {b with rv:=rv,li:=li,pm:=pm}/\
  aaF l (Ut b.p (ids.drop i) us en free last)=T/\m=aP pre {b with rv:=rv,li:=li,pm:=pm} (post++([.aJ 0 (bG iA us)]::[.aJ 0 (bG iA en)]::bx)) (ls++exl)
def aji(pre post bx0:T5)(e:En)(ls:Pa)(b:Bd)(us en:List (Int×Int))(L:List Sp)(T:Int)(f:Nat->AV)(m:AM):Prop:=
 ∃(j:Nat)(fr:Int)(bx:T5),f 90=I j/\j<=L.length/\f 17=I fr/\Ua en (L.drop j) fr=T/\m=aP pre b (post++([.aJ 0 (bG iA us)]::[.aJ 0 (bG iA en)]::(bx0++(Qd e::bx)))) ls
def IS:UV:=fun _ f _=>if f=999999 then .junk else .gd false .junk
def Qeh(pre post:T5)(ls:Pa)(b:Bd)(ids:Pi)(rt0:Rt)(N:Int)(hN:0<=N/\N<=100000000)(atX:ids.length<=100000000)
  (hc:b.p.cls.length<=1000000)(fE:b.p.sh.length<=1000000000)(cT:b.p.aN.length<=1000000000)(IJ:b.p.ens.length<=1000000000)(FO:(Yx b.p).length<=1000000000)(dA:b.p.ln<=9223372036854775807)(SX:∀e∈b.p.ens,e.ea<=9223372036854775807)
  (Iv:b.at_<=9223372036854775807)(hus:pN N b.us)(af1:ug b.en)(ek:BF b)(Y:YT)(K:So)
  (ru:Ut b.p ids b.us b.en b.at_ (-1)=none->∀rv li pm ex exl,BF {b with rv:=rv,li:=li,pm:=pm}->K (.aS [.sl .nil [],.bool false]) (aP pre {b with rv:=rv,li:=li,pm:=pm} (post++ex) (ls++exl)))
  (VU:∀l,Ut b.p ids b.us b.en b.at_ (-1)=some l->∀rv li pm ex exl rt,BF {b with rv:=rv,li:=li,pm:=pm}->DN 2 ls.length (ls++exl) rt l->K (.aS [.sl rt (l.map Qe),.bool true]) (aP pre {b with rv:=rv,li:=li,pm:=pm} (post++ex) (ls++exl))):
  aB Tryz.prog aD Y 114 [.ptr (pre.length+9) 0,.sl rt0 (ids.map Qy)] (aP pre b post ls) K:=by
 obtain⟨T,hT⟩:∃T,Ut b.p ids b.us b.en b.at_ (-1)=T:=⟨_,rfl⟩;rw[hT]at ru VU;refine Xl abY IS zd ?_;simp[Ew,aP,aW,Qo,Qa];refine Qbj [(.mp (pre.length+(post.length+10)),aP pre b (post++[[.aJ 0 (bG iA b.us)]]) ls)] ?_;simp[Ew,aP,aW,Qo,Qa,IS];refine⟨OX (kn:=0) (kvs:=bG iA b.us) zd ⟨zd,zd⟩,OX (kn:=0) (kvs:=bG iA b.en) zd ?_⟩;simp[IS];refine Qi mN (ane pre post ls b ids N T) (fun f _=>ids.length-(numOf (f 39)).toNat) ?_ ?_
 ·refine⟨0,b.us,b.en,b.at_,-1,[],.nil,b.rv,b.li,b.pm,[],[],zd,zE,zd,zd,zd,rfl,zE,Iv,Nm hus,af1,.inl ⟨rfl,rfl⟩,ek,?_,by simp[aP,aW,Qo,Qa]⟩;rw[zzdc,hT];cases T<;>rfl
 rintro f m ⟨i,us,en,free,last,l,rt,rv,li,pm,bx,exl,h39,hi,h8,h9,iC,Ei,hla,zL,hu,he,hO,hB,hg,rfl⟩;rcases zzaa i ids.length with ah|bq
 ·obtain⟨id,aL⟩:=aV ah;have ai:Qh (ids.map Qy) i=Qy id:=Qu (by simp[aL]);have aa:(i:Int)<(ids.length:Int):=zE
  have hw:=bO i zE;rw[Za aL,Ut]at hg;have no:T=none->∀rv li pm ex exl,BF {b with rv:=rv,li:=li,pm:=pm}->K (.aS [.sl .nil [],.bool false]) (aP pre {b with rv:=rv,li:=li,pm:=pm} (post++ex) (ls++exl)):=ru;rcases Xv iA id (Di b.p) 0 with⟨p1,p2,_⟩|⟨u,n,p1,p2,_⟩
  ·have p1:zn id b.p.ens 0=none:=by
    rw[uQ]at p1;cases hx:zn id b.p.ens 0 with
    |none=>rfl
    |some k=>rw[hx]at p1;cases p1
   rw[p1]at hg;simp[h39,h8,h9,iC,ah,aa,ai,Qy,aP,aW,Qo,Qa,mN,p2,r9];have:=ru hg.symm rv li pm ([.aJ 0 (bG iA us)]::[.aJ 0 (bG iA en)]::bx) exl hB;simpa[aP,aW,Qo,Qa]using this
  obtain⟨k,pk,rfl⟩:∃k:Nat,zn id b.p.ens 0=some k/\(k:Int)=u:=by
   rw[uQ]at p1;cases hx:zn id b.p.ens 0 with
   |none=>rw[hx]at p1;cases p1
   |some k=>rw[hx]at p1;cases p1;exact⟨k,rfl,rfl⟩
  rw[zzbs]at p2;rw[pk]at hg;simp only at hg;obtain⟨_,e,he1,he2,he3⟩:=kV pk;rw[zzes]at he1;have qt:=(zza.1 he1).1;have zS:(k:Int)<(b.p.ens.length:Int):=zE
  have yK:=Qdk he1;by_cases c1:(k:Int)<=last
  ·rw[if_pos c1]at hg;simp[h39,h8,h9,iC,ah,aa,ai,Qy,aP,aW,Qo,Qa,mN,p2,r9,c1];have:=ru hg.symm rv li pm ([.aJ 0 (bG iA us)]::[.aJ 0 (bG iA en)]::bx) exl hB;simpa[aP,aW,Qo,Qa]using this
  rw[if_neg c1,he1]at hg;simp only at hg;simp[h39,h8,h9,iC,ah,aa,ai,Qy,aP,aW,Qo,Qa,mN,p2,c1,qt,zS,yK,Qd,IS];have k82:=fun K'=>aez pre (post++([.aJ 0 (bG iA us)]::[.aJ 0 (bG iA en)]::(bx++[Qd e]))) (ls++exl) {b with rv:=rv,li:=li,pm:=pm} e.it (by simp only;omega) cT hB.1 Y K';simp only[aP,aW,Qo,Qa,Qd]at k82;refine k82 _ fun tu aaG=>?_;clear k82;have A9:BF {b with rv:=rv,li:=tu,pm:=pm}:=⟨aaG,hB.2.1,hB.2.2⟩;obtain⟨R,hR⟩:∃R,Ww b.p e.it=R:=⟨_,rfl⟩;rw[hR]at hg
  obtain⟨cu,oo,atY⟩:∃cu,(af e.it us).getD 0=cu/\((Xh [e.it] (bG iA us) 0=none/\cu=0)\/∃n,Xh [e.it] (bG iA us) 0=some (n,I cu)):=by
   rcases Xv iA e.it us 0 with⟨q1,q2,_⟩|⟨u,n,q1,q2,_⟩
   ·exact⟨0,by rw[q1];rfl,.inl ⟨q2,rfl⟩⟩
   exact⟨u,by rw[q1];rfl,.inr ⟨_,q2⟩⟩
  rw[oo]at hg;by_cases r2:R≠ -1/\R<=cu
  ·rw[if_pos r2]at hg;have:=ru hg.symm rv tu pm ([.aJ 0 (bG iA us)]::[.aJ 0 (bG iA en)]::(bx++[Qd e])) exl A9;obtain⟨r1,r2⟩:=r2;obtain⟨q2,rfl⟩|⟨n2,q2⟩:=atY
   ·simp[aP,aW,Qo,Qa,Qd,IS,q2,r1,r2,hR,r9];simpa[aP,aW,Qo,Qa,Qd]using this
   simp[aP,aW,Qo,Qa,Qd,IS,q2,r1,r2,hR,r9];simpa[aP,aW,Qo,Qa,Qd]using this
  rw[if_neg r2]at hg
  have r3:R= -1\/(R≠ -1/\¬R<=cu):=by
   by_cases h:R= -1
   ·exact .inl h
   exact .inr ⟨h,fun h'=>r2 ⟨h,h'⟩⟩
  clear r2;obtain r1|⟨r1,r2⟩:=r3
  ·have q2:True:=trivial;have r2:True:=trivial;simp[h39,h8,h9,iC,aP,aW,Qo,Qa,Qd,IS,q2,r1,r2,hR];have k83:=fun K'=>HO pre (post++([.aJ 0 (bG iA us)]::[.aJ 0 (bG iA en)]::(bx++[Qd e]))) (ls++exl) {b with rv:=rv,li:=tu,pm:=pm} e.it (by simp only;omega) cT FO hB.2.1 Y K';simp only[aP,aW,Qo,Qa,Qd]at k83;refine k83 _ fun El DO eu rt3 L aaH y4=>?_;clear k83;have SG:BF {b with rv:=El,li:=tu,pm:=pm}:=⟨aaG,aaH,hB.2.2⟩;have hLb:∀r∈L,0<=r.2/\r.2<=6000000000:=fun r hr=>vj r (y4.mem_iff.1 hr)
   have hLl:L.length<=1000000000:=by
    rw[y4.length_eq];have:=HP b.p e.it;omega
   have hfp:=xW en y4 (max e.ea free);obtain⟨F,hF⟩:∃F,Ua en (Kl b.p e.it) (max e.ea free)=F:=⟨_,rfl⟩;rw[hF]at hfp
   have hFb:F<=9223372036854775807:=by
    rw[<- hF];refine yZ he vj ?_ zE;have:=SX e (zzad he1);omega
   have hmx:(if e.ea<free then free else e.ea)=max e.ea free:=zE
   simp[h39,h8,h9,iC,aP,aW,Qo,Qa,Qd,IS,hmx];refine Qi iQ (aji pre post bx e (ls++(exl++eu)) {b with rv:=El,li:=tu,pm:=pm} us en L F) (fun f _=>L.length-(numOf (f 90)).toNat) ?_ ?_
   ·exact⟨0,max e.ea free,DO,zd,zE,zd,by rw[zzdc];exact hfp,by simp[aP,aW,Qo,Qa,Qd]⟩
   rintro g m ⟨j,fr,bx4,g90,hj,g17,D3,rfl⟩;rcases zzaa j L.length with jlt|jge
   ·obtain⟨r,hr⟩:=aV jlt;have aaI:=Zw hr;have aaJ:(j:Int)<(L.length:Int):=zE
    have sU:=bO j zE;rw[Za hr,Ua]at D3;have A7:=hLb r (zzad hr);rcases Xv iA r.1 en 0 with⟨v1,v2,_⟩|⟨v,nv,v1,v2,_⟩
    ·rw[v1]at D3;simp[g90,g17,iQ,jlt,aaJ,aaI,Qe,sU,aP,aW,Qo,Qa,Qd,v2];refine⟨aQ,⟨j+1,fr,bx4++[Qe r],zd,zE,by simp[g17],D3,by simp[aP,aW,Qo,Qa,Qe,Qd]⟩,zE⟩
    rw[v1]at D3;have hvb:=he r.1 v v1;have hwv:IntKind.i64.wrap (v+r.2)=v+r.2:=by rw[Ql]<;>omega
    have hmv:(if fr<v+r.2 then v+r.2 else fr)=max fr (v+r.2):=zE
    simp[g90,g17,iQ,jlt,aaJ,aaI,Qe,sU,aP,aW,Qo,Qa,Qd,v2,hwv,hmv];refine⟨aQ,⟨j+1,max fr (v+r.2),bx4++[Qe r],zd,zE,zd,D3,by simp[aP,aW,Qo,Qa,Qe,Qd]⟩,zE⟩
   have jin:¬(j:Int)<(L.length:Int):=zE
   rw[zzal jge]at D3;have D3:fr=F:=D3;subst D3;have k84:=fun K'=>Og pre (post++([.aJ 0 (bG iA us)]::[.aJ 0 (bG iA en)]::(bx++(Qd e::bx4)))) (ls++(exl++eu)) {b with rv:=El,li:=tu,pm:=pm} e fr hc fE cT dA hFb hB.2.2 Y K';simp only[aP,aW,Qo,Qa,Qd]at k84;have hO':DN 2 ls.length (ls++(exl++eu)) rt l:=by rw[<- zzbf];exact hO.app
   rw[hF]at hg;simp[g90,g17,jin,zzbk.2 jge,iQ,mN,h39,h8,h9,iC,aP,aW,Qo,Qa,Qd,IS];refine k84 _ fun pm4 RO anf=>?_;clear k84;have hB4:BF {b with rv:=El,li:=tu,pm:=pm4}:=⟨aaG,aaH,anf⟩;cases hs:Vr b.p e fr with
   |none=>
    rw[hs]at hg;have:=ru hg.symm El tu pm4 ([.aJ 0 (bG iA us)]::[.aJ 0 (bG iA en)]::(bx++(Qd e::(bx4++RO)))) (exl++eu) hB4;simp[Gs,r9];simpa[aP,aW,Qo,Qa,Qd]using this
   |some s=>
    rw[hs]at hg;simp only at hg
    have hg:aaF (l++[(id,s)]) (Ut b.p (ids.drop (i+1)) (Vw us e.it) (Zm b.p en e.it (s+e.fr)) (s+e.fr) k)=T:=by
     rw[<- hg];cases Ut b.p (ids.drop (i+1)) (Vw us e.it) (Zm b.p en e.it (s+e.fr)) (s+e.fr) k<;>simp[aaF]
    obtain⟨a1,a2,a3,a4,a5,a6,_⟩:=Jz hs;have hws:IntKind.i64.wrap (s+e.fr)=s+e.fr:=by rw[Ql]<;>omega
    have kn:=fun LS K'=>YR pre post (bx++(Qd e::(bx4++RO))) LS {b with rv:=El,li:=tu,pm:=pm4} us en e.it (s+e.fr) (fun k v h=>by have:=hu k v h;omega) Y K';simp only[aP,aW,Qo,Qa,Qd]at kn;have JL:=hu.note zE e.it;have he2:ug (Zm b.p en e.it (s+e.fr)):=he.note e.it _ zE;have hN1:N+i+1=N+(i+1:Nat):=zE
    rw[hN1]at JL;obtain⟨qp,Cz⟩|⟨k2,Cz,dF,ef,_⟩:=hO'
    ·subst Cz;subst qp;simp[Gs,h39,h8,h9,iC,aP,aW,Qo,Qa,Qd,IS,hws];refine kn _ _ fun ex5=>?_;refine⟨aQ,⟨i+1,Vw us e.it,Zm b.p en e.it (s+e.fr),s+e.fr,k,[(id,s)],.own (ls.length+(exl.length+eu.length)) 2,El,tu,pm4,bx++(Qd e::(bx4++RO++ex5)),exl++(eu++[1]),by simp[hw],zE,zd,zd,by simp[Qe],by simp at Ei;simp[Ei],zE,zE,JL,he2,.inr ⟨_,rfl,zE,?_,zd⟩,hB4,hg,?_⟩,by simp[hw];omega⟩
     ·have:(ls++(exl++(eu++[1])))=(ls++(exl++eu))++[1]:=zd
      rw[this,zzap zd];simp
     simp[aP,aW,Qo,Qa,Qd]
    subst Cz;have Bx:=(zza.1 ef).1;have bS:(ls++(exl++eu)).set k2 (l.length+1)=ls++(exl++eu).set (k2-ls.length) (l.length+1):=zzdi _ _ dF;simp[Gs,h39,h8,h9,iC,aP,aW,Qo,Qa,Qd,IS,hws,ef];refine⟨⟨?_,zE⟩,kn _ _ fun ex5=>?_⟩
    ·rintro row (⟨a,b,_,rfl⟩|rfl)<;>rfl
    refine⟨aQ,⟨i+1,Vw us e.it,Zm b.p en e.it (s+e.fr),s+e.fr,k,l++[(id,s)],.own k2 2,El,tu,pm4,bx++(Qd e::(bx4++RO++ex5)),(exl++eu).set (k2-ls.length) (l.length+1),by simp[hw],zE,zd,zd,by simp[Qe],by simp[Ei],zE,zE,JL,he2,.inr ⟨k2,rfl,dF,?_,zd⟩,hB4,hg,?_⟩,by simp[hw];omega⟩
    ·rw[<- bS,zzbg Bx];simp
    simp only[bS];simp[aP,aW,Qo,Qa,Qd]
  obtain⟨q2,rfl⟩|⟨n2,q2⟩:=atY
  all_goals
   simp[h39,h8,h9,iC,aP,aW,Qo,Qa,Qd,IS,q2,r1,r2,hR];have k83:=fun K'=>HO pre (post++([.aJ 0 (bG iA us)]::[.aJ 0 (bG iA en)]::(bx++[Qd e]))) (ls++exl) {b with rv:=rv,li:=tu,pm:=pm} e.it (by simp only;omega) cT FO hB.2.1 Y K';simp only[aP,aW,Qo,Qa,Qd]at k83;refine k83 _ fun El DO eu rt3 L aaH y4=>?_;clear k83;have SG:BF {b with rv:=El,li:=tu,pm:=pm}:=⟨aaG,aaH,hB.2.2⟩;have hLb:∀r∈L,0<=r.2/\r.2<=6000000000:=fun r hr=>vj r (y4.mem_iff.1 hr)
   have hLl:L.length<=1000000000:=by
    rw[y4.length_eq];have:=HP b.p e.it;omega
   have hfp:=xW en y4 (max e.ea free);obtain⟨F,hF⟩:∃F,Ua en (Kl b.p e.it) (max e.ea free)=F:=⟨_,rfl⟩;rw[hF]at hfp
   have hFb:F<=9223372036854775807:=by
    rw[<- hF];refine yZ he vj ?_ zE;have:=SX e (zzad he1);omega
   have hmx:(if e.ea<free then free else e.ea)=max e.ea free:=zE
   simp[h39,h8,h9,iC,aP,aW,Qo,Qa,Qd,IS,hmx];refine Qi iQ (aji pre post bx e (ls++(exl++eu)) {b with rv:=El,li:=tu,pm:=pm} us en L F) (fun f _=>L.length-(numOf (f 90)).toNat) ?_ ?_
   ·exact⟨0,max e.ea free,DO,zd,zE,zd,by rw[zzdc];exact hfp,by simp[aP,aW,Qo,Qa,Qd]⟩
   rintro g m ⟨j,fr,bx4,g90,hj,g17,D3,rfl⟩;rcases zzaa j L.length with jlt|jge
   ·obtain⟨r,hr⟩:=aV jlt;have aaI:=Zw hr;have aaJ:(j:Int)<(L.length:Int):=zE
    have sU:=bO j zE;rw[Za hr,Ua]at D3;have A7:=hLb r (zzad hr);rcases Xv iA r.1 en 0 with⟨v1,v2,_⟩|⟨v,nv,v1,v2,_⟩
    ·rw[v1]at D3;simp[g90,g17,iQ,jlt,aaJ,aaI,Qe,sU,aP,aW,Qo,Qa,Qd,v2];refine⟨aQ,⟨j+1,fr,bx4++[Qe r],zd,zE,by simp[g17],D3,by simp[aP,aW,Qo,Qa,Qe,Qd]⟩,zE⟩
    rw[v1]at D3;have hvb:=he r.1 v v1;have hwv:IntKind.i64.wrap (v+r.2)=v+r.2:=by rw[Ql]<;>omega
    have hmv:(if fr<v+r.2 then v+r.2 else fr)=max fr (v+r.2):=zE
    simp[g90,g17,iQ,jlt,aaJ,aaI,Qe,sU,aP,aW,Qo,Qa,Qd,v2,hwv,hmv];refine⟨aQ,⟨j+1,max fr (v+r.2),bx4++[Qe r],zd,zE,zd,D3,by simp[aP,aW,Qo,Qa,Qe,Qd]⟩,zE⟩
   have jin:¬(j:Int)<(L.length:Int):=zE
   rw[zzal jge]at D3;have D3:fr=F:=D3;subst D3;have k84:=fun K'=>Og pre (post++([.aJ 0 (bG iA us)]::[.aJ 0 (bG iA en)]::(bx++(Qd e::bx4)))) (ls++(exl++eu)) {b with rv:=El,li:=tu,pm:=pm} e fr hc fE cT dA hFb hB.2.2 Y K';simp only[aP,aW,Qo,Qa,Qd]at k84;have hO':DN 2 ls.length (ls++(exl++eu)) rt l:=by rw[<- zzbf];exact hO.app
   rw[hF]at hg;simp[g90,g17,jin,zzbk.2 jge,iQ,mN,h39,h8,h9,iC,aP,aW,Qo,Qa,Qd,IS];refine k84 _ fun pm4 RO anf=>?_;clear k84;have hB4:BF {b with rv:=El,li:=tu,pm:=pm4}:=⟨aaG,aaH,anf⟩;cases hs:Vr b.p e fr with
   |none=>
    rw[hs]at hg;have:=ru hg.symm El tu pm4 ([.aJ 0 (bG iA us)]::[.aJ 0 (bG iA en)]::(bx++(Qd e::(bx4++RO)))) (exl++eu) hB4;simp[Gs,r9];simpa[aP,aW,Qo,Qa,Qd]using this
   |some s=>
    rw[hs]at hg;simp only at hg
    have hg:aaF (l++[(id,s)]) (Ut b.p (ids.drop (i+1)) (Vw us e.it) (Zm b.p en e.it (s+e.fr)) (s+e.fr) k)=T:=by
     rw[<- hg];cases Ut b.p (ids.drop (i+1)) (Vw us e.it) (Zm b.p en e.it (s+e.fr)) (s+e.fr) k<;>simp[aaF]
    obtain⟨a1,a2,a3,a4,a5,a6,_⟩:=Jz hs;have hws:IntKind.i64.wrap (s+e.fr)=s+e.fr:=by rw[Ql]<;>omega
    have kn:=fun LS K'=>YR pre post (bx++(Qd e::(bx4++RO))) LS {b with rv:=El,li:=tu,pm:=pm4} us en e.it (s+e.fr) (fun k v h=>by have:=hu k v h;omega) Y K';simp only[aP,aW,Qo,Qa,Qd]at kn;have JL:=hu.note zE e.it;have he2:ug (Zm b.p en e.it (s+e.fr)):=he.note e.it _ zE;have hN1:N+i+1=N+(i+1:Nat):=zE
    rw[hN1]at JL;obtain⟨qp,Cz⟩|⟨k2,Cz,dF,ef,_⟩:=hO'
    ·subst Cz;subst qp;simp[Gs,h39,h8,h9,iC,aP,aW,Qo,Qa,Qd,IS,hws];refine kn _ _ fun ex5=>?_;refine⟨aQ,⟨i+1,Vw us e.it,Zm b.p en e.it (s+e.fr),s+e.fr,k,[(id,s)],.own (ls.length+(exl.length+eu.length)) 2,El,tu,pm4,bx++(Qd e::(bx4++RO++ex5)),exl++(eu++[1]),by simp[hw],zE,zd,zd,by simp[Qe],by simp at Ei;simp[Ei],zE,zE,JL,he2,.inr ⟨_,rfl,zE,?_,zd⟩,hB4,hg,?_⟩,by simp[hw];omega⟩
     ·have:(ls++(exl++(eu++[1])))=(ls++(exl++eu))++[1]:=zd
      rw[this,zzap zd];simp
     simp[aP,aW,Qo,Qa,Qd]
    subst Cz;have Bx:=(zza.1 ef).1;have bS:(ls++(exl++eu)).set k2 (l.length+1)=ls++(exl++eu).set (k2-ls.length) (l.length+1):=zzdi _ _ dF;simp[Gs,h39,h8,h9,iC,aP,aW,Qo,Qa,Qd,IS,hws,ef];refine⟨⟨?_,zE⟩,kn _ _ fun ex5=>?_⟩
    ·rintro row (⟨a,b,_,rfl⟩|rfl)<;>rfl
    refine⟨aQ,⟨i+1,Vw us e.it,Zm b.p en e.it (s+e.fr),s+e.fr,k,l++[(id,s)],.own k2 2,El,tu,pm4,bx++(Qd e::(bx4++RO++ex5)),(exl++eu).set (k2-ls.length) (l.length+1),by simp[hw],zE,zd,zd,by simp[Qe],by simp[Ei],zE,zE,JL,he2,.inr ⟨k2,rfl,dF,?_,zd⟩,hB4,hg,?_⟩,by simp[hw];omega⟩
    ·rw[<- bS,zzbg Bx];simp
    simp only[bS];simp[aP,aW,Qo,Qa,Qd]
 have bQ:¬(i:Int)<(ids.length:Int):=zE
 rw[zzal bq,Ut]at hg;have hg:some (l++[])=T:=hg;rw[zzar]at hg;have:=VU l hg.symm rv li pm ([.aJ 0 (bG iA us)]::[.aJ 0 (bG iA en)]::bx) exl rt hB hO;simp[h39,h8,h9,iC,bQ,zzbk.2 bq,mN,r9];simpa[aP,aW,Qo,Qa]using this
def af2(l:Pi)(hl:l.length<=1000000000):Pure Tryz.prog aD 173 [.sl .ro (l.map Qy)] (.sl .ro (l.map Qy)):=by
 cases l with
 |nil=>
  refine sO (Zh (?_:Pure Tryz.prog aD 173 [.sl .nil []] (.sl .nil [])) (Wk.sl _ _)) ?_
  ·refine Qp Cf (fun _ _ _=>.junk) zd ?_;simp[M1,M3]
  refine Qp Cf (fun _ _ _=>.junk) zd ?_;simp[M1,M3]
 |cons x r=>
  refine Qp Cf (fun _ _ _=>.junk) zd ?_;simp[M1,M3,Qy];simp at hl;omega
def BO{α:Type}(c:List α)(i:Nat)(h:i<c.length):(c.take i++c.drop (i+1)).length+1=c.length:=by
 simp;omega
def HQ(ok:Pi->Bool)(c:Pi)(i:Nat):Pi:=
 if h:i<c.length then(if ok (c.take i++c.drop (i+1))=true then HQ ok c (i+1)else HQ ok (c.take i++c.drop (i+1)) i)else c
termination_by c.length-i
decreasing_by
 ·omega
 have:=BO c i h;omega
def ou(b:Bd)(ids:Pi):Bool:=(Ut b.p ids b.us b.en b.at_ (-1)).isSome
def nX(b:Bd)(ids:Pi):Pi:=if ou b ids=true then[]else HQ (ou b) ids 0
def atZ(pre post:T5)(ls:Pa)(b:Bd)(N:Nat)(T:Pi)(f:Nat->AV)(m:AM):Prop:=
 ∃(i:Nat)(c:Pi)(rv:List (Int×(Rt×List Sp)))(li:List (Int×Int))(pm:List ((Int×Int)×List Sp))(ex:T5)(exl:Pa),
  f 7=.sl .ro (c.map Qy)/\f 8=I i/\i<=c.length/\c.length<=N/\HQ (ou b) c i=T/\BF {b with rv:=rv,li:=li,pm:=pm}/\m=aP pre {b with rv:=rv,li:=li,pm:=pm} (post++ex) (ls++exl)
def OY(ids:Pi):UV:=fun _ f l=>if f=114 then .gd false .junk else if f=173 then .sl .ro (ids.map Qy)else
 (match l with|[.sl _ [[.sl _ a],[.sl _ c]]]=>.sl .ro (a++c)|_=>.junk)
def L9(pre post:T5)(ls:Pa)(b:Bd)(ids:Pi)(rt0:Rt)(h85:∀m,Abs.Pure Tryz.prog aD 173 [bA m 6 (.sl rt0 (ids.map Qy))] (.sl .ro (ids.map Qy)))(N:Int)(hN:0<=N/\N<=100000000)(atX:ids.length<=100000000)
  (hc:b.p.cls.length<=1000000)(fE:b.p.sh.length<=1000000000)(cT:b.p.aN.length<=1000000000)(IJ:b.p.ens.length<=1000000000)(FO:(Yx b.p).length<=1000000000)(dA:b.p.ln<=9223372036854775807)(SX:∀e∈b.p.ens,e.ea<=9223372036854775807)
  (Iv:b.at_<=9223372036854775807)(hus:pN N b.us)(af1:ug b.en)(ek:BF b)(Y:YT)(K:So)
  (hK:∀rv li pm ex exl,BF {b with rv:=rv,li:=li,pm:=pm}->K (.sl (if ou b ids=true then .nil else .ro) ((nX b ids).map Qy)) (aP pre {b with rv:=rv,li:=li,pm:=pm} (post++ex) (ls++exl))):
  aB Tryz.prog aD Y 115 [.ptr (pre.length+9) 0,.sl rt0 (ids.map Qy)] (aP pre b post ls) K:=by
 refine Xl abZ (OY ids) zd ?_;simp[TJ,aP,aW,Qo,Qa,OY];have k42:=fun K'=>Qeh pre post ls b ids rt0 N hN atX hc fE cT IJ FO dA SX Iv hus af1 ek Y K';simp only[aP,aW,Qo,Qa]at k42;refine k42 _ (fun h0 rv li pm ex exl hB=>?_) (fun l h1 rv li pm ex exl rt hB hO=>?_)
 ·have bV:ou b ids=false:=by simp[ou,h0]
  simp[OY];refine⟨h85 _,?_⟩;refine Qi vr (atZ pre post ls b ids.length (nX b ids)) (fun f _=>(match f 7 with|.sl _ c=>c.length|_=>0)-(numOf (f 8)).toNat) ?_ ?_
  ·exact⟨0,ids,rv,li,pm,ex,exl,zd,zd,zE,zE,by simp[nX,bV],hB,by simp[aP,aW,Qo,Qa]⟩
  rintro f m ⟨i,c,rv,li,pm,ex,exl,h7,h8,hi,qs,hT,hB,rfl⟩;rcases zzaa i c.length with ah|bq
  ·have aa:(i:Int)<(c.length:Int):=zE
   have hw:=bO i zE;simp[h7,h8,ah,aa,vr,aP,aW,Qo,Qa,OY,hw];have eA:List.take i (List.map Qy c)=(c.take i).map Qy:=zd
   have eB:List.take (c.length-(i+1)) (List.drop (i+1) (List.map Qy c))=(c.drop (i+1)).map Qy:=by
    rw[zzau zd];simp
   rw[eA,eB,<- zzci];have k86:=YK [(.ro,c.take i),(.ro,c.drop (i+1))] zd zd (by simp;omega);have zT:=BO c i ah;rw[HQ,dif_pos ah]at hT;have fu:(List.map (fun x:Rt×Pi=>x.2) [(Rt.ro,c.take i),(Rt.ro,c.drop (i+1))]).flatten=c.take i++c.drop (i+1):=zd
   rw[fu]at k86;obtain⟨o,ho⟩:∃o,c.take i++c.drop (i+1)=o:=⟨_,rfl⟩;rw[ho]at k86 zT hT |-
   refine⟨⟨zE,fun _ _=>rfl⟩,⟨zE,fun _ _=>rfl⟩,k86,?_⟩;have k42:=fun K'=>Qeh pre (post++ex) (ls++exl) {b with rv:=rv,li:=li,pm:=pm} o .ro N hN zE hc fE cT IJ FO dA SX Iv hus af1 hB Y K';simp only[aP,aW,Qo,Qa]at k42;refine k42 _ (fun h0 rv2 tu Oh gH ang A9=>?_) (fun l h1 rv2 tu Oh gH ang rt A9 hO=>?_)
   ·have bV:ou b o=false:=by simp only[ou];rw[h0];rfl
    rw[bV]at hT;have hT:HQ (ou b) o i=nX b ids:=hT;simp[h7,h8,vr];refine⟨aQ,⟨i,o,rv2,tu,Oh,ex++gH,exl++ang,zd,by simp[h8],zE,zE,hT,A9,by simp[aP,aW,Qo,Qa]⟩,?_⟩
    ·rw[zzgs (zzgp ah),zzdz];exact Nat.sub_lt_sub_left ah (zzez i)
   have bV:ou b o=true:=by simp only[ou];rw[h1];rfl
   rw[bV]at hT;have hT:HQ (ou b) c (i+1)=nX b ids:=hT;simp[h7,h8,vr,hw];refine⟨aQ,⟨i+1,c,rv2,tu,Oh,ex++gH,exl++ang,by simp[h7],zd,zE,zE,hT,A9,by simp[aP,aW,Qo,Qa]⟩,zE⟩
  have bQ:¬(i:Int)<(c.length:Int):=zE
  rw[HQ,dif_neg zE]at hT;have:=hK rv li pm ex exl hB;rw[<- hT,bV,if_neg zd]at this;simp[h7,h8,bQ,zzbk.2 bq,vr,TK];simpa[aP,aW,Qo,Qa]using this
 have bV:ou b ids=true:=by simp[ou,h1]
 have:=hK rv li pm ex exl hB;rw[bV,if_pos rfl]at this;simp[TK];simpa[aP,aW,Qo,Qa,nX,bV]using this
def aaK(ok:Pi->Bool):Prop:=∀a b:Pi,a.Sublist b->ok b=true->ok a=true
def HR(b:Bd):aaK (ou b):=fun a c hs h=>by
 unfold ou at h |-
 obtain⟨l,hl⟩:=zzbz.1 h;obtain⟨l',h1,_⟩:=R5 (afX.refl b.p) hs (us':=b.us) (en':=b.en) (free':=b.at_) (last':= -1) (fun _=>zzby _) (LeE.refl _) (zzby _) (zzby _) hl;rw[h1];rfl
theorem OZ(b:Bd):ou b []=true:=rfl
def Xb(w:Bool):Pi->List Bool->Pi
 |id::r,k::ks=>if(k==w)=true then id::Xb w r ks else Xb w r ks
 |_,_=>[]
def Jy(ok:Pi->Bool)(rd:Int->Nat)(ids:Pi)(r:Nat)(K:List Bool)(i:Nat):List Bool:=match ids[i]? with
 |some id=>if rd id=r then K.set i (ok (Xb true ids (K.set i true)))else K
 |none=>K
def Jd(ok:Pi->Bool)(rd:Int->Nat)(ids:Pi)(r:Nat)(K:List Bool):List Bool:=(List.range ids.length).foldl (Jy ok rd ids r) K
def Jo(ok:Pi->Bool)(rd:Int->Nat)(ids:Pi):List Bool:=Jd ok rd ids 2 (Jd ok rd ids 1 (Jd ok rd ids 0 (List.replicate ids.length false)))
def D4(K K':List Bool):Prop:=∀j,K.getD j false=true->K'.getD j false=true
def D4.refl(K:List Bool):D4 K K:=fun _ h=>h
def D4.trans{K K' K'':List Bool}(h:D4 K K')(k:D4 K' K''):D4 K K'':=fun j hj=>k j (h j hj)
def kj(K:List Bool)(i j:Nat)(b:Bool):(K.set i b).getD j false=if i=j/\i<K.length then b else K.getD j false:=by
 simp only[zzax,zzgf];by_cases h:i=j
 ·subst h;by_cases h2:i<K.length
  ·simp[h2]
  have:K[i]?=none:=zzat zE;simp[h2]
 simp[h]
def D4.set{K K':List Bool}(h:D4 K K')(hl:K.length=K'.length)(i:Nat):D4 (K.set i true) (K'.set i true):=fun j hj=>by
 rw[kj]at hj |-
 split at hj
 ·rename_i hc;rw[if_pos ⟨hc.1,zE⟩]
 rename_i hc;rw[if_neg (by rw[<- hl];exact hc)];exact h j hj
def D4.aaL(K:List Bool)(i:Nat):D4 K (K.set i true):=fun j hj=>by
 rw[kj];split
 ·rfl
 exact hj
def BP:∀(ids:Pi){K K':List Bool},K.length=K'.length->D4 K K'->(Xb true ids K).Sublist (Xb true ids K')
 |[],_,_,_,_=>by simp[Xb]
 |id::r,[],[],_,_=>by simp[Xb]
 |id::r,[],_::_,h,_=>by simp at h
 |id::r,_::_,[],h,_=>by simp at h
 |id::r,k::ks,k'::ks',hl,h=>by
  have ih:=BP r (K:=ks) (K':=ks') (Nm hl) (fun j hj=>by simpa using h (j+1) (Nm hj));have h0:=h 0;simp at h0;cases k with
  |false=>
   cases k' with
   |false=>simpa[Xb]using ih
   |true=>simpa[Xb]using ih.cons id
  |true=>
   rw[h0 rfl];simpa[Xb]using ih.cons_cons id
def R7(ok:Pi->Bool)(rd:Int->Nat)(ids:Pi)(r:Nat)(K:List Bool)(i:Nat):(Jy ok rd ids r K i).length=K.length:=by
 unfold Jy;split
 ·split<;>simp
 rfl
structure ChI (ok:Pi->Bool) (rd:Int->Nat) (ids:Pi) (r i:Nat) (K:List Bool):Prop where
 len:K.length=ids.length
 kok:ok (Xb true ids K)=true
 todo:∀(j:Nat)(id:Int),ids[j]?=some id->(r<rd id\/rd id=r/\i<=j)->K.getD j false=false
 done:∀(j:Nat)(id:Int),ids[j]?=some id->(rd id<r\/rd id=r/\j<i)->K.getD j false=true\/ok (Xb true ids (K.set j true))=false
def ChI.step{ok:Pi->Bool}(hm:aaK ok){rd:Int->Nat}{ids:Pi}{r i:Nat}{K:List Bool}(h:ChI ok rd ids r i K)(hi:i<ids.length):ChI ok rd ids r (i+1) (Jy ok rd ids r K i)/\D4 K (Jy ok rd ids r K i):=by
 obtain⟨id,aL⟩:=aV hi;unfold Jy;rw[aL];simp only;by_cases hr:rd id=r
 ·rw[if_pos hr];have hf:=h.todo i id aL (.inr ⟨hr,zzab _⟩)
  have VR:K.set i false=K:=by
   apply zzey zd;intro n h1 h2;rw[List.getElem_set];split
   ·rename_i e;subst e;rw[zzax,zzaf h2]at hf;exact hf.symm
   rfl
  cases bV:ok (Xb true ids (K.set i true))with
  |false=>
   rw[VR];refine⟨⟨h.len,h.kok,fun j x hj hc=>h.todo j x hj zE,fun j x hj hc=>?_⟩,D4.refl K⟩;rcases zzaa j i with ah|bq
   ·exact h.done j x hj zE
   obtain hc|hc:=hc
   ·exact h.done j x hj (.inl hc)
   obtain rfl:j=i:=zE
   exact .inr bV
  |true=>
   have cE:=D4.aaL K i;refine⟨⟨by simp[h.len],bV,fun j x hj hc=>?_,fun j x hj hc=>?_⟩,cE⟩
   ·rw[kj,if_neg (by rintro⟨e,_⟩;subst e;rw[aL]at hj;cases hj;omega)];exact h.todo j x hj zE
   rcases Nat.decEq j i with aO|rfl
   ·have hd:=h.done j x hj zE;obtain hd|hd:=hd
    ·exact .inl (cE j hd)
    right;have hs:=BP ids (K:=K.set j true) (K':=(K.set i true).set j true) zd (cE.set zd j);cases hb:ok (Xb true ids ((K.set i true).set j true))with
    |false=>rfl
    |true=>rw[hm _ _ hs hb]at hd;cases hd
   left;rw[kj,if_pos ⟨rfl,by rw[h.len];exact hi⟩]
 rw[if_neg hr];refine⟨⟨h.len,h.kok,fun j x hj hc=>h.todo j x hj zE,fun j x hj hc=>h.done j x hj ?_⟩,D4.refl K⟩;obtain hc|hc:=hc
 ·exact .inl hc
 have:j≠i:=by rintro rfl;rw[aL]at hj;cases hj;exact hr hc.1
 exact .inr ⟨hc.1,zE⟩
def ChI.round{ok:Pi->Bool}(hm:aaK ok){rd:Int->Nat}{ids:Pi}{r:Nat}{K:List Bool}(h:ChI ok rd ids r 0 K):ChI ok rd ids (r+1) 0 (Jd ok rd ids r K)/\D4 K (Jd ok rd ids r K):=by
 have key:∀n,n<=ids.length->ChI ok rd ids r n ((List.range n).foldl (Jy ok rd ids r) K)/\D4 K ((List.range n).foldl (Jy ok rd ids r) K):=by
  intro n;induction n with
  |zero=>intro _;exact⟨h,D4.refl K⟩
  |succ n ih=>
   intro hn;obtain⟨h1,h2⟩:=ih zE;obtain⟨g1,g2⟩:=h1.step hm zE;rw[zzfc,zzgg];exact⟨g1,h2.trans g2⟩
 obtain⟨h1,h2⟩:=key ids.length (zzab _);refine⟨⟨h1.len,h1.kok,fun j x hj hc=>h1.todo j x hj zE,fun j x hj hc=>h1.done j x hj ?_⟩,h2⟩;have:=(zza.1 hj).1;omega
def y5(ids:Pi)(n:Nat):Xb true ids (List.replicate n false)=[]:=by
 induction ids generalizing n with
 |nil=>simp[Xb]
 |cons x r ih=>
  cases n with
  |zero=>simp[Xb]
  |succ n=>rw[zzfy,Xb];simpa using ih n
def choose_spec{ok:Pi->Bool}(hm:aaK ok)(h0:ok []=true)(rd:Int->Nat)(ids:Pi)(iM:∀id∈ids,rd id<=2):
  (Jo ok rd ids).length=ids.length/\ok (Xb true ids (Jo ok rd ids))=true/\∀(j:Nat)(id:Int),ids[j]?=some id->(Jo ok rd ids).getD j false=true\/ok (Xb true ids ((Jo ok rd ids).set j true))=false:=by
 have hi:ChI ok rd ids 0 0 (List.replicate ids.length false):=⟨zd,by rw[y5];exact h0,fun j id hj _=>by
  rw[zzax,zzcm];split<;>rfl,fun j id hj hc=>zE⟩
 have h1:=(hi.round hm).1;have h2:=(h1.round hm).1;have h3:=(h2.round hm).1;refine⟨h3.len,h3.kok,fun j id hj=>h3.done j id hj (.inl ?_)⟩;have:=iM id (zzad hj);omega
def Yz(p:Pl):Pi:=p.ens.map fun e=>e.id
def IN(p:Pl):Bd:=⟨p,0,[],[],[],[],[]⟩
def IM(l:List Sp):AV:=if l=[]then .sl .nil []else .sl .ro (l.map Qe)
def RW(p:Pl):AV:=if pJ p=false then .aS [.sl .nil [],.sl .nil [],I 80]else match Ut p (Yz p) [] [] 0 (-1)with
 |some l=>.aS [IM l,.sl .nil [],I 0]
 |none=>.aS [.sl .nil [],.sl .ro ((nX (IN p) (Yz p)).map Qy),I 90]
def mJ(p:Pl):UV:=fun _ f _=>if f=999999 then .junk else if f=95 then .bool (pJ p)else .gd false .junk
def at1(p:Pl)(f:Nat->AV)(m:AM):Prop:=∃(i:Nat)(rt:Rt)(ls:Pa)(bx:T5),f 17=I i/\i<=p.ens.length/\f 5=.sl rt ((Yz p).take i |>.map Qy)/\DN 1 0 ls rt ((Yz p).take i)/\m=⟨Qa p::bx,ls,fun _=>.gone,0⟩
def qf:∀(l:List It)(a:List (Int×It))(s:List (Int×Int)),(z8 l a s).length<=s.length+l.length
 |[],a,s=>by simp[z8]
 |x::r,a,s=>by
  rw[z8];cases af x.id a with
  |some _=>
   have:=qf r a s;simp only[zzaz];omega
  |none=>
   have h:=qf r (Vg x.id x a) (if 1<=x.sp/\x.sp<=200 then Vg x.sp x.id s else s)
   have h2:(if 1<=x.sp/\x.sp<=200 then Vg x.sp x.id s else s).length<=s.length+1:=by
    split
    ·exact Gn _ _ _
    omega
   simp only[zzaz];omega
def anh(p:Pl):BF (IN p):=⟨fun _ _ h=>(by cases h),fun _ _ h=>(by cases h),fun _ _ h=>(by cases h)⟩
def RU(p:Pl)(hs:PlS p)(hc:p.cls.length<=1000000)(IJ:p.ens.length<=10000000)(dA:p.ln<=9223372036854775807)(SX:∀e∈p.ens,e.ea<=9223372036854775807):Pure Tryz.prog aD 65 [.agg (Qa p)] (RW p):=by
 have k22:=Wx p hs;obtain⟨l1,l2,l3,l4,l5,l6⟩:=hs
 have FO:(Yx p).length<=1000000000:=by
  have:=qf p.aN [] [];simp only[Yx]at*
  simp at this;omega
 refine Qp akm (mJ p) zd ?_;cases hv:pJ p with
 |false=>
  rw[hv]at k22;have:RW p=.aS [.sl .nil [],.sl .nil [],I 80]:=by rw[RW,if_pos hv]
  rw[this];simp[akl,Tp,Qa,mJ,hv];simpa[Qa]using k22
 |true=>
  rw[hv]at k22;simp[akl,Qa,mJ,hv];refine⟨by simpa[Qa]using k22,?_⟩;refine Qi MA (at1 p) (fun f _=>p.ens.length-(numOf (f 17)).toNat) ?_ ?_
  ·exact⟨0,.nil,[],[],zd,zE,zd,.inl ⟨zd,rfl⟩,by simp[Qa]⟩
  rintro f m ⟨i,rt,ls,bx,h17,hi,h5,hO,rfl⟩;rcases zzaa i p.ens.length with ah|bq
  ·obtain⟨e,he⟩:=aV ah;have ai:=Qdk he;have aa:(i:Int)<(p.ens.length:Int):=zE
   have hw:=bO i zE;have bB:(Yz p).take (i+1)=(Yz p).take i++[e.id]:=by rw[zzb];simp[Yz,he]
   have lZ:((Yz p).take i).length=i:=by simp[Yz];omega
   obtain⟨S,hS⟩:∃S,(Yz p).take i=S:=⟨_,rfl⟩;rw[hS]at h5 hO bB lZ;obtain⟨rfl,rfl⟩|⟨k,rfl,dF,ef,Bx⟩:=hO
   ·simp[h17,h5,ah,aa,ai,Qd,Qa,mJ,MA,hw];refine⟨aQ,⟨i+1,.own ls.length 1,ls++[1],bx++[Qd e],zd,zE,by rw[bB];simp[Qy],.inr ⟨_,rfl,zE,by rw[bB];simp,by rw[bB];simp⟩,by simp[Qa,Qd]⟩,zE⟩
   have NX:=(zza.1 ef).1;simp[h17,h5,ah,aa,ai,Qd,Qa,mJ,MA,hw,ef];refine⟨⟨?_,zE⟩,aQ,⟨i+1,.own k 1,ls.set k (S.length+1),bx++[Qd e],zd,zE,by rw[bB];simp[Qy],.inr ⟨_,rfl,zE,by rw[bB];simp[NX],by rw[bB];simp⟩,by simp[Qa,Qd]⟩,zE⟩
   ·rintro row (⟨a,_,rfl⟩|rfl)<;>rfl
  have bQ:¬(i:Int)<(p.ens.length:Int):=zE
  have lZ:(Yz p).take i=Yz p:=zzau (by simp[Yz];omega);rw[lZ]at h5 hO;have aL:(Yz p).length<=10000000:=by simp[Yz];omega
  have k41:=fun K'=>yM (Qa p::bx) ls p 0 [] .nil zE l2 zd Y0 K';simp only[Qa,zzcs]at k41;simp[h17,h5,bQ,zzbk.2 bq,MA,Qa,mJ];refine k41 _ fun ex=>?_;clear k41
  have h85:∀m,Abs.Pure Tryz.prog aD 173 [bA m 6 (.sl rt ((Yz p).map Qy))] (.sl .ro ((Yz p).map Qy)):=fun m=>by
   have kc:=af2 (Yz p) zE;obtain⟨h1,rfl⟩|⟨k,rfl,_⟩:=hO
   ·exact Xz kc ⟨Wk.sl _ _,trivial⟩
   exact kc
  simp[mJ];refine Qeh (Qa p::bx) ex ls (IN p) (Yz p) rt 0 zE zE hc l1 l2 l3 FO dA SX (by simp[IN]) (fun _ _ h=>(by cases h)) (fun _ _ h=>(by cases h)) (anh p) Y0 _ (fun h0 rv li pm gH exl hB=>?_) (fun l h1 rv li pm gH exl Su hB Gz=>?_)
  ·have h0:Ut p (Yz p) [] [] 0 (-1)=none:=h0;have hr:RW p=.aS [.sl .nil [],.sl .ro ((nX (IN p) (Yz p)).map Qy),I 90]:=by rw[RW,if_neg (by simp[hv]),h0]
   have bV:ou (IN p) (Yz p)=false:=by show(Ut p (Yz p) [] [] 0 (-1)).isSome=false;rw[h0];rfl
   rw[hr];simp[mJ];refine L9 (Qa p::bx) (ex++gH) (ls++exl) {IN p with rv:=rv,li:=li,pm:=pm} (Yz p) rt h85 0 zE zE hc l1 l2 l3 FO dA SX (by simp[IN]) (fun _ _ h=>(by cases h)) (fun _ _ h=>(by cases h)) hB Y0 _ (fun El li3 pm3 DO eu SG=>?_);have ayp:ou {IN p with rv:=rv,li:=li,pm:=pm} (Yz p)=false:=bV;have fC:nX {IN p with rv:=rv,li:=li,pm:=pm} (Yz p)=nX (IN p) (Yz p):=rfl;rw[ayp,fC,if_neg zd];simp[Tp]
  have h1:Ut p (Yz p) [] [] 0 (-1)=some l:=h1;have hr:RW p=.aS [IM l,.sl .nil [],I 0]:=by rw[RW,if_neg (by simp[hv]),h1]
  rw[hr];obtain⟨rfl,rfl⟩|⟨k2,rfl,_,_,aO⟩:=Gz
  ·simp[mJ,Tp,IM]
  simp[mJ,Tp,IM,aO]
def at2(it:Int)(bf:List (Int×Int)):Int:=((bf.filter fun a=>decide (a.1=it)).length:Nat)
structure azo (p:Pl) (bf us en:List (Int×Int)):Prop where
 us:∀it,(af it us).getD 0<=at2 it bf
 en:∀k v,af k en=some v->∃a∈bf,∃x,Xj a.1 p.aN=some x/\x.sp=k/\v<=a.2
structure azp (p:Pl) (bf us en:List (Int×Int)):Prop where
 us:∀it,at2 it bf<=(af it us).getD 0
 en:∀a∈bf,∀x,Xj a.1 p.aN=some x->∃v,af x.sp en=some v/\a.2<=v
def ayW(p:Pl)(c:Cl):Pl:={p with cls:=p.cls++[c]}
def g0(ok:Pi->Bool)(rd:Int->Nat):Pi->Pi->List Bool
 |[],_=>[]
 |id::r,iy=>if rd id=0 then ok (iy++[id])::g0 ok rd r (if ok (iy++[id])=true then iy++[id]else iy)else false::g0 ok rd r iy
def aaM(ok:Pi->Bool)(rd:Int->Nat):∀(l iy:Pi),(g0 ok rd l iy).length=l.length
 |[],_=>rfl
 |id::r,iy=>by rw[g0];split<;>simp[aaM ok rd r]
def ko(w:Bool):∀(a:Pi)(K:List Bool)(b:Pi)(L:List Bool),a.length=K.length->Xb w (a++b) (K++L)=Xb w a K++Xb w b L
 |[],[],_,_,_=>rfl
 |[],_::_,_,_,h=>by simp at h
 |_::_,[],_,_,h=>by simp at h
 |x::a,k::K,b,L,h=>by
  simp only[zzae,Xb];rw[ko w a K b L (Nm h)];split<;>simp
def y6(ok:Pi->Bool)(rd:Int->Nat):∀(b a:Pi)(K:List Bool),a.length=K.length->((List.range' a.length b.length).foldl (Jy ok rd (a++b) 0) (K++List.replicate b.length false))=K++g0 ok rd b (Xb true a K)
 |[],a,K,h=>by simp[g0]
 |id::b,a,K,h=>by
  rw[zzaz,zzgn,zzcz];have aL:(a++id::b)[a.length]?=some id:=zd
  have hK:a.length<(K++List.replicate (b.length+1) false).length:=by simp;omega
  have bS:∀x,(K++List.replicate (b.length+1) false).set a.length x=(K++[x])++List.replicate b.length false:=fun x=>by
   rw[zzdi _ _ zE,h,zzfr,zzfy];simp
  have hab:a++id::b=(a++[id])++b:=zd
  have ayq:Xb true (a++id::b) ((K++[true])++List.replicate b.length false)=Xb true a K++[id]:=by
   rw[hab,ko true (a++[id]) (K++[true]) b _ (by simp[h]),ko true a K [id] [true] h,y5];simp[Xb]
  have aH:∀x:Bool,(a++[id]).length=(K++[x]).length:=fun x=>by simp[h]
  have gP:a.length+1=(a++[id]).length:=zd
  unfold Jy;rw[aL];simp only;by_cases hr:rd id=0
  ·rw[if_pos hr,bS true,ayq,bS,g0,if_pos hr];have ih:=y6 ok rd b (a++[id]) (K++[ok (Xb true a K++[id])]) (aH _);rw[<- hab,<- gP]at ih;rw[show(List.foldl (fun K i=>Jy ok rd (a++id::b) 0 K i))=List.foldl (Jy ok rd (a++id::b) 0)from rfl]at*
   refine ih.trans ?_;rw[ko true a K [id] _ h];cases hb:ok (Xb true a K++[id])<;>simp[Xb]
  rw[if_neg hr,g0,if_neg hr];have ih:=y6 ok rd b (a++[id]) (K++[false]) (aH _);rw[<- hab,<- gP]at ih;have e:K++List.replicate (b.length+1) false=(K++[false])++List.replicate b.length false:=by rw[zzfy];simp
  rw[e];refine ih.trans ?_;rw[ko true a K [id] _ h];simp[Xb]
def R8(ok:Pi->Bool)(rd:Int->Nat)(ids:Pi):Jd ok rd ids 0 (List.replicate ids.length false)=g0 ok rd ids []:=by
 have:=y6 ok rd ids [] [] rfl;simp only[zzco,zzai,Xb]at this;rw[Jd,zzfn];exact this
def lD(ok:Pi->Bool)(rd:Int->Nat):∀(ids iy:Pi),(Xb false ids (g0 ok rd ids iy)).filter (fun id=>decide (rd id=0))=Xb false (ids.filter fun id=>decide (rd id=0)) (g0 ok rd (ids.filter fun id=>decide (rd id=0)) iy)
 |[],iy=>rfl
 |id::r,iy=>by
  by_cases h:rd id=0
  ·rw[zzcy (by simp[h]),g0,g0,if_pos h,if_pos h];cases hb:ok (iy++[id])with
   |true=>simpa[Xb]using lD ok rd r (iy++[id])
   |false=>
    simp only[Xb,zzbh,if_false,beq_self_eq_true,if_true];rw[zzcy (by simp[h]),lD ok rd r iy]
  rw[zzdf (by simp[h]),g0,if_neg h];simp only[Xb,beq_self_eq_true,if_true];rw[zzdf (by simp[h]),lD ok rd r iy]
def aaN(rd:Int->Nat)(ids:Pi)(K K':List Bool):Prop:=∀(j:Nat)(id:Int),ids[j]?=some id->rd id=0->K.getD j false=K'.getD j false
def BQ(rd:Int->Nat):∀(ids:Pi)(K K':List Bool),K.length=ids.length->K'.length=ids.length->aaN rd ids K K'->(Xb false ids K).filter (fun id=>decide (rd id=0))=(Xb false ids K').filter (fun id=>decide (rd id=0))
 |[],K,K',_,_,_=>by simp[Xb]
 |id::r,[],_,h,_,_=>by simp at h
 |id::r,_::_,[],_,h,_=>by simp at h
 |id::r,k::K,k'::K',h1,h2,h=>by
  have ih:=BQ rd r K K' (Nm h1) (Nm h2) fun j x hj hx=>by simpa using h (j+1) x (Nm hj) hx
  by_cases hr:rd id=0
  ·have h0:=h 0 id rfl hr;simp at h0;subst h0;simp only[Xb];split
   ·rw[zzcy (by simp[hr]),zzcy (by simp[hr]),ih]
   exact ih
  simp only[Xb]
  have e:∀(b:Bool)(l:Pi),(if(b==false)=true then id::l else l).filter (fun id=>decide (rd id=0))=l.filter fun id=>decide (rd id=0):=fun b l=>by
   split
   ·rw[zzdf (by simp[hr])]
   rfl
  rw[e,e,ih]
def tC(ok:Pi->Bool)(rd:Int->Nat)(ids:Pi)(r:Nat)(hr:r≠0)(K:List Bool):aaN rd ids (Jd ok rd ids r K) K/\(Jd ok rd ids r K).length=K.length:=by
 have key:∀(L:Pa)(K:List Bool),aaN rd ids (L.foldl (Jy ok rd ids r) K) K/\(L.foldl (Jy ok rd ids r) K).length=K.length:=by
  intro L;induction L with
  |nil=>intro K;exact⟨fun _ _ _ _=>rfl,rfl⟩
  |cons i L ih=>
   intro K;obtain⟨h1,h2⟩:=ih (Jy ok rd ids r K i);refine⟨fun j id hj aL=>?_,by rw[zzcz,h2,R7]⟩;rw[zzcz,h1 j id hj aL];unfold Jy;cases hi:ids[i]? with
   |none=>rfl
   |some x=>
    simp only;split
    ·rename_i hx;rw[kj,if_neg (by rintro⟨e,_⟩;subst e;rw[hi]at hj;cases hj;omega)]
    rfl
 exact key _ K
def ayr(ok:Pi->Bool)(rd:Int->Nat)(ids:Pi):(Xb false ids (Jo ok rd ids)).filter (fun id=>decide (rd id=0))=Xb false (ids.filter fun id=>decide (rd id=0)) (Jo ok rd (ids.filter fun id=>decide (rd id=0))):=by
 obtain⟨S,hS⟩:∃S,(ids.filter fun id=>decide (rd id=0))=S:=⟨_,rfl⟩;have bD:∀(L:Pi),Jo ok rd L=Jd ok rd L 2 (Jd ok rd L 1 (g0 ok rd L [])):=fun L=>by rw[Jo,R8]
 have two:∀(L:Pi),(Xb false L (Jo ok rd L)).filter (fun id=>decide (rd id=0))=(Xb false L (g0 ok rd L [])).filter (fun id=>decide (rd id=0)):=fun L=>by
  rw[bD];obtain⟨a1,a2⟩:=tC ok rd L 1 zE (g0 ok rd L []);obtain⟨b1,b2⟩:=tC ok rd L 2 zE (Jd ok rd L 1 (g0 ok rd L []));have hg:=aaM ok rd L [];refine BQ rd L _ _ zE hg fun j id hj aL=>?_;rw[b1 j id hj aL,a1 j id hj aL]
 rw[two ids,lD,hS]
 have hSf:∀id∈S,rd id=0:=fun id h=>by
  rw[<- hS]at h;simpa using(zzca.1 h).2
 have bQ:∀(L:Pi)(K:List Bool),∀x∈Xb false L K,x∈L:=by
  intro L;induction L with
  |nil=>intro K x hx;simp[Xb]at hx
  |cons y L ih=>
   intro K x hx;cases K with
   |nil=>simp[Xb]at hx
   |cons k K=>
    simp only[Xb]at hx;split at hx
    ·rcases zzam.1 hx with rfl|hx
     ·simp
     exact zzd _ (ih K x hx)
    exact zzd _ (ih K x hx)
 have aL:∀K:List Bool,(Xb false S K).filter (fun id=>decide (rd id=0))=Xb false S K:=fun K=>zzfw.2 fun x hx=>by simp[hSf x (bQ S K x hx)]
 have:=two S;rw[aL,aL]at this;exact this.symm
section
variable (P:Int->Prop) (fr low:Int)
def OkA(t:Int):Prop:=∀x,t<=x->x<t+fr->P x
structure RfI (c run last:Int):Prop where
 no:∀t,low<=t->t+fr<=c->¬OkA P fr t
 st:(run= -1/\last= -1/\∀x,low<=x->x<c->¬P x)\/(low<=run/\run<last/\last<=c/\(∀x,run<=x->x<last->P x)/\(run=low\/¬P (run-1))/\∀x,last<=x->x<c->¬P x)
end
def nlB(a b:List Sp):Bool:=a.all fun x=>b.all fun y=>!(decide (x.1=y.1)&&decide (y.2<x.2))
def Kk(w:Bool):∀(ids:Pi)(K:List Bool),(Xb w ids K).Sublist ids
 |[],K=>by cases K<;>simp[Xb]
 |id::r,[]=>by simp[Xb]
 |id::r,k::ks=>by
  rw[Xb];split
  ·exact(Kk w r ks).cons_cons id
  exact(Kk w r ks).cons id
def HS:∀{ids:Pi}{K:List Bool},K.length=ids.length->(∀j,j<ids.length->K.getD j false=true)->Xb true ids K=ids/\Xb false ids K=[]
 |[],K,_,_=>by cases K<;>exact⟨rfl,rfl⟩
 |id::r,[],h,_=>by simp at h
 |id::r,k::ks,h,hk=>by
  have h0:=hk 0 zd;simp at h0;subst h0
  obtain⟨h1,h2⟩:=HS (ids:=r) (K:=ks) (Nm h) fun j hj=>by
   have:=hk (j+1) (Nm hj);simpa using this
  simp[Xb,h1,h2]
def Ma{ok:Pi->Bool}(hm:aaK ok)(h0:ok []=true)(rd:Int->Nat)(ids:Pi)(iM:∀id∈ids,rd id<=2)(h:ok ids=true):Xb true ids (Jo ok rd ids)=ids/\Xb false ids (Jo ok rd ids)=[]:=by
 obtain⟨h1,h2,h3⟩:=choose_spec hm h0 rd ids iM;refine HS h1 fun j hj=>?_;rcases h3 j _ (zzaf hj)with h4|h4
 ·exact h4
 rw[hm _ _ (Kk true ids _) h]at h4;cases h4
def amN(n:Int):Prop:= -9223372036854775808<=n/\n<=9223372036854775807
structure Ca where
 p:Pl
 ids:Pi
 wh:Int
 at_:Int
 past:List Ad
structure PlK (p:Pl):Prop where
 cls:p.cls.length<=1000
 sh:p.sh.length<=1000
 aN:p.aN.length<=1000
 ens:p.ens.length<=1000
 bks:p.bks.length<=1000
 als:∀e∈p.ens,e.al.length<=1000
 ln: -9223372036854775808<=p.ln/\p.ln<=9223372036854775807
 ea:∀e∈p.ens,-9223372036854775808<=e.ea/\e.ea<=9223372036854775807
 la:∀e∈p.ens,-9223372036854775808<=e.la/\e.la<=9223372036854775807
 fr:∀e∈p.ens,-9223372036854775808<=e.fr/\e.fr<=2000
def PlK.spn{p:Pl}(h:PlK p):(Yx p).length<=1000:=by
 have:=qf p.aN [] [];have:=h.aN;simp only[Yx];simp at*;omega
def Hl:∀(l:List Ad)(us:List (Int×Int))(n:Int),0<=n->pN n us->pN (n+l.length) (N9 l us)
 |[],us,n,_,h=>by simpa[N9]using h
 |a::r,us,n,hn,h=>by
  rw[N9]
  have h1:pN (n+1) (if ry a=true then Vw us a.it else us):=by
   split
   ·exact h.note hn a.it
   exact fun k v hk=>by have:=h k v hk;omega
  have h2:=Hl r _ (n+1) zE h1;have:n+((a::r).length:Int)=n+1+(r.length:Int):=by simp;omega
  rw[this];exact h2
def Ho(p:Pl):∀(l:List Ad)(en:List (Int×Int)),ug en->ug (Oa p l en)
 |[],en,h=>by simpa[Oa]using h
 |a::r,en,h=>by
  rw[Oa];refine Ho p r _ ?_;cases hc:ry a with
  |false=>simpa[hc]using h
  |true=>
   simp only[if_true];refine h.note a.it _ ?_;simp[ry]at hc;omega
def Hp(l:Pi):AV:=if l=[]then .sl .nil []else .sl .ro (l.map Qy)
def gI(p:Pl)(at_:Int)(past:List Ad):Bd:=⟨p,at_,N9 past [],Oa p past [],[],[],[]⟩
def amO(p:Pl)(at_:Int)(past:List Ad):BF (gI p at_ past):=⟨fun _ _ h=>(by cases h),fun _ _ h=>(by cases h),fun _ _ h=>(by cases h)⟩
def RK(p:Pl)(id:Int):Nat:=match Xw id p.ens with
 |none=>2
 |some e=>if e.bo≠0 then 0 else match Xj e.it p.aN with
  |none=>2
  |some x=>if x.ki=1\/x.ki=4 then 1 else 2
def Ky(p:Pl)(at_:Int)(past:List Ad)(ids:Pi):List Bool:=Jo (ou (gI p at_ past)) (RK p) ids
def RN(p:Pl)(at_:Int)(past:List Ad)(ids:Pi):AV:=
 .aS [IM ((Yo p at_ past (Xb true ids (Ky p at_ past ids))).getD []),Hp (Xb false ids (Ky p at_ past ids))]
theorem va(p:Pl)(at_:Int)(past:List Ad)(ids:Pi):ou (gI p at_ past) ids=(Yo p at_ past ids).isSome:=rfl
def aaO(p:Pl)(id:Int):RK p id<=2:=by
 unfold RK;cases Xw id p.ens with
 |none=>exact zzab _
 |some e=>
  simp only;split
  ·omega
  cases Xj e.it p.aN with
  |none=>exact zzab _
  |some x=>simp only;split<;>omega
def yN(p:Pl)(at_:Int)(past:List Ad)(ids:Pi):(Ky p at_ past ids).length=ids.length/\(Yo p at_ past (Xb true ids (Ky p at_ past ids))).isSome=true/\
  ∀(j:Nat)(id:Int),ids[j]?=some id->(Ky p at_ past ids).getD j false=true\/(Yo p at_ past (Xb true ids ((Ky p at_ past ids).set j true))).isSome=false:=
 choose_spec (HR _) (OZ _) (RK p) ids fun id _=>aaO p id
def RP(p:Pl)(at_:Int)(past:List Ad)(ids:Pi)(h:(Yo p at_ past ids).isSome=true):Xb true ids (Ky p at_ past ids)=ids/\Xb false ids (Ky p at_ past ids)=[]:=
 Ma (HR _) (OZ _) (RK p) ids (fun id _=>aaO p id) h
