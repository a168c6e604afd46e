import Derived.Test.YtfliagpjbbkijaaGreatDoorVAMS
set_option linter.all false
set_option maxRecDepth 100000
set_option maxHeartbeats 64000000
namespace Go.Proofs.YtfliagpjbbkijaaGreatDoor
open Go Go.Abs
def yM{at_ n t:Int}(hn:1<=n)(ht:at_<=t):∀{l:List Sp},VS l->(∀x,t<=x->x<t+n->Xr l x)->∃s,GU at_ n l=some s/\s<=t
 |[],_,h=>by
  have:=h t (zzby _) zE;simp at this
 |a::r,hv,h=>by
  have ha:=hv.1 a zd;have hp:=zzbz.1 hv.2;have hr:VS r:=⟨fun s hs=>hv.1 s (by simp[hs]),hp.2⟩;rw[GU];by_cases c:max a.1 at_<a.2/\n<=a.2-max a.1 at_
  ·rw[if_pos c];refine⟨_,rfl,?_⟩;have h0:=h t (zzby _) zE;rw[Xd]at h0;obtain h0|⟨s,hs,h1,h2⟩:=h0
   ·omega
   have:=hp.1 s hs;omega
  rw[if_neg c]
  have aye:∀x,t<=x->x<t+n->¬(a.1<=x/\x<a.2):=by
   intro x PK hx2 hx
   have h2:¬Xr (a::r) a.2:=by
    rw[Xd];rintro(h|⟨s,hs,h1,_⟩)
    ·omega
    have:=hp.1 s hs;omega
   have h3:t+n<=a.2:=by
    rcases zzfm a.2 (t+n)with h'|h'
    ·exact absurd (h a.2 zE h') h2
    exact h'
   have h4:a.1<=t:=by
    rcases zzfm t a.1 with h'|h'
    ·have h5:=h (a.1-1) zE zE;rw[Xd]at h5;obtain h5|⟨s,hs,h6,_⟩:=h5
     ·omega
     have:=hp.1 s hs;omega
    exact h'
   exact c ⟨zE,zE⟩
  refine yM hn ht hr fun x h1 h2=>?_;have h3:=h x h1 h2;rw[Xd]at h3;exact h3.resolve_left (aye x h1 h2)
def yN{p:Pl}{it k at_ n t:Int}(hn:1<=n/\n<=1000000)(ht:at_<=t)(hk:k*1000000<=t/\t+n<=(k+2)*1000000)(h:∀x,t<=x->x<t+n->ij p it 0 x):∃s,lQ (Xz p it k) at_ n=some s/\s<=t:=by
 rw[lQ,if_neg zE];refine yM hn.1 ht (Zy _).1 fun x h1 h2=>?_;rw[(Zy _).2,Qbz];exact⟨zE,zE,h x h1 h2⟩
def afT{p:Pl}{it k at_ n s:Int}(hn:1<=n)(h:lQ (Xz p it k) at_ n=some s):s+n<=(k+2)*1000000:=by
 rw[lQ,if_neg zE]at h;obtain⟨a,ha,h1,h2,h3⟩:=DI h;have:Xr (Xj (Xz p it k)) (s+n-1):=⟨a,ha,zE,zE⟩;rw[(Zy _).2,Qbz]at this;omega
def BZ{p:Pl}{e:En}{last from_ n t:Int}(he:1<=e.fr/\e.fr<=1000000)(h1:from_<=t)(h2:t<=last)(h3:n*1000000<=t)(h:∀x,t<=x->x<t+e.fr->ij p e.it 0 x):∃s,S5 p e last from_ n=some s/\s<=t:=by
 rw[S5,if_pos zE];cases hs:lQ (Xz p e.it n) from_ e.fr with
 |none=>
  simp only;refine BZ he h1 h2 ?_ h;rcases zzfm t ((n+1)*1000000)with h'|h'
  ·obtain⟨s,ef,_⟩:=yN (p:=p) (it:=e.it) (k:=n) he h1 ⟨h3,zE⟩ h;rw[hs]at ef;cases ef
  exact h'
 |some s=>
  simp only;have bU:=afT he.1 hs
  have cc:s<=t:=by
   rcases zzfm ((n+2)*1000000) (t+e.fr)with h'|h'
   ·omega
   obtain⟨s',ef,cR⟩:=yN (p:=p) (it:=e.it) (k:=n) he h1 ⟨h3,h'⟩ h;rw[hs]at ef;cases ef;exact cR
  rw[if_neg zE];exact⟨s,rfl,cc⟩
termination_by(last-n*1000000+1000000).toNat
decreasing_by omega
def D9{p:Pl}{e:En}{from_ t:Int}(he:1<=e.fr/\e.fr<=1000000)(h1:from_<=t)(h0:0<=t)(h2:t<=e.la/\t+e.fr<=p.ln/\t<=100000000)(h:∀x,t<=x->x<t+e.fr->ij p e.it 0 x):∃s,Yc p e from_=some s/\s<=t:=by
 rw[Yc,if_neg zE];refine BZ he zE (by simp only[mC];omega) ?_ h;have hm:0<=max from_ 0:=zE
 rw[zzcj hm];omega
def LeU(us' us:List (Int×Int)):Prop:=∀k,(af k us').getD 0<=(af k us).getD 0
def LeE(en' en:List (Int×Int)):Prop:=∀k v',af k en'=some v'->∃v,af k en=some v/\v'<=v
def LeE.refl(en:List (Int×Int)):LeE en en:=fun k v h=>⟨v,h,zzby _⟩
def LeU.note{us' us:List (Int×Int)}(h:LeU us' us)(it:Int):LeU (Vs us' it) (Vs us it):=fun k=>by
 rw[Vs,Vs,Uy,Uy];have:=h it;split
 ·simp;omega
 exact h k
def LeU.skip{us' us:List (Int×Int)}(h:LeU us' us)(it:Int):LeU us' (Vs us it):=fun k=>by
 rw[Vs,Uy];split
 ·rename_i e;have:=h it;rw[e];simp;omega
 exact h k
def LeE.note{p p':Pl}{en' en:List (Int×Int)}(h:LeE en' en)(it:Int){e' e:Int}(he:e'<=e)(h0:0<=e')(hp:Xg it p'.aO=Xg it p.aO):LeE (Zn p' en' it e') (Zn p en it e):=fun k v' hk=>by
 unfold Zn at hk |-
 rw[hp]at hk;cases hf:Xg it p.aO with
 |none=>rw[hf]at hk;exact h k v' hk
 |some x=>
  rw[hf]at hk;simp only[Uy]at hk |-
  split at hk
  ·rename_i YA;cases hk;refine⟨_,by rw[if_pos YA],?_⟩;cases h1:af x.sp en' with
   |none=>
    cases h2:af x.sp en with
    |none=>simp;omega
    |some v=>simp;omega
   |some v1=>
    obtain⟨v,hv,cR⟩:=h _ _ h1;rw[hv];simp;omega
  rename_i YA;obtain⟨v,hv,cR⟩:=h k v' hk;exact⟨v,by rw[if_neg YA];exact hv,cR⟩
def LeE.skip{p:Pl}{en' en:List (Int×Int)}(h:LeE en' en)(it e:Int):LeE en' (Zn p en it e):=fun k v' hk=>by
 obtain⟨v,hv,cR⟩:=h k v' hk;unfold Zn;cases hf:Xg it p.aO with
 |none=>exact⟨v,hv,cR⟩
 |some x=>
  simp only[Uy];split
  ·rename_i YA;subst YA;exact⟨_,rfl,by rw[hv];simp;omega⟩
  exact⟨v,hv,cR⟩
def yO{en' en:List (Int×Int)}(h:LeE en' en):∀(l:List Sp){f' f:Int},f'<=f->Uf en' l f'<=Uf en l f
 |[],_,_,hf=>hf
 |r::l,f',f,hf=>by
  rw[Uf,Uf];refine yO h l ?_;cases h1:af r.1 en' with
  |none=>
   cases h2:af r.1 en with
   |none=>exact hf
   |some v=>simp only;omega
  |some v1=>
   obtain⟨v,hv,cR⟩:=h _ _ h1;rw[hv];simp only;omega
structure afU (p' p:Pl):Prop where
 aO:p'.aO=p.aO
 ens:p'.ens=p.ens
 ln:p'.ln=p.ln
 runs:∀it,Wn p' it=Wn p it
 riv:∀it,Kr p' it=Kr p it
 perm:∀it x,ij p it 0 x->ij p' it 0 x
def afU.refl(p:Pl):afU p p:=⟨rfl,rfl,rfl,fun _=>rfl,fun _=>rfl,fun _ _ h=>h⟩
inductive B5:List Sp->List Sp->Prop
 |nil (l:List Sp):B5 [] l
 |skip {l' l:List Sp} (s:Sp):B5 l' l->B5 l' (s::l)
 |cons {l' l:List Sp} (id s' s:Int):s'<=s->B5 l' l->B5 ((id,s')::l') ((id,s)::l)
def Sc{p' p:Pl}(hm:afU p' p){afV ids:P2}(alS:afV.Sublist ids):∀{us' us en' en:List (Int×Int)}{free' free last' last:Int}{l:List Sp},LeU us' us->LeE en' en->free'<=free->last'<=last->Jg p ids us en free last=some l->
  ∃l',Jg p' afV us' en' free' last'=some l'/\B5 l' l:=by
 induction alS with
 |slnil=>
  intro us' us en' en free' free last' last l _ _ _ _ h;exact⟨[],rfl,.nil _⟩
 |@cons afV ids id _ ih=>
  intro us' us en' en free' free last' last l hu he hf hla h;rw[Jg]at h;cases hk:Ag id p.ens 0 with
  |none=>rw[hk]at h;cases h
  |some k=>
   rw[hk]at h;simp only at h;split at h
   ·cases h
   rename_i sM;cases hx:p.ens[k]? with
   |none=>rw[hx]at h;cases h
   |some e=>
    rw[hx]at h;simp only at h;split at h
    ·cases h
    cases hs:Yc p e (Uf en (Kr p e.it) (max e.ea free))with
    |none=>rw[hs]at h;cases h
    |some s=>
     rw[hs]at h;simp only at h;cases hg:Jg p ids (Vs us e.it) (Zn p en e.it (s+e.fr)) (s+e.fr) k with
     |none=>rw[hg]at h;cases h
     |some r=>
      rw[hg]at h;cases h;obtain⟨a1,a2,_⟩:=Qau hs;have gG:=GV en (Kr p e.it) (max e.ea free);obtain⟨l',h1,h2⟩:=ih (hu.skip e.it) (he.skip e.it (s+e.fr)) (free':=free') zE (last':=last') zE hg;exact⟨l',h1,.skip _ h2⟩
 |@cons_cons afV ids id _ ih=>
  intro us' us en' en free' free last' last l hu he hf hla h;rw[Jg]at h;rw[Jg,hm.ens];cases hk:Ag id p.ens 0 with
  |none=>rw[hk]at h;cases h
  |some k=>
   rw[hk]at h;simp only at h |-
   split at h
   ·cases h
   rename_i sM;rw[if_neg zE];cases hx:p.ens[k]? with
   |none=>rw[hx]at h;cases h
   |some e=>
    rw[hx]at h;simp only at h |-
    split at h
    ·cases h
    rename_i hr;have hue:=hu e.it;rw[hm.runs,hm.riv,if_neg (by intro hh;exact hr ⟨hh.1,zE⟩)];cases hs:Yc p e (Uf en (Kr p e.it) (max e.ea free))with
    |none=>rw[hs]at h;cases h
    |some s=>
     rw[hs]at h;simp only at h;cases hg:Jg p ids (Vs us e.it) (Zn p en e.it (s+e.fr)) (s+e.fr) k with
     |none=>rw[hg]at h;cases h
     |some r=>
      rw[hg]at h;cases h;obtain⟨a1,a2,a3,a4,a5,a6,a7⟩:=Qau hs;have hfm:=yO he (Kr p e.it) (show max e.ea free'<=max e.ea free by omega);obtain⟨s',ef,cR⟩:=D9 (p:=p') (from_:=Uf en' (Kr p e.it) (max e.ea free')) a1 zE a3 ⟨a4,by rw[hm.ln];exact a5,a6⟩ (fun x h1 h2=>hm.perm _ _ (a7 x h1 h2));have cA:=Qau ef;rw[ef];simp only;obtain⟨l',h1,h2⟩:=ih (hu.note e.it) (he.note e.it (e':=s'+e.fr) (e:=s+e.fr) zE zE (by rw[hm.aO])) (free':=s'+e.fr) zE (last':=(k:Int)) (zzby _) hg;rw[h1];exact⟨_,rfl,.cons id s' s cR h2⟩
def HQ{l:P1}{n:Nat}(h:l.Nodup)(hb:∀i∈l,i<n):l.length<=n:=by
 have hp:l.Perm ((List.range n).filter fun i=>decide (i∈l)):=by
  rw[zzgl h (zzdo.filter _)];intro i;simp only[zzcr,zzba,decide_eq_true_eq];exact⟨fun hi=>⟨hb i hi,hi⟩,fun hi=>hi.2⟩
 rw[hp.length_eq];refine zzb (zzca _ _) ?_;simp
def OW(id:Nat)(m:AM):Nat:=match Qg m.boxes id with
 |[.mitr _ _ s]=>s.length
 |_=>0
def afW{α:Type}{row:α->AV}{L:List (Int×α)}{i:Nat}{k:P2}{c:AV}(h:(bF row L)[i]?=some (k,c)):∃o x,L[i]?=some (o,x)/\k=[o]/\c=row x/\(bF row L).getD i ([],.junk)=([o],row x)/\i<L.length:=by
 have hg:(bF row L).getD i ([],.junk)=(k,c):=by rw[zzaw,h];rfl
 rw[bF,zzbf]at h;cases hL:L[i]? with
 |none=>rw[hL]at h;cases h
 |some y=>
  rw[hL]at h;cases h;exact⟨y.1,y.2,rfl,rfl,rfl,hg,(zza.1 hL).1⟩
def Mp(p:Pl)(it:Int)(L:List (Int×Int))(o x:Int):xS p it (L++[(o,x)])=if 0<Jw p x it then xS p it L++[(o,Jw p x it)]else xS p it L:=by
 unfold xS;rw[List.filterMap_append];by_cases h:0<Jw p x it
 ·rw[if_pos h];simp[h]
 rw[if_neg h];simp[h]
def HR{m:AM}{K:UV}{id mid n kn:Nat}{seen:P1}{kvs:List (P2×AV)}(h1:Qg m.boxes id=[.mitr mid n seen])(h2:Qg m.boxes mid=[.aL kn kvs])(h:kvs.length=n)
  (hs:∀i k c,kvs[i]?=some (k,c)->i ∉ seen->K (.aQ [.bool true,keyAV kn k,c]) {m with boxes:=m.boxes.set id [.mitr mid n (seen++[i])]})(he:(∀i,i<n->i∈seen)->K (.aQ [.bool false]) m):vcNxt m K (.it id):=by
 simp only[vcNxt,Vu,h1,h2];exact⟨h,hs,he⟩
def OX(p:Pl)(it:Int):X1:=fun _ f l=>if f=187 then(match l with|[_,.int _ x,_]=>I (Jw p x it)|_=>.junk)else .junk
def ate(pre:X2)(b:Bd)(post:X2)(ls:P1)(it:Int)(f:Nat->AV)(m:AM):Prop:=∃(seen:P1)(l:List Sp)(rt:Rt)(exl:P1),
 seen.Nodup/\(∀i∈seen,i<(Yx b.p).length)/\l=xS b.p it (atL (0,0) (Yx b.p) seen)/\f 8=.sl rt (l.map Qe)/\(l=[]/\rt=.nil/\exl=[]\/l≠[]/\rt=.own ls.length 2/\exl=[l.length])/\
 m=aP pre b (post++[[.mitr (pre.length+3) (Yx b.p).length seen]]) (ls++exl)
def HS(pre post:X2)(ls:P1)(b:Bd)(it:Int)(hc:b.p.cls.length<=1000000000)(cN:b.p.aO.length<=1000000000)(Gr:(Yx b.p).length<=1000000000)(I2:ae3 b)(Y:YT)(K:UV)
  (hK:∀(rv:List (Int×(Rt×List Sp)))(ex:X2)(exl:P1)(rt:Rt)(l:List Sp),ae3 {b with rv:=rv}->l.Perm (Kr b.p it)->K (.sl rt (l.map Qe)) (aP pre {b with rv:=rv} (post++ex) (ls++exl))):
  aA Tryz.prog aD Y 140 [.ptr (pre.length+9) 0,I it] (aP pre b post ls) K:=by
 have nil:Kr b.p it=[]->K (.sl .nil []) (aP pre b post ls):=fun h=>by
  have:=hK b.rv [] [] .nil [] I2 (by rw[h]);simpa using this
 refine Xh acB (OX b.p it) zd ?_
 have ayf:∃r,Xi [it] (bF rM (Af b.p)) 0=r/\((∃n y,Xg it b.p.aO=some y/\r=some (n,rM y))\/(Xg it b.p.aO=none/\r=none)):=by
  rcases Xu rM it (Af b.p) 0 with⟨h1,h2,_,_⟩|⟨u,n,h1,h2,_⟩
  ·rw[uR]at h1;exact⟨_,rfl,.inr ⟨h1,h2⟩⟩
  rw[uR]at h1;exact⟨_,rfl,.inl ⟨_,u,h1,h2⟩⟩
 obtain⟨r,hr,Ri⟩:=ayf;obtain⟨n,y,hf,rfl⟩|⟨hf,rfl⟩:=Ri
 ·rcases Xu iA y.sp (Yx b.p) 0 with⟨s1,s2,_,_⟩|⟨su,sn,s1,s2,_⟩
  ·simp[AD,EU,aP,bh,Qp,Qa,hr,rM,Qm,s2];exact nil (by simp[Kr,hf,s1])
  have hrl:Kr b.p it=xS b.p it (Yx b.p):=by simp[Kr,hf,s1,xS]
  rcases Xu rvA y.sp b.rv 0 with⟨m1,m2,_,m4⟩|⟨mu,mn,m1,m2,_⟩
  ·simp[AD,aP,bh,Qp,Qa,hr,rM,Qm,s2,m2];refine Qj vr (ate pre b post ls it) (fun _ m=>(Yx b.p).length-OW (pre.length+(post.length+10)) m) ?_ ?_
   ·exact⟨[],[],.nil,[],List.nodup_nil,zd,rfl,zd,.inl ⟨rfl,rfl,rfl⟩,by simp[aP,bh,Qp,Qa]⟩
   rintro f m ⟨seen,l,rt,exl,hn,hb,hl,h8,bk,rfl⟩;have iZ:seen.length<=(Yx b.p).length:=HQ hn hb;simp[-vcNxt,aP,bh,Qp,Qa,vr];refine HR (mid:=pre.length+3) (n:=(Yx b.p).length) (kn:=0) (seen:=seen) (kvs:=bF iA (Yx b.p)) ?_ ?_ ?_ (fun i k c hi hns=>?_) fun bD=>?_
   ·simp
   ·simp
   ·simp
   ·obtain⟨o,x,hx,rfl,rfl,VH,aa⟩:=afW hi
    have bu:(bF iA (Yx b.p))[i]'(Pi aa)=([o],iA x):=by
     have:=zza.1 hi;exact this.2
    have amR:=amo b.p x it hc cN;have qD:(seen++[i]).Nodup:=List.nodup_append.2 ⟨hn,zd,fun a ha c hc=>by simp at hc;subst hc;rintro rfl;exact hns ha⟩
    have cA:∀j∈seen++[i],j<(Yx b.p).length:=fun j hj=>by
     rcases zzap.1 hj with h|h
     ·exact hb j h
     simp at h;subst h;exact aa
    have cR:seen.length+1<=(Yx b.p).length:=by simpa using HQ qD cA
    have hxo:(Yx b.p).getD i (0,0)=(o,x):=by rw[zzaw,hx];rfl
    have SP:atL (0,0) (Yx b.p) (seen++[i])=atL (0,0) (Yx b.p) seen++[(o,x)]:=by
     simp only[atL,zzch,zzay,zzcu,hxo]
    have FB:=Mp b.p it (atL (0,0) (Yx b.p) seen) o x;rw[<- SP,<- hl]at FB;by_cases hg:0<Jw b.p x it
    ·rw[if_pos hg]at FB
     have EB:l.length<=(Yx b.p).length:=by
      rw[hl];refine zzb (zzgu _ _) ?_;simp only[atL,zzbu];exact iZ
     obtain⟨rfl,rfl,rfl⟩|⟨ov,rfl,rfl⟩:=bk
     ·simp[keyAV,hi,bu,aa,OX,hg,h8,vr,OW];refine⟨by simpa[Qa]using amR,aR,⟨seen++[i],_,_,[1],qD,cA,rfl,by simp[FB,Qe],.inr ⟨by simp[FB],rfl,by simp[FB]⟩,by simp[aP,bh,Qp,Qa]⟩,zE⟩
     simp[keyAV,hi,bu,aa,OX,hg,h8,vr,OW];refine⟨by simpa[Qa]using amR,⟨?_,zE⟩,aR,⟨seen++[i],_,_,[l.length+1],qD,cA,rfl,by simp[FB,Qe],.inr ⟨by simp[FB],rfl,by simp[FB]⟩,by simp[aP,bh,Qp,Qa]⟩,zE⟩
     ·rintro row (⟨a,b,_,rfl⟩|rfl)<;>rfl
    rw[if_neg hg]at FB;simp[keyAV,hi,bu,aa,OX,hg,h8,vr,OW];refine⟨by simpa[Qa]using amR,aR,⟨seen++[i],l,rt,exl,qD,cA,FB.symm,by simp[h8],bk,by simp[aP,bh,Qp,Qa]⟩,zE⟩
   have hpm:l.Perm (Kr b.p it):=by
    rw[hl,hrl];exact(ae4 _ _ _ hn bD hb).filterMap _
   have ayg:ae3 {b with rv:=Vi y.sp (rt,l) b.rv}:=fun k x h it' y' hf' dA=>by
    rw[Uy]at h;split at h
    ·rename_i e;cases h;rw[ae6 hf' hf (by rw[dA,e])];exact hpm
    exact I2 k x h it' y' hf' dA
   have:=hK _ [[.mitr (pre.length+3) (Yx b.p).length seen]] exl rt l ayg hpm;have m4':bF rvA b.rv++[([y.sp],.sl rt (l.map Qe))]=bF rvA (Vi y.sp (rt,l) b.rv):=m4 (rt,l);simp[h8,m2,EU];rw[m4'];simpa[aP,bh,Qp,Qa]using this
  simp[AD,EU,aP,bh,Qp,Qa,hr,rM,Qm,s2,m2,rvA];have:=hK b.rv [] [] mu.1 mu.2 I2 (I2 _ _ m1 it y hf rfl);simpa[aP,bh,Qp,Qa]using this
 have s2:Xi [0] (bF iA (Yx b.p)) 0=none:=by
  rcases Xu iA 0 (Yx b.p) 0 with⟨_,s2,_,_⟩|⟨su,sn,s1,_⟩
  ·exact s2
  rw[Yx,xU _ _ _ rfl]at s1;cases s1
 simp[AD,EU,aP,bh,Qp,Qa,hr,s2];exact nil (by simp[Kr,hf])
def Ak(pre:X2)(p:Pl)(at_:Int)(pl:List (Int×Int))(im:List (Int×It))(sp:List (Int×Int))(post:X2)(ls:P1):AM:=
 ⟨pre++(Qa p::[.aL 0 (bF iA pl)]::[.aL 0 (bF rM im)]::[.aL 0 (bF iA sp)]::[.aL 0 []]::[.aL 0 []]::[.aL 0 []]::[.aL 0 []]::[.aL 2 []]::Qp pre.length ⟨p,at_,[],[],[],[],[]⟩::post),ls,fun _=>.gone,0⟩
def ayh(pre:X2)(p:Pl)(at_:Int)(ls:P1)(f:Nat->AV)(m:AM):Prop:=∃(i:Nat)(pl:List (Int×Int))(post:X2),f 36=I i/\i<=p.ens.length/\GR (p.ens.drop i) i pl=DH p/\m=Ak pre p at_ pl [] [] post ls
def ayi(pre:X2)(p:Pl)(at_:Int)(ls:P1)(f:Nat->AV)(m:AM):Prop:=∃(i:Nat)(im:List (Int×It))(sp:List (Int×Int))(post:X2),f 67=I i/\i<=p.aO.length/\Lu (p.aO.drop i) im=Af p/\Ae (p.aO.drop i) im sp=Yx p/\m=Ak pre p at_ (DH p) im sp post ls
def ayj(pre:X2)(p:Pl)(at_:Int)(past:List Ad)(ls:P1)(f:Nat->AV)(m:AM):Prop:=∃(i:Nat)(us en:List (Int×Int))(post:X2),f 108=I i/\i<=past.length/\p5 i us/\Ov (past.drop i) us=Ov past []/\Ow p (past.drop i) en=Ow p past []/\m=aP pre ⟨p,at_,us,en,[],[],[]⟩ post ls
def I4:X1:=fun _ f _=>if f=999999 then .junk else .gd false .junk
def yH(pre:X2)(ls:P1)(p:Pl)(at_:Int)(past:List Ad)(rtp:Rt)(IZ:p.ens.length<=1000000000)(cN:p.aO.length<=1000000000)(kz:past.length<=1000000000)(Y:YT)(K:UV)
  (hK:∀ex,K (.ptr (pre.length+9) 0) (aP pre ⟨p,at_,Ov past [],Ow p past [],[],[],[]⟩ ex ls)):
  aA Tryz.prog aD Y 84 [.agg (Qa p),I at_,.sl rtp (past.map Vj)] ⟨pre,ls,fun _=>.gone,0⟩ K:=by
 refine Xh ak2 I4 zd ?_;simp[Tq,Qa,I4];refine Qj MY (ayh pre p at_ ls) (fun f _=>p.ens.length-(numOf (f 36)).toNat) ?_ ?_
 ·exact⟨0,[],[],zd,zE,rfl,by simp[Ak,Qp,Qa]⟩
 rintro f m ⟨i,pl,post,h36,hi,kK,rfl⟩;rcases zzab i p.ens.length with aa|bu
 ·obtain⟨e,he⟩:=aY aa;have ai:=Qda he;have ah:(i:Int)<(p.ens.length:Int):=zE
  have hw:=bR i zE;rw[Zb he,GR]at kK;rcases Xu iA e.id pl 0 with⟨h1,h2,_,h4⟩|⟨u,n,h1,h2,_⟩
  ·rw[h1]at kK;have S7:bF iA pl++[([e.id],I i)]=bF iA (Vi e.id (i:Int) pl):=h4 _;simp[h36,aa,ah,ai,Qd,Ak,Qp,Qa,h2,MY,hw];refine⟨aR,⟨i+1,_,post++[Qd e],zd,zE,kK,?_⟩,zE⟩
   ·rw[S7];simp[Ak,Qp,Qa,Qd]
  rw[h1]at kK;simp[h36,aa,ah,ai,Qd,Ak,Qp,Qa,h2,MY,hw];refine⟨aR,⟨i+1,pl,post++[Qd e],zd,zE,kK,by simp[Ak,Qp,Qa,Qd]⟩,zE⟩
 have bU:¬(i:Int)<(p.ens.length:Int):=zE
 rw[zzam bu,GR]at kK;subst kK;simp[h36,bU,zzbn.2 bu,MY,Ak,Qp,Qa,I4];refine Qj sB (ayi pre p at_ ls) (fun f _=>p.aO.length-(numOf (f 67)).toNat) ?_ ?_
 ·exact⟨0,[],[],post,zd,zE,rfl,rfl,by simp[Ak,Qp,Qa]⟩
 clear bu bU hi h36;rintro g m ⟨i,im,sp,post,h67,hi,Sd,dA,rfl⟩;rcases zzab i p.aO.length with aa|bu
 ·obtain⟨x,hx⟩:=aY aa;have ai:Qg (p.aO.map Qm) i=Qm x:=Qv (by simp[hx]);have ah:(i:Int)<(p.aO.length:Int):=zE
  have hw:=bR i zE;rw[Zb hx,Lu]at Sd;rw[Zb hx,Ae]at dA;simp[h67,aa,ah,ai,Qm,Ak,Qp,Qa,sB,hw,I4];refine Ui ?_;rcases Xu rM x.id im 0 with⟨h1,h2,_,h4⟩|⟨u,n,h1,h2,_⟩
  ·rw[h1]at Sd dA;have S7:bF rM im++[([x.id],.agg [I x.id,I x.ki,I x.fr,I x.sp,I x.ra])]=bF rM (Vi x.id x im):=h4 x;simp only at Sd dA;by_cases s1:1<=x.sp
   ·by_cases s2:x.sp<=200
    ·rw[if_pos ⟨s1,s2⟩]at dA;rcases Xu iA x.sp sp 0 with⟨_,q2,_,q4⟩|⟨u,n,_,q2,_,_,_,q4⟩
     ·have q4':bF iA sp++[([x.sp],I x.id)]=bF iA (Vi x.sp x.id sp):=q4 _;simp[h67,aa,ah,ai,Qm,Ak,Qp,Qa,sB,hw,I4,h2,s1,s2,q2];refine⟨aR,⟨i+1,Vi x.id x im,Vi x.sp x.id sp,post++[Qm x,[I 0,I 0,I 0,I 0,I 0]],zd,zE,Sd,dA,?_⟩,zE⟩
      ·rw[S7,q4'];simp[Ak,Qp,Qa,Qm]
     have q4':(bF iA sp).set n ([x.sp],I x.id)=bF iA (Vi x.sp x.id sp):=q4 _;rw[zzbm]at q2;simp[h67,aa,ah,ai,Qm,Ak,Qp,Qa,sB,hw,I4,h2,s1,s2,q2];refine⟨aR,⟨i+1,Vi x.id x im,Vi x.sp x.id sp,post++[Qm x,[I 0,I 0,I 0,I 0,I 0]],zd,zE,Sd,dA,?_⟩,zE⟩
     ·rw[S7,q4'];simp[Ak,Qp,Qa,Qm]
    rw[if_neg (fun h=>s2 h.2)]at dA;simp[h67,aa,ah,ai,Qm,Ak,Qp,Qa,sB,hw,I4,h2,s1,s2];refine⟨aR,⟨i+1,Vi x.id x im,sp,post++[Qm x,[I 0,I 0,I 0,I 0,I 0]],zd,zE,Sd,dA,?_⟩,zE⟩
    ·rw[S7];simp[Ak,Qp,Qa,Qm]
   rw[if_neg (fun h=>s1 h.1)]at dA;simp[h67,aa,ah,ai,Qm,Ak,Qp,Qa,sB,hw,I4,h2,s1];refine⟨aR,⟨i+1,Vi x.id x im,sp,post++[Qm x,[I 0,I 0,I 0,I 0,I 0]],zd,zE,Sd,dA,?_⟩,zE⟩
   ·rw[S7];simp[Ak,Qp,Qa,Qm]
  rw[h1]at Sd dA;simp[h67,aa,ah,ai,Qm,Ak,Qp,Qa,sB,hw,I4,h2,rM];refine⟨aR,⟨i+1,im,sp,post++[Qm x,Qm u],zd,zE,Sd,dA,by simp[Ak,Qp,Qa,Qm]⟩,zE⟩
 have bU:¬(i:Int)<(p.aO.length:Int):=zE
 rw[zzam bu]at Sd dA;have Sd:im=Af p:=Sd;have dA:sp=Yx p:=dA;subst Sd;subst dA;simp[h67,bU,zzbn.2 bu,sB,Ak,Qp,Qa,I4];refine Qj oF (ayj pre p at_ past ls) (fun f _=>past.length-(numOf (f 108)).toNat) ?_ ?_
 ·exact⟨0,[],[],post,zd,zE,fun k v h=>(by cases h),rfl,rfl,by simp[aP,bh,Qp,Qa,S6]⟩
 clear bu bU hi h67;rintro h m ⟨i,us,en,post,h108,hi,hus,hu,he,rfl⟩;rcases zzab i past.length with aa|bu
 ·obtain⟨a,ha⟩:=aY aa;have ai:Qg (past.map Vj) i=Vj a:=Qv (by simp[ha]);have ah:(i:Int)<(past.length:Int):=zE
  have hw:=bR i zE;rw[Zb ha,Ov]at hu;rw[Zb ha,Ow]at he;have aau:p5 (i+1:Nat) us:=fun k v h=>by have:=hus k v h;omega
  have skip:rJ a=false->Ov (past.drop (i+1)) us=Ov past []/\Ow p (past.drop (i+1)) en=Ow p past []:=fun h=>by
   rw[h]at hu he;exact⟨hu,he⟩
  by_cases c1:a.re=0
  ·by_cases c2:0<=a.fr
   ·by_cases c3:a.fr<=100000000
    ·by_cases c4:1<=a.fs
     ·by_cases c5:a.fs<=100000000
      ·have hc:rJ a=true:=by simp[rJ];omega
       rw[hc]at hu he;simp only[if_true]at hu he;have hwa:IntKind.i64.wrap (a.fr+a.fs)=a.fr+a.fs:=by rw[Qi]<;>omega
       simp[h108,aa,ah,ai,Vj,aP,bh,Qp,Qa,oF,hw,I4,c1,c2,c3,c4,c5,hwa];have kn:=afe pre (post++[Vj a]) ls ⟨p,at_,us,en,[],[],[]⟩ us en a.it (a.fr+a.fs) (fun k v h=>by have:=hus k v h;omega) Y;simp only[aP,bh,Qp,Qa,Vj,c1]at kn;refine kn _ fun ex=>?_;simp[h108,oF,hw];refine⟨aR,⟨i+1,Vs us a.it,Zn p en a.it (a.fr+a.fs),post++[[I a.it,I 0,I a.fr,I a.fs]]++ex,zd,zE,?_,hu,he,by simp[aP,bh,Qp,Qa]⟩,zE⟩
       ·have:=hus.note zE a.it;exact this
      obtain⟨hu,he⟩:=skip (by simp[rJ];omega);simp[h108,aa,ah,ai,Vj,aP,bh,Qp,Qa,oF,hw,I4,c1,c2,c3,c4,c5];refine⟨aR,⟨i+1,us,en,post++[[I a.it,I 0,I a.fr,I a.fs]],zd,zE,aau,hu,he,by simp[aP,bh,Qp,Qa]⟩,zE⟩
     obtain⟨hu,he⟩:=skip (by simp[rJ];omega);simp[h108,aa,ah,ai,Vj,aP,bh,Qp,Qa,oF,hw,I4,c1,c2,c3,c4];refine⟨aR,⟨i+1,us,en,post++[[I a.it,I 0,I a.fr,I a.fs]],zd,zE,aau,hu,he,by simp[aP,bh,Qp,Qa]⟩,zE⟩
    obtain⟨hu,he⟩:=skip (by simp[rJ];omega);simp[h108,aa,ah,ai,Vj,aP,bh,Qp,Qa,oF,hw,I4,c1,c2,c3];refine⟨aR,⟨i+1,us,en,post++[[I a.it,I 0,I a.fr,I a.fs]],zd,zE,aau,hu,he,by simp[aP,bh,Qp,Qa]⟩,zE⟩
   obtain⟨hu,he⟩:=skip (by simp[rJ];omega);simp[h108,aa,ah,ai,Vj,aP,bh,Qp,Qa,oF,hw,I4,c1,c2];refine⟨aR,⟨i+1,us,en,post++[[I a.it,I 0,I a.fr,I a.fs]],zd,zE,aau,hu,he,by simp[aP,bh,Qp,Qa]⟩,zE⟩
  obtain⟨hu,he⟩:=skip (by simp[rJ,c1]);simp[h108,aa,ah,ai,Vj,aP,bh,Qp,Qa,oF,hw,I4,c1];refine⟨aR,⟨i+1,us,en,post++[[I a.it,I a.re,I a.fr,I a.fs]],zd,zE,aau,hu,he,by simp[aP,bh,Qp,Qa]⟩,zE⟩
 have bU:¬(i:Int)<(past.length:Int):=zE
 rw[zzam bu]at hu he;have hu:us=Ov past []:=hu;have he:en=Ow p past []:=he;subst hu;subst he;simp[h108,bU,zzbn.2 bu,oF,apt];simpa[aP,bh,Qp,Qa,S6]using hK post
def BU(b:Bd):Prop:=amq b/\ae3 b/\Lw b
def D4{α:Type}(sz:Nat)(lo:Nat)(ls:P1)(rt:Rt)(l:List α):Prop:=(l=[]/\rt=.nil)\/∃k,rt=.own k sz/\lo<=k/\ls[k]?=some l.length/\l≠[]
def D4.app{α:Type}{sz lo:Nat}{ls exl:P1}{rt:Rt}{l:List α}(h:D4 sz lo ls rt l):D4 sz lo (ls++exl) rt l:=by
 obtain h|⟨k,h1,h2,h3,h4⟩:=h
 ·exact .inl h
 exact .inr ⟨k,h1,h2,by rw[zzak (zza.1 h3).1];exact h3,h4⟩
def afX(p:Pl)(a b:Int):0<=Jw p a b/\Jw p a b<=6000000000:=by
 unfold Jw;cases Xg a p.aO with
 |none=>simp
 |some x=>
  cases Xg b p.aO with
  |none=>simp
  |some y=>
   simp only;split
   ·omega
   rename_i h;simp only[not_or]at h;have hv:Vg p.nu p.de=true:=by simpa using h.2.1
   obtain⟨v1,v2,v3,v4,v5⟩:=Jp hv;have hg:=Oy x.sp y.sp p.cls 0 zE;generalize pY x.sp y.sp p.cls 0=g at hg;rw[wX,if_pos ⟨hv,zE,zE⟩];have hp:=Ds hg ⟨(by omega:0<=p.nu),v2⟩;have:=Dt (x:=g*p.nu+p.de-1) (y:=p.de) zE zE;omega
def u5{p:Pl}{it:Int}:∀r∈Kr p it,0<=r.2/\r.2<=6000000000:=fun r hr=>by
 unfold Kr at hr;cases hf:Xg it p.aO with
 |none=>rw[hf]at hr;cases hr
 |some y=>
  rw[hf]at hr;simp only at hr;cases ha:af y.sp (Yx p)with
  |none=>rw[ha]at hr;cases hr
  |some _=>
   rw[ha]at hr;simp only[zzfk]at hr;obtain⟨x,_,hx⟩:=hr;split at hx
   ·cases hx;exact afX p _ _
   cases hx
def HT(p:Pl)(it:Int):(Kr p it).length<=(Yx p).length:=by
 unfold Kr;cases Xg it p.aO with
 |none=>simp
 |some y=>
  simp only;cases af y.sp (Yx p)with
  |none=>simp
  |some _=>exact zzgu _ _
def uj(en:List (Int×Int)):Prop:=∀k v,af k en=some v->0<=v/\v<=1000000000
def uj.note{p:Pl}{en:List (Int×Int)}(h:uj en)(it e:Int)(he:0<=e/\e<=1000000000):uj (Zn p en it e):=fun k v hk=>by
 unfold Zn at hk;cases hf:Xg it p.aO with
 |none=>rw[hf]at hk;exact h k v hk
 |some x=>
  rw[hf]at hk;simp only[Uy]at hk;split at hk
  ·cases hk;cases ha:af x.sp en with
   |none=>simp;omega
   |some u=>have:=h _ u ha;simp;omega
  exact h k v hk
def yP{en:List (Int×Int)}(h:uj en):∀{l:List Sp}{f M:Int},(∀r∈l,0<=r.2/\r.2<=6000000000)->f<=M->7000000000<=M->Uf en l f<=M
 |[],f,M,_,h1,_=>h1
 |r::l,f,M,hl,h1,h2=>by
  rw[Uf];refine yP h (fun x hx=>hl x (by simp[hx])) ?_ h2;have:=hl r zd;cases ha:af r.1 en with
  |none=>exact h1
  |some e=>have:=h _ e ha;simp only;omega
def aav(l:List Sp):Option (List Sp)->Option (List Sp)
 |none=>none
 |some r=>some (l++r)
def amS(pre post:X2)(ls:P1)(b:Bd)(ids:P2)(N:Int)(T:Option (List Sp))(f:Nat->AV)(m:AM):Prop:=
 ∃(i:Nat)(us en:List (Int×Int))(free last:Int)(l:List Sp)(rt:Rt)(rv:List (Int×(Rt×List Sp)))(li:List (Int×Int))(pm:List ((Int×Int)×List Sp))(bx:X2)(exl:P1),
  f 39=I i/\i<=ids.length/\f 8=I free/\f 9=I last/\f 10=.sl rt (l.map Qe)/\l.length=i/\(-1<=last/\last<=1000000000)/\free<=9223372036854775807/\p5 (N+i) us/\uj en/\D4 2 ls.length (ls++exl) rt l/\BU {b with rv:=rv,li:=li,pm:=pm}/\
  aav l (Jg b.p (ids.drop i) us en free last)=T/\m=aP pre {b with rv:=rv,li:=li,pm:=pm} (post++([.aL 0 (bF iA us)]::[.aL 0 (bF iA en)]::bx)) (ls++exl)
def ajx(pre post bx0:X2)(e:En)(ls:P1)(b:Bd)(us en:List (Int×Int))(L:List Sp)(T:Int)(f:Nat->AV)(m:AM):Prop:=
 ∃(j:Nat)(fr:Int)(bx:X2),f 90=I j/\j<=L.length/\f 17=I fr/\Uf en (L.drop j) fr=T/\m=aP pre b (post++([.aL 0 (bF iA us)]::[.aL 0 (bF iA en)]::(bx0++(Qd e::bx)))) ls
def I5:X1:=fun _ f _=>if f=999999 then .junk else .gd false .junk
def Qdx(pre post:X2)(ls:P1)(b:Bd)(ids:P2)(rt0:Rt)(N:Int)(hN:0<=N/\N<=100000000)(atf:ids.length<=100000000)
  (hc:b.p.cls.length<=1000000)(fP:b.p.sh.length<=1000000000)(cN:b.p.aO.length<=1000000000)(IZ:b.p.ens.length<=1000000000)(Gr:(Yx b.p).length<=1000000000)(ei:b.p.ln<=9223372036854775807)(S9:∀e∈b.p.ens,e.ea<=9223372036854775807)
  (SP:b.at_<=9223372036854775807)(hus:p5 N b.us)(afY:uj b.en)(sU:BU b)(Y:YT)(K:UV)
  (rH:Jg b.p ids b.us b.en b.at_ (-1)=none->∀rv li pm ex exl,BU {b with rv:=rv,li:=li,pm:=pm}->K (.aQ [.sl .nil [],.bool false]) (aP pre {b with rv:=rv,li:=li,pm:=pm} (post++ex) (ls++exl)))
  (SS:∀l,Jg b.p ids b.us b.en b.at_ (-1)=some l->∀rv li pm ex exl rt,BU {b with rv:=rv,li:=li,pm:=pm}->D4 2 ls.length (ls++exl) rt l->K (.aQ [.sl rt (l.map Qe),.bool true]) (aP pre {b with rv:=rv,li:=li,pm:=pm} (post++ex) (ls++exl))):
  aA Tryz.prog aD Y 85 [.ptr (pre.length+9) 0,.sl rt0 (ids.map Xa)] (aP pre b post ls) K:=by
 obtain⟨T,hT⟩:∃T,Jg b.p ids b.us b.en b.at_ (-1)=T:=⟨_,rfl⟩;rw[hT]at rH SS;refine Xh ak3 I5 zd ?_;simp[Tr,aP,bh,Qp,Qa];refine Qaw [(.mp (pre.length+(post.length+10)),aP pre b (post++[[.aL 0 (bF iA b.us)]]) ls)] ?_;simp[Tr,aP,bh,Qp,Qa,I5];refine⟨OY (kn:=0) (kvs:=bF iA b.us) zd ⟨zd,zd⟩,OY (kn:=0) (kvs:=bF iA b.en) zd ?_⟩;simp[I5];refine Qj vj (amS pre post ls b ids N T) (fun f _=>ids.length-(numOf (f 39)).toNat) ?_ ?_
 ·refine⟨0,b.us,b.en,b.at_,-1,[],.nil,b.rv,b.li,b.pm,[],[],zd,zE,zd,zd,zd,rfl,zE,SP,Pi hus,afY,.inl ⟨rfl,rfl⟩,sU,?_,by simp[aP,bh,Qp,Qa]⟩;rw[zzd,hT];cases T<;>rfl
 rintro f m ⟨i,us,en,free,last,l,rt,rv,li,pm,bx,exl,h39,hi,h8,h9,lN,EB,hla,zQ,hu,he,hO,hB,hg,rfl⟩;rcases zzab i ids.length with aa|bu
 ·obtain⟨id,aM⟩:=aY aa;have ai:Qg (ids.map Xa) i=Xa id:=Qv (by simp[aM]);have ah:(i:Int)<(ids.length:Int):=zE
  have hw:=bR i zE;rw[Zb aM,Jg]at hg;have no:T=none->∀rv li pm ex exl,BU {b with rv:=rv,li:=li,pm:=pm}->K (.aQ [.sl .nil [],.bool false]) (aP pre {b with rv:=rv,li:=li,pm:=pm} (post++ex) (ls++exl)):=rH;rcases Xu iA id (DH b.p) 0 with⟨p1,p2,_⟩|⟨u,n,p1,p2,_⟩
  ·have p1:Ag id b.p.ens 0=none:=by
    rw[uQ]at p1;cases hx:Ag id b.p.ens 0 with
    |none=>rfl
    |some k=>rw[hx]at p1;cases p1
   rw[p1]at hg;simp[h39,h8,h9,lN,aa,ah,ai,Xa,aP,bh,Qp,Qa,vj,p2,EJ];have:=rH hg.symm rv li pm ([.aL 0 (bF iA us)]::[.aL 0 (bF iA en)]::bx) exl hB;simpa[aP,bh,Qp,Qa]using this
  obtain⟨k,pk,rfl⟩:∃k:Nat,Ag id b.p.ens 0=some k/\(k:Int)=u:=by
   rw[uQ]at p1;cases hx:Ag id b.p.ens 0 with
   |none=>rw[hx]at p1;cases p1
   |some k=>rw[hx]at p1;cases p1;exact⟨k,rfl,rfl⟩
  rw[zzbm]at p2;rw[pk]at hg;simp only at hg;obtain⟨_,e,he1,ZS,he3⟩:=rK pk;rw[zzet]at he1;have sM:=(zza.1 he1).1;have z8:(k:Int)<(b.p.ens.length:Int):=zE
  have yF:=Qda he1;by_cases c1:(k:Int)<=last
  ·rw[if_pos c1]at hg;simp[h39,h8,h9,lN,aa,ah,ai,Xa,aP,bh,Qp,Qa,vj,p2,EJ,c1];have:=rH hg.symm rv li pm ([.aL 0 (bF iA us)]::[.aL 0 (bF iA en)]::bx) exl hB;simpa[aP,bh,Qp,Qa]using this
  rw[if_neg c1,he1]at hg;simp only at hg;simp[h39,h8,h9,lN,aa,ah,ai,Xa,aP,bh,Qp,Qa,vj,p2,c1,sM,z8,yF,Qd,I5];have k82:=fun K'=>ae2 pre (post++([.aL 0 (bF iA us)]::[.aL 0 (bF iA en)]::(bx++[Qd e]))) (ls++exl) {b with rv:=rv,li:=li,pm:=pm} e.it (by simp only;omega) cN hB.1 Y K';simp only[aP,bh,Qp,Qa,Qd]at k82;refine k82 _ fun tu aaw=>?_;clear k82;have tQ:BU {b with rv:=rv,li:=tu,pm:=pm}:=⟨aaw,hB.2.1,hB.2.2⟩;obtain⟨R,hR⟩:∃R,Wn b.p e.it=R:=⟨_,rfl⟩;rw[hR]at hg
  obtain⟨cu,sH,atg⟩:∃cu,(af e.it us).getD 0=cu/\((Xi [e.it] (bF iA us) 0=none/\cu=0)\/∃n,Xi [e.it] (bF iA us) 0=some (n,I cu)):=by
   rcases Xu iA e.it us 0 with⟨q1,q2,_⟩|⟨u,n,q1,q2,_⟩
   ·exact⟨0,by rw[q1];rfl,.inl ⟨q2,rfl⟩⟩
   exact⟨u,by rw[q1];rfl,.inr ⟨_,q2⟩⟩
  rw[sH]at hg;by_cases r2:R≠ -1/\R<=cu
  ·rw[if_pos r2]at hg;have:=rH hg.symm rv tu pm ([.aL 0 (bF iA us)]::[.aL 0 (bF iA en)]::(bx++[Qd e])) exl tQ;obtain⟨r1,r2⟩:=r2;obtain⟨q2,rfl⟩|⟨n2,q2⟩:=atg
   ·simp[aP,bh,Qp,Qa,Qd,I5,q2,r1,r2,hR,EJ];simpa[aP,bh,Qp,Qa,Qd]using this
   simp[aP,bh,Qp,Qa,Qd,I5,q2,r1,r2,hR,EJ];simpa[aP,bh,Qp,Qa,Qd]using this
  rw[if_neg r2]at hg
  have r3:R= -1\/(R≠ -1/\¬R<=cu):=by
   by_cases h:R= -1
   ·exact .inl h
   exact .inr ⟨h,fun h'=>r2 ⟨h,h'⟩⟩
  clear r2;obtain r1|⟨r1,r2⟩:=r3
  ·have q2:True:=trivial;have r2:True:=trivial;simp[h39,h8,h9,lN,aP,bh,Qp,Qa,Qd,I5,q2,r1,r2,hR];have k83:=fun K'=>HS pre (post++([.aL 0 (bF iA us)]::[.aL 0 (bF iA en)]::(bx++[Qd e]))) (ls++exl) {b with rv:=rv,li:=tu,pm:=pm} e.it (by simp only;omega) cN Gr hB.2.1 Y K';simp only[aP,bh,Qp,Qa,Qd]at k83;refine k83 _ fun EE D5 eF rt3 L aax yQ=>?_;clear k83;have Oh:BU {b with rv:=EE,li:=tu,pm:=pm}:=⟨aaw,aax,hB.2.2⟩;have hLb:∀r∈L,0<=r.2/\r.2<=6000000000:=fun r hr=>u5 r (yQ.mem_iff.1 hr)
   have hLl:L.length<=1000000000:=by
    rw[yQ.length_eq];have:=HT b.p e.it;omega
   have hfp:=xR en yQ (max e.ea free);obtain⟨F,hF⟩:∃F,Uf en (Kr b.p e.it) (max e.ea free)=F:=⟨_,rfl⟩;rw[hF]at hfp
   have hFb:F<=9223372036854775807:=by
    rw[<- hF];refine yP he u5 ?_ zE;have:=S9 e (zzac he1);omega
   have hmx:(if e.ea<free then free else e.ea)=max e.ea free:=zE
   simp[h39,h8,h9,lN,aP,bh,Qp,Qa,Qd,I5,hmx];refine Qj sC (ajx pre post bx e (ls++(exl++eF)) {b with rv:=EE,li:=tu,pm:=pm} us en L F) (fun f _=>L.length-(numOf (f 90)).toNat) ?_ ?_
   ·exact⟨0,max e.ea free,D5,zd,zE,zd,by rw[zzd];exact hfp,by simp[aP,bh,Qp,Qa,Qd]⟩
   rintro g m ⟨j,fr,bx4,g90,hj,g17,Ea,rfl⟩;rcases zzab j L.length with jlt|jge
   ·obtain⟨r,hr⟩:=aY jlt;have aay:=Zv hr;have aaz:(j:Int)<(L.length:Int):=zE
    have uH:=bR j zE;rw[Zb hr,Uf]at Ea;have Bq:=hLb r (zzac hr);rcases Xu iA r.1 en 0 with⟨v1,v2,_⟩|⟨v,nv,v1,v2,_⟩
    ·rw[v1]at Ea;simp[g90,g17,sC,jlt,aaz,aay,Qe,uH,aP,bh,Qp,Qa,Qd,v2];refine⟨aR,⟨j+1,fr,bx4++[Qe r],zd,zE,by simp[g17],Ea,by simp[aP,bh,Qp,Qa,Qe,Qd]⟩,zE⟩
    rw[v1]at Ea;have SX:=he r.1 v v1;have hwv:IntKind.i64.wrap (v+r.2)=v+r.2:=by rw[Qi]<;>omega
    have hmv:(if fr<v+r.2 then v+r.2 else fr)=max fr (v+r.2):=zE
    simp[g90,g17,sC,jlt,aaz,aay,Qe,uH,aP,bh,Qp,Qa,Qd,v2,hwv,hmv];refine⟨aR,⟨j+1,max fr (v+r.2),bx4++[Qe r],zd,zE,zd,Ea,by simp[aP,bh,Qp,Qa,Qe,Qd]⟩,zE⟩
   have jin:¬(j:Int)<(L.length:Int):=zE
   rw[zzam jge]at Ea;have Ea:fr=F:=Ea;subst Ea;have k84:=fun K'=>OB pre (post++([.aL 0 (bF iA us)]::[.aL 0 (bF iA en)]::(bx++(Qd e::bx4)))) (ls++(exl++eF)) {b with rv:=EE,li:=tu,pm:=pm} e fr hc fP cN ei hFb hB.2.2 Y K';simp only[aP,bh,Qp,Qa,Qd]at k84;have hO':D4 2 ls.length (ls++(exl++eF)) rt l:=by rw[<- zzaz];exact hO.app
   rw[hF]at hg;simp[g90,g17,jin,zzbn.2 jge,sC,vj,h39,h8,h9,lN,aP,bh,Qp,Qa,Qd,I5];refine k84 _ fun pm4 R3 amT=>?_;clear k84;have hB4:BU {b with rv:=EE,li:=tu,pm:=pm4}:=⟨aaw,aax,amT⟩;cases hs:Yc b.p e fr with
   |none=>
    rw[hs]at hg;have:=rH hg.symm EE tu pm4 ([.aL 0 (bF iA us)]::[.aL 0 (bF iA en)]::(bx++(Qd e::(bx4++R3)))) (exl++eF) hB4;simp[Wt,EJ];simpa[aP,bh,Qp,Qa,Qd]using this
   |some s=>
    rw[hs]at hg;simp only at hg
    have hg:aav (l++[(id,s)]) (Jg b.p (ids.drop (i+1)) (Vs us e.it) (Zn b.p en e.it (s+e.fr)) (s+e.fr) k)=T:=by
     rw[<- hg];cases Jg b.p (ids.drop (i+1)) (Vs us e.it) (Zn b.p en e.it (s+e.fr)) (s+e.fr) k<;>simp[aav]
    obtain⟨a1,a2,a3,a4,a5,a6,_⟩:=Qau hs;have hws:IntKind.i64.wrap (s+e.fr)=s+e.fr:=by rw[Qi]<;>omega
    have kn:=fun LS K'=>Y8 pre post (bx++(Qd e::(bx4++R3))) LS {b with rv:=EE,li:=tu,pm:=pm4} us en e.it (s+e.fr) (fun k v h=>by have:=hu k v h;omega) Y K';simp only[aP,bh,Qp,Qa,Qd]at kn;have J9:=hu.note zE e.it;have ZS:uj (Zn b.p en e.it (s+e.fr)):=he.note e.it _ zE;have hN1:N+i+1=N+(i+1:Nat):=zE
    rw[hN1]at J9;obtain⟨ov,CX⟩|⟨k2,CX,dF,ey,_⟩:=hO'
    ·subst CX;subst ov;simp[Wt,h39,h8,h9,lN,aP,bh,Qp,Qa,Qd,I5,hws];refine kn _ _ fun ex5=>?_;refine⟨aR,⟨i+1,Vs us e.it,Zn b.p en e.it (s+e.fr),s+e.fr,k,[(id,s)],.own (ls.length+(exl.length+eF.length)) 2,EE,tu,pm4,bx++(Qd e::(bx4++R3++ex5)),exl++(eF++[1]),by simp[hw],zE,zd,zd,by simp[Qe],by simp at EB;simp[EB],zE,zE,J9,ZS,.inr ⟨_,rfl,zE,?_,zd⟩,hB4,hg,?_⟩,by simp[hw];omega⟩
     ·have:(ls++(exl++(eF++[1])))=(ls++(exl++eF))++[1]:=zd
      rw[this,zzat zd];simp
     simp[aP,bh,Qp,Qa,Qd]
    subst CX;have tX:=(zza.1 ey).1;have bW:(ls++(exl++eF)).set k2 (l.length+1)=ls++(exl++eF).set (k2-ls.length) (l.length+1):=zzcy _ _ dF;simp[Wt,h39,h8,h9,lN,aP,bh,Qp,Qa,Qd,I5,hws,ey];refine⟨⟨?_,zE⟩,kn _ _ fun ex5=>?_⟩
    ·rintro row (⟨a,b,_,rfl⟩|rfl)<;>rfl
    refine⟨aR,⟨i+1,Vs us e.it,Zn b.p en e.it (s+e.fr),s+e.fr,k,l++[(id,s)],.own k2 2,EE,tu,pm4,bx++(Qd e::(bx4++R3++ex5)),(exl++eF).set (k2-ls.length) (l.length+1),by simp[hw],zE,zd,zd,by simp[Qe],by simp[EB],zE,zE,J9,ZS,.inr ⟨k2,rfl,dF,?_,zd⟩,hB4,hg,?_⟩,by simp[hw];omega⟩
    ·rw[<- bW,zzbg tX];simp
    simp only[bW];simp[aP,bh,Qp,Qa,Qd]
  obtain⟨q2,rfl⟩|⟨n2,q2⟩:=atg
  all_goals
   simp[h39,h8,h9,lN,aP,bh,Qp,Qa,Qd,I5,q2,r1,r2,hR];have k83:=fun K'=>HS pre (post++([.aL 0 (bF iA us)]::[.aL 0 (bF iA en)]::(bx++[Qd e]))) (ls++exl) {b with rv:=rv,li:=tu,pm:=pm} e.it (by simp only;omega) cN Gr hB.2.1 Y K';simp only[aP,bh,Qp,Qa,Qd]at k83;refine k83 _ fun EE D5 eF rt3 L aax yQ=>?_;clear k83;have Oh:BU {b with rv:=EE,li:=tu,pm:=pm}:=⟨aaw,aax,hB.2.2⟩;have hLb:∀r∈L,0<=r.2/\r.2<=6000000000:=fun r hr=>u5 r (yQ.mem_iff.1 hr)
   have hLl:L.length<=1000000000:=by
    rw[yQ.length_eq];have:=HT b.p e.it;omega
   have hfp:=xR en yQ (max e.ea free);obtain⟨F,hF⟩:∃F,Uf en (Kr b.p e.it) (max e.ea free)=F:=⟨_,rfl⟩;rw[hF]at hfp
   have hFb:F<=9223372036854775807:=by
    rw[<- hF];refine yP he u5 ?_ zE;have:=S9 e (zzac he1);omega
   have hmx:(if e.ea<free then free else e.ea)=max e.ea free:=zE
   simp[h39,h8,h9,lN,aP,bh,Qp,Qa,Qd,I5,hmx];refine Qj sC (ajx pre post bx e (ls++(exl++eF)) {b with rv:=EE,li:=tu,pm:=pm} us en L F) (fun f _=>L.length-(numOf (f 90)).toNat) ?_ ?_
   ·exact⟨0,max e.ea free,D5,zd,zE,zd,by rw[zzd];exact hfp,by simp[aP,bh,Qp,Qa,Qd]⟩
   rintro g m ⟨j,fr,bx4,g90,hj,g17,Ea,rfl⟩;rcases zzab j L.length with jlt|jge
   ·obtain⟨r,hr⟩:=aY jlt;have aay:=Zv hr;have aaz:(j:Int)<(L.length:Int):=zE
    have uH:=bR j zE;rw[Zb hr,Uf]at Ea;have Bq:=hLb r (zzac hr);rcases Xu iA r.1 en 0 with⟨v1,v2,_⟩|⟨v,nv,v1,v2,_⟩
    ·rw[v1]at Ea;simp[g90,g17,sC,jlt,aaz,aay,Qe,uH,aP,bh,Qp,Qa,Qd,v2];refine⟨aR,⟨j+1,fr,bx4++[Qe r],zd,zE,by simp[g17],Ea,by simp[aP,bh,Qp,Qa,Qe,Qd]⟩,zE⟩
    rw[v1]at Ea;have SX:=he r.1 v v1;have hwv:IntKind.i64.wrap (v+r.2)=v+r.2:=by rw[Qi]<;>omega
    have hmv:(if fr<v+r.2 then v+r.2 else fr)=max fr (v+r.2):=zE
    simp[g90,g17,sC,jlt,aaz,aay,Qe,uH,aP,bh,Qp,Qa,Qd,v2,hwv,hmv];refine⟨aR,⟨j+1,max fr (v+r.2),bx4++[Qe r],zd,zE,zd,Ea,by simp[aP,bh,Qp,Qa,Qe,Qd]⟩,zE⟩
   have jin:¬(j:Int)<(L.length:Int):=zE
   rw[zzam jge]at Ea;have Ea:fr=F:=Ea;subst Ea;have k84:=fun K'=>OB pre (post++([.aL 0 (bF iA us)]::[.aL 0 (bF iA en)]::(bx++(Qd e::bx4)))) (ls++(exl++eF)) {b with rv:=EE,li:=tu,pm:=pm} e fr hc fP cN ei hFb hB.2.2 Y K';simp only[aP,bh,Qp,Qa,Qd]at k84;have hO':D4 2 ls.length (ls++(exl++eF)) rt l:=by rw[<- zzaz];exact hO.app
   rw[hF]at hg;simp[g90,g17,jin,zzbn.2 jge,sC,vj,h39,h8,h9,lN,aP,bh,Qp,Qa,Qd,I5];refine k84 _ fun pm4 R3 amT=>?_;clear k84;have hB4:BU {b with rv:=EE,li:=tu,pm:=pm4}:=⟨aaw,aax,amT⟩;cases hs:Yc b.p e fr with
   |none=>
    rw[hs]at hg;have:=rH hg.symm EE tu pm4 ([.aL 0 (bF iA us)]::[.aL 0 (bF iA en)]::(bx++(Qd e::(bx4++R3)))) (exl++eF) hB4;simp[Wt,EJ];simpa[aP,bh,Qp,Qa,Qd]using this
   |some s=>
    rw[hs]at hg;simp only at hg
    have hg:aav (l++[(id,s)]) (Jg b.p (ids.drop (i+1)) (Vs us e.it) (Zn b.p en e.it (s+e.fr)) (s+e.fr) k)=T:=by
     rw[<- hg];cases Jg b.p (ids.drop (i+1)) (Vs us e.it) (Zn b.p en e.it (s+e.fr)) (s+e.fr) k<;>simp[aav]
    obtain⟨a1,a2,a3,a4,a5,a6,_⟩:=Qau hs;have hws:IntKind.i64.wrap (s+e.fr)=s+e.fr:=by rw[Qi]<;>omega
    have kn:=fun LS K'=>Y8 pre post (bx++(Qd e::(bx4++R3))) LS {b with rv:=EE,li:=tu,pm:=pm4} us en e.it (s+e.fr) (fun k v h=>by have:=hu k v h;omega) Y K';simp only[aP,bh,Qp,Qa,Qd]at kn;have J9:=hu.note zE e.it;have ZS:uj (Zn b.p en e.it (s+e.fr)):=he.note e.it _ zE;have hN1:N+i+1=N+(i+1:Nat):=zE
    rw[hN1]at J9;obtain⟨ov,CX⟩|⟨k2,CX,dF,ey,_⟩:=hO'
    ·subst CX;subst ov;simp[Wt,h39,h8,h9,lN,aP,bh,Qp,Qa,Qd,I5,hws];refine kn _ _ fun ex5=>?_;refine⟨aR,⟨i+1,Vs us e.it,Zn b.p en e.it (s+e.fr),s+e.fr,k,[(id,s)],.own (ls.length+(exl.length+eF.length)) 2,EE,tu,pm4,bx++(Qd e::(bx4++R3++ex5)),exl++(eF++[1]),by simp[hw],zE,zd,zd,by simp[Qe],by simp at EB;simp[EB],zE,zE,J9,ZS,.inr ⟨_,rfl,zE,?_,zd⟩,hB4,hg,?_⟩,by simp[hw];omega⟩
     ·have:(ls++(exl++(eF++[1])))=(ls++(exl++eF))++[1]:=zd
      rw[this,zzat zd];simp
     simp[aP,bh,Qp,Qa,Qd]
    subst CX;have tX:=(zza.1 ey).1;have bW:(ls++(exl++eF)).set k2 (l.length+1)=ls++(exl++eF).set (k2-ls.length) (l.length+1):=zzcy _ _ dF;simp[Wt,h39,h8,h9,lN,aP,bh,Qp,Qa,Qd,I5,hws,ey];refine⟨⟨?_,zE⟩,kn _ _ fun ex5=>?_⟩
    ·rintro row (⟨a,b,_,rfl⟩|rfl)<;>rfl
    refine⟨aR,⟨i+1,Vs us e.it,Zn b.p en e.it (s+e.fr),s+e.fr,k,l++[(id,s)],.own k2 2,EE,tu,pm4,bx++(Qd e::(bx4++R3++ex5)),(exl++eF).set (k2-ls.length) (l.length+1),by simp[hw],zE,zd,zd,by simp[Qe],by simp[EB],zE,zE,J9,ZS,.inr ⟨k2,rfl,dF,?_,zd⟩,hB4,hg,?_⟩,by simp[hw];omega⟩
    ·rw[<- bW,zzbg tX];simp
    simp only[bW];simp[aP,bh,Qp,Qa,Qd]
 have bU:¬(i:Int)<(ids.length:Int):=zE
 rw[zzam bu,Jg]at hg;have hg:some (l++[])=T:=hg;rw[zzas]at hg;have:=SS l hg.symm rv li pm ([.aL 0 (bF iA us)]::[.aL 0 (bF iA en)]::bx) exl rt hB hO;simp[h39,h8,h9,lN,bU,zzbn.2 bu,vj,EJ];simpa[aP,bh,Qp,Qa]using this
def afZ(l:P2)(hl:l.length<=1000000000):Pure Tryz.prog aD 142 [.sl .ro (l.map Xa)] (.sl .ro (l.map Xa)):=by
 cases l with
 |nil=>
  refine sX (Zx (?_:Pure Tryz.prog aD 142 [.sl .nil []] (.sl .nil [])) (Wk.sl _ _)) ?_
  ·refine Qn Cw (fun _ _ _=>.junk) zd ?_;simp[Nb,Nc]
  refine Qn Cw (fun _ _ _=>.junk) zd ?_;simp[Nb,Nc]
 |cons x r=>
  refine Qn Cw (fun _ _ _=>.junk) zd ?_;simp[Nb,Nc,Xa];simp at hl;omega
def B6{α:Type}(c:List α)(i:Nat)(h:i<c.length):(c.take i++c.drop (i+1)).length+1=c.length:=by
 simp;omega
def HU(ok:P2->Bool)(c:P2)(i:Nat):P2:=
 if h:i<c.length then(if ok (c.take i++c.drop (i+1))=true then HU ok c (i+1)else HU ok (c.take i++c.drop (i+1)) i)else c
termination_by c.length-i
decreasing_by
 ·omega
 have:=B6 c i h;omega
def oB(b:Bd)(ids:P2):Bool:=(Jg b.p ids b.us b.en b.at_ (-1)).isSome
def og(b:Bd)(ids:P2):P2:=if oB b ids=true then[]else HU (oB b) ids 0
def ath(pre post:X2)(ls:P1)(b:Bd)(N:Nat)(T:P2)(f:Nat->AV)(m:AM):Prop:=
 ∃(i:Nat)(c:P2)(rv:List (Int×(Rt×List Sp)))(li:List (Int×Int))(pm:List ((Int×Int)×List Sp))(ex:X2)(exl:P1),
  f 7=.sl .ro (c.map Xa)/\f 8=I i/\i<=c.length/\c.length<=N/\HU (oB b) c i=T/\BU {b with rv:=rv,li:=li,pm:=pm}/\m=aP pre {b with rv:=rv,li:=li,pm:=pm} (post++ex) (ls++exl)
def OZ(ids:P2):X1:=fun _ f l=>if f=85 then .gd false .junk else if f=142 then .sl .ro (ids.map Xa)else
 (match l with|[.sl _ [[.sl _ a],[.sl _ c]]]=>.sl .ro (a++c)|_=>.junk)
def Mq(pre post:X2)(ls:P1)(b:Bd)(ids:P2)(rt0:Rt)(h85:∀m,Abs.Pure Tryz.prog aD 142 [bE m 6 (.sl rt0 (ids.map Xa))] (.sl .ro (ids.map Xa)))(N:Int)(hN:0<=N/\N<=100000000)(atf:ids.length<=100000000)
  (hc:b.p.cls.length<=1000000)(fP:b.p.sh.length<=1000000000)(cN:b.p.aO.length<=1000000000)(IZ:b.p.ens.length<=1000000000)(Gr:(Yx b.p).length<=1000000000)(ei:b.p.ln<=9223372036854775807)(S9:∀e∈b.p.ens,e.ea<=9223372036854775807)
  (SP:b.at_<=9223372036854775807)(hus:p5 N b.us)(afY:uj b.en)(sU:BU b)(Y:YT)(K:UV)
  (hK:∀rv li pm ex exl,BU {b with rv:=rv,li:=li,pm:=pm}->K (.sl (if oB b ids=true then .nil else .ro) ((og b ids).map Xa)) (aP pre {b with rv:=rv,li:=li,pm:=pm} (post++ex) (ls++exl))):
  aA Tryz.prog aD Y 86 [.ptr (pre.length+9) 0,.sl rt0 (ids.map Xa)] (aP pre b post ls) K:=by
 refine Xh ak6 (OZ ids) zd ?_;simp[ak4,aP,bh,Qp,Qa,OZ];have k42:=fun K'=>Qdx pre post ls b ids rt0 N hN atf hc fP cN IZ Gr ei S9 SP hus afY sU Y K';simp only[aP,bh,Qp,Qa]at k42;refine k42 _ (fun h0 rv li pm ex exl hB=>?_) (fun l h1 rv li pm ex exl rt hB hO=>?_)
 ·have ck:oB b ids=false:=by simp[oB,h0]
  simp[OZ];refine⟨h85 _,?_⟩;refine Qj EK (ath pre post ls b ids.length (og b ids)) (fun f _=>(match f 7 with|.sl _ c=>c.length|_=>0)-(numOf (f 8)).toNat) ?_ ?_
  ·exact⟨0,ids,rv,li,pm,ex,exl,zd,zd,zE,zE,by simp[og,ck],hB,by simp[aP,bh,Qp,Qa]⟩
  rintro f m ⟨i,c,rv,li,pm,ex,exl,h7,h8,hi,oU,hT,hB,rfl⟩;rcases zzab i c.length with aa|bu
  ·have ah:(i:Int)<(c.length:Int):=zE
   have hw:=bR i zE;simp[h7,h8,aa,ah,EK,aP,bh,Qp,Qa,OZ,hw];have eA:List.take i (List.map Xa c)=(c.take i).map Xa:=zd
   have eB:List.take (c.length-(i+1)) (List.drop (i+1) (List.map Xa c))=(c.drop (i+1)).map Xa:=by
    rw[zzal zd];simp
   rw[eA,eB,<- zzch];have k86:=YS [(.ro,c.take i),(.ro,c.drop (i+1))] zd zd (by simp;omega);have hol:=B6 c i aa;rw[HU,dif_pos aa]at hT;have gG:(List.map (fun x:Rt×P2=>x.2) [(Rt.ro,c.take i),(Rt.ro,c.drop (i+1))]).flatten=c.take i++c.drop (i+1):=zd
   rw[gG]at k86;obtain⟨o,ho⟩:∃o,c.take i++c.drop (i+1)=o:=⟨_,rfl⟩;rw[ho]at k86 hol hT |-
   refine⟨⟨zE,fun _ _=>rfl⟩,⟨zE,fun _ _=>rfl⟩,k86,?_⟩;have k42:=fun K'=>Qdx pre (post++ex) (ls++exl) {b with rv:=rv,li:=li,pm:=pm} o .ro N hN zE hc fP cN IZ Gr ei S9 SP hus afY hB Y K';simp only[aP,bh,Qp,Qa]at k42;refine k42 _ (fun h0 rv2 tu OC gN amU tQ=>?_) (fun l h1 rv2 tu OC gN amU rt tQ hO=>?_)
   ·have ck:oB b o=false:=by simp only[oB];rw[h0];rfl
    rw[ck]at hT;have hT:HU (oB b) o i=og b ids:=hT;simp[h7,h8,EK];refine⟨aR,⟨i,o,rv2,tu,OC,ex++gN,exl++amU,zd,by simp[h8],zE,zE,hT,tQ,by simp[aP,bh,Qp,Qa]⟩,?_⟩
    ·rw[zzgy (zzfn aa),zzdv];exact Nat.sub_lt_sub_left aa (zzf i)
   have ck:oB b o=true:=by simp only[oB];rw[h1];rfl
   rw[ck]at hT;have hT:HU (oB b) c (i+1)=og b ids:=hT;simp[h7,h8,EK,hw];refine⟨aR,⟨i+1,c,rv2,tu,OC,ex++gN,exl++amU,by simp[h7],zd,zE,zE,hT,tQ,by simp[aP,bh,Qp,Qa]⟩,zE⟩
  have bU:¬(i:Int)<(c.length:Int):=zE
  rw[HU,dif_neg zE]at hT;have:=hK rv li pm ex exl hB;rw[<- hT,ck,if_neg zd]at this;simp[h7,h8,bU,zzbn.2 bu,EK,ak5];simpa[aP,bh,Qp,Qa]using this
 have ck:oB b ids=true:=by simp[oB,h1]
 have:=hK rv li pm ex exl hB;rw[ck,if_pos rfl]at this;simp[ak5];simpa[aP,bh,Qp,Qa,og,ck]using this
def aaA(ok:P2->Bool):Prop:=∀a b:P2,a.Sublist b->ok b=true->ok a=true
def HV(b:Bd):aaA (oB b):=fun a c hs h=>by
 unfold oB at h |-
 obtain⟨l,hl⟩:=zzcg.1 h;obtain⟨l',h1,_⟩:=Sc (afU.refl b.p) hs (us':=b.us) (en':=b.en) (free':=b.at_) (last':= -1) (fun _=>zzby _) (LeE.refl _) (zzby _) (zzby _) hl;rw[h1];rfl
theorem O0(b:Bd):oB b []=true:=rfl
def Xc(w:Bool):P2->List Bool->P2
 |id::r,k::ks=>if(k==w)=true then id::Xc w r ks else Xc w r ks
 |_,_=>[]
def Jr(ok:P2->Bool)(rd:Int->Nat)(ids:P2)(r:Nat)(K:List Bool)(i:Nat):List Bool:=match ids[i]? with
 |some id=>if rd id=r then K.set i (ok (Xc true ids (K.set i true)))else K
 |none=>K
def Uz(ok:P2->Bool)(rd:Int->Nat)(ids:P2)(r:Nat)(K:List Bool):List Bool:=(List.range ids.length).foldl (Jr ok rd ids r) K
def Jk(ok:P2->Bool)(rd:Int->Nat)(ids:P2):List Bool:=Uz ok rd ids 2 (Uz ok rd ids 1 (Uz ok rd ids 0 (List.replicate ids.length false)))
def Eb(K K':List Bool):Prop:=∀j,K.getD j false=true->K'.getD j false=true
def Eb.refl(K:List Bool):Eb K K:=fun _ h=>h
def Eb.trans{K K' K'':List Bool}(h:Eb K K')(k:Eb K' K''):Eb K K'':=fun j hj=>k j (h j hj)
def jW(K:List Bool)(i j:Nat)(b:Bool):(K.set i b).getD j false=if i=j/\i<K.length then b else K.getD j false:=by
 simp only[zzaw,zzgm];by_cases h:i=j
 ·subst h;by_cases h2:i<K.length
  ·simp[h2]
  have:K[i]?=none:=zzau zE;simp[h2]
 simp[h]
def Eb.set{K K':List Bool}(h:Eb K K')(hl:K.length=K'.length)(i:Nat):Eb (K.set i true) (K'.set i true):=fun j hj=>by
 rw[jW]at hj |-
 split at hj
 ·rename_i hc;rw[if_pos ⟨hc.1,zE⟩]
 rename_i hc;rw[if_neg (by rw[<- hl];exact hc)];exact h j hj
def Eb.aaB(K:List Bool)(i:Nat):Eb K (K.set i true):=fun j hj=>by
 rw[jW];split
 ·rfl
 exact hj
def B7:∀(ids:P2){K K':List Bool},K.length=K'.length->Eb K K'->(Xc true ids K).Sublist (Xc true ids K')
 |[],_,_,_,_=>by simp[Xc]
 |id::r,[],[],_,_=>by simp[Xc]
 |id::r,[],_::_,h,_=>by simp at h
 |id::r,_::_,[],h,_=>by simp at h
 |id::r,k::ks,k'::ks',hl,h=>by
  have ih:=B7 r (K:=ks) (K':=ks') (Pi hl) (fun j hj=>by simpa using h (j+1) (Pi hj));have h0:=h 0;simp at h0;cases k with
  |false=>
   cases k' with
   |false=>simpa[Xc]using ih
   |true=>simpa[Xc]using ih.cons id
  |true=>
   rw[h0 rfl];simpa[Xc]using ih.cons_cons id
def Se(ok:P2->Bool)(rd:Int->Nat)(ids:P2)(r:Nat)(K:List Bool)(i:Nat):(Jr ok rd ids r K i).length=K.length:=by
 unfold Jr;split
 ·split<;>simp
 rfl
structure ChI (ok:P2->Bool) (rd:Int->Nat) (ids:P2) (r i:Nat) (K:List Bool):Prop where
 len:K.length=ids.length
 kok:ok (Xc true ids K)=true
 todo:∀(j:Nat)(id:Int),ids[j]?=some id->(r<rd id\/rd id=r/\i<=j)->K.getD j false=false
 done:∀(j:Nat)(id:Int),ids[j]?=some id->(rd id<r\/rd id=r/\j<i)->K.getD j false=true\/ok (Xc true ids (K.set j true))=false
def ChI.step{ok:P2->Bool}(hm:aaA ok){rd:Int->Nat}{ids:P2}{r i:Nat}{K:List Bool}(h:ChI ok rd ids r i K)(hi:i<ids.length):ChI ok rd ids r (i+1) (Jr ok rd ids r K i)/\Eb K (Jr ok rd ids r K i):=by
 obtain⟨id,aM⟩:=aY hi;unfold Jr;rw[aM];simp only;by_cases hr:rd id=r
 ·rw[if_pos hr];have hf:=h.todo i id aM (.inr ⟨hr,zzaa _⟩)
  have VY:K.set i false=K:=by
   apply zzey zd;intro n h1 h2;rw[List.getElem_set];split
   ·rename_i e;subst e;rw[zzaw,zzad h2]at hf;exact hf.symm
   rfl
  cases ck:ok (Xc true ids (K.set i true))with
  |false=>
   rw[VY];refine⟨⟨h.len,h.kok,fun j x hj hc=>h.todo j x hj zE,fun j x hj hc=>?_⟩,Eb.refl K⟩;rcases zzab j i with aa|bu
   ·exact h.done j x hj zE
   obtain hc|hc:=hc
   ·exact h.done j x hj (.inl hc)
   obtain rfl:j=i:=zE
   exact .inr ck
  |true=>
   have cR:=Eb.aaB K i;refine⟨⟨by simp[h.len],ck,fun j x hj hc=>?_,fun j x hj hc=>?_⟩,cR⟩
   ·rw[jW,if_neg (by rintro⟨e,_⟩;subst e;rw[aM]at hj;cases hj;omega)];exact h.todo j x hj zE
   rcases Nat.decEq j i with aJ|rfl
   ·have hd:=h.done j x hj zE;obtain hd|hd:=hd
    ·exact .inl (cR j hd)
    right;have hs:=B7 ids (K:=K.set j true) (K':=(K.set i true).set j true) zd (cR.set zd j);cases hb:ok (Xc true ids ((K.set i true).set j true))with
    |false=>rfl
    |true=>rw[hm _ _ hs hb]at hd;cases hd
   left;rw[jW,if_pos ⟨rfl,by rw[h.len];exact hi⟩]
 rw[if_neg hr];refine⟨⟨h.len,h.kok,fun j x hj hc=>h.todo j x hj zE,fun j x hj hc=>h.done j x hj ?_⟩,Eb.refl K⟩;obtain hc|hc:=hc
 ·exact .inl hc
 have:j≠i:=by rintro rfl;rw[aM]at hj;cases hj;exact hr hc.1
 exact .inr ⟨hc.1,zE⟩
def ChI.round{ok:P2->Bool}(hm:aaA ok){rd:Int->Nat}{ids:P2}{r:Nat}{K:List Bool}(h:ChI ok rd ids r 0 K):ChI ok rd ids (r+1) 0 (Uz ok rd ids r K)/\Eb K (Uz ok rd ids r K):=by
 have key:∀n,n<=ids.length->ChI ok rd ids r n ((List.range n).foldl (Jr ok rd ids r) K)/\Eb K ((List.range n).foldl (Jr ok rd ids r) K):=by
  intro n;induction n with
  |zero=>intro _;exact⟨h,Eb.refl K⟩
  |succ n ih=>
   intro hn;obtain⟨h1,h2⟩:=ih zE;obtain⟨g1,g2⟩:=h1.step hm zE;rw[zzfh,zzgo];exact⟨g1,h2.trans g2⟩
 obtain⟨h1,h2⟩:=key ids.length (zzaa _);refine⟨⟨h1.len,h1.kok,fun j x hj hc=>h1.todo j x hj zE,fun j x hj hc=>h1.done j x hj ?_⟩,h2⟩;have:=(zza.1 hj).1;omega
def yR(ids:P2)(n:Nat):Xc true ids (List.replicate n false)=[]:=by
 induction ids generalizing n with
 |nil=>simp[Xc]
 |cons x r ih=>
  cases n with
  |zero=>simp[Xc]
  |succ n=>rw[zzff,Xc];simpa using ih n
def tw{ok:P2->Bool}(hm:aaA ok)(h0:ok []=true)(rd:Int->Nat)(ids:P2)(fB:∀id∈ids,rd id<=2):
  (Jk ok rd ids).length=ids.length/\ok (Xc true ids (Jk ok rd ids))=true/\∀(j:Nat)(id:Int),ids[j]?=some id->(Jk ok rd ids).getD j false=true\/ok (Xc true ids ((Jk ok rd ids).set j true))=false:=by
 have hi:ChI ok rd ids 0 0 (List.replicate ids.length false):=⟨zd,by rw[yR];exact h0,fun j id hj _=>by
  rw[zzaw,zzck];split<;>rfl,fun j id hj hc=>zE⟩
 have h1:=(hi.round hm).1;have h2:=(h1.round hm).1;have h3:=(h2.round hm).1;refine⟨h3.len,h3.kok,fun j id hj=>h3.done j id hj (.inl ?_)⟩;have:=fB id (zzac hj);omega
def Ua(p:Pl):P2:=p.ens.map fun e=>e.id
def I6(p:Pl):Bd:=⟨p,0,[],[],[],[],[]⟩
def I3(l:List Sp):AV:=if l=[]then .sl .nil []else .sl .ro (l.map Qe)
def Sf(p:Pl):AV:=if rI p=false then .aQ [.sl .nil [],.sl .nil [],I 80]else match Jg p (Ua p) [] [] 0 (-1)with
 |some l=>.aQ [I3 l,.sl .nil [],I 0]
 |none=>.aQ [.sl .nil [],.sl .ro ((og (I6 p) (Ua p)).map Xa),I 90]
def mN(p:Pl):X1:=fun _ f _=>if f=999999 then .junk else if f=83 then .bool (rI p)else .gd false .junk
def ati(p:Pl)(f:Nat->AV)(m:AM):Prop:=∃(i:Nat)(rt:Rt)(ls:P1)(bx:X2),f 17=I i/\i<=p.ens.length/\f 5=.sl rt ((Ua p).take i |>.map Xa)/\D4 1 0 ls rt ((Ua p).take i)/\m=⟨Qa p::bx,ls,fun _=>.gone,0⟩
def qn:∀(l:List It)(a:List (Int×It))(s:List (Int×Int)),(Ae l a s).length<=s.length+l.length
 |[],a,s=>by simp[Ae]
 |x::r,a,s=>by
  rw[Ae];cases af x.id a with
  |some _=>
   have:=qn r a s;simp only[zzav];omega
  |none=>
   have h:=qn r (Vi x.id x a) (if 1<=x.sp/\x.sp<=200 then Vi x.sp x.id s else s)
   have h2:(if 1<=x.sp/\x.sp<=200 then Vi x.sp x.id s else s).length<=s.length+1:=by
    split
    ·exact GQ _ _ _
    omega
   simp only[zzav];omega
def amV(p:Pl):BU (I6 p):=⟨fun _ _ h=>(by cases h),fun _ _ h=>(by cases h),fun _ _ h=>(by cases h)⟩
def Sg(p:Pl)(hs:PlS p)(hc:p.cls.length<=1000000)(IZ:p.ens.length<=10000000)(ei:p.ln<=9223372036854775807)(S9:∀e∈p.ens,e.ea<=9223372036854775807):Pure Tryz.prog aD 49 [.agg (Qa p)] (Sf p):=by
 have k22:=Wo p hs;obtain⟨l1,l2,l3,l4,l5,l6⟩:=hs
 have Gr:(Yx p).length<=1000000000:=by
  have:=qn p.aO [] [];simp only[Yx]at*
  simp at this;omega
 refine Qn akx (mN p) zd ?_;cases hv:rI p with
 |false=>
  rw[hv]at k22;have:Sf p=.aQ [.sl .nil [],.sl .nil [],I 80]:=by rw[Sf,if_pos hv]
  rw[this];simp[akw,Tf,Qa,mN,hv];simpa[Qa]using k22
 |true=>
  rw[hv]at k22;simp[akw,Qa,mN,hv];refine⟨by simpa[Qa]using k22,?_⟩;refine Qj MX (ati p) (fun f _=>p.ens.length-(numOf (f 17)).toNat) ?_ ?_
  ·exact⟨0,.nil,[],[],zd,zE,zd,.inl ⟨zd,rfl⟩,by simp[Qa]⟩
  rintro f m ⟨i,rt,ls,bx,h17,hi,h5,hO,rfl⟩;rcases zzab i p.ens.length with aa|bu
  ·obtain⟨e,he⟩:=aY aa;have ai:=Qda he;have ah:(i:Int)<(p.ens.length:Int):=zE
   have hw:=bR i zE;have bB:(Ua p).take (i+1)=(Ua p).take i++[e.id]:=by rw[zzax];simp[Ua,he]
   have iJ:((Ua p).take i).length=i:=by simp[Ua];omega
   obtain⟨S,hS⟩:∃S,(Ua p).take i=S:=⟨_,rfl⟩;rw[hS]at h5 hO bB iJ;obtain⟨rfl,rfl⟩|⟨k,rfl,dF,ey,tX⟩:=hO
   ·simp[h17,h5,aa,ah,ai,Qd,Qa,mN,MX,hw];refine⟨aR,⟨i+1,.own ls.length 1,ls++[1],bx++[Qd e],zd,zE,by rw[bB];simp[Xa],.inr ⟨_,rfl,zE,by rw[bB];simp,by rw[bB];simp⟩,by simp[Qa,Qd]⟩,zE⟩
   have DA:=(zza.1 ey).1;simp[h17,h5,aa,ah,ai,Qd,Qa,mN,MX,hw,ey];refine⟨⟨?_,zE⟩,aR,⟨i+1,.own k 1,ls.set k (S.length+1),bx++[Qd e],zd,zE,by rw[bB];simp[Xa],.inr ⟨_,rfl,zE,by rw[bB];simp[DA],by rw[bB];simp⟩,by simp[Qa,Qd]⟩,zE⟩
   ·rintro row (⟨a,_,rfl⟩|rfl)<;>rfl
  have bU:¬(i:Int)<(p.ens.length:Int):=zE
  have iJ:(Ua p).take i=Ua p:=zzal (by simp[Ua];omega);rw[iJ]at h5 hO;have aM:(Ua p).length<=10000000:=by simp[Ua];omega
  have k41:=fun K'=>yH (Qa p::bx) ls p 0 [] .nil zE l2 zd Y0 K';simp only[Qa,zzcu]at k41;simp[h17,h5,bU,zzbn.2 bu,MX,Qa,mN];refine k41 _ fun ex=>?_;clear k41
  have h85:∀m,Abs.Pure Tryz.prog aD 142 [bE m 6 (.sl rt ((Ua p).map Xa))] (.sl .ro ((Ua p).map Xa)):=fun m=>by
   have kc:=afZ (Ua p) zE;obtain⟨h1,rfl⟩|⟨k,rfl,_⟩:=hO
   ·exact Xp kc ⟨Wk.sl _ _,trivial⟩
   exact kc
  simp[mN];refine Qdx (Qa p::bx) ex ls (I6 p) (Ua p) rt 0 zE zE hc l1 l2 l3 Gr ei S9 (by simp[I6]) (fun _ _ h=>(by cases h)) (fun _ _ h=>(by cases h)) (amV p) Y0 _ (fun h0 rv li pm gN exl hB=>?_) (fun l h1 rv li pm gN exl U5 hB hO2=>?_)
  ·have h0:Jg p (Ua p) [] [] 0 (-1)=none:=h0;have hr:Sf p=.aQ [.sl .nil [],.sl .ro ((og (I6 p) (Ua p)).map Xa),I 90]:=by rw[Sf,if_neg (by simp[hv]),h0]
   have ck:oB (I6 p) (Ua p)=false:=by show(Jg p (Ua p) [] [] 0 (-1)).isSome=false;rw[h0];rfl
   rw[hr];simp[mN];refine Mq (Qa p::bx) (ex++gN) (ls++exl) {I6 p with rv:=rv,li:=li,pm:=pm} (Ua p) rt h85 0 zE zE hc l1 l2 l3 Gr ei S9 (by simp[I6]) (fun _ _ h=>(by cases h)) (fun _ _ h=>(by cases h)) hB Y0 _ (fun EE li3 pm3 D5 eF Oh=>?_);have ayk:oB {I6 p with rv:=rv,li:=li,pm:=pm} (Ua p)=false:=ck;have qC:og {I6 p with rv:=rv,li:=li,pm:=pm} (Ua p)=og (I6 p) (Ua p):=rfl;rw[ayk,qC,if_neg zd];simp[Tf]
  have h1:Jg p (Ua p) [] [] 0 (-1)=some l:=h1;have hr:Sf p=.aQ [I3 l,.sl .nil [],I 0]:=by rw[Sf,if_neg (by simp[hv]),h1]
  rw[hr];obtain⟨rfl,rfl⟩|⟨k2,rfl,_,_,aJ⟩:=hO2
  ·simp[mN,Tf,I3]
  simp[mN,Tf,I3,aJ]
def atj(it:Int)(bf:List (Int×Int)):Int:=((bf.filter fun a=>decide (a.1=it)).length:Nat)
structure azt (p:Pl) (bf us en:List (Int×Int)):Prop where
 us:∀it,(af it us).getD 0<=atj it bf
 en:∀k v,af k en=some v->∃a∈bf,∃x,Xg a.1 p.aO=some x/\x.sp=k/\v<=a.2
structure azu (p:Pl) (bf us en:List (Int×Int)):Prop where
 us:∀it,atj it bf<=(af it us).getD 0
 en:∀a∈bf,∀x,Xg a.1 p.aO=some x->∃v,af x.sp en=some v/\a.2<=v
def ay5(p:Pl)(c:Cl):Pl:={p with cls:=p.cls++[c]}
def g0(ok:P2->Bool)(rd:Int->Nat):P2->P2->List Bool
 |[],_=>[]
 |id::r,HW=>if rd id=0 then ok (HW++[id])::g0 ok rd r (if ok (HW++[id])=true then HW++[id]else HW)else false::g0 ok rd r HW
def aaC(ok:P2->Bool)(rd:Int->Nat):∀(l HW:P2),(g0 ok rd l HW).length=l.length
 |[],_=>rfl
 |id::r,HW=>by rw[g0];split<;>simp[aaC ok rd r]
def jX(w:Bool):∀(a:P2)(K:List Bool)(b:P2)(L:List Bool),a.length=K.length->Xc w (a++b) (K++L)=Xc w a K++Xc w b L
 |[],[],_,_,_=>rfl
 |[],_::_,_,_,h=>by simp at h
 |_::_,[],_,_,h=>by simp at h
 |x::a,k::K,b,L,h=>by
  simp only[zzae,Xc];rw[jX w a K b L (Pi h)];split<;>simp
def yS(ok:P2->Bool)(rd:Int->Nat):∀(b a:P2)(K:List Bool),a.length=K.length->((List.range' a.length b.length).foldl (Jr ok rd (a++b) 0) (K++List.replicate b.length false))=K++g0 ok rd b (Xc true a K)
 |[],a,K,h=>by simp[g0]
 |id::b,a,K,h=>by
  rw[zzav,zzez,zzda];have aM:(a++id::b)[a.length]?=some id:=zd
  have hK:a.length<(K++List.replicate (b.length+1) false).length:=by simp;omega
  have bW:∀x,(K++List.replicate (b.length+1) false).set a.length x=(K++[x])++List.replicate b.length false:=fun x=>by
   rw[zzcy _ _ zE,h,zzfw,zzff];simp
  have C9:a++id::b=(a++[id])++b:=zd
  have ayl:Xc true (a++id::b) ((K++[true])++List.replicate b.length false)=Xc true a K++[id]:=by
   rw[C9,jX true (a++[id]) (K++[true]) b _ (by simp[h]),jX true a K [id] [true] h,yR];simp[Xc]
  have aH:∀x:Bool,(a++[id]).length=(K++[x]).length:=fun x=>by simp[h]
  have gr:a.length+1=(a++[id]).length:=zd
  unfold Jr;rw[aM];simp only;by_cases hr:rd id=0
  ·rw[if_pos hr,bW true,ayl,bW,g0,if_pos hr];have ih:=yS ok rd b (a++[id]) (K++[ok (Xc true a K++[id])]) (aH _);rw[<- C9,<- gr]at ih;rw[show(List.foldl (fun K i=>Jr ok rd (a++id::b) 0 K i))=List.foldl (Jr ok rd (a++id::b) 0)from rfl]at*
   refine ih.trans ?_;rw[jX true a K [id] _ h];cases hb:ok (Xc true a K++[id])<;>simp[Xc]
  rw[if_neg hr,g0,if_neg hr];have ih:=yS ok rd b (a++[id]) (K++[false]) (aH _);rw[<- C9,<- gr]at ih;have e:K++List.replicate (b.length+1) false=(K++[false])++List.replicate b.length false:=by rw[zzff];simp
  rw[e];refine ih.trans ?_;rw[jX true a K [id] _ h];simp[Xc]
def Sh(ok:P2->Bool)(rd:Int->Nat)(ids:P2):Uz ok rd ids 0 (List.replicate ids.length false)=g0 ok rd ids []:=by
 have:=yS ok rd ids [] [] rfl;simp only[zzcd,zzaj,Xc]at this;rw[Uz,zzed];exact this
def lB(ok:P2->Bool)(rd:Int->Nat):∀(ids HW:P2),(Xc false ids (g0 ok rd ids HW)).filter (fun id=>decide (rd id=0))=Xc false (ids.filter fun id=>decide (rd id=0)) (g0 ok rd (ids.filter fun id=>decide (rd id=0)) HW)
 |[],HW=>rfl
 |id::r,HW=>by
  by_cases h:rd id=0
  ·rw[zzdw (by simp[h]),g0,g0,if_pos h,if_pos h];cases hb:ok (HW++[id])with
   |true=>simpa[Xc]using lB ok rd r (HW++[id])
   |false=>
    simp only[Xc,zzbp,if_false,beq_self_eq_true,if_true];rw[zzdw (by simp[h]),lB ok rd r HW]
  rw[zzfo (by simp[h]),g0,if_neg h];simp only[Xc,beq_self_eq_true,if_true];rw[zzfo (by simp[h]),lB ok rd r HW]
def aaD(rd:Int->Nat)(ids:P2)(K K':List Bool):Prop:=∀(j:Nat)(id:Int),ids[j]?=some id->rd id=0->K.getD j false=K'.getD j false
def B8(rd:Int->Nat):∀(ids:P2)(K K':List Bool),K.length=ids.length->K'.length=ids.length->aaD rd ids K K'->(Xc false ids K).filter (fun id=>decide (rd id=0))=(Xc false ids K').filter (fun id=>decide (rd id=0))
 |[],K,K',_,_,_=>by simp[Xc]
 |id::r,[],_,h,_,_=>by simp at h
 |id::r,_::_,[],_,h,_=>by simp at h
 |id::r,k::K,k'::K',h1,h2,h=>by
  have ih:=B8 rd r K K' (Pi h1) (Pi h2) fun j x hj hx=>by simpa using h (j+1) x (Pi hj) hx
  by_cases hr:rd id=0
  ·have h0:=h 0 id rfl hr;simp at h0;subst h0;simp only[Xc];split
   ·rw[zzdw (by simp[hr]),zzdw (by simp[hr]),ih]
   exact ih
  simp only[Xc]
  have e:∀(b:Bool)(l:P2),(if(b==false)=true then id::l else l).filter (fun id=>decide (rd id=0))=l.filter fun id=>decide (rd id=0):=fun b l=>by
   split
   ·rw[zzfo (by simp[hr])]
   rfl
  rw[e,e,ih]
def tC(ok:P2->Bool)(rd:Int->Nat)(ids:P2)(r:Nat)(hr:r≠0)(K:List Bool):aaD rd ids (Uz ok rd ids r K) K/\(Uz ok rd ids r K).length=K.length:=by
 have key:∀(L:P1)(K:List Bool),aaD rd ids (L.foldl (Jr ok rd ids r) K) K/\(L.foldl (Jr ok rd ids r) K).length=K.length:=by
  intro L;induction L with
  |nil=>intro K;exact⟨fun _ _ _ _=>rfl,rfl⟩
  |cons i L ih=>
   intro K;obtain⟨h1,h2⟩:=ih (Jr ok rd ids r K i);refine⟨fun j id hj aM=>?_,by rw[zzda,h2,Se]⟩;rw[zzda,h1 j id hj aM];unfold Jr;cases hi:ids[i]? with
   |none=>rfl
   |some x=>
    simp only;split
    ·rename_i hx;rw[jW,if_neg (by rintro⟨e,_⟩;subst e;rw[hi]at hj;cases hj;omega)]
    rfl
 exact key _ K
def aym(ok:P2->Bool)(rd:Int->Nat)(ids:P2):(Xc false ids (Jk ok rd ids)).filter (fun id=>decide (rd id=0))=Xc false (ids.filter fun id=>decide (rd id=0)) (Jk ok rd (ids.filter fun id=>decide (rd id=0))):=by
 obtain⟨S,hS⟩:∃S,(ids.filter fun id=>decide (rd id=0))=S:=⟨_,rfl⟩;have bD:∀(L:P2),Jk ok rd L=Uz ok rd L 2 (Uz ok rd L 1 (g0 ok rd L [])):=fun L=>by rw[Jk,Sh]
 have two:∀(L:P2),(Xc false L (Jk ok rd L)).filter (fun id=>decide (rd id=0))=(Xc false L (g0 ok rd L [])).filter (fun id=>decide (rd id=0)):=fun L=>by
  rw[bD];obtain⟨a1,a2⟩:=tC ok rd L 1 zE (g0 ok rd L []);obtain⟨b1,b2⟩:=tC ok rd L 2 zE (Uz ok rd L 1 (g0 ok rd L []));have hg:=aaC ok rd L [];refine B8 rd L _ _ zE hg fun j id hj aM=>?_;rw[b1 j id hj aM,a1 j id hj aM]
 rw[two ids,lB,hS]
 have hSf:∀id∈S,rd id=0:=fun id h=>by
  rw[<- hS]at h;simpa using(zzcr.1 h).2
 have bU:∀(L:P2)(K:List Bool),∀x∈Xc false L K,x∈L:=by
  intro L;induction L with
  |nil=>intro K x hx;simp[Xc]at hx
  |cons y L ih=>
   intro K x hx;cases K with
   |nil=>simp[Xc]at hx
   |cons k K=>
    simp only[Xc]at hx;split at hx
    ·rcases zzao.1 hx with rfl|hx
     ·simp
     exact zzdj _ (ih K x hx)
    exact zzdj _ (ih K x hx)
 have aM:∀K:List Bool,(Xc false S K).filter (fun id=>decide (rd id=0))=Xc false S K:=fun K=>zzgb.2 fun x hx=>by simp[hSf x (bU S K x hx)]
 have:=two S;rw[aM,aM]at this;exact this.symm
section
variable (P:Int->Prop) (fr low:Int)
def OkA(t:Int):Prop:=∀x,t<=x->x<t+fr->P x
structure RfI (c run last:Int):Prop where
 no:∀t,low<=t->t+fr<=c->¬OkA P fr t
 st:(run= -1/\last= -1/\∀x,low<=x->x<c->¬P x)\/(low<=run/\run<last/\last<=c/\(∀x,run<=x->x<last->P x)/\(run=low\/¬P (run-1))/\∀x,last<=x->x<c->¬P x)
end
def nlB(a b:List Sp):Bool:=a.all fun x=>b.all fun y=>!(decide (x.1=y.1)&&decide (y.2<x.2))
def jR(w:Bool):∀(ids:P2)(K:List Bool),(Xc w ids K).Sublist ids
 |[],K=>by cases K<;>simp[Xc]
 |id::r,[]=>by simp[Xc]
 |id::r,k::ks=>by
  rw[Xc];split
  ·exact(jR w r ks).cons_cons id
  exact(jR w r ks).cons id
def HX:∀{ids:P2}{K:List Bool},K.length=ids.length->(∀j,j<ids.length->K.getD j false=true)->Xc true ids K=ids/\Xc false ids K=[]
 |[],K,_,_=>by cases K<;>exact⟨rfl,rfl⟩
 |id::r,[],h,_=>by simp at h
 |id::r,k::ks,h,hk=>by
  have h0:=hk 0 zd;simp at h0;subst h0
  obtain⟨h1,h2⟩:=HX (ids:=r) (K:=ks) (Pi h) fun j hj=>by
   have:=hk (j+1) (Pi hj);simpa using this
  simp[Xc,h1,h2]
def Mr{ok:P2->Bool}(hm:aaA ok)(h0:ok []=true)(rd:Int->Nat)(ids:P2)(fB:∀id∈ids,rd id<=2)(h:ok ids=true):Xc true ids (Jk ok rd ids)=ids/\Xc false ids (Jk ok rd ids)=[]:=by
 obtain⟨h1,h2,h3⟩:=tw hm h0 rd ids fB;refine HX h1 fun j hj=>?_;rcases h3 j _ (zzad hj)with h4|h4
 ·exact h4
 rw[hm _ _ (jR true ids _) h]at h4;cases h4
def amK(n:Int):Prop:= -9223372036854775808<=n/\n<=9223372036854775807
structure Ca where
 p:Pl
 ids:P2
 wh:Int
 at_:Int
 past:List Ad
structure PlK (p:Pl):Prop where
 cls:p.cls.length<=1000
 sh:p.sh.length<=1000
 aO:p.aO.length<=1000
 ens:p.ens.length<=1000
 bks:p.bks.length<=1000
 als:∀e∈p.ens,e.al.length<=1000
 ln: -9223372036854775808<=p.ln/\p.ln<=9223372036854775807
 ea:∀e∈p.ens,-9223372036854775808<=e.ea/\e.ea<=9223372036854775807
 la:∀e∈p.ens,-9223372036854775808<=e.la/\e.la<=9223372036854775807
 fr:∀e∈p.ens,-9223372036854775808<=e.fr/\e.fr<=2000
def PlK.spn{p:Pl}(h:PlK p):(Yx p).length<=1000:=by
 have:=qn p.aO [] [];have:=h.aO;simp only[Yx];simp at*;omega
def HG:∀(l:List Ad)(us:List (Int×Int))(n:Int),0<=n->p5 n us->p5 (n+l.length) (Ov l us)
 |[],us,n,_,h=>by simpa[Ov]using h
 |a::r,us,n,hn,h=>by
  rw[Ov]
  have h1:p5 (n+1) (if rJ a=true then Vs us a.it else us):=by
   split
   ·exact h.note hn a.it
   exact fun k v hk=>by have:=h k v hk;omega
  have h2:=HG r _ (n+1) zE h1;have:n+((a::r).length:Int)=n+1+(r.length:Int):=by simp;omega
  rw[this];exact h2
def HH(p:Pl):∀(l:List Ad)(en:List (Int×Int)),uj en->uj (Ow p l en)
 |[],en,h=>by simpa[Ow]using h
 |a::r,en,h=>by
  rw[Ow];refine HH p r _ ?_;cases hc:rJ a with
  |false=>simpa[hc]using h
  |true=>
   simp only[if_true];refine h.note a.it _ ?_;simp[rJ]at hc;omega
def HI(l:P2):AV:=if l=[]then .sl .nil []else .sl .ro (l.map Xa)
def gO(p:Pl)(at_:Int)(past:List Ad):Bd:=⟨p,at_,Ov past [],Ow p past [],[],[],[]⟩
def amL(p:Pl)(at_:Int)(past:List Ad):BU (gO p at_ past):=⟨fun _ _ h=>(by cases h),fun _ _ h=>(by cases h),fun _ _ h=>(by cases h)⟩
def RX(p:Pl)(id:Int):Nat:=match Zf id p.ens with
 |none=>2
 |some e=>if e.bo≠0 then 0 else match Xg e.it p.aO with
  |none=>2
  |some x=>if x.ki=1\/x.ki=4 then 1 else 2
def Ko(p:Pl)(at_:Int)(past:List Ad)(ids:P2):List Bool:=Jk (oB (gO p at_ past)) (RX p) ids
def R2(p:Pl)(at_:Int)(past:List Ad)(ids:P2):AV:=
 .aQ [I3 ((Yo p at_ past (Xc true ids (Ko p at_ past ids))).getD []),HI (Xc false ids (Ko p at_ past ids))]
theorem u0(p:Pl)(at_:Int)(past:List Ad)(ids:P2):oB (gO p at_ past) ids=(Yo p at_ past ids).isSome:=rfl
def aaE(p:Pl)(id:Int):RX p id<=2:=by
 unfold RX;cases Zf id p.ens with
 |none=>exact zzaa _
 |some e=>
  simp only;split
  ·omega
  cases Xg e.it p.aO with
  |none=>exact zzaa _
  |some x=>simp only;split<;>omega
def Mk(p:Pl)(at_:Int)(past:List Ad)(ids:P2):(Ko p at_ past ids).length=ids.length/\(Yo p at_ past (Xc true ids (Ko p at_ past ids))).isSome=true/\
  ∀(j:Nat)(id:Int),ids[j]?=some id->(Ko p at_ past ids).getD j false=true\/(Yo p at_ past (Xc true ids ((Ko p at_ past ids).set j true))).isSome=false:=
 tw (HV _) (O0 _) (RX p) ids fun id _=>aaE p id
def R4(p:Pl)(at_:Int)(past:List Ad)(ids:P2)(h:(Yo p at_ past ids).isSome=true):Xc true ids (Ko p at_ past ids)=ids/\Xc false ids (Ko p at_ past ids)=[]:=
 Mr (HV _) (O0 _) (RX p) ids (fun id _=>aaE p id) h
