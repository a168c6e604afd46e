import Derived.Test.YthjppoincojfkaaGreatDoorRTMS
set_option linter.all false
set_option maxRecDepth 100000
set_option maxHeartbeats 64000000
namespace Go.Proofs.YthjppoincojfkaaGreatDoor
open Go Go.Abs
def yM{at_ n t:Int}(hn:1<=n)(ht:at_<=t):∀{l:List Sp},VS l->(∀x,t<=x->x<t+n->Xu l x)->∃s,Gq at_ n l=some s/\s<=t
 |[],_,h=>by
  have:=h t (zzbd _) zE;simp at this
 |a::r,hv,h=>by
  have ha:=hv.1 a zd;have hp:=zzcg.1 hv.2;have hr:VS r:=⟨fun s hs=>hv.1 s (by simp[hs]),hp.2⟩;rw[Gq];by_cases c:max a.1 at_<a.2/\n<=a.2-max a.1 at_
  ·rw[ac c];refine⟨_,rfl,?_⟩;have h0:=h t (zzbd _) zE;rw[Xf]at h0;obtain h0|⟨s,hs,h1,h2⟩:=h0
   ·omega
   have:=hp.1 s hs;omega
  rw[ab c]
  have ays:∀x,t<=x->x<t+n->¬(a.1<=x/\x<a.2):=by
   intro x JF N2 hx
   have h2:¬Xu (a::r) a.2:=by
    rw[Xf];rintro(h|⟨s,hs,h1,_⟩)
    ·omega
    have:=hp.1 s hs;omega
   have h3:t+n<=a.2:=by
    rcases zzdw a.2 (t+n)with h'|h'
    ·exact absurd (h a.2 zE h') h2
    exact h'
   have h4:a.1<=t:=by
    rcases zzdw t a.1 with h'|h'
    ·have h5:=h (a.1-1) zE zE;rw[Xf]at h5;obtain h5|⟨s,hs,h6,_⟩:=h5
     ·omega
     have:=hp.1 s hs;omega
    exact h'
   exact c ⟨zE,zE⟩
  refine yM hn ht hr fun x h1 h2=>?_;have h3:=h x h1 h2;rw[Xf]at h3;exact h3.resolve_left (ays x h1 h2)
def yN{p:Pl}{it k at_ n t:Int}(hn:1<=n/\n<=1000000)(ht:at_<=t)(hk:k*1000000<=t/\t+n<=(k+2)*1000000)(h:∀x,t<=x->x<t+n->II p it 0 x):∃s,lB (Za p it k) at_ n=some s/\s<=t:=by
 rw[lB,ab zE];refine yM hn.1 ht (Va _).1 fun x h1 h2=>?_;rw[(Va _).2,Qcb];exact⟨zE,zE,h x h1 h2⟩
def agi{p:Pl}{it k at_ n s:Int}(hn:1<=n)(h:lB (Za p it k) at_ n=some s):s+n<=(k+2)*1000000:=by
 rw[lB,ab zE]at h;obtain⟨a,ha,h1,h2,h3⟩:=Df h;have:Xu (Xm (Za p it k)) (s+n-1):=⟨a,ha,zE,zE⟩;rw[(Va _).2,Qcb]at this;omega
def BH{p:Pl}{e:En}{last from_ n t:Int}(he:1<=e.fr/\e.fr<=1000000)(h1:from_<=t)(h2:t<=last)(h3:n*1000000<=t)(h:∀x,t<=x->x<t+e.fr->II p e.it 0 x):∃s,SP p e last from_ n=some s/\s<=t:=by
 rw[SP,ac zE];cases hs:lB (Za p e.it n) from_ e.fr with
 |none=>
  simp only;refine BH he h1 h2 ?_ h;rcases zzdw t ((n+1)*1000000)with h'|h'
  ·obtain⟨s,dz,_⟩:=yN (p:=p) (it:=e.it) (k:=n) he h1 ⟨h3,zE⟩ h;rw[hs]at dz;cases dz
  exact h'
 |some s=>
  simp only;have bP:=agi he.1 hs
  have bM:s<=t:=by
   rcases zzdw ((n+2)*1000000) (t+e.fr)with h'|h'
   ·omega
   obtain⟨s',dz,cw⟩:=yN (p:=p) (it:=e.it) (k:=n) he h1 ⟨h3,h'⟩ h;rw[hs]at dz;cases dz;exact cw
  rw[ab zE];exact⟨s,rfl,bM⟩
termination_by(last-n*1000000+1000000).toNat
decreasing_by omega
def pW{p:Pl}{e:En}{from_ t:Int}(he:1<=e.fr/\e.fr<=1000000)(h1:from_<=t)(h0:0<=t)(h2:t<=e.la/\t+e.fr<=p.ln/\t<=100000000)(h:∀x,t<=x->x<t+e.fr->II p e.it 0 x):∃s,Vm p e from_=some s/\s<=t:=by
 rw[Vm,ab zE];refine BH he zE (by simp only[lW];omega) ?_ h;have hm:0<=max from_ 0:=zE
 rw[zzcj hm];omega
def LeU(us' us:List (Int×Int)):Prop:=∀k,(af k us').getD 0<=(af k us).getD 0
def z7(en' en:List (Int×Int)):Prop:=∀k v',af k en'=some v'->∃v,af k en=some v/\v'<=v
def z7.refl(en:List (Int×Int)):z7 en en:=fun k v h=>⟨v,h,zzbd _⟩
def LeU.note{us' us:List (Int×Int)}(h:LeU us' us)(it:Int):LeU (Zx us' it) (Zx us it):=fun k=>by
 rw[Zx,Zx,Ul,Ul];have:=h it;split
 ·simp;omega
 exact h k
def LeU.skip{us' us:List (Int×Int)}(h:LeU us' us)(it:Int):LeU us' (Zx us it):=fun k=>by
 rw[Zx,Ul];split
 ·rename_i e;have:=h it;rw[e];simp;omega
 exact h k
def z7.note{p p':Pl}{en' en:List (Int×Int)}(h:z7 en' en)(it:Int){e' e:Int}(he:e'<=e)(h0:0<=e')(hp:Xk it p'.aM=Xk it p.aM):z7 (Xz p' en' it e') (Xz p en it e):=fun k v' hk=>by
 unfold Xz at hk |-
 rw[hp]at hk;cases hf:Xk it p.aM with
 |none=>rw[hf]at hk;exact h k v' hk
 |some x=>
  rw[hf]at hk;simp only[Ul]at hk |-
  split at hk
  ·rename_i Ys;cases hk;refine⟨_,by rw[ac Ys],?_⟩;cases h1:af x.sp en' with
   |none=>
    cases h2:af x.sp en with
    |none=>simp;omega
    |some v=>simp;omega
   |some v1=>
    obtain⟨v,hv,cw⟩:=h _ _ h1;rw[hv];simp;omega
  rename_i Ys;obtain⟨v,hv,cw⟩:=h k v' hk;exact⟨v,by rw[ab Ys];exact hv,cw⟩
def z7.skip{p:Pl}{en' en:List (Int×Int)}(h:z7 en' en)(it e:Int):z7 en' (Xz p en it e):=fun k v' hk=>by
 obtain⟨v,hv,cw⟩:=h k v' hk;unfold Xz;cases hf:Xk it p.aM with
 |none=>exact⟨v,hv,cw⟩
 |some x=>
  simp only[Ul];split
  ·rename_i Ys;subst Ys;exact⟨_,rfl,by rw[hv];simp;omega⟩
  exact⟨v,hv,cw⟩
def Qee{en' en:List (Int×Int)}(h:z7 en' en):∀(l:List Sp){f' f:Int},f'<=f->Vr en' l f'<=Vr en l f
 |[],_,_,hf=>hf
 |r::l,f',f,hf=>by
  rw[Vr,Vr];refine Qee h l ?_;cases h1:af r.1 en' with
  |none=>
   cases h2:af r.1 en with
   |none=>exact hf
   |some v=>simp only;omega
  |some v1=>
   obtain⟨v,hv,cw⟩:=h _ _ h1;rw[hv];simp only;omega
structure agj (p' p:Pl):Prop where
 aM:p'.aM=p.aM
 ens:p'.ens=p.ens
 ln:p'.ln=p.ln
 runs:∀it,Jf p' it=Jf p it
 riv:∀it,Ub p' it=Ub p it
 perm:∀it x,II p it 0 x->II p' it 0 x
def agj.refl(p:Pl):agj p p:=⟨rfl,rfl,rfl,fun _=>rfl,fun _=>rfl,fun _ _ h=>h⟩
inductive BI:List Sp->List Sp->Prop
 |nil (l:List Sp):BI [] l
 |skip {l' l:List Sp} (s:Sp):BI l' l->BI l' (s::l)
 |cons {l' l:List Sp} (id s' s:Int):s'<=s->BI l' l->BI ((id,s')::l') ((id,s)::l)
def R4{p' p:Pl}(hm:agj p' p){agk ids:Pi}(anz:agk.Sublist ids):∀{us' us en' en:List (Int×Int)}{free' free last' last:Int}{l:List Sp},LeU us' us->z7 en' en->free'<=free->last'<=last->Yt p ids us en free last=some l->
  ∃l',Yt p' agk us' en' free' last'=some l'/\BI l' l:=by
 induction anz with
 |slnil=>
  intro us' us en' en free' free last' last l _ _ _ _ h;exact⟨[],rfl,.nil _⟩
 |@cons agk ids id _ ih=>
  intro us' us en' en free' free last' last l hu he hf hla h;rw[Yt]at h;cases hk:Wy id p.ens 0 with
  |none=>rw[hk]at h;cases h
  |some k=>
   rw[hk]at h;simp only at h;split at h
   ·cases h
   rename_i ur;cases hx:p.ens[k]? with
   |none=>rw[hx]at h;cases h
   |some e=>
    rw[hx]at h;simp only at h;split at h
    ·cases h
    cases hs:Vm p e (Vr en (Ub p e.it) (max e.ea free))with
    |none=>rw[hs]at h;cases h
    |some s=>
     rw[hs]at h;simp only at h;cases hg:Yt p ids (Zx us e.it) (Xz p en e.it (s+e.fr)) (s+e.fr) k with
     |none=>rw[hg]at h;cases h
     |some r=>
      rw[hg]at h;cases h;obtain⟨a1,a2,_⟩:=Uh hs;have eZ:=pz en (Ub p e.it) (max e.ea free);obtain⟨l',h1,h2⟩:=ih (hu.skip e.it) (he.skip e.it (s+e.fr)) (free':=free') zE (last':=last') zE hg;exact⟨l',h1,.skip _ h2⟩
 |@cons_cons agk ids id _ ih=>
  intro us' us en' en free' free last' last l hu he hf hla h;rw[Yt]at h;rw[Yt,hm.ens];cases hk:Wy id p.ens 0 with
  |none=>rw[hk]at h;cases h
  |some k=>
   rw[hk]at h;simp only at h |-
   split at h
   ·cases h
   rename_i ur;rw[ab zE];cases hx:p.ens[k]? with
   |none=>rw[hx]at h;cases h
   |some e=>
    rw[hx]at h;simp only at h |-
    split at h
    ·cases h
    rename_i hr;have hue:=hu e.it;rw[hm.runs,hm.riv,ab (by intro hh;exact hr ⟨hh.1,zE⟩)];cases hs:Vm p e (Vr en (Ub p e.it) (max e.ea free))with
    |none=>rw[hs]at h;cases h
    |some s=>
     rw[hs]at h;simp only at h;cases hg:Yt p ids (Zx us e.it) (Xz p en e.it (s+e.fr)) (s+e.fr) k with
     |none=>rw[hg]at h;cases h
     |some r=>
      rw[hg]at h;cases h;obtain⟨a1,a2,a3,a4,a5,a6,a7⟩:=Uh hs;have hfm:=Qee he (Ub p e.it) (show max e.ea free'<=max e.ea free by omega);obtain⟨s',dz,cw⟩:=pW (p:=p') (from_:=Vr en' (Ub p e.it) (max e.ea free')) a1 zE a3 ⟨a4,by rw[hm.ln];exact a5,a6⟩ (fun x h1 h2=>hm.perm _ _ (a7 x h1 h2));have cK:=Uh dz;rw[dz];simp only;obtain⟨l',h1,h2⟩:=ih (hu.note e.it) (he.note e.it (e':=s'+e.fr) (e:=s+e.fr) zE zE (by rw[hm.aM])) (free':=s'+e.fr) zE (last':=(k:Int)) (zzbd _) hg;rw[h1];exact⟨_,rfl,.cons id s' s cw h2⟩
def HN{l:Pa}{n:Nat}(h:l.Nodup)(hb:∀i∈l,i<n):l.length<=n:=by
 have hp:l.Perm ((List.range n).filter fun i=>decide (i∈l)):=by
  rw[zzgo h (zzdn.filter _)];intro i;simp only[zzbp,zzb,am];exact⟨fun hi=>⟨hb i hi,hi⟩,fun hi=>hi.2⟩
 rw[hp.length_eq];refine zzbb (zzcf _ _) ?_;simp
def O3(id:Nat)(m:AM):Nat:=match Qi m.boxes id with
 |[.mitr _ _ s]=>s.length
 |_=>0
def agl{α:Type}{row:α->AV}{L:List (Int×α)}{i:Nat}{k:Pi}{c:AV}(h:(bG row L)[i]?=some (k,c)):∃o x,L[i]?=some (o,x)/\k=[o]/\c=row x/\(bG row L).getD i ([],.junk)=([o],row x)/\i<L.length:=by
 have hg:(bG row L).getD i ([],.junk)=(k,c):=by rw[zzaw,h];rfl
 rw[bG,zzbn]at h;cases hL:L[i]? with
 |none=>rw[hL]at h;cases h
 |some y=>
  rw[hL]at h;cases h;exact⟨y.1,y.2,rfl,rfl,rfl,hg,(zza.1 hL).1⟩
def L9(p:Pl)(it:Int)(L:List (Int×Int))(o x:Int):xM p it (L++[(o,x)])=if 0<Kh p x it then xM p it L++[(o,Kh p x it)]else xM p it L:=by
 unfold xM;rw[List.filterMap_append];by_cases h:0<Kh p x it
 ·rw[ac h];simp[h]
 rw[ab h];simp[h]
def HO{m:AM}{K:So}{id mid n kn:Nat}{seen:Pa}{kvs:List (Pi×AV)}(h1:Qi m.boxes id=[.mitr mid n seen])(h2:Qi m.boxes mid=[.aJ kn kvs])(h:kvs.length=n)
  (hs:∀i k c,kvs[i]?=some (k,c)->i ∉ seen->K (.aS [.bool true,keyAV kn k,c]) {m with boxes:=m.boxes.set id [.mitr mid n (seen++[i])]})(he:(∀i,i<n->i∈seen)->K (.aS [.bool false]) m):vcNxt m K (.it id):=by
 simp only[vcNxt,Yd,h1,h2];exact⟨h,hs,he⟩
def O4(p:Pl)(it:Int):UV:=fun _ f l=>if f=227 then(match l with|[_,.int _ x,_]=>I (Kh p x it)|_=>.junk)else .junk
def auc(pre:T5)(b:Bd)(post:T5)(ls:Pa)(it:Int)(f:Nat->AV)(m:AM):Prop:=∃(seen:Pa)(l:List Sp)(rt:Rt)(exl:Pa),
 seen.Nodup/\(∀i∈seen,i<(Ua b.p).length)/\l=xM b.p it (atL (0,0) (Ua b.p) seen)/\f 8=.sl rt (l.map Qe)/\(l=[]/\rt=.nil/\exl=[]\/l≠[]/\rt=.own ls.length 2/\exl=[l.length])/\
 m=aP pre b (post++[[.mitr (pre.length+3) (Ua b.p).length seen]]) (ls++exl)
def HP(pre post:T5)(ls:Pa)(b:Bd)(it:Int)(hc:b.p.cls.length<=1000000000)(cR:b.p.aM.length<=1000000000)(FP:(Ua b.p).length<=1000000000)(IM:aeS b)(Y:YT)(K:So)
  (hK:∀(rv:List (Int×(Rt×List Sp)))(ex:T5)(exl:Pa)(rt:Rt)(l:List Sp),aeS {b with rv:=rv}->l.Perm (Ub b.p it)->K (.sl rt (l.map Qe)) (aP pre {b with rv:=rv} (post++ex) (ls++exl))):
  aB Tryz.prog aD Y 171 [.ptr (pre.length+9) 0,I it] (aP pre b post ls) K:=by
 have nil:Ub b.p it=[]->K (.sl .nil []) (aP pre b post ls):=fun h=>by
  have:=hK b.rv [] [] .nil [] IM (by rw[h]);simpa using this
 refine Xo ac3 (O4 b.p it) zd ?_
 have ayt:∃r,Xh [it] (bG ri (zV b.p)) 0=r/\((∃n y,Xk it b.p.aM=some y/\r=some (n,ri y))\/(Xk it b.p.aM=none/\r=none)):=by
  rcases Xx ri it (zV b.p) 0 with⟨h1,h2,_,_⟩|⟨u,n,h1,h2,_⟩
  ·rw[uL]at h1;exact⟨_,rfl,.inr ⟨h1,h2⟩⟩
  rw[uL]at h1;exact⟨_,rfl,.inl ⟨_,u,h1,h2⟩⟩
 obtain⟨r,hr,Q4⟩:=ayt;obtain⟨n,y,hf,rfl⟩|⟨hf,rfl⟩:=Q4
 ·rcases Xx iA y.sp (Ua b.p) 0 with⟨s1,s2,_,_⟩|⟨su,sn,s1,s2,_⟩
  ·simp[Ar,EG,aP,aX,Qo,Qa,hr,ri,Qm,s2];exact nil (by simp[Ub,hf,s1])
  have hrl:Ub b.p it=xM b.p it (Ua b.p):=by simp[Ub,hf,s1,xM]
  rcases Xx rvA y.sp b.rv 0 with⟨m1,m2,_,m4⟩|⟨mu,mn,m1,m2,_⟩
  ·simp[Ar,aP,aX,Qo,Qa,hr,ri,Qm,s2,m2];refine Qj vq (auc pre b post ls it) (fun _ m=>(Ua b.p).length-O3 (pre.length+(post.length+10)) m) ?_ ?_
   ·exact⟨[],[],.nil,[],List.nodup_nil,zd,rfl,zd,.inl ⟨rfl,rfl,rfl⟩,by simp[aP,aX,Qo,Qa]⟩
   rintro f m ⟨seen,l,rt,exl,hn,hb,hl,h8,aY,rfl⟩;have fU:seen.length<=(Ua b.p).length:=HN hn hb;simp[-vcNxt,aP,aX,Qo,Qa,vq];refine HO (mid:=pre.length+3) (n:=(Ua b.p).length) (kn:=0) (seen:=seen) (kvs:=bG iA (Ua b.p)) ?_ ?_ ?_ (fun i k c hi Sy=>?_) fun bD=>?_
   ·simp
   ·simp
   ·simp
   ·obtain⟨o,x,hx,rfl,rfl,JN,ah⟩:=agl hi
    have bu:(bG iA (Ua b.p))[i]'(Nm ah)=([o],iA x):=by
     have:=zza.1 hi;exact this.2
    have anA:=al9 b.p x it hc cR;have qh:(seen++[i]).Nodup:=List.nodup_append.2 ⟨hn,zd,fun a ha c hc=>by simp at hc;subst hc;rintro rfl;exact Sy ha⟩
    have cK:∀j∈seen++[i],j<(Ua b.p).length:=fun j hj=>by
     rcases zzaj.1 hj with h|h
     ·exact hb j h
     simp at h;subst h;exact ah
    have cw:seen.length+1<=(Ua b.p).length:=by simpa using HN qh cK
    have hxo:(Ua b.p).getD i (0,0)=(o,x):=by rw[zzaw,hx];rfl
    have Sv:atL (0,0) (Ua b.p) (seen++[i])=atL (0,0) (Ua b.p) seen++[(o,x)]:=by
     simp only[atL,zzcb,zzar,zzct,hxo]
    have Fc:=L9 b.p it (atL (0,0) (Ua b.p) seen) o x;rw[<- Sv,<- hl]at Fc;by_cases hg:0<Kh b.p x it
    ·rw[ac hg]at Fc
     have Ei:l.length<=(Ua b.p).length:=by
      rw[hl];refine zzbb (zzgy _ _) ?_;simp only[atL,zzbw];exact fU
     obtain⟨rfl,rfl,rfl⟩|⟨qf,rfl,rfl⟩:=aY
     ·simp[keyAV,hi,bu,ah,O4,hg,h8,vq,O3];refine⟨by simpa[Qa]using anA,aQ,⟨seen++[i],_,_,[1],qh,cK,rfl,by simp[Fc,Qe],.inr ⟨by simp[Fc],rfl,by simp[Fc]⟩,by simp[aP,aX,Qo,Qa]⟩,zE⟩
     simp[keyAV,hi,bu,ah,O4,hg,h8,vq,O3];refine⟨by simpa[Qa]using anA,⟨?_,zE⟩,aQ,⟨seen++[i],_,_,[l.length+1],qh,cK,rfl,by simp[Fc,Qe],.inr ⟨by simp[Fc],rfl,by simp[Fc]⟩,by simp[aP,aX,Qo,Qa]⟩,zE⟩
     ·rintro row (⟨a,b,_,rfl⟩|rfl)<;>rfl
    rw[ab hg]at Fc;simp[keyAV,hi,bu,ah,O4,hg,h8,vq,O3];refine⟨by simpa[Qa]using anA,aQ,⟨seen++[i],l,rt,exl,qh,cK,Fc.symm,by simp[h8],aY,by simp[aP,aX,Qo,Qa]⟩,zE⟩
   have hpm:l.Perm (Ub b.p it):=by
    rw[hl,hrl];exact(aeT _ _ _ hn bD hb).filterMap _
   have ayu:aeS {b with rv:=Vj y.sp (rt,l) b.rv}:=fun k x h it' y' hf' di=>by
    rw[Ul]at h;split at h
    ·rename_i e;cases h;rw[aeV hf' hf (by rw[di,e])];exact hpm
    exact IM k x h it' y' hf' di
   have:=hK _ [[.mitr (pre.length+3) (Ua b.p).length seen]] exl rt l ayu hpm;have m4':bG rvA b.rv++[([y.sp],.sl rt (l.map Qe))]=bG rvA (Vj y.sp (rt,l) b.rv):=m4 (rt,l);simp[h8,m2,EG];rw[m4'];simpa[aP,aX,Qo,Qa]using this
  simp[Ar,EG,aP,aX,Qo,Qa,hr,ri,Qm,s2,m2,rvA];have:=hK b.rv [] [] mu.1 mu.2 IM (IM _ _ m1 it y hf rfl);simpa[aP,aX,Qo,Qa]using this
 have s2:Xh [0] (bG iA (Ua b.p)) 0=none:=by
  rcases Xx iA 0 (Ua b.p) 0 with⟨_,s2,_,_⟩|⟨su,sn,s1,_⟩
  ·exact s2
  rw[Ua,xN _ _ _ rfl]at s1;cases s1
 simp[Ar,EG,aP,aX,Qo,Qa,hr,s2];exact nil (by simp[Ub,hf])
def Ab(pre:T5)(p:Pl)(at_:Int)(pl:List (Int×Int))(im:List (Int×It))(sp:List (Int×Int))(post:T5)(ls:Pa):AM:=
 ⟨pre++(Qa p::[.aJ 0 (bG iA pl)]::[.aJ 0 (bG ri im)]::[.aJ 0 (bG iA sp)]::[.aJ 0 []]::[.aJ 0 []]::[.aJ 0 []]::[.aJ 0 []]::[.aJ 2 []]::Qo pre.length ⟨p,at_,[],[],[],[],[]⟩::post),ls,fun _=>.gone,0⟩
def ayv(pre:T5)(p:Pl)(at_:Int)(ls:Pa)(f:Nat->AV)(m:AM):Prop:=∃(i:Nat)(pl:List (Int×Int))(post:T5),f 36=I i/\i<=p.ens.length/\Gp (p.ens.drop i) i pl=De p/\m=Ab pre p at_ pl [] [] post ls
def ayw(pre:T5)(p:Pl)(at_:Int)(ls:Pa)(f:Nat->AV)(m:AM):Prop:=∃(i:Nat)(im:List (Int×It))(sp:List (Int×Int))(post:T5),f 67=I i/\i<=p.aM.length/\KV (p.aM.drop i) im=zV p/\zU (p.aM.drop i) im sp=Ua p/\m=Ab pre p at_ (De p) im sp post ls
def ayx(pre:T5)(p:Pl)(at_:Int)(past:List Ad)(ls:Pa)(f:Nat->AV)(m:AM):Prop:=∃(i:Nat)(us en:List (Int×Int))(post:T5),f 108=I i/\i<=past.length/\pF i us/\Wt (past.drop i) us=Wt past []/\Wu p (past.drop i) en=Wu p past []/\m=aP pre ⟨p,at_,us,en,[],[],[]⟩ post ls
def IQ:UV:=fun _ f _=>if f=999999 then .junk else .gd false .junk
def yz(pre:T5)(ls:Pa)(p:Pl)(at_:Int)(past:List Ad)(rtp:Rt)(IK:p.ens.length<=1000000000)(cR:p.aM.length<=1000000000)(jX:past.length<=1000000000)(Y:YT)(K:So)
  (hK:∀ex,K (.ptr (pre.length+9) 0) (aP pre ⟨p,at_,Wt past [],Wu p past [],[],[],[]⟩ ex ls)):
  aB Tryz.prog aD Y 113 [.agg (Qa p),I at_,.sl rtp (past.map Vl)] ⟨pre,ls,fun _=>.gone,0⟩ K:=by
 refine Xo aci IQ zd ?_;simp[Ey,Qa,IQ];refine Qj BX (ayv pre p at_ ls) (fun f _=>p.ens.length-(numOf (f 36)).toNat) ?_ ?_
 ·exact⟨0,[],[],zd,zE,rfl,by simp[Ab,Qo,Qa]⟩
 rintro f m ⟨i,pl,post,h36,hi,ug,rfl⟩;rcases zzaa i p.ens.length with ah|bu
 ·obtain⟨e,he⟩:=aV ah;have ai:=Qdc he;have aa:(i:Int)<(p.ens.length:Int):=zE
  have hw:=bO i zE;rw[Zc he,Gp]at ug;rcases Xx iA e.id pl 0 with⟨h1,h2,_,h4⟩|⟨u,n,h1,h2,_⟩
  ·rw[h1]at ug;have SR:bG iA pl++[([e.id],I i)]=bG iA (Vj e.id (i:Int) pl):=h4 _;simp[h36,ah,aa,ai,Qd,Ab,Qo,Qa,h2,BX,hw];refine⟨aQ,⟨i+1,_,post++[Qd e],zd,zE,ug,?_⟩,zE⟩
   ·rw[SR];simp[Ab,Qo,Qa,Qd]
  rw[h1]at ug;simp[h36,ah,aa,ai,Qd,Ab,Qo,Qa,h2,BX,hw];refine⟨aQ,⟨i+1,pl,post++[Qd e],zd,zE,ug,by simp[Ab,Qo,Qa,Qd]⟩,zE⟩
 have bP:¬(i:Int)<(p.ens.length:Int):=zE
 rw[zzam bu,Gp]at ug;subst ug;simp[h36,bP,zzbm.2 bu,BX,Ab,Qo,Qa,IQ];refine Qj iE (ayw pre p at_ ls) (fun f _=>p.aM.length-(numOf (f 67)).toNat) ?_ ?_
 ·exact⟨0,[],[],post,zd,zE,rfl,rfl,by simp[Ab,Qo,Qa]⟩
 clear bu bP hi h36;rintro g m ⟨i,im,sp,post,h67,hi,R5,di,rfl⟩;rcases zzaa i p.aM.length with ah|bu
 ·obtain⟨x,hx⟩:=aV ah;have ai:Qi (p.aM.map Qm) i=Qm x:=Qw (by simp[hx]);have aa:(i:Int)<(p.aM.length:Int):=zE
  have hw:=bO i zE;rw[Zc hx,KV]at R5;rw[Zc hx,zU]at di;simp[h67,ah,aa,ai,Qm,Ab,Qo,Qa,iE,hw,IQ];refine Yz ?_;rcases Xx ri x.id im 0 with⟨h1,h2,_,h4⟩|⟨u,n,h1,h2,_⟩
  ·rw[h1]at R5 di;have SR:bG ri im++[([x.id],.agg [I x.id,I x.ki,I x.fr,I x.sp,I x.ra])]=bG ri (Vj x.id x im):=h4 x;simp only at R5 di;by_cases s1:1<=x.sp
   ·by_cases s2:x.sp<=200
    ·rw[ac ⟨s1,s2⟩]at di;rcases Xx iA x.sp sp 0 with⟨_,q2,_,q4⟩|⟨u,n,_,q2,_,_,_,q4⟩
     ·have q4':bG iA sp++[([x.sp],I x.id)]=bG iA (Vj x.sp x.id sp):=q4 _;simp[h67,ah,aa,ai,Qm,Ab,Qo,Qa,iE,hw,IQ,h2,s1,s2,q2];refine⟨aQ,⟨i+1,Vj x.id x im,Vj x.sp x.id sp,post++[Qm x,[I 0,I 0,I 0,I 0,I 0]],zd,zE,R5,di,?_⟩,zE⟩
      ·rw[SR,q4'];simp[Ab,Qo,Qa,Qm]
     have q4':(bG iA sp).set n ([x.sp],I x.id)=bG iA (Vj x.sp x.id sp):=q4 _;rw[zzbs]at q2;simp[h67,ah,aa,ai,Qm,Ab,Qo,Qa,iE,hw,IQ,h2,s1,s2,q2];refine⟨aQ,⟨i+1,Vj x.id x im,Vj x.sp x.id sp,post++[Qm x,[I 0,I 0,I 0,I 0,I 0]],zd,zE,R5,di,?_⟩,zE⟩
     ·rw[SR,q4'];simp[Ab,Qo,Qa,Qm]
    rw[ab (fun h=>s2 h.2)]at di;simp[h67,ah,aa,ai,Qm,Ab,Qo,Qa,iE,hw,IQ,h2,s1,s2];refine⟨aQ,⟨i+1,Vj x.id x im,sp,post++[Qm x,[I 0,I 0,I 0,I 0,I 0]],zd,zE,R5,di,?_⟩,zE⟩
    ·rw[SR];simp[Ab,Qo,Qa,Qm]
   rw[ab (fun h=>s1 h.1)]at di;simp[h67,ah,aa,ai,Qm,Ab,Qo,Qa,iE,hw,IQ,h2,s1];refine⟨aQ,⟨i+1,Vj x.id x im,sp,post++[Qm x,[I 0,I 0,I 0,I 0,I 0]],zd,zE,R5,di,?_⟩,zE⟩
   ·rw[SR];simp[Ab,Qo,Qa,Qm]
  rw[h1]at R5 di;simp[h67,ah,aa,ai,Qm,Ab,Qo,Qa,iE,hw,IQ,h2,ri];refine⟨aQ,⟨i+1,im,sp,post++[Qm x,Qm u],zd,zE,R5,di,by simp[Ab,Qo,Qa,Qm]⟩,zE⟩
 have bP:¬(i:Int)<(p.aM.length:Int):=zE
 rw[zzam bu]at R5 di;have R5:im=zV p:=R5;have di:sp=Ua p:=di;subst R5;subst di;simp[h67,bP,zzbm.2 bu,iE,Ab,Qo,Qa,IQ];refine Qj fZ (ayx pre p at_ past ls) (fun f _=>past.length-(numOf (f 108)).toNat) ?_ ?_
 ·exact⟨0,[],[],post,zd,zE,fun k v h=>(by cases h),rfl,rfl,by simp[aP,aX,Qo,Qa,SQ]⟩
 clear bu bP hi h67;rintro h m ⟨i,us,en,post,h108,hi,hus,hu,he,rfl⟩;rcases zzaa i past.length with ah|bu
 ·obtain⟨a,ha⟩:=aV ah;have ai:Qi (past.map Vl) i=Vl a:=Qw (by simp[ha]);have aa:(i:Int)<(past.length:Int):=zE
  have hw:=bO i zE;rw[Zc ha,Wt]at hu;rw[Zc ha,Wu]at he;have aaW:pF (i+1:Nat) us:=fun k v h=>by have:=hus k v h;omega
  have skip:nC a=false->Wt (past.drop (i+1)) us=Wt past []/\Wu p (past.drop (i+1)) en=Wu p past []:=fun h=>by
   rw[h]at hu he;exact⟨hu,he⟩
  by_cases c1:a.re=0
  ·by_cases c2:0<=a.fr
   ·by_cases c3:a.fr<=100000000
    ·by_cases c4:1<=a.fs
     ·by_cases c5:a.fs<=100000000
      ·have hc:nC a=true:=by simp[nC];omega
       rw[hc]at hu he;simp only[if_true]at hu he;have hwa:IntKind.i64.wrap (a.fr+a.fs)=a.fr+a.fs:=by rw[Ql]<;>omega
       simp[h108,ah,aa,ai,Vl,aP,aX,Qo,Qa,fZ,hw,IQ,c1,c2,c3,c4,c5,hwa];have kn:=ae3 pre (post++[Vl a]) ls ⟨p,at_,us,en,[],[],[]⟩ us en a.it (a.fr+a.fs) (fun k v h=>by have:=hus k v h;omega) Y;simp only[aP,aX,Qo,Qa,Vl,c1]at kn;refine kn _ fun ex=>?_;simp[h108,fZ,hw];refine⟨aQ,⟨i+1,Zx us a.it,Xz p en a.it (a.fr+a.fs),post++[[I a.it,I 0,I a.fr,I a.fs]]++ex,zd,zE,?_,hu,he,by simp[aP,aX,Qo,Qa]⟩,zE⟩
       ·have:=hus.note zE a.it;exact this
      obtain⟨hu,he⟩:=skip (by simp[nC];omega);simp[h108,ah,aa,ai,Vl,aP,aX,Qo,Qa,fZ,hw,IQ,c1,c2,c3,c4,c5];refine⟨aQ,⟨i+1,us,en,post++[[I a.it,I 0,I a.fr,I a.fs]],zd,zE,aaW,hu,he,by simp[aP,aX,Qo,Qa]⟩,zE⟩
     obtain⟨hu,he⟩:=skip (by simp[nC];omega);simp[h108,ah,aa,ai,Vl,aP,aX,Qo,Qa,fZ,hw,IQ,c1,c2,c3,c4];refine⟨aQ,⟨i+1,us,en,post++[[I a.it,I 0,I a.fr,I a.fs]],zd,zE,aaW,hu,he,by simp[aP,aX,Qo,Qa]⟩,zE⟩
    obtain⟨hu,he⟩:=skip (by simp[nC];omega);simp[h108,ah,aa,ai,Vl,aP,aX,Qo,Qa,fZ,hw,IQ,c1,c2,c3];refine⟨aQ,⟨i+1,us,en,post++[[I a.it,I 0,I a.fr,I a.fs]],zd,zE,aaW,hu,he,by simp[aP,aX,Qo,Qa]⟩,zE⟩
   obtain⟨hu,he⟩:=skip (by simp[nC];omega);simp[h108,ah,aa,ai,Vl,aP,aX,Qo,Qa,fZ,hw,IQ,c1,c2];refine⟨aQ,⟨i+1,us,en,post++[[I a.it,I 0,I a.fr,I a.fs]],zd,zE,aaW,hu,he,by simp[aP,aX,Qo,Qa]⟩,zE⟩
  obtain⟨hu,he⟩:=skip (by simp[nC,c1]);simp[h108,ah,aa,ai,Vl,aP,aX,Qo,Qa,fZ,hw,IQ,c1];refine⟨aQ,⟨i+1,us,en,post++[[I a.it,I a.re,I a.fr,I a.fs]],zd,zE,aaW,hu,he,by simp[aP,aX,Qo,Qa]⟩,zE⟩
 have bP:¬(i:Int)<(past.length:Int):=zE
 rw[zzam bu]at hu he;have hu:us=Wt past []:=hu;have he:en=Wu p past []:=he;subst hu;subst he;simp[h108,bP,zzbm.2 bu,fZ,agU];simpa[aP,aX,Qo,Qa,SQ]using hK post
def By(b:Bd):Prop:=ama b/\aeS b/\KX b
def DJ{α:Type}(sz:Nat)(lo:Nat)(ls:Pa)(rt:Rt)(l:List α):Prop:=(l=[]/\rt=.nil)\/∃k,rt=.own k sz/\lo<=k/\ls[k]?=some l.length/\l≠[]
def DJ.app{α:Type}{sz lo:Nat}{ls exl:Pa}{rt:Rt}{l:List α}(h:DJ sz lo ls rt l):DJ sz lo (ls++exl) rt l:=by
 obtain h|⟨k,h1,h2,h3,h4⟩:=h
 ·exact .inl h
 exact .inr ⟨k,h1,h2,by rw[zzak (zza.1 h3).1];exact h3,h4⟩
def agm(p:Pl)(a b:Int):0<=Kh p a b/\Kh p a b<=6000000000:=by
 unfold Kh;cases Xk a p.aM with
 |none=>simp
 |some x=>
  cases Xk b p.aM with
  |none=>simp
  |some y=>
   simp only;split
   ·omega
   rename_i h;simp only[not_or]at h;have hv:Vh p.nu p.de=true:=by simpa using h.2.1
   obtain⟨v1,v2,v3,v4,v5⟩:=Jw hv;have hg:=Of x.sp y.sp p.cls 0 zE;generalize pq x.sp y.sp p.cls 0=g at hg;rw[xh,ac ⟨hv,zE,zE⟩];have hp:=D0 hg ⟨(by omega:0<=p.nu),v2⟩;have:=D1 (x:=g*p.nu+p.de-1) (y:=p.de) zE zE;omega
def uZ{p:Pl}{it:Int}:∀r∈Ub p it,0<=r.2/\r.2<=6000000000:=fun r hr=>by
 unfold Ub at hr;cases hf:Xk it p.aM with
 |none=>rw[hf]at hr;cases hr
 |some y=>
  rw[hf]at hr;simp only at hr;cases ha:af y.sp (Ua p)with
  |none=>rw[ha]at hr;cases hr
  |some _=>
   rw[ha]at hr;simp only[zzfo]at hr;obtain⟨x,_,hx⟩:=hr;split at hx
   ·cases hx;exact agm p _ _
   cases hx
def HQ(p:Pl)(it:Int):(Ub p it).length<=(Ua p).length:=by
 unfold Ub;cases Xk it p.aM with
 |none=>simp
 |some y=>
  simp only;cases af y.sp (Ua p)with
  |none=>simp
  |some _=>exact zzgy _ _
def tV(en:List (Int×Int)):Prop:=∀k v,af k en=some v->0<=v/\v<=1000000000
def tV.note{p:Pl}{en:List (Int×Int)}(h:tV en)(it e:Int)(he:0<=e/\e<=1000000000):tV (Xz p en it e):=fun k v hk=>by
 unfold Xz at hk;cases hf:Xk it p.aM with
 |none=>rw[hf]at hk;exact h k v hk
 |some x=>
  rw[hf]at hk;simp only[Ul]at hk;split at hk
  ·cases hk;cases ha:af x.sp en with
   |none=>simp;omega
   |some u=>have:=h _ u ha;simp;omega
  exact h k v hk
def yO{en:List (Int×Int)}(h:tV en):∀{l:List Sp}{f M:Int},(∀r∈l,0<=r.2/\r.2<=6000000000)->f<=M->7000000000<=M->Vr en l f<=M
 |[],f,M,_,h1,_=>h1
 |r::l,f,M,hl,h1,h2=>by
  rw[Vr];refine yO h (fun x hx=>hl x (by simp[hx])) ?_ h2;have:=hl r zd;cases ha:af r.1 en with
  |none=>exact h1
  |some e=>have:=h _ e ha;simp only;omega
def aaX(l:List Sp):Option (List Sp)->Option (List Sp)
 |none=>none
 |some r=>some (l++r)
def anB(pre post:T5)(ls:Pa)(b:Bd)(ids:Pi)(N:Int)(T:Option (List Sp))(f:Nat->AV)(m:AM):Prop:=
 ∃(i:Nat)(us en:List (Int×Int))(free last:Int)(l:List Sp)(rt:Rt)(rv:List (Int×(Rt×List Sp)))(li:List (Int×Int))(pm:List ((Int×Int)×List Sp))(bx:T5)(exl:Pa),
  f 39=I i/\i<=ids.length/\f 8=I free/\f 9=I last/\f 10=.sl rt (l.map Qe)/\l.length=i/\(-1<=last/\last<=1000000000)/\free<=9223372036854775807/\pF (N+i) us/\tV en/\DJ 2 ls.length (ls++exl) rt l/\By {b with rv:=rv,li:=li,pm:=pm}/\
  aaX l (Yt b.p (ids.drop i) us en free last)=T/\m=aP pre {b with rv:=rv,li:=li,pm:=pm} (post++([.aJ 0 (bG iA us)]::[.aJ 0 (bG iA en)]::bx)) (ls++exl)
def ajF(pre post bx0:T5)(e:En)(ls:Pa)(b:Bd)(us en:List (Int×Int))(L:List Sp)(T:Int)(f:Nat->AV)(m:AM):Prop:=
 ∃(j:Nat)(fr:Int)(bx:T5),f 90=I j/\j<=L.length/\f 17=I fr/\Vr en (L.drop j) fr=T/\m=aP pre b (post++([.aJ 0 (bG iA us)]::[.aJ 0 (bG iA en)]::(bx0++(Qd e::bx)))) ls
def IS:UV:=fun _ f _=>if f=999999 then .junk else .gd false .junk
def Qeg(pre post:T5)(ls:Pa)(b:Bd)(ids:Pi)(rt0:Rt)(N:Int)(hN:0<=N/\N<=100000000)(aaT:ids.length<=100000000)
  (hc:b.p.cls.length<=1000000)(fC:b.p.sh.length<=1000000000)(cR:b.p.aM.length<=1000000000)(IK:b.p.ens.length<=1000000000)(FP:(Ua b.p).length<=1000000000)(dQ:b.p.ln<=9223372036854775807)(SX:∀e∈b.p.ens,e.ea<=9223372036854775807)
  (Sv:b.at_<=9223372036854775807)(hus:pF N b.us)(agn:tV b.en)(dU:By b)(Y:YT)(K:So)
  (rf:Yt b.p ids b.us b.en b.at_ (-1)=none->∀rv li pm ex exl,By {b with rv:=rv,li:=li,pm:=pm}->K (.aS [.sl .nil [],.bool false]) (aP pre {b with rv:=rv,li:=li,pm:=pm} (post++ex) (ls++exl)))
  (VZ:∀l,Yt b.p ids b.us b.en b.at_ (-1)=some l->∀rv li pm ex exl rt,By {b with rv:=rv,li:=li,pm:=pm}->DJ 2 ls.length (ls++exl) rt l->K (.aS [.sl rt (l.map Qe),.bool true]) (aP pre {b with rv:=rv,li:=li,pm:=pm} (post++ex) (ls++exl))):
  aB Tryz.prog aD Y 114 [.ptr (pre.length+9) 0,.sl rt0 (ids.map Qz)] (aP pre b post ls) K:=by
 obtain⟨T,hT⟩:∃T,Yt b.p ids b.us b.en b.at_ (-1)=T:=⟨_,rfl⟩;rw[hT]at rf VZ;refine Xo acj IS zd ?_;simp[Ez,aP,aX,Qo,Qa];refine Qaz [(.mp (pre.length+(post.length+10)),aP pre b (post++[[.aJ 0 (bG iA b.us)]]) ls)] ?_;simp[Ez,aP,aX,Qo,Qa,IS];refine⟨O5 (kn:=0) (kvs:=bG iA b.us) zd ⟨zd,zd⟩,O5 (kn:=0) (kvs:=bG iA b.en) zd ?_⟩;simp[IS];refine Qj mB (anB pre post ls b ids N T) (fun f _=>ids.length-(numOf (f 39)).toNat) ?_ ?_
 ·refine⟨0,b.us,b.en,b.at_,-1,[],.nil,b.rv,b.li,b.pm,[],[],zd,zE,zd,zd,zd,rfl,zE,Sv,Nm hus,agn,.inl ⟨rfl,rfl⟩,dU,?_,by simp[aP,aX,Qo,Qa]⟩;rw[zzdd,hT];cases T<;>rfl
 rintro f m ⟨i,us,en,free,last,l,rt,rv,li,pm,bx,exl,h39,hi,h8,h9,ij,Ei,hla,zF,hu,he,hO,hB,hg,rfl⟩;rcases zzaa i ids.length with ah|bu
 ·obtain⟨id,aK⟩:=aV ah;have ai:Qi (ids.map Qz) i=Qz id:=Qw (by simp[aK]);have aa:(i:Int)<(ids.length:Int):=zE
  have hw:=bO i zE;rw[Zc aK,Yt]at hg;have no:T=none->∀rv li pm ex exl,By {b with rv:=rv,li:=li,pm:=pm}->K (.aS [.sl .nil [],.bool false]) (aP pre {b with rv:=rv,li:=li,pm:=pm} (post++ex) (ls++exl)):=rf;rcases Xx iA id (De b.p) 0 with⟨p1,p2,_⟩|⟨u,n,p1,p2,_⟩
  ·have p1:Wy id b.p.ens 0=none:=by
    rw[uK]at p1;cases hx:Wy id b.p.ens 0 with
    |none=>rfl
    |some k=>rw[hx]at p1;cases p1
   rw[p1]at hg;simp[h39,h8,h9,ij,ah,aa,ai,Qz,aP,aX,Qo,Qa,mB,p2,r6];have:=rf hg.symm rv li pm ([.aJ 0 (bG iA us)]::[.aJ 0 (bG iA en)]::bx) exl hB;simpa[aP,aX,Qo,Qa]using this
  obtain⟨k,pk,rfl⟩:∃k:Nat,Wy id b.p.ens 0=some k/\(k:Int)=u:=by
   rw[uK]at p1;cases hx:Wy id b.p.ens 0 with
   |none=>rw[hx]at p1;cases p1
   |some k=>rw[hx]at p1;cases p1;exact⟨k,rfl,rfl⟩
  rw[zzbs]at p2;rw[pk]at hg;simp only at hg;obtain⟨_,e,he1,he2,he3⟩:=Qdb pk;rw[zzel]at he1;have ur:=(zza.1 he1).1;have zK:(k:Int)<(b.p.ens.length:Int):=zE
  have yx:=Qdc he1;by_cases c1:(k:Int)<=last
  ·rw[ac c1]at hg;simp[h39,h8,h9,ij,ah,aa,ai,Qz,aP,aX,Qo,Qa,mB,p2,r6,c1];have:=rf hg.symm rv li pm ([.aJ 0 (bG iA us)]::[.aJ 0 (bG iA en)]::bx) exl hB;simpa[aP,aX,Qo,Qa]using this
  rw[ab c1,he1]at hg;simp only at hg;simp[h39,h8,h9,ij,ah,aa,ai,Qz,aP,aX,Qo,Qa,mB,p2,c1,ur,zK,yx,Qd,IS];have k82:=fun K'=>aeR pre (post++([.aJ 0 (bG iA us)]::[.aJ 0 (bG iA en)]::(bx++[Qd e]))) (ls++exl) {b with rv:=rv,li:=li,pm:=pm} e.it (by simp only;omega) cR hB.1 Y K';simp only[aP,aX,Qo,Qa,Qd]at k82;refine k82 _ fun tg aaY=>?_;clear k82;have A4:By {b with rv:=rv,li:=tg,pm:=pm}:=⟨aaY,hB.2.1,hB.2.2⟩;obtain⟨R,hR⟩:∃R,Jf b.p e.it=R:=⟨_,rfl⟩;rw[hR]at hg
  obtain⟨cu,qc,aud⟩:∃cu,(af e.it us).getD 0=cu/\((Xh [e.it] (bG iA us) 0=none/\cu=0)\/∃n,Xh [e.it] (bG iA us) 0=some (n,I cu)):=by
   rcases Xx iA e.it us 0 with⟨q1,q2,_⟩|⟨u,n,q1,q2,_⟩
   ·exact⟨0,by rw[q1];rfl,.inl ⟨q2,rfl⟩⟩
   exact⟨u,by rw[q1];rfl,.inr ⟨_,q2⟩⟩
  rw[qc]at hg;by_cases r2:R≠ -1/\R<=cu
  ·rw[ac r2]at hg;have:=rf hg.symm rv tg pm ([.aJ 0 (bG iA us)]::[.aJ 0 (bG iA en)]::(bx++[Qd e])) exl A4;obtain⟨r1,r2⟩:=r2;obtain⟨q2,rfl⟩|⟨n2,q2⟩:=aud
   ·simp[aP,aX,Qo,Qa,Qd,IS,q2,r1,r2,hR,r6];simpa[aP,aX,Qo,Qa,Qd]using this
   simp[aP,aX,Qo,Qa,Qd,IS,q2,r1,r2,hR,r6];simpa[aP,aX,Qo,Qa,Qd]using this
  rw[ab r2]at hg
  have r3:R= -1\/(R≠ -1/\¬R<=cu):=by
   by_cases h:R= -1
   ·exact .inl h
   exact .inr ⟨h,fun h'=>r2 ⟨h,h'⟩⟩
  clear r2;obtain r1|⟨r1,r2⟩:=r3
  ·have q2:True:=trivial;have r2:True:=trivial;simp[h39,h8,h9,ij,aP,aX,Qo,Qa,Qd,IS,q2,r1,r2,hR];have k83:=fun K'=>HP pre (post++([.aJ 0 (bG iA us)]::[.aJ 0 (bG iA en)]::(bx++[Qd e]))) (ls++exl) {b with rv:=rv,li:=tg,pm:=pm} e.it (by simp only;omega) cR FP hB.2.1 Y K';simp only[aP,aX,Qo,Qa,Qd]at k83;refine k83 _ fun Eo DK ei rt3 L aaZ yP=>?_;clear k83;have SH:By {b with rv:=Eo,li:=tg,pm:=pm}:=⟨aaY,aaZ,hB.2.2⟩;have hLb:∀r∈L,0<=r.2/\r.2<=6000000000:=fun r hr=>uZ r (yP.mem_iff.1 hr)
   have hLl:L.length<=1000000000:=by
    rw[yP.length_eq];have:=HQ b.p e.it;omega
   have hfp:=xL en yP (max e.ea free);obtain⟨F,hF⟩:∃F,Vr en (Ub b.p e.it) (max e.ea free)=F:=⟨_,rfl⟩;rw[hF]at hfp
   have hFb:F<=9223372036854775807:=by
    rw[<- hF];refine yO he uZ ?_ zE;have:=SX e (zzad he1);omega
   have hmx:(if e.ea<free then free else e.ea)=max e.ea free:=zE
   simp[h39,h8,h9,ij,aP,aX,Qo,Qa,Qd,IS,hmx];refine Qj iF (ajF pre post bx e (ls++(exl++ei)) {b with rv:=Eo,li:=tg,pm:=pm} us en L F) (fun f _=>L.length-(numOf (f 90)).toNat) ?_ ?_
   ·exact⟨0,max e.ea free,DK,zd,zE,zd,by rw[zzdd];exact hfp,by simp[aP,aX,Qo,Qa,Qd]⟩
   rintro g m ⟨j,fr,bx4,g90,hj,g17,D2,rfl⟩;rcases zzaa j L.length with jlt|jge
   ·obtain⟨r,hr⟩:=aV jlt;have aa0:=Zy hr;have aa1:(j:Int)<(L.length:Int):=zE
    have xy:=bO j zE;rw[Zc hr,Vr]at D2;have A0:=hLb r (zzad hr);rcases Xx iA r.1 en 0 with⟨v1,v2,_⟩|⟨v,nv,v1,v2,_⟩
    ·rw[v1]at D2;simp[g90,g17,iF,jlt,aa1,aa0,Qe,xy,aP,aX,Qo,Qa,Qd,v2];refine⟨aQ,⟨j+1,fr,bx4++[Qe r],zd,zE,by simp[g17],D2,by simp[aP,aX,Qo,Qa,Qe,Qd]⟩,zE⟩
    rw[v1]at D2;have hvb:=he r.1 v v1;have hwv:IntKind.i64.wrap (v+r.2)=v+r.2:=by rw[Ql]<;>omega
    have hmv:(if fr<v+r.2 then v+r.2 else fr)=max fr (v+r.2):=zE
    simp[g90,g17,iF,jlt,aa1,aa0,Qe,xy,aP,aX,Qo,Qa,Qd,v2,hwv,hmv];refine⟨aQ,⟨j+1,max fr (v+r.2),bx4++[Qe r],zd,zE,zd,D2,by simp[aP,aX,Qo,Qa,Qe,Qd]⟩,zE⟩
   have jin:¬(j:Int)<(L.length:Int):=zE
   rw[zzam jge]at D2;have D2:fr=F:=D2;subst D2;have k84:=fun K'=>Oi pre (post++([.aJ 0 (bG iA us)]::[.aJ 0 (bG iA en)]::(bx++(Qd e::bx4)))) (ls++(exl++ei)) {b with rv:=Eo,li:=tg,pm:=pm} e fr hc fC cR dQ hFb hB.2.2 Y K';simp only[aP,aX,Qo,Qa,Qd]at k84;have hO':DJ 2 ls.length (ls++(exl++ei)) rt l:=by rw[<- zzbg];exact hO.app
   rw[hF]at hg;simp[g90,g17,jin,zzbm.2 jge,iF,mB,h39,h8,h9,ij,aP,aX,Qo,Qa,Qd,IS];refine k84 _ fun pm4 RR anC=>?_;clear k84;have hB4:By {b with rv:=Eo,li:=tg,pm:=pm4}:=⟨aaY,aaZ,anC⟩;cases hs:Vm b.p e fr with
   |none=>
    rw[hs]at hg;have:=rf hg.symm Eo tg pm4 ([.aJ 0 (bG iA us)]::[.aJ 0 (bG iA en)]::(bx++(Qd e::(bx4++RR)))) (exl++ei) hB4;simp[Wz,r6];simpa[aP,aX,Qo,Qa,Qd]using this
   |some s=>
    rw[hs]at hg;simp only at hg
    have hg:aaX (l++[(id,s)]) (Yt b.p (ids.drop (i+1)) (Zx us e.it) (Xz b.p en e.it (s+e.fr)) (s+e.fr) k)=T:=by
     rw[<- hg];cases Yt b.p (ids.drop (i+1)) (Zx us e.it) (Xz b.p en e.it (s+e.fr)) (s+e.fr) k<;>simp[aaX]
    obtain⟨a1,a2,a3,a4,a5,a6,_⟩:=Uh hs;have hws:IntKind.i64.wrap (s+e.fr)=s+e.fr:=by rw[Ql]<;>omega
    have kn:=fun LS K'=>YZ pre post (bx++(Qd e::(bx4++RR))) LS {b with rv:=Eo,li:=tg,pm:=pm4} us en e.it (s+e.fr) (fun k v h=>by have:=hu k v h;omega) Y K';simp only[aP,aX,Qo,Qa,Qd]at kn;have JM:=hu.note zE e.it;have he2:tV (Xz b.p en e.it (s+e.fr)):=he.note e.it _ zE;have hN1:N+i+1=N+(i+1:Nat):=zE
    rw[hN1]at JM;obtain⟨qf,Cu⟩|⟨k2,Cu,dK,eE,_⟩:=hO'
    ·subst Cu;subst qf;simp[Wz,h39,h8,h9,ij,aP,aX,Qo,Qa,Qd,IS,hws];refine kn _ _ fun ex5=>?_;refine⟨aQ,⟨i+1,Zx us e.it,Xz b.p en e.it (s+e.fr),s+e.fr,k,[(id,s)],.own (ls.length+(exl.length+ei.length)) 2,Eo,tg,pm4,bx++(Qd e::(bx4++RR++ex5)),exl++(ei++[1]),by simp[hw],zE,zd,zd,by simp[Qe],by simp at Ei;simp[Ei],zE,zE,JM,he2,.inr ⟨_,rfl,zE,?_,zd⟩,hB4,hg,?_⟩,by simp[hw];omega⟩
     ·have:(ls++(exl++(ei++[1])))=(ls++(exl++ei))++[1]:=zd
      rw[this,zzaq zd];simp
     simp[aP,aX,Qo,Qa,Qd]
    subst Cu;have yf:=(zza.1 eE).1;have bR:(ls++(exl++ei)).set k2 (l.length+1)=ls++(exl++ei).set (k2-ls.length) (l.length+1):=zzdh _ _ dK;simp[Wz,h39,h8,h9,ij,aP,aX,Qo,Qa,Qd,IS,hws,eE];refine⟨⟨?_,zE⟩,kn _ _ fun ex5=>?_⟩
    ·rintro row (⟨a,b,_,rfl⟩|rfl)<;>rfl
    refine⟨aQ,⟨i+1,Zx us e.it,Xz b.p en e.it (s+e.fr),s+e.fr,k,l++[(id,s)],.own k2 2,Eo,tg,pm4,bx++(Qd e::(bx4++RR++ex5)),(exl++ei).set (k2-ls.length) (l.length+1),by simp[hw],zE,zd,zd,by simp[Qe],by simp[Ei],zE,zE,JM,he2,.inr ⟨k2,rfl,dK,?_,zd⟩,hB4,hg,?_⟩,by simp[hw];omega⟩
    ·rw[<- bR,zzbh yf];simp
    simp only[bR];simp[aP,aX,Qo,Qa,Qd]
  obtain⟨q2,rfl⟩|⟨n2,q2⟩:=aud
  all_goals
   simp[h39,h8,h9,ij,aP,aX,Qo,Qa,Qd,IS,q2,r1,r2,hR];have k83:=fun K'=>HP pre (post++([.aJ 0 (bG iA us)]::[.aJ 0 (bG iA en)]::(bx++[Qd e]))) (ls++exl) {b with rv:=rv,li:=tg,pm:=pm} e.it (by simp only;omega) cR FP hB.2.1 Y K';simp only[aP,aX,Qo,Qa,Qd]at k83;refine k83 _ fun Eo DK ei rt3 L aaZ yP=>?_;clear k83;have SH:By {b with rv:=Eo,li:=tg,pm:=pm}:=⟨aaY,aaZ,hB.2.2⟩;have hLb:∀r∈L,0<=r.2/\r.2<=6000000000:=fun r hr=>uZ r (yP.mem_iff.1 hr)
   have hLl:L.length<=1000000000:=by
    rw[yP.length_eq];have:=HQ b.p e.it;omega
   have hfp:=xL en yP (max e.ea free);obtain⟨F,hF⟩:∃F,Vr en (Ub b.p e.it) (max e.ea free)=F:=⟨_,rfl⟩;rw[hF]at hfp
   have hFb:F<=9223372036854775807:=by
    rw[<- hF];refine yO he uZ ?_ zE;have:=SX e (zzad he1);omega
   have hmx:(if e.ea<free then free else e.ea)=max e.ea free:=zE
   simp[h39,h8,h9,ij,aP,aX,Qo,Qa,Qd,IS,hmx];refine Qj iF (ajF pre post bx e (ls++(exl++ei)) {b with rv:=Eo,li:=tg,pm:=pm} us en L F) (fun f _=>L.length-(numOf (f 90)).toNat) ?_ ?_
   ·exact⟨0,max e.ea free,DK,zd,zE,zd,by rw[zzdd];exact hfp,by simp[aP,aX,Qo,Qa,Qd]⟩
   rintro g m ⟨j,fr,bx4,g90,hj,g17,D2,rfl⟩;rcases zzaa j L.length with jlt|jge
   ·obtain⟨r,hr⟩:=aV jlt;have aa0:=Zy hr;have aa1:(j:Int)<(L.length:Int):=zE
    have xy:=bO j zE;rw[Zc hr,Vr]at D2;have A0:=hLb r (zzad hr);rcases Xx iA r.1 en 0 with⟨v1,v2,_⟩|⟨v,nv,v1,v2,_⟩
    ·rw[v1]at D2;simp[g90,g17,iF,jlt,aa1,aa0,Qe,xy,aP,aX,Qo,Qa,Qd,v2];refine⟨aQ,⟨j+1,fr,bx4++[Qe r],zd,zE,by simp[g17],D2,by simp[aP,aX,Qo,Qa,Qe,Qd]⟩,zE⟩
    rw[v1]at D2;have hvb:=he r.1 v v1;have hwv:IntKind.i64.wrap (v+r.2)=v+r.2:=by rw[Ql]<;>omega
    have hmv:(if fr<v+r.2 then v+r.2 else fr)=max fr (v+r.2):=zE
    simp[g90,g17,iF,jlt,aa1,aa0,Qe,xy,aP,aX,Qo,Qa,Qd,v2,hwv,hmv];refine⟨aQ,⟨j+1,max fr (v+r.2),bx4++[Qe r],zd,zE,zd,D2,by simp[aP,aX,Qo,Qa,Qe,Qd]⟩,zE⟩
   have jin:¬(j:Int)<(L.length:Int):=zE
   rw[zzam jge]at D2;have D2:fr=F:=D2;subst D2;have k84:=fun K'=>Oi pre (post++([.aJ 0 (bG iA us)]::[.aJ 0 (bG iA en)]::(bx++(Qd e::bx4)))) (ls++(exl++ei)) {b with rv:=Eo,li:=tg,pm:=pm} e fr hc fC cR dQ hFb hB.2.2 Y K';simp only[aP,aX,Qo,Qa,Qd]at k84;have hO':DJ 2 ls.length (ls++(exl++ei)) rt l:=by rw[<- zzbg];exact hO.app
   rw[hF]at hg;simp[g90,g17,jin,zzbm.2 jge,iF,mB,h39,h8,h9,ij,aP,aX,Qo,Qa,Qd,IS];refine k84 _ fun pm4 RR anC=>?_;clear k84;have hB4:By {b with rv:=Eo,li:=tg,pm:=pm4}:=⟨aaY,aaZ,anC⟩;cases hs:Vm b.p e fr with
   |none=>
    rw[hs]at hg;have:=rf hg.symm Eo tg pm4 ([.aJ 0 (bG iA us)]::[.aJ 0 (bG iA en)]::(bx++(Qd e::(bx4++RR)))) (exl++ei) hB4;simp[Wz,r6];simpa[aP,aX,Qo,Qa,Qd]using this
   |some s=>
    rw[hs]at hg;simp only at hg
    have hg:aaX (l++[(id,s)]) (Yt b.p (ids.drop (i+1)) (Zx us e.it) (Xz b.p en e.it (s+e.fr)) (s+e.fr) k)=T:=by
     rw[<- hg];cases Yt b.p (ids.drop (i+1)) (Zx us e.it) (Xz b.p en e.it (s+e.fr)) (s+e.fr) k<;>simp[aaX]
    obtain⟨a1,a2,a3,a4,a5,a6,_⟩:=Uh hs;have hws:IntKind.i64.wrap (s+e.fr)=s+e.fr:=by rw[Ql]<;>omega
    have kn:=fun LS K'=>YZ pre post (bx++(Qd e::(bx4++RR))) LS {b with rv:=Eo,li:=tg,pm:=pm4} us en e.it (s+e.fr) (fun k v h=>by have:=hu k v h;omega) Y K';simp only[aP,aX,Qo,Qa,Qd]at kn;have JM:=hu.note zE e.it;have he2:tV (Xz b.p en e.it (s+e.fr)):=he.note e.it _ zE;have hN1:N+i+1=N+(i+1:Nat):=zE
    rw[hN1]at JM;obtain⟨qf,Cu⟩|⟨k2,Cu,dK,eE,_⟩:=hO'
    ·subst Cu;subst qf;simp[Wz,h39,h8,h9,ij,aP,aX,Qo,Qa,Qd,IS,hws];refine kn _ _ fun ex5=>?_;refine⟨aQ,⟨i+1,Zx us e.it,Xz b.p en e.it (s+e.fr),s+e.fr,k,[(id,s)],.own (ls.length+(exl.length+ei.length)) 2,Eo,tg,pm4,bx++(Qd e::(bx4++RR++ex5)),exl++(ei++[1]),by simp[hw],zE,zd,zd,by simp[Qe],by simp at Ei;simp[Ei],zE,zE,JM,he2,.inr ⟨_,rfl,zE,?_,zd⟩,hB4,hg,?_⟩,by simp[hw];omega⟩
     ·have:(ls++(exl++(ei++[1])))=(ls++(exl++ei))++[1]:=zd
      rw[this,zzaq zd];simp
     simp[aP,aX,Qo,Qa,Qd]
    subst Cu;have yf:=(zza.1 eE).1;have bR:(ls++(exl++ei)).set k2 (l.length+1)=ls++(exl++ei).set (k2-ls.length) (l.length+1):=zzdh _ _ dK;simp[Wz,h39,h8,h9,ij,aP,aX,Qo,Qa,Qd,IS,hws,eE];refine⟨⟨?_,zE⟩,kn _ _ fun ex5=>?_⟩
    ·rintro row (⟨a,b,_,rfl⟩|rfl)<;>rfl
    refine⟨aQ,⟨i+1,Zx us e.it,Xz b.p en e.it (s+e.fr),s+e.fr,k,l++[(id,s)],.own k2 2,Eo,tg,pm4,bx++(Qd e::(bx4++RR++ex5)),(exl++ei).set (k2-ls.length) (l.length+1),by simp[hw],zE,zd,zd,by simp[Qe],by simp[Ei],zE,zE,JM,he2,.inr ⟨k2,rfl,dK,?_,zd⟩,hB4,hg,?_⟩,by simp[hw];omega⟩
    ·rw[<- bR,zzbh yf];simp
    simp only[bR];simp[aP,aX,Qo,Qa,Qd]
 have bP:¬(i:Int)<(ids.length:Int):=zE
 rw[zzam bu,Yt]at hg;have hg:some (l++[])=T:=hg;rw[zzat]at hg;have:=VZ l hg.symm rv li pm ([.aJ 0 (bG iA us)]::[.aJ 0 (bG iA en)]::bx) exl rt hB hO;simp[h39,h8,h9,ij,bP,zzbm.2 bu,mB,r6];simpa[aP,aX,Qo,Qa]using this
def ago(l:Pi)(hl:l.length<=1000000000):Pure Tryz.prog aD 173 [.sl .ro (l.map Qz)] (.sl .ro (l.map Qz)):=by
 cases l with
 |nil=>
  refine sJ (Zk (?_:Pure Tryz.prog aD 173 [.sl .nil []] (.sl .nil [])) (Wk.sl _ _)) ?_
  ·refine Qp B9 (fun _ _ _=>.junk) zd ?_;simp[M4,M5]
  refine Qp B9 (fun _ _ _=>.junk) zd ?_;simp[M4,M5]
 |cons x r=>
  refine Qp B9 (fun _ _ _=>.junk) zd ?_;simp[M4,M5,Qz];simp at hl;omega
def BJ{α:Type}(c:List α)(i:Nat)(h:i<c.length):(c.take i++c.drop (i+1)).length+1=c.length:=by
 simp;omega
def HR(ok:Pi->Bool)(c:Pi)(i:Nat):Pi:=
 if h:i<c.length then(if ok (c.take i++c.drop (i+1))=true then HR ok c (i+1)else HR ok (c.take i++c.drop (i+1)) i)else c
termination_by c.length-i
decreasing_by
 ·omega
 have:=BJ c i h;omega
def mw(b:Bd)(ids:Pi):Bool:=(Yt b.p ids b.us b.en b.at_ (-1)).isSome
def nO(b:Bd)(ids:Pi):Pi:=if mw b ids=true then[]else HR (mw b) ids 0
def aue(pre post:T5)(ls:Pa)(b:Bd)(N:Nat)(T:Pi)(f:Nat->AV)(m:AM):Prop:=
 ∃(i:Nat)(c:Pi)(rv:List (Int×(Rt×List Sp)))(li:List (Int×Int))(pm:List ((Int×Int)×List Sp))(ex:T5)(exl:Pa),
  f 7=.sl .ro (c.map Qz)/\f 8=I i/\i<=c.length/\c.length<=N/\HR (mw b) c i=T/\By {b with rv:=rv,li:=li,pm:=pm}/\m=aP pre {b with rv:=rv,li:=li,pm:=pm} (post++ex) (ls++exl)
def O6(ids:Pi):UV:=fun _ f l=>if f=114 then .gd false .junk else if f=173 then .sl .ro (ids.map Qz)else
 (match l with|[.sl _ [[.sl _ a],[.sl _ c]]]=>.sl .ro (a++c)|_=>.junk)
def Ma(pre post:T5)(ls:Pa)(b:Bd)(ids:Pi)(rt0:Rt)(h85:∀m,Abs.Pure Tryz.prog aD 173 [bB m 6 (.sl rt0 (ids.map Qz))] (.sl .ro (ids.map Qz)))(N:Int)(hN:0<=N/\N<=100000000)(aaT:ids.length<=100000000)
  (hc:b.p.cls.length<=1000000)(fC:b.p.sh.length<=1000000000)(cR:b.p.aM.length<=1000000000)(IK:b.p.ens.length<=1000000000)(FP:(Ua b.p).length<=1000000000)(dQ:b.p.ln<=9223372036854775807)(SX:∀e∈b.p.ens,e.ea<=9223372036854775807)
  (Sv:b.at_<=9223372036854775807)(hus:pF N b.us)(agn:tV b.en)(dU:By b)(Y:YT)(K:So)
  (hK:∀rv li pm ex exl,By {b with rv:=rv,li:=li,pm:=pm}->K (.sl (if mw b ids=true then .nil else .ro) ((nO b ids).map Qz)) (aP pre {b with rv:=rv,li:=li,pm:=pm} (post++ex) (ls++exl))):
  aB Tryz.prog aD Y 115 [.ptr (pre.length+9) 0,.sl rt0 (ids.map Qz)] (aP pre b post ls) K:=by
 refine Xo ack (O6 ids) zd ?_;simp[TO,aP,aX,Qo,Qa,O6];have k42:=fun K'=>Qeg pre post ls b ids rt0 N hN aaT hc fC cR IK FP dQ SX Sv hus agn dU Y K';simp only[aP,aX,Qo,Qa]at k42;refine k42 _ (fun h0 rv li pm ex exl hB=>?_) (fun l h1 rv li pm ex exl rt hB hO=>?_)
 ·have bV:mw b ids=false:=by simp[mw,h0]
  simp[O6];refine⟨h85 _,?_⟩;refine Qj vh (aue pre post ls b ids.length (nO b ids)) (fun f _=>(match f 7 with|.sl _ c=>c.length|_=>0)-(numOf (f 8)).toNat) ?_ ?_
  ·exact⟨0,ids,rv,li,pm,ex,exl,zd,zd,zE,zE,by simp[nO,bV],hB,by simp[aP,aX,Qo,Qa]⟩
  rintro f m ⟨i,c,rv,li,pm,ex,exl,h7,h8,hi,qj,hT,hB,rfl⟩;rcases zzaa i c.length with ah|bu
  ·have aa:(i:Int)<(c.length:Int):=zE
   have hw:=bO i zE;simp[h7,h8,ah,aa,vh,aP,aX,Qo,Qa,O6,hw];have eA:List.take i (List.map Qz c)=(c.take i).map Qz:=zd
   have eB:List.take (c.length-(i+1)) (List.drop (i+1) (List.map Qz c))=(c.drop (i+1)).map Qz:=by
    rw[zzau zd];simp
   rw[eA,eB,<- zzcb];have k86:=YR [(.ro,c.take i),(.ro,c.drop (i+1))] zd zd (by simp;omega);have FM:=BJ c i ah;rw[HR,dif_pos ah]at hT;have eZ:(List.map (fun x:Rt×Pi=>x.2) [(Rt.ro,c.take i),(Rt.ro,c.drop (i+1))]).flatten=c.take i++c.drop (i+1):=zd
   rw[eZ]at k86;obtain⟨o,ho⟩:∃o,c.take i++c.drop (i+1)=o:=⟨_,rfl⟩;rw[ho]at k86 FM hT |-
   refine⟨⟨zE,fun _ _=>rfl⟩,⟨zE,fun _ _=>rfl⟩,k86,?_⟩;have k42:=fun K'=>Qeg pre (post++ex) (ls++exl) {b with rv:=rv,li:=li,pm:=pm} o .ro N hN zE hc fC cR IK FP dQ SX Sv hus agn hB Y K';simp only[aP,aX,Qo,Qa]at k42;refine k42 _ (fun h0 rv2 tg Oj gD anD A4=>?_) (fun l h1 rv2 tg Oj gD anD rt A4 hO=>?_)
   ·have bV:mw b o=false:=by simp only[mw];rw[h0];rfl
    rw[bV]at hT;have hT:HR (mw b) o i=nO b ids:=hT;simp[h7,h8,vh];refine⟨aQ,⟨i,o,rv2,tg,Oj,ex++gD,exl++anD,zd,by simp[h8],zE,zE,hT,A4,by simp[aP,aX,Qo,Qa]⟩,?_⟩
    ·rw[zzha (zzgz ah),zze];exact Nat.sub_lt_sub_left ah (zzfe i)
   have bV:mw b o=true:=by simp only[mw];rw[h1];rfl
   rw[bV]at hT;have hT:HR (mw b) c (i+1)=nO b ids:=hT;simp[h7,h8,vh,hw];refine⟨aQ,⟨i+1,c,rv2,tg,Oj,ex++gD,exl++anD,by simp[h7],zd,zE,zE,hT,A4,by simp[aP,aX,Qo,Qa]⟩,zE⟩
  have bP:¬(i:Int)<(c.length:Int):=zE
  rw[HR,dif_neg zE]at hT;have:=hK rv li pm ex exl hB;rw[<- hT,bV,ab zd]at this;simp[h7,h8,bP,zzbm.2 bu,vh,TP];simpa[aP,aX,Qo,Qa]using this
 have bV:mw b ids=true:=by simp[mw,h1]
 have:=hK rv li pm ex exl hB;rw[bV,ac rfl]at this;simp[TP];simpa[aP,aX,Qo,Qa,nO,bV]using this
def aa2(ok:Pi->Bool):Prop:=∀a b:Pi,a.Sublist b->ok b=true->ok a=true
def HS(b:Bd):aa2 (mw b):=fun a c hs h=>by
 unfold mw at h |-
 obtain⟨l,hl⟩:=zzby.1 h;obtain⟨l',h1,_⟩:=R4 (agj.refl b.p) hs (us':=b.us) (en':=b.en) (free':=b.at_) (last':= -1) (fun _=>zzbd _) (z7.refl _) (zzbd _) (zzbd _) hl;rw[h1];rfl
theorem O7(b:Bd):mw b []=true:=rfl
def Xe(w:Bool):Pi->List Bool->Pi
 |id::r,k::ks=>if(k==w)=true then id::Xe w r ks else Xe w r ks
 |_,_=>[]
def Jz(ok:Pi->Bool)(rd:Int->Nat)(ids:Pi)(r:Nat)(K:List Bool)(i:Nat):List Bool:=match ids[i]? with
 |some id=>if rd id=r then K.set i (ok (Xe true ids (K.set i true)))else K
 |none=>K
def Jg(ok:Pi->Bool)(rd:Int->Nat)(ids:Pi)(r:Nat)(K:List Bool):List Bool:=(List.range ids.length).foldl (Jz ok rd ids r) K
def Jd(ok:Pi->Bool)(rd:Int->Nat)(ids:Pi):List Bool:=Jg ok rd ids 2 (Jg ok rd ids 1 (Jg ok rd ids 0 (List.replicate ids.length false)))
def D3(K K':List Bool):Prop:=∀j,K.getD j false=true->K'.getD j false=true
def D3.refl(K:List Bool):D3 K K:=fun _ h=>h
def D3.trans{K K' K'':List Bool}(h:D3 K K')(k:D3 K' K''):D3 K K'':=fun j hj=>k j (h j hj)
def jS(K:List Bool)(i j:Nat)(b:Bool):(K.set i b).getD j false=if i=j/\i<K.length then b else K.getD j false:=by
 simp only[zzaw,zzgq];by_cases h:i=j
 ·subst h;by_cases h2:i<K.length
  ·simp[h2]
  have:K[i]?=none:=zzav zE;simp[h2]
 simp[h]
def D3.set{K K':List Bool}(h:D3 K K')(hl:K.length=K'.length)(i:Nat):D3 (K.set i true) (K'.set i true):=fun j hj=>by
 rw[jS]at hj |-
 split at hj
 ·rename_i hc;rw[ac ⟨hc.1,zE⟩]
 rename_i hc;rw[ab (by rw[<- hl];exact hc)];exact h j hj
def D3.aa3(K:List Bool)(i:Nat):D3 K (K.set i true):=fun j hj=>by
 rw[jS];split
 ·rfl
 exact hj
def BK:∀(ids:Pi){K K':List Bool},K.length=K'.length->D3 K K'->(Xe true ids K).Sublist (Xe true ids K')
 |[],_,_,_,_=>by simp[Xe]
 |id::r,[],[],_,_=>by simp[Xe]
 |id::r,[],_::_,h,_=>by simp at h
 |id::r,_::_,[],h,_=>by simp at h
 |id::r,k::ks,k'::ks',hl,h=>by
  have ih:=BK r (K:=ks) (K':=ks') (Nm hl) (fun j hj=>by simpa using h (j+1) (Nm hj));have h0:=h 0;simp at h0;cases k with
  |false=>
   cases k' with
   |false=>simpa[Xe]using ih
   |true=>simpa[Xe]using ih.cons id
  |true=>
   rw[h0 rfl];simpa[Xe]using ih.cons_cons id
def R6(ok:Pi->Bool)(rd:Int->Nat)(ids:Pi)(r:Nat)(K:List Bool)(i:Nat):(Jz ok rd ids r K i).length=K.length:=by
 unfold Jz;split
 ·split<;>simp
 rfl
structure ChI (ok:Pi->Bool) (rd:Int->Nat) (ids:Pi) (r i:Nat) (K:List Bool):Prop where
 len:K.length=ids.length
 kok:ok (Xe true ids K)=true
 todo:∀(j:Nat)(id:Int),ids[j]?=some id->(r<rd id\/rd id=r/\i<=j)->K.getD j false=false
 done:∀(j:Nat)(id:Int),ids[j]?=some id->(rd id<r\/rd id=r/\j<i)->K.getD j false=true\/ok (Xe true ids (K.set j true))=false
def ChI.step{ok:Pi->Bool}(hm:aa2 ok){rd:Int->Nat}{ids:Pi}{r i:Nat}{K:List Bool}(h:ChI ok rd ids r i K)(hi:i<ids.length):ChI ok rd ids r (i+1) (Jz ok rd ids r K i)/\D3 K (Jz ok rd ids r K i):=by
 obtain⟨id,aK⟩:=aV hi;unfold Jz;rw[aK];simp only;by_cases hr:rd id=r
 ·rw[ac hr];have hf:=h.todo i id aK (.inr ⟨hr,zzab _⟩)
  have VX:K.set i false=K:=by
   apply zzfd zd;intro n h1 h2;rw[List.getElem_set];split
   ·rename_i e;subst e;rw[zzaw,zzaf h2]at hf;exact hf.symm
   rfl
  cases bV:ok (Xe true ids (K.set i true))with
  |false=>
   rw[VX];refine⟨⟨h.len,h.kok,fun j x hj hc=>h.todo j x hj zE,fun j x hj hc=>?_⟩,D3.refl K⟩;rcases zzaa j i with ah|bu
   ·exact h.done j x hj zE
   obtain hc|hc:=hc
   ·exact h.done j x hj (.inl hc)
   obtain rfl:j=i:=zE
   exact .inr bV
  |true=>
   have cw:=D3.aa3 K i;refine⟨⟨by simp[h.len],bV,fun j x hj hc=>?_,fun j x hj hc=>?_⟩,cw⟩
   ·rw[jS,ab (by rintro⟨e,_⟩;subst e;rw[aK]at hj;cases hj;omega)];exact h.todo j x hj zE
   rcases Nat.decEq j i with aO|rfl
   ·have hd:=h.done j x hj zE;obtain hd|hd:=hd
    ·exact .inl (cw j hd)
    right;have hs:=BK ids (K:=K.set j true) (K':=(K.set i true).set j true) zd (cw.set zd j);cases hb:ok (Xe true ids ((K.set i true).set j true))with
    |false=>rfl
    |true=>rw[hm _ _ hs hb]at hd;cases hd
   left;rw[jS,ac ⟨rfl,by rw[h.len];exact hi⟩]
 rw[ab hr];refine⟨⟨h.len,h.kok,fun j x hj hc=>h.todo j x hj zE,fun j x hj hc=>h.done j x hj ?_⟩,D3.refl K⟩;obtain hc|hc:=hc
 ·exact .inl hc
 have:j≠i:=by rintro rfl;rw[aK]at hj;cases hj;exact hr hc.1
 exact .inr ⟨hc.1,zE⟩
def ChI.round{ok:Pi->Bool}(hm:aa2 ok){rd:Int->Nat}{ids:Pi}{r:Nat}{K:List Bool}(h:ChI ok rd ids r 0 K):ChI ok rd ids (r+1) 0 (Jg ok rd ids r K)/\D3 K (Jg ok rd ids r K):=by
 have key:∀n,n<=ids.length->ChI ok rd ids r n ((List.range n).foldl (Jz ok rd ids r) K)/\D3 K ((List.range n).foldl (Jz ok rd ids r) K):=by
  intro n;induction n with
  |zero=>intro _;exact⟨h,D3.refl K⟩
  |succ n ih=>
   intro hn;obtain⟨h1,h2⟩:=ih zE;obtain⟨g1,g2⟩:=h1.step hm zE;rw[zzfj,zzeh];exact⟨g1,h2.trans g2⟩
 obtain⟨h1,h2⟩:=key ids.length (zzab _);refine⟨⟨h1.len,h1.kok,fun j x hj hc=>h1.todo j x hj zE,fun j x hj hc=>h1.done j x hj ?_⟩,h2⟩;have:=(zza.1 hj).1;omega
def yQ(ids:Pi)(n:Nat):Xe true ids (List.replicate n false)=[]:=by
 induction ids generalizing n with
 |nil=>simp[Xe]
 |cons x r ih=>
  cases n with
  |zero=>simp[Xe]
  |succ n=>rw[zzgh,Xe];simpa using ih n
def choose_spec{ok:Pi->Bool}(hm:aa2 ok)(h0:ok []=true)(rd:Int->Nat)(ids:Pi)(iC:∀id∈ids,rd id<=2):
  (Jd ok rd ids).length=ids.length/\ok (Xe true ids (Jd ok rd ids))=true/\∀(j:Nat)(id:Int),ids[j]?=some id->(Jd ok rd ids).getD j false=true\/ok (Xe true ids ((Jd ok rd ids).set j true))=false:=by
 have hi:ChI ok rd ids 0 0 (List.replicate ids.length false):=⟨zd,by rw[yQ];exact h0,fun j id hj _=>by
  rw[zzaw,zzck];split<;>rfl,fun j id hj hc=>zE⟩
 have h1:=(hi.round hm).1;have h2:=(h1.round hm).1;have h3:=(h2.round hm).1;refine⟨h3.len,h3.kok,fun j id hj=>h3.done j id hj (.inl ?_)⟩;have:=iC id (zzad hj);omega
def Ue(p:Pl):Pi:=p.ens.map fun e=>e.id
def IP(p:Pl):Bd:=⟨p,0,[],[],[],[],[]⟩
def IN(l:List Sp):AV:=if l=[]then .sl .nil []else .sl .ro (l.map Qe)
def RW(p:Pl):AV:=if pe p=false then .aS [.sl .nil [],.sl .nil [],I 80]else match Yt p (Ue p) [] [] 0 (-1)with
 |some l=>.aS [IN l,.sl .nil [],I 0]
 |none=>.aS [.sl .nil [],.sl .ro ((nO (IP p) (Ue p)).map Qz),I 90]
def mz(p:Pl):UV:=fun _ f _=>if f=999999 then .junk else if f=95 then .bool (pe p)else .gd false .junk
def auf(p:Pl)(f:Nat->AV)(m:AM):Prop:=∃(i:Nat)(rt:Rt)(ls:Pa)(bx:T5),f 17=I i/\i<=p.ens.length/\f 5=.sl rt ((Ue p).take i |>.map Qz)/\DJ 1 0 ls rt ((Ue p).take i)/\m=⟨Qa p::bx,ls,fun _=>.gone,0⟩
def pX:∀(l:List It)(a:List (Int×It))(s:List (Int×Int)),(zU l a s).length<=s.length+l.length
 |[],a,s=>by simp[zU]
 |x::r,a,s=>by
  rw[zU];cases af x.id a with
  |some _=>
   have:=pX r a s;simp only[zzbf];omega
  |none=>
   have h:=pX r (Vj x.id x a) (if 1<=x.sp/\x.sp<=200 then Vj x.sp x.id s else s)
   have h2:(if 1<=x.sp/\x.sp<=200 then Vj x.sp x.id s else s).length<=s.length+1:=by
    split
    ·exact Gn _ _ _
    omega
   simp only[zzbf];omega
def anE(p:Pl):By (IP p):=⟨fun _ _ h=>(by cases h),fun _ _ h=>(by cases h),fun _ _ h=>(by cases h)⟩
def RU(p:Pl)(hs:PlS p)(hc:p.cls.length<=1000000)(IK:p.ens.length<=10000000)(dQ:p.ln<=9223372036854775807)(SX:∀e∈p.ens,e.ea<=9223372036854775807):Pure Tryz.prog aD 65 [.agg (Qa p)] (RW p):=by
 have k22:=Ws p hs;obtain⟨l1,l2,l3,l4,l5,l6⟩:=hs
 have FP:(Ua p).length<=1000000000:=by
  have:=pX p.aM [] [];simp only[Ua]at*
  simp at this;omega
 refine Qp akD (mz p) zd ?_;cases hv:pe p with
 |false=>
  rw[hv]at k22;have:RW p=.aS [.sl .nil [],.sl .nil [],I 80]:=by rw[RW,ac hv]
  rw[this];simp[akC,Tu,Qa,mz,hv];simpa[Qa]using k22
 |true=>
  rw[hv]at k22;simp[akC,Qa,mz,hv];refine⟨by simpa[Qa]using k22,?_⟩;refine Qj MC (auf p) (fun f _=>p.ens.length-(numOf (f 17)).toNat) ?_ ?_
  ·exact⟨0,.nil,[],[],zd,zE,zd,.inl ⟨zd,rfl⟩,by simp[Qa]⟩
  rintro f m ⟨i,rt,ls,bx,h17,hi,h5,hO,rfl⟩;rcases zzaa i p.ens.length with ah|bu
  ·obtain⟨e,he⟩:=aV ah;have ai:=Qdc he;have aa:(i:Int)<(p.ens.length:Int):=zE
   have hw:=bO i zE;have bz:(Ue p).take (i+1)=(Ue p).take i++[e.id]:=by rw[zzay];simp[Ue,he]
   have lQ:((Ue p).take i).length=i:=by simp[Ue];omega
   obtain⟨S,hS⟩:∃S,(Ue p).take i=S:=⟨_,rfl⟩;rw[hS]at h5 hO bz lQ;obtain⟨rfl,rfl⟩|⟨k,rfl,dK,eE,yf⟩:=hO
   ·simp[h17,h5,ah,aa,ai,Qd,Qa,mz,MC,hw];refine⟨aQ,⟨i+1,.own ls.length 1,ls++[1],bx++[Qd e],zd,zE,by rw[bz];simp[Qz],.inr ⟨_,rfl,zE,by rw[bz];simp,by rw[bz];simp⟩,by simp[Qa,Qd]⟩,zE⟩
   have N0:=(zza.1 eE).1;simp[h17,h5,ah,aa,ai,Qd,Qa,mz,MC,hw,eE];refine⟨⟨?_,zE⟩,aQ,⟨i+1,.own k 1,ls.set k (S.length+1),bx++[Qd e],zd,zE,by rw[bz];simp[Qz],.inr ⟨_,rfl,zE,by rw[bz];simp[N0],by rw[bz];simp⟩,by simp[Qa,Qd]⟩,zE⟩
   ·rintro row (⟨a,_,rfl⟩|rfl)<;>rfl
  have bP:¬(i:Int)<(p.ens.length:Int):=zE
  have lQ:(Ue p).take i=Ue p:=zzau (by simp[Ue];omega);rw[lQ]at h5 hO;have aK:(Ue p).length<=10000000:=by simp[Ue];omega
  have k41:=fun K'=>yz (Qa p::bx) ls p 0 [] .nil zE l2 zd Y0 K';simp only[Qa,zzct]at k41;simp[h17,h5,bP,zzbm.2 bu,MC,Qa,mz];refine k41 _ fun ex=>?_;clear k41
  have h85:∀m,Abs.Pure Tryz.prog aD 173 [bB m 6 (.sl rt ((Ue p).map Qz))] (.sl .ro ((Ue p).map Qz)):=fun m=>by
   have kc:=ago (Ue p) zE;obtain⟨h1,rfl⟩|⟨k,rfl,_⟩:=hO
   ·exact Zb kc ⟨Wk.sl _ _,trivial⟩
   exact kc
  simp[mz];refine Qeg (Qa p::bx) ex ls (IP p) (Ue p) rt 0 zE zE hc l1 l2 l3 FP dQ SX (by simp[IP]) (fun _ _ h=>(by cases h)) (fun _ _ h=>(by cases h)) (anE p) Y0 _ (fun h0 rv li pm gD exl hB=>?_) (fun l h1 rv li pm gD exl Su hB Gy=>?_)
  ·have h0:Yt p (Ue p) [] [] 0 (-1)=none:=h0;have hr:RW p=.aS [.sl .nil [],.sl .ro ((nO (IP p) (Ue p)).map Qz),I 90]:=by rw[RW,ab (by simp[hv]),h0]
   have bV:mw (IP p) (Ue p)=false:=by show(Yt p (Ue p) [] [] 0 (-1)).isSome=false;rw[h0];rfl
   rw[hr];simp[mz];refine Ma (Qa p::bx) (ex++gD) (ls++exl) {IP p with rv:=rv,li:=li,pm:=pm} (Ue p) rt h85 0 zE zE hc l1 l2 l3 FP dQ SX (by simp[IP]) (fun _ _ h=>(by cases h)) (fun _ _ h=>(by cases h)) hB Y0 _ (fun Eo li3 pm3 DK ei SH=>?_);have ayy:mw {IP p with rv:=rv,li:=li,pm:=pm} (Ue p)=false:=bV;have j4:nO {IP p with rv:=rv,li:=li,pm:=pm} (Ue p)=nO (IP p) (Ue p):=rfl;rw[ayy,j4,ab zd];simp[Tu]
  have h1:Yt p (Ue p) [] [] 0 (-1)=some l:=h1;have hr:RW p=.aS [IN l,.sl .nil [],I 0]:=by rw[RW,ab (by simp[hv]),h1]
  rw[hr];obtain⟨rfl,rfl⟩|⟨k2,rfl,_,_,aO⟩:=Gy
  ·simp[mz,Tu,IN]
  simp[mz,Tu,IN,aO]
def aug(it:Int)(bf:List (Int×Int)):Int:=((bf.filter fun a=>decide (a.1=it)).length:Nat)
structure azy (p:Pl) (bf us en:List (Int×Int)):Prop where
 us:∀it,(af it us).getD 0<=aug it bf
 en:∀k v,af k en=some v->∃a∈bf,∃x,Xk a.1 p.aM=some x/\x.sp=k/\v<=a.2
structure azz (p:Pl) (bf us en:List (Int×Int)):Prop where
 us:∀it,aug it bf<=(af it us).getD 0
 en:∀a∈bf,∀x,Xk a.1 p.aM=some x->∃v,af x.sp en=some v/\a.2<=v
def ay9(p:Pl)(c:Cl):Pl:={p with cls:=p.cls++[c]}
def g0(ok:Pi->Bool)(rd:Int->Nat):Pi->Pi->List Bool
 |[],_=>[]
 |id::r,ic=>if rd id=0 then ok (ic++[id])::g0 ok rd r (if ok (ic++[id])=true then ic++[id]else ic)else false::g0 ok rd r ic
def aa4(ok:Pi->Bool)(rd:Int->Nat):∀(l ic:Pi),(g0 ok rd l ic).length=l.length
 |[],_=>rfl
 |id::r,ic=>by rw[g0];split<;>simp[aa4 ok rd r]
def jT(w:Bool):∀(a:Pi)(K:List Bool)(b:Pi)(L:List Bool),a.length=K.length->Xe w (a++b) (K++L)=Xe w a K++Xe w b L
 |[],[],_,_,_=>rfl
 |[],_::_,_,_,h=>by simp at h
 |_::_,[],_,_,h=>by simp at h
 |x::a,k::K,b,L,h=>by
  simp only[zzae,Xe];rw[jT w a K b L (Nm h)];split<;>simp
def yR(ok:Pi->Bool)(rd:Int->Nat):∀(b a:Pi)(K:List Bool),a.length=K.length->((List.range' a.length b.length).foldl (Jz ok rd (a++b) 0) (K++List.replicate b.length false))=K++g0 ok rd b (Xe true a K)
 |[],a,K,h=>by simp[g0]
 |id::b,a,K,h=>by
  rw[zzbf,zzgx,zzda];have aK:(a++id::b)[a.length]?=some id:=zd
  have hK:a.length<(K++List.replicate (b.length+1) false).length:=by simp;omega
  have bR:∀x,(K++List.replicate (b.length+1) false).set a.length x=(K++[x])++List.replicate b.length false:=fun x=>by
   rw[zzdh _ _ zE,h,zzg,zzgh];simp
  have hab:a++id::b=(a++[id])++b:=zd
  have ayz:Xe true (a++id::b) ((K++[true])++List.replicate b.length false)=Xe true a K++[id]:=by
   rw[hab,jT true (a++[id]) (K++[true]) b _ (by simp[h]),jT true a K [id] [true] h,yQ];simp[Xe]
  have aH:∀x:Bool,(a++[id]).length=(K++[x]).length:=fun x=>by simp[h]
  have gK:a.length+1=(a++[id]).length:=zd
  unfold Jz;rw[aK];simp only;by_cases hr:rd id=0
  ·rw[ac hr,bR true,ayz,bR,g0,ac hr];have ih:=yR ok rd b (a++[id]) (K++[ok (Xe true a K++[id])]) (aH _);rw[<- hab,<- gK]at ih;rw[show(List.foldl (fun K i=>Jz ok rd (a++id::b) 0 K i))=List.foldl (Jz ok rd (a++id::b) 0)from rfl]at*
   refine ih.trans ?_;rw[jT true a K [id] _ h];cases hb:ok (Xe true a K++[id])<;>simp[Xe]
  rw[ab hr,g0,ab hr];have ih:=yR ok rd b (a++[id]) (K++[false]) (aH _);rw[<- hab,<- gK]at ih;have e:K++List.replicate (b.length+1) false=(K++[false])++List.replicate b.length false:=by rw[zzgh];simp
  rw[e];refine ih.trans ?_;rw[jT true a K [id] _ h];simp[Xe]
def R7(ok:Pi->Bool)(rd:Int->Nat)(ids:Pi):Jg ok rd ids 0 (List.replicate ids.length false)=g0 ok rd ids []:=by
 have:=yR ok rd ids [] [] rfl;simp only[zzcn,zzag,Xe]at this;rw[Jg,zzfx];exact this
def kT(ok:Pi->Bool)(rd:Int->Nat):∀(ids ic:Pi),(Xe false ids (g0 ok rd ids ic)).filter (fun id=>decide (rd id=0))=Xe false (ids.filter fun id=>decide (rd id=0)) (g0 ok rd (ids.filter fun id=>decide (rd id=0)) ic)
 |[],ic=>rfl
 |id::r,ic=>by
  by_cases h:rd id=0
  ·rw[zzd (by simp[h]),g0,g0,ac h,ac h];cases hb:ok (ic++[id])with
   |true=>simpa[Xe]using kT ok rd r (ic++[id])
   |false=>
    simp only[Xe,zzbi,if_false,beq_self_eq_true,if_true];rw[zzd (by simp[h]),kT ok rd r ic]
  rw[zzea (by simp[h]),g0,ab h];simp only[Xe,beq_self_eq_true,if_true];rw[zzea (by simp[h]),kT ok rd r ic]
def aa5(rd:Int->Nat)(ids:Pi)(K K':List Bool):Prop:=∀(j:Nat)(id:Int),ids[j]?=some id->rd id=0->K.getD j false=K'.getD j false
def BL(rd:Int->Nat):∀(ids:Pi)(K K':List Bool),K.length=ids.length->K'.length=ids.length->aa5 rd ids K K'->(Xe false ids K).filter (fun id=>decide (rd id=0))=(Xe false ids K').filter (fun id=>decide (rd id=0))
 |[],K,K',_,_,_=>by simp[Xe]
 |id::r,[],_,h,_,_=>by simp at h
 |id::r,_::_,[],_,h,_=>by simp at h
 |id::r,k::K,k'::K',h1,h2,h=>by
  have ih:=BL rd r K K' (Nm h1) (Nm h2) fun j x hj hx=>by simpa using h (j+1) x (Nm hj) hx
  by_cases hr:rd id=0
  ·have h0:=h 0 id rfl hr;simp at h0;subst h0;simp only[Xe];split
   ·rw[zzd (by simp[hr]),zzd (by simp[hr]),ih]
   exact ih
  simp only[Xe]
  have e:∀(b:Bool)(l:Pi),(if(b==false)=true then id::l else l).filter (fun id=>decide (rd id=0))=l.filter fun id=>decide (rd id=0):=fun b l=>by
   split
   ·rw[zzea (by simp[hr])]
   rfl
  rw[e,e,ih]
def th(ok:Pi->Bool)(rd:Int->Nat)(ids:Pi)(r:Nat)(hr:r≠0)(K:List Bool):aa5 rd ids (Jg ok rd ids r K) K/\(Jg ok rd ids r K).length=K.length:=by
 have key:∀(L:Pa)(K:List Bool),aa5 rd ids (L.foldl (Jz ok rd ids r) K) K/\(L.foldl (Jz ok rd ids r) K).length=K.length:=by
  intro L;induction L with
  |nil=>intro K;exact⟨fun _ _ _ _=>rfl,rfl⟩
  |cons i L ih=>
   intro K;obtain⟨h1,h2⟩:=ih (Jz ok rd ids r K i);refine⟨fun j id hj aK=>?_,by rw[zzda,h2,R6]⟩;rw[zzda,h1 j id hj aK];unfold Jz;cases hi:ids[i]? with
   |none=>rfl
   |some x=>
    simp only;split
    ·rename_i hx;rw[jS,ab (by rintro⟨e,_⟩;subst e;rw[hi]at hj;cases hj;omega)]
    rfl
 exact key _ K
def anx(ok:Pi->Bool)(rd:Int->Nat)(ids:Pi):(Xe false ids (Jd ok rd ids)).filter (fun id=>decide (rd id=0))=Xe false (ids.filter fun id=>decide (rd id=0)) (Jd ok rd (ids.filter fun id=>decide (rd id=0))):=by
 obtain⟨S,hS⟩:∃S,(ids.filter fun id=>decide (rd id=0))=S:=⟨_,rfl⟩;have bD:∀(L:Pi),Jd ok rd L=Jg ok rd L 2 (Jg ok rd L 1 (g0 ok rd L [])):=fun L=>by rw[Jd,R7]
 have two:∀(L:Pi),(Xe false L (Jd ok rd L)).filter (fun id=>decide (rd id=0))=(Xe false L (g0 ok rd L [])).filter (fun id=>decide (rd id=0)):=fun L=>by
  rw[bD];obtain⟨a1,a2⟩:=th ok rd L 1 zE (g0 ok rd L []);obtain⟨b1,b2⟩:=th ok rd L 2 zE (Jg ok rd L 1 (g0 ok rd L []));have hg:=aa4 ok rd L [];refine BL rd L _ _ zE hg fun j id hj aK=>?_;rw[b1 j id hj aK,a1 j id hj aK]
 rw[two ids,kT,hS]
 have hSf:∀id∈S,rd id=0:=fun id h=>by
  rw[<- hS]at h;simpa using(zzbp.1 h).2
 have bP:∀(L:Pi)(K:List Bool),∀x∈Xe false L K,x∈L:=by
  intro L;induction L with
  |nil=>intro K x hx;simp[Xe]at hx
  |cons y L ih=>
   intro K x hx;cases K with
   |nil=>simp[Xe]at hx
   |cons k K=>
    simp only[Xe]at hx;split at hx
    ·rcases zzao.1 hx with rfl|hx
     ·simp
     exact zzcu _ (ih K x hx)
    exact zzcu _ (ih K x hx)
 have aK:∀K:List Bool,(Xe false S K).filter (fun id=>decide (rd id=0))=Xe false S K:=fun K=>zzgf.2 fun x hx=>by simp[hSf x (bP S K x hx)]
 have:=two S;rw[aK,aK]at this;exact this.symm
section
variable (P:Int->Prop) (fr low:Int)
def OkA(t:Int):Prop:=∀x,t<=x->x<t+fr->P x
structure RfI (c run last:Int):Prop where
 no:∀t,low<=t->t+fr<=c->¬OkA P fr t
 st:(run= -1/\last= -1/\∀x,low<=x->x<c->¬P x)\/(low<=run/\run<last/\last<=c/\(∀x,run<=x->x<last->P x)/\(run=low\/¬P (run-1))/\∀x,last<=x->x<c->¬P x)
end
def nlB(a b:List Sp):Bool:=a.all fun x=>b.all fun y=>!(decide (x.1=y.1)&&decide (y.2<x.2))
def Qcs(w:Bool):∀(ids:Pi)(K:List Bool),(Xe w ids K).Sublist ids
 |[],K=>by cases K<;>simp[Xe]
 |id::r,[]=>by simp[Xe]
 |id::r,k::ks=>by
  rw[Xe];split
  ·exact(Qcs w r ks).cons_cons id
  exact(Qcs w r ks).cons id
def HT:∀{ids:Pi}{K:List Bool},K.length=ids.length->(∀j,j<ids.length->K.getD j false=true)->Xe true ids K=ids/\Xe false ids K=[]
 |[],K,_,_=>by cases K<;>exact⟨rfl,rfl⟩
 |id::r,[],h,_=>by simp at h
 |id::r,k::ks,h,hk=>by
  have h0:=hk 0 zd;simp at h0;subst h0
  obtain⟨h1,h2⟩:=HT (ids:=r) (K:=ks) (Nm h) fun j hj=>by
   have:=hk (j+1) (Nm hj);simpa using this
  simp[Xe,h1,h2]
def Mb{ok:Pi->Bool}(hm:aa2 ok)(h0:ok []=true)(rd:Int->Nat)(ids:Pi)(iC:∀id∈ids,rd id<=2)(h:ok ids=true):Xe true ids (Jd ok rd ids)=ids/\Xe false ids (Jd ok rd ids)=[]:=by
 obtain⟨h1,h2,h3⟩:=choose_spec hm h0 rd ids iC;refine HT h1 fun j hj=>?_;rcases h3 j _ (zzaf hj)with h4|h4
 ·exact h4
 rw[hm _ _ (Qcs true ids _) h]at h4;cases h4
def am3(n:Int):Prop:= -9223372036854775808<=n/\n<=9223372036854775807
structure Ca where
 p:Pl
 ids:Pi
 wh:Int
 at_:Int
 past:List Ad
structure PlK (p:Pl):Prop where
 cls:p.cls.length<=1000
 sh:p.sh.length<=1000
 aM:p.aM.length<=1000
 ens:p.ens.length<=1000
 bks:p.bks.length<=1000
 als:∀e∈p.ens,e.al.length<=1000
 ln: -9223372036854775808<=p.ln/\p.ln<=9223372036854775807
 ea:∀e∈p.ens,-9223372036854775808<=e.ea/\e.ea<=9223372036854775807
 la:∀e∈p.ens,-9223372036854775808<=e.la/\e.la<=9223372036854775807
 fr:∀e∈p.ens,-9223372036854775808<=e.fr/\e.fr<=2000
def PlK.spn{p:Pl}(h:PlK p):(Ua p).length<=1000:=by
 have:=pX p.aM [] [];have:=h.aM;simp only[Ua];simp at*;omega
def Hi:∀(l:List Ad)(us:List (Int×Int))(n:Int),0<=n->pF n us->pF (n+l.length) (Wt l us)
 |[],us,n,_,h=>by simpa[Wt]using h
 |a::r,us,n,hn,h=>by
  rw[Wt]
  have h1:pF (n+1) (if nC a=true then Zx us a.it else us):=by
   split
   ·exact h.note hn a.it
   exact fun k v hk=>by have:=h k v hk;omega
  have h2:=Hi r _ (n+1) zE h1;have:n+((a::r).length:Int)=n+1+(r.length:Int):=by simp;omega
  rw[this];exact h2
def Hj(p:Pl):∀(l:List Ad)(en:List (Int×Int)),tV en->tV (Wu p l en)
 |[],en,h=>by simpa[Wu]using h
 |a::r,en,h=>by
  rw[Wu];refine Hj p r _ ?_;cases hc:nC a with
  |false=>simpa[hc]using h
  |true=>
   simp only[if_true];refine h.note a.it _ ?_;simp[nC]at hc;omega
def Hl(l:Pi):AV:=if l=[]then .sl .nil []else .sl .ro (l.map Qz)
def fR(p:Pl)(at_:Int)(past:List Ad):Bd:=⟨p,at_,Wt past [],Wu p past [],[],[],[]⟩
def am4(p:Pl)(at_:Int)(past:List Ad):By (fR p at_ past):=⟨fun _ _ h=>(by cases h),fun _ _ h=>(by cases h),fun _ _ h=>(by cases h)⟩
def zi(p:Pl)(id:Int):Nat:=match Xn id p.ens with
 |none=>2
 |some e=>if e.bo≠0 then 0 else match Xk e.it p.aM with
  |none=>2
  |some x=>if x.ki=1\/x.ki=4 then 1 else 2
def Kc(p:Pl)(at_:Int)(past:List Ad)(ids:Pi):List Bool:=Jd (mw (fR p at_ past)) (zi p) ids
def RQ(p:Pl)(at_:Int)(past:List Ad)(ids:Pi):AV:=
 .aS [IN ((Ye p at_ past (Xe true ids (Kc p at_ past ids))).getD []),Hl (Xe false ids (Kc p at_ past ids))]
theorem uW(p:Pl)(at_:Int)(past:List Ad)(ids:Pi):mw (fR p at_ past) ids=(Ye p at_ past ids).isSome:=rfl
def aa6(p:Pl)(id:Int):zi p id<=2:=by
 unfold zi;cases Xn id p.ens with
 |none=>exact zzab _
 |some e=>
  simp only;split
  ·omega
  cases Xk e.it p.aM with
  |none=>exact zzab _
  |some x=>simp only;split<;>omega
def yA(p:Pl)(at_:Int)(past:List Ad)(ids:Pi):(Kc p at_ past ids).length=ids.length/\(Ye p at_ past (Xe true ids (Kc p at_ past ids))).isSome=true/\
  ∀(j:Nat)(id:Int),ids[j]?=some id->(Kc p at_ past ids).getD j false=true\/(Ye p at_ past (Xe true ids ((Kc p at_ past ids).set j true))).isSome=false:=
 choose_spec (HS _) (O7 _) (zi p) ids fun id _=>aa6 p id
def Bz(p:Pl)(at_:Int)(past:List Ad)(ids:Pi)(h:(Ye p at_ past ids).isSome=true):Xe true ids (Kc p at_ past ids)=ids/\Xe false ids (Kc p at_ past ids)=[]:=
 Mb (HS _) (O7 _) (zi p) ids (fun id _=>aa6 p id) h
