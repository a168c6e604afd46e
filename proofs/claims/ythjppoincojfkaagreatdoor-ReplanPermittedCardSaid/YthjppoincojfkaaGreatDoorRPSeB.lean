import Derived.Test.YthjppoincojfkaaGreatDoorRPML
set_option linter.all false
set_option maxRecDepth 100000
set_option maxHeartbeats 64000000
namespace Go.Proofs.YthjppoincojfkaaGreatDoor
open Go Go.Abs
def aaW{lo hi:Int}{a b:List Sp}(h:Sv lo hi b):Sv lo hi (zK a b):=by
 obtain⟨⟨h1,_⟩,h2⟩:=kN a b;intro w hw;have ai:=h1 w hw;obtain⟨s,hs,s1,s2⟩:=((h2 w.1).1 ⟨w,hw,zE,ai⟩).2;obtain⟨t,ht,t1,t2⟩:=((h2 (w.2-1)).1 ⟨w,hw,zE,zE⟩).2;have:=h s hs;have:=h t ht;omega
def Qde(p:Pl)(id region:Int)(s:Sp):(Vt p id region s).length<=1000000:=by
 unfold Vt;simp only;generalize QC s=c;cases Xj id p.aM with
 |none=>simp
 |some x=>
  simp only;split
  ·simp
  rename_i hb;simp only[not_or]at hb;split
  ·simp
  split
  ·simp
  have bO:Sv c.1 c.2 [c]:=by intro w hw;simp at hw;subst hw;omega
  have:=KP _ c.1 c.2 (kN ((ij p x region (uS p c) (lP p x region (uS p c)).length).map (uE p)) [c]).1 (fun w hw=>by have:=aaW bO w hw;omega);omega
def frB(f:Int):Bool:=decide (0<=f/\f<=100000000)
def Xd(p:Pl)(id region f n:Int):Bool:=
 if n<1\/1000000<n\/frB f=false\/frB (f+n-1)=false then false else(D0 [(f,f+n)] (Vt p id region (f,f+n))).isEmpty
def BJ(p:Pl)(id region f n:Int):UV:=fun d g l=>
 if g=38 then(match l with|[.int _ n]=>.bool (frB n)|_=>.junk)else
 if g=40 then .sl .ro ((Vt p id region (f,f+n)).map Qf)else
 if g=39 then .bool (D0 [(f,f+n)] (Vt p id region (f,f+n))).isEmpty else .junk
def Qbh(p:Pl)(id region f n:Int)(hc:p.cls.length<=1000000)(fA:p.sh.length<=1000000000)(cM:p.aM.length<=1000000000):
  Pure Tryz.prog aD 18 [.agg (Qa p),I id,I region,I f,I n] (.bool (Xd p id region f n)):=by
 have k34:=th f;have agd:=th (f+n-1);refine Qp ajO (BJ p id region f n) zd ?_;by_cases b1:n<1
 ·simp[O1,Qa,BJ,O2,b1,Xd]
 by_cases b2:1000000<n
 ·simp[O1,Qa,BJ,O2,b1,b2,Xd]
 by_cases b3:frB f=true
 ·have b3':0<=f/\f<=100000000:=by simpa[frB]using b3
  have lM:IntKind.i64.wrap (f+n)=f+n:=by rw[Ql]<;>omega
  have fQ:IntKind.i64.wrap (f+n-1)=f+n-1:=by rw[Ql]<;>omega
  rw[show decide (0<=f/\f<=100000000)=true from b3]at k34;by_cases b4:frB (f+n-1)=true
  ·rw[show decide (0<=f+n-1/\f+n-1<=100000000)=true from b4]at agd;have k36:=nM p id region (f,f+n) hc fA cM (by simp only;omega) (by simp only;omega);have k35:=HR (Vt p id region (f,f+n)) (f,f+n) (by have:=Qde p id region (f,f+n);omega);simp[O1,Qa,BJ,O2,b1,b2,b3,b4,lM,fQ,Xd];exact⟨k34,agd,k36,k35⟩
  have b4':frB (f+n-1)=false:=by simpa using b4
  rw[show decide (0<=f+n-1/\f+n-1<=100000000)=false from b4']at agd;simp[O1,Qa,BJ,O2,b1,b2,b3,b4',lM,fQ,Xd];exact⟨k34,agd⟩
 have b3':frB f=false:=by simpa using b3
 rw[show decide (0<=f/\f<=100000000)=false from b3']at k34;simp[O1,Qa,BJ,O2,b1,b2,b3',Xd];exact k34
open Go Go.Abs
def Xb(id:Int):List En->Option En
 |[]=>none
 |x::r=>if x.id=id then some x else Xb id r
def sM:Option En->AV
 |some x=>.aS [.agg (Qd x),.bool true]
 |none=>.aS [.agg [I 0,I 0,I 0,I 0,I 0,I 0,.sl .nil []],.bool false]
def nX(e:En):Pure Tryz.prog aD 63 [.agg (Qd e)] (I e.id):=by
 refine Qp akp (fun _ _ _=>.junk) zd ?_;simp[apf,Qd,apg]
def Mc(L:List En)(id:Int)(hl:L.length<=1000000000):Pure Tryz.prog aD 62 [.sl .ro (L.map Qd),I id,.fn 63 [] []] (sM (Xb id L)):=by
 refine Qp IW (fun _ f l=>if f=63 then(match l with|[.agg (c::_)]=>c|_=>.junk)else .junk) zd ?_;simp[abF];refine Qi gG (fun f m=>∃(i:Nat)(bx:T5),f 13=I i/\i<=L.length/\Xb id (L.drop i)=Xb id L/\m=⟨[I 0,I 0,I 0,I 0,I 0,I 0,.sl .nil []]::bx,[],fun _=>.gone,0⟩) (fun f _=>L.length-(numOf (f 13)).toNat) ?_ ?_
 ·exact⟨0,[],zd,zE,rfl,rfl⟩
 rintro f m ⟨i,bx,eR,hi,hf,rfl⟩;rcases zzaa i L.length with ai|bq
 ·obtain⟨x,hx⟩:=aV ai;have ah:Qh (L.map Qd) i=Qd x:=Qu (by simp[hx]);have aa:(i:Int)<(L.length:Int):=zE
  have hw:=bP i zE;have hd:L.drop i=x::L.drop (i+1):=by rw[zzag ai,(zza.1 hx).2]
  have hk:=nX x;rw[hd,Xb]at hf;by_cases aL:x.id=id
  ·rw[if_pos aL]at hf;simp[eR,ai,aa,ah,Qd,aL,gG,IV,<- hf,sM];simpa[Qd,aL]using hk
  rw[if_neg aL]at hf;simp[eR,ai,aa,ah,Qd,aL,gG,hw];refine⟨hk,aQ,⟨i+1,zd,zE,hf⟩,zE⟩
 rw[zzal bq]at hf;have bO:¬(i:Int)<(L.length:Int):=zE
 simp[eR,zzbk.2 bq,bO,gG,IV,<- hf,sM,Xb]
open Go Go.Abs
def Me{w:World}{γ:G}{rows:T5}{v:Value}(h:aA w γ (.sl .ro rows) v):aA w γ (.sl .nil rows) v\/aA w γ (.sl .nn rows) v:=by
 cases h with
 |sl b off sz cv hcap hnil ha hsz hc hr aX=>
  rename_i a cap;by_cases e:a=none
  ·exact .inl (.sl b off sz cv hcap hnil ha hsz hc hr e)
  exact .inr (.sl b off sz cv hcap hnil ha hsz hc hr e)
def sV{P:Program}{gl:Nat->AV}{f:FuncId}{rows:T5}{r:AV}(h:Pure P gl f [.sl .nil rows] r)(k:Pure P gl f [.sl .nn rows] r):Pure P gl f [.sl .ro rows] r:=
 ⟨h.1,fun ro w vs lE hr=>by
  match vs,hr with
  |[v],hr=>
   rcases Me (hr.2 0 _ v rfl rfl)with h1|h1
   ·exact h.2 ro w [v] lE ⟨rfl,fun i x y hx hy=>by
     cases i with
     |zero=>cases hx;cases hy;exact h1
     |succ i=>cases hx⟩
   exact k.2 ro w [v] lE ⟨rfl,fun i x y hx hy=>by
    cases i with
    |zero=>cases hx;cases hy;exact h1
    |succ i=>cases hx⟩
  |[],hr=>exact absurd hr.1 zd
  |_::_::_,hr=>exact absurd hr.1 zd⟩
def D1:Pure Tryz.prog aD 64 [.sl .nn []] (.sl .ro []):=by
 have:∃rt,Pure Tryz.prog aD 64 [.sl .nn []] (.sl rt []):=by
  refine⟨.ro,Qp IX (fun _ _ _=>.junk) zd ?_⟩;simp[abG,abH]
 obtain⟨rt,h⟩:=this;exact Zh h (Wk.sl _ _)
def Qcn(l:List Sp)(hl:l.length<=8796093022208):Pure Tryz.prog aD 64 [.sl .ro (l.map Qf)] (.sl .ro (l.map Qf)):=by
 cases l with
 |nil=>exact sV (Zh jQ (Wk.sl _ _)) D1
 |cons x r=>
  refine Qp IX (fun _ _ _=>.junk) zd ?_;simp[abG,abH];simp at hl;refine⟨⟨rfl,?_⟩,zE⟩;rintro row a b _ rfl;rfl
def KV(p:Pl)(id:Int)(hl:p.ens.length<=1000000000)(ha:∀e∈p.ens,e.al.length<=8796093022208):Pure Tryz.prog aD 29 [.agg (Qa p),I id] (sM (Xb id p.ens)):=by
 have h59:=Mc p.ens id hl;refine Qp SS (fun _ f l=>if f=62 then sM (Xb id p.ens)else l.headD .junk) zd ?_;cases hf:Xb id p.ens with
 |none=>
  rw[hf]at h59;simp[abu,abv,Qa,sM,hf];exact⟨h59,jQ⟩
 |some x=>
  rw[hf]at h59
  have hx:x∈p.ens:=by
   have:∀l:List En,Xb id l=some x->x∈l:=by
    intro l;induction l with
    |nil=>intro h;cases h
    |cons y r ih=>
     intro h;simp only[Xb]at h;split at h
     ·cases h;simp
     simp[ih h]
   exact this _ hf
  have hc:=Qcn x.al (ha x hx);simp[abu,abv,Qa,sM,Qd,hf];exact⟨h59,hc⟩
open Go Go.Abs
def Mf(e:It):Pure Tryz.prog aD 37 [.agg (Qj e)] (I e.id):=by
 refine Qp SU (fun _ _ _=>.junk) zd ?_;simp[ajY,Qj,ajZ]
def yf(L:List It)(id:Int)(hl:L.length<=1000000000):Pure Tryz.prog aD 36 [.sl .ro (L.map Qj),I id,.fn 37 [] []] (Zj (Xj id L)):=by
 refine Qp ajX (fun _ f l=>if f=37 then(match l with|[.agg (c::_)]=>c|_=>.junk)else .junk) zd ?_;simp[aoT];refine Qi MB (fun f m=>∃(i:Nat)(bx:T5),f 13=I i/\i<=L.length/\Xj id (L.drop i)=Xj id L/\m=⟨[I 0,I 0,I 0,I 0,I 0]::bx,[],fun _=>.gone,0⟩) (fun f _=>L.length-(numOf (f 13)).toNat) ?_ ?_
 ·exact⟨0,[],zd,zE,rfl,rfl⟩
 rintro f m ⟨i,bx,eR,hi,hf,rfl⟩;rcases zzaa i L.length with ai|bq
 ·obtain⟨x,hx⟩:=aV ai;have ah:Qh (L.map Qj) i=Qj x:=Qu (by simp[hx]);have aa:(i:Int)<(L.length:Int):=zE
  have hw:=bP i zE;have hd:L.drop i=x::L.drop (i+1):=by rw[zzag ai,(zza.1 hx).2]
  have hk:=Mf x;rw[hd,Xj]at hf;by_cases aL:x.id=id
  ·rw[if_pos aL]at hf;simp[eR,ai,aa,ah,Qj,aL,MB,ajW,<- hf,Zj];simpa[Qj,aL]using hk
  rw[if_neg aL]at hf;simp[eR,ai,aa,ah,Qj,aL,MB,hw];refine⟨hk,aQ,⟨i+1,zd,zE,hf⟩,zE⟩
 rw[zzal bq]at hf;have bO:¬(i:Int)<(L.length:Int):=zE
 simp[eR,zzbk.2 bq,bO,MB,ajW,<- hf,Zj,Xj]
def BD(p:Pl)(id:Int)(hl:p.aM.length<=1000000000):Pure Tryz.prog aD 17 [.agg (Qa p),I id] (Zj (Xj id p.aM)):=by
 have h:=yf p.aM id hl;refine Qp SP (fun _ f l=>if f=36 then Zj (Xj id p.aM)else .junk) zd ?_;cases hf:Xj id p.aM with
 |none=>
  rw[hf]at h;simp[SM,SN,Qa,Zj,hf];exact h
 |some x=>
  rw[hf]at h;simp[SM,SN,Qa,Zj,Qj,hf];exact h
def xq(p:Pl)(f t:Int):Pure Tryz.prog aD 122 [.agg (Qa p),I f,I t] (.fn 175 [] [.ep (Qa p) 0,.ep [I f] 0,.ep [I t] 0]):=by
 refine Qp ab7 (fun _ _ _=>.junk) zd ?_;simp[agP,agQ,Qa]
open Go Go.Abs
def Ul(b:Nat->Bool):Nat->Int
 |0=>0
 |n+1=>Ul b n+if b n then 2 ^ n else 0
def DC(b:Nat->Bool):∀n,0<=Ul b n/\Ul b n<2 ^ n
 |0=>by simp[Ul]
 |n+1=>by
  have:=DC b n;have h2:(2:Int) ^ (n+1)=2*2 ^ n:=by rw[Int.pow_succ];omega
  rw[Ul,h2];split<;>omega
def ZK:∀i:Nat,i<8->∀x:Nat,x<2 ^ i->IntKind.i64.wrap (((((x:Int)%2 ^ IntKind.i64.bits).toNat|||(IntKind.i64.wrap (2 ^ min i IntKind.i64.bits)%2 ^ IntKind.i64.bits).toNat:Nat)):Int)=(x:Int)+2 ^ i:=by
 decide+kernel
def sL(Y:YT)(p:Pl)(h:FuncId)(cap:P2)(b:Nat->Bool)(m:AM)(K:So)
  (hg:∀(i:Nat)(mm:AM),i<8->(i:Int)<p.rg->(∃bx,mm=⟨m.boxes++bx,m.lens,m.st,m.ln⟩)->∀K':So,K' (.bool (b i)) mm->aB Tryz.prog aD Y h ([I i]++cap) mm K')
  (hK:∀bx,K (I (Ul b (min p.rg 8).toNat)) ⟨m.boxes++bx,m.lens,m.st,m.ln⟩):aB Tryz.prog aD Y 176 [.agg (Qa p),.fn h [] cap] m K:=by
 refine Xn acS (fun _ _ _=>.gd false .junk) zd ?_;obtain⟨n,hn⟩:∃n,(min p.rg 8).toNat=n:=⟨_,rfl⟩
 have Ct:Qh (m.boxes++[Qa p]) m.boxes.length=Qa p:=by
  simp
 rw[hn]at hK;have hmn:(if 8<p.rg then 8 else p.rg)=min p.rg 8:=zE
 simp only[Qa]at Ct;simp[ahj,Qa,Ct];refine Qi Jx (fun f mm=>∃(i:Nat)(bx:T5),f 10=I i/\(i=0\/i<=n)/\mm=⟨m.boxes++bx,m.lens,m.st,m.ln⟩/\f 5=I (Ul b i)) (fun f _=>n-(numOf (f 10)).toNat) ?_ ?_
 ·exact⟨0,_,zd,.inl rfl,rfl,by simp[Ul]⟩
 rintro f mm ⟨i,bx,jq,hi,rfl,h5⟩;by_cases ai:(i:Int)<min p.rg 8
 ·have bO:i<n:=zE
  have hw:=bP i zE;have gI:=DC b i;have hg':=hg i ⟨m.boxes++bx,m.lens,m.st,m.ln⟩ zE zE ⟨_,rfl⟩
  have hor:IntKind.i64.wrap ((((Ul b i%2 ^ IntKind.i64.bits).toNat|||(IntKind.i64.wrap (2 ^ min i IntKind.i64.bits)%2 ^ IntKind.i64.bits).toNat:Nat)):Int)=Ul b i+2 ^ i:=by
   obtain⟨x,hx⟩:∃x:Nat,Ul b i=(x:Int):=⟨(Ul b i).toNat,zE⟩
   have hx2:x<2 ^ i:=by
    have h2:=gI.2;rw[hx]at h2
    exact_mod_cast h2
   rw[hx];exact ZK i zE x hx2
  have hms:Ul b (i+1)=Ul b i+if b i then 2 ^ i else 0:=rfl;simp[jq,h5,Jx,hmn,ai];refine hg' _ ?_;cases hb:b i with
  |true=>
   rw[hb]at hms;simp[hor,hw];refine⟨aQ,⟨i+1,zE,zE,by rw[hms];rfl⟩,zE⟩
  |false=>
   rw[hb]at hms;simp[hw];refine⟨aQ,⟨i+1,zE,zE,by rw[hms];simp⟩,zE⟩
 have bO:i=n:=zE
 subst bO;simp[jq,h5,Jx,hmn,ai,ahk];exact hK _
open Go Go.Abs
def Uc(fr t a:Int):Int:=if 1<=fr then min (t-a) fr else t-a
def Vo(fr t a:Int):List (Int×Int):=if a<t then(a,Uc fr t a)::Vo fr t (a+Uc fr t a)else[]
termination_by(t-a).toNat
decreasing_by simp only[Uc];split<;>omega
def Yf(p:Pl):Int:=match Xj p.fi p.aM with|some x=>x.fr|none=>0
def Ga(p:Pl):Int:=Ul (fun _=>true) (min p.rg 8).toNat
def Qbd(p:Pl)(x:Int×Int):P2:=[.agg [I 0,I p.fi,I x.1,I x.2,I 0,I (Ga p),.sl .nil []]]
def aus(p:Pl):UV:=fun _ f _=>if f=17 then Zj (Xj p.fi p.aM)else .gd false .junk
def xm(p:Pl)(f t:Int)(hl:p.aM.length<=1000000000)(hb: -1000000000<=f/\t<=1000000000)(hf:f<=1000000000/\ -1000000000<=t):
  XE Tryz.prog aD 175 [] [.ep (Qa p) 0,.ep [I f] 0,.ep [I t] 0] ((Vo (Yf p) t f).map (Qbd p)):=by
 intro Y l m K hF;have Z7:=BD p p.fi hl;refine Xn acR (aus p) zd ?_
 obtain⟨b,row,aut,ah⟩:∃(b:Bool)(y:It),Zj (Xj p.fi p.aM)=.aS [.agg (Qj y),.bool b]/\y.fr=Yf p:=by
  unfold Yf;cases Xj p.fi p.aM with
  |none=>exact⟨false,⟨0,0,0,0,0⟩,rfl,rfl⟩
  |some x=>exact⟨true,x,rfl,rfl⟩
 rw[aut]at Z7;simp[TW,Qa,aus,aut,Qj]
 refine⟨Z7,sL Y p 177 [] (fun _=>true) _ _ (fun i mm _ _ _ K' h=>by
  show aB _ _ _ _ [I (i:Int)] _ _;refine Xn acT (fun _ _ _=>.junk) zd ?_;simp[ahl,ahm];exact h) fun bx=>?_⟩
 obtain⟨B0,gA⟩:∃B0,m.boxes.length=B0:=⟨_,rfl⟩;have Rw:=hF.ext (m':=⟨m.boxes++[[I row.id,I row.ki,I row.fr,I row.sp,I row.ra]]++bx,m.lens,m.st,m.ln⟩) ⟨zd,fun j hj _=>by rw[zzav];exact Qn hj,⟨[],zd⟩,fun _ _=>rfl⟩;simp only[gA];refine Qi Cc (fun g mm=>∃(a:Int)(O:Nat->Prop),g 8=I a/\ -1000000000<=a/\a<=1000000000/\B0<mm.boxes.length/\Qh mm.boxes B0=[I row.id,I row.ki,I row.fr,I row.sp,I row.ra]/\O B0/\sF (Y l) K ((Vo (Yf p) t a).map (Qbd p)) O mm) (fun g _=>(t-numOf (g 8)).toNat) ?_ ?_
 ·refine⟨f,_,zd,zE,zE,by simp[gA],?_,.inr ⟨zE,by simp;omega⟩,Rw⟩;show Qh (m.boxes++[_]++bx) B0=_;rw[Qn (by simp;omega)];subst gA;simp
 rintro g mm ⟨a,O,h8,a1,a2,hlm,Ss,C5,hFo⟩;by_cases ai:a<t
 ·rw[Vo,if_pos ai]at hFo;simp only[zzbb,Qbd]at hFo;have lM:IntKind.i64.wrap (t-a)=t-a:=by rw[Ql]<;>omega
  have Sr:Uc (Yf p) t a=if 1<=row.fr then min (t-a) row.fr else t-a:=by rw[Uc,ah]
  have IK:1<=Uc (Yf p) t a/\Uc (Yf p) t a<=t-a:=by rw[Sr];split<;>omega
  have fQ:IntKind.i64.wrap (a+Uc (Yf p) t a)=a+Uc (Yf p) t a:=by rw[Ql]<;>omega
  have hmn:(if row.fr<t-a then row.fr else t-a)=min (t-a) row.fr:=zE
  have hM:Ul (fun _=>true) (min p.rg 8).toNat=Ga p:=rfl;generalize hN:Uc (Yf p) t a=N at*
  have key:∀g1,(1<=row.fr->g1=min (t-a) row.fr)->True:=fun _ _=>trivial;have hwN:IntKind.i64.wrap N=N:=by rw[Ql]<;>omega
  by_cases zx:1<=row.fr
  ·rw[if_pos zx]at Sr;simp[h8,Cc,ai,Ss,zx,lM,hmn,<- Sr,hwN,hM,hlm];refine hFo _ (bV.refl _ _) _ (fun m2 AZ AW=>?_) (fun m2 hK=>?_)
   ·have q1:Qh m2.boxes B0=[I row.id,I row.ki,I row.fr,I row.sp,I row.ra]:=by rw[AZ.2 B0 (.inl C5)];exact Ss
    have CN:=AZ.1;simp[fQ];refine⟨aQ,⟨zE,zE,zE,q1,_,.inl C5,AW⟩,zE⟩
   simp[M6];exact hK _ (bV.refl _ _)
  rw[if_neg zx]at Sr;simp[h8,Cc,ai,Ss,zx,lM,<- Sr,hwN,hM,hlm];refine hFo _ (bV.refl _ _) _ (fun m2 AZ AW=>?_) (fun m2 hK=>?_)
  ·have q1:Qh m2.boxes B0=[I row.id,I row.ki,I row.fr,I row.sp,I row.ra]:=by rw[AZ.2 B0 (.inl C5)];exact Ss
   have CN:=AZ.1;simp[fQ];refine⟨aQ,⟨zE,zE,zE,q1,_,.inl C5,AW⟩,zE⟩
  simp[M6];exact hK _ (bV.refl _ _)
 rw[Vo,if_neg ai]at hFo;simp only[zzcs]at hFo;simp[h8,Cc,ai,M6];exact hFo _ (bV.refl _ _)
open Go Go.Abs
def F9(Y:YT)(p:Pl)(e:En)(a r fr:Int)(m:AM)(bp bf be:Nat)(hc:p.cls.length<=1000000)(fA:p.sh.length<=1000000000)(cM:p.aM.length<=1000000000)
  (h1:Qh m.boxes bp=Qa p)(h2:Qh m.boxes bf=[I fr])(h3:Qh m.boxes be=Qd e)(K:So)(hK:K (.bool (Xd p a r fr e.fr)) m):
  aB Tryz.prog aD Y 178 [I a,I r,.ptr bp 0,.ptr bf 0,.ptr be 0] m K:=by
 have k:=Qbh p a r fr e.fr hc fA cM;refine Xn acU (fun _ f _=>if f=18 then .bool (Xd p a r fr e.fr)else .junk) zd ?_;simp only[Qa]at h1;simp only[Qd]at h3;simp[ahn,aho,h1,h2,h3];exact⟨k,hK⟩
def XV(Y:YT)(p:Pl)(e:En)(r fr:Int)(m:AM)(bp bf be bg:Nat)(hc:p.cls.length<=1000000)(fA:p.sh.length<=1000000000)(cM:p.aM.length<=1000000000)
  (h1:Qh m.boxes bp=Qa p)(h2:Qh m.boxes bf=[I fr])(h3:Qh m.boxes be=Qd e)(h4:Qh m.boxes bg=[.fn 178 [] [.ptr bp 0,.ptr bf 0,.ptr be 0]])(K:So)(hK:K (.bool (Xd p e.it r fr e.fr)) m):
  aB Tryz.prog aD Y 179 [I r,.ptr bg 0,.ptr be 0] m K:=by
 have k:=F9 Y p e e.it r fr m bp bf be hc fA cM h1 h2 h3;refine Xn acV (fun _ _ _=>.gd false .junk) zd ?_;simp only[Qd]at h3;simp[ahp,h4,h3];refine k _ ?_;simp[ahq];exact hK
open Go Go.Abs
def R3(x:Int)(c:Cl):Bool:=decide (c.fr<=x/\x<c.to)
def grX(C:List Cl)(x:Int):Bool:=match C.reverse.find? (R3 x)with
 |some c=>decide (c.ki=1)
 |none=>false
def find_congr{α:Type}{p q:α->Bool}:∀{l:List α},(∀a∈l,p a=q a)->l.find? p=l.find? q
 |[],_=>rfl
 |a::l,h=>by
  have h1:=h a zd;have ih:=find_congr (l:=l) fun b hb=>h b (by simp[hb]);rw[zzec,zzec,h1,ih]
def Zu{x:Int}:∀{l:Pi}{j:Nat}{v:Int},l.Pairwise (·<·)->l[j]?=some v->(j<qX l x<->v<x)
 |[],j,v,_,h=>by simp at h
 |a::r,j,v,hp,h=>by
  obtain⟨h1,h2⟩:=zzby.1 hp
  have e:qX (a::r) x=qX r x+if a<x then 1 else 0:=by
   unfold qX;rw[zzea];by_cases ha:a<x<;>simp[ha]
  have hz:¬a<x->qX r x=0:=by
   intro ha;unfold qX;rw[zzc,zzgy];intro y hy;have:=h1 y hy;simp;omega
  rw[e];cases j with
  |zero=>
   simp at h;subst h;by_cases ha:a<x
   ·simp[ha]
   simp[ha,hz ha]
  |succ j=>
   simp at h;have hav:=h1 v (zzad h);have ih:=Zu (x:=x) h2 h;by_cases ha:a<x
   ·simp only[ha,if_true];omega
   have:=hz ha;simp only[ha,if_false];omega
def HS(Bd:Pi)(j:Nat)(c:Cl):Bool:=decide (qX Bd c.fr<=j/\j<qX Bd c.to)
def HT(Bd:Pi)(j:Nat):∀(R:List Cl)(s:GS),(R.foldl (P8 Bd) s)[j]?=(s[j]?).map fun o=>match o with
  |some v=>some v
  |none=>(R.find? (HS Bd j)).map fun c=>decide (c.ki=1)
 |[],s=>by
  cases h:s[j]? with
  |none=>simp[h]
  |some o=>cases o<;>simp[h]
 |c::R,s=>by
  rw[zzcx,HT Bd j R,P8,Ux,zzec];cases h:s[j]? with
  |none=>simp
  |some o=>
   cases o with
   |some v=>simp
   |none=>
    by_cases hc:qX Bd c.fr<=j/\j<qX Bd c.to
    ·simp[HS,hc]
    simp[HS,hc]
def HU(Bd:Pi)(s:GS)(x:Int):∀n,Xu (nG Bd s n) x<->∃j,j<n/\s[j]?=some (some true)/\Bd.getD j 0<=x/\x<Bd.getD (j+1) 0
 |0=>by simp[nG]
 |n+1=>by
  rw[qZ,Yq,HU Bd s x n];unfold C1;constructor
  ·rintro(⟨j,h1,h2⟩|h)
   ·exact⟨j,zE,h2⟩
   split at h
   ·rename_i hs;rw[Xh]at h;obtain h|h:=h
    ·exact⟨n,zE,hs,h⟩
    simp at h
   simp at h
  rintro⟨j,h1,h2,h3⟩;rcases zzaa j n with h|h
  ·exact .inl ⟨j,h,h2,h3⟩
  obtain rfl:j=n:=zE
  right;rw[if_pos h2,Xh];exact .inl h3
def uX{l:Pi}{j:Nat}{v:Int}(h:l[j]?=some v):l.getD j 0=v:=by
 simp[zzax,h]
def auu(C:List Cl)(hC:∀c∈C,c.fr<c.to)(x:Int):Xu (nG (dG C) (wP C) (dG C).length) x<->grX C x=true:=by
 have nK:=NW C;have dz:∀c∈C,c.fr∈dG C/\c.to∈dG C:=fun c hc=>⟨(uz _ _).2 (pF hc).1,(uz _ _).2 (pF hc).2⟩
 have FZ:∀j,j<(dG C).length->(wP C)[j]?=some ((C.reverse.find? (HS (dG C) j)).map fun c=>decide (c.ki=1)):=by
  intro j hj;rw[wP,HT];have:(List.replicate (dG C).length (none:Option Bool))[j]?=some none:=by simp[hj]
  rw[this];rfl
 have key:∀(j:Nat)(u w:Int),(dG C)[j]?=some u->(dG C)[j+1]?=some w->u<=x->x<w->∀c∈C.reverse,HS (dG C) j c=R3 x c:=by
  intro j u w hu hw h1 h2 c hc;have uh:=zzfj.1 hc;have a1:=Zu (x:=c.fr) nK hu;have a2:=Zu (x:=c.fr) nK hw;have a3:=Zu (x:=c.to) nK hu;have a4:=Zu (x:=c.to) nK hw;obtain⟨m1,m2⟩:=dz c uh
  have gap:∀y∈dG C,y<=u\/w<=y:=by
   intro y hy;obtain⟨k,hk⟩:=zzfr hy;rcases zzaa j k with h|h
   ·right;have q1:=Zu (x:=w) nK hk;have q2:=Zu (x:=w) nK hw;omega
   left;have q1:=Zu (x:=y) nK hk;have q2:=Zu (x:=y) nK hu;omega
  have g1:=gap _ m1;have g2:=gap _ m2;unfold HS R3;apply decide_eq_decide.2;omega
 have aaX:∀(j:Nat)(u w:Int),(dG C)[j]?=some u->(dG C)[j+1]?=some w->u<=x->x<w->((wP C)[j]?=some (some true)<->grX C x=true):=by
  intro j u w hu hw h1 h2;rw[FZ j (zza.1 hu).1,find_congr (key j u w hu hw h1 h2),grX];cases C.reverse.find? (R3 x)<;>simp
 rw[HU];constructor
 ·rintro⟨j,hj,hs,h1,h2⟩;have dK:=hs;rw[FZ j hj]at hs;cases hf:C.reverse.find? (HS (dG C) j)with
  |none=>rw[hf]at hs;simp at hs
  |some c=>
   have hc:=zzfj.1 (zzds hf);have hi:=zzfq hf;simp only[HS,decide_eq_true_eq]at hi;have hl:=KH (dz c hc).2;have dW:j+1<(dG C).length:=zE
   obtain⟨u,hu⟩:∃u,(dG C)[j]?=some u:=⟨_,zzaf hj⟩;obtain⟨w,hw⟩:∃w,(dG C)[j+1]?=some w:=⟨_,zzaf dW⟩;rw[uX hu]at h1;rw[uX hw]at h2;exact(aaX j u w hu hw h1 h2).1 dK
 intro hg;have hg':=hg;rw[grX]at hg;cases hf:C.reverse.find? (R3 x)with
 |none=>rw[hf]at hg;simp at hg
 |some c=>
  have hc:=zzfj.1 (zzds hf);have hi:=zzfq hf;simp only[R3,decide_eq_true_eq]at hi;obtain⟨m1,m2⟩:=dz c hc;obtain⟨k1,dA⟩:=zzfr m1;obtain⟨k2,ef⟩:=zzfr m2;have a1:=(Zu (x:=x+1) nK dA).2 zE;have a2:=Zu (x:=x+1) nK ef;have l2:=(zza.1 ef).1;obtain⟨j,hj⟩:∃j,qX (dG C) (x+1)=j+1:=⟨qX (dG C) (x+1)-1,zE⟩;have dW:j+1<(dG C).length:=zE
  obtain⟨u,hu⟩:∃u,(dG C)[j]?=some u:=⟨_,zzaf zE⟩;obtain⟨w,hw⟩:∃w,(dG C)[j+1]?=some w:=⟨_,zzaf dW⟩;have b1:=Zu (x:=x+1) nK hu;have b2:=Zu (x:=x+1) nK hw;exact⟨j,zE,(aaX j u w hu hw zE zE).2 hg',by rw[uX hu];omega,by rw[uX hw];omega⟩
def age{cs:List Cl}{item region:Int}:∀c∈Wq cs item region,c.fr<c.to:=by
 intro c hc;simp only[Wq,zzbw,FN,Zc,Gq,zzac,decide_eq_true_eq]at hc;obtain⟨_,h1,_,_,h2⟩:=hc;rw[if_pos h1]at h2;simp at h2;omega
def Mg(cs:List Cl)(item region x:Int):Xu (Qcs cs item region) x<->grX (Wq cs item region) x=true:=by
 rw[Qcs,(Zw _).2,auu _ age]
def NE(L:List Sp):Prop:=∀s∈L,s.1<s.2
def agf{L:List Sp}{f t:Int}(h:NE L):NE (nI L f t)/\∀x,Xu (nI L f t) x<->Xu L x\/(f<=x/\x<t):=by
 unfold nI;split
 ·rename_i IA;cases hl:L.getLast? with
  |none=>
   have:L=[]:=by simpa using hl
   subst this;refine⟨by intro s hs;simp at hs;subst hs;exact IA,fun x=>zd⟩
  |some s=>
   obtain⟨D,rfl⟩:∃D,L=D++[s]:=by
    have aO:L≠[]:=by rintro rfl;simp at hl
    refine⟨L.dropLast,?_⟩;have h1:=zzev aO;rw[List.getLast?_eq_some_getLast aO]at hl;cases hl;exact h1.symm
   have hs:=h s zd;simp only;split
   ·rename_i e;simp only[zzfs];refine⟨?_,fun x=>?_⟩
    ·intro u hu;rw[zzam]at hu;obtain hu|hu:=hu
     ·exact h u (by simp[hu])
     simp at hu;subst hu;simp only;omega
    simp only[Yq,Xh,Yp,or_false,or_assoc];constructor
    ·rintro(h|h)
     ·exact .inl h
     by_cases x<s.2
     ·exact .inr (.inl zE)
     exact .inr (.inr zE)
    rintro(h|h|h)
    ·exact .inl h
    ·exact .inr zE
    exact .inr zE
   refine⟨?_,fun x=>by simp[or_assoc]⟩;intro u hu;rw[zzam]at hu;obtain hu|hu:=hu
   ·exact h u hu
   simp at hu;subst hu;exact IA
 refine⟨h,fun x=>?_⟩;constructor
 ·exact .inl
 rintro(h|h)
 ·exact h
 omega
def inW(W:List Sp)(n:Int):Prop:=∃w∈W,w.1<=n/\n<w.2
def OR(sf st mid:Int):∀{W L:List Sp},NE L->NE (pH sf st mid W L)/\∀x,Xu (pH sf st mid W L) x<->Xu L x\/(sf<=x/\x<st/\inW W (x-mid))
 |[],L,h=>⟨h,fun x=>by simp[pH,inW]⟩
 |w::W,L,h=>by
  obtain⟨a1,a2⟩:=agf (f:=max sf (mid+w.1)) (t:=min st (mid+w.2)) h;obtain⟨b1,b2⟩:=OR sf st mid (W:=W) a1;refine⟨b1,fun x=>?_⟩;rw[pH,b2,a2];simp only[inW,zzap,exists_eq_or_imp];constructor
  ·rintro((h|h)|⟨h1,h2,h3⟩)
   ·exact .inl h
   ·exact .inr ⟨zE,zE,.inl zE⟩
   exact .inr ⟨h1,h2,.inr h3⟩
  rintro(h|⟨h1,h2,h3|h3⟩)
  ·exact .inl (.inl h)
  ·exact .inl (.inr zE)
  exact .inr ⟨h1,h2,h3⟩
def agh(W:List Sp):Prop:=∀w∈W,0<=w.1/\w.2<=86400
def agi{W:List Sp}(hW:agh W)(sf st o:Int):∀(n:Nat)(d:Int){L:List Sp},(st-(d*86400-o)).toNat<=n->NE L->NE (nJ W sf st (d*86400-o) L)/\
  ∀x,Xu (nJ W sf st (d*86400-o) L) x<->Xu L x\/(sf<=x/\x<st/\d<=(x+o)/86400/\inW W ((x+o)%86400)):=by
 intro n;induction n with
 |zero=>
  intro d L h hL;rw[nJ,if_neg zE];refine⟨hL,fun x=>⟨.inl,?_⟩⟩;rintro(h|⟨h1,h2,h3,h4⟩)
  ·exact h
  omega
 |succ n ih=>
  intro d L h hL;rw[nJ];split
  ·rename_i hm;obtain⟨a1,a2⟩:=OR sf st (d*86400-o) (W:=W) hL;have e:d*86400-o+86400=(d+1)*86400-o:=zE
   rw[e];obtain⟨b1,b2⟩:=ih (d+1) zE a1;refine⟨b1,fun x=>?_⟩;rw[b2,a2];constructor
   ·rintro((h|⟨h1,h2,w,hw,h3,h4⟩)|⟨h1,h2,h3,h4⟩)
    ·exact .inl h
    ·have:=hW w hw;have hd:(x+o)/86400=d:=zE
     exact .inr ⟨h1,h2,zE,w,hw,zE,zE⟩
    exact .inr ⟨h1,h2,zE,h4⟩
   rintro(h|⟨h1,h2,h3,h4⟩)
   ·exact .inl (.inl h)
   by_cases hd:(x+o)/86400=d
   ·obtain⟨w,hw,h5,h6⟩:=h4;exact .inl (.inr ⟨h1,h2,w,hw,zE,zE⟩)
   exact .inr ⟨h1,h2,zE,h4⟩
  rename_i hm;refine⟨hL,fun x=>⟨.inl,?_⟩⟩;rintro(h|⟨h1,h2,h3,h4⟩)
  ·exact h
  omega
def anL{s:Sp}{W:List Sp}(hW:agh W)(y:Int×Int×Int){L:List Sp}(hL:NE L):NE (stL s W y L)/\
  ∀x,Xu (stL s W y L) x<->Xu L x\/(y.1<=x/\x<y.2.1/\s.1<=x/\x<s.2/\inW W ((x+y.2.2)%86400)):=by
 unfold stL;split
 ·refine⟨hL,fun x=>⟨.inl,?_⟩⟩;rintro(h|⟨h1,h2,h3,h4,_⟩)
  ·exact h
  omega
 obtain⟨a1,a2⟩:=agi hW (max y.1 s.1) (min y.2.1 s.2) y.2.2 _ ((max y.1 s.1+y.2.2)/86400) (zzab _) hL;refine⟨a1,fun x=>?_⟩;rw[a2];constructor
 ·rintro(h|⟨h1,h2,h3,h4⟩)
  ·exact .inl h
  exact .inr ⟨zE,zE,zE,zE,h4⟩
 rintro(h|⟨h1,h2,h3,h4,h5⟩)
 ·exact .inl h
 exact .inr ⟨zE,zE,zE,h5⟩
def OS{s:Sp}{W:List Sp}(hW:agh W):∀{xs:List (Int×Int×Int)}{L:List Sp},xs.Pairwise (fun a b=>a.1<=b.1)->NE L->∀x,Xu (tO s W xs L) x<->Xu L x\/(s.1<=x/\x<s.2/\∃y∈xs,y.1<=x/\x<y.2.1/\inW W ((x+y.2.2)%86400))
 |[],L,_,hL,x=>by simp[tO]
 |y::r,L,hp,hL,x=>by
  obtain⟨p1,p2⟩:=zzby.1 hp;rw[tO];split
  ·rename_i hb;constructor
   ·exact .inl
   rintro(h|⟨h1,h2,z,hz,h3,h4,_⟩)
   ·exact h
   rcases zzap.1 hz with rfl|hz
   ·omega
   have:=p1 z hz;omega
  obtain⟨a1,a2⟩:=anL (s:=s) hW y hL;rw[OS hW p2 a1,a2];simp only[zzap,exists_eq_or_imp];constructor
  ·rintro((h|⟨h1,h2,h3,h4,h5⟩)|⟨h1,h2,h3⟩)
   ·exact .inl h
   ·exact .inr ⟨h3,h4,.inl ⟨h1,h2,h5⟩⟩
   exact .inr ⟨h1,h2,.inr h3⟩
  rintro(h|⟨h1,h2,⟨h3,h4,h5⟩|h3⟩)
  ·exact .inl (.inl h)
  ·exact .inl (.inr ⟨h3,h4,h1,h2,h5⟩)
  exact .inr ⟨h1,h2,h3⟩
def yQ(of:Int)(sh:List Sp)(x:Int):Int:=sh.foldl (fun n s=>if s.1<=x then s.2 else n) of
def HV:∀{sh:List Sp}{last:Int},tP last sh=true->sh.Pairwise (fun a b=>a.1<b.1)/\∀s∈sh,last<s.1/\s.1<=10000000000/\gO s.2=true
 |[],_,_=>⟨.nil,fun _ h=>by cases h⟩
 |a::r,last,h=>by
  rw[tP]at h;split at h
  ·cases h
  rename_i hn;simp only[not_or,zzgj]at hn;obtain⟨h1,h2⟩:=HV h;refine⟨zzby.2 ⟨fun b hb=>(h2 b hb).1,h1⟩,?_⟩;intro s hs;rcases zzap.1 hs with rfl|hs
  ·exact⟨zE,zE,hn.2.2⟩
  have:=h2 s hs;exact⟨zE,this.2⟩
def BK{x:Int}:∀{sh:List Sp}(o:Int),(∀s∈sh,x<s.1)->yQ o sh x=o
 |[],o,_=>rfl
 |a::r,o,h=>by
  have:=h a zd;rw[yQ,zzcx,if_neg zE];exact BK o fun s hs=>h s (by simp[hs])
def HW{P:Int->Prop}:∀{sh:List Sp}{f o:Int},(∀s∈sh,f<=s.1/\s.1<=10000000000)->sh.Pairwise (fun a b=>a.1<b.1)->f<=10000000000->∀x,(∃y∈uA f o sh,y.1<=x/\x<y.2.1/\P y.2.2)<->f<=x/\x<=10000000000/\P (yQ o sh x)
 |[],f,o,_,_,hf,x=>by
  simp only[uA,zzca,exists_eq_left,yQ,List.foldl_nil];constructor
  ·rintro⟨h1,h2,h3⟩;exact⟨h1,zE,h3⟩
  rintro⟨h1,h2,h3⟩;exact⟨h1,zE,h3⟩
 |s::r,f,o,hb,hp,hf,x=>by
  obtain⟨p1,p2⟩:=zzby.1 hp;have hs:=hb s zd;have ih:=HW (P:=P) (o:=s.2) (f:=s.1) (sh:=r) (fun t ht=>⟨by have:=p1 t ht;omega,(hb t (by simp[ht])).2⟩) p2 hs.2 x
  have e:(∃y∈uA f o (s::r),y.1<=x/\x<y.2.1/\P y.2.2)<->(f<=x/\x<s.1/\P o)\/∃y∈uA s.1 s.2 r,y.1<=x/\x<y.2.1/\P y.2.2:=by
   rw[uA];simp only[zzam,or_and_right,exists_or];refine or_congr ?_ Iff.rfl;split
   ·simp
   simp;intro h1 h2;omega
  have eo:yQ o (s::r) x=yQ (if s.1<=x then s.2 else o) r x:=rfl;rw[e,ih,eo];by_cases hx:s.1<=x
  ·rw[if_pos hx];constructor
   ·rintro(⟨h1,h2,h3⟩|⟨h1,h2,h3⟩)
    ·omega
    exact⟨zE,h2,h3⟩
   rintro⟨h1,h2,h3⟩;exact .inr ⟨hx,h2,h3⟩
  rw[if_neg hx];have hn:=BK (x:=x) (sh:=r) o fun t ht=>by have:=p1 t ht;omega
  rw[hn];constructor
  ·rintro(⟨h1,h2,h3⟩|⟨h1,h2,h3⟩)
   ·exact⟨h1,zE,h3⟩
   omega
  rintro⟨h1,h2,h3⟩;exact .inl ⟨h1,zE,h3⟩
def HX:∀{sh:List Sp}{f o:Int},(∀s∈sh,f<=s.1)->sh.Pairwise (fun a b=>a.1<b.1)->(uA f o sh).Pairwise (fun a b=>a.1<=b.1)/\∀y∈uA f o sh,f<=y.1
 |[],f,o,_,_=>by simp[uA]
 |s::r,f,o,hb,hp=>by
  obtain⟨p1,p2⟩:=zzby.1 hp;have hs:=hb s zd;obtain⟨i1,i2⟩:=HX (f:=s.1) (o:=s.2) (sh:=r) (fun t ht=>by have:=p1 t ht;omega) p2;rw[uA];refine⟨?_,?_⟩
  ·rw[List.pairwise_append];refine⟨by split<;>simp,i1,?_⟩;intro a ha b cL;have:=i2 b cL;split at ha
   ·simp at ha;subst ha;simp only;omega
   simp at ha
  intro y hy;rw[zzam]at hy;obtain hy|hy:=hy
  ·split at hy
   ·simp at hy;subst hy;exact zzbt _
   simp at hy
  have:=i2 y hy;omega
def OT(of:Int)(sh:List Sp)(x fr to:Int):Prop:=0<=x/\x<=10000000000/\inW (zG fr to) ((x+yQ of sh x)%86400)
def aaY{of:Int}{sh:List Sp}{s:Sp}{fr to:Int}(h:w8 of sh s fr to=true)(x:Int):Xu (ig of sh s fr to) x<->s.1<=x/\x<s.2/\OT of sh x fr to:=by
 rw[ig,if_pos h];simp only[w8,Yh,zI,zzac,decide_eq_true_eq]at h;obtain⟨⟨⟨⟨⟨_,_⟩,ha⟩,h1⟩,h2⟩,_⟩:=h;obtain⟨a1,a2⟩:=HV ha;have hW:agh (zG fr to):=fun w hw=>by have:=(uC h1 h2).2 w hw;omega
 rw[OS hW (HX (fun t ht=>by have:=a2 t ht;omega) a1).1 (fun _ h=>by cases h)];rw[HW (P:=fun o=>inW (zG fr to) ((x+o)%86400)) (fun t ht=>by have:=a2 t ht;omega) a1 zE];simp only[Yp,false_or,OT]
open Go Go.Abs
def OV(p:Pl)(it:It)(region x:Int):Prop:=it.ki=5\/(Kk p=true/\grX (Wq p.cls it.id region) (p.ep+Ym p.nu p.de x)=true/\∀w∈uD p.cls it.ra,OT p.of p.sh (p.ep+Ym p.nu p.de x) w.1 w.2)
def KZ(p:Pl)(id region x:Int):Prop:=∃it,Xj id p.aM=some it/\(0<=region/\region<8)/\(0<=x/\x<=100000000)/\OV p it region x
def HY:∀(Xs:List (List Sp))(a:List Sp)(y:Int),Xu (Xs.foldl zK a) y<->Xu a y/\∀l∈Xs,Xu l y
 |[],a,y=>zd
 |l::Xs,a,y=>by
  rw[zzcx,HY Xs,(kN a l).2];simp only[zzap,forall_eq_or_imp,and_assoc]
def D2{nu de s f:Int}(hv:Vd nu de=true)(hs:0<=s/\s<=10000000000)(hf:0<=f/\f<=100000000):xk nu de s<=f<->s<=Ym nu de f:=by
 obtain⟨b1,b2,b3,b4,b5⟩:=Ju hv;rw[xk,if_pos ⟨hv,hs.1,hs.2⟩,Ym,if_pos ⟨hv,hf.1,hf.2⟩];have q0:0<=s*nu:=zzef hs.1 zE;have q1:0<=f*de:=zzef hf.1 zE;rw[zzcl zE,zzcl q1]
 have e1:(s*nu+de-1)/de<=f<->s*nu<=f*de:=by
  rw[<- Int.lt_add_one_iff,Int.ediv_lt_iff_lt_mul zE];have:(f+1)*de=f*de+de:=by rw[Int.add_mul];omega
  omega
 rw[e1,Int.le_ediv_iff_mul_le zE]
def Mh{p:Pl}{U:List Sp}(hv:Vd p.nu p.de=true)(hU:∀w∈U,(0<=w.1-p.ep/\w.1-p.ep<=10000000000)/\(0<=w.2-p.ep/\w.2-p.ep<=10000000000)){f:Int}(hf:0<=f/\f<=100000000):
  Xu (U.map (uE p)) f<->Xu U (p.ep+Ym p.nu p.de f):=by
 unfold Xu;simp only[zzar];constructor
 ·rintro⟨_,⟨w,hw,rfl⟩,h1,h2⟩;obtain⟨u1,u2⟩:=hU w hw;have a1:=D2 hv u1 hf;have a2:=D2 hv u2 hf;simp only[uE]at h1 h2;exact⟨w,hw,zE,zE⟩
 rintro⟨w,hw,h1,h2⟩;obtain⟨u1,u2⟩:=hU w hw;have a1:=D2 hv u1 hf;have a2:=D2 hv u2 hf;exact⟨_,⟨w,hw,rfl⟩,by simp only[uE];omega,by simp only[uE];omega⟩
def aaZ{cs:List Cl}{ra:Int}:∀w∈uD cs ra,zI w.1=true/\zI w.2=true:=by
 intro w hw;simp only[uD,zzar,zzbw,HZ,zzac,decide_eq_true_eq,Zc]at hw;obtain⟨c,⟨_,h1,_,_,h2⟩,rfl⟩:=hw;rw[Gq]at h2;simp only[h1]at h2;simp[Ku,wi]at h2;simp only[zI,decide_eq_true_eq];omega
def agj(s:Sp):0<=(QC s).1/\(QC s).2<=100000001/\∀x,((QC s).1<=x/\x<(QC s).2)<->(s.1<=x/\x<s.2/\0<=x/\x<=100000000):=by
 simp only[QC];refine⟨zE,zE,fun x=>?_⟩;omega
def kS(p:Pl)(id region:Int)(s:Sp)(hs:s.2-s.1<=1000000)(x:Int):Xu (Vt p id region s) x<->s.1<=x/\x<s.2/\KZ p id region x:=by
 obtain⟨c0,c1,cx⟩:=agj s;have cl:(QC s).2-(QC s).1<=1000000:=by simp only[QC];omega
 unfold Vt KZ;generalize QC s=c at*
 cases hf:Xj id p.aM with
 |none=>simp
 |some it=>
  simp only[Option.some.injEq,exists_eq_left'];split
  ·rename_i hb;simp only[Yp,false_iff];rintro⟨h1,h2,h3,h4,_⟩;have:=(cx x).2 ⟨h1,h2,h4⟩;omega
  rename_i hb;simp only[not_or]at hb;split
  ·rename_i hk;simp only[Xh,Yp,or_false,OV,hk,true_or,and_true];rw[cx x];constructor
   ·rintro⟨h1,h2,h3,h4⟩;exact⟨h1,h2,zE,h3,h4⟩
   rintro⟨h1,h2,h3,h4⟩;exact⟨h1,h2,h4⟩
  rename_i hk;split
  ·rename_i ht;simp[OV,hk,ht]
  rename_i ht;have XU:Kk p=true:=by simpa using ht
  have hte:Vd p.nu p.de=true/\Yh p.of p.sh=true/\0<=p.ep/\p.ep<=9000000000:=by
   simp only[Kk,zzac,decide_eq_true_eq]at XU;exact⟨XU.1.1,XU.1.2,XU.2⟩
  obtain⟨hv,hz,he⟩:=hte;rw[(kN _ _).2];obtain⟨u,hu⟩:∃u,uS p c=u:=⟨_,rfl⟩;have hu1:u.1=p.ep+Ym p.nu p.de c.1:=by rw[<- hu];rfl
  have JL:u.2=p.ep+Ym p.nu p.de (c.2-1)+1:=by rw[<- hu];rfl
  rw[hu];have hd:=kP (f:=c.1) (g:=c.2-1) hv zE zE zE;have hs1:=pJ p.nu p.de c.1;have PV:=pJ p.nu p.de (c.2-1)
  have Nv:0<=Ym p.nu p.de c.1:=by
   rw[Ym,if_pos ⟨hv,zE,zE⟩];exact Int.tdiv_nonneg (zzef zE (by have:=Ju hv;omega)) (by have:=Ju hv;omega)
  have cW:ij p it region u (lP p it region u).length=(lP p it region u).foldl zK [u]:=by simp[ij]
  have bO:Sv u.1 u.2 (ij p it region u (lP p it region u).length):=by
   rw[cW];exact Da _ _ (by intro w hw;simp at hw;subst hw;omega)
  by_cases hx:c.1<=x/\x<c.2
  ·have iy:=(cx x).1 hx;have m1:=kP (f:=c.1) (g:=x) hv zE zE zE;have m2:=kP (f:=x) (g:=c.2-1) hv zE zE zE;rw[Mh hv (fun w hw=>by have:=bO w hw;omega) ⟨zE,zE⟩,cW,HY];simp only[Xh,Yp,or_false,OV,hk,false_or,XU,true_and]
   have hl:(∀l∈lP p it region u,Xu l (p.ep+Ym p.nu p.de x))<->(grX (Wq p.cls it.id region) (p.ep+Ym p.nu p.de x)=true/\∀w∈uD p.cls it.ra,OT p.of p.sh (p.ep+Ym p.nu p.de x) w.1 w.2):=by
    unfold lP;simp only[zzap,forall_eq_or_imp,zzar,forall_exists_index,and_imp,forall_apply_eq_imp_iff₂];rw[Mg];refine and_congr Iff.rfl (forall_congr' fun w=>forall_congr' fun hw=>?_);obtain⟨d1,d2⟩:=aaZ w hw;rw[aaY (by simp only[w8,hz,d1,d2,zzgg,zzdk,decide_eq_true_eq];omega)];constructor
    ·rintro⟨_,_,h⟩;exact h
    intro h;exact⟨zE,zE,h⟩
   rw[hl];constructor
   ·rintro⟨⟨_,h⟩,_⟩;exact⟨iy.1,iy.2.1,zE,iy.2.2,h⟩
   rintro⟨_,_,_,_,h⟩;exact⟨⟨zE,h⟩,hx⟩
  simp only[Xh,Yp,or_false];constructor
  ·rintro⟨_,h⟩;exact absurd h hx
  rintro⟨h1,h2,_,h4,_⟩;exact absurd ((cx x).2 ⟨h1,h2,h4⟩) hx
def Jt(p:Pl)(id region f n:Int):Xd p id region f n=true<->(1<=n/\n<=1000000/\0<=f/\f+n-1<=100000000)/\∀x,f<=x->x<f+n->KZ p id region x:=by
 unfold Xd;split
 ·rename_i hb;simp only[zzbh,false_iff];rintro⟨⟨h1,h2,h3,h4⟩,_⟩;obtain h|h|h|h:=hb
  ·omega
  ·omega
  ·simp[frB]at h;omega
  simp[frB]at h;omega
 rename_i hb;simp only[not_or,zzgj,frB,decide_eq_true_eq]at hb;obtain⟨b1,b2,b3,b4⟩:=hb;rw[List.isEmpty_iff,Mi (by simp only;omega)];constructor
 ·intro h;refine⟨zE,fun x h1 h2=>?_⟩;exact((kS p id region (f,f+n) (by simp only;omega) x).1 (h x h1 h2)).2.2
 rintro⟨_,h⟩ x h1 h2;exact(kS p id region (f,f+n) (by simp only;omega) x).2 ⟨h1,h2,h x h1 h2⟩
def LY{p:Pl}{id region f n g m:Int}(h:Xd p id region f n=true)(h1:f<=g)(h2:g+m<=f+n)(h3:1<=m):Xd p id region g m=true:=by
 rw[Jt]at*
 obtain⟨⟨a1,a2,a3,a4⟩,a5⟩:=h;exact⟨zE,fun x h1 h2=>a5 x zE zE⟩
