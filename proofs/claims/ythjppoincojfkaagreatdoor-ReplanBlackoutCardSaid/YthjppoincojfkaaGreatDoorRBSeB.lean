import Derived.Test.YthjppoincojfkaaGreatDoorRBML
set_option linter.all false
set_option maxRecDepth 100000
set_option maxHeartbeats 64000000
namespace Go.Proofs.YthjppoincojfkaaGreatDoor
open Go Go.Abs
def aaE{lo hi:Int}{a b:List Sp}(h:Sl lo hi b):Sl lo hi (zM a b):=by
 obtain⟨⟨h1,_⟩,h2⟩:=kR a b;intro w hw;have ai:=h1 w hw;obtain⟨s,hs,s1,s2⟩:=((h2 w.1).1 ⟨w,hw,zE,ai⟩).2;obtain⟨t,ht,t1,t2⟩:=((h2 (w.2-1)).1 ⟨w,hw,zE,zE⟩).2;have:=h s hs;have:=h t ht;omega
def Qcy(p:Pl)(id region:Int)(s:Sp):(Vt p id region s).length<=1000000:=by
 unfold Vt;simp only;generalize QE s=c;cases Xg id p.aM with
 |none=>simp
 |some x=>
  simp only;split
  ·simp
  rename_i hb;simp only[not_or]at hb;split
  ·simp
  split
  ·simp
  have bP:Sl c.1 c.2 [c]:=by intro w hw;simp at hw;subst hw;omega
  have:=KE _ c.1 c.2 (kR ((iu p x region (uS p c) (lN p x region (uS p c)).length).map (uG p)) [c]).1 (fun w hw=>by have:=aaE bP w hw;omega);omega
def frB(f:Int):Bool:=decide (0<=f/\f<=100000000)
def Xk(p:Pl)(id region f n:Int):Bool:=
 if n<1\/1000000<n\/frB f=false\/frB (f+n-1)=false then false else(Dc [(f,f+n)] (Vt p id region (f,f+n))).isEmpty
def BE(p:Pl)(id region f n:Int):UV:=fun d g l=>
 if g=38 then(match l with|[.int _ n]=>.bool (frB n)|_=>.junk)else
 if g=40 then .sl .ro ((Vt p id region (f,f+n)).map Qf)else
 if g=39 then .bool (Dc [(f,f+n)] (Vt p id region (f,f+n))).isEmpty else .junk
def Qeq(p:Pl)(id region f n:Int)(hc:p.cls.length<=1000000)(fu:p.sh.length<=1000000000)(cT:p.aM.length<=1000000000):
  Pure Tryz.prog aD 18 [.agg (Qa p),I id,I region,I f,I n] (.bool (Xk p id region f n)):=by
 have k34:=tg f;have afL:=tg (f+n-1);refine Qp ajp (BE p id region f n) zd ?_;by_cases b1:n<1
 ·simp[OX,Qa,BE,OY,b1,Xk]
 by_cases b2:1000000<n
 ·simp[OX,Qa,BE,OY,b1,b2,Xk]
 by_cases b3:frB f=true
 ·have b3':0<=f/\f<=100000000:=by simpa[frB]using b3
  have dU:IntKind.i64.wrap (f+n)=f+n:=by rw[Ql]<;>omega
  have fE:IntKind.i64.wrap (f+n-1)=f+n-1:=by rw[Ql]<;>omega
  rw[show decide (0<=f/\f<=100000000)=true from b3]at k34;by_cases b4:frB (f+n-1)=true
  ·rw[show decide (0<=f+n-1/\f+n-1<=100000000)=true from b4]at afL;have k36:=nJ p id region (f,f+n) hc fu cT (by simp only;omega) (by simp only;omega);have k35:=HH (Vt p id region (f,f+n)) (f,f+n) (by have:=Qcy p id region (f,f+n);omega);simp[OX,Qa,BE,OY,b1,b2,b3,b4,dU,fE,Xk];exact⟨k34,afL,k36,k35⟩
  have b4':frB (f+n-1)=false:=by simpa using b4
  rw[show decide (0<=f+n-1/\f+n-1<=100000000)=false from b4']at afL;simp[OX,Qa,BE,OY,b1,b2,b3,b4',dU,fE,Xk];exact⟨k34,afL⟩
 have b3':frB f=false:=by simpa using b3
 rw[show decide (0<=f/\f<=100000000)=false from b3']at k34;simp[OX,Qa,BE,OY,b1,b2,b3',Xk];exact k34
open Go Go.Abs
def Za(id:Int):List En->Option En
 |[]=>none
 |x::r=>if x.id=id then some x else Za id r
def Wx:Option En->AV
 |some x=>.aS [.agg (Qd x),.bool true]
 |none=>.aS [.agg [I 0,I 0,I 0,I 0,I 0,I 0,.sl .nil []],.bool false]
def nU(e:En):Pure Tryz.prog aD 63 [.agg (Qd e)] (I e.id):=by
 refine Qp aj3 (fun _ _ _=>.junk) zd ?_;simp[aoV,Qd,aoW]
def LY(L:List En)(id:Int)(hl:L.length<=1000000000):Pure Tryz.prog aD 62 [.sl .ro (L.map Qd),I id,.fn 63 [] []] (Wx (Za id L)):=by
 refine Qp II (fun _ f l=>if f=63 then(match l with|[.agg (c::_)]=>c|_=>.junk)else .junk) zd ?_;simp[abq];refine Qk gJ (fun f m=>∃(i:Nat)(bx:T5),f 13=I i/\i<=L.length/\Za id (L.drop i)=Za id L/\m=⟨[I 0,I 0,I 0,I 0,I 0,I 0,.sl .nil []]::bx,[],fun _=>.gone,0⟩) (fun f _=>L.length-(numOf (f 13)).toNat) ?_ ?_
 ·exact⟨0,[],zd,zE,rfl,rfl⟩
 rintro f m ⟨i,bx,eU,hi,hf,rfl⟩;rcases zzaa i L.length with ai|bn
 ·obtain⟨x,hx⟩:=aV ai;have ah:Qj (L.map Qd) i=Qd x:=Qu (by simp[hx]);have aa:(i:Int)<(L.length:Int):=zE
  have hw:=bO i zE;have hd:L.drop i=x::L.drop (i+1):=by rw[zzah ai,(zza.1 hx).2]
  have hk:=nU x;rw[hd,Za]at hf;by_cases aL:x.id=id
  ·rw[if_pos aL]at hf;simp[eU,ai,aa,ah,Qd,aL,gJ,IG,<- hf,Wx];simpa[Qd,aL]using hk
  rw[if_neg aL]at hf;simp[eU,ai,aa,ah,Qd,aL,gJ,hw];refine⟨hk,aQ,⟨i+1,zd,zE,hf⟩,zE⟩
 rw[zzal bn]at hf;have bP:¬(i:Int)<(L.length:Int):=zE
 simp[eU,zzbk.2 bn,bP,gJ,IG,<- hf,Wx,Za]
open Go Go.Abs
def LZ{w:World}{γ:G}{rows:T5}{v:Value}(h:aA w γ (.sl .ro rows) v):aA w γ (.sl .nil rows) v\/aA w γ (.sl .nn rows) v:=by
 cases h with
 |sl b off sz cv hcap hnil ha hsz hc hr aX=>
  rename_i a cap;by_cases e:a=none
  ·exact .inl (.sl b off sz cv hcap hnil ha hsz hc hr e)
  exact .inr (.sl b off sz cv hcap hnil ha hsz hc hr e)
def sQ{P:Program}{gl:Nat->AV}{f:FuncId}{rows:T5}{r:AV}(h:Pure P gl f [.sl .nil rows] r)(k:Pure P gl f [.sl .nn rows] r):Pure P gl f [.sl .ro rows] r:=
 ⟨h.1,fun ro w vs lE hr=>by
  match vs,hr with
  |[v],hr=>
   rcases LZ (hr.2 0 _ v rfl rfl)with h1|h1
   ·exact h.2 ro w [v] lE ⟨rfl,fun i x y hx hy=>by
     cases i with
     |zero=>cases hx;cases hy;exact h1
     |succ i=>cases hx⟩
   exact k.2 ro w [v] lE ⟨rfl,fun i x y hx hy=>by
    cases i with
    |zero=>cases hx;cases hy;exact h1
    |succ i=>cases hx⟩
  |[],hr=>exact absurd hr.1 zd
  |_::_::_,hr=>exact absurd hr.1 zd⟩
def DT:Pure Tryz.prog aD 64 [.sl .nn []] (.sl .ro []):=by
 have:∃rt,Pure Tryz.prog aD 64 [.sl .nn []] (.sl rt []):=by
  refine⟨.ro,Qp IJ (fun _ _ _=>.junk) zd ?_⟩;simp[abr,abt]
 obtain⟨rt,h⟩:=this;exact Zk h (Wk.sl _ _)
def Qcl(l:List Sp)(hl:l.length<=8796093022208):Pure Tryz.prog aD 64 [.sl .ro (l.map Qf)] (.sl .ro (l.map Qf)):=by
 cases l with
 |nil=>exact sQ (Zk jT (Wk.sl _ _)) DT
 |cons x r=>
  refine Qp IJ (fun _ _ _=>.junk) zd ?_;simp[abr,abt];simp at hl;refine⟨⟨rfl,?_⟩,zE⟩;rintro row a b _ rfl;rfl
def KK(p:Pl)(id:Int)(hl:p.ens.length<=1000000000)(ha:∀e∈p.ens,e.al.length<=8796093022208):Pure Tryz.prog aD 29 [.agg (Qa p),I id] (Wx (Za id p.ens)):=by
 have h59:=LY p.ens id hl;refine Qp SK (fun _ f l=>if f=62 then Wx (Za id p.ens)else l.headD .junk) zd ?_;cases hf:Za id p.ens with
 |none=>
  rw[hf]at h59;simp[abf,abg,Qa,Wx,hf];exact⟨h59,jT⟩
 |some x=>
  rw[hf]at h59
  have hx:x∈p.ens:=by
   have:∀l:List En,Za id l=some x->x∈l:=by
    intro l;induction l with
    |nil=>intro h;cases h
    |cons y r ih=>
     intro h;simp only[Za]at h;split at h
     ·cases h;simp
     simp[ih h]
   exact this _ hf
  have hc:=Qcl x.al (ha x hx);simp[abf,abg,Qa,Wx,Qd,hf];exact⟨h59,hc⟩
open Go Go.Abs
def L3(e:It):Pure Tryz.prog aD 37 [.agg (Qh e)] (I e.id):=by
 refine Qp SL (fun _ _ _=>.junk) zd ?_;simp[ajC,Qh,ajD]
def yl(L:List It)(id:Int)(hl:L.length<=1000000000):Pure Tryz.prog aD 36 [.sl .ro (L.map Qh),I id,.fn 37 [] []] (Xp (Xg id L)):=by
 refine Qp ajB (fun _ f l=>if f=37 then(match l with|[.agg (c::_)]=>c|_=>.junk)else .junk) zd ?_;simp[aoz];refine Qk Mq (fun f m=>∃(i:Nat)(bx:T5),f 13=I i/\i<=L.length/\Xg id (L.drop i)=Xg id L/\m=⟨[I 0,I 0,I 0,I 0,I 0]::bx,[],fun _=>.gone,0⟩) (fun f _=>L.length-(numOf (f 13)).toNat) ?_ ?_
 ·exact⟨0,[],zd,zE,rfl,rfl⟩
 rintro f m ⟨i,bx,eU,hi,hf,rfl⟩;rcases zzaa i L.length with ai|bn
 ·obtain⟨x,hx⟩:=aV ai;have ah:Qj (L.map Qh) i=Qh x:=Qu (by simp[hx]);have aa:(i:Int)<(L.length:Int):=zE
  have hw:=bO i zE;have hd:L.drop i=x::L.drop (i+1):=by rw[zzah ai,(zza.1 hx).2]
  have hk:=L3 x;rw[hd,Xg]at hf;by_cases aL:x.id=id
  ·rw[if_pos aL]at hf;simp[eU,ai,aa,ah,Qh,aL,Mq,ajA,<- hf,Xp];simpa[Qh,aL]using hk
  rw[if_neg aL]at hf;simp[eU,ai,aa,ah,Qh,aL,Mq,hw];refine⟨hk,aQ,⟨i+1,zd,zE,hf⟩,zE⟩
 rw[zzal bn]at hf;have bP:¬(i:Int)<(L.length:Int):=zE
 simp[eU,zzbk.2 bn,bP,Mq,ajA,<- hf,Xp,Xg]
def By(p:Pl)(id:Int)(hl:p.aM.length<=1000000000):Pure Tryz.prog aD 17 [.agg (Qa p),I id] (Xp (Xg id p.aM)):=by
 have h:=yl p.aM id hl;refine Qp SH (fun _ f l=>if f=36 then Xp (Xg id p.aM)else .junk) zd ?_;cases hf:Xg id p.aM with
 |none=>
  rw[hf]at h;simp[SF,SG,Qa,Xp,hf];exact h
 |some x=>
  rw[hf]at h;simp[SF,SG,Qa,Xp,Qh,hf];exact h
def xx(p:Pl)(f t:Int):Pure Tryz.prog aD 122 [.agg (Qa p),I f,I t] (.fn 175 [] [.ep (Qa p) 0,.ep [I f] 0,.ep [I t] 0]):=by
 refine Qp abT (fun _ _ _=>.junk) zd ?_;simp[agu,agv,Qa]
open Go Go.Abs
def Ug(b:Nat->Bool):Nat->Int
 |0=>0
 |n+1=>Ug b n+if b n then 2 ^ n else 0
def DB(b:Nat->Bool):∀n,0<=Ug b n/\Ug b n<2 ^ n
 |0=>by simp[Ug]
 |n+1=>by
  have:=DB b n;have h2:(2:Int) ^ (n+1)=2*2 ^ n:=by rw[Int.pow_succ];omega
  rw[Ug,h2];split<;>omega
def ZH:∀i:Nat,i<8->∀x:Nat,x<2 ^ i->IntKind.i64.wrap (((((x:Int)%2 ^ IntKind.i64.bits).toNat|||(IntKind.i64.wrap (2 ^ min i IntKind.i64.bits)%2 ^ IntKind.i64.bits).toNat:Nat)):Int)=(x:Int)+2 ^ i:=by
 decide+kernel
def sJ(Y:YT)(p:Pl)(h:FuncId)(cap:P2)(b:Nat->Bool)(m:AM)(K:So)
  (hg:∀(i:Nat)(mm:AM),i<8->(i:Int)<p.rg->(∃bx,mm=⟨m.boxes++bx,m.lens,m.st,m.ln⟩)->∀K':So,K' (.bool (b i)) mm->aB Tryz.prog aD Y h ([I i]++cap) mm K')
  (hK:∀bx,K (I (Ug b (min p.rg 8).toNat)) ⟨m.boxes++bx,m.lens,m.st,m.ln⟩):aB Tryz.prog aD Y 176 [.agg (Qa p),.fn h [] cap] m K:=by
 refine Xn acE (fun _ _ _=>.gd false .junk) zd ?_;obtain⟨n,hn⟩:∃n,(min p.rg 8).toNat=n:=⟨_,rfl⟩
 have Cp:Qj (m.boxes++[Qa p]) m.boxes.length=Qa p:=by
  simp
 rw[hn]at hK;have hmn:(if 8<p.rg then 8 else p.rg)=min p.rg 8:=zE
 simp only[Qa]at Cp;simp[agZ,Qa,Cp];refine Qk IX (fun f mm=>∃(i:Nat)(bx:T5),f 10=I i/\(i=0\/i<=n)/\mm=⟨m.boxes++bx,m.lens,m.st,m.ln⟩/\f 5=I (Ug b i)) (fun f _=>n-(numOf (f 10)).toNat) ?_ ?_
 ·exact⟨0,_,zd,.inl rfl,rfl,by simp[Ug]⟩
 rintro f mm ⟨i,bx,jy,hi,rfl,h5⟩;by_cases ai:(i:Int)<min p.rg 8
 ·have bP:i<n:=zE
  have hw:=bO i zE;have gL:=DB b i;have hg':=hg i ⟨m.boxes++bx,m.lens,m.st,m.ln⟩ zE zE ⟨_,rfl⟩
  have hor:IntKind.i64.wrap ((((Ug b i%2 ^ IntKind.i64.bits).toNat|||(IntKind.i64.wrap (2 ^ min i IntKind.i64.bits)%2 ^ IntKind.i64.bits).toNat:Nat)):Int)=Ug b i+2 ^ i:=by
   obtain⟨x,hx⟩:∃x:Nat,Ug b i=(x:Int):=⟨(Ug b i).toNat,zE⟩
   have hx2:x<2 ^ i:=by
    have h2:=gL.2;rw[hx]at h2
    exact_mod_cast h2
   rw[hx];exact ZH i zE x hx2
  have hms:Ug b (i+1)=Ug b i+if b i then 2 ^ i else 0:=rfl;simp[jy,h5,IX,hmn,ai];refine hg' _ ?_;cases hb:b i with
  |true=>
   rw[hb]at hms;simp[hor,hw];refine⟨aQ,⟨i+1,zE,zE,by rw[hms];rfl⟩,zE⟩
  |false=>
   rw[hb]at hms;simp[hw];refine⟨aQ,⟨i+1,zE,zE,by rw[hms];simp⟩,zE⟩
 have bP:i=n:=zE
 subst bP;simp[jy,h5,IX,hmn,ai,ag0];exact hK _
open Go Go.Abs
def Ub(fr t a:Int):Int:=if 1<=fr then min (t-a) fr else t-a
def Vq(fr t a:Int):List (Int×Int):=if a<t then(a,Ub fr t a)::Vq fr t (a+Ub fr t a)else[]
termination_by(t-a).toNat
decreasing_by simp only[Ub];split<;>omega
def Yf(p:Pl):Int:=match Xg p.fi p.aM with|some x=>x.fr|none=>0
def F2(p:Pl):Int:=Ug (fun _=>true) (min p.rg 8).toNat
def Qay(p:Pl)(x:Int×Int):P2:=[.agg [I 0,I p.fi,I x.1,I x.2,I 0,I (F2 p),.sl .nil []]]
def atV(p:Pl):UV:=fun _ f _=>if f=17 then Xp (Xg p.fi p.aM)else .gd false .junk
def xw(p:Pl)(f t:Int)(hl:p.aM.length<=1000000000)(hb: -1000000000<=f/\t<=1000000000)(hf:f<=1000000000/\ -1000000000<=t):
  WW Tryz.prog aD 175 [] [.ep (Qa p) 0,.ep [I f] 0,.ep [I t] 0] ((Vq (Yf p) t f).map (Qay p)):=by
 intro Y l m K hF;have Z3:=By p p.fi hl;refine Xn acD (atV p) zd ?_
 obtain⟨b,row,atW,ah⟩:∃(b:Bool)(y:It),Xp (Xg p.fi p.aM)=.aS [.agg (Qh y),.bool b]/\y.fr=Yf p:=by
  unfold Yf;cases Xg p.fi p.aM with
  |none=>exact⟨false,⟨0,0,0,0,0⟩,rfl,rfl⟩
  |some x=>exact⟨true,x,rfl,rfl⟩
 rw[atW]at Z3;simp[TP,Qa,atV,atW,Qh]
 refine⟨Z3,sJ Y p 177 [] (fun _=>true) _ _ (fun i mm _ _ _ K' h=>by
  show aB _ _ _ _ [I (i:Int)] _ _;refine Xn acF (fun _ _ _=>.junk) zd ?_;simp[ag1,ag2];exact h) fun bx=>?_⟩
 obtain⟨B0,gF⟩:∃B0,m.boxes.length=B0:=⟨_,rfl⟩;have Rv:=hF.ext (m':=⟨m.boxes++[[I row.id,I row.ki,I row.fr,I row.sp,I row.ra]]++bx,m.lens,m.st,m.ln⟩) ⟨zd,fun j hj _=>by rw[zzbe];exact Qn hj,⟨[],zd⟩,fun _ _=>rfl⟩;simp only[gF];refine Qk B8 (fun g mm=>∃(a:Int)(O:Nat->Prop),g 8=I a/\ -1000000000<=a/\a<=1000000000/\B0<mm.boxes.length/\Qj mm.boxes B0=[I row.id,I row.ki,I row.fr,I row.sp,I row.ra]/\O B0/\sC (Y l) K ((Vq (Yf p) t a).map (Qay p)) O mm) (fun g _=>(t-numOf (g 8)).toNat) ?_ ?_
 ·refine⟨f,_,zd,zE,zE,by simp[gF],?_,.inr ⟨zE,by simp;omega⟩,Rv⟩;show Qj (m.boxes++[_]++bx) B0=_;rw[Qn (by simp;omega)];subst gF;simp
 rintro g mm ⟨a,O,h8,a1,a2,hlm,Sk,CX,hFo⟩;by_cases ai:a<t
 ·rw[Vq,if_pos ai]at hFo;simp only[zzaz,Qay]at hFo;have dU:IntKind.i64.wrap (t-a)=t-a:=by rw[Ql]<;>omega
  have Sh:Ub (Yf p) t a=if 1<=row.fr then min (t-a) row.fr else t-a:=by rw[Ub,ah]
  have IA:1<=Ub (Yf p) t a/\Ub (Yf p) t a<=t-a:=by rw[Sh];split<;>omega
  have fE:IntKind.i64.wrap (a+Ub (Yf p) t a)=a+Ub (Yf p) t a:=by rw[Ql]<;>omega
  have hmn:(if row.fr<t-a then row.fr else t-a)=min (t-a) row.fr:=zE
  have hM:Ug (fun _=>true) (min p.rg 8).toNat=F2 p:=rfl;generalize hN:Ub (Yf p) t a=N at*
  have key:∀g1,(1<=row.fr->g1=min (t-a) row.fr)->True:=fun _ _=>trivial;have hwN:IntKind.i64.wrap N=N:=by rw[Ql]<;>omega
  by_cases wC:1<=row.fr
  ·rw[if_pos wC]at Sh;simp[h8,B8,ai,Sk,wC,dU,hmn,<- Sh,hwN,hM,hlm];refine hFo _ (bV.refl _ _) _ (fun m2 A1 AW=>?_) (fun m2 hK=>?_)
   ·have q1:Qj m2.boxes B0=[I row.id,I row.ki,I row.fr,I row.sp,I row.ra]:=by rw[A1.2 B0 (.inl CX)];exact Sk
    have CK:=A1.1;simp[fE];refine⟨aQ,⟨zE,zE,zE,q1,_,.inl CX,AW⟩,zE⟩
   simp[MU];exact hK _ (bV.refl _ _)
  rw[if_neg wC]at Sh;simp[h8,B8,ai,Sk,wC,dU,<- Sh,hwN,hM,hlm];refine hFo _ (bV.refl _ _) _ (fun m2 A1 AW=>?_) (fun m2 hK=>?_)
  ·have q1:Qj m2.boxes B0=[I row.id,I row.ki,I row.fr,I row.sp,I row.ra]:=by rw[A1.2 B0 (.inl CX)];exact Sk
   have CK:=A1.1;simp[fE];refine⟨aQ,⟨zE,zE,zE,q1,_,.inl CX,AW⟩,zE⟩
  simp[MU];exact hK _ (bV.refl _ _)
 rw[Vq,if_neg ai]at hFo;simp only[zzcr]at hFo;simp[h8,B8,ai,MU];exact hFo _ (bV.refl _ _)
open Go Go.Abs
def F1(Y:YT)(p:Pl)(e:En)(a r fr:Int)(m:AM)(bp bf be:Nat)(hc:p.cls.length<=1000000)(fu:p.sh.length<=1000000000)(cT:p.aM.length<=1000000000)
  (h1:Qj m.boxes bp=Qa p)(h2:Qj m.boxes bf=[I fr])(h3:Qj m.boxes be=Qd e)(K:So)(hK:K (.bool (Xk p a r fr e.fr)) m):
  aB Tryz.prog aD Y 178 [I a,I r,.ptr bp 0,.ptr bf 0,.ptr be 0] m K:=by
 have k:=Qeq p a r fr e.fr hc fu cT;refine Xn acG (fun _ f _=>if f=18 then .bool (Xk p a r fr e.fr)else .junk) zd ?_;simp only[Qa]at h1;simp only[Qd]at h3;simp[ag3,ag4,h1,h2,h3];exact⟨k,hK⟩
def XV(Y:YT)(p:Pl)(e:En)(r fr:Int)(m:AM)(bp bf be bg:Nat)(hc:p.cls.length<=1000000)(fu:p.sh.length<=1000000000)(cT:p.aM.length<=1000000000)
  (h1:Qj m.boxes bp=Qa p)(h2:Qj m.boxes bf=[I fr])(h3:Qj m.boxes be=Qd e)(h4:Qj m.boxes bg=[.fn 178 [] [.ptr bp 0,.ptr bf 0,.ptr be 0]])(K:So)(hK:K (.bool (Xk p e.it r fr e.fr)) m):
  aB Tryz.prog aD Y 179 [I r,.ptr bg 0,.ptr be 0] m K:=by
 have k:=F1 Y p e e.it r fr m bp bf be hc fu cT h1 h2 h3;refine Xn acH (fun _ _ _=>.gd false .junk) zd ?_;simp only[Qd]at h3;simp[ag5,h4,h3];refine k _ ?_;simp[ag6];exact hK
open Go Go.Abs
def DM(x:Int)(c:Cl):Bool:=decide (c.fr<=x/\x<c.to)
def grX(C:List Cl)(x:Int):Bool:=match C.reverse.find? (DM x)with
 |some c=>decide (c.ki=1)
 |none=>false
def find_congr{α:Type}{p q:α->Bool}:∀{l:List α},(∀a∈l,p a=q a)->l.find? p=l.find? q
 |[],_=>rfl
 |a::l,h=>by
  have h1:=h a zd;have ih:=find_congr (l:=l) fun b hb=>h b (by simp[hb]);rw[zzen,zzen,h1,ih]
def Zt{x:Int}:∀{l:Pi}{j:Nat}{v:Int},l.Pairwise (·<·)->l[j]?=some v->(j<qS l x<->v<x)
 |[],j,v,_,h=>by simp at h
 |a::r,j,v,hp,h=>by
  obtain⟨h1,h2⟩:=zzcc.1 hp
  have e:qS (a::r) x=qS r x+if a<x then 1 else 0:=by
   unfold qS;rw[zzeg];by_cases ha:a<x<;>simp[ha]
  have hz:¬a<x->qS r x=0:=by
   intro ha;unfold qS;rw[zzc,zzgz];intro y hy;have:=h1 y hy;simp;omega
  rw[e];cases j with
  |zero=>
   simp at h;subst h;by_cases ha:a<x
   ·simp[ha]
   simp[ha,hz ha]
  |succ j=>
   simp at h;have hav:=h1 v (zzad h);have ih:=Zt (x:=x) h2 h;by_cases ha:a<x
   ·simp only[ha,if_true];omega
   have:=hz ha;simp only[ha,if_false];omega
def HI(Bd:Pi)(j:Nat)(c:Cl):Bool:=decide (qS Bd c.fr<=j/\j<qS Bd c.to)
def HJ(Bd:Pi)(j:Nat):∀(R:List Cl)(s:GS),(R.foldl (QA Bd) s)[j]?=(s[j]?).map fun o=>match o with
  |some v=>some v
  |none=>(R.find? (HI Bd j)).map fun c=>decide (c.ki=1)
 |[],s=>by
  cases h:s[j]? with
  |none=>simp[h]
  |some o=>cases o<;>simp[h]
 |c::R,s=>by
  rw[zzcx,HJ Bd j R,QA,Uv,zzen];cases h:s[j]? with
  |none=>simp
  |some o=>
   cases o with
   |some v=>simp
   |none=>
    by_cases hc:qS Bd c.fr<=j/\j<qS Bd c.to
    ·simp[HI,hc]
    simp[HI,hc]
def HK(Bd:Pi)(s:GS)(x:Int):∀n,Xv (nD Bd s n) x<->∃j,j<n/\s[j]?=some (some true)/\Bd.getD j 0<=x/\x<Bd.getD (j+1) 0
 |0=>by simp[nD]
 |n+1=>by
  rw[qU,Yr,HK Bd s x n];unfold CZ;constructor
  ·rintro(⟨j,h1,h2⟩|h)
   ·exact⟨j,zE,h2⟩
   split at h
   ·rename_i hs;rw[Xf]at h;obtain h|h:=h
    ·exact⟨n,zE,hs,h⟩
    simp at h
   simp at h
  rintro⟨j,h1,h2,h3⟩;rcases zzaa j n with h|h
  ·exact .inl ⟨j,h,h2,h3⟩
  obtain rfl:j=n:=zE
  right;rw[if_pos h2,Xf];exact .inl h3
def uX{l:Pi}{j:Nat}{v:Int}(h:l[j]?=some v):l.getD j 0=v:=by
 simp[zzav,h]
def atX(C:List Cl)(hC:∀c∈C,c.fr<c.to)(x:Int):Xv (nD (dJ C) (wU C) (dJ C).length) x<->grX C x=true:=by
 have nF:=NR C;have dA:∀c∈C,c.fr∈dJ C/\c.to∈dJ C:=fun c hc=>⟨(uC _ _).2 (pn hc).1,(uC _ _).2 (pn hc).2⟩
 have FM:∀j,j<(dJ C).length->(wU C)[j]?=some ((C.reverse.find? (HI (dJ C) j)).map fun c=>decide (c.ki=1)):=by
  intro j hj;rw[wU,HJ];have:(List.replicate (dJ C).length (none:Option Bool))[j]?=some none:=by simp[hj]
  rw[this];rfl
 have key:∀(j:Nat)(u w:Int),(dJ C)[j]?=some u->(dJ C)[j+1]?=some w->u<=x->x<w->∀c∈C.reverse,HI (dJ C) j c=DM x c:=by
  intro j u w hu hw h1 h2 c hc;have tI:=zzf.1 hc;have a1:=Zt (x:=c.fr) nF hu;have a2:=Zt (x:=c.fr) nF hw;have a3:=Zt (x:=c.to) nF hu;have a4:=Zt (x:=c.to) nF hw;obtain⟨m1,m2⟩:=dA c tI
  have gap:∀y∈dJ C,y<=u\/w<=y:=by
   intro y hy;obtain⟨k,hk⟩:=zzfq hy;rcases zzaa j k with h|h
   ·right;have q1:=Zt (x:=w) nF hk;have q2:=Zt (x:=w) nF hw;omega
   left;have q1:=Zt (x:=y) nF hk;have q2:=Zt (x:=y) nF hu;omega
  have g1:=gap _ m1;have g2:=gap _ m2;unfold HI DM;apply decide_eq_decide.2;omega
 have aaF:∀(j:Nat)(u w:Int),(dJ C)[j]?=some u->(dJ C)[j+1]?=some w->u<=x->x<w->((wU C)[j]?=some (some true)<->grX C x=true):=by
  intro j u w hu hw h1 h2;rw[FM j (zza.1 hu).1,find_congr (key j u w hu hw h1 h2),grX];cases C.reverse.find? (DM x)<;>simp
 rw[HK];constructor
 ·rintro⟨j,hj,hs,h1,h2⟩;have dK:=hs;rw[FM j hj]at hs;cases hf:C.reverse.find? (HI (dJ C) j)with
  |none=>rw[hf]at hs;simp at hs
  |some c=>
   have hc:=zzf.1 (zzec hf);have hi:=zzgx hf;simp only[HI,decide_eq_true_eq]at hi;have hl:=J9 (dA c hc).2;have dX:j+1<(dJ C).length:=zE
   obtain⟨u,hu⟩:∃u,(dJ C)[j]?=some u:=⟨_,zzaf hj⟩;obtain⟨w,hw⟩:∃w,(dJ C)[j+1]?=some w:=⟨_,zzaf dX⟩;rw[uX hu]at h1;rw[uX hw]at h2;exact(aaF j u w hu hw h1 h2).1 dK
 intro hg;have hg':=hg;rw[grX]at hg;cases hf:C.reverse.find? (DM x)with
 |none=>rw[hf]at hg;simp at hg
 |some c=>
  have hc:=zzf.1 (zzec hf);have hi:=zzgx hf;simp only[DM,decide_eq_true_eq]at hi;obtain⟨m1,m2⟩:=dA c hc;obtain⟨k1,dB⟩:=zzfq m1;obtain⟨k2,ef⟩:=zzfq m2;have a1:=(Zt (x:=x+1) nF dB).2 zE;have a2:=Zt (x:=x+1) nF ef;have l2:=(zza.1 ef).1;obtain⟨j,hj⟩:∃j,qS (dJ C) (x+1)=j+1:=⟨qS (dJ C) (x+1)-1,zE⟩;have dX:j+1<(dJ C).length:=zE
  obtain⟨u,hu⟩:∃u,(dJ C)[j]?=some u:=⟨_,zzaf zE⟩;obtain⟨w,hw⟩:∃w,(dJ C)[j+1]?=some w:=⟨_,zzaf dX⟩;have b1:=Zt (x:=x+1) nF hu;have b2:=Zt (x:=x+1) nF hw;exact⟨j,zE,(aaF j u w hu hw zE zE).2 hg',by rw[uX hu];omega,by rw[uX hw];omega⟩
def afM{cs:List Cl}{item region:Int}:∀c∈Jl cs item region,c.fr<c.to:=by
 intro c hc;simp only[Jl,zzbz,tQ,Xu,Kb,zzac,decide_eq_true_eq]at hc;obtain⟨_,h1,_,_,h2⟩:=hc;rw[if_pos h1]at h2;simp at h2;omega
def L5(cs:List Cl)(item region x:Int):Xv (Qcq cs item region) x<->grX (Jl cs item region) x=true:=by
 rw[Qcq,(Zw _).2,atX _ afM]
def NE(L:List Sp):Prop:=∀s∈L,s.1<s.2
def afN{L:List Sp}{f t:Int}(h:NE L):NE (nH L f t)/\∀x,Xv (nH L f t) x<->Xv L x\/(f<=x/\x<t):=by
 unfold nH;split
 ·rename_i xe;cases hl:L.getLast? with
  |none=>
   have:L=[]:=by simpa using hl
   subst this;refine⟨by intro s hs;simp at hs;subst hs;exact xe,fun x=>zd⟩
  |some s=>
   obtain⟨D,rfl⟩:∃D,L=D++[s]:=by
    have aN:L≠[]:=by rintro rfl;simp at hl
    refine⟨L.dropLast,?_⟩;have h1:=zzew aN;rw[List.getLast?_eq_some_getLast aN]at hl;cases hl;exact h1.symm
   have hs:=h s zd;simp only;split
   ·rename_i e;simp only[zzfr];refine⟨?_,fun x=>?_⟩
    ·intro u hu;rw[zzam]at hu;obtain hu|hu:=hu
     ·exact h u (by simp[hu])
     simp at hu;subst hu;simp only;omega
    simp only[Yr,Xf,Yq,or_false,or_assoc];constructor
    ·rintro(h|h)
     ·exact .inl h
     by_cases x<s.2
     ·exact .inr (.inl zE)
     exact .inr (.inr zE)
    rintro(h|h|h)
    ·exact .inl h
    ·exact .inr zE
    exact .inr zE
   refine⟨?_,fun x=>by simp[or_assoc]⟩;intro u hu;rw[zzam]at hu;obtain hu|hu:=hu
   ·exact h u hu
   simp at hu;subst hu;exact xe
 refine⟨h,fun x=>?_⟩;constructor
 ·exact .inl
 rintro(h|h)
 ·exact h
 omega
def inW(W:List Sp)(n:Int):Prop:=∃w∈W,w.1<=n/\n<w.2
def OG(sf st mid:Int):∀{W L:List Sp},NE L->NE (pE sf st mid W L)/\∀x,Xv (pE sf st mid W L) x<->Xv L x\/(sf<=x/\x<st/\inW W (x-mid))
 |[],L,h=>⟨h,fun x=>by simp[pE,inW]⟩
 |w::W,L,h=>by
  obtain⟨a1,a2⟩:=afN (f:=max sf (mid+w.1)) (t:=min st (mid+w.2)) h;obtain⟨b1,b2⟩:=OG sf st mid (W:=W) a1;refine⟨b1,fun x=>?_⟩;rw[pE,b2,a2];simp only[inW,zzaq,exists_eq_or_imp];constructor
  ·rintro((h|h)|⟨h1,h2,h3⟩)
   ·exact .inl h
   ·exact .inr ⟨zE,zE,.inl zE⟩
   exact .inr ⟨h1,h2,.inr h3⟩
  rintro(h|⟨h1,h2,h3|h3⟩)
  ·exact .inl (.inl h)
  ·exact .inl (.inr zE)
  exact .inr ⟨h1,h2,h3⟩
def afO(W:List Sp):Prop:=∀w∈W,0<=w.1/\w.2<=86400
def afP{W:List Sp}(hW:afO W)(sf st o:Int):∀(n:Nat)(d:Int){L:List Sp},(st-(d*86400-o)).toNat<=n->NE L->NE (nI W sf st (d*86400-o) L)/\
  ∀x,Xv (nI W sf st (d*86400-o) L) x<->Xv L x\/(sf<=x/\x<st/\d<=(x+o)/86400/\inW W ((x+o)%86400)):=by
 intro n;induction n with
 |zero=>
  intro d L h hL;rw[nI,if_neg zE];refine⟨hL,fun x=>⟨.inl,?_⟩⟩;rintro(h|⟨h1,h2,h3,h4⟩)
  ·exact h
  omega
 |succ n ih=>
  intro d L h hL;rw[nI];split
  ·rename_i hm;obtain⟨a1,a2⟩:=OG sf st (d*86400-o) (W:=W) hL;have e:d*86400-o+86400=(d+1)*86400-o:=zE
   rw[e];obtain⟨b1,b2⟩:=ih (d+1) zE a1;refine⟨b1,fun x=>?_⟩;rw[b2,a2];constructor
   ·rintro((h|⟨h1,h2,w,hw,h3,h4⟩)|⟨h1,h2,h3,h4⟩)
    ·exact .inl h
    ·have:=hW w hw;have hd:(x+o)/86400=d:=zE
     exact .inr ⟨h1,h2,zE,w,hw,zE,zE⟩
    exact .inr ⟨h1,h2,zE,h4⟩
   rintro(h|⟨h1,h2,h3,h4⟩)
   ·exact .inl (.inl h)
   by_cases hd:(x+o)/86400=d
   ·obtain⟨w,hw,h5,h6⟩:=h4;exact .inl (.inr ⟨h1,h2,w,hw,zE,zE⟩)
   exact .inr ⟨h1,h2,zE,h4⟩
  rename_i hm;refine⟨hL,fun x=>⟨.inl,?_⟩⟩;rintro(h|⟨h1,h2,h3,h4⟩)
  ·exact h
  omega
def ani{s:Sp}{W:List Sp}(hW:afO W)(y:Int×Int×Int){L:List Sp}(hL:NE L):NE (stL s W y L)/\
  ∀x,Xv (stL s W y L) x<->Xv L x\/(y.1<=x/\x<y.2.1/\s.1<=x/\x<s.2/\inW W ((x+y.2.2)%86400)):=by
 unfold stL;split
 ·refine⟨hL,fun x=>⟨.inl,?_⟩⟩;rintro(h|⟨h1,h2,h3,h4,_⟩)
  ·exact h
  omega
 obtain⟨a1,a2⟩:=afP hW (max y.1 s.1) (min y.2.1 s.2) y.2.2 _ ((max y.1 s.1+y.2.2)/86400) (zzab _) hL;refine⟨a1,fun x=>?_⟩;rw[a2];constructor
 ·rintro(h|⟨h1,h2,h3,h4⟩)
  ·exact .inl h
  exact .inr ⟨zE,zE,zE,zE,h4⟩
 rintro(h|⟨h1,h2,h3,h4,h5⟩)
 ·exact .inl h
 exact .inr ⟨zE,zE,zE,h5⟩
def OH{s:Sp}{W:List Sp}(hW:afO W):∀{xs:List (Int×Int×Int)}{L:List Sp},xs.Pairwise (fun a b=>a.1<=b.1)->NE L->∀x,Xv (tT s W xs L) x<->Xv L x\/(s.1<=x/\x<s.2/\∃y∈xs,y.1<=x/\x<y.2.1/\inW W ((x+y.2.2)%86400))
 |[],L,_,hL,x=>by simp[tT]
 |y::r,L,hp,hL,x=>by
  obtain⟨p1,p2⟩:=zzcc.1 hp;rw[tT];split
  ·rename_i hb;constructor
   ·exact .inl
   rintro(h|⟨h1,h2,z,hz,h3,h4,_⟩)
   ·exact h
   rcases zzaq.1 hz with rfl|hz
   ·omega
   have:=p1 z hz;omega
  obtain⟨a1,a2⟩:=ani (s:=s) hW y hL;rw[OH hW p2 a1,a2];simp only[zzaq,exists_eq_or_imp];constructor
  ·rintro((h|⟨h1,h2,h3,h4,h5⟩)|⟨h1,h2,h3⟩)
   ·exact .inl h
   ·exact .inr ⟨h3,h4,.inl ⟨h1,h2,h5⟩⟩
   exact .inr ⟨h1,h2,.inr h3⟩
  rintro(h|⟨h1,h2,⟨h3,h4,h5⟩|h3⟩)
  ·exact .inl (.inl h)
  ·exact .inl (.inr ⟨h3,h4,h1,h2,h5⟩)
  exact .inr ⟨h1,h2,h3⟩
def yS(of:Int)(sh:List Sp)(x:Int):Int:=sh.foldl (fun n s=>if s.1<=x then s.2 else n) of
def HL:∀{sh:List Sp}{last:Int},tU last sh=true->sh.Pairwise (fun a b=>a.1<b.1)/\∀s∈sh,last<s.1/\s.1<=10000000000/\gP s.2=true
 |[],_,_=>⟨.nil,fun _ h=>by cases h⟩
 |a::r,last,h=>by
  rw[tU]at h;split at h
  ·cases h
  rename_i hn;simp only[not_or,zzgk]at hn;obtain⟨h1,h2⟩:=HL h;refine⟨zzcc.2 ⟨fun b hb=>(h2 b hb).1,h1⟩,?_⟩;intro s hs;rcases zzaq.1 hs with rfl|hs
  ·exact⟨zE,zE,hn.2.2⟩
  have:=h2 s hs;exact⟨zE,this.2⟩
def BF{x:Int}:∀{sh:List Sp}(o:Int),(∀s∈sh,x<s.1)->yS o sh x=o
 |[],o,_=>rfl
 |a::r,o,h=>by
  have:=h a zd;rw[yS,zzcx,if_neg zE];exact BF o fun s hs=>h s (by simp[hs])
def HM{P:Int->Prop}:∀{sh:List Sp}{f o:Int},(∀s∈sh,f<=s.1/\s.1<=10000000000)->sh.Pairwise (fun a b=>a.1<b.1)->f<=10000000000->∀x,(∃y∈uD f o sh,y.1<=x/\x<y.2.1/\P y.2.2)<->f<=x/\x<=10000000000/\P (yS o sh x)
 |[],f,o,_,_,hf,x=>by
  simp only[uD,zzcf,exists_eq_left,yS,List.foldl_nil];constructor
  ·rintro⟨h1,h2,h3⟩;exact⟨h1,zE,h3⟩
  rintro⟨h1,h2,h3⟩;exact⟨h1,zE,h3⟩
 |s::r,f,o,hb,hp,hf,x=>by
  obtain⟨p1,p2⟩:=zzcc.1 hp;have hs:=hb s zd;have ih:=HM (P:=P) (o:=s.2) (f:=s.1) (sh:=r) (fun t ht=>⟨by have:=p1 t ht;omega,(hb t (by simp[ht])).2⟩) p2 hs.2 x
  have e:(∃y∈uD f o (s::r),y.1<=x/\x<y.2.1/\P y.2.2)<->(f<=x/\x<s.1/\P o)\/∃y∈uD s.1 s.2 r,y.1<=x/\x<y.2.1/\P y.2.2:=by
   rw[uD];simp only[zzam,or_and_right,exists_or];refine or_congr ?_ Iff.rfl;split
   ·simp
   simp;intro h1 h2;omega
  have eo:yS o (s::r) x=yS (if s.1<=x then s.2 else o) r x:=rfl;rw[e,ih,eo];by_cases hx:s.1<=x
  ·rw[if_pos hx];constructor
   ·rintro(⟨h1,h2,h3⟩|⟨h1,h2,h3⟩)
    ·omega
    exact⟨zE,h2,h3⟩
   rintro⟨h1,h2,h3⟩;exact .inr ⟨hx,h2,h3⟩
  rw[if_neg hx];have hn:=BF (x:=x) (sh:=r) o fun t ht=>by have:=p1 t ht;omega
  rw[hn];constructor
  ·rintro(⟨h1,h2,h3⟩|⟨h1,h2,h3⟩)
   ·exact⟨h1,zE,h3⟩
   omega
  rintro⟨h1,h2,h3⟩;exact .inl ⟨h1,zE,h3⟩
def HN:∀{sh:List Sp}{f o:Int},(∀s∈sh,f<=s.1)->sh.Pairwise (fun a b=>a.1<b.1)->(uD f o sh).Pairwise (fun a b=>a.1<=b.1)/\∀y∈uD f o sh,f<=y.1
 |[],f,o,_,_=>by simp[uD]
 |s::r,f,o,hb,hp=>by
  obtain⟨p1,p2⟩:=zzcc.1 hp;have hs:=hb s zd;obtain⟨i1,i2⟩:=HN (f:=s.1) (o:=s.2) (sh:=r) (fun t ht=>by have:=p1 t ht;omega) p2;rw[uD];refine⟨?_,?_⟩
  ·rw[List.pairwise_append];refine⟨by split<;>simp,i1,?_⟩;intro a ha b cM;have:=i2 b cM;split at ha
   ·simp at ha;subst ha;simp only;omega
   simp at ha
  intro y hy;rw[zzam]at hy;obtain hy|hy:=hy
  ·split at hy
   ·simp at hy;subst hy;exact zzbu _
   simp at hy
  have:=i2 y hy;omega
def OJ(of:Int)(sh:List Sp)(x fr to:Int):Prop:=0<=x/\x<=10000000000/\inW (zJ fr to) ((x+yS of sh x)%86400)
def aaG{of:Int}{sh:List Sp}{s:Sp}{fr to:Int}(h:xh of sh s fr to=true)(x:Int):Xv (ir of sh s fr to) x<->s.1<=x/\x<s.2/\OJ of sh x fr to:=by
 rw[ir,if_pos h];simp only[xh,Yi,zK,zzac,decide_eq_true_eq]at h;obtain⟨⟨⟨⟨⟨_,_⟩,ha⟩,h1⟩,h2⟩,_⟩:=h;obtain⟨a1,a2⟩:=HL ha;have hW:afO (zJ fr to):=fun w hw=>by have:=(uE h1 h2).2 w hw;omega
 rw[OH hW (HN (fun t ht=>by have:=a2 t ht;omega) a1).1 (fun _ h=>by cases h)];rw[HM (P:=fun o=>inW (zJ fr to) ((x+o)%86400)) (fun t ht=>by have:=a2 t ht;omega) a1 zE];simp only[Yq,false_or,OJ]
open Go Go.Abs
def OK(p:Pl)(it:It)(region x:Int):Prop:=it.ki=5\/(Ki p=true/\grX (Jl p.cls it.id region) (p.ep+Yn p.nu p.de x)=true/\∀w∈uF p.cls it.ra,OJ p.of p.sh (p.ep+Yn p.nu p.de x) w.1 w.2)
def gW(p:Pl)(id region x:Int):Prop:=∃it,Xg id p.aM=some it/\(0<=region/\region<8)/\(0<=x/\x<=100000000)/\OK p it region x
def HO:∀(Xs:List (List Sp))(a:List Sp)(y:Int),Xv (Xs.foldl zM a) y<->Xv a y/\∀l∈Xs,Xv l y
 |[],a,y=>zd
 |l::Xs,a,y=>by
  rw[zzcx,HO Xs,(kR a l).2];simp only[zzaq,forall_eq_or_imp,and_assoc]
def DU{nu de s f:Int}(hv:Vd nu de=true)(hs:0<=s/\s<=10000000000)(hf:0<=f/\f<=100000000):xu nu de s<=f<->s<=Yn nu de f:=by
 obtain⟨b1,b2,b3,b4,b5⟩:=Ju hv;rw[xu,if_pos ⟨hv,hs.1,hs.2⟩,Yn,if_pos ⟨hv,hf.1,hf.2⟩];have q0:0<=s*nu:=zzed hs.1 zE;have q1:0<=f*de:=zzed hf.1 zE;rw[zzck zE,zzck q1]
 have e1:(s*nu+de-1)/de<=f<->s*nu<=f*de:=by
  rw[<- Int.lt_add_one_iff,Int.ediv_lt_iff_lt_mul zE];have:(f+1)*de=f*de+de:=by rw[Int.add_mul];omega
  omega
 rw[e1,Int.le_ediv_iff_mul_le zE]
def L6{p:Pl}{U:List Sp}(hv:Vd p.nu p.de=true)(hU:∀w∈U,(0<=w.1-p.ep/\w.1-p.ep<=10000000000)/\(0<=w.2-p.ep/\w.2-p.ep<=10000000000)){f:Int}(hf:0<=f/\f<=100000000):
  Xv (U.map (uG p)) f<->Xv U (p.ep+Yn p.nu p.de f):=by
 unfold Xv;simp only[zzb];constructor
 ·rintro⟨_,⟨w,hw,rfl⟩,h1,h2⟩;obtain⟨u1,u2⟩:=hU w hw;have a1:=DU hv u1 hf;have a2:=DU hv u2 hf;simp only[uG]at h1 h2;exact⟨w,hw,zE,zE⟩
 rintro⟨w,hw,h1,h2⟩;obtain⟨u1,u2⟩:=hU w hw;have a1:=DU hv u1 hf;have a2:=DU hv u2 hf;exact⟨_,⟨w,hw,rfl⟩,by simp only[uG];omega,by simp only[uG];omega⟩
def aaH{cs:List Cl}{ra:Int}:∀w∈uF cs ra,zK w.1=true/\zK w.2=true:=by
 intro w hw;simp only[uF,zzb,zzbz,HP,zzac,decide_eq_true_eq,Xu]at hw;obtain⟨c,⟨_,h1,_,_,h2⟩,rfl⟩:=hw;rw[Kb]at h2;simp only[h1]at h2;simp[Ko,wi]at h2;simp only[zK,decide_eq_true_eq];omega
def afQ(s:Sp):0<=(QE s).1/\(QE s).2<=100000001/\∀x,((QE s).1<=x/\x<(QE s).2)<->(s.1<=x/\x<s.2/\0<=x/\x<=100000000):=by
 simp only[QE];refine⟨zE,zE,fun x=>?_⟩;omega
def lB(p:Pl)(id region:Int)(s:Sp)(hs:s.2-s.1<=1000000)(x:Int):Xv (Vt p id region s) x<->s.1<=x/\x<s.2/\gW p id region x:=by
 obtain⟨c0,c1,cx⟩:=afQ s;have cl:(QE s).2-(QE s).1<=1000000:=by simp only[QE];omega
 unfold Vt gW;generalize QE s=c at*
 cases hf:Xg id p.aM with
 |none=>simp
 |some it=>
  simp only[Option.some.injEq,exists_eq_left'];split
  ·rename_i hb;simp only[Yq,false_iff];rintro⟨h1,h2,h3,h4,_⟩;have:=(cx x).2 ⟨h1,h2,h4⟩;omega
  rename_i hb;simp only[not_or]at hb;split
  ·rename_i hk;simp only[Xf,Yq,or_false,OK,hk,true_or,and_true];rw[cx x];constructor
   ·rintro⟨h1,h2,h3,h4⟩;exact⟨h1,h2,zE,h3,h4⟩
   rintro⟨h1,h2,h3,h4⟩;exact⟨h1,h2,h4⟩
  rename_i hk;split
  ·rename_i ht;simp[OK,hk,ht]
  rename_i ht;have XU:Ki p=true:=by simpa using ht
  have hte:Vd p.nu p.de=true/\Yi p.of p.sh=true/\0<=p.ep/\p.ep<=9000000000:=by
   simp only[Ki,zzac,decide_eq_true_eq]at XU;exact⟨XU.1.1,XU.1.2,XU.2⟩
  obtain⟨hv,hz,he⟩:=hte;rw[(kR _ _).2];obtain⟨u,hu⟩:∃u,uS p c=u:=⟨_,rfl⟩;have hu1:u.1=p.ep+Yn p.nu p.de c.1:=by rw[<- hu];rfl
  have JB:u.2=p.ep+Yn p.nu p.de (c.2-1)+1:=by rw[<- hu];rfl
  rw[hu];have hd:=kS (f:=c.1) (g:=c.2-1) hv zE zE zE;have hs1:=pF p.nu p.de c.1;have PU:=pF p.nu p.de (c.2-1)
  have Nl:0<=Yn p.nu p.de c.1:=by
   rw[Yn,if_pos ⟨hv,zE,zE⟩];exact Int.tdiv_nonneg (zzed zE (by have:=Ju hv;omega)) (by have:=Ju hv;omega)
  have cB:iu p it region u (lN p it region u).length=(lN p it region u).foldl zM [u]:=by simp[iu]
  have bP:Sl u.1 u.2 (iu p it region u (lN p it region u).length):=by
   rw[cB];exact C6 _ _ (by intro w hw;simp at hw;subst hw;omega)
  by_cases hx:c.1<=x/\x<c.2
  ·have iD:=(cx x).1 hx;have m1:=kS (f:=c.1) (g:=x) hv zE zE zE;have m2:=kS (f:=x) (g:=c.2-1) hv zE zE zE;rw[L6 hv (fun w hw=>by have:=bP w hw;omega) ⟨zE,zE⟩,cB,HO];simp only[Xf,Yq,or_false,OK,hk,false_or,XU,true_and]
   have hl:(∀l∈lN p it region u,Xv l (p.ep+Yn p.nu p.de x))<->(grX (Jl p.cls it.id region) (p.ep+Yn p.nu p.de x)=true/\∀w∈uF p.cls it.ra,OJ p.of p.sh (p.ep+Yn p.nu p.de x) w.1 w.2):=by
    unfold lN;simp only[zzaq,forall_eq_or_imp,zzb,forall_exists_index,and_imp,forall_apply_eq_imp_iff₂];rw[L5];refine and_congr Iff.rfl (forall_congr' fun w=>forall_congr' fun hw=>?_);obtain⟨d1,d2⟩:=aaH w hw;rw[aaG (by simp only[xh,hz,d1,d2,zzgg,zzea,decide_eq_true_eq];omega)];constructor
    ·rintro⟨_,_,h⟩;exact h
    intro h;exact⟨zE,zE,h⟩
   rw[hl];constructor
   ·rintro⟨⟨_,h⟩,_⟩;exact⟨iD.1,iD.2.1,zE,iD.2.2,h⟩
   rintro⟨_,_,_,_,h⟩;exact⟨⟨zE,h⟩,hx⟩
  simp only[Xf,Yq,or_false];constructor
  ·rintro⟨_,h⟩;exact absurd h hx
  rintro⟨h1,h2,_,h4,_⟩;exact absurd ((cx x).2 ⟨h1,h2,h4⟩) hx
def Qbw(p:Pl)(id region f n:Int):Xk p id region f n=true<->(1<=n/\n<=1000000/\0<=f/\f+n-1<=100000000)/\∀x,f<=x->x<f+n->gW p id region x:=by
 unfold Xk;split
 ·rename_i hb;simp only[zzbh,false_iff];rintro⟨⟨h1,h2,h3,h4⟩,_⟩;obtain h|h|h|h:=hb
  ·omega
  ·omega
  ·simp[frB]at h;omega
  simp[frB]at h;omega
 rename_i hb;simp only[not_or,zzgk,frB,decide_eq_true_eq]at hb;obtain⟨b1,b2,b3,b4⟩:=hb;rw[List.isEmpty_iff,L7 (by simp only;omega)];constructor
 ·intro h;refine⟨zE,fun x h1 h2=>?_⟩;exact((lB p id region (f,f+n) (by simp only;omega) x).1 (h x h1 h2)).2.2
 rintro⟨_,h⟩ x h1 h2;exact(lB p id region (f,f+n) (by simp only;omega) x).2 ⟨h1,h2,h x h1 h2⟩
def LM{p:Pl}{id region f n g m:Int}(h:Xk p id region f n=true)(h1:f<=g)(h2:g+m<=f+n)(h3:1<=m):Xk p id region g m=true:=by
 rw[Qbw]at*
 obtain⟨⟨a1,a2,a3,a4⟩,a5⟩:=h;exact⟨zE,fun x h1 h2=>a5 x zE zE⟩
