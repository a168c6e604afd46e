import Derived.Test.YthjppoincojfkaaGreatDoorRAML
set_option linter.all false
set_option maxRecDepth 100000
set_option maxHeartbeats 64000000
namespace Go.Proofs.YthjppoincojfkaaGreatDoor
open Go Go.Abs
def XT{lo hi:Int}{a b:List Sp}(h:Sl lo hi b):Sl lo hi (zU a b):=by
 obtain⟨⟨h1,_⟩,h2⟩:=kR a b;intro w hw;have ai:=h1 w hw;obtain⟨s,hs,s1,s2⟩:=((h2 w.1).1 ⟨w,hw,zE,ai⟩).2;obtain⟨t,ht,t1,t2⟩:=((h2 (w.2-1)).1 ⟨w,hw,zE,zE⟩).2;have:=h s hs;have:=h t ht;omega
def Qda(p:Pl)(id region:Int)(s:Sp):(Vw p id region s).length<=1000000:=by
 unfold Vw;simp only;generalize QD s=c;cases Xk id p.aN with
 |none=>simp
 |some x=>
  simp only;split
  ·simp
  rename_i hb;simp only[not_or]at hb;split
  ·simp
  split
  ·simp
  have bQ:Sl c.1 c.2 [c]:=by intro w hw;simp at hw;subst hw;omega
  have:=KJ _ c.1 c.2 (kR ((iw p x region (uS p c) (lN p x region (uS p c)).length).map (uM p)) [c]).1 (fun w hw=>by have:=XT bQ w hw;omega);omega
def XU(f:Int):Bool:=decide (0<=f/\f<=100000000)
def Xy(p:Pl)(id region f n:Int):Bool:=
 if n<1\/1000000<n\/XU f=false\/XU (f+n-1)=false then false else(Da [(f,f+n)] (Vw p id region (f,f+n))).isEmpty
def Bc(p:Pl)(id region f n:Int):UV:=fun d g l=>
 if g=38 then(match l with|[.int _ n]=>.bool (XU n)|_=>.junk)else
 if g=40 then .sl .ro ((Vw p id region (f,f+n)).map Qe)else
 if g=39 then .bool (Da [(f,f+n)] (Vw p id region (f,f+n))).isEmpty else .junk
def Qet(p:Pl)(id region f n:Int)(hc:p.cls.length<=1000000)(fB:p.sh.length<=1000000000)(cU:p.aN.length<=1000000000):
  Pure Tryz.prog aD 18 [.agg (Qa p),I id,I region,I f,I n] (.bool (Xy p id region f n)):=by
 have k34:=sQ f;have aek:=sQ (f+n-1);refine Qo ajr (Bc p id region f n) zd ?_;by_cases b1:n<1
 ·simp[OS,Qa,Bc,OT,b1,Xy]
 by_cases b2:1000000<n
 ·simp[OS,Qa,Bc,OT,b1,b2,Xy]
 by_cases b3:XU f=true
 ·have b3':0<=f/\f<=100000000:=by simpa[XU]using b3
  have lJ:IntKind.i64.wrap (f+n)=f+n:=by rw[Ql]<;>omega
  have fW:IntKind.i64.wrap (f+n-1)=f+n-1:=by rw[Ql]<;>omega
  rw[show decide (0<=f/\f<=100000000)=true from b3]at k34;by_cases b4:XU (f+n-1)=true
  ·rw[show decide (0<=f+n-1/\f+n-1<=100000000)=true from b4]at aek;have k36:=nM p id region (f,f+n) hc fB cU (by simp only;omega) (by simp only;omega);have k35:=F7 (Vw p id region (f,f+n)) (f,f+n) (by have:=Qda p id region (f,f+n);omega);simp[OS,Qa,Bc,OT,b1,b2,b3,b4,lJ,fW,Xy];exact⟨k34,aek,k36,k35⟩
  have b4':XU (f+n-1)=false:=by simpa using b4
  rw[show decide (0<=f+n-1/\f+n-1<=100000000)=false from b4']at aek;simp[OS,Qa,Bc,OT,b1,b2,b3,b4',lJ,fW,Xy];exact⟨k34,aek⟩
 have b3':XU f=false:=by simpa using b3
 rw[show decide (0<=f/\f<=100000000)=false from b3']at k34;simp[OS,Qa,Bc,OT,b1,b2,b3',Xy];exact k34
open Go Go.Abs
def Zh(id:Int):List En->Option En
 |[]=>none
 |x::r=>if x.id=id then some x else Zh id r
def Wz:Option En->AV
 |some x=>.aS [.agg (Qd x),.bool true]
 |none=>.aS [.agg [I 0,I 0,I 0,I 0,I 0,I 0,.sl .nil []],.bool false]
def nN(e:En):Pure Tryz.prog aD 63 [.agg (Qd e)] (I e.id):=by
 refine Qo aj4 (fun _ _ _=>.junk) zd ?_;simp[aoN,Qd,aoO]
def KN(L:List En)(id:Int)(hl:L.length<=1000000000):Pure Tryz.prog aD 62 [.sl .ro (L.map Qd),I id,.fn 63 [] []] (Wz (Zh id L)):=by
 refine Qo IN (fun _ f l=>if f=63 then(match l with|[.agg (c::_)]=>c|_=>.junk)else .junk) zd ?_;simp[abm];refine Qk gL (fun f m=>∃(i:Nat)(bx:T5),f 13=I i/\i<=L.length/\Zh id (L.drop i)=Zh id L/\m=⟨[I 0,I 0,I 0,I 0,I 0,I 0,.sl .nil []]::bx,[],fun _=>.gone,0⟩) (fun f _=>L.length-(numOf (f 13)).toNat) ?_ ?_
 ·exact⟨0,[],zd,zE,rfl,rfl⟩
 rintro f m ⟨i,bx,eU,hi,hf,rfl⟩;rcases zzaa i L.length with ai|bn
 ·obtain⟨x,hx⟩:=aV ai;have ah:Qj (L.map Qd) i=Qd x:=Qu (by simp[hx]);have aa:(i:Int)<(L.length:Int):=zE
  have hw:=bO i zE;have hd:L.drop i=x::L.drop (i+1):=by rw[zzag ai,(zza.1 hx).2]
  have hk:=nN x;rw[hd,Zh]at hf;by_cases aL:x.id=id
  ·rw[if_pos aL]at hf;simp[eU,ai,aa,ah,Qd,aL,gL,IM,<- hf,Wz];simpa[Qd,aL]using hk
  rw[if_neg aL]at hf;simp[eU,ai,aa,ah,Qd,aL,gL,hw];refine⟨hk,aQ,⟨i+1,zd,zE,hf⟩,zE⟩
 rw[zzal bn]at hf;have bQ:¬(i:Int)<(L.length:Int):=zE
 simp[eU,zzbk.2 bn,bQ,gL,IM,<- hf,Wz,Zh]
open Go Go.Abs
def KO{w:World}{γ:G}{rows:T5}{v:Value}(h:aA w γ (.sl .ro rows) v):aA w γ (.sl .nil rows) v\/aA w γ (.sl .nn rows) v:=by
 cases h with
 |sl b off sz cv hcap hnil ha hsz hc hr aX=>
  rename_i a cap;by_cases e:a=none
  ·exact .inl (.sl b off sz cv hcap hnil ha hsz hc hr e)
  exact .inr (.sl b off sz cv hcap hnil ha hsz hc hr e)
def sR{P:Program}{gl:Nat->AV}{f:FuncId}{rows:T5}{r:AV}(h:Pure P gl f [.sl .nil rows] r)(k:Pure P gl f [.sl .nn rows] r):Pure P gl f [.sl .ro rows] r:=
 ⟨h.1,fun ro w vs gr hr=>by
  match vs,hr with
  |[v],hr=>
   rcases KO (hr.2 0 _ v rfl rfl)with h1|h1
   ·exact h.2 ro w [v] gr ⟨rfl,fun i x y hx hy=>by
     cases i with
     |zero=>cases hx;cases hy;exact h1
     |succ i=>cases hx⟩
   exact k.2 ro w [v] gr ⟨rfl,fun i x y hx hy=>by
    cases i with
    |zero=>cases hx;cases hy;exact h1
    |succ i=>cases hx⟩
  |[],hr=>exact absurd hr.1 zd
  |_::_::_,hr=>exact absurd hr.1 zd⟩
def Db:Pure Tryz.prog aD 64 [.sl .nn []] (.sl .ro []):=by
 have:∃rt,Pure Tryz.prog aD 64 [.sl .nn []] (.sl rt []):=by
  refine⟨.ro,Qo IP (fun _ _ _=>.junk) zd ?_⟩;simp[abn,abo]
 obtain⟨rt,h⟩:=this;exact Zl h (Wk.sl _ _)
def Qcl(l:List Sp)(hl:l.length<=8796093022208):Pure Tryz.prog aD 64 [.sl .ro (l.map Qe)] (.sl .ro (l.map Qe)):=by
 cases l with
 |nil=>exact sR (Zl jK (Wk.sl _ _)) Db
 |cons x r=>
  refine Qo IP (fun _ _ _=>.junk) zd ?_;simp[abn,abo];simp at hl;refine⟨⟨rfl,?_⟩,zE⟩;rintro row a b _ rfl;rfl
def KP(p:Pl)(id:Int)(hl:p.ens.length<=1000000000)(ha:∀e∈p.ens,e.al.length<=8796093022208):Pure Tryz.prog aD 29 [.agg (Qa p),I id] (Wz (Zh id p.ens)):=by
 have h59:=KN p.ens id hl;refine Qo SJ (fun _ f l=>if f=62 then Wz (Zh id p.ens)else l.headD .junk) zd ?_;cases hf:Zh id p.ens with
 |none=>
  rw[hf]at h59;simp[abb,abc,Qa,Wz,hf];exact⟨h59,jK⟩
 |some x=>
  rw[hf]at h59
  have hx:x∈p.ens:=by
   have:∀l:List En,Zh id l=some x->x∈l:=by
    intro l;induction l with
    |nil=>intro h;cases h
    |cons y r ih=>
     intro h;simp only[Zh]at h;split at h
     ·cases h;simp
     simp[ih h]
   exact this _ hf
  have hc:=Qcl x.al (ha x hx);simp[abb,abc,Qa,Wz,Qd,hf];exact⟨h59,hc⟩
open Go Go.Abs
def KQ(e:It):Pure Tryz.prog aD 37 [.agg (Qm e)] (I e.id):=by
 refine Qo SL (fun _ _ _=>.junk) zd ?_;simp[ajD,Qm,ajE]
def xF(L:List It)(id:Int)(hl:L.length<=1000000000):Pure Tryz.prog aD 36 [.sl .ro (L.map Qm),I id,.fn 37 [] []] (Zq (Xk id L)):=by
 refine Qo ajC (fun _ f l=>if f=37 then(match l with|[.agg (c::_)]=>c|_=>.junk)else .junk) zd ?_;simp[aor];refine Qk Mr (fun f m=>∃(i:Nat)(bx:T5),f 13=I i/\i<=L.length/\Xk id (L.drop i)=Xk id L/\m=⟨[I 0,I 0,I 0,I 0,I 0]::bx,[],fun _=>.gone,0⟩) (fun f _=>L.length-(numOf (f 13)).toNat) ?_ ?_
 ·exact⟨0,[],zd,zE,rfl,rfl⟩
 rintro f m ⟨i,bx,eU,hi,hf,rfl⟩;rcases zzaa i L.length with ai|bn
 ·obtain⟨x,hx⟩:=aV ai;have ah:Qj (L.map Qm) i=Qm x:=Qu (by simp[hx]);have aa:(i:Int)<(L.length:Int):=zE
  have hw:=bO i zE;have hd:L.drop i=x::L.drop (i+1):=by rw[zzag ai,(zza.1 hx).2]
  have hk:=KQ x;rw[hd,Xk]at hf;by_cases aL:x.id=id
  ·rw[if_pos aL]at hf;simp[eU,ai,aa,ah,Qm,aL,Mr,ajB,<- hf,Zq];simpa[Qm,aL]using hk
  rw[if_neg aL]at hf;simp[eU,ai,aa,ah,Qm,aL,Mr,hw];refine⟨hk,aQ,⟨i+1,zd,zE,hf⟩,zE⟩
 rw[zzal bn]at hf;have bQ:¬(i:Int)<(L.length:Int):=zE
 simp[eU,zzbk.2 bn,bQ,Mr,ajB,<- hf,Zq,Xk]
def QE(p:Pl)(id:Int)(hl:p.aN.length<=1000000000):Pure Tryz.prog aD 17 [.agg (Qa p),I id] (Zq (Xk id p.aN)):=by
 have h:=xF p.aN id hl;refine Qo SG (fun _ f l=>if f=36 then Zq (Xk id p.aN)else .junk) zd ?_;cases hf:Xk id p.aN with
 |none=>
  rw[hf]at h;simp[SE,SF,Qa,Zq,hf];exact h
 |some x=>
  rw[hf]at h;simp[SE,SF,Qa,Zq,Qm,hf];exact h
def xG(p:Pl)(f t:Int):Pure Tryz.prog aD 122 [.agg (Qa p),I f,I t] (.fn 175 [] [.ep (Qa p) 0,.ep [I f] 0,.ep [I t] 0]):=by
 refine Qo abP (fun _ _ _=>.junk) zd ?_;simp[agp,agq,Qa]
open Go Go.Abs
def Ut(b:Nat->Bool):Nat->Int
 |0=>0
 |n+1=>Ut b n+if b n then 2 ^ n else 0
def Dc(b:Nat->Bool):∀n,0<=Ut b n/\Ut b n<2 ^ n
 |0=>by simp[Ut]
 |n+1=>by
  have:=Dc b n;have h2:(2:Int) ^ (n+1)=2*2 ^ n:=by rw[Int.pow_succ];omega
  rw[Ut,h2];split<;>omega
def XV:∀i:Nat,i<8->∀x:Nat,x<2 ^ i->IntKind.i64.wrap (((((x:Int)%2 ^ IntKind.i64.bits).toNat|||(IntKind.i64.wrap (2 ^ min i IntKind.i64.bits)%2 ^ IntKind.i64.bits).toNat:Nat)):Int)=(x:Int)+2 ^ i:=by
 decide+kernel
def sS(Y:YT)(p:Pl)(h:FuncId)(cap:P2)(b:Nat->Bool)(m:AM)(K:So)
  (hg:∀(i:Nat)(mm:AM),i<8->(i:Int)<p.rg->(∃bx,mm=⟨m.boxes++bx,m.lens,m.st,m.ln⟩)->∀K':So,K' (.bool (b i)) mm->aB Tryz.prog aD Y h ([I i]++cap) mm K')
  (hK:∀bx,K (I (Ut b (min p.rg 8).toNat)) ⟨m.boxes++bx,m.lens,m.st,m.ln⟩):aB Tryz.prog aD Y 176 [.agg (Qa p),.fn h [] cap] m K:=by
 refine Xn acA (fun _ _ _=>.gd false .junk) zd ?_;obtain⟨n,hn⟩:∃n,(min p.rg 8).toNat=n:=⟨_,rfl⟩
 have Cu:Qj (m.boxes++[Qa p]) m.boxes.length=Qa p:=by
  simp
 rw[hn]at hK;have hmn:(if 8<p.rg then 8 else p.rg)=min p.rg 8:=zE
 simp only[Qa]at Cu;simp[agV,Qa,Cu];refine Qk I3 (fun f mm=>∃(i:Nat)(bx:T5),f 10=I i/\(i=0\/i<=n)/\mm=⟨m.boxes++bx,m.lens,m.st,m.ln⟩/\f 5=I (Ut b i)) (fun f _=>n-(numOf (f 10)).toNat) ?_ ?_
 ·exact⟨0,_,zd,.inl rfl,rfl,by simp[Ut]⟩
 rintro f mm ⟨i,bx,lM,hi,rfl,h5⟩;by_cases ai:(i:Int)<min p.rg 8
 ·have bQ:i<n:=zE
  have hw:=bO i zE;have gN:=Dc b i;have hg':=hg i ⟨m.boxes++bx,m.lens,m.st,m.ln⟩ zE zE ⟨_,rfl⟩
  have hor:IntKind.i64.wrap ((((Ut b i%2 ^ IntKind.i64.bits).toNat|||(IntKind.i64.wrap (2 ^ min i IntKind.i64.bits)%2 ^ IntKind.i64.bits).toNat:Nat)):Int)=Ut b i+2 ^ i:=by
   obtain⟨x,hx⟩:∃x:Nat,Ut b i=(x:Int):=⟨(Ut b i).toNat,zE⟩
   have hx2:x<2 ^ i:=by
    have h2:=gN.2;rw[hx]at h2
    exact_mod_cast h2
   rw[hx];exact XV i zE x hx2
  have hms:Ut b (i+1)=Ut b i+if b i then 2 ^ i else 0:=rfl;simp[lM,h5,I3,hmn,ai];refine hg' _ ?_;cases hb:b i with
  |true=>
   rw[hb]at hms;simp[hor,hw];refine⟨aQ,⟨i+1,zE,zE,by rw[hms];rfl⟩,zE⟩
  |false=>
   rw[hb]at hms;simp[hw];refine⟨aQ,⟨i+1,zE,zE,by rw[hms];simp⟩,zE⟩
 have bQ:i=n:=zE
 subst bQ;simp[lM,h5,I3,hmn,ai,agW];exact hK _
open Go Go.Abs
def Yg(fr t a:Int):Int:=if 1<=fr then min (t-a) fr else t-a
def Va(fr t a:Int):List (Int×Int):=if a<t then(a,Yg fr t a)::Va fr t (a+Yg fr t a)else[]
termination_by(t-a).toNat
decreasing_by simp only[Yg];split<;>omega
def Yh(p:Pl):Int:=match Xk p.fi p.aN with|some x=>x.fr|none=>0
def F8(p:Pl):Int:=Ut (fun _=>true) (min p.rg 8).toNat
def Qbb(p:Pl)(x:Int×Int):P2:=[.agg [I 0,I p.fi,I x.1,I x.2,I 0,I (F8 p),.sl .nil []]]
def asv(p:Pl):UV:=fun _ f _=>if f=17 then Zq (Xk p.fi p.aN)else .gd false .junk
def xH(p:Pl)(f t:Int)(hl:p.aN.length<=1000000000)(hb: -1000000000<=f/\t<=1000000000)(hf:f<=1000000000/\ -1000000000<=t):
  WV Tryz.prog aD 175 [] [.ep (Qa p) 0,.ep [I f] 0,.ep [I t] 0] ((Va (Yh p) t f).map (Qbb p)):=by
 intro Y l m K hF;have XW:=QE p p.fi hl;refine Xn acz (asv p) zd ?_
 obtain⟨b,row,asw,ah⟩:∃(b:Bool)(y:It),Zq (Xk p.fi p.aN)=.aS [.agg (Qm y),.bool b]/\y.fr=Yh p:=by
  unfold Yh;cases Xk p.fi p.aN with
  |none=>exact⟨false,⟨0,0,0,0,0⟩,rfl,rfl⟩
  |some x=>exact⟨true,x,rfl,rfl⟩
 rw[asw]at XW;simp[TP,Qa,asv,asw,Qm]
 refine⟨XW,sS Y p 177 [] (fun _=>true) _ _ (fun i mm _ _ _ K' h=>by
  show aB _ _ _ _ [I (i:Int)] _ _;refine Xn acB (fun _ _ _=>.junk) zd ?_;simp[agX,agY];exact h) fun bx=>?_⟩
 obtain⟨B0,gG⟩:∃B0,m.boxes.length=B0:=⟨_,rfl⟩;have QF:=hF.ext (m':=⟨m.boxes++[[I row.id,I row.ki,I row.fr,I row.sp,I row.ra]]++bx,m.lens,m.st,m.ln⟩) ⟨zd,fun j hj _=>by rw[zzbe];exact Qn hj,⟨[],zd⟩,fun _ _=>rfl⟩;simp only[gG];refine Qk Ce (fun g mm=>∃(a:Int)(O:Nat->Prop),g 8=I a/\ -1000000000<=a/\a<=1000000000/\B0<mm.boxes.length/\Qj mm.boxes B0=[I row.id,I row.ki,I row.fr,I row.sp,I row.ra]/\O B0/\sJ (Y l) K ((Va (Yh p) t a).map (Qbb p)) O mm) (fun g _=>(t-numOf (g 8)).toNat) ?_ ?_
 ·refine⟨f,_,zd,zE,zE,by simp[gG],?_,.inr ⟨zE,by simp;omega⟩,QF⟩;show Qj (m.boxes++[_]++bx) B0=_;rw[Qn (by simp;omega)];subst gG;simp
 rintro g mm ⟨a,O,h8,a1,a2,hlm,Sk,C0,hFo⟩;by_cases ai:a<t
 ·rw[Va,if_pos ai]at hFo;simp only[zzaz,Qbb]at hFo;have lJ:IntKind.i64.wrap (t-a)=t-a:=by rw[Ql]<;>omega
  have Eb:Yg (Yh p) t a=if 1<=row.fr then min (t-a) row.fr else t-a:=by rw[Yg,ah]
  have ua:1<=Yg (Yh p) t a/\Yg (Yh p) t a<=t-a:=by rw[Eb];split<;>omega
  have fW:IntKind.i64.wrap (a+Yg (Yh p) t a)=a+Yg (Yh p) t a:=by rw[Ql]<;>omega
  have hmn:(if row.fr<t-a then row.fr else t-a)=min (t-a) row.fr:=zE
  have hM:Ut (fun _=>true) (min p.rg 8).toNat=F8 p:=rfl;generalize hN:Yg (Yh p) t a=N at*
  have key:∀g1,(1<=row.fr->g1=min (t-a) row.fr)->True:=fun _ _=>trivial;have hwN:IntKind.i64.wrap N=N:=by rw[Ql]<;>omega
  by_cases zJ:1<=row.fr
  ·rw[if_pos zJ]at Eb;simp[h8,Ce,ai,Sk,zJ,lJ,hmn,<- Eb,hwN,hM,hlm];refine hFo _ (bW.refl _ _) _ (fun m2 A5 A0=>?_) (fun m2 hK=>?_)
   ·have q1:Qj m2.boxes B0=[I row.id,I row.ki,I row.fr,I row.sp,I row.ra]:=by rw[A5.2 B0 (.inl C0)];exact Sk
    have CP:=A5.1;simp[fW];refine⟨aQ,⟨zE,zE,zE,q1,_,.inl C0,A0⟩,zE⟩
   simp[MV];exact hK _ (bW.refl _ _)
  rw[if_neg zJ]at Eb;simp[h8,Ce,ai,Sk,zJ,lJ,<- Eb,hwN,hM,hlm];refine hFo _ (bW.refl _ _) _ (fun m2 A5 A0=>?_) (fun m2 hK=>?_)
  ·have q1:Qj m2.boxes B0=[I row.id,I row.ki,I row.fr,I row.sp,I row.ra]:=by rw[A5.2 B0 (.inl C0)];exact Sk
   have CP:=A5.1;simp[fW];refine⟨aQ,⟨zE,zE,zE,q1,_,.inl C0,A0⟩,zE⟩
  simp[MV];exact hK _ (bW.refl _ _)
 rw[Va,if_neg ai]at hFo;simp only[zzcv]at hFo;simp[h8,Ce,ai,MV];exact hFo _ (bW.refl _ _)
open Go Go.Abs
def F9(Y:YT)(p:Pl)(e:En)(a r fr:Int)(m:AM)(bp bf be:Nat)(hc:p.cls.length<=1000000)(fB:p.sh.length<=1000000000)(cU:p.aN.length<=1000000000)
  (h1:Qj m.boxes bp=Qa p)(h2:Qj m.boxes bf=[I fr])(h3:Qj m.boxes be=Qd e)(K:So)(hK:K (.bool (Xy p a r fr e.fr)) m):
  aB Tryz.prog aD Y 178 [I a,I r,.ptr bp 0,.ptr bf 0,.ptr be 0] m K:=by
 have k:=Qet p a r fr e.fr hc fB cU;refine Xn acC (fun _ f _=>if f=18 then .bool (Xy p a r fr e.fr)else .junk) zd ?_;simp only[Qa]at h1;simp only[Qd]at h3;simp[agZ,ag0,h1,h2,h3];exact⟨k,hK⟩
def XX(Y:YT)(p:Pl)(e:En)(r fr:Int)(m:AM)(bp bf be bg:Nat)(hc:p.cls.length<=1000000)(fB:p.sh.length<=1000000000)(cU:p.aN.length<=1000000000)
  (h1:Qj m.boxes bp=Qa p)(h2:Qj m.boxes bf=[I fr])(h3:Qj m.boxes be=Qd e)(h4:Qj m.boxes bg=[.fn 178 [] [.ptr bp 0,.ptr bf 0,.ptr be 0]])(K:So)(hK:K (.bool (Xy p e.it r fr e.fr)) m):
  aB Tryz.prog aD Y 179 [I r,.ptr bg 0,.ptr be 0] m K:=by
 have k:=F9 Y p e e.it r fr m bp bf be hc fB cU h1 h2 h3;refine Xn acD (fun _ _ _=>.gd false .junk) zd ?_;simp only[Qd]at h3;simp[ag1,h4,h3];refine k _ ?_;simp[ag2];exact hK
