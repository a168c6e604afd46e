import Derived.Test.YtnopaopphmjnmaaGreatDoorMQML
set_option linter.all false
set_option maxRecDepth 100000
set_option maxHeartbeats 64000000
namespace Go.Proofs.YtnopaopphmjnmaaGreatDoor
open Go Go.Abs
def ab9{lo hi:Int}{a b:List Sp}(h:T8 lo hi b):T8 lo hi (zZ a b):=by
 obtain⟨⟨h1,_⟩,h2⟩:=lz a b;intro w hw;have ai:=h1 w hw;obtain⟨s,hs,s1,s2⟩:=((h2 w.1).1 ⟨w,hw,zE,ai⟩).2;obtain⟨t,ht,t1,t2⟩:=((h2 (w.2-1)).1 ⟨w,hw,zE,zE⟩).2;have:=h s hs;have:=h t ht;omega
def Qdf(p:Pl)(id region:Int)(s:Sp):(Vq p id region s).length<=1000000:=by
 unfold Vq;simp only;generalize R2 s=c;cases Xh id p.aN with
 |none=>simp
 |some x=>
  simp only;split
  ·simp
  rename_i hb;simp only[not_or]at hb;split
  ·simp
  split
  ·simp
  have bL:T8 c.1 c.2 [c]:=by intro w hw;simp at hw;subst hw;omega
  have:=LJ _ c.1 c.2 (lz ((iJ p x region (uS p c) (lZ p x region (uS p c)).length).map (uW p)) [c]).1 (fun w hw=>by have:=ab9 bL w hw;omega);omega
def frB(f:Int):Bool:=decide (0<=f/\f<=100000000)
def Xt(p:Pl)(id region f n:Int):Bool:=
 if n<1\/1000000<n\/frB f=false\/frB (f+n-1)=false then false else(DH [(f,f+n)] (Vq p id region (f,f+n))).isEmpty
def Ch(p:Pl)(id region f n:Int):Nat->FuncId->List AV->AV:=fun d g l=>
 if g=57 then(match l with|[.int _ n]=>.bool (frB n)|_=>.junk)else
 if g=59 then .sl .ro ((Vq p id region (f,f+n)).map Qf)else
 if g=58 then .bool (DH [(f,f+n)] (Vq p id region (f,f+n))).isEmpty else .junk
def Qer(p:Pl)(id region f n:Int)(hc:p.cls.length<=1000000)(gQ:p.sh.length<=1000000000)(cp:p.aN.length<=1000000000):
  Pure Tryz.prog aA 30 [.agg (Qa p),I id,I region,I f,I n] (.bool (Xt p id region f n)):=by
 have Tw:=tQ f;have ahK:=tQ (f+n-1);refine Qo alA (Ch p id region f n) zd ?_;by_cases b1:n<1
 ·simp[QU,Qa,Ch,QV,b1,Xt]
 by_cases b2:1000000<n
 ·simp[QU,Qa,Ch,QV,b1,b2,Xt]
 by_cases b3:frB f=true
 ·have b3':0<=f/\f<=100000000:=by simpa[frB]using b3
  have eT:IntKind.i64.wrap (f+n)=f+n:=by rw[Qj]<;>omega
  have dP:IntKind.i64.wrap (f+n-1)=f+n-1:=by rw[Qj]<;>omega
  rw[show decide (0<=f/\f<=100000000)=true from b3]at Tw;by_cases b4:frB (f+n-1)=true
  ·rw[show decide (0<=f+n-1/\f+n-1<=100000000)=true from b4]at ahK;have k36:=nV p id region (f,f+n) hc gQ cp (by simp only;omega) (by simp only;omega);have k35:=IZ (Vq p id region (f,f+n)) (f,f+n) (by have:=Qdf p id region (f,f+n);omega);simp[QU,Qa,Ch,QV,b1,b2,b3,b4,eT,dP,Xt];exact⟨Tw,ahK,k36,k35⟩
  have b4':frB (f+n-1)=false:=by simpa using b4
  rw[show decide (0<=f+n-1/\f+n-1<=100000000)=false from b4']at ahK;simp[QU,Qa,Ch,QV,b1,b2,b3,b4',eT,dP,Xt];exact⟨Tw,ahK⟩
 have b3':frB f=false:=by simpa using b3
 rw[show decide (0<=f/\f<=100000000)=false from b3']at Tw;simp[QU,Qa,Ch,QV,b1,b2,b3',Xt];exact Tw
open Go Go.Abs
def Zh(id:Int):List En->Option En
 |[]=>none
 |x::r=>if x.id=id then some x else Zh id r
def sX:Option En->AV
 |some x=>.aZ [.agg (Qd x),.bool true]
 |none=>.aZ [.agg [I 0,I 0,I 0,I 0,I 0,I 0,.sl .nil []],.bool false]
def oq(e:En):Pure Tryz.prog aA 204 [.agg (Qd e)] (I e.id):=by
 refine Qo adY (fun _ _ _=>.junk) zd ?_;simp[aiG,Qd,aiH]
def Ng(L:List En)(id:Int)(hl:L.length<=1000000000):Pure Tryz.prog aA 203 [.sl .ro (L.map Qd),I id,.fn 204 [] []] (sX (Zh id L)):=by
 refine Qo CA (fun _ f l=>if f=204 then(match l with|[.agg (c::_)]=>c|_=>.junk)else .junk) zd ?_;simp[N7];refine Qk ei (fun f m=>∃(i:Nat)(bx:List (List AV)),f 13=I i/\i<=L.length/\Zh id (L.drop i)=Zh id L/\m=⟨[I 0,I 0,I 0,I 0,I 0,I 0,.sl .nil []]::bx,[],fun _=>.gone,0⟩) (fun f _=>L.length-(numOf (f 13)).toNat) ?_ ?_
 ·exact⟨0,[],zd,zE,rfl,rfl⟩
 rintro f m ⟨i,bx,xH,hi,hf,rfl⟩;rcases zzaa i L.length with ai|bz
 ·obtain⟨x,hx⟩:=aU ai;have ah:Qh (L.map Qd) i=Qd x:=Qt (by simp[hx]);have aa:(i:Int)<(L.length:Int):=zE
  have hw:=bM i zE;have hd:L.drop i=x::L.drop (i+1):=by rw[zzaf ai,(zza.1 hx).2]
  have hk:=oq x;rw[hd,Zh]at hf;by_cases aK:x.id=id
  ·rw[if_pos aK]at hf;simp[xH,ai,aa,ah,Qd,aK,ei,vN,<- hf,sX];simpa[Qd,aK]using hk
  rw[if_neg aK]at hf;simp[xH,ai,aa,ah,Qd,aK,ei,hw];refine⟨hk,aP,⟨i+1,zd,zE,hf⟩,zE⟩
 rw[zzan bz]at hf;have bL:¬(i:Int)<(L.length:Int):=zE
 simp[xH,zzbo.2 bz,bL,ei,vN,<- hf,sX,Zh]
open Go Go.Abs
def Nh{w:World}{γ:G}{rows:List (List AV)}{v:Value}(h:aC w γ (.sl .ro rows) v):aC w γ (.sl .nil rows) v\/aC w γ (.sl .nn rows) v:=by
 cases h with
 |sl b off sz cv hcap hnil ha hsz hc hr aT=>
  rename_i a cap;by_cases e:a=none
  ·exact .inl (.sl b off sz cv hcap hnil ha hsz hc hr e)
  exact .inr (.sl b off sz cv hcap hnil ha hsz hc hr e)
def Vo{P:Program}{gl:Nat->AV}{f:FuncId}{rows:List (List AV)}{r:AV}(h:Pure P gl f [.sl .nil rows] r)(k:Pure P gl f [.sl .nn rows] r):Pure P gl f [.sl .ro rows] r:=
 ⟨h.1,fun ro w vs ji hr=>by
  match vs,hr with
  |[v],hr=>
   rcases Nh (hr.2 0 _ v rfl rfl)with h1|h1
   ·exact h.2 ro w [v] ji ⟨rfl,fun i x y hx hy=>by
     cases i with
     |zero=>cases hx;cases hy;exact h1
     |succ i=>cases hx⟩
   exact k.2 ro w [v] ji ⟨rfl,fun i x y hx hy=>by
    cases i with
    |zero=>cases hx;cases hy;exact h1
    |succ i=>cases hx⟩
  |[],hr=>exact absurd hr.1 zd
  |_::_::_,hr=>exact absurd hr.1 zd⟩
def EB:Pure Tryz.prog aA 88 [.sl .nn []] (.sl .ro []):=by
 have:∃rt,Pure Tryz.prog aA 88 [.sl .nn []] (.sl rt []):=by
  refine⟨.ro,Qo KD (fun _ _ _=>.junk) zd ?_⟩;simp[acL,acM]
 obtain⟨rt,h⟩:=this;exact Xa h (Wk.sl _ _)
def Uz(l:List Sp)(hl:l.length<=8796093022208):Pure Tryz.prog aA 88 [.sl .ro (l.map Qf)] (.sl .ro (l.map Qf)):=by
 cases l with
 |nil=>exact Vo (Xa j8 (Wk.sl _ _)) EB
 |cons x r=>
  refine Qo KD (fun _ _ _=>.junk) zd ?_;simp[acL,acM];simp at hl;refine⟨⟨rfl,?_⟩,zE⟩;rintro row a b _ rfl;rfl
def LU(p:Pl)(id:Int)(hl:p.ens.length<=1000000000)(ha:∀e∈p.ens,e.al.length<=8796093022208):Pure Tryz.prog aA 130 [.agg (Qa p),I id] (sX (Zh id p.ens)):=by
 have h59:=Ng p.ens id hl;refine Qo NN (fun _ f l=>if f=203 then sX (Zh id p.ens)else l.headD .junk) zd ?_;cases hf:Zh id p.ens with
 |none=>
  rw[hf]at h59;simp[NL,NM,Qa,sX,hf];exact⟨h59,j8⟩
 |some x=>
  rw[hf]at h59
  have hx:x∈p.ens:=by
   have:∀l:List En,Zh id l=some x->x∈l:=by
    intro l;induction l with
    |nil=>intro h;cases h
    |cons y r ih=>
     intro h;simp only[Zh]at h;split at h
     ·cases h;simp
     simp[ih h]
   exact this _ hf
  have hc:=Uz x.al (ha x hx);simp[NL,NM,Qa,sX,Qd,hf];exact⟨h59,hc⟩
open Go Go.Abs
def Ni(e:It):Pure Tryz.prog aA 56 [.agg (Qn e)] (I e.id):=by
 refine Qo UR (fun _ _ _=>.junk) zd ?_;simp[alV,Qn,alW]
def yI(L:List It)(id:Int)(hl:L.length<=1000000000):Pure Tryz.prog aA 55 [.sl .ro (L.map Qn),I id,.fn 56 [] []] (Zk (Xh id L)):=by
 refine Qo alU (fun _ f l=>if f=56 then(match l with|[.agg (c::_)]=>c|_=>.junk)else .junk) zd ?_;simp[ap2];refine Qk Ny (fun f m=>∃(i:Nat)(bx:List (List AV)),f 13=I i/\i<=L.length/\Xh id (L.drop i)=Xh id L/\m=⟨[I 0,I 0,I 0,I 0,I 0]::bx,[],fun _=>.gone,0⟩) (fun f _=>L.length-(numOf (f 13)).toNat) ?_ ?_
 ·exact⟨0,[],zd,zE,rfl,rfl⟩
 rintro f m ⟨i,bx,xH,hi,hf,rfl⟩;rcases zzaa i L.length with ai|bz
 ·obtain⟨x,hx⟩:=aU ai;have ah:Qh (L.map Qn) i=Qn x:=Qt (by simp[hx]);have aa:(i:Int)<(L.length:Int):=zE
  have hw:=bM i zE;have hd:L.drop i=x::L.drop (i+1):=by rw[zzaf ai,(zza.1 hx).2]
  have hk:=Ni x;rw[hd,Xh]at hf;by_cases aK:x.id=id
  ·rw[if_pos aK]at hf;simp[xH,ai,aa,ah,Qn,aK,Ny,alT,<- hf,Zk];simpa[Qn,aK]using hk
  rw[if_neg aK]at hf;simp[xH,ai,aa,ah,Qn,aK,Ny,hw];refine⟨hk,aP,⟨i+1,zd,zE,hf⟩,zE⟩
 rw[zzan bz]at hf;have bL:¬(i:Int)<(L.length:Int):=zE
 simp[xH,zzbo.2 bz,bL,Ny,alT,<- hf,Zk,Xh]
def B9(p:Pl)(id:Int)(hl:p.aN.length<=1000000000):Pure Tryz.prog aA 29 [.agg (Qa p),I id] (Zk (Xh id p.aN)):=by
 have h:=yI p.aN id hl;refine Qo UP (fun _ f l=>if f=55 then Zk (Xh id p.aN)else .junk) zd ?_;cases hf:Xh id p.aN with
 |none=>
  rw[hf]at h;simp[UN,UO,Qa,Zk,hf];exact h
 |some x=>
  rw[hf]at h;simp[UN,UO,Qa,Zk,Qn,hf];exact h
def xO(p:Pl)(f t:Int):Pure Tryz.prog aA 131 [.agg (Qa p),I f,I t] (.fn 205 [] [.ep (Qa p) 0,.ep [I f] 0,.ep [I t] 0]):=by
 refine Qo adh (fun _ _ _=>.junk) zd ?_;simp[aif,aih,Qa]
open Go Go.Abs
def Un(b:Nat->Bool):Nat->Int
 |0=>0
 |n+1=>Un b n+if b n then 2 ^ n else 0
def D4(b:Nat->Bool):∀n,0<=Un b n/\Un b n<2 ^ n
 |0=>by simp[Un]
 |n+1=>by
  have:=D4 b n;have h2:(2:Int) ^ (n+1)=2*2 ^ n:=by rw[Int.pow_succ];omega
  rw[Un,h2];split<;>omega
def aaJ:∀i:Nat,i<8->∀x:Nat,x<2 ^ i->IntKind.i64.wrap (((((x:Int)%2 ^ IntKind.i64.bits).toNat|||(IntKind.i64.wrap (2 ^ min i IntKind.i64.bits)%2 ^ IntKind.i64.bits).toNat:Nat)):Int)=(x:Int)+2 ^ i:=by
 decide+kernel
def sW(Y:YT)(p:Pl)(h:FuncId)(cap:List AV)(b:Nat->Bool)(m:AM)(K:AV->AM->Prop)
  (hg:∀(i:Nat)(mm:AM),i<8->(i:Int)<p.rg->(∃bx,mm=⟨m.boxes++bx,m.lens,m.st,m.ln⟩)->∀K':AV->AM->Prop,K' (.bool (b i)) mm->an Tryz.prog aA Y h ([I i]++cap) mm K')
  (hK:∀bx,K (I (Un b (min p.rg 8).toNat)) ⟨m.boxes++bx,m.lens,m.st,m.ln⟩):an Tryz.prog aA Y 206 [.agg (Qa p),.fn h [] cap] m K:=by
 refine Xd ad0 (fun _ _ _=>.gd false .junk) zd ?_;obtain⟨n,hn⟩:∃n,(min p.rg 8).toNat=n:=⟨_,rfl⟩
 have ud:Qh (m.boxes++[Qa p]) m.boxes.length=Qa p:=by
  simp
 rw[hn]at hK;have RX:(if 8<p.rg then 8 else p.rg)=min p.rg 8:=zE
 simp only[Qa]at ud;simp[aiI,Qa,ud];refine Qk KS (fun f mm=>∃(i:Nat)(bx:List (List AV)),f 10=I i/\(i=0\/i<=n)/\mm=⟨m.boxes++bx,m.lens,m.st,m.ln⟩/\f 5=I (Un b i)) (fun f _=>n-(numOf (f 10)).toNat) ?_ ?_
 ·exact⟨0,_,zd,.inl rfl,rfl,by simp[Un]⟩
 rintro f mm ⟨i,bx,gq,hi,rfl,h5⟩;by_cases ai:(i:Int)<min p.rg 8
 ·have bL:i<n:=zE
  have hw:=bM i zE;have fI:=D4 b i;have hg':=hg i ⟨m.boxes++bx,m.lens,m.st,m.ln⟩ zE zE ⟨_,rfl⟩
  have hor:IntKind.i64.wrap ((((Un b i%2 ^ IntKind.i64.bits).toNat|||(IntKind.i64.wrap (2 ^ min i IntKind.i64.bits)%2 ^ IntKind.i64.bits).toNat:Nat)):Int)=Un b i+2 ^ i:=by
   obtain⟨x,hx⟩:∃x:Nat,Un b i=(x:Int):=⟨(Un b i).toNat,zE⟩
   have hx2:x<2 ^ i:=by
    have h2:=fI.2;rw[hx]at h2
    exact_mod_cast h2
   rw[hx];exact aaJ i zE x hx2
  have hms:Un b (i+1)=Un b i+if b i then 2 ^ i else 0:=rfl;simp[gq,h5,KS,RX,ai];refine hg' _ ?_;cases hb:b i with
  |true=>
   rw[hb]at hms;simp[hor,hw];refine⟨aP,⟨i+1,zE,zE,by rw[hms];rfl⟩,zE⟩
  |false=>
   rw[hb]at hms;simp[hw];refine⟨aP,⟨i+1,zE,zE,by rw[hms];simp⟩,zE⟩
 have bL:i=n:=zE
 subst bL;simp[gq,h5,KS,RX,ai,aiJ];exact hK _
open Go Go.Abs
def Uy(fr t a:Int):Int:=if 1<=fr then min (t-a) fr else t-a
def Yc(fr t a:Int):List (Int×Int):=if a<t then(a,Uy fr t a)::Yc fr t (a+Uy fr t a)else[]
termination_by(t-a).toNat
decreasing_by simp only[Uy];split<;>omega
def Yk(p:Pl):Int:=match Xh p.fi p.aN with|some x=>x.fr|none=>0
def GI(p:Pl):Int:=Un (fun _=>true) (min p.rg 8).toNat
def Qbe(p:Pl)(x:Int×Int):List AV:=[.agg [I 0,I p.fi,I x.1,I x.2,I 0,I (GI p),.sl .nil []]]
def avz(p:Pl):Nat->FuncId->List AV->AV:=fun _ f _=>if f=29 then Zk (Xh p.fi p.aN)else .gd false .junk
def xN(p:Pl)(f t:Int)(hl:p.aN.length<=1000000000)(hb: -1000000000<=f/\t<=1000000000)(hf:f<=1000000000/\ -1000000000<=t):
  ZM Tryz.prog aA 205 [] [.ep (Qa p) 0,.ep [I f] 0,.ep [I t] 0] ((Yc (Yk p) t f).map (Qbe p)):=by
 intro Y l m K hF;have k62:=B9 p p.fi hl;refine Xd adZ (avz p) zd ?_
 obtain⟨b,row,avA,ah⟩:∃(b:Bool)(y:It),Zk (Xh p.fi p.aN)=.aZ [.agg (Qn y),.bool b]/\y.fr=Yk p:=by
  unfold Yk;cases Xh p.fi p.aN with
  |none=>exact⟨false,⟨0,0,0,0,0⟩,rfl,rfl⟩
  |some x=>exact⟨true,x,rfl,rfl⟩
 rw[avA]at k62;simp[V4,Qa,avz,avA,Qn]
 refine⟨k62,sW Y p 207 [] (fun _=>true) _ _ (fun i mm _ _ _ K' h=>by
  show an _ _ _ _ [I (i:Int)] _ _;refine Xd ad1 (fun _ _ _=>.junk) zd ?_;simp[aiK,aiL];exact h) fun bx=>?_⟩
 obtain⟨B0,dF⟩:∃B0,m.boxes.length=B0:=⟨_,rfl⟩;have S2:=hF.ext (m':=⟨m.boxes++[[I row.id,I row.ki,I row.fr,I row.sp,I row.ra]]++bx,m.lens,m.st,m.ln⟩) ⟨zd,fun j hj _=>by rw[zzb];exact Ql hj,⟨[],zd⟩,fun _ _=>rfl⟩;simp only[dF];refine Qk CB (fun g mm=>∃(a:Int)(O:Nat->Prop),g 8=I a/\ -1000000000<=a/\a<=1000000000/\B0<mm.boxes.length/\Qh mm.boxes B0=[I row.id,I row.ki,I row.fr,I row.sp,I row.ra]/\O B0/\jQ (Y l) K ((Yc (Yk p) t a).map (Qbe p)) O mm) (fun g _=>(t-numOf (g 8)).toNat) ?_ ?_
 ·refine⟨f,_,zd,zE,zE,by simp[dF],?_,.inr ⟨zE,by simp;omega⟩,S2⟩;show Qh (m.boxes++[_]++bx) B0=_;rw[Ql (by simp;omega)];subst dF;simp
 rintro g mm ⟨a,O,h8,a1,a2,hlm,T6,um,hFo⟩;by_cases ai:a<t
 ·rw[Yc,if_pos ai]at hFo;simp only[zzay,Qbe]at hFo;have eT:IntKind.i64.wrap (t-a)=t-a:=by rw[Qj]<;>omega
  have J3:Uy (Yk p) t a=if 1<=row.fr then min (t-a) row.fr else t-a:=by rw[Uy,ah]
  have BF:1<=Uy (Yk p) t a/\Uy (Yk p) t a<=t-a:=by rw[J3];split<;>omega
  have dP:IntKind.i64.wrap (a+Uy (Yk p) t a)=a+Uy (Yk p) t a:=by rw[Qj]<;>omega
  have RX:(if row.fr<t-a then row.fr else t-a)=min (t-a) row.fr:=zE
  have hM:Un (fun _=>true) (min p.rg 8).toNat=GI p:=rfl;generalize hN:Uy (Yk p) t a=N at*
  have key:∀g1,(1<=row.fr->g1=min (t-a) row.fr)->True:=fun _ _=>trivial;have hwN:IntKind.i64.wrap N=N:=by rw[Qj]<;>omega
  by_cases iS:1<=row.fr
  ·rw[if_pos iS]at J3;simp[h8,CB,ai,T6,iS,eT,RX,<- J3,hwN,hM,hlm];refine hFo _ (bQ.refl _ _) _ (fun m2 xA qF=>?_) (fun m2 hK=>?_)
   ·have q1:Qh m2.boxes B0=[I row.id,I row.ki,I row.fr,I row.sp,I row.ra]:=by rw[xA.2 B0 (.inl um)];exact T6
    have Bg:=xA.1;simp[dP];refine⟨aP,⟨zE,zE,zE,q1,_,.inl um,qF⟩,zE⟩
   simp[N8];exact hK _ (bQ.refl _ _)
  rw[if_neg iS]at J3;simp[h8,CB,ai,T6,iS,eT,<- J3,hwN,hM,hlm];refine hFo _ (bQ.refl _ _) _ (fun m2 xA qF=>?_) (fun m2 hK=>?_)
  ·have q1:Qh m2.boxes B0=[I row.id,I row.ki,I row.fr,I row.sp,I row.ra]:=by rw[xA.2 B0 (.inl um)];exact T6
   have Bg:=xA.1;simp[dP];refine⟨aP,⟨zE,zE,zE,q1,_,.inl um,qF⟩,zE⟩
  simp[N8];exact hK _ (bQ.refl _ _)
 rw[Yc,if_neg ai]at hFo;simp only[zzcc]at hFo;simp[h8,CB,ai,N8];exact hFo _ (bQ.refl _ _)
open Go Go.Abs
def GH(Y:YT)(p:Pl)(e:En)(a r fr:Int)(m:AM)(bp bf be:Nat)(hc:p.cls.length<=1000000)(gQ:p.sh.length<=1000000000)(cp:p.aN.length<=1000000000)
  (h1:Qh m.boxes bp=Qa p)(h2:Qh m.boxes bf=[I fr])(h3:Qh m.boxes be=Qd e)(K:AV->AM->Prop)(hK:K (.bool (Xt p a r fr e.fr)) m):
  an Tryz.prog aA Y 208 [I a,I r,.ptr bp 0,.ptr bf 0,.ptr be 0] m K:=by
 have k:=Qer p a r fr e.fr hc gQ cp;refine Xd ad2 (fun _ f _=>if f=30 then .bool (Xt p a r fr e.fr)else .junk) zd ?_;simp only[Qa]at h1;simp only[Qd]at h3;simp[aiM,aiN,h1,h2,h3];exact⟨k,hK⟩
def ZX(Y:YT)(p:Pl)(e:En)(r fr:Int)(m:AM)(bp bf be bg:Nat)(hc:p.cls.length<=1000000)(gQ:p.sh.length<=1000000000)(cp:p.aN.length<=1000000000)
  (h1:Qh m.boxes bp=Qa p)(h2:Qh m.boxes bf=[I fr])(h3:Qh m.boxes be=Qd e)(h4:Qh m.boxes bg=[.fn 208 [] [.ptr bp 0,.ptr bf 0,.ptr be 0]])(K:AV->AM->Prop)(hK:K (.bool (Xt p e.it r fr e.fr)) m):
  an Tryz.prog aA Y 209 [I r,.ptr bg 0,.ptr be 0] m K:=by
 have k:=GH Y p e e.it r fr m bp bf be hc gQ cp h1 h2 h3;refine Xd ad3 (fun _ _ _=>.gd false .junk) zd ?_;simp only[Qd]at h3;simp[aiO,h4,h3];refine k _ ?_;simp[aiP];exact hK
open Go Go.Abs
def Es(x:Int)(c:Cl):Bool:=decide (c.fr<=x/\x<c.to)
def grX(C:List Cl)(x:Int):Bool:=match C.reverse.find? (Es x)with
 |some c=>decide (c.ki=1)
 |none=>false
def find_congr{α:Type}{p q:α->Bool}:∀{l:List α},(∀a∈l,p a=q a)->l.find? p=l.find? q
 |[],_=>rfl
 |a::l,h=>by
  have h1:=h a zd;have ih:=find_congr (l:=l) fun b hb=>h b (by simp[hb]);rw[zzeo,zzeo,h1,ih]
def Zx{x:Int}:∀{l:List Int}{j:Nat}{v:Int},l.Pairwise (·<·)->l[j]?=some v->(j<rF l x<->v<x)
 |[],j,v,_,h=>by simp at h
 |a::r,j,v,hp,h=>by
  obtain⟨h1,h2⟩:=zzch.1 hp
  have e:rF (a::r) x=rF r x+if a<x then 1 else 0:=by
   unfold rF;rw[zzei];by_cases ha:a<x<;>simp[ha]
  have hz:¬a<x->rF r x=0:=by
   intro ha;unfold rF;rw[zzcd,zzhj];intro y hy;have:=h1 y hy;simp;omega
  rw[e];cases j with
  |zero=>
   simp at h;subst h;by_cases ha:a<x
   ·simp[ha]
   simp[ha,hz ha]
  |succ j=>
   simp at h;have hav:=h1 v (zzac h);have ih:=Zx (x:=x) h2 h;by_cases ha:a<x
   ·simp only[ha,if_true];omega
   have:=hz ha;simp only[ha,if_false];omega
def I1(Bd:List Int)(j:Nat)(c:Cl):Bool:=decide (rF Bd c.fr<=j/\j<rF Bd c.to)
def I2(Bd:List Int)(j:Nat):∀(R:List Cl)(s:GS),(R.foldl (RU Bd) s)[j]?=(s[j]?).map fun o=>match o with
  |some v=>some v
  |none=>(R.find? (I1 Bd j)).map fun c=>decide (c.ki=1)
 |[],s=>by
  cases h:s[j]? with
  |none=>simp[h]
  |some o=>cases o<;>simp[h]
 |c::R,s=>by
  rw[zzd,I2 Bd j R,RU,Jc,zzeo];cases h:s[j]? with
  |none=>simp
  |some o=>
   cases o with
   |some v=>simp
   |none=>
    by_cases hc:rF Bd c.fr<=j/\j<rF Bd c.to
    ·simp[I1,hc]
    simp[I1,hc]
def I3(Bd:List Int)(s:GS)(x:Int):∀n,Xx (nO Bd s n) x<->∃j,j<n/\s[j]?=some (some true)/\Bd.getD j 0<=x/\x<Bd.getD (j+1) 0
 |0=>by simp[nO]
 |n+1=>by
  rw[rH,Yw,I3 Bd s x n];unfold Dt;constructor
  ·rintro(⟨j,h1,h2⟩|h)
   ·exact⟨j,zE,h2⟩
   split at h
   ·rename_i hs;rw[Xf]at h;obtain h|h:=h
    ·exact⟨n,zE,hs,h⟩
    simp at h
   simp at h
  rintro⟨j,h1,h2,h3⟩;rcases zzaa j n with h|h
  ·exact .inl ⟨j,h,h2,h3⟩
  obtain rfl:j=n:=zE
  right;rw[if_pos h2,Xf];exact .inl h3
def vn{l:List Int}{j:Nat}{v:Int}(h:l[j]?=some v):l.getD j 0=v:=by
 simp[zzar,h]
def avB(C:List Cl)(hC:∀c∈C,c.fr<c.to)(x:Int):Xx (nO (dM C) (xm C) (dM C).length) x<->grX C x=true:=by
 have nQ:=OY C;have dU:∀c∈C,c.fr∈dM C/\c.to∈dM C:=fun c hc=>⟨(uP _ _).2 (pN hc).1,(uP _ _).2 (pN hc).2⟩
 have nR:∀j,j<(dM C).length->(xm C)[j]?=some ((C.reverse.find? (I1 (dM C) j)).map fun c=>decide (c.ki=1)):=by
  intro j hj;rw[xm,I2];have:(List.replicate (dM C).length (none:Option Bool))[j]?=some none:=by simp[hj]
  rw[this];rfl
 have key:∀(j:Nat)(u w:Int),(dM C)[j]?=some u->(dM C)[j+1]?=some w->u<=x->x<w->∀c∈C.reverse,I1 (dM C) j c=Es x c:=by
  intro j u w hu hw h1 h2 c hc;have oW:=zzf.1 hc;have a1:=Zx (x:=c.fr) nQ hu;have a2:=Zx (x:=c.fr) nQ hw;have a3:=Zx (x:=c.to) nQ hu;have a4:=Zx (x:=c.to) nQ hw;obtain⟨m1,m2⟩:=dU c oW
  have gap:∀y∈dM C,y<=u\/w<=y:=by
   intro y hy;obtain⟨k,hk⟩:=zzg hy;rcases zzaa j k with h|h
   ·right;have q1:=Zx (x:=w) nQ hk;have q2:=Zx (x:=w) nQ hw;omega
   left;have q1:=Zx (x:=y) nQ hk;have q2:=Zx (x:=y) nQ hu;omega
  have g1:=gap _ m1;have g2:=gap _ m2;unfold I1 Es;apply decide_eq_decide.2;omega
 have acd:∀(j:Nat)(u w:Int),(dM C)[j]?=some u->(dM C)[j+1]?=some w->u<=x->x<w->((xm C)[j]?=some (some true)<->grX C x=true):=by
  intro j u w hu hw h1 h2;rw[nR j (zza.1 hu).1,find_congr (key j u w hu hw h1 h2),grX];cases C.reverse.find? (Es x)<;>simp
 rw[I3];constructor
 ·rintro⟨j,hj,hs,h1,h2⟩;have iQ:=hs;rw[nR j hj]at hs;cases hf:C.reverse.find? (I1 (dM C) j)with
  |none=>rw[hf]at hs;simp at hs
  |some c=>
   have hc:=zzf.1 (zzee hf);have hi:=zzhh hf;simp only[I1,decide_eq_true_eq]at hi;have hl:=LB (dU c hc).2;have ek:j+1<(dM C).length:=zE
   obtain⟨u,hu⟩:∃u,(dM C)[j]?=some u:=⟨_,zzae hj⟩;obtain⟨w,hw⟩:∃w,(dM C)[j+1]?=some w:=⟨_,zzae ek⟩;rw[vn hu]at h1;rw[vn hw]at h2;exact(acd j u w hu hw h1 h2).1 iQ
 intro hg;have hg':=hg;rw[grX]at hg;cases hf:C.reverse.find? (Es x)with
 |none=>rw[hf]at hg;simp at hg
 |some c=>
  have hc:=zzf.1 (zzee hf);have hi:=zzhh hf;simp only[Es,decide_eq_true_eq]at hi;obtain⟨m1,m2⟩:=dU c hc;obtain⟨k1,dw⟩:=zzg m1;obtain⟨k2,dD⟩:=zzg m2;have a1:=(Zx (x:=x+1) nQ dw).2 zE;have a2:=Zx (x:=x+1) nQ dD;have l2:=(zza.1 dD).1;obtain⟨j,hj⟩:∃j,rF (dM C) (x+1)=j+1:=⟨rF (dM C) (x+1)-1,zE⟩;have ek:j+1<(dM C).length:=zE
  obtain⟨u,hu⟩:∃u,(dM C)[j]?=some u:=⟨_,zzae zE⟩;obtain⟨w,hw⟩:∃w,(dM C)[j+1]?=some w:=⟨_,zzae ek⟩;have b1:=Zx (x:=x+1) nQ hu;have b2:=Zx (x:=x+1) nQ hw;exact⟨j,zE,(acd j u w hu hw zE zE).2 hg',by rw[vn hu];omega,by rw[vn hw];omega⟩
def ahL{cs:List Cl}{item region:Int}:∀c∈Jr cs item region,c.fr<c.to:=by
 intro c hc;simp only[Jr,zzcg,uh,Xj,Yv,zzak,decide_eq_true_eq]at hc;obtain⟨_,h1,_,_,h2⟩:=hc;rw[if_pos h1]at h2;simp at h2;omega
def Nj(cs:List Cl)(item region x:Int):Xx (Qcu cs item region) x<->grX (Jr cs item region) x=true:=by
 rw[Qcu,(Va _).2,avB _ ahL]
def NE(L:List Sp):Prop:=∀s∈L,s.1<s.2
def ahM{L:List Sp}{f t:Int}(h:NE L):NE (nT L f t)/\∀x,Xx (nT L f t) x<->Xx L x\/(f<=x/\x<t):=by
 unfold nT;split
 ·rename_i JO;cases hl:L.getLast? with
  |none=>
   have:L=[]:=by simpa using hl
   subst this;refine⟨by intro s hs;simp at hs;subst hs;exact JO,fun x=>zd⟩
  |some s=>
   obtain⟨D,rfl⟩:∃D,L=D++[s]:=by
    have aM:L≠[]:=by rintro rfl;simp at hl
    refine⟨L.dropLast,?_⟩;have h1:=zzex aM;rw[List.getLast?_eq_some_getLast aM]at hl;cases hl;exact h1.symm
   have hs:=h s zd;simp only;split
   ·rename_i e;simp only[zzga];refine⟨?_,fun x=>?_⟩
    ·intro u hu;rw[zzam]at hu;obtain hu|hu:=hu
     ·exact h u (by simp[hu])
     simp at hu;subst hu;simp only;omega
    simp only[Yw,Xf,Yt,or_false,or_assoc];constructor
    ·rintro(h|h)
     ·exact .inl h
     by_cases x<s.2
     ·exact .inr (.inl zE)
     exact .inr (.inr zE)
    rintro(h|h|h)
    ·exact .inl h
    ·exact .inr zE
    exact .inr zE
   refine⟨?_,fun x=>by simp[or_assoc]⟩;intro u hu;rw[zzam]at hu;obtain hu|hu:=hu
   ·exact h u hu
   simp at hu;subst hu;exact JO
 refine⟨h,fun x=>?_⟩;constructor
 ·exact .inl
 rintro(h|h)
 ·exact h
 omega
def inW(W:List Sp)(n:Int):Prop:=∃w∈W,w.1<=n/\n<w.2
def QF(sf st mid:Int):∀{W L:List Sp},NE L->NE (pQ sf st mid W L)/\∀x,Xx (pQ sf st mid W L) x<->Xx L x\/(sf<=x/\x<st/\inW W (x-mid))
 |[],L,h=>⟨h,fun x=>by simp[pQ,inW]⟩
 |w::W,L,h=>by
  obtain⟨a1,a2⟩:=ahM (f:=max sf (mid+w.1)) (t:=min st (mid+w.2)) h;obtain⟨b1,b2⟩:=QF sf st mid (W:=W) a1;refine⟨b1,fun x=>?_⟩;rw[pQ,b2,a2];simp only[inW,zzat,exists_eq_or_imp];constructor
  ·rintro((h|h)|⟨h1,h2,h3⟩)
   ·exact .inl h
   ·exact .inr ⟨zE,zE,.inl zE⟩
   exact .inr ⟨h1,h2,.inr h3⟩
  rintro(h|⟨h1,h2,h3|h3⟩)
  ·exact .inl (.inl h)
  ·exact .inl (.inr zE)
  exact .inr ⟨h1,h2,h3⟩
def ahN(W:List Sp):Prop:=∀w∈W,0<=w.1/\w.2<=86400
def ahO{W:List Sp}(hW:ahN W)(sf st o:Int):∀(n:Nat)(d:Int){L:List Sp},(st-(d*86400-o)).toNat<=n->NE L->NE (nU W sf st (d*86400-o) L)/\
  ∀x,Xx (nU W sf st (d*86400-o) L) x<->Xx L x\/(sf<=x/\x<st/\d<=(x+o)/86400/\inW W ((x+o)%86400)):=by
 intro n;induction n with
 |zero=>
  intro d L h hL;rw[nU,if_neg zE];refine⟨hL,fun x=>⟨.inl,?_⟩⟩;rintro(h|⟨h1,h2,h3,h4⟩)
  ·exact h
  omega
 |succ n ih=>
  intro d L h hL;rw[nU];split
  ·rename_i hm;obtain⟨a1,a2⟩:=QF sf st (d*86400-o) (W:=W) hL;have e:d*86400-o+86400=(d+1)*86400-o:=zE
   rw[e];obtain⟨b1,b2⟩:=ih (d+1) zE a1;refine⟨b1,fun x=>?_⟩;rw[b2,a2];constructor
   ·rintro((h|⟨h1,h2,w,hw,h3,h4⟩)|⟨h1,h2,h3,h4⟩)
    ·exact .inl h
    ·have:=hW w hw;have hd:(x+o)/86400=d:=zE
     exact .inr ⟨h1,h2,zE,w,hw,zE,zE⟩
    exact .inr ⟨h1,h2,zE,h4⟩
   rintro(h|⟨h1,h2,h3,h4⟩)
   ·exact .inl (.inl h)
   by_cases hd:(x+o)/86400=d
   ·obtain⟨w,hw,h5,h6⟩:=h4;exact .inl (.inr ⟨h1,h2,w,hw,zE,zE⟩)
   exact .inr ⟨h1,h2,zE,h4⟩
  rename_i hm;refine⟨hL,fun x=>⟨.inl,?_⟩⟩;rintro(h|⟨h1,h2,h3,h4⟩)
  ·exact h
  omega
def ao3{s:Sp}{W:List Sp}(hW:ahN W)(y:Int×Int×Int){L:List Sp}(hL:NE L):NE (stL s W y L)/\
  ∀x,Xx (stL s W y L) x<->Xx L x\/(y.1<=x/\x<y.2.1/\s.1<=x/\x<s.2/\inW W ((x+y.2.2)%86400)):=by
 unfold stL;split
 ·refine⟨hL,fun x=>⟨.inl,?_⟩⟩;rintro(h|⟨h1,h2,h3,h4,_⟩)
  ·exact h
  omega
 obtain⟨a1,a2⟩:=ahO hW (max y.1 s.1) (min y.2.1 s.2) y.2.2 _ ((max y.1 s.1+y.2.2)/86400) (zzab _) hL;refine⟨a1,fun x=>?_⟩;rw[a2];constructor
 ·rintro(h|⟨h1,h2,h3,h4⟩)
  ·exact .inl h
  exact .inr ⟨zE,zE,zE,zE,h4⟩
 rintro(h|⟨h1,h2,h3,h4,h5⟩)
 ·exact .inl h
 exact .inr ⟨zE,zE,zE,h5⟩
def QG{s:Sp}{W:List Sp}(hW:ahN W):∀{xs:List (Int×Int×Int)}{L:List Sp},xs.Pairwise (fun a b=>a.1<=b.1)->NE L->∀x,Xx (uo s W xs L) x<->Xx L x\/(s.1<=x/\x<s.2/\∃y∈xs,y.1<=x/\x<y.2.1/\inW W ((x+y.2.2)%86400))
 |[],L,_,hL,x=>by simp[uo]
 |y::r,L,hp,hL,x=>by
  obtain⟨p1,p2⟩:=zzch.1 hp;rw[uo];split
  ·rename_i hb;constructor
   ·exact .inl
   rintro(h|⟨h1,h2,z,hz,h3,h4,_⟩)
   ·exact h
   rcases zzat.1 hz with rfl|hz
   ·omega
   have:=p1 z hz;omega
  obtain⟨a1,a2⟩:=ao3 (s:=s) hW y hL;rw[QG hW p2 a1,a2];simp only[zzat,exists_eq_or_imp];constructor
  ·rintro((h|⟨h1,h2,h3,h4,h5⟩)|⟨h1,h2,h3⟩)
   ·exact .inl h
   ·exact .inr ⟨h3,h4,.inl ⟨h1,h2,h5⟩⟩
   exact .inr ⟨h1,h2,.inr h3⟩
  rintro(h|⟨h1,h2,⟨h3,h4,h5⟩|h3⟩)
  ·exact .inl (.inl h)
  ·exact .inl (.inr ⟨h3,h4,h1,h2,h5⟩)
  exact .inr ⟨h1,h2,h3⟩
def zh(of:Int)(sh:List Sp)(x:Int):Int:=sh.foldl (fun n s=>if s.1<=x then s.2 else n) of
def I4:∀{sh:List Sp}{last:Int},uq last sh=true->sh.Pairwise (fun a b=>a.1<b.1)/\∀s∈sh,last<s.1/\s.1<=10000000000/\gY s.2=true
 |[],_,_=>⟨.nil,fun _ h=>by cases h⟩
 |a::r,last,h=>by
  rw[uq]at h;split at h
  ·cases h
  rename_i hn;simp only[not_or,zzgq]at hn;obtain⟨h1,h2⟩:=I4 h;refine⟨zzch.2 ⟨fun b hb=>(h2 b hb).1,h1⟩,?_⟩;intro s hs;rcases zzat.1 hs with rfl|hs
  ·exact⟨zE,zE,hn.2.2⟩
  have:=h2 s hs;exact⟨zE,this.2⟩
def Ci{x:Int}:∀{sh:List Sp}(o:Int),(∀s∈sh,x<s.1)->zh o sh x=o
 |[],o,_=>rfl
 |a::r,o,h=>by
  have:=h a zd;rw[zh,zzd,if_neg zE];exact Ci o fun s hs=>h s (by simp[hs])
def I5{P:Int->Prop}:∀{sh:List Sp}{f o:Int},(∀s∈sh,f<=s.1/\s.1<=10000000000)->sh.Pairwise (fun a b=>a.1<b.1)->f<=10000000000->∀x,(∃y∈uR f o sh,y.1<=x/\x<y.2.1/\P y.2.2)<->f<=x/\x<=10000000000/\P (zh o sh x)
 |[],f,o,_,_,hf,x=>by
  simp only[uR,zzbd,exists_eq_left,zh,List.foldl_nil];constructor
  ·rintro⟨h1,h2,h3⟩;exact⟨h1,zE,h3⟩
  rintro⟨h1,h2,h3⟩;exact⟨h1,zE,h3⟩
 |s::r,f,o,hb,hp,hf,x=>by
  obtain⟨p1,p2⟩:=zzch.1 hp;have hs:=hb s zd;have ih:=I5 (P:=P) (o:=s.2) (f:=s.1) (sh:=r) (fun t ht=>⟨by have:=p1 t ht;omega,(hb t (by simp[ht])).2⟩) p2 hs.2 x
  have e:(∃y∈uR f o (s::r),y.1<=x/\x<y.2.1/\P y.2.2)<->(f<=x/\x<s.1/\P o)\/∃y∈uR s.1 s.2 r,y.1<=x/\x<y.2.1/\P y.2.2:=by
   rw[uR];simp only[zzam,or_and_right,exists_or];refine or_congr ?_ Iff.rfl;split
   ·simp
   simp;intro h1 h2;omega
  have eo:zh o (s::r) x=zh (if s.1<=x then s.2 else o) r x:=rfl;rw[e,ih,eo];by_cases hx:s.1<=x
  ·rw[if_pos hx];constructor
   ·rintro(⟨h1,h2,h3⟩|⟨h1,h2,h3⟩)
    ·omega
    exact⟨zE,h2,h3⟩
   rintro⟨h1,h2,h3⟩;exact .inr ⟨hx,h2,h3⟩
  rw[if_neg hx];have hn:=Ci (x:=x) (sh:=r) o fun t ht=>by have:=p1 t ht;omega
  rw[hn];constructor
  ·rintro(⟨h1,h2,h3⟩|⟨h1,h2,h3⟩)
   ·exact⟨h1,zE,h3⟩
   omega
  rintro⟨h1,h2,h3⟩;exact .inl ⟨h1,zE,h3⟩
def I6:∀{sh:List Sp}{f o:Int},(∀s∈sh,f<=s.1)->sh.Pairwise (fun a b=>a.1<b.1)->(uR f o sh).Pairwise (fun a b=>a.1<=b.1)/\∀y∈uR f o sh,f<=y.1
 |[],f,o,_,_=>by simp[uR]
 |s::r,f,o,hb,hp=>by
  obtain⟨p1,p2⟩:=zzch.1 hp;have hs:=hb s zd;obtain⟨i1,i2⟩:=I6 (f:=s.1) (o:=s.2) (sh:=r) (fun t ht=>by have:=p1 t ht;omega) p2;rw[uR];refine⟨?_,?_⟩
  ·rw[zzfb];refine⟨by split<;>simp,i1,?_⟩;intro a ha b cO;have:=i2 b cO;split at ha
   ·simp at ha;subst ha;simp only;omega
   simp at ha
  intro y hy;rw[zzam]at hy;obtain hy|hy:=hy
  ·split at hy
   ·simp at hy;subst hy;exact zzbq _
   simp at hy
  have:=i2 y hy;omega
def QH(of:Int)(sh:List Sp)(x fr to:Int):Prop:=0<=x/\x<=10000000000/\inW (zV fr to) ((x+zh of sh x)%86400)
def ace{of:Int}{sh:List Sp}{s:Sp}{fr to:Int}(h:xI of sh s fr to=true)(x:Int):Xx (iI of sh s fr to) x<->s.1<=x/\x<s.2/\QH of sh x fr to:=by
 rw[iI,if_pos h];simp only[xI,Yh,zX,zzak,decide_eq_true_eq]at h;obtain⟨⟨⟨⟨⟨_,_⟩,ha⟩,h1⟩,h2⟩,_⟩:=h;obtain⟨a1,a2⟩:=I4 ha;have hW:ahN (zV fr to):=fun w hw=>by have:=(uU h1 h2).2 w hw;omega
 rw[QG hW (I6 (fun t ht=>by have:=a2 t ht;omega) a1).1 (fun _ h=>by cases h)];rw[I5 (P:=fun o=>inW (zV fr to) ((x+o)%86400)) (fun t ht=>by have:=a2 t ht;omega) a1 zE];simp only[Yt,false_or,QH]
open Go Go.Abs
def QI(p:Pl)(it:It)(region x:Int):Prop:=it.ki=5\/(Kn p=true/\grX (Jr p.cls it.id region) (p.ep+Yp p.nu p.de x)=true/\∀w∈uV p.cls it.ra,QH p.of p.sh (p.ep+Yp p.nu p.de x) w.1 w.2)
def ic(p:Pl)(id region x:Int):Prop:=∃it,Xh id p.aN=some it/\(0<=region/\region<8)/\(0<=x/\x<=100000000)/\QI p it region x
def I7:∀(Xs:List (List Sp))(a:List Sp)(y:Int),Xx (Xs.foldl zZ a) y<->Xx a y/\∀l∈Xs,Xx l y
 |[],a,y=>zd
 |l::Xs,a,y=>by
  rw[zzd,I7 Xs,(lz a l).2];simp only[zzat,forall_eq_or_imp,and_assoc]
def EC{nu de s f:Int}(hv:Vh nu de=true)(hs:0<=s/\s<=10000000000)(hf:0<=f/\f<=100000000):xM nu de s<=f<->s<=Yp nu de f:=by
 obtain⟨b1,b2,b3,b4,b5⟩:=Ka hv;rw[xM,if_pos ⟨hv,hs.1,hs.2⟩,Yp,if_pos ⟨hv,hf.1,hf.2⟩];have q0:0<=s*nu:=zzef hs.1 zE;have q1:0<=f*de:=zzef hf.1 zE;rw[zzco zE,zzco q1]
 have e1:(s*nu+de-1)/de<=f<->s*nu<=f*de:=by
  rw[<- Int.lt_add_one_iff,Int.ediv_lt_iff_lt_mul zE];have:(f+1)*de=f*de+de:=by rw[Int.add_mul];omega
  omega
 rw[e1,Int.le_ediv_iff_mul_le zE]
def Nk{p:Pl}{U:List Sp}(hv:Vh p.nu p.de=true)(hU:∀w∈U,(0<=w.1-p.ep/\w.1-p.ep<=10000000000)/\(0<=w.2-p.ep/\w.2-p.ep<=10000000000)){f:Int}(hf:0<=f/\f<=100000000):
  Xx (U.map (uW p)) f<->Xx U (p.ep+Yp p.nu p.de f):=by
 unfold Xx;simp only[zzax];constructor
 ·rintro⟨_,⟨w,hw,rfl⟩,h1,h2⟩;obtain⟨u1,u2⟩:=hU w hw;have a1:=EC hv u1 hf;have a2:=EC hv u2 hf;simp only[uW]at h1 h2;exact⟨w,hw,zE,zE⟩
 rintro⟨w,hw,h1,h2⟩;obtain⟨u1,u2⟩:=hU w hw;have a1:=EC hv u1 hf;have a2:=EC hv u2 hf;exact⟨_,⟨w,hw,rfl⟩,by simp only[uW];omega,by simp only[uW];omega⟩
def acf{cs:List Cl}{ra:Int}:∀w∈uV cs ra,zX w.1=true/\zX w.2=true:=by
 intro w hw;simp only[uV,zzax,zzcg,I8,zzak,decide_eq_true_eq,Xj]at hw;obtain⟨c,⟨_,h1,_,_,h2⟩,rfl⟩:=hw;rw[Yv]at h2;simp only[h1]at h2;simp[Vz,wi]at h2;simp only[zX,decide_eq_true_eq];omega
def ahP(s:Sp):0<=(R2 s).1/\(R2 s).2<=100000001/\∀x,((R2 s).1<=x/\x<(R2 s).2)<->(s.1<=x/\x<s.2/\0<=x/\x<=100000000):=by
 simp only[R2];refine⟨zE,zE,fun x=>?_⟩;omega
def lF(p:Pl)(id region:Int)(s:Sp)(hs:s.2-s.1<=1000000)(x:Int):Xx (Vq p id region s) x<->s.1<=x/\x<s.2/\ic p id region x:=by
 obtain⟨c0,c1,cx⟩:=ahP s;have cl:(R2 s).2-(R2 s).1<=1000000:=by simp only[R2];omega
 unfold Vq ic;generalize R2 s=c at*
 cases hf:Xh id p.aN with
 |none=>simp
 |some it=>
  simp only[Option.some.injEq,exists_eq_left'];split
  ·rename_i hb;simp only[Yt,false_iff];rintro⟨h1,h2,h3,h4,_⟩;have:=(cx x).2 ⟨h1,h2,h4⟩;omega
  rename_i hb;simp only[not_or]at hb;split
  ·rename_i hk;simp only[Xf,Yt,or_false,QI,hk,true_or,and_true];rw[cx x];constructor
   ·rintro⟨h1,h2,h3,h4⟩;exact⟨h1,h2,zE,h3,h4⟩
   rintro⟨h1,h2,h3,h4⟩;exact⟨h1,h2,h4⟩
  rename_i hk;split
  ·rename_i ht;simp[QI,hk,ht]
  rename_i ht;have ZW:Kn p=true:=by simpa using ht
  have hte:Vh p.nu p.de=true/\Yh p.of p.sh=true/\0<=p.ep/\p.ep<=9000000000:=by
   simp only[Kn,zzak,decide_eq_true_eq]at ZW;exact⟨ZW.1.1,ZW.1.2,ZW.2⟩
  obtain⟨hv,hz,he⟩:=hte;rw[(lz _ _).2];obtain⟨u,hu⟩:∃u,uS p c=u:=⟨_,rfl⟩;have hu1:u.1=p.ep+Yp p.nu p.de c.1:=by rw[<- hu];rfl
  have K4:u.2=p.ep+Yp p.nu p.de (c.2-1)+1:=by rw[<- hu];rfl
  rw[hu];have hd:=lB (f:=c.1) (g:=c.2-1) hv zE zE zE;have hs1:=pR p.nu p.de c.1;have Ln:=pR p.nu p.de (c.2-1)
  have OC:0<=Yp p.nu p.de c.1:=by
   rw[Yp,if_pos ⟨hv,zE,zE⟩];exact Int.tdiv_nonneg (zzef zE (by have:=Ka hv;omega)) (by have:=Ka hv;omega)
  have dH:iJ p it region u (lZ p it region u).length=(lZ p it region u).foldl zZ [u]:=by simp[iJ]
  have bL:T8 u.1 u.2 (iJ p it region u (lZ p it region u).length):=by
   rw[dH];exact DA _ _ (by intro w hw;simp at hw;subst hw;omega)
  by_cases hx:c.1<=x/\x<c.2
  ·have iD:=(cx x).1 hx;have m1:=lB (f:=c.1) (g:=x) hv zE zE zE;have m2:=lB (f:=x) (g:=c.2-1) hv zE zE zE;rw[Nk hv (fun w hw=>by have:=bL w hw;omega) ⟨zE,zE⟩,dH,I7];simp only[Xf,Yt,or_false,QI,hk,false_or,ZW,true_and]
   have hl:(∀l∈lZ p it region u,Xx l (p.ep+Yp p.nu p.de x))<->(grX (Jr p.cls it.id region) (p.ep+Yp p.nu p.de x)=true/\∀w∈uV p.cls it.ra,QH p.of p.sh (p.ep+Yp p.nu p.de x) w.1 w.2):=by
    unfold lZ;simp only[zzat,forall_eq_or_imp,zzax,forall_exists_index,and_imp,forall_apply_eq_imp_iff₂];rw[Nj];refine and_congr Iff.rfl (forall_congr' fun w=>forall_congr' fun hw=>?_);obtain⟨d1,d2⟩:=acf w hw;rw[ace (by simp only[xI,hz,d1,d2,zzgn,zzdu,decide_eq_true_eq];omega)];constructor
    ·rintro⟨_,_,h⟩;exact h
    intro h;exact⟨zE,zE,h⟩
   rw[hl];constructor
   ·rintro⟨⟨_,h⟩,_⟩;exact⟨iD.1,iD.2.1,zE,iD.2.2,h⟩
   rintro⟨_,_,_,_,h⟩;exact⟨⟨zE,h⟩,hx⟩
  simp only[Xf,Yt,or_false];constructor
  ·rintro⟨_,h⟩;exact absurd h hx
  rintro⟨h1,h2,_,h4,_⟩;exact absurd ((cx x).2 ⟨h1,h2,h4⟩) hx
def Qes(p:Pl)(id region f n:Int):Xt p id region f n=true<->(1<=n/\n<=1000000/\0<=f/\f+n-1<=100000000)/\∀x,f<=x->x<f+n->ic p id region x:=by
 unfold Xt;split
 ·rename_i hb;simp only[zzbp,false_iff];rintro⟨⟨h1,h2,h3,h4⟩,_⟩;obtain h|h|h|h:=hb
  ·omega
  ·omega
  ·simp[frB]at h;omega
  simp[frB]at h;omega
 rename_i hb;simp only[not_or,zzgq,frB,decide_eq_true_eq]at hb;obtain⟨b1,b2,b3,b4⟩:=hb;rw[List.isEmpty_iff,Nl (by simp only;omega)];constructor
 ·intro h;refine⟨zE,fun x h1 h2=>?_⟩;exact((lF p id region (f,f+n) (by simp only;omega) x).1 (h x h1 h2)).2.2
 rintro⟨_,h⟩ x h1 h2;exact(lF p id region (f,f+n) (by simp only;omega) x).2 ⟨h1,h2,h x h1 h2⟩
def M6{p:Pl}{id region f n g m:Int}(h:Xt p id region f n=true)(h1:f<=g)(h2:g+m<=f+n)(h3:1<=m):Xt p id region g m=true:=by
 rw[Qes]at*
 obtain⟨⟨a1,a2,a3,a4⟩,a5⟩:=h;exact⟨zE,fun x h1 h2=>a5 x zE zE⟩
