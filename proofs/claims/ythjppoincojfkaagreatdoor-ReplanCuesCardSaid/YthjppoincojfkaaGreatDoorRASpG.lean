import Derived.Test.YthjppoincojfkaaGreatDoorRAMO
set_option linter.all false
set_option maxRecDepth 100000
set_option maxHeartbeats 64000000
namespace Go.Proofs.YthjppoincojfkaaGreatDoor
open Go Go.Abs
structure It where
 id:Int
 ki:Int
 fr:Int
 sp:Int
 ra:Int
structure Cl where
 ki:Int
 it:Int
 fr:Int
 to:Int
 re:Int
 n:Int
 a:Int
 b:Int
structure En where
 id:Int
 it:Int
 fr:Int
 ea:Int
 la:Int
 bo:Int
 al:List Sp
structure Bk where
 id:Int
 it:Int
 re:Int
 fr:Int
 to:Int
 un:Int
 pr:Int
structure Pl where
 ch:Int
 nu:Int
 de:Int
 of:Int
 sh:List Sp
 ep:Int
 rg:Int
 ln:Int
 fi:Int
 aN:List It
 ens:List En
 bks:List Bk
 cls:List Cl
def Qm(x:It):P2:=[I x.id,I x.ki,I x.fr,I x.sp,I x.ra]
def Qg(x:Cl):P2:=[I x.ki,I x.it,I x.fr,I x.to,I x.re,I x.n,I x.a,I x.b]
def Qd(x:En):P2:=[I x.id,I x.it,I x.fr,I x.ea,I x.la,I x.bo,.sl .ro (x.al.map Qe)]
def Xj(x:Bk):P2:=[I x.id,I x.it,I x.re,I x.fr,I x.to,I x.un,I x.pr]
def Qa(p:Pl):P2:=[I p.ch,I p.nu,I p.de,I p.of,.sl .ro (p.sh.map Qe),I p.ep,I p.rg,I p.ln,I p.fi,.sl .ro (p.aN.map Qm),.sl .ro (p.ens.map Qd),.sl .ro (p.bks.map Xj),.sl .ro (p.cls.map Qg)]
def F7(l:List Sp)(s:Sp)(hl:l.length<=10000000):Pure Tryz.prog aD 39 [.sl .ro (l.map Qe),.agg [I s.1,I s.2]] (.bool (Da [s] l).isEmpty):=by
 have h:=zX [s] l zd hl;have h':=Xp (l:=[.sl .full [[I s.1,I s.2]],.sl .ro (l.map Qe)]) h ⟨Wk.sl _ _,Ps,trivial⟩;generalize Da [s] l=R at h';refine Qo ajI (fun _ f _=>if f=79 then .sl .ro (R.map Qe)else .junk) zd ?_;cases R with
 |nil=>simp[ajG,ajH];exact h'
 |cons a r=>
  have:¬(r.length:Int)+1=0:=zE
  simp[ajG,ajH,this];exact h'
def Xk(id:Int):List It->Option It
 |[]=>none
 |x::r=>if x.id=id then some x else Xk id r
def xQ{id:Int}{x:It}:∀{l:List It},Xk id l=some x->x∈l/\x.id=id
 |[],h=>by cases h
 |y::r,h=>by
  simp only[Xk]at h;split at h
  ·rename_i hy;cases h;exact⟨zd,hy⟩
  obtain⟨h1,h2⟩:=xQ h;exact⟨by simp[h1],h2⟩
def Zq:Option It->AV
 |some x=>.aS [.agg (Qm x),.bool true]
 |none=>.aS [.agg [I 0,I 0,I 0,I 0,I 0],.bool false]
def kT(p:Pl)(id:Int)(hl:p.aN.length<=1000000000):Pure Tryz.prog aD 80 [.agg (Qa p),I id] (Zq (Xk id p.aN)):=by
 refine Qo akg (fun _ _ _=>.junk) zd ?_;simp[aoU,Qa];refine Qk Mv (fun f m=>∃(i:Nat)(bx:T5),f 11=I i/\i<=p.aN.length/\Xk id (p.aN.drop i)=Xk id p.aN/\m=⟨Qa p::[I 0,I 0,I 0,I 0,I 0]::bx,[],fun _=>.gone,0⟩) (fun f _=>p.aN.length-(numOf (f 11)).toNat) ?_ ?_
 ·exact⟨0,[],zd,zE,rfl,rfl⟩
 rintro f m ⟨i,bx,pE,hi,hf,rfl⟩;rcases zzaa i p.aN.length with ai|bn
 ·obtain⟨x,hx⟩:=aV ai;have ah:Qj (p.aN.map Qm) i=Qm x:=Qu (by simp[hx]);have aa:(i:Int)<(p.aN.length:Int):=zE
  have hw:=bO i zE;have hd:p.aN.drop i=x::p.aN.drop (i+1):=by rw[zzag ai,(zza.1 hx).2]
  rw[hd,Xk]at hf;by_cases aL:x.id=id
  ·rw[if_pos aL]at hf;simp[pE,ai,aa,ah,Qm,aL,Mv,akf,<- hf,Zq]
  rw[if_neg aL]at hf;simp[pE,ai,aa,ah,Qm,aL,Mv,hw];refine⟨aQ,⟨i+1,zd,zE,hf⟩,zE⟩
 rw[zzal bn]at hf;have bQ:¬(i:Int)<(p.aN.length:Int):=zE
 simp[pE,zzbk.2 bn,bQ,Mv,akf,<- hf,Zq,Xk]
def y5:List (Int×Int×Int×Int):=[(24000,1001,24,0),(24,1,24,0),(25,1,25,0),(30000,1001,30,2),(30,1,30,0),(50,1,50,0),(60000,1001,60,4),(60,1,60,0)]
def Ae(nu de:Int):List (Int×Int×Int×Int)->Option (Int×Int×Int×Int)
 |[]=>none
 |x::r=>if x.1=nu/\x.2.1=de then some x else Ae nu de r
def Vh(nu de:Int):Bool:=(Ae nu de y5).isSome
def Ie:Option (Int×Int×Int×Int)->AV
 |some x=>.aS [.agg [I x.1,I x.2.1,I x.2.2.1,I x.2.2.2],.bool true]
 |none=>.aS [.agg [I 0,I 0,I 0,I 0],.bool false]
def R2:∀i:Nat,i<8->∃x,y5[i]?=some x/\(HB.drop (i*4)).take 4=[I x.1,I x.2.1,I x.2.2.1,I x.2.2.2]/\y5.drop i=x::y5.drop (i+1)
 |0,_=>⟨_,rfl,rfl,rfl⟩
 |1,_=>⟨_,rfl,rfl,rfl⟩
 |2,_=>⟨_,rfl,rfl,rfl⟩
 |3,_=>⟨_,rfl,rfl,rfl⟩
 |4,_=>⟨_,rfl,rfl,rfl⟩
 |5,_=>⟨_,rfl,rfl,rfl⟩
 |6,_=>⟨_,rfl,rfl,rfl⟩
 |7,_=>⟨_,rfl,rfl,rfl⟩
 |n+8,h=>zE
def Jy{nu de:Int}(h:Vh nu de=true):24<=nu/\nu<=60000/\1<=de/\de<=1001/\de<nu:=by
 simp only[Vh,y5,Ae]at h;repeat' split at h
 all_goals first|(cases h;done)|omega
theorem aaW:HB.length=32:=rfl
def R3(nu de:Int):Pure Tryz.prog aD 188 [.agg [I nu,I de]] (Ie (Ae nu de y5)):=by
 refine Qo acI (fun _ _ _=>.junk) zd ?_;have hg:aD 2=.ep HB 0:=rfl;have lZ:=aaW;have bA:HB.take 32=HB:=rfl;simp[aha,hg,lZ,bA];refine Qk vF (fun f m=>∃(i:Nat)(bx:T5),f 7=I i/\i<=8/\Ae nu de (y5.drop i)=Ae nu de y5/\m=⟨[I nu,I de]::[I 0,I 0,I 0,I 0]::bx,[],fun _=>.gone,0⟩) (fun f _=>8-(numOf (f 7)).toNat) ?_ ?_
 ·exact⟨0,[],zd,zE,rfl,rfl⟩
 rintro f m ⟨i,bx,h7,hi,hf,rfl⟩;by_cases h8:i=8
 ·subst h8;have:Ae nu de (y5.drop 8)=none:=rfl;rw[this]at hf;simp[h7,vF,TR,<- hf,Ie]
 have ai:i<8:=zE
 obtain⟨x,hx,ah,hd⟩:=R2 i ai;have aa:(i:Int)<8:=zE
 have hw:=bO i zE;have xq:min 4 (32-i*4)=4:=zE
 rw[hd,Ae]at hf;by_cases hc:x.1=nu/\x.2.1=de
 ·rw[if_pos hc]at hf;simp[h7,ai,aa,lZ,ah,xq,hc.1,hc.2,vF,TR,<- hf,Ie]
 rw[if_neg hc]at hf;by_cases fD:x.1=nu
 ·have zb:¬x.2.1=de:=fun h=>hc ⟨fD,h⟩;simp[h7,ai,aa,lZ,ah,xq,fD,zb,vF,hw];refine⟨aQ,⟨i+1,zd,zE,hf⟩,zE⟩
 simp[h7,ai,aa,lZ,ah,xq,fD,vF,hw];refine⟨aQ,⟨i+1,zd,zE,hf⟩,zE⟩
def Wt(nu de:Int):Pure Tryz.prog aD 132 [.agg [I nu,I de]] (.bool (Vh nu de)):=by
 have h:=R3 nu de;unfold Vh;refine Qo abW (fun _ _ _=>Ie (Ae nu de y5)) zd ?_;cases hf:Ae nu de y5 with
 |none=>rw[hf]at h;simp only[Ie]at h;simp[Tw,Tx,Ie];exact h
 |some x=>rw[hf]at h;simp only[Ie]at h;simp[Tw,Tx,Ie];exact h
def Ig(f:Int):Pure Tryz.prog aD 190 [I f] (.bool (decide (0<=f/\f<=100000000))):=by
 refine Qo acK (fun _ _ _=>.junk) zd ?_;by_cases h1:0<=f<;>by_cases h2:f<=100000000<;>simp[ahd,ahe,h1,h2]
def sQ(f:Int):Pure Tryz.prog aD 38 [I f] (.bool (decide (0<=f/\f<=100000000))):=by
 refine Qo ajF (fun _ _ _=>.junk) zd ?_;by_cases h1:0<=f<;>by_cases h2:f<=100000000<;>simp[aos,aot,h1,h2]
def Yo(nu de f:Int):Int:=if Vh nu de=true/\0<=f/\f<=100000000 then(f*de).tdiv nu else -1
def xE(nu de s:Int):Int:=if Vh nu de=true/\0<=s/\s<=10000000000 then(s*nu+de-1).tdiv de else -1
def Dp{x y a b:Int}(h1:0<=x/\x<=a)(h2:0<=y/\y<=b):0<=x*y/\x*y<=a*b:=
 ⟨zzeb h1.1 h2.1,Int.mul_le_mul h1.2 h2.2 h2.1 (zzhk h1.1 h1.2)⟩
def Dq{x y:Int}(h:0<=x)(hy:1<=y):0<=x.tdiv y/\x.tdiv y<=x:=by
 rw[zzcj h];exact⟨Int.ediv_nonneg h zE,Int.ediv_le_self _ h⟩
def QC(nu de f:Int):Pure Tryz.prog aD 134 [.agg [I nu,I de],I f] (I (Yo nu de f)):=by
 have h1:=Wt nu de;have h2:=Ig f;refine Qo abY (fun _ g _=>if g=132 then .bool (Vh nu de)else .bool (decide (0<=f/\f<=100000000))) zd ?_;cases hv:Vh nu de with
 |false=>rw[hv]at h1;simp[MI,MJ,hv,Yo];exact h1
 |true=>
  rw[hv]at h1;by_cases hf:0<=f/\f<=100000000
  ·obtain⟨b1,b2,b3,b4,_⟩:=Jy hv;obtain⟨p1,p2⟩:=Dp (x:=f) (y:=de) (a:=100000000) (b:=1001) ⟨hf.1,hf.2⟩ ⟨zE,zE⟩;have w1:IntKind.i64.wrap (f*de)=f*de:=by rw[Ql]<;>omega
   obtain⟨d1,d2⟩:=Dq (x:=f*de) (y:=nu) p1 zE;have w2:IntKind.i64.wrap ((f*de).tdiv nu)=(f*de).tdiv nu:=by rw[Ql]<;>omega
   have hnz:¬nu=0:=zE
   simp[hf]at h2;simp[MI,MJ,hv,Yo,hf,w1,w2,hnz];exact⟨h1,h2⟩
  simp only[hf,decide_false]at h2;simp[MI,MJ,hv,Yo,hf];exact⟨h1,h2⟩
def afZ(a b:Int)(ha:0<=a/\a<=1000000000000000)(hb:1<=b/\b<=1001):Pure Tryz.prog aD 140 [I a,I b] (I ((a+b-1).tdiv b)):=by
 refine Qo ab4 (fun _ _ _=>.junk) zd ?_;have w1:IntKind.i64.wrap (a+b)=a+b:=by rw[Ql]<;>omega
 have w2:IntKind.i64.wrap (a+b-1)=a+b-1:=by rw[Ql]<;>omega
 obtain⟨d1,d2⟩:=Dq (x:=a+b-1) (y:=b) zE zE;have w3:IntKind.i64.wrap ((a+b-1).tdiv b)=(a+b-1).tdiv b:=by rw[Ql]<;>omega
 have hnz:¬b=0:=zE
 simp[agB,agC,w1,w2,w3,hnz]
def A9(nu de s:Int):Pure Tryz.prog aD 86 [.agg [I nu,I de],I s] (I (xE nu de s)):=by
 have h1:=Wt nu de;refine Qo akn (fun _ g _=>if g=132 then .bool (Vh nu de)else I (xE nu de s)) zd ?_;cases hv:Vh nu de with
 |false=>rw[hv]at h1;simp[S9,Ta,hv,xE];exact h1
 |true=>
  rw[hv]at h1;by_cases Nn:s<0
  ·have:¬(0<=s/\s<=10000000000):=zE
   simp[S9,Ta,hv,xE,Nn,this];exact h1
  by_cases hs1:10000000000<s
  ·have:¬(0<=s/\s<=10000000000):=zE
   simp[S9,Ta,hv,xE,Nn,hs1,this];exact h1
  have hs:0<=s/\s<=10000000000:=zE
  obtain⟨b1,b2,b3,b4,_⟩:=Jy hv;obtain⟨p1,p2⟩:=Dp (x:=s) (y:=nu) (a:=10000000000) (b:=60000) ⟨hs.1,hs.2⟩ ⟨zE,zE⟩;have w1:IntKind.i64.wrap (s*nu)=s*nu:=by rw[Ql]<;>omega
  have h2:=afZ (s*nu) de ⟨p1,zE⟩ ⟨zE,zE⟩;simp[S9,Ta,hv,xE,Nn,hs1,hs,w1];exact⟨h1,h2⟩
def gT(n:Int):Bool:=decide (-50400<=n/\n<=50400)
def y6(n:Int):Pure Tryz.prog aD 189 [I n] (.bool (gT n)):=by
 refine Qo acJ (fun _ _ _=>.junk) zd ?_;by_cases h1: -50400<=n<;>by_cases h2:n<=50400<;>simp[ahb,ahc,gT,h1,h2]
def tX:Int->List Sp->Bool
 |_,[]=>true
 |last,s::r=>if s.1<=last\/10000000000<s.1\/gT s.2=false then false else tX s.1 r
def Yj(of:Int)(sh:List Sp):Bool:=decide (sh.length<=40)&&gT of&&tX (-1) sh
def jI(of:Int)(sh:List Sp)(hl:sh.length<=1000000000):Pure Tryz.prog aD 133 [.agg [I of,.sl .ro (sh.map Qe)]] (.bool (Yj of sh)):=by
 have h1:=y6 of;refine Qo abX (fun d f a=>match a with|[.int _ n]=>.bool (gT n)|_=>.junk) zd ?_;by_cases h40:40<sh.length
 ·have af0:(40:Int)<(sh.length:Int):=zE
  have:Yj of sh=false:=by simp[Yj];intro h;omega
  simp[Er,vr,h40,af0,this]
 have af0:¬(40:Int)<(sh.length:Int):=zE
 cases ho:gT of with
 |false=>
  have:Yj of sh=false:=by simp[Yj,ho]
  rw[ho]at h1;simp[Er,vr,h40,af0,this,ho];exact h1
 |true=>
  have hv:Yj of sh=tX (-1) sh:=by simp[Yj,ho];intro _;omega
  rw[ho]at h1;simp[Er,h40,af0,ho];refine⟨h1,?_⟩;refine Qk qz (fun f m=>∃(i:Nat)(last:Int)(bx:T5),f 19=I i/\f 3=I last/\i<=sh.length/\tX last (sh.drop i)=tX (-1) sh/\m=⟨[I of,.sl .ro (sh.map Qe)]::bx,[],fun _=>.gone,0⟩) (fun f _=>sh.length-(numOf (f 19)).toNat) ?_ ?_
  ·exact⟨0,-1,[],zd,zd,zE,rfl,rfl⟩
  rintro f m ⟨i,last,bx,h19,h3,hi,ha,rfl⟩;rcases zzaa i sh.length with ai|bn
  ·obtain⟨s,hs⟩:=aV ai;have ah:=Zx hs;have aa:(i:Int)<(sh.length:Int):=zE
   have hw:=bO i zE;have hd:sh.drop i=s::sh.drop (i+1):=by rw[zzag ai,(zza.1 hs).2]
   rw[hd,tX]at ha;have hp:=y6 s.2;by_cases c1:s.1<=last
   ·rw[if_pos (.inl c1)]at ha;simp[h19,h3,ai,aa,ah,c1,qz,vr,hv,<- ha]
   by_cases c2:10000000000<s.1
   ·rw[if_pos (.inr (.inl c2))]at ha;simp[h19,h3,ai,aa,ah,c1,c2,qz,vr,hv,<- ha]
   cases c3:gT s.2 with
   |false=>
    rw[if_pos (.inr (.inr c3))]at ha;rw[c3]at hp;simp[h19,h3,ai,aa,ah,c1,c2,c3,qz,vr,hv,<- ha];exact hp
   |true=>
    rw[if_neg (by rintro(h|h|h);exact c1 h;exact c2 h;rw[c3]at h;cases h)]at ha;rw[c3]at hp;simp[h19,h3,ai,aa,ah,c1,c2,c3,qz,hw];refine⟨hp,aQ,⟨i+1,zd,zE,ha⟩,zE⟩
  rw[zzal bn,tX]at ha;have bQ:¬(i:Int)<(sh.length:Int):=zE
  simp[h19,zzbk.2 bn,bQ,qz,vr,hv,<- ha]
def Ki(p:Pl):Bool:=Vh p.nu p.de&&Yj p.of p.sh&&decide (0<=p.ep/\p.ep<=9000000000)
def KL(p:Pl)(hl:p.sh.length<=1000000000):Pure Tryz.prog aD 81 [.agg (Qa p)] (.bool (Ki p)):=by
 have h1:=Wt p.nu p.de;have h2:=jI p.of p.sh hl;refine Qo akh (fun _ g _=>if g=132 then .bool (Vh p.nu p.de)else .bool (Yj p.of p.sh)) zd ?_;cases hv:Vh p.nu p.de with
 |false=>rw[hv]at h1;simp[abu,abv,Qa,Ki,hv];exact h1
 |true=>
  rw[hv]at h1;cases hz:Yj p.of p.sh with
  |false=>rw[hz]at h2;simp[abu,abv,Qa,Ki,hv,hz];exact⟨h1,h2⟩
  |true=>
   rw[hz]at h2;by_cases c1:0<=p.ep<;>by_cases c2:p.ep<=9000000000<;>simp[abu,abv,Qa,Ki,hv,hz,c1,c2]<;>exact⟨h1,h2⟩
open Go Go.Abs
instance:DecidableEq Cl:=fun x y=>decidable_of_iff (x.ki=y.ki/\x.it=y.it/\x.fr=y.fr/\x.to=y.to/\x.re=y.re/\x.n=y.n/\x.a=y.a/\x.b=y.b) (by cases x;cases y;simp)
def wi(n lo hi:Int):Bool:=decide (lo<=n/\n<=hi)
def Vt(n lo hi:Int):Pure Tryz.prog aD 98 [I n,I lo,I hi] (.bool (wi n lo hi)):=by
 refine Qo Tj (fun _ _ _=>.junk) zd ?_;by_cases h1:lo<=n<;>by_cases h2:n<=hi<;>simp[akE,akF,wi,h1,h2]
def gY(c:Cl):Cl:=
 if c.ki=1\/c.ki=2 then⟨c.ki,c.it,c.fr,c.to,c.re,0,0,0⟩else if c.ki=3\/c.ki=4 then⟨c.ki,c.it,0,0,c.re,c.n,0,0⟩else
 if c.ki=5 then⟨c.ki,0,0,0,0,c.n,c.a,c.b⟩else if c.ki=6 then⟨c.ki,0,c.fr,c.to,0,0,c.a,0⟩else⟨0,0,0,0,0,0,0,0⟩
def R4(c:Cl):Pure Tryz.prog aD 96 [.agg (Qg c)] (.agg (Qg (gY c))):=by
 refine Qo Th (fun _ _ _=>.junk) zd ?_;by_cases h1:c.ki=1
 ·simp[BR,BS,Qg,gY,h1]
 by_cases h2:c.ki=2
 ·simp[BR,BS,Qg,gY,h2]
 by_cases h3:c.ki=3
 ·simp[BR,BS,Qg,gY,h3]
 by_cases h4:c.ki=4
 ·simp[BR,BS,Qg,gY,h4]
 by_cases h5:c.ki=5
 ·simp[BR,BS,Qg,gY,h5]
 by_cases h6:c.ki=6
 ·simp[BR,BS,Qg,gY,h6]
 simp[BR,BS,Qg,gY,h1,h2,h3,h4,h5,h6]
def Ja(c:Cl):Bool:=wi c.it 1 4611686018427387903&&wi c.re 1 255
def y7:UV:=fun _ _ l=>match l with
 |[.int _ n,.int _ lo,.int _ hi]=>.bool (wi n lo hi)
 |_=>.junk
def Ih(c:Cl):Pure Tryz.prog aD 97 [.agg (Qg c)] (.bool (Ja c)):=by
 have h1:=Vt c.it 1 4611686018427387903;have h2:=Vt c.re 1 255;refine Qo Ti y7 zd ?_;cases e1:wi c.it 1 4611686018427387903 with
 |false=>rw[e1]at h1;simp[abw,abx,Qg,y7,Ja,e1];exact h1
 |true=>rw[e1]at h1;simp[abw,abx,Qg,y7,Ja,e1];exact⟨h1,h2⟩
def Kn(n:Int):Bool:=wi n 0 86340&&decide (n.tmod 60=0)
def tF(n:Int):Pure Tryz.prog aD 99 [I n] (.bool (Kn n)):=by
 have h1:=Vt n 0 86340;refine Qo Tk y7 zd ?_;cases e1:wi n 0 86340 with
 |false=>rw[e1]at h1;simp[aby,abz,y7,Kn,e1];exact h1
 |true=>
  rw[e1]at h1;by_cases e2:n.tmod 60=0<;>simp[aby,abz,y7,Kn,e1,e2]<;>exact h1
def Wx(c:Cl):Bool:=
 if c.ki=1\/c.ki=2 then Ja c&&(decide (0<=c.fr)&&(decide (c.fr<c.to)&&decide (c.to<=10000000000)))else if c.ki=3 then Ja c&&wi c.n 0 1000 else
 if c.ki=4 then Ja c&&wi c.n 0 10000000000 else if c.ki=5 then wi c.a 1 200&&(wi c.b 1 200&&(decide (c.a≠c.b)&&wi c.n 0 86400))else
 if c.ki=6 then wi c.a 1 3&&(Kn c.fr&&(Kn c.to&&decide (c.fr≠c.to)))else false
def Zd(c:Cl):Bool:=decide (gY c=c)&&Wx c
def ayn(c u:Cl):eqFs [I c.ki,I c.it,I c.fr,I c.to,I c.re,I c.n,I c.a,I c.b] [I u.ki,I u.it,I u.fr,I u.to,I u.re,I u.n,I u.a,I u.b]=decide (u=c):=by
 obtain⟨a1,a2,a3,a4,a5,a6,a7,a8⟩:=c;obtain⟨b1,b2,b3,b4,b5,b6,b7,b8⟩:=u;simp only[eqFs,eqF,Cl.mk.injEq,zzgd];by_cases h:(b1=a1/\b2=a2/\b3=a3/\b4=a4/\b5=a5/\b6=a6/\b7=a7/\b8=a8)
 ·obtain⟨rfl,rfl,rfl,rfl,rfl,rfl,rfl,rfl⟩:=h;simp
 rw[decide_eq_false h];apply Bool.eq_false_iff.2;intro hh;simp only[zzac,beq_iff_eq]at hh;obtain⟨e1,e2,e3,e4,e5,e6,e7,e8⟩:=hh;exact h ⟨e1.symm,e2.symm,e3.symm,e4.symm,e5.symm,e6.symm,e7.symm,e8.symm⟩
def anq(c:Cl):UV:=fun _ f l=>
 if f=96 then .agg (Qg (gY c))else if f=97 then .bool (Ja c)else if f=98 then(match l with
 |[.int _ n,.int _ lo,.int _ hi]=>.bool (wi n lo hi)
 |_=>.junk)else match l with
 |[.int _ n]=>.bool (Kn n)
 |_=>.junk
def Ky(c:Cl):Pure Tryz.prog aD 48 [.agg (Qg c)] (.bool (Zd c)):=by
 have h0:=R4 c;have hE:=ayn c (gY c);have hi:=Ih c;refine Qo SU (anq c) zd ?_;by_cases hu:gY c=c
 ·rw[hu]at h0 hE;simp only[decide_true]at hE;have hv:Zd c=Wx c:=by simp[Zd,hu]
  rw[hv];simp[-eqFs,abk,Qg,anq,hu,hE];refine⟨h0,?_⟩;by_cases h1:c.ki=1\/c.ki=2
  ·have hk:Wx c=(Ja c&&(decide (0<=c.fr)&&(decide (c.fr<c.to)&&decide (c.to<=10000000000)))):=by unfold Wx;rw[if_pos h1]
   rw[hk];clear hk hv;cases e1:Ja c with
   |false=>rw[e1]at hi;rcases h1 with h1|h1<;>(simp[fZ,h1,e1];simpa[Qg,h1]using hi)
   |true=>
    rw[e1]at hi;by_cases e2:0<=c.fr<;>by_cases e3:c.fr<c.to<;>by_cases e4:c.to<=10000000000<;>rcases h1 with h1|h1<;>(simp[fZ,h1,e1,e2,e3,e4];simpa[Qg,h1]using hi)
  have pE:¬c.ki=1:=fun h=>h1 (.inl h);have qv:¬c.ki=2:=fun h=>h1 (.inr h);by_cases h3:c.ki=3
  ·have hk:Wx c=(Ja c&&wi c.n 0 1000):=by unfold Wx;rw[if_neg h1,if_pos h3]
   rw[hk];clear hk hv;have hw:=Vt c.n 0 1000;cases e1:Ja c with
   |false=>rw[e1]at hi;simp[fZ,h3,e1];simpa[Qg,h3]using hi
   |true=>rw[e1]at hi;simp[fZ,h3,e1];exact⟨by simpa[Qg,h3]using hi,hw⟩
  by_cases h4:c.ki=4
  ·have hk:Wx c=(Ja c&&wi c.n 0 10000000000):=by unfold Wx;rw[if_neg h1,if_neg h3,if_pos h4]
   rw[hk];clear hk hv;have hw:=Vt c.n 0 10000000000;cases e1:Ja c with
   |false=>rw[e1]at hi;simp[fZ,h4,e1];simpa[Qg,h4]using hi
   |true=>rw[e1]at hi;simp[fZ,h4,e1];exact⟨by simpa[Qg,h4]using hi,hw⟩
  by_cases h5:c.ki=5
  ·have hk:Wx c=(wi c.a 1 200&&(wi c.b 1 200&&(decide (c.a≠c.b)&&wi c.n 0 86400))):=by unfold Wx;rw[if_neg h1,if_neg h3,if_neg h4,if_pos h5]
   rw[hk];clear hk hv hi;have w1:=Vt c.a 1 200;have w2:=Vt c.b 1 200;have w3:=Vt c.n 0 86400;cases e1:wi c.a 1 200 with
   |false=>rw[e1]at w1;simp[fZ,h5,e1];exact w1
   |true=>
    rw[e1]at w1;cases e2:wi c.b 1 200 with
    |false=>rw[e2]at w2;simp[fZ,h5,e1,e2];exact⟨w1,w2⟩
    |true=>
     rw[e2]at w2;by_cases e3:c.a=c.b
     ·simp[fZ,h5,e1,e2,e3];exact w2
     simp[fZ,h5,e1,e2,e3];exact⟨w1,w2,w3⟩
  by_cases h6:c.ki=6
  ·have hk:Wx c=(wi c.a 1 3&&(Kn c.fr&&(Kn c.to&&decide (c.fr≠c.to)))):=by unfold Wx;rw[if_neg h1,if_neg h3,if_neg h4,if_neg h5,if_pos h6]
   rw[hk];clear hk hv hi;have w1:=Vt c.a 1 3;have w2:=tF c.fr;have w3:=tF c.to;cases e1:wi c.a 1 3 with
   |false=>rw[e1]at w1;simp[fZ,h6,e1];exact w1
   |true=>
    rw[e1]at w1;cases e2:Kn c.fr with
    |false=>rw[e2]at w2;simp[fZ,h6,e1,e2];exact⟨w1,w2⟩
    |true=>
     rw[e2]at w2;cases e4:Kn c.to with
     |false=>rw[e4]at w3;simp[fZ,h6,e1,e2,e4];exact⟨w1,w2,w3⟩
     |true=>
      rw[e4]at w3;by_cases e3:c.fr=c.to
      ·simp[fZ,h6,e1,e2,e4,e3];exact⟨w1,w3⟩
      simp[fZ,h6,e1,e2,e4,e3];exact⟨w1,w2,w3⟩
  have hk:Wx c=false:=by unfold Wx;rw[if_neg h1,if_neg h3,if_neg h4,if_neg h5,if_neg h6]
  rw[hk];simp[fZ,pE,qv,h3,h4,h5,h6]
 simp only[hu,decide_false]at hE;have hv:Zd c=false:=by simp[Zd,hu]
 rw[hv];simp[-eqFs,abk,fZ,Qg,anq,hE];exact h0
def auc(a:Int):IntKind.i64.wrap ((BitVec.ofInt 64 a&&& 1#64).toNat:Int)=a%2:=by
 have h:(BitVec.ofInt 64 a&&& 1#64).toNat=(BitVec.ofInt 64 a).toNat%2:=by
  rw[BitVec.toNat_and];exact Nat.and_one_is_mod _
 rw[h,BitVec.toNat_ofInt,Ql]<;>omega
def anr(c:Cl)(region:Int):Bool:=decide (c.re.fdiv (2 ^ (min region.toNat 64))%2=1)
def gR(c:Cl)(item region:Int):Bool:=wi region 0 7&&(decide (c.it=item)&&anr c region)
def mw(c:Cl)(item region:Int):Pure Tryz.prog aD 191 [.agg (Qg c),I item,I region] (.bool (gR c item region)):=by
 have h1:=Vt region 0 7;refine Qo acL y7 zd ?_;cases e1:wi region 0 7 with
 |false=>rw[e1]at h1;simp[EA,EB,Qg,y7,gR,e1];exact h1
 |true=>
  have hr:0<=region:=by simp[wi]at e1;omega
  rw[e1]at h1;by_cases e2:c.it=item
  ·by_cases e3:c.re.fdiv (2 ^ (min region.toNat 64))%2=1
   ·simp[EA,EB,Qg,y7,gR,e1,e2,e3,hr,anr,IntKind.bits];exact⟨h1,(auc _).trans e3⟩
   simp[EA,EB,Qg,y7,gR,e1,e2,e3,hr,anr,IntKind.bits];exact⟨h1,fun h=>e3 ((auc _).symm.trans h)⟩
  simp[EA,EB,Qg,y7,gR,e1,e2];exact h1
def HM(bY:Int)(c:Cl):Bool:=decide (c.ki=6)&&(decide (c.a<=bY)&&Zd c)
def uL(cs:List Cl)(bY:Int):List Sp:=(cs.filter (HM bY)).map fun c=>(c.fr,c.to)
def tY(cs:List Cl)(bY:Int)(hl:cs.length<=100000000):Pure Tryz.prog aD 137 [.sl .ro (cs.map Qg),I bY] (.sl .ro ((uL cs bY).map Qe)):=by
 have key:∀r,r=(if uL cs bY=[]then AV.sl .nil []else .sl .ro ((uL cs bY).map Qe))->Pure Tryz.prog aD 137 [.sl .ro (cs.map Qg),I bY] r:=by
  rintro r rfl
  refine Qo ab1 (fun d f l=>if f=999999 then .junk else match l with
   |[.agg [.int _ a,.int _ b,.int _ c,.int _ d,.int _ e,.int _ f,.int _ g,.int _ h]]=>.bool (Zd ⟨a,b,c,d,e,f,g,h⟩)
   |_=>.junk) zd ?_
  simp[Tz]
  refine Qk iP (fun f m=>∃(i:Nat)(bx:T5)(rt:Rt)(L':Pa)(o:List Sp),i<=cs.length/\f 10=I i/\f 5=.sl rt (o.map Qe)/\m=⟨bx,L',fun _=>.gone,0⟩/\o.length<=i/\o++uL (cs.drop i) bY=uL cs bY/\
   ((o=[]/\rt=.nil/\L'=[])\/(o≠[]/\rt=.own 0 2/\L'=[o.length]))) (fun f _=>cs.length-(numOf (f 10)).toNat) ?_ ?_
  ·exact⟨0,[],.nil,[],[],zE,zd,zd,rfl,zd,zd,.inl ⟨rfl,rfl,rfl⟩⟩
  rintro f m ⟨i,bx,rt,L',o,hi,lM,h5,rfl,FP,ho,aX⟩;rcases zzaa i cs.length with ai|bn
  ·obtain⟨c,hc⟩:=aV ai;have ah:Qj (cs.map Qg) i=Qg c:=Qu (by simp[hc]);have aa:(i:Int)<(cs.length:Int):=zE
   have hw:=bO i zE;have hd:cs.drop i=c::cs.drop (i+1):=by rw[zzag ai,(zza.1 hc).2]
   have QB:=Ky c;rw[hd]at ho
   have oI:∀row∈o.map Qe,row.length=2:=by
    intro row h;rw[zzbg]at h;obtain⟨a,_,rfl⟩:=h;rfl
   have skip:HM bY c=false->o++uL (cs.drop (i+1)) bY=uL cs bY:=by
    intro hb;rw[<- ho];simp[uL,hb]
   have take:HM bY c=true->(o++[(c.fr,c.to)])++uL (cs.drop (i+1)) bY=uL cs bY:=by
    intro hb;rw[<- ho];simp[uL,hb]
   by_cases c1:c.ki=6
   ·have hc6:(⟨6,c.it,c.fr,c.to,c.re,c.n,c.a,c.b⟩:Cl)=c:=by cases c;simp at c1;subst c1;rfl
    have nJ:Pure Tryz.prog aD 48 [.agg [I 6,I c.it,I c.fr,I c.to,I c.re,I c.n,I c.a,I c.b]] (.bool (Zd c)):=by simpa[Qg,c1]using QB
    by_cases c2:c.a<=bY
    ·cases c3:Zd c with
     |true=>
      have ht:=take (by simp[HM,c1,c2,c3]);rw[c3]at nJ;obtain⟨rfl,rfl,rfl⟩|⟨aO,rfl,rfl⟩:=aX
      ·simp[lM,h5,ai,aa,ah,Qg,c1,c2,hc6,c3,iP,hw];refine⟨nJ,aQ,⟨i+1,zE,zd,_,.own 0 2,[1],[(c.fr,c.to)],⟨rfl,rfl⟩,⟨rfl,rfl⟩,zd,ht,zd⟩,zE⟩
      simp[lM,h5,ai,aa,ah,Qg,c1,c2,hc6,c3,iP,hw];refine⟨nJ,⟨?_,zE⟩,aQ,⟨i+1,zE,zd,_,.own 0 2,[o.length+1],o++[(c.fr,c.to)],⟨rfl,by simp[Qe]⟩,⟨rfl,rfl⟩,by simp;omega,ht,zd⟩,zE⟩
      ·rintro row (⟨a,b,_,rfl⟩|rfl)<;>rfl
     |false=>
      have hs:=skip (by simp[HM,c3]);rw[c3]at nJ;simp[lM,h5,ai,aa,ah,Qg,c1,c2,hc6,c3,iP,hw];refine⟨nJ,aQ,⟨i+1,zE,zd,_,rt,L',o,⟨rfl,rfl⟩,⟨rfl,rfl⟩,zE,hs,aX⟩,zE⟩
    have hs:=skip (by simp[HM,c2]);simp[lM,h5,ai,aa,ah,Qg,c1,c2,iP,hw];refine⟨aQ,⟨i+1,zE,zd,_,rt,L',o,⟨rfl,rfl⟩,⟨rfl,rfl⟩,zE,hs,aX⟩,zE⟩
   have hs:=skip (by simp[HM,c1]);simp[lM,h5,ai,aa,ah,Qg,c1,iP,hw];refine⟨aQ,⟨i+1,zE,zd,_,rt,L',o,⟨rfl,rfl⟩,⟨rfl,rfl⟩,zE,hs,aX⟩,zE⟩
  obtain rfl:i=cs.length:=zE
  have he:uL cs bY=o:=by rw[<- ho];simp[uL]
  rw[he];obtain⟨rfl,rfl,rfl⟩|⟨aO,rfl,rfl⟩:=aX
  ·simp[lM,h5,iP,TA]
  simp[lM,h5,iP,TA,aO]
 have hk:=key _ rfl;by_cases hn:uL cs bY=[]
 ·rw[if_pos hn]at hk;rw[hn];exact Zl hk (Wk.sl _ _)
 rw[if_neg hn]at hk;exact hk
