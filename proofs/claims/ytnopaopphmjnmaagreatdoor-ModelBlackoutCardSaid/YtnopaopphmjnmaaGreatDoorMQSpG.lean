import Derived.Test.YtnopaopphmjnmaaGreatDoorMQMO
set_option linter.all false
set_option maxRecDepth 100000
set_option maxHeartbeats 64000000
namespace Go.Proofs.YtnopaopphmjnmaaGreatDoor
open Go Go.Abs
structure It where
 id:Int
 ki:Int
 fr:Int
 sp:Int
 ra:Int
structure Cl where
 ki:Int
 it:Int
 fr:Int
 to:Int
 re:Int
 n:Int
 a:Int
 b:Int
structure En where
 id:Int
 it:Int
 fr:Int
 ea:Int
 la:Int
 bo:Int
 al:List Sp
structure Bk where
 id:Int
 it:Int
 re:Int
 fr:Int
 to:Int
 un:Int
 pr:Int
structure Pl where
 ch:Int
 nu:Int
 de:Int
 of:Int
 sh:List Sp
 ep:Int
 rg:Int
 ln:Int
 fi:Int
 aN:List It
 ens:List En
 bks:List Bk
 cls:List Cl
def Qn(x:It):List AV:=[I x.id,I x.ki,I x.fr,I x.sp,I x.ra]
def Qg(x:Cl):List AV:=[I x.ki,I x.it,I x.fr,I x.to,I x.re,I x.n,I x.a,I x.b]
def Qd(x:En):List AV:=[I x.id,I x.it,I x.fr,I x.ea,I x.la,I x.bo,.sl .ro (x.al.map Qf)]
def Xg(x:Bk):List AV:=[I x.id,I x.it,I x.re,I x.fr,I x.to,I x.un,I x.pr]
def Qa(p:Pl):List AV:=[I p.ch,I p.nu,I p.de,I p.of,.sl .ro (p.sh.map Qf),I p.ep,I p.rg,I p.ln,I p.fi,.sl .ro (p.aN.map Qn),.sl .ro (p.ens.map Qd),.sl .ro (p.bks.map Xg),.sl .ro (p.cls.map Qg)]
def IZ(l:List Sp)(s:Sp)(hl:l.length<=10000000):Pure Tryz.prog aA 58 [.sl .ro (l.map Qf),.agg [I s.1,I s.2]] (.bool (DH [s] l).isEmpty):=by
 have h:=Ab [s] l zd hl;have h':=Zo (l:=[.sl .full [[I s.1,I s.2]],.sl .ro (l.map Qf)]) h ⟨Wk.sl _ _,Wk.refl _,trivial⟩;generalize DH [s] l=R at h';refine Qo al0 (fun _ f _=>if f=112 then .sl .ro (R.map Qf)else .junk) zd ?_;cases R with
 |nil=>simp[alY,alZ];exact h'
 |cons a r=>
  have:¬(r.length:Int)+1=0:=zE
  simp[alY,alZ,this];exact h'
def Xh(id:Int):List It->Option It
 |[]=>none
 |x::r=>if x.id=id then some x else Xh id r
def p7{id:Int}{x:It}:∀{l:List It},Xh id l=some x->x∈l/\x.id=id
 |[],h=>by cases h
 |y::r,h=>by
  simp only[Xh]at h;split at h
  ·rename_i hy;cases h;exact⟨zd,hy⟩
  obtain⟨h1,h2⟩:=p7 h;exact⟨by simp[h1],h2⟩
def Zk:Option It->AV
 |some x=>.aZ [.agg (Qn x),.bool true]
 |none=>.aZ [.agg [I 0,I 0,I 0,I 0,I 0],.bool false]
def lC(p:Pl)(id:Int)(hl:p.aN.length<=1000000000):Pure Tryz.prog aA 113 [.agg (Qa p),I id] (Zk (Xh id p.aN)):=by
 refine Qo ac0 (fun _ _ _=>.junk) zd ?_;simp[ahY,Qa];refine Qk Cp (fun f m=>∃(i:Nat)(bx:List (List AV)),f 11=I i/\i<=p.aN.length/\Xh id (p.aN.drop i)=Xh id p.aN/\m=⟨Qa p::[I 0,I 0,I 0,I 0,I 0]::bx,[],fun _=>.gone,0⟩) (fun f _=>p.aN.length-(numOf (f 11)).toNat) ?_ ?_
 ·exact⟨0,[],zd,zE,rfl,rfl⟩
 rintro f m ⟨i,bx,pO,hi,hf,rfl⟩;rcases zzaa i p.aN.length with ai|bz
 ·obtain⟨x,hx⟩:=aU ai;have ah:Qh (p.aN.map Qn) i=Qn x:=Qt (by simp[hx]);have aa:(i:Int)<(p.aN.length:Int):=zE
  have hw:=bM i zE;have hd:p.aN.drop i=x::p.aN.drop (i+1):=by rw[zzaf ai,(zza.1 hx).2]
  rw[hd,Xh]at hf;by_cases aK:x.id=id
  ·rw[if_pos aK]at hf;simp[pO,ai,aa,ah,Qn,aK,Cp,U3,<- hf,Zk]
  rw[if_neg aK]at hf;simp[pO,ai,aa,ah,Qn,aK,Cp,hw];refine⟨aP,⟨i+1,zd,zE,hf⟩,zE⟩
 rw[zzan bz]at hf;have bL:¬(i:Int)<(p.aN.length:Int):=zE
 simp[pO,zzbo.2 bz,bL,Cp,U3,<- hf,Zk,Xh]
def zi:List (Int×Int×Int×Int):=[(24000,1001,24,0),(24,1,24,0),(25,1,25,0),(30000,1001,30,2),(30,1,30,0),(50,1,50,0),(60000,1001,60,4),(60,1,60,0)]
def Az(nu de:Int):List (Int×Int×Int×Int)->Option (Int×Int×Int×Int)
 |[]=>none
 |x::r=>if x.1=nu/\x.2.1=de then some x else Az nu de r
def Vh(nu de:Int):Bool:=(Az nu de zi).isSome
def I9:Option (Int×Int×Int×Int)->AV
 |some x=>.aZ [.agg [I x.1,I x.2.1,I x.2.2.1,I x.2.2.2],.bool true]
 |none=>.aZ [.agg [I 0,I 0,I 0,I 0],.bool false]
def TO:∀i:Nat,i<8->∃x,zi[i]?=some x/\(IP.drop (i*4)).take 4=[I x.1,I x.2.1,I x.2.2.1,I x.2.2.2]/\zi.drop i=x::zi.drop (i+1)
 |0,_=>⟨_,rfl,rfl,rfl⟩
 |1,_=>⟨_,rfl,rfl,rfl⟩
 |2,_=>⟨_,rfl,rfl,rfl⟩
 |3,_=>⟨_,rfl,rfl,rfl⟩
 |4,_=>⟨_,rfl,rfl,rfl⟩
 |5,_=>⟨_,rfl,rfl,rfl⟩
 |6,_=>⟨_,rfl,rfl,rfl⟩
 |7,_=>⟨_,rfl,rfl,rfl⟩
 |n+8,h=>zE
def Ka{nu de:Int}(h:Vh nu de=true):24<=nu/\nu<=60000/\1<=de/\de<=1001/\de<nu:=by
 simp only[Vh,zi,Az]at h;repeat' split at h
 all_goals first|(cases h;done)|omega
theorem acg:IP.length=32:=rfl
def TP(nu de:Int):Pure Tryz.prog aA 252 [.agg [I nu,I de]] (I9 (Az nu de zi)):=by
 refine Qo aen (fun _ _ _=>.junk) zd ?_;have hg:aA 0=.ep IP 0:=rfl;have iR:=acg;have bC:IP.take 32=IP:=rfl;simp[aja,hg,iR,bC];refine Qk vS (fun f m=>∃(i:Nat)(bx:List (List AV)),f 7=I i/\i<=8/\Az nu de (zi.drop i)=Az nu de zi/\m=⟨[I nu,I de]::[I 0,I 0,I 0,I 0]::bx,[],fun _=>.gone,0⟩) (fun f _=>8-(numOf (f 7)).toNat) ?_ ?_
 ·exact⟨0,[],zd,zE,rfl,rfl⟩
 rintro f m ⟨i,bx,h7,hi,hf,rfl⟩;by_cases h8:i=8
 ·subst h8;have:Az nu de (zi.drop 8)=none:=rfl;rw[this]at hf;simp[h7,vS,WB,<- hf,I9]
 have ai:i<8:=zE
 obtain⟨x,hx,ah,hd⟩:=TO i ai;have aa:(i:Int)<8:=zE
 have hw:=bM i zE;have xB:min 4 (32-i*4)=4:=zE
 rw[hd,Az]at hf;by_cases hc:x.1=nu/\x.2.1=de
 ·rw[if_pos hc]at hf;simp[h7,ai,aa,iR,ah,xB,hc.1,hc.2,vS,WB,<- hf,I9]
 rw[if_neg hc]at hf;by_cases fN:x.1=nu
 ·have zJ:¬x.2.1=de:=fun h=>hc ⟨fN,h⟩;simp[h7,ai,aa,iR,ah,xB,fN,zJ,vS,hw];refine⟨aP,⟨i+1,zd,zE,hf⟩,zE⟩
 simp[h7,ai,aa,iR,ah,xB,fN,vS,hw];refine⟨aP,⟨i+1,zd,zE,hf⟩,zE⟩
def Wx(nu de:Int):Pure Tryz.prog aA 183 [.agg [I nu,I de]] (.bool (Vh nu de)):=by
 have h:=TP nu de;unfold Vh;refine Qo adG (fun _ _ _=>I9 (Az nu de zi)) zd ?_;cases hf:Az nu de zi with
 |none=>rw[hf]at h;simp only[I9]at h;simp[VV,VW,I9];exact h
 |some x=>rw[hf]at h;simp only[I9]at h;simp[VV,VW,I9];exact h
def Jx(f:Int):Pure Tryz.prog aA 254 [I f] (.bool (decide (0<=f/\f<=100000000))):=by
 refine Qo aep (fun _ _ _=>.junk) zd ?_;by_cases h1:0<=f<;>by_cases h2:f<=100000000<;>simp[ajd,aje,h1,h2]
def tQ(f:Int):Pure Tryz.prog aA 57 [I f] (.bool (decide (0<=f/\f<=100000000))):=by
 refine Qo alX (fun _ _ _=>.junk) zd ?_;by_cases h1:0<=f<;>by_cases h2:f<=100000000<;>simp[ap3,ap4,h1,h2]
def Yp(nu de f:Int):Int:=if Vh nu de=true/\0<=f/\f<=100000000 then(f*de).tdiv nu else -1
def xM(nu de s:Int):Int:=if Vh nu de=true/\0<=s/\s<=10000000000 then(s*nu+de-1).tdiv de else -1
def DR{x y a b:Int}(h1:0<=x/\x<=a)(h2:0<=y/\y<=b):0<=x*y/\x*y<=a*b:=
 ⟨zzef h1.1 h2.1,Int.mul_le_mul h1.2 h2.2 h2.1 (zzgz h1.1 h1.2)⟩
def DS{x y:Int}(h:0<=x)(hy:1<=y):0<=x.tdiv y/\x.tdiv y<=x:=by
 rw[zzco h];exact⟨Int.ediv_nonneg h zE,Int.ediv_le_self _ h⟩
def RZ(nu de f:Int):Pure Tryz.prog aA 185 [.agg [I nu,I de],I f] (I (Yp nu de f)):=by
 have h1:=Wx nu de;have h2:=Jx f;refine Qo adI (fun _ g _=>if g=183 then .bool (Vh nu de)else .bool (decide (0<=f/\f<=100000000))) zd ?_;cases hv:Vh nu de with
 |false=>rw[hv]at h1;simp[N2,N3,hv,Yp];exact h1
 |true=>
  rw[hv]at h1;by_cases hf:0<=f/\f<=100000000
  ·obtain⟨b1,b2,b3,b4,_⟩:=Ka hv;obtain⟨p1,p2⟩:=DR (x:=f) (y:=de) (a:=100000000) (b:=1001) ⟨hf.1,hf.2⟩ ⟨zE,zE⟩;have w1:IntKind.i64.wrap (f*de)=f*de:=by rw[Qj]<;>omega
   obtain⟨d1,d2⟩:=DS (x:=f*de) (y:=nu) p1 zE;have w2:IntKind.i64.wrap ((f*de).tdiv nu)=(f*de).tdiv nu:=by rw[Qj]<;>omega
   have hnz:¬nu=0:=zE
   simp[hf]at h2;simp[N2,N3,hv,Yp,hf,w1,w2,hnz];exact⟨h1,h2⟩
  simp only[hf,decide_false]at h2;simp[N2,N3,hv,Yp,hf];exact⟨h1,h2⟩
def ahQ(a b:Int)(ha:0<=a/\a<=1000000000000000)(hb:1<=b/\b<=1001):Pure Tryz.prog aA 191 [I a,I b] (I ((a+b-1).tdiv b)):=by
 refine Qo adO (fun _ _ _=>.junk) zd ?_;have w1:IntKind.i64.wrap (a+b)=a+b:=by rw[Qj]<;>omega
 have w2:IntKind.i64.wrap (a+b-1)=a+b-1:=by rw[Qj]<;>omega
 obtain⟨d1,d2⟩:=DS (x:=a+b-1) (y:=b) zE zE;have w3:IntKind.i64.wrap ((a+b-1).tdiv b)=(a+b-1).tdiv b:=by rw[Qj]<;>omega
 have hnz:¬b=0:=zE
 simp[aiC,aiD,w1,w2,w3,hnz]
def Br(nu de s:Int):Pure Tryz.prog aA 119 [.agg [I nu,I de],I s] (I (xM nu de s)):=by
 have h1:=Wx nu de;refine Qo ac6 (fun _ g _=>if g=183 then .bool (Vh nu de)else I (xM nu de s)) zd ?_;cases hv:Vh nu de with
 |false=>rw[hv]at h1;simp[E3,E4,hv,xM];exact h1
 |true=>
  rw[hv]at h1;by_cases OC:s<0
  ·have:¬(0<=s/\s<=10000000000):=zE
   simp[E3,E4,hv,xM,OC,this];exact h1
  by_cases hs1:10000000000<s
  ·have:¬(0<=s/\s<=10000000000):=zE
   simp[E3,E4,hv,xM,OC,hs1,this];exact h1
  have hs:0<=s/\s<=10000000000:=zE
  obtain⟨b1,b2,b3,b4,_⟩:=Ka hv;obtain⟨p1,p2⟩:=DR (x:=s) (y:=nu) (a:=10000000000) (b:=60000) ⟨hs.1,hs.2⟩ ⟨zE,zE⟩;have w1:IntKind.i64.wrap (s*nu)=s*nu:=by rw[Qj]<;>omega
  have h2:=ahQ (s*nu) de ⟨p1,zE⟩ ⟨zE,zE⟩;simp[E3,E4,hv,xM,OC,hs1,hs,w1];exact⟨h1,h2⟩
def gY(n:Int):Bool:=decide (-50400<=n/\n<=50400)
def zj(n:Int):Pure Tryz.prog aA 253 [I n] (.bool (gY n)):=by
 refine Qo aeo (fun _ _ _=>.junk) zd ?_;by_cases h1: -50400<=n<;>by_cases h2:n<=50400<;>simp[ajb,ajc,gY,h1,h2]
def uq:Int->List Sp->Bool
 |_,[]=>true
 |last,s::r=>if s.1<=last\/10000000000<s.1\/gY s.2=false then false else uq s.1 r
def Yh(of:Int)(sh:List Sp):Bool:=decide (sh.length<=40)&&gY of&&uq (-1) sh
def jR(of:Int)(sh:List Sp)(hl:sh.length<=1000000000):Pure Tryz.prog aA 184 [.agg [I of,.sl .ro (sh.map Qf)]] (.bool (Yh of sh)):=by
 have h1:=zj of;refine Qo adH (fun d f a=>match a with|[.int _ n]=>.bool (gY n)|_=>.junk) zd ?_;by_cases h40:40<sh.length
 ·have ahR:(40:Int)<(sh.length:Int):=zE
  have:Yh of sh=false:=by simp[Yh];intro h;omega
  simp[Fc,vI,h40,ahR,this]
 have ahR:¬(40:Int)<(sh.length:Int):=zE
 cases ho:gY of with
 |false=>
  have:Yh of sh=false:=by simp[Yh,ho]
  rw[ho]at h1;simp[Fc,vI,h40,ahR,this,ho];exact h1
 |true=>
  have hv:Yh of sh=uq (-1) sh:=by simp[Yh,ho];intro _;omega
  rw[ho]at h1;simp[Fc,h40,ahR,ho];refine⟨h1,?_⟩;refine Qk qM (fun f m=>∃(i:Nat)(last:Int)(bx:List (List AV)),f 19=I i/\f 3=I last/\i<=sh.length/\uq last (sh.drop i)=uq (-1) sh/\m=⟨[I of,.sl .ro (sh.map Qf)]::bx,[],fun _=>.gone,0⟩) (fun f _=>sh.length-(numOf (f 19)).toNat) ?_ ?_
  ·exact⟨0,-1,[],zd,zd,zE,rfl,rfl⟩
  rintro f m ⟨i,last,bx,h19,h3,hi,ha,rfl⟩;rcases zzaa i sh.length with ai|bz
  ·obtain⟨s,hs⟩:=aU ai;have ah:=Zf hs;have aa:(i:Int)<(sh.length:Int):=zE
   have hw:=bM i zE;have hd:sh.drop i=s::sh.drop (i+1):=by rw[zzaf ai,(zza.1 hs).2]
   rw[hd,uq]at ha;have hp:=zj s.2;by_cases c1:s.1<=last
   ·rw[if_pos (.inl c1)]at ha;simp[h19,h3,ai,aa,ah,c1,qM,vI,hv,<- ha]
   by_cases c2:10000000000<s.1
   ·rw[if_pos (.inr (.inl c2))]at ha;simp[h19,h3,ai,aa,ah,c1,c2,qM,vI,hv,<- ha]
   cases c3:gY s.2 with
   |false=>
    rw[if_pos (.inr (.inr c3))]at ha;rw[c3]at hp;simp[h19,h3,ai,aa,ah,c1,c2,c3,qM,vI,hv,<- ha];exact hp
   |true=>
    rw[if_neg (by rintro(h|h|h);exact c1 h;exact c2 h;rw[c3]at h;cases h)]at ha;rw[c3]at hp;simp[h19,h3,ai,aa,ah,c1,c2,c3,qM,hw];refine⟨hp,aP,⟨i+1,zd,zE,ha⟩,zE⟩
  rw[zzan bz,uq]at ha;have bL:¬(i:Int)<(sh.length:Int):=zE
  simp[h19,zzbo.2 bz,bL,qM,vI,hv,<- ha]
def Kn(p:Pl):Bool:=Vh p.nu p.de&&Yh p.of p.sh&&decide (0<=p.ep/\p.ep<=9000000000)
def LM(p:Pl)(hl:p.sh.length<=1000000000):Pure Tryz.prog aA 114 [.agg (Qa p)] (.bool (Kn p)):=by
 have h1:=Wx p.nu p.de;have h2:=jR p.of p.sh hl;refine Qo ac1 (fun _ g _=>if g=183 then .bool (Vh p.nu p.de)else .bool (Yh p.of p.sh)) zd ?_;cases hv:Vh p.nu p.de with
 |false=>rw[hv]at h1;simp[NG,NH,Qa,Kn,hv];exact h1
 |true=>
  rw[hv]at h1;cases hz:Yh p.of p.sh with
  |false=>rw[hz]at h2;simp[NG,NH,Qa,Kn,hv,hz];exact⟨h1,h2⟩
  |true=>
   rw[hz]at h2;by_cases c1:0<=p.ep<;>by_cases c2:p.ep<=9000000000<;>simp[NG,NH,Qa,Kn,hv,hz,c1,c2]<;>exact⟨h1,h2⟩
open Go Go.Abs
instance:DecidableEq Cl:=fun x y=>decidable_of_iff (x.ki=y.ki/\x.it=y.it/\x.fr=y.fr/\x.to=y.to/\x.re=y.re/\x.n=y.n/\x.a=y.a/\x.b=y.b) (by cases x;cases y;simp)
def wi(n lo hi:Int):Bool:=decide (lo<=n/\n<=hi)
def Vn(n lo hi:Int):Pure Tryz.prog aA 171 [I n,I lo,I hi] (.bool (wi n lo hi)):=by
 refine Qo ady (fun _ _ _=>.junk) zd ?_;by_cases h1:lo<=n<;>by_cases h2:n<=hi<;>simp[aiy,aiz,wi,h1,h2]
def Km(c:Cl):Cl:=
 if c.ki=1\/c.ki=2 then⟨c.ki,c.it,c.fr,c.to,c.re,0,0,0⟩else if c.ki=3\/c.ki=4 then⟨c.ki,c.it,0,0,c.re,c.n,0,0⟩else
 if c.ki=5 then⟨c.ki,0,0,0,0,c.n,c.a,c.b⟩else if c.ki=6 then⟨c.ki,0,c.fr,c.to,0,0,c.a,0⟩else⟨0,0,0,0,0,0,0,0⟩
def TQ(c:Cl):Pure Tryz.prog aA 169 [.agg (Qg c)] (.agg (Qg (Km c))):=by
 refine Qo adw (fun _ _ _=>.junk) zd ?_;by_cases h1:c.ki=1
 ·simp[sw,sx,Qg,Km,h1]
 by_cases h2:c.ki=2
 ·simp[sw,sx,Qg,Km,h2]
 by_cases h3:c.ki=3
 ·simp[sw,sx,Qg,Km,h3]
 by_cases h4:c.ki=4
 ·simp[sw,sx,Qg,Km,h4]
 by_cases h5:c.ki=5
 ·simp[sw,sx,Qg,Km,h5]
 by_cases h6:c.ki=6
 ·simp[sw,sx,Qg,Km,h6]
 simp[sw,sx,Qg,Km,h1,h2,h3,h4,h5,h6]
def Ve(c:Cl):Bool:=wi c.it 1 4611686018427387903&&wi c.re 1 255
def EA:Nat->FuncId->List AV->AV:=fun _ _ l=>match l with
 |[.int _ n,.int _ lo,.int _ hi]=>.bool (wi n lo hi)
 |_=>.junk
def JA(c:Cl):Pure Tryz.prog aA 170 [.agg (Qg c)] (.bool (Ve c)):=by
 have h1:=Vn c.it 1 4611686018427387903;have h2:=Vn c.re 1 255;refine Qo adx EA zd ?_;cases e1:wi c.it 1 4611686018427387903 with
 |false=>rw[e1]at h1;simp[VQ,VR,Qg,EA,Ve,e1];exact h1
 |true=>rw[e1]at h1;simp[VQ,VR,Qg,EA,Ve,e1];exact⟨h1,h2⟩
def Vz(n:Int):Bool:=wi n 0 86340&&decide (n.tmod 60=0)
def tT(n:Int):Pure Tryz.prog aA 172 [I n] (.bool (Vz n)):=by
 have h1:=Vn n 0 86340;refine Qo adz EA zd ?_;cases e1:wi n 0 86340 with
 |false=>rw[e1]at h1;simp[VT,VU,EA,Vz,e1];exact h1
 |true=>
  rw[e1]at h1;by_cases e2:n.tmod 60=0<;>simp[VT,VU,EA,Vz,e1,e2]<;>exact h1
def Yv(c:Cl):Bool:=
 if c.ki=1\/c.ki=2 then Ve c&&(decide (0<=c.fr)&&(decide (c.fr<c.to)&&decide (c.to<=10000000000)))else if c.ki=3 then Ve c&&wi c.n 0 1000 else
 if c.ki=4 then Ve c&&wi c.n 0 10000000000 else if c.ki=5 then wi c.a 1 200&&(wi c.b 1 200&&(decide (c.a≠c.b)&&wi c.n 0 86400))else
 if c.ki=6 then wi c.a 1 3&&(Vz c.fr&&(Vz c.to&&decide (c.fr≠c.to)))else false
def Xj(c:Cl):Bool:=decide (Km c=c)&&Yv c
def azj(c u:Cl):eqFs [I c.ki,I c.it,I c.fr,I c.to,I c.re,I c.n,I c.a,I c.b] [I u.ki,I u.it,I u.fr,I u.to,I u.re,I u.n,I u.a,I u.b]=decide (u=c):=by
 obtain⟨a1,a2,a3,a4,a5,a6,a7,a8⟩:=c;obtain⟨b1,b2,b3,b4,b5,b6,b7,b8⟩:=u;simp only[eqFs,eqF,Cl.mk.injEq,zzgn];by_cases h:(b1=a1/\b2=a2/\b3=a3/\b4=a4/\b5=a5/\b6=a6/\b7=a7/\b8=a8)
 ·obtain⟨rfl,rfl,rfl,rfl,rfl,rfl,rfl,rfl⟩:=h;simp
 rw[decide_eq_false h];apply Bool.eq_false_iff.2;intro hh;simp only[zzak,beq_iff_eq]at hh;obtain⟨e1,e2,e3,e4,e5,e6,e7,e8⟩:=hh;exact h ⟨e1.symm,e2.symm,e3.symm,e4.symm,e5.symm,e6.symm,e7.symm,e8.symm⟩
def ao4(c:Cl):Nat->FuncId->List AV->AV:=fun _ f l=>
 if f=169 then .agg (Qg (Km c))else if f=170 then .bool (Ve c)else if f=171 then(match l with
 |[.int _ n,.int _ lo,.int _ hi]=>.bool (wi n lo hi)
 |_=>.junk)else match l with
 |[.int _ n]=>.bool (Vz n)
 |_=>.junk
def We(c:Cl):Pure Tryz.prog aA 83 [.agg (Qg c)] (.bool (Xj c)):=by
 have h0:=TQ c;have hE:=azj c (Km c);have hi:=JA c;refine Qo amn (ao4 c) zd ?_;by_cases hu:Km c=c
 ·rw[hu]at h0 hE;simp only[decide_true]at hE;have hv:Xj c=Yv c:=by simp[Xj,hu]
  rw[hv];simp[-eqFs,amm,Qg,ao4,hu,hE];refine⟨h0,?_⟩;by_cases h1:c.ki=1\/c.ki=2
  ·have hk:Yv c=(Ve c&&(decide (0<=c.fr)&&(decide (c.fr<c.to)&&decide (c.to<=10000000000)))):=by unfold Yv;rw[if_pos h1]
   rw[hk];clear hk hv;cases e1:Ve c with
   |false=>rw[e1]at hi;rcases h1 with h1|h1<;>(simp[iB,h1,e1];simpa[Qg,h1]using hi)
   |true=>
    rw[e1]at hi;by_cases e2:0<=c.fr<;>by_cases e3:c.fr<c.to<;>by_cases e4:c.to<=10000000000<;>rcases h1 with h1|h1<;>(simp[iB,h1,e1,e2,e3,e4];simpa[Qg,h1]using hi)
  have pO:¬c.ki=1:=fun h=>h1 (.inl h);have qG:¬c.ki=2:=fun h=>h1 (.inr h);by_cases h3:c.ki=3
  ·have hk:Yv c=(Ve c&&wi c.n 0 1000):=by unfold Yv;rw[if_neg h1,if_pos h3]
   rw[hk];clear hk hv;have hw:=Vn c.n 0 1000;cases e1:Ve c with
   |false=>rw[e1]at hi;simp[iB,h3,e1];simpa[Qg,h3]using hi
   |true=>rw[e1]at hi;simp[iB,h3,e1];exact⟨by simpa[Qg,h3]using hi,hw⟩
  by_cases h4:c.ki=4
  ·have hk:Yv c=(Ve c&&wi c.n 0 10000000000):=by unfold Yv;rw[if_neg h1,if_neg h3,if_pos h4]
   rw[hk];clear hk hv;have hw:=Vn c.n 0 10000000000;cases e1:Ve c with
   |false=>rw[e1]at hi;simp[iB,h4,e1];simpa[Qg,h4]using hi
   |true=>rw[e1]at hi;simp[iB,h4,e1];exact⟨by simpa[Qg,h4]using hi,hw⟩
  by_cases h5:c.ki=5
  ·have hk:Yv c=(wi c.a 1 200&&(wi c.b 1 200&&(decide (c.a≠c.b)&&wi c.n 0 86400))):=by unfold Yv;rw[if_neg h1,if_neg h3,if_neg h4,if_pos h5]
   rw[hk];clear hk hv hi;have w1:=Vn c.a 1 200;have w2:=Vn c.b 1 200;have w3:=Vn c.n 0 86400;cases e1:wi c.a 1 200 with
   |false=>rw[e1]at w1;simp[iB,h5,e1];exact w1
   |true=>
    rw[e1]at w1;cases e2:wi c.b 1 200 with
    |false=>rw[e2]at w2;simp[iB,h5,e1,e2];exact⟨w1,w2⟩
    |true=>
     rw[e2]at w2;by_cases e3:c.a=c.b
     ·simp[iB,h5,e1,e2,e3];exact w2
     simp[iB,h5,e1,e2,e3];exact⟨w1,w2,w3⟩
  by_cases h6:c.ki=6
  ·have hk:Yv c=(wi c.a 1 3&&(Vz c.fr&&(Vz c.to&&decide (c.fr≠c.to)))):=by unfold Yv;rw[if_neg h1,if_neg h3,if_neg h4,if_neg h5,if_pos h6]
   rw[hk];clear hk hv hi;have w1:=Vn c.a 1 3;have w2:=tT c.fr;have w3:=tT c.to;cases e1:wi c.a 1 3 with
   |false=>rw[e1]at w1;simp[iB,h6,e1];exact w1
   |true=>
    rw[e1]at w1;cases e2:Vz c.fr with
    |false=>rw[e2]at w2;simp[iB,h6,e1,e2];exact⟨w1,w2⟩
    |true=>
     rw[e2]at w2;cases e4:Vz c.to with
     |false=>rw[e4]at w3;simp[iB,h6,e1,e2,e4];exact⟨w1,w2,w3⟩
     |true=>
      rw[e4]at w3;by_cases e3:c.fr=c.to
      ·simp[iB,h6,e1,e2,e4,e3];exact⟨w1,w3⟩
      simp[iB,h6,e1,e2,e4,e3];exact⟨w1,w2,w3⟩
  have hk:Yv c=false:=by unfold Yv;rw[if_neg h1,if_neg h3,if_neg h4,if_neg h5,if_neg h6]
  rw[hk];simp[iB,pO,qG,h3,h4,h5,h6]
 simp only[hu,decide_false]at hE;have hv:Xj c=false:=by simp[Xj,hu]
 rw[hv];simp[-eqFs,amm,iB,Qg,ao4,hE];exact h0
def abh(a:Int):IntKind.i64.wrap ((BitVec.ofInt 64 a&&& 1#64).toNat:Int)=a%2:=by
 have h:(BitVec.ofInt 64 a&&& 1#64).toNat=(BitVec.ofInt 64 a).toNat%2:=by
  rw[BitVec.toNat_and];exact Nat.and_one_is_mod _
 rw[h,BitVec.toNat_ofInt,Qj]<;>omega
def abJ(c:Cl)(region:Int):Bool:=decide (c.re.fdiv (2 ^ (min region.toNat 64))%2=1)
def RT(c:Cl)(item region:Int):Bool:=wi region 0 7&&(decide (c.it=item)&&abJ c region)
def mT(c:Cl)(item region:Int):Pure Tryz.prog aA 255 [.agg (Qg c),I item,I region] (.bool (RT c item region)):=by
 have h1:=Vn region 0 7;refine Qo aeq EA zd ?_;cases e1:wi region 0 7 with
 |false=>rw[e1]at h1;simp[Fm,Fo,Qg,EA,RT,e1];exact h1
 |true=>
  have hr:0<=region:=by simp[wi]at e1;omega
  rw[e1]at h1;by_cases e2:c.it=item
  ·by_cases e3:c.re.fdiv (2 ^ (min region.toNat 64))%2=1
   ·simp[Fm,Fo,Qg,EA,RT,e1,e2,e3,hr,abJ,IntKind.bits];exact⟨h1,(abh _).trans e3⟩
   simp[Fm,Fo,Qg,EA,RT,e1,e2,e3,hr,abJ,IntKind.bits];exact⟨h1,fun h=>e3 ((abh _).symm.trans h)⟩
  simp[Fm,Fo,Qg,EA,RT,e1,e2];exact h1
def I8(cc:Int)(c:Cl):Bool:=decide (c.ki=6)&&(decide (c.a<=cc)&&Xj c)
def uV(cs:List Cl)(cc:Int):List Sp:=(cs.filter (I8 cc)).map fun c=>(c.fr,c.to)
def ur(cs:List Cl)(cc:Int)(hl:cs.length<=100000000):Pure Tryz.prog aA 188 [.sl .ro (cs.map Qg),I cc] (.sl .ro ((uV cs cc).map Qf)):=by
 have key:∀r,r=(if uV cs cc=[]then AV.sl .nil []else .sl .ro ((uV cs cc).map Qf))->Pure Tryz.prog aA 188 [.sl .ro (cs.map Qg),I cc] r:=by
  rintro r rfl
  refine Qo adL (fun d f l=>if f=999999 then .junk else match l with
   |[.agg [.int _ a,.int _ b,.int _ c,.int _ d,.int _ e,.int _ f,.int _ g,.int _ h]]=>.bool (Xj ⟨a,b,c,d,e,f,g,h⟩)
   |_=>.junk) zd ?_
  simp[VY]
  refine Qk jb (fun f m=>∃(i:Nat)(bx:List (List AV))(rt:Rt)(L':List Nat)(o:List Sp),i<=cs.length/\f 10=I i/\f 5=.sl rt (o.map Qf)/\m=⟨bx,L',fun _=>.gone,0⟩/\o.length<=i/\o++uV (cs.drop i) cc=uV cs cc/\
   ((o=[]/\rt=.nil/\L'=[])\/(o≠[]/\rt=.own 0 2/\L'=[o.length]))) (fun f _=>cs.length-(numOf (f 10)).toNat) ?_ ?_
  ·exact⟨0,[],.nil,[],[],zE,zd,zd,rfl,zd,zd,.inl ⟨rfl,rfl,rfl⟩⟩
  rintro f m ⟨i,bx,rt,L',o,hi,gq,h5,rfl,O1,ho,aT⟩;rcases zzaa i cs.length with ai|bz
  ·obtain⟨c,hc⟩:=aU ai;have ah:Qh (cs.map Qg) i=Qg c:=Qt (by simp[hc]);have aa:(i:Int)<(cs.length:Int):=zE
   have hw:=bM i zE;have hd:cs.drop i=c::cs.drop (i+1):=by rw[zzaf ai,(zza.1 hc).2]
   have ZK:=We c;rw[hd]at ho
   have iC:∀row∈o.map Qf,row.length=2:=by
    intro row h;rw[zzax]at h;obtain⟨a,_,rfl⟩:=h;rfl
   have skip:I8 cc c=false->o++uV (cs.drop (i+1)) cc=uV cs cc:=by
    intro hb;rw[<- ho];simp[uV,hb]
   have take:I8 cc c=true->(o++[(c.fr,c.to)])++uV (cs.drop (i+1)) cc=uV cs cc:=by
    intro hb;rw[<- ho];simp[uV,hb]
   by_cases c1:c.ki=6
   ·have hc6:(⟨6,c.it,c.fr,c.to,c.re,c.n,c.a,c.b⟩:Cl)=c:=by cases c;simp at c1;subst c1;rfl
    have nS:Pure Tryz.prog aA 83 [.agg [I 6,I c.it,I c.fr,I c.to,I c.re,I c.n,I c.a,I c.b]] (.bool (Xj c)):=by simpa[Qg,c1]using ZK
    by_cases c2:c.a<=cc
    ·cases c3:Xj c with
     |true=>
      have ht:=take (by simp[I8,c1,c2,c3]);rw[c3]at nS;obtain⟨rfl,rfl,rfl⟩|⟨aM,rfl,rfl⟩:=aT
      ·simp[gq,h5,ai,aa,ah,Qg,c1,c2,hc6,c3,jb,hw];refine⟨nS,aP,⟨i+1,zE,zd,_,.own 0 2,[1],[(c.fr,c.to)],⟨rfl,rfl⟩,⟨rfl,rfl⟩,zd,ht,zd⟩,zE⟩
      simp[gq,h5,ai,aa,ah,Qg,c1,c2,hc6,c3,jb,hw];refine⟨nS,⟨?_,zE⟩,aP,⟨i+1,zE,zd,_,.own 0 2,[o.length+1],o++[(c.fr,c.to)],⟨rfl,by simp[Qf]⟩,⟨rfl,rfl⟩,by simp;omega,ht,zd⟩,zE⟩
      ·rintro row (⟨a,b,_,rfl⟩|rfl)<;>rfl
     |false=>
      have hs:=skip (by simp[I8,c3]);rw[c3]at nS;simp[gq,h5,ai,aa,ah,Qg,c1,c2,hc6,c3,jb,hw];refine⟨nS,aP,⟨i+1,zE,zd,_,rt,L',o,⟨rfl,rfl⟩,⟨rfl,rfl⟩,zE,hs,aT⟩,zE⟩
    have hs:=skip (by simp[I8,c2]);simp[gq,h5,ai,aa,ah,Qg,c1,c2,jb,hw];refine⟨aP,⟨i+1,zE,zd,_,rt,L',o,⟨rfl,rfl⟩,⟨rfl,rfl⟩,zE,hs,aT⟩,zE⟩
   have hs:=skip (by simp[I8,c1]);simp[gq,h5,ai,aa,ah,Qg,c1,jb,hw];refine⟨aP,⟨i+1,zE,zd,_,rt,L',o,⟨rfl,rfl⟩,⟨rfl,rfl⟩,zE,hs,aT⟩,zE⟩
  obtain rfl:i=cs.length:=zE
  have he:uV cs cc=o:=by rw[<- ho];simp[uV]
  rw[he];obtain⟨rfl,rfl,rfl⟩|⟨aM,rfl,rfl⟩:=aT
  ·simp[gq,h5,jb,VZ]
  simp[gq,h5,jb,VZ,aM]
 have hk:=key _ rfl;by_cases hn:uV cs cc=[]
 ·rw[if_pos hn]at hk;rw[hn];exact Xa hk (Wk.sl _ _)
 rw[if_neg hn]at hk;exact hk
