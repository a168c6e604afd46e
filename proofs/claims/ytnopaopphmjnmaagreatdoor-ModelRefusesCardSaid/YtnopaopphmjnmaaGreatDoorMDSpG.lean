import Derived.Test.YtnopaopphmjnmaaGreatDoorMDMO
set_option linter.all false
set_option maxRecDepth 100000
set_option maxHeartbeats 64000000
namespace Go.Proofs.YtnopaopphmjnmaaGreatDoor
open Go Go.Abs
structure It where
 id:Int
 ki:Int
 fr:Int
 sp:Int
 ra:Int
structure Cl where
 ki:Int
 it:Int
 fr:Int
 to:Int
 re:Int
 n:Int
 a:Int
 b:Int
structure En where
 id:Int
 it:Int
 fr:Int
 ea:Int
 la:Int
 bo:Int
 al:List Sp
structure Bk where
 id:Int
 it:Int
 re:Int
 fr:Int
 to:Int
 un:Int
 pr:Int
structure Pl where
 ch:Int
 nu:Int
 de:Int
 of:Int
 sh:List Sp
 ep:Int
 rg:Int
 ln:Int
 fi:Int
 aL:List It
 ens:List En
 bks:List Bk
 cls:List Cl
def Qm(x:It):List AV:=[I x.id,I x.ki,I x.fr,I x.sp,I x.ra]
def Qg(x:Cl):List AV:=[I x.ki,I x.it,I x.fr,I x.to,I x.re,I x.n,I x.a,I x.b]
def Qd(x:En):List AV:=[I x.id,I x.it,I x.fr,I x.ea,I x.la,I x.bo,.sl .ro (x.al.map Qe)]
def Xa(x:Bk):List AV:=[I x.id,I x.it,I x.re,I x.fr,I x.to,I x.un,I x.pr]
def Qc(p:Pl):List AV:=[I p.ch,I p.nu,I p.de,I p.of,.sl .ro (p.sh.map Qe),I p.ep,I p.rg,I p.ln,I p.fi,.sl .ro (p.aL.map Qm),.sl .ro (p.ens.map Qd),.sl .ro (p.bks.map Xa),.sl .ro (p.cls.map Qg)]
def H6(l:List Sp)(s:Sp)(hl:l.length<=10000000):Pure Tryz.prog aq 58 [.sl .ro (l.map Qe),.agg [I s.1,I s.2]] (.bool (C5 [s] l).isEmpty):=by
 have h:=zC [s] l (by simp) hl;have h':=Zj (l:=[.sl .full [[I s.1,I s.2]],.sl .ro (l.map Qe)]) h ⟨Wk.sl _ _,Wk.refl _,trivial⟩;generalize C5 [s] l=R at h';refine Qn alQ (fun _ f _=>if f=112 then .sl .ro (R.map Qe)else .junk) (by simp) ?_;cases R with
 |nil=>simp[alO,alP];exact h'
 |cons a r=>
  have:¬(r.length:Int)+1=0:=by omega
  simp[alO,alP,this];exact h'
def Xg(id:Int):List It->Option It
 |[]=>none
 |x::r=>if x.id=id then some x else Xg id r
def xw{id:Int}{x:It}:∀{l:List It},Xg id l=some x->x∈l/\x.id=id
 |[],h=>by cases h
 |y::r,h=>by
  simp only[Xg]at h;split at h
  ·rename_i hy;cases h;exact⟨by simp,hy⟩
  obtain⟨h1,h2⟩:=xw h;exact⟨by simp[h1],h2⟩
def Zo:Option It->AV
 |some x=>.aU [.agg (Qm x),.bool true]
 |none=>.aU [.agg [I 0,I 0,I 0,I 0,I 0],.bool false]
def kV(p:Pl)(id:Int)(hl:p.aL.length<=1000000000):Pure Tryz.prog aq 113 [.agg (Qc p),I id] (Zo (Xg id p.aL)):=by
 refine Qn acz (fun _ _ _=>.junk) (by simp) ?_;simp[ahD,Qc];refine Qi BP (fun f m=>∃(i:Nat)(bx:List (List AV)),f 11=I i/\i<=p.aL.length/\Xg id (p.aL.drop i)=Xg id p.aL/\m=⟨Qc p::[I 0,I 0,I 0,I 0,I 0]::bx,[],fun _=>.gone,0⟩) (fun f _=>p.aL.length-(numOf (f 11)).toNat) ?_ ?_
 ·exact⟨0,[],by simp,by omega,rfl,rfl⟩
 rintro f m ⟨i,bx,iz,hi,hf,rfl⟩;rcases zzaa i p.aL.length with ai|bw
 ·obtain⟨x,hx⟩:=aP ai;have aa:Qh (p.aL.map Qm) i=Qm x:=Qr (by simp[hx]);have ah:(i:Int)<(p.aL.length:Int):=by omega
  have hw:=bH i (by omega);have hd:p.aL.drop i=x::p.aL.drop (i+1):=by rw[zzaf ai,(zza.1 hx).2]
  rw[hd,Xg]at hf;by_cases aO:x.id=id
  ·rw[if_pos aO]at hf;simp[iz,ah,aa,Qm,aO,BP,TZ,<- hf,Zo]
  rw[if_neg aO]at hf;simp[iz,ah,aa,Qm,aO,BP,hw];refine⟨aN,⟨i+1,by simp,by omega,hf⟩,by omega⟩
 rw[zzan bw]at hf;have bJ:¬(i:Int)<(p.aL.length:Int):=by omega
 simp[iz,bJ,BP,TZ,<- hf,Zo,Xg]
def yO:List (Int×Int×Int×Int):=[(24000,1001,24,0),(24,1,24,0),(25,1,25,0),(30000,1001,30,2),(30,1,30,0),(50,1,50,0),(60000,1001,60,4),(60,1,60,0)]
def zT(nu de:Int):List (Int×Int×Int×Int)->Option (Int×Int×Int×Int)
 |[]=>none
 |x::r=>if x.1=nu/\x.2.1=de then some x else zT nu de r
def Vb(nu de:Int):Bool:=(zT nu de yO).isSome
def Ih:Option (Int×Int×Int×Int)->AV
 |some x=>.aU [.agg [I x.1,I x.2.1,I x.2.2.1,I x.2.2.2],.bool true]
 |none=>.aU [.agg [I 0,I 0,I 0,I 0],.bool false]
def S3:∀i:Nat,i<8->∃x,yO[i]?=some x/\(HS.drop (i*4)).take 4=[I x.1,I x.2.1,I x.2.2.1,I x.2.2.2]/\yO.drop i=x::yO.drop (i+1)
 |0,_=>⟨_,rfl,rfl,rfl⟩
 |1,_=>⟨_,rfl,rfl,rfl⟩
 |2,_=>⟨_,rfl,rfl,rfl⟩
 |3,_=>⟨_,rfl,rfl,rfl⟩
 |4,_=>⟨_,rfl,rfl,rfl⟩
 |5,_=>⟨_,rfl,rfl,rfl⟩
 |6,_=>⟨_,rfl,rfl,rfl⟩
 |7,_=>⟨_,rfl,rfl,rfl⟩
 |n+8,h=>by omega
def Jo{nu de:Int}(h:Vb nu de=true):24<=nu/\nu<=60000/\1<=de/\de<=1001/\de<nu:=by
 simp only[Vb,yO,zT]at h;repeat' split at h
 all_goals first|(cases h;done)|omega
theorem abI:HS.length=32:=rfl
def S4(nu de:Int):Pure Tryz.prog aq 252 [.agg [I nu,I de]] (Ih (zT nu de yO)):=by
 refine Qn ad5 (fun _ _ _=>.junk) (by simp) ?_;have hg:aq 0=.ep HS 0:=rfl;have qQ:=abI;have bA:HS.take 32=HS:=rfl;simp[ai5,hg,qQ,bA];refine Qi vn (fun f m=>∃(i:Nat)(bx:List (List AV)),f 7=I i/\i<=8/\zT nu de (yO.drop i)=zT nu de yO/\m=⟨[I nu,I de]::[I 0,I 0,I 0,I 0]::bx,[],fun _=>.gone,0⟩) (fun f _=>8-(numOf (f 7)).toNat) ?_ ?_
 ·exact⟨0,[],by simp,by omega,rfl,rfl⟩
 rintro f m ⟨i,bx,h7,hi,hf,rfl⟩;by_cases h8:i=8
 ·subst h8;have:zT nu de (yO.drop 8)=none:=rfl;rw[this]at hf;simp[h7,vn,VE,<- hf,Ih]
 have ai:i<8:=by omega
 obtain⟨x,hx,aa,hd⟩:=S3 i ai;have ah:(i:Int)<8:=by omega
 have hw:=bH i (by omega);have FL:min 4 (32-i*4)=4:=by omega
 rw[hd,zT]at hf;by_cases hc:x.1=nu/\x.2.1=de
 ·rw[if_pos hc]at hf;simp[h7,ah,aa,hc.1,hc.2,vn,VE,<- hf,Ih]
 rw[if_neg hc]at hf;by_cases fE:x.1=nu
 ·have Cp:¬x.2.1=de:=fun h=>hc ⟨fE,h⟩;simp[h7,ah,aa,fE,Cp,vn,hw];refine⟨aN,⟨i+1,by simp,by omega,hf⟩,by omega⟩
 simp[h7,ah,aa,fE,vn,hw];refine⟨aN,⟨i+1,by simp,by omega,hf⟩,by omega⟩
def Wm(nu de:Int):Pure Tryz.prog aq 183 [.agg [I nu,I de]] (.bool (Vb nu de)):=by
 have h:=S4 nu de;unfold Vb;refine Qn adl (fun _ _ _=>Ih (zT nu de yO)) (by simp) ?_;cases hf:zT nu de yO with
 |none=>rw[hf]at h;simp only[Ih]at h;simp[UT,UU,Ih];exact h
 |some x=>rw[hf]at h;simp only[Ih]at h;simp[UT,UU,Ih];exact h
def Ii(f:Int):Pure Tryz.prog aq 254 [I f] (.bool (decide (0<=f/\f<=100000000))):=by
 refine Qn ad7 (fun _ _ _=>.junk) (by simp) ?_;by_cases h1:0<=f<;>by_cases h2:f<=100000000<;>simp[ai8,ai9,h1,h2]
def tj(f:Int):Pure Tryz.prog aq 57 [I f] (.bool (decide (0<=f/\f<=100000000))):=by
 refine Qn alN (fun _ _ _=>.junk) (by simp) ?_;by_cases h1:0<=f<;>by_cases h2:f<=100000000<;>simp[apX,apY,h1,h2]
def Yk(nu de f:Int):Int:=if Vb nu de=true/\0<=f/\f<=100000000 then(f*de).tdiv nu else -1
def wW(nu de s:Int):Int:=if Vb nu de=true/\0<=s/\s<=10000000000 then(s*nu+de-1).tdiv de else -1
def Df{x y a b:Int}(h1:0<=x/\x<=a)(h2:0<=y/\y<=b):0<=x*y/\x*y<=a*b:=
 ⟨zzeb h1.1 h2.1,Int.mul_le_mul h1.2 h2.2 h2.1 (zzho h1.1 h1.2)⟩
def Dg{x y:Int}(h:0<=x)(hy:1<=y):0<=x.tdiv y/\x.tdiv y<=x:=by
 rw[zzcl h];exact⟨Int.ediv_nonneg h (by omega),Int.ediv_le_self _ h⟩
def Rf(nu de f:Int):Pure Tryz.prog aq 185 [.agg [I nu,I de],I f] (I (Yk nu de f)):=by
 have h1:=Wm nu de;have h2:=Ii f;refine Qn adn (fun _ g _=>if g=183 then .bool (Vb nu de)else .bool (decide (0<=f/\f<=100000000))) (by simp) ?_;cases hv:Vb nu de with
 |false=>rw[hv]at h1;simp[Nq,Nr,hv,Yk];exact h1
 |true=>
  rw[hv]at h1;by_cases hf:0<=f/\f<=100000000
  ·obtain⟨b1,b2,b3,b4,_⟩:=Jo hv;obtain⟨p1,p2⟩:=Df (x:=f) (y:=de) (a:=100000000) (b:=1001) ⟨hf.1,hf.2⟩ ⟨by omega,by omega⟩;have w1:IntKind.i64.wrap (f*de)=f*de:=by rw[Qk]<;>omega
   obtain⟨d1,d2⟩:=Dg (x:=f*de) (y:=nu) p1 (by omega);have w2:IntKind.i64.wrap ((f*de).tdiv nu)=(f*de).tdiv nu:=by rw[Qk]<;>omega
   have hnz:¬nu=0:=by omega
   simp[hf]at h2;simp[Nq,Nr,hv,Yk,hf,w1,w2,hnz];exact⟨h1,h2⟩
  simp only[hf,decide_false]at h2;simp[Nq,Nr,hv,Yk,hf];exact⟨h1,h2⟩
def ahx(a b:Int)(ha:0<=a/\a<=1000000000000000)(hb:1<=b/\b<=1001):Pure Tryz.prog aq 191 [I a,I b] (I ((a+b-1).tdiv b)):=by
 refine Qn adt (fun _ _ _=>.junk) (by simp) ?_;have w1:IntKind.i64.wrap (a+b)=a+b:=by rw[Qk]<;>omega
 have w2:IntKind.i64.wrap (a+b-1)=a+b-1:=by rw[Qk]<;>omega
 obtain⟨d1,d2⟩:=Dg (x:=a+b-1) (y:=b) (by omega) (by omega);have w3:IntKind.i64.wrap ((a+b-1).tdiv b)=(a+b-1).tdiv b:=by rw[Qk]<;>omega
 have hnz:¬b=0:=by omega
 simp[aiv,aiw,w1,w2,w3,hnz]
def AY(nu de s:Int):Pure Tryz.prog aq 119 [.agg [I nu,I de],I s] (I (wW nu de s)):=by
 have h1:=Wm nu de;refine Qn acF (fun _ g _=>if g=183 then .bool (Vb nu de)else I (wW nu de s)) (by simp) ?_;cases hv:Vb nu de with
 |false=>rw[hv]at h1;simp[Ep,Er,hv,wW];exact h1
 |true=>
  rw[hv]at h1;by_cases NW:s<0
  ·have:¬(0<=s/\s<=10000000000):=by omega
   simp[Ep,Er,hv,wW,NW,this];exact h1
  by_cases hs1:10000000000<s
  ·have:¬(0<=s/\s<=10000000000):=by omega
   simp[Ep,Er,hv,wW,NW,hs1,this];exact h1
  have hs:0<=s/\s<=10000000000:=by omega
  obtain⟨b1,b2,b3,b4,_⟩:=Jo hv;obtain⟨p1,p2⟩:=Df (x:=s) (y:=nu) (a:=10000000000) (b:=60000) ⟨hs.1,hs.2⟩ ⟨by omega,by omega⟩;have w1:IntKind.i64.wrap (s*nu)=s*nu:=by rw[Qk]<;>omega
  have h2:=ahx (s*nu) de ⟨p1,by omega⟩ ⟨by omega,by omega⟩;simp[Ep,Er,hv,wW,NW,hs1,hs,w1];exact⟨h1,h2⟩
def gQ(n:Int):Bool:=decide (-50400<=n/\n<=50400)
def yP(n:Int):Pure Tryz.prog aq 253 [I n] (.bool (gQ n)):=by
 refine Qn ad6 (fun _ _ _=>.junk) (by simp) ?_;by_cases h1: -50400<=n<;>by_cases h2:n<=50400<;>simp[ai6,ai7,gQ,h1,h2]
def tN:Int->List Sp->Bool
 |_,[]=>true
 |last,s::r=>if s.1<=last\/10000000000<s.1\/gQ s.2=false then false else tN s.1 r
def Vy(of:Int)(sh:List Sp):Bool:=decide (sh.length<=40)&&gQ of&&tN (-1) sh
def jt(of:Int)(sh:List Sp)(hl:sh.length<=1000000000):Pure Tryz.prog aq 184 [.agg [I of,.sl .ro (sh.map Qe)]] (.bool (Vy of sh)):=by
 have h1:=yP of;refine Qn adm (fun d f a=>match a with|[.int _ n]=>.bool (gQ n)|_=>.junk) (by simp) ?_;by_cases h40:40<sh.length
 ·have ahy:(40:Int)<(sh.length:Int):=by omega
  have:Vy of sh=false:=by simp[Vy];intro h;omega
  simp[Ez,u7,ahy,this]
 have ahy:¬(40:Int)<(sh.length:Int):=by omega
 cases ho:gQ of with
 |false=>
  have:Vy of sh=false:=by simp[Vy,ho]
  rw[ho]at h1;simp[Ez,u7,ahy,this,ho];exact h1
 |true=>
  have hv:Vy of sh=tN (-1) sh:=by simp[Vy,ho];intro _;omega
  rw[ho]at h1;simp[Ez,ahy,ho];refine⟨h1,?_⟩;refine Qi qw (fun f m=>∃(i:Nat)(last:Int)(bx:List (List AV)),f 19=I i/\f 3=I last/\i<=sh.length/\tN last (sh.drop i)=tN (-1) sh/\m=⟨[I of,.sl .ro (sh.map Qe)]::bx,[],fun _=>.gone,0⟩) (fun f _=>sh.length-(numOf (f 19)).toNat) ?_ ?_
  ·exact⟨0,-1,[],by simp,by simp,by omega,rfl,rfl⟩
  rintro f m ⟨i,last,bx,h19,h3,hi,ha,rfl⟩;rcases zzaa i sh.length with ai|bw
  ·obtain⟨s,hs⟩:=aP ai;have aa:=Zd hs;have ah:(i:Int)<(sh.length:Int):=by omega
   have hw:=bH i (by omega);have hd:sh.drop i=s::sh.drop (i+1):=by rw[zzaf ai,(zza.1 hs).2]
   rw[hd,tN]at ha;have hp:=yP s.2;by_cases c1:s.1<=last
   ·rw[if_pos (.inl c1)]at ha;simp[h19,h3,ah,aa,c1,qw,u7,hv,<- ha]
   by_cases c2:10000000000<s.1
   ·rw[if_pos (.inr (.inl c2))]at ha;simp[h19,h3,ah,aa,c1,c2,qw,u7,hv,<- ha]
   cases c3:gQ s.2 with
   |false=>
    rw[if_pos (.inr (.inr c3))]at ha;rw[c3]at hp;simp[h19,h3,ah,aa,c1,c2,c3,qw,u7,hv,<- ha];exact hp
   |true=>
    rw[if_neg (by rintro(h|h|h);exact c1 h;exact c2 h;rw[c3]at h;cases h)]at ha;rw[c3]at hp;simp[h19,h3,ah,aa,c1,c2,c3,qw,hw];refine⟨hp,aN,⟨i+1,by simp,by omega,ha⟩,by omega⟩
  rw[zzan bw,tN]at ha;have bJ:¬(i:Int)<(sh.length:Int):=by omega
  simp[h19,bJ,qw,u7,hv,<- ha]
def Ka(p:Pl):Bool:=Vb p.nu p.de&&Vy p.of p.sh&&decide (0<=p.ep/\p.ep<=9000000000)
def K1(p:Pl)(hl:p.sh.length<=1000000000):Pure Tryz.prog aq 114 [.agg (Qc p)] (.bool (Ka p)):=by
 have h1:=Wm p.nu p.de;have h2:=jt p.of p.sh hl;refine Qn acA (fun _ g _=>if g=183 then .bool (Vb p.nu p.de)else .bool (Vy p.of p.sh)) (by simp) ?_;cases hv:Vb p.nu p.de with
 |false=>rw[hv]at h1;simp[MZ,M1,Qc,Ka,hv];exact h1
 |true=>
  rw[hv]at h1;cases hz:Vy p.of p.sh with
  |false=>rw[hz]at h2;simp[MZ,M1,Qc,Ka,hv,hz];exact⟨h1,h2⟩
  |true=>
   rw[hz]at h2;by_cases c1:0<=p.ep<;>by_cases c2:p.ep<=9000000000<;>simp[MZ,M1,Qc,Ka,hv,hz,c1,c2]<;>exact⟨h1,h2⟩
open Go Go.Abs
instance:DecidableEq Cl:=fun x y=>decidable_of_iff (x.ki=y.ki/\x.it=y.it/\x.fr=y.fr/\x.to=y.to/\x.re=y.re/\x.n=y.n/\x.a=y.a/\x.b=y.b) (by cases x;cases y;simp)
def wi(n lo hi:Int):Bool:=decide (lo<=n/\n<=hi)
def Vj(n lo hi:Int):Pure Tryz.prog aq 171 [I n,I lo,I hi] (.bool (wi n lo hi)):=by
 refine Qn adf (fun _ _ _=>.junk) (by simp) ?_;by_cases h1:lo<=n<;>by_cases h2:n<=hi<;>simp[air,ais,wi,h1,h2]
def Km(c:Cl):Cl:=
 if c.ki=1\/c.ki=2 then⟨c.ki,c.it,c.fr,c.to,c.re,0,0,0⟩else if c.ki=3\/c.ki=4 then⟨c.ki,c.it,0,0,c.re,c.n,0,0⟩else
 if c.ki=5 then⟨c.ki,0,0,0,0,c.n,c.a,c.b⟩else if c.ki=6 then⟨c.ki,0,c.fr,c.to,0,0,c.a,0⟩else⟨0,0,0,0,0,0,0,0⟩
def S5(c:Cl):Pure Tryz.prog aq 169 [.agg (Qg c)] (.agg (Qg (Km c))):=by
 refine Qn adb (fun _ _ _=>.junk) (by simp) ?_;by_cases h1:c.ki=1
 ·simp[rT,rU,Qg,Km,h1]
 by_cases h2:c.ki=2
 ·simp[rT,rU,Qg,Km,h2]
 by_cases h3:c.ki=3
 ·simp[rT,rU,Qg,Km,h3]
 by_cases h4:c.ki=4
 ·simp[rT,rU,Qg,Km,h4]
 by_cases h5:c.ki=5
 ·simp[rT,rU,Qg,Km,h5]
 by_cases h6:c.ki=6
 ·simp[rT,rU,Qg,Km,h6]
 simp[rT,rU,Qg,Km,h1,h2,h3,h4,h5,h6]
def Vu(c:Cl):Bool:=wi c.it 1 4611686018427387903&&wi c.re 1 255
def DO:Nat->FuncId->List AV->AV:=fun _ _ l=>match l with
 |[.int _ n,.int _ lo,.int _ hi]=>.bool (wi n lo hi)
 |_=>.junk
def Ij(c:Cl):Pure Tryz.prog aq 170 [.agg (Qg c)] (.bool (Vu c)):=by
 have h1:=Vj c.it 1 4611686018427387903;have h2:=Vj c.re 1 255;refine Qn ade DO (by simp) ?_;cases e1:wi c.it 1 4611686018427387903 with
 |false=>rw[e1]at h1;simp[UP,UQ,Qg,DO,Vu,e1];exact h1
 |true=>rw[e1]at h1;simp[UP,UQ,Qg,DO,Vu,e1];exact⟨h1,h2⟩
def Ji(n:Int):Bool:=wi n 0 86340&&decide (n.tmod 60=0)
def tq(n:Int):Pure Tryz.prog aq 172 [I n] (.bool (Ji n)):=by
 have h1:=Vj n 0 86340;refine Qn adg DO (by simp) ?_;cases e1:wi n 0 86340 with
 |false=>rw[e1]at h1;simp[UR,US,DO,Ji,e1];exact h1
 |true=>
  rw[e1]at h1;by_cases e2:n.tmod 60=0<;>simp[UR,US,DO,Ji,e1,e2]<;>exact h1
def Ug(c:Cl):Bool:=
 if c.ki=1\/c.ki=2 then Vu c&&(decide (0<=c.fr)&&(decide (c.fr<c.to)&&decide (c.to<=10000000000)))else if c.ki=3 then Vu c&&wi c.n 0 1000 else
 if c.ki=4 then Vu c&&wi c.n 0 10000000000 else if c.ki=5 then wi c.a 1 200&&(wi c.b 1 200&&(decide (c.a≠c.b)&&wi c.n 0 86400))else
 if c.ki=6 then wi c.a 1 3&&(Ji c.fr&&(Ji c.to&&decide (c.fr≠c.to)))else false
def Xi(c:Cl):Bool:=decide (Km c=c)&&Ug c
def ay7(c u:Cl):eqFs [I c.ki,I c.it,I c.fr,I c.to,I c.re,I c.n,I c.a,I c.b] [I u.ki,I u.it,I u.fr,I u.to,I u.re,I u.n,I u.a,I u.b]=decide (u=c):=by
 obtain⟨a1,a2,a3,a4,a5,a6,a7,a8⟩:=c;obtain⟨b1,b2,b3,b4,b5,b6,b7,b8⟩:=u;simp only[eqFs,eqF,Cl.mk.injEq,zzgc];by_cases h:(b1=a1/\b2=a2/\b3=a3/\b4=a4/\b5=a5/\b6=a6/\b7=a7/\b8=a8)
 ·obtain⟨rfl,rfl,rfl,rfl,rfl,rfl,rfl,rfl⟩:=h;simp
 rw[decide_eq_false h];apply Bool.eq_false_iff.2;intro hh;simp only[zzak,beq_iff_eq]at hh;obtain⟨e1,e2,e3,e4,e5,e6,e7,e8⟩:=hh;exact h ⟨e1.symm,e2.symm,e3.symm,e4.symm,e5.symm,e6.symm,e7.symm,e8.symm⟩
def ao4(c:Cl):Nat->FuncId->List AV->AV:=fun _ f l=>
 if f=169 then .agg (Qg (Km c))else if f=170 then .bool (Vu c)else if f=171 then(match l with
 |[.int _ n,.int _ lo,.int _ hi]=>.bool (wi n lo hi)
 |_=>.junk)else match l with
 |[.int _ n]=>.bool (Ji n)
 |_=>.junk
def Ko(c:Cl):Pure Tryz.prog aq 83 [.agg (Qg c)] (.bool (Xi c)):=by
 have h0:=S5 c;have hE:=ay7 c (Km c);have hi:=Ij c;refine Qn amg (ao4 c) (by simp) ?_;by_cases hu:Km c=c
 ·rw[hu]at h0 hE;simp only[decide_true]at hE;have hv:Xi c=Ug c:=by simp[Xi,hu]
  rw[hv];simp[-eqFs,amf,Qg,ao4,hu,hE];refine⟨h0,?_⟩;by_cases h1:c.ki=1\/c.ki=2
  ·have hk:Ug c=(Vu c&&(decide (0<=c.fr)&&(decide (c.fr<c.to)&&decide (c.to<=10000000000)))):=by unfold Ug;rw[if_pos h1]
   rw[hk];clear hk hv;cases e1:Vu c with
   |false=>rw[e1]at hi;rcases h1 with h1|h1<;>(simp[ir,h1];simpa[Qg,h1]using hi)
   |true=>
    rw[e1]at hi;by_cases e2:0<=c.fr<;>by_cases e3:c.fr<c.to<;>by_cases e4:c.to<=10000000000<;>rcases h1 with h1|h1<;>(simp[ir,h1,e2,e3,e4];simpa[Qg,h1]using hi)
  have iz:¬c.ki=1:=fun h=>h1 (.inl h);have qZ:¬c.ki=2:=fun h=>h1 (.inr h);by_cases h3:c.ki=3
  ·have hk:Ug c=(Vu c&&wi c.n 0 1000):=by unfold Ug;rw[if_neg h1,if_pos h3]
   rw[hk];clear hk hv;have hw:=Vj c.n 0 1000;cases e1:Vu c with
   |false=>rw[e1]at hi;simp[ir,h3];simpa[Qg,h3]using hi
   |true=>rw[e1]at hi;simp[ir,h3];exact⟨by simpa[Qg,h3]using hi,hw⟩
  by_cases h4:c.ki=4
  ·have hk:Ug c=(Vu c&&wi c.n 0 10000000000):=by unfold Ug;rw[if_neg h1,if_neg h3,if_pos h4]
   rw[hk];clear hk hv;have hw:=Vj c.n 0 10000000000;cases e1:Vu c with
   |false=>rw[e1]at hi;simp[ir,h4];simpa[Qg,h4]using hi
   |true=>rw[e1]at hi;simp[ir,h4];exact⟨by simpa[Qg,h4]using hi,hw⟩
  by_cases h5:c.ki=5
  ·have hk:Ug c=(wi c.a 1 200&&(wi c.b 1 200&&(decide (c.a≠c.b)&&wi c.n 0 86400))):=by unfold Ug;rw[if_neg h1,if_neg h3,if_neg h4,if_pos h5]
   rw[hk];clear hk hv hi;have w1:=Vj c.a 1 200;have w2:=Vj c.b 1 200;have w3:=Vj c.n 0 86400;cases e1:wi c.a 1 200 with
   |false=>rw[e1]at w1;simp[ir,h5];exact w1
   |true=>
    rw[e1]at w1;cases e2:wi c.b 1 200 with
    |false=>rw[e2]at w2;simp[ir,h5];exact⟨w1,w2⟩
    |true=>
     rw[e2]at w2;by_cases e3:c.a=c.b
     ·simp[ir,h5,e3];exact w2
     simp[ir,h5,e3];exact⟨w1,w2,w3⟩
  by_cases h6:c.ki=6
  ·have hk:Ug c=(wi c.a 1 3&&(Ji c.fr&&(Ji c.to&&decide (c.fr≠c.to)))):=by unfold Ug;rw[if_neg h1,if_neg h3,if_neg h4,if_neg h5,if_pos h6]
   rw[hk];clear hk hv hi;have w1:=Vj c.a 1 3;have w2:=tq c.fr;have w3:=tq c.to;cases e1:wi c.a 1 3 with
   |false=>rw[e1]at w1;simp[ir,h6];exact w1
   |true=>
    rw[e1]at w1;cases e2:Ji c.fr with
    |false=>rw[e2]at w2;simp[ir,h6];exact⟨w1,w2⟩
    |true=>
     rw[e2]at w2;cases e4:Ji c.to with
     |false=>rw[e4]at w3;simp[ir,h6];exact⟨w1,w2,w3⟩
     |true=>
      rw[e4]at w3;by_cases e3:c.fr=c.to
      ·simp[ir,h6,e3];exact⟨w1,w3⟩
      simp[ir,h6,e3];exact⟨w1,w2,w3⟩
  have hk:Ug c=false:=by unfold Ug;rw[if_neg h1,if_neg h3,if_neg h4,if_neg h5,if_neg h6]
  rw[hk];simp[ir,iz,qZ,h3,h4,h5,h6]
 simp only[hu,decide_false]at hE;have hv:Xi c=false:=by simp[Xi,hu]
 rw[hv];simp[-eqFs,amf,ir,Qg,ao4,hE];exact h0
def aaO(a:Int):IntKind.i64.wrap ((BitVec.ofInt 64 a&&& 1#64).toNat:Int)=a%2:=by
 have h:(BitVec.ofInt 64 a&&& 1#64).toNat=(BitVec.ofInt 64 a).toNat%2:=by
  rw[BitVec.toNat_and];exact Nat.and_one_is_mod _
 rw[h,BitVec.toNat_ofInt,Qk]<;>omega
def ao5(c:Cl)(region:Int):Bool:=decide (c.re.fdiv (2 ^ (min region.toNat 64))%2=1)
def gP(c:Cl)(item region:Int):Bool:=wi region 0 7&&(decide (c.it=item)&&ao5 c region)
def mE(c:Cl)(item region:Int):Pure Tryz.prog aq 255 [.agg (Qg c),I item,I region] (.bool (gP c item region)):=by
 have h1:=Vj region 0 7;refine Qn ad8 DO (by simp) ?_;cases e1:wi region 0 7 with
 |false=>rw[e1]at h1;simp[EH,EI,Qg,DO,gP,e1];exact h1
 |true=>
  have hr:0<=region:=by simp[wi]at e1;omega
  rw[e1]at h1;by_cases e2:c.it=item
  ·by_cases e3:c.re.fdiv (2 ^ (min region.toNat 64))%2=1
   ·simp[EH,EI,Qg,DO,gP,e1,e2,e3,hr,ao5,IntKind.bits];exact⟨h1,(aaO _).trans e3⟩
   simp[EH,EI,Qg,DO,gP,e1,e2,e3,hr,ao5,IntKind.bits];exact⟨h1,fun h=>e3 ((aaO _).symm.trans h)⟩
  simp[EH,EI,Qg,DO,gP,e1,e2];exact h1
def Ig(bV:Int)(c:Cl):Bool:=decide (c.ki=6)&&(decide (c.a<=bV)&&Xi c)
def uw(cs:List Cl)(bV:Int):List Sp:=(cs.filter (Ig bV)).map fun c=>(c.fr,c.to)
def tO(cs:List Cl)(bV:Int)(hl:cs.length<=100000000):Pure Tryz.prog aq 188 [.sl .ro (cs.map Qg),I bV] (.sl .ro ((uw cs bV).map Qe)):=by
 have key:∀r,r=(if uw cs bV=[]then AV.sl .nil []else .sl .ro ((uw cs bV).map Qe))->Pure Tryz.prog aq 188 [.sl .ro (cs.map Qg),I bV] r:=by
  rintro r rfl
  refine Qn adq (fun d f l=>if f=999999 then .junk else match l with
   |[.agg [.int _ a,.int _ b,.int _ c,.int _ d,.int _ e,.int _ f,.int _ g,.int _ h]]=>.bool (Xi ⟨a,b,c,d,e,f,g,h⟩)
   |_=>.junk) (by simp) ?_
  simp[UX]
  refine Qi iP (fun f m=>∃(i:Nat)(bx:List (List AV))(rt:Rt)(L':List Nat)(o:List Sp),i<=cs.length/\f 10=I i/\f 5=.sl rt (o.map Qe)/\m=⟨bx,L',fun _=>.gone,0⟩/\o.length<=i/\o++uw (cs.drop i) bV=uw cs bV/\
   ((o=[]/\rt=.nil/\L'=[])\/(o≠[]/\rt=.own 0 2/\L'=[o.length]))) (fun f _=>cs.length-(numOf (f 10)).toNat) ?_ ?_
  ·exact⟨0,[],.nil,[],[],by omega,by simp,by simp,rfl,by simp,by simp,.inl ⟨rfl,rfl,rfl⟩⟩
  rintro f m ⟨i,bx,rt,L',o,hi,kS,h5,rfl,Iv,ho,aT⟩;rcases zzaa i cs.length with ai|bw
  ·obtain⟨c,hc⟩:=aP ai;have aa:Qh (cs.map Qg) i=Qg c:=Qr (by simp[hc]);have ah:(i:Int)<(cs.length:Int):=by omega
   have hw:=bH i (by omega);have hd:cs.drop i=c::cs.drop (i+1):=by rw[zzaf ai,(zza.1 hc).2]
   have YL:=Ko c;rw[hd]at ho
   have iw:∀row∈o.map Qe,row.length=2:=by
    intro row h;rw[zzaw]at h;obtain⟨a,_,rfl⟩:=h;rfl
   have skip:Ig bV c=false->o++uw (cs.drop (i+1)) bV=uw cs bV:=by
    intro hb;rw[<- ho];simp[uw,hb]
   have take:Ig bV c=true->(o++[(c.fr,c.to)])++uw (cs.drop (i+1)) bV=uw cs bV:=by
    intro hb;rw[<- ho];simp[uw,hb]
   by_cases c1:c.ki=6
   ·have hc6:(⟨6,c.it,c.fr,c.to,c.re,c.n,c.a,c.b⟩:Cl)=c:=by cases c;simp at c1;subst c1;rfl
    have nF:Pure Tryz.prog aq 83 [.agg [I 6,I c.it,I c.fr,I c.to,I c.re,I c.n,I c.a,I c.b]] (.bool (Xi c)):=by simpa[Qg,c1]using YL
    by_cases c2:c.a<=bV
    ·cases c3:Xi c with
     |true=>
      have ht:=take (by simp[Ig,c1,c2,c3]);rw[c3]at nF;obtain⟨rfl,rfl,rfl⟩|⟨aJ,rfl,rfl⟩:=aT
      ·simp[kS,h5,ah,aa,Qg,c1,c2,hc6,c3,iP,hw];refine⟨nF,aN,⟨i+1,by omega,by simp,_,.own 0 2,[1],[(c.fr,c.to)],⟨rfl,rfl⟩,⟨rfl,rfl⟩,by simp,ht,by simp⟩,by omega⟩
      simp[kS,h5,ah,aa,Qg,c1,c2,hc6,c3,iP,hw];refine⟨nF,⟨?_,by omega⟩,aN,⟨i+1,by omega,by simp,_,.own 0 2,[o.length+1],o++[(c.fr,c.to)],⟨rfl,by simp[Qe]⟩,⟨rfl,rfl⟩,by simp;omega,ht,by simp⟩,by omega⟩
      ·rintro row (⟨a,b,_,rfl⟩|rfl)<;>rfl
     |false=>
      have hs:=skip (by simp[Ig,c3]);rw[c3]at nF;simp[kS,h5,ah,aa,Qg,c1,c2,hc6,c3,iP,hw];refine⟨nF,aN,⟨i+1,by omega,by simp,_,rt,L',o,⟨rfl,rfl⟩,⟨rfl,rfl⟩,by omega,hs,aT⟩,by omega⟩
    have hs:=skip (by simp[Ig,c2]);simp[kS,h5,ah,aa,Qg,c1,c2,iP,hw];refine⟨aN,⟨i+1,by omega,by simp,_,rt,L',o,⟨rfl,rfl⟩,⟨rfl,rfl⟩,by omega,hs,aT⟩,by omega⟩
   have hs:=skip (by simp[Ig,c1]);simp[kS,h5,ah,aa,Qg,c1,iP,hw];refine⟨aN,⟨i+1,by omega,by simp,_,rt,L',o,⟨rfl,rfl⟩,⟨rfl,rfl⟩,by omega,hs,aT⟩,by omega⟩
  obtain rfl:i=cs.length:=by omega
  have he:uw cs bV=o:=by rw[<- ho];simp[uw]
  rw[he];obtain⟨rfl,rfl,rfl⟩|⟨aJ,rfl,rfl⟩:=aT
  ·simp[kS,h5,iP,UY]
  simp[kS,h5,iP,UY,aJ]
 have hk:=key _ rfl;by_cases hn:uw cs bV=[]
 ·rw[if_pos hn]at hk;rw[hn];exact Qz hk (Wk.sl _ _)
 rw[if_neg hn]at hk;exact hk
end Go.Proofs.YtnopaopphmjnmaaGreatDoor
