import Derived.Test.YtnopaopphmjnmaaGreatDoorMBMO
set_option linter.all false
set_option maxRecDepth 100000
set_option maxHeartbeats 64000000
namespace Go.Proofs.YtnopaopphmjnmaaGreatDoor
open Go Go.Abs
structure It where
 id:Int
 ki:Int
 fr:Int
 sp:Int
 ra:Int
structure Cl where
 ki:Int
 it:Int
 fr:Int
 to:Int
 re:Int
 n:Int
 a:Int
 b:Int
structure En where
 id:Int
 it:Int
 fr:Int
 ea:Int
 la:Int
 bo:Int
 al:List Sp
structure Bk where
 id:Int
 it:Int
 re:Int
 fr:Int
 to:Int
 un:Int
 pr:Int
structure Pl where
 ch:Int
 nu:Int
 de:Int
 of:Int
 sh:List Sp
 ep:Int
 rg:Int
 ln:Int
 fi:Int
 aM:List It
 ens:List En
 bks:List Bk
 cls:List Cl
def Qm(x:It):List AV:=[I x.id,I x.ki,I x.fr,I x.sp,I x.ra]
def Qg(x:Cl):List AV:=[I x.ki,I x.it,I x.fr,I x.to,I x.re,I x.n,I x.a,I x.b]
def Qd(x:En):List AV:=[I x.id,I x.it,I x.fr,I x.ea,I x.la,I x.bo,.sl .ro (x.al.map Qe)]
def Xf(x:Bk):List AV:=[I x.id,I x.it,I x.re,I x.fr,I x.to,I x.un,I x.pr]
def Qc(p:Pl):List AV:=[I p.ch,I p.nu,I p.de,I p.of,.sl .ro (p.sh.map Qe),I p.ep,I p.rg,I p.ln,I p.fi,.sl .ro (p.aM.map Qm),.sl .ro (p.ens.map Qd),.sl .ro (p.bks.map Xf),.sl .ro (p.cls.map Qg)]
def HS(l:List Sp)(s:Sp)(hl:l.length<=10000000):Pure Tryz.prog az 58 [.sl .ro (l.map Qe),.agg [I s.1,I s.2]] (.bool (CO [s] l).isEmpty):=by
 have h:=zk [s] l (by simp) hl;have h':=Zk (l:=[.sl .full [[I s.1,I s.2]],.sl .ro (l.map Qe)]) h ⟨Wk.sl _ _,Wk.refl _,trivial⟩;generalize CO [s] l=R at h';refine Qn akH (fun _ f _=>if f=112 then .sl .ro (R.map Qe)else .junk) (by simp) ?_;cases R with
 |nil=>simp[akF,akG];exact h'
 |cons a r=>
  have:¬(r.length:Int)+1=0:=by omega
  simp[akF,akG,this];exact h'
def Xh(id:Int):List It->Option It
 |[]=>none
 |x::r=>if x.id=id then some x else Xh id r
def wY{id:Int}{x:It}:∀{l:List It},Xh id l=some x->x∈l/\x.id=id
 |[],h=>by cases h
 |y::r,h=>by
  simp only[Xh]at h;split at h
  ·rename_i hy;cases h;exact⟨by simp,hy⟩
  obtain⟨h1,h2⟩:=wY h;exact⟨by simp[h1],h2⟩
def Zp:Option It->AV
 |some x=>.aV [.agg (Qm x),.bool true]
 |none=>.aV [.agg [I 0,I 0,I 0,I 0,I 0],.bool false]
def kP(p:Pl)(id:Int)(hl:p.aM.length<=1000000000):Pure Tryz.prog az 113 [.agg (Qc p),I id] (Zp (Xh id p.aM)):=by
 refine Qn abV (fun _ _ _=>.junk) (by simp) ?_;simp[agS,Qc];refine Qj By (fun f m=>∃(i:Nat)(bx:List (List AV)),f 11=I i/\i<=p.aM.length/\Xh id (p.aM.drop i)=Xh id p.aM/\m=⟨Qc p::[I 0,I 0,I 0,I 0,I 0]::bx,[],fun _=>.gone,0⟩) (fun f _=>p.aM.length-(numOf (f 11)).toNat) ?_ ?_
 ·exact⟨0,[],by simp,by omega,rfl,rfl⟩
 rintro f m ⟨i,bx,qN,hi,hf,rfl⟩;rcases zzaa i p.aM.length with ai|bB
 ·obtain⟨x,hx⟩:=aR ai;have aa:Qh (p.aM.map Qm) i=Qm x:=Qs (by simp[hx]);have ah:(i:Int)<(p.aM.length:Int):=by omega
  have hw:=bJ i (by omega);have hd:p.aM.drop i=x::p.aM.drop (i+1):=by rw[zzaf ai,(zza.1 hx).2]
  rw[hd,Xh]at hf;by_cases aO:x.id=id
  ·rw[if_pos aO]at hf;simp[qN,ah,aa,Qm,aO,By,Tu,<- hf,Zp]
  rw[if_neg aO]at hf;simp[qN,ah,aa,Qm,aO,By,hw];refine⟨aN,⟨i+1,by simp,by omega,hf⟩,by omega⟩
 rw[zzan bB]at hf;have bI:¬(i:Int)<(p.aM.length:Int):=by omega
 simp[qN,bI,By,Tu,<- hf,Zp,Xh]
def yE:List (Int×Int×Int×Int):=[(24000,1001,24,0),(24,1,24,0),(25,1,25,0),(30000,1001,30,2),(30,1,30,0),(50,1,50,0),(60000,1001,60,4),(60,1,60,0)]
def zI(nu de:Int):List (Int×Int×Int×Int)->Option (Int×Int×Int×Int)
 |[]=>none
 |x::r=>if x.1=nu/\x.2.1=de then some x else zI nu de r
def Ve(nu de:Int):Bool:=(zI nu de yE).isSome
def H7:Option (Int×Int×Int×Int)->AV
 |some x=>.aV [.agg [I x.1,I x.2.1,I x.2.2.1,I x.2.2.2],.bool true]
 |none=>.aV [.agg [I 0,I 0,I 0,I 0],.bool false]
def SF:∀i:Nat,i<8->∃x,yE[i]?=some x/\(HI.drop (i*4)).take 4=[I x.1,I x.2.1,I x.2.2.1,I x.2.2.2]/\yE.drop i=x::yE.drop (i+1)
 |0,_=>⟨_,rfl,rfl,rfl⟩
 |1,_=>⟨_,rfl,rfl,rfl⟩
 |2,_=>⟨_,rfl,rfl,rfl⟩
 |3,_=>⟨_,rfl,rfl,rfl⟩
 |4,_=>⟨_,rfl,rfl,rfl⟩
 |5,_=>⟨_,rfl,rfl,rfl⟩
 |6,_=>⟨_,rfl,rfl,rfl⟩
 |7,_=>⟨_,rfl,rfl,rfl⟩
 |n+8,h=>by omega
def Jp{nu de:Int}(h:Ve nu de=true):24<=nu/\nu<=60000/\1<=de/\de<=1001/\de<nu:=by
 simp only[Ve,yE,zI]at h;repeat' split at h
 all_goals first|(cases h;done)|omega
theorem abb:HI.length=32:=rfl
def SG(nu de:Int):Pure Tryz.prog az 252 [.agg [I nu,I de]] (H7 (zI nu de yE)):=by
 refine Qn adm (fun _ _ _=>.junk) (by simp) ?_;have hg:az 0=.ep HI 0:=rfl;have qE:=abb;have bz:HI.take 32=HI:=rfl;simp[ah3,hg,qE,bz];refine Qj uZ (fun f m=>∃(i:Nat)(bx:List (List AV)),f 7=I i/\i<=8/\zI nu de (yE.drop i)=zI nu de yE/\m=⟨[I nu,I de]::[I 0,I 0,I 0,I 0]::bx,[],fun _=>.gone,0⟩) (fun f _=>8-(numOf (f 7)).toNat) ?_ ?_
 ·exact⟨0,[],by simp,by omega,rfl,rfl⟩
 rintro f m ⟨i,bx,h7,hi,hf,rfl⟩;by_cases h8:i=8
 ·subst h8;have:zI nu de (yE.drop 8)=none:=rfl;rw[this]at hf;simp[h7,uZ,UH,<- hf,H7]
 have ai:i<8:=by omega
 obtain⟨x,hx,aa,hd⟩:=SF i ai;have ah:(i:Int)<8:=by omega
 have hw:=bJ i (by omega);have FB:min 4 (32-i*4)=4:=by omega
 rw[hd,zI]at hf;by_cases hc:x.1=nu/\x.2.1=de
 ·rw[if_pos hc]at hf;simp[h7,ah,aa,hc.1,hc.2,uZ,UH,<- hf,H7]
 rw[if_neg hc]at hf;by_cases fh:x.1=nu
 ·have B7:¬x.2.1=de:=fun h=>hc ⟨fh,h⟩;simp[h7,ah,aa,fh,B7,uZ,hw];refine⟨aN,⟨i+1,by simp,by omega,hf⟩,by omega⟩
 simp[h7,ah,aa,fh,uZ,hw];refine⟨aN,⟨i+1,by simp,by omega,hf⟩,by omega⟩
def Wl(nu de:Int):Pure Tryz.prog az 183 [.agg [I nu,I de]] (.bool (Ve nu de)):=by
 have h:=SG nu de;unfold Ve;refine Qn acD (fun _ _ _=>H7 (zI nu de yE)) (by simp) ?_;cases hf:zI nu de yE with
 |none=>rw[hf]at h;simp only[H7]at h;simp[TV,TW,H7];exact h
 |some x=>rw[hf]at h;simp only[H7]at h;simp[TV,TW,H7];exact h
def H8(f:Int):Pure Tryz.prog az 254 [I f] (.bool (decide (0<=f/\f<=100000000))):=by
 refine Qn ado (fun _ _ _=>.junk) (by simp) ?_;by_cases h1:0<=f<;>by_cases h2:f<=100000000<;>simp[ah6,ah7,h1,h2]
def sQ(f:Int):Pure Tryz.prog az 57 [I f] (.bool (decide (0<=f/\f<=100000000))):=by
 refine Qn akE (fun _ _ _=>.junk) (by simp) ?_;by_cases h1:0<=f<;>by_cases h2:f<=100000000<;>simp[aoC,aoD,h1,h2]
def Yj(nu de f:Int):Int:=if Ve nu de=true/\0<=f/\f<=100000000 then(f*de).tdiv nu else -1
def wJ(nu de s:Int):Int:=if Ve nu de=true/\0<=s/\s<=10000000000 then(s*nu+de-1).tdiv de else -1
def CY{x y a b:Int}(h1:0<=x/\x<=a)(h2:0<=y/\y<=b):0<=x*y/\x*y<=a*b:=
 ⟨zzdz h1.1 h2.1,Int.mul_le_mul h1.2 h2.2 h2.1 (zzhn h1.1 h1.2)⟩
def CZ{x y:Int}(h:0<=x)(hy:1<=y):0<=x.tdiv y/\x.tdiv y<=x:=by
 rw[zzck h];exact⟨Int.ediv_nonneg h (by omega),Int.ediv_le_self _ h⟩
def QL(nu de f:Int):Pure Tryz.prog az 185 [.agg [I nu,I de],I f] (I (Yj nu de f)):=by
 have h1:=Wl nu de;have h2:=H8 f;refine Qn acF (fun _ g _=>if g=183 then .bool (Ve nu de)else .bool (decide (0<=f/\f<=100000000))) (by simp) ?_;cases hv:Ve nu de with
 |false=>rw[hv]at h1;simp[M0,M1,hv,Yj];exact h1
 |true=>
  rw[hv]at h1;by_cases hf:0<=f/\f<=100000000
  ·obtain⟨b1,b2,b3,b4,_⟩:=Jp hv;obtain⟨p1,p2⟩:=CY (x:=f) (y:=de) (a:=100000000) (b:=1001) ⟨hf.1,hf.2⟩ ⟨by omega,by omega⟩;have w1:IntKind.i64.wrap (f*de)=f*de:=by rw[Qi]<;>omega
   obtain⟨d1,d2⟩:=CZ (x:=f*de) (y:=nu) p1 (by omega);have w2:IntKind.i64.wrap ((f*de).tdiv nu)=(f*de).tdiv nu:=by rw[Qi]<;>omega
   have hnz:¬nu=0:=by omega
   simp[hf]at h2;simp[M0,M1,hv,Yj,hf,w1,w2,hnz];exact⟨h1,h2⟩
  simp only[hf,decide_false]at h2;simp[M0,M1,hv,Yj,hf];exact⟨h1,h2⟩
def agK(a b:Int)(ha:0<=a/\a<=1000000000000000)(hb:1<=b/\b<=1001):Pure Tryz.prog az 191 [I a,I b] (I ((a+b-1).tdiv b)):=by
 refine Qn acL (fun _ _ _=>.junk) (by simp) ?_;have w1:IntKind.i64.wrap (a+b)=a+b:=by rw[Qi]<;>omega
 have w2:IntKind.i64.wrap (a+b-1)=a+b-1:=by rw[Qi]<;>omega
 obtain⟨d1,d2⟩:=CZ (x:=a+b-1) (y:=b) (by omega) (by omega);have w3:IntKind.i64.wrap ((a+b-1).tdiv b)=(a+b-1).tdiv b:=by rw[Qi]<;>omega
 have hnz:¬b=0:=by omega
 simp[ahv,ahw,w1,w2,w3,hnz]
def AJ(nu de s:Int):Pure Tryz.prog az 119 [.agg [I nu,I de],I s] (I (wJ nu de s)):=by
 have h1:=Wl nu de;refine Qn ab1 (fun _ g _=>if g=183 then .bool (Ve nu de)else I (wJ nu de s)) (by simp) ?_;cases hv:Ve nu de with
 |false=>rw[hv]at h1;simp[D9,Ea,hv,wJ];exact h1
 |true=>
  rw[hv]at h1;by_cases Ny:s<0
  ·have:¬(0<=s/\s<=10000000000):=by omega
   simp[D9,Ea,hv,wJ,Ny,this];exact h1
  by_cases hs1:10000000000<s
  ·have:¬(0<=s/\s<=10000000000):=by omega
   simp[D9,Ea,hv,wJ,Ny,hs1,this];exact h1
  have hs:0<=s/\s<=10000000000:=by omega
  obtain⟨b1,b2,b3,b4,_⟩:=Jp hv;obtain⟨p1,p2⟩:=CY (x:=s) (y:=nu) (a:=10000000000) (b:=60000) ⟨hs.1,hs.2⟩ ⟨by omega,by omega⟩;have w1:IntKind.i64.wrap (s*nu)=s*nu:=by rw[Qi]<;>omega
  have h2:=agK (s*nu) de ⟨p1,by omega⟩ ⟨by omega,by omega⟩;simp[D9,Ea,hv,wJ,Ny,hs1,hs,w1];exact⟨h1,h2⟩
def gM(n:Int):Bool:=decide (-50400<=n/\n<=50400)
def yF(n:Int):Pure Tryz.prog az 253 [I n] (.bool (gM n)):=by
 refine Qn adn (fun _ _ _=>.junk) (by simp) ?_;by_cases h1: -50400<=n<;>by_cases h2:n<=50400<;>simp[ah4,ah5,gM,h1,h2]
def tu:Int->List Sp->Bool
 |_,[]=>true
 |last,s::r=>if s.1<=last\/10000000000<s.1\/gM s.2=false then false else tu s.1 r
def Vy(of:Int)(sh:List Sp):Bool:=decide (sh.length<=40)&&gM of&&tu (-1) sh
def jm(of:Int)(sh:List Sp)(hl:sh.length<=1000000000):Pure Tryz.prog az 184 [.agg [I of,.sl .ro (sh.map Qe)]] (.bool (Vy of sh)):=by
 have h1:=yF of;refine Qn acE (fun d f a=>match a with|[.int _ n]=>.bool (gM n)|_=>.junk) (by simp) ?_;by_cases h40:40<sh.length
 ·have agL:(40:Int)<(sh.length:Int):=by omega
  have:Vy of sh=false:=by simp[Vy];intro h;omega
  simp[Ei,uN,agL,this]
 have agL:¬(40:Int)<(sh.length:Int):=by omega
 cases ho:gM of with
 |false=>
  have:Vy of sh=false:=by simp[Vy,ho]
  rw[ho]at h1;simp[Ei,uN,agL,this,ho];exact h1
 |true=>
  have hv:Vy of sh=tu (-1) sh:=by simp[Vy,ho];intro _;omega
  rw[ho]at h1;simp[Ei,agL,ho];refine⟨h1,?_⟩;refine Qj qj (fun f m=>∃(i:Nat)(last:Int)(bx:List (List AV)),f 19=I i/\f 3=I last/\i<=sh.length/\tu last (sh.drop i)=tu (-1) sh/\m=⟨[I of,.sl .ro (sh.map Qe)]::bx,[],fun _=>.gone,0⟩) (fun f _=>sh.length-(numOf (f 19)).toNat) ?_ ?_
  ·exact⟨0,-1,[],by simp,by simp,by omega,rfl,rfl⟩
  rintro f m ⟨i,last,bx,h19,h3,hi,ha,rfl⟩;rcases zzaa i sh.length with ai|bB
  ·obtain⟨s,hs⟩:=aR ai;have aa:=Zd hs;have ah:(i:Int)<(sh.length:Int):=by omega
   have hw:=bJ i (by omega);have hd:sh.drop i=s::sh.drop (i+1):=by rw[zzaf ai,(zza.1 hs).2]
   rw[hd,tu]at ha;have hp:=yF s.2;by_cases c1:s.1<=last
   ·rw[if_pos (.inl c1)]at ha;simp[h19,h3,ah,aa,c1,qj,uN,hv,<- ha]
   by_cases c2:10000000000<s.1
   ·rw[if_pos (.inr (.inl c2))]at ha;simp[h19,h3,ah,aa,c1,c2,qj,uN,hv,<- ha]
   cases c3:gM s.2 with
   |false=>
    rw[if_pos (.inr (.inr c3))]at ha;rw[c3]at hp;simp[h19,h3,ah,aa,c1,c2,c3,qj,uN,hv,<- ha];exact hp
   |true=>
    rw[if_neg (by rintro(h|h|h);exact c1 h;exact c2 h;rw[c3]at h;cases h)]at ha;rw[c3]at hp;simp[h19,h3,ah,aa,c1,c2,c3,qj,hw];refine⟨hp,aN,⟨i+1,by simp,by omega,ha⟩,by omega⟩
  rw[zzan bB,tu]at ha;have bI:¬(i:Int)<(sh.length:Int):=by omega
  simp[h19,bI,qj,uN,hv,<- ha]
def Ka(p:Pl):Bool:=Ve p.nu p.de&&Vy p.of p.sh&&decide (0<=p.ep/\p.ep<=9000000000)
def KL(p:Pl)(hl:p.sh.length<=1000000000):Pure Tryz.prog az 114 [.agg (Qc p)] (.bool (Ka p)):=by
 have h1:=Wl p.nu p.de;have h2:=jm p.of p.sh hl;refine Qn abW (fun _ g _=>if g=183 then .bool (Ve p.nu p.de)else .bool (Vy p.of p.sh)) (by simp) ?_;cases hv:Ve p.nu p.de with
 |false=>rw[hv]at h1;simp[MD,ME,Qc,Ka,hv];exact h1
 |true=>
  rw[hv]at h1;cases hz:Vy p.of p.sh with
  |false=>rw[hz]at h2;simp[MD,ME,Qc,Ka,hv,hz];exact⟨h1,h2⟩
  |true=>
   rw[hz]at h2;by_cases c1:0<=p.ep<;>by_cases c2:p.ep<=9000000000<;>simp[MD,ME,Qc,Ka,hv,hz,c1,c2]<;>exact⟨h1,h2⟩
open Go Go.Abs
instance:DecidableEq Cl:=fun x y=>decidable_of_iff (x.ki=y.ki/\x.it=y.it/\x.fr=y.fr/\x.to=y.to/\x.re=y.re/\x.n=y.n/\x.a=y.a/\x.b=y.b) (by cases x;cases y;simp)
def wi(n lo hi:Int):Bool:=decide (lo<=n/\n<=hi)
def Vl(n lo hi:Int):Pure Tryz.prog az 171 [I n,I lo,I hi] (.bool (wi n lo hi)):=by
 refine Qn acw (fun _ _ _=>.junk) (by simp) ?_;by_cases h1:lo<=n<;>by_cases h2:n<=hi<;>simp[ahr,ahs,wi,h1,h2]
def Km(c:Cl):Cl:=
 if c.ki=1\/c.ki=2 then⟨c.ki,c.it,c.fr,c.to,c.re,0,0,0⟩else if c.ki=3\/c.ki=4 then⟨c.ki,c.it,0,0,c.re,c.n,0,0⟩else
 if c.ki=5 then⟨c.ki,0,0,0,0,c.n,c.a,c.b⟩else if c.ki=6 then⟨c.ki,0,c.fr,c.to,0,0,c.a,0⟩else⟨0,0,0,0,0,0,0,0⟩
def SH(c:Cl):Pure Tryz.prog az 169 [.agg (Qg c)] (.agg (Qg (Km c))):=by
 refine Qn acu (fun _ _ _=>.junk) (by simp) ?_;by_cases h1:c.ki=1
 ·simp[rH,rI,Qg,Km,h1]
 by_cases h2:c.ki=2
 ·simp[rH,rI,Qg,Km,h2]
 by_cases h3:c.ki=3
 ·simp[rH,rI,Qg,Km,h3]
 by_cases h4:c.ki=4
 ·simp[rH,rI,Qg,Km,h4]
 by_cases h5:c.ki=5
 ·simp[rH,rI,Qg,Km,h5]
 by_cases h6:c.ki=6
 ·simp[rH,rI,Qg,Km,h6]
 simp[rH,rI,Qg,Km,h1,h2,h3,h4,h5,h6]
def Vu(c:Cl):Bool:=wi c.it 1 4611686018427387903&&wi c.re 1 255
def DG:Nat->FuncId->List AV->AV:=fun _ _ l=>match l with
 |[.int _ n,.int _ lo,.int _ hi]=>.bool (wi n lo hi)
 |_=>.junk
def H9(c:Cl):Pure Tryz.prog az 170 [.agg (Qg c)] (.bool (Vu c)):=by
 have h1:=Vl c.it 1 4611686018427387903;have h2:=Vl c.re 1 255;refine Qn acv DG (by simp) ?_;cases e1:wi c.it 1 4611686018427387903 with
 |false=>rw[e1]at h1;simp[TR,TS,Qg,DG,Vu,e1];exact h1
 |true=>rw[e1]at h1;simp[TR,TS,Qg,DG,Vu,e1];exact⟨h1,h2⟩
def Jj(n:Int):Bool:=wi n 0 86340&&decide (n.tmod 60=0)
def sR(n:Int):Pure Tryz.prog az 172 [I n] (.bool (Jj n)):=by
 have h1:=Vl n 0 86340;refine Qn acy DG (by simp) ?_;cases e1:wi n 0 86340 with
 |false=>rw[e1]at h1;simp[TT,TU,DG,Jj,e1];exact h1
 |true=>
  rw[e1]at h1;by_cases e2:n.tmod 60=0<;>simp[TT,TU,DG,Jj,e1,e2]<;>exact h1
def Uf(c:Cl):Bool:=
 if c.ki=1\/c.ki=2 then Vu c&&(decide (0<=c.fr)&&(decide (c.fr<c.to)&&decide (c.to<=10000000000)))else if c.ki=3 then Vu c&&wi c.n 0 1000 else
 if c.ki=4 then Vu c&&wi c.n 0 10000000000 else if c.ki=5 then wi c.a 1 200&&(wi c.b 1 200&&(decide (c.a≠c.b)&&wi c.n 0 86400))else
 if c.ki=6 then wi c.a 1 3&&(Jj c.fr&&(Jj c.to&&decide (c.fr≠c.to)))else false
def Xj(c:Cl):Bool:=decide (Km c=c)&&Uf c
def axi(c u:Cl):eqFs [I c.ki,I c.it,I c.fr,I c.to,I c.re,I c.n,I c.a,I c.b] [I u.ki,I u.it,I u.fr,I u.to,I u.re,I u.n,I u.a,I u.b]=decide (u=c):=by
 obtain⟨a1,a2,a3,a4,a5,a6,a7,a8⟩:=c;obtain⟨b1,b2,b3,b4,b5,b6,b7,b8⟩:=u;simp only[eqFs,eqF,Cl.mk.injEq,zzge];by_cases h:(b1=a1/\b2=a2/\b3=a3/\b4=a4/\b5=a5/\b6=a6/\b7=a7/\b8=a8)
 ·obtain⟨rfl,rfl,rfl,rfl,rfl,rfl,rfl,rfl⟩:=h;simp
 rw[decide_eq_false h];apply Bool.eq_false_iff.2;intro hh;simp only[zzak,beq_iff_eq]at hh;obtain⟨e1,e2,e3,e4,e5,e6,e7,e8⟩:=hh;exact h ⟨e1.symm,e2.symm,e3.symm,e4.symm,e5.symm,e6.symm,e7.symm,e8.symm⟩
def anD(c:Cl):Nat->FuncId->List AV->AV:=fun _ f l=>
 if f=169 then .agg (Qg (Km c))else if f=170 then .bool (Vu c)else if f=171 then(match l with
 |[.int _ n,.int _ lo,.int _ hi]=>.bool (wi n lo hi)
 |_=>.junk)else match l with
 |[.int _ n]=>.bool (Jj n)
 |_=>.junk
def Ko(c:Cl):Pure Tryz.prog az 83 [.agg (Qg c)] (.bool (Xj c)):=by
 have h0:=SH c;have hE:=axi c (Km c);have hi:=H9 c;refine Qn ak3 (anD c) (by simp) ?_;by_cases hu:Km c=c
 ·rw[hu]at h0 hE;simp only[decide_true]at hE;have hv:Xj c=Uf c:=by simp[Xj,hu]
  rw[hv];simp[-eqFs,ak2,Qg,anD,hu,hE];refine⟨h0,?_⟩;by_cases h1:c.ki=1\/c.ki=2
  ·have hk:Uf c=(Vu c&&(decide (0<=c.fr)&&(decide (c.fr<c.to)&&decide (c.to<=10000000000)))):=by unfold Uf;rw[if_pos h1]
   rw[hk];clear hk hv;cases e1:Vu c with
   |false=>rw[e1]at hi;rcases h1 with h1|h1<;>(simp[gX,h1];simpa[Qg,h1]using hi)
   |true=>
    rw[e1]at hi;by_cases e2:0<=c.fr<;>by_cases e3:c.fr<c.to<;>by_cases e4:c.to<=10000000000<;>rcases h1 with h1|h1<;>(simp[gX,h1,e2,e3,e4];simpa[Qg,h1]using hi)
  have qN:¬c.ki=1:=fun h=>h1 (.inl h);have qO:¬c.ki=2:=fun h=>h1 (.inr h);by_cases h3:c.ki=3
  ·have hk:Uf c=(Vu c&&wi c.n 0 1000):=by unfold Uf;rw[if_neg h1,if_pos h3]
   rw[hk];clear hk hv;have hw:=Vl c.n 0 1000;cases e1:Vu c with
   |false=>rw[e1]at hi;simp[gX,h3];simpa[Qg,h3]using hi
   |true=>rw[e1]at hi;simp[gX,h3];exact⟨by simpa[Qg,h3]using hi,hw⟩
  by_cases h4:c.ki=4
  ·have hk:Uf c=(Vu c&&wi c.n 0 10000000000):=by unfold Uf;rw[if_neg h1,if_neg h3,if_pos h4]
   rw[hk];clear hk hv;have hw:=Vl c.n 0 10000000000;cases e1:Vu c with
   |false=>rw[e1]at hi;simp[gX,h4];simpa[Qg,h4]using hi
   |true=>rw[e1]at hi;simp[gX,h4];exact⟨by simpa[Qg,h4]using hi,hw⟩
  by_cases h5:c.ki=5
  ·have hk:Uf c=(wi c.a 1 200&&(wi c.b 1 200&&(decide (c.a≠c.b)&&wi c.n 0 86400))):=by unfold Uf;rw[if_neg h1,if_neg h3,if_neg h4,if_pos h5]
   rw[hk];clear hk hv hi;have w1:=Vl c.a 1 200;have w2:=Vl c.b 1 200;have w3:=Vl c.n 0 86400;cases e1:wi c.a 1 200 with
   |false=>rw[e1]at w1;simp[gX,h5];exact w1
   |true=>
    rw[e1]at w1;cases e2:wi c.b 1 200 with
    |false=>rw[e2]at w2;simp[gX,h5];exact⟨w1,w2⟩
    |true=>
     rw[e2]at w2;by_cases e3:c.a=c.b
     ·simp[gX,h5,e3];exact w2
     simp[gX,h5,e3];exact⟨w1,w2,w3⟩
  by_cases h6:c.ki=6
  ·have hk:Uf c=(wi c.a 1 3&&(Jj c.fr&&(Jj c.to&&decide (c.fr≠c.to)))):=by unfold Uf;rw[if_neg h1,if_neg h3,if_neg h4,if_neg h5,if_pos h6]
   rw[hk];clear hk hv hi;have w1:=Vl c.a 1 3;have w2:=sR c.fr;have w3:=sR c.to;cases e1:wi c.a 1 3 with
   |false=>rw[e1]at w1;simp[gX,h6];exact w1
   |true=>
    rw[e1]at w1;cases e2:Jj c.fr with
    |false=>rw[e2]at w2;simp[gX,h6];exact⟨w1,w2⟩
    |true=>
     rw[e2]at w2;cases e4:Jj c.to with
     |false=>rw[e4]at w3;simp[gX,h6];exact⟨w1,w2,w3⟩
     |true=>
      rw[e4]at w3;by_cases e3:c.fr=c.to
      ·simp[gX,h6,e3];exact⟨w1,w3⟩
      simp[gX,h6,e3];exact⟨w1,w2,w3⟩
  have hk:Uf c=false:=by unfold Uf;rw[if_neg h1,if_neg h3,if_neg h4,if_neg h5,if_neg h6]
  rw[hk];simp[gX,qN,qO,h3,h4,h5,h6]
 simp only[hu,decide_false]at hE;have hv:Xj c=false:=by simp[Xj,hu]
 rw[hv];simp[-eqFs,ak2,gX,Qg,anD,hE];exact h0
def aak(a:Int):IntKind.i64.wrap ((BitVec.ofInt 64 a&&& 1#64).toNat:Int)=a%2:=by
 have h:(BitVec.ofInt 64 a&&& 1#64).toNat=(BitVec.ofInt 64 a).toNat%2:=by
  rw[BitVec.toNat_and];exact Nat.and_one_is_mod _
 rw[h,BitVec.toNat_ofInt,Qi]<;>omega
def anE(c:Cl)(region:Int):Bool:=decide (c.re.fdiv (2 ^ (min region.toNat 64))%2=1)
def gL(c:Cl)(item region:Int):Bool:=wi region 0 7&&(decide (c.it=item)&&anE c region)
def mw(c:Cl)(item region:Int):Pure Tryz.prog az 255 [.agg (Qg c),I item,I region] (.bool (gL c item region)):=by
 have h1:=Vl region 0 7;refine Qn adp DG (by simp) ?_;cases e1:wi region 0 7 with
 |false=>rw[e1]at h1;simp[Es,Et,Qg,DG,gL,e1];exact h1
 |true=>
  have hr:0<=region:=by simp[wi]at e1;omega
  rw[e1]at h1;by_cases e2:c.it=item
  ·by_cases e3:c.re.fdiv (2 ^ (min region.toNat 64))%2=1
   ·simp[Es,Et,Qg,DG,gL,e1,e2,e3,hr,anE,IntKind.bits];exact⟨h1,(aak _).trans e3⟩
   simp[Es,Et,Qg,DG,gL,e1,e2,e3,hr,anE,IntKind.bits];exact⟨h1,fun h=>e3 ((aak _).symm.trans h)⟩
  simp[Es,Et,Qg,DG,gL,e1,e2];exact h1
def H6(bW:Int)(c:Cl):Bool:=decide (c.ki=6)&&(decide (c.a<=bW)&&Xj c)
def tZ(cs:List Cl)(bW:Int):List Sp:=(cs.filter (H6 bW)).map fun c=>(c.fr,c.to)
def tw(cs:List Cl)(bW:Int)(hl:cs.length<=100000000):Pure Tryz.prog az 188 [.sl .ro (cs.map Qg),I bW] (.sl .ro ((tZ cs bW).map Qe)):=by
 have key:∀r,r=(if tZ cs bW=[]then AV.sl .nil []else .sl .ro ((tZ cs bW).map Qe))->Pure Tryz.prog az 188 [.sl .ro (cs.map Qg),I bW] r:=by
  rintro r rfl
  refine Qn acI (fun d f l=>if f=999999 then .junk else match l with
   |[.agg [.int _ a,.int _ b,.int _ c,.int _ d,.int _ e,.int _ f,.int _ g,.int _ h]]=>.bool (Xj ⟨a,b,c,d,e,f,g,h⟩)
   |_=>.junk) (by simp) ?_
  simp[TY]
  refine Qj iK (fun f m=>∃(i:Nat)(bx:List (List AV))(rt:Rt)(L':List Nat)(o:List Sp),i<=cs.length/\f 10=I i/\f 5=.sl rt (o.map Qe)/\m=⟨bx,L',fun _=>.gone,0⟩/\o.length<=i/\o++tZ (cs.drop i) bW=tZ cs bW/\
   ((o=[]/\rt=.nil/\L'=[])\/(o≠[]/\rt=.own 0 2/\L'=[o.length]))) (fun f _=>cs.length-(numOf (f 10)).toNat) ?_ ?_
  ·exact⟨0,[],.nil,[],[],by omega,by simp,by simp,rfl,by simp,by simp,.inl ⟨rfl,rfl,rfl⟩⟩
  rintro f m ⟨i,bx,rt,L',o,hi,nY,h5,rfl,Fv,ho,aT⟩;rcases zzaa i cs.length with ai|bB
  ·obtain⟨c,hc⟩:=aR ai;have aa:Qh (cs.map Qg) i=Qg c:=Qs (by simp[hc]);have ah:(i:Int)<(cs.length:Int):=by omega
   have hw:=bJ i (by omega);have hd:cs.drop i=c::cs.drop (i+1):=by rw[zzaf ai,(zza.1 hc).2]
   have XP:=Ko c;rw[hd]at ho
   have gZ:∀row∈o.map Qe,row.length=2:=by
    intro row h;rw[zzay]at h;obtain⟨a,_,rfl⟩:=h;rfl
   have skip:H6 bW c=false->o++tZ (cs.drop (i+1)) bW=tZ cs bW:=by
    intro hb;rw[<- ho];simp[tZ,hb]
   have take:H6 bW c=true->(o++[(c.fr,c.to)])++tZ (cs.drop (i+1)) bW=tZ cs bW:=by
    intro hb;rw[<- ho];simp[tZ,hb]
   by_cases c1:c.ki=6
   ·have hc6:(⟨6,c.it,c.fr,c.to,c.re,c.n,c.a,c.b⟩:Cl)=c:=by cases c;simp at c1;subst c1;rfl
    have ny:Pure Tryz.prog az 83 [.agg [I 6,I c.it,I c.fr,I c.to,I c.re,I c.n,I c.a,I c.b]] (.bool (Xj c)):=by simpa[Qg,c1]using XP
    by_cases c2:c.a<=bW
    ·cases c3:Xj c with
     |true=>
      have ht:=take (by simp[H6,c1,c2,c3]);rw[c3]at ny;obtain⟨rfl,rfl,rfl⟩|⟨aJ,rfl,rfl⟩:=aT
      ·simp[nY,h5,ah,aa,Qg,c1,c2,hc6,c3,iK,hw];refine⟨ny,aN,⟨i+1,by omega,by simp,_,.own 0 2,[1],[(c.fr,c.to)],⟨rfl,rfl⟩,⟨rfl,rfl⟩,by simp,ht,by simp⟩,by omega⟩
      simp[nY,h5,ah,aa,Qg,c1,c2,hc6,c3,iK,hw];refine⟨ny,⟨?_,by omega⟩,aN,⟨i+1,by omega,by simp,_,.own 0 2,[o.length+1],o++[(c.fr,c.to)],⟨rfl,by simp[Qe]⟩,⟨rfl,rfl⟩,by simp;omega,ht,by simp⟩,by omega⟩
      ·rintro row (⟨a,b,_,rfl⟩|rfl)<;>rfl
     |false=>
      have hs:=skip (by simp[H6,c3]);rw[c3]at ny;simp[nY,h5,ah,aa,Qg,c1,c2,hc6,c3,iK,hw];refine⟨ny,aN,⟨i+1,by omega,by simp,_,rt,L',o,⟨rfl,rfl⟩,⟨rfl,rfl⟩,by omega,hs,aT⟩,by omega⟩
    have hs:=skip (by simp[H6,c2]);simp[nY,h5,ah,aa,Qg,c1,c2,iK,hw];refine⟨aN,⟨i+1,by omega,by simp,_,rt,L',o,⟨rfl,rfl⟩,⟨rfl,rfl⟩,by omega,hs,aT⟩,by omega⟩
   have hs:=skip (by simp[H6,c1]);simp[nY,h5,ah,aa,Qg,c1,iK,hw];refine⟨aN,⟨i+1,by omega,by simp,_,rt,L',o,⟨rfl,rfl⟩,⟨rfl,rfl⟩,by omega,hs,aT⟩,by omega⟩
  obtain rfl:i=cs.length:=by omega
  have he:tZ cs bW=o:=by rw[<- ho];simp[tZ]
  rw[he];obtain⟨rfl,rfl,rfl⟩|⟨aJ,rfl,rfl⟩:=aT
  ·simp[nY,h5,iK,TZ]
  simp[nY,h5,iK,TZ,aJ]
 have hk:=key _ rfl;by_cases hn:tZ cs bW=[]
 ·rw[if_pos hn]at hk;rw[hn];exact Qy hk (Wk.sl _ _)
 rw[if_neg hn]at hk;exact hk
end Go.Proofs.YtnopaopphmjnmaaGreatDoor
