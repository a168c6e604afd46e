import Derived.Test.YthjppoincojfkaaGreatDoorRBMO
set_option linter.all false
set_option maxRecDepth 100000
set_option maxHeartbeats 64000000
namespace Go.Proofs.YthjppoincojfkaaGreatDoor
open Go Go.Abs
structure It where
 id:Int
 ki:Int
 fr:Int
 sp:Int
 ra:Int
structure Cl where
 ki:Int
 it:Int
 fr:Int
 to:Int
 re:Int
 n:Int
 a:Int
 b:Int
structure En where
 id:Int
 it:Int
 fr:Int
 ea:Int
 la:Int
 bo:Int
 al:List Sp
structure Bk where
 id:Int
 it:Int
 re:Int
 fr:Int
 to:Int
 un:Int
 pr:Int
structure Pl where
 ch:Int
 nu:Int
 de:Int
 of:Int
 sh:List Sp
 ep:Int
 rg:Int
 ln:Int
 fi:Int
 aM:List It
 ens:List En
 bks:List Bk
 cls:List Cl
def Qh(x:It):P2:=[I x.id,I x.ki,I x.fr,I x.sp,I x.ra]
def Qi(x:Cl):P2:=[I x.ki,I x.it,I x.fr,I x.to,I x.re,I x.n,I x.a,I x.b]
def Qd(x:En):P2:=[I x.id,I x.it,I x.fr,I x.ea,I x.la,I x.bo,.sl .ro (x.al.map Qf)]
def Xj(x:Bk):P2:=[I x.id,I x.it,I x.re,I x.fr,I x.to,I x.un,I x.pr]
def Qa(p:Pl):P2:=[I p.ch,I p.nu,I p.de,I p.of,.sl .ro (p.sh.map Qf),I p.ep,I p.rg,I p.ln,I p.fi,.sl .ro (p.aM.map Qh),.sl .ro (p.ens.map Qd),.sl .ro (p.bks.map Xj),.sl .ro (p.cls.map Qi)]
def HH(l:List Sp)(s:Sp)(hl:l.length<=10000000):Pure Tryz.prog aD 39 [.sl .ro (l.map Qf),.agg [I s.1,I s.2]] (.bool (Dc [s] l).isEmpty):=by
 have h:=zR [s] l zd hl;have h':=Xw (l:=[.sl .full [[I s.1,I s.2]],.sl .ro (l.map Qf)]) h ⟨Wk.sl _ _,Ps,trivial⟩;generalize Dc [s] l=R at h';refine Qp ajH (fun _ f _=>if f=79 then .sl .ro (R.map Qf)else .junk) zd ?_;cases R with
 |nil=>simp[ajF,ajG];exact h'
 |cons a r=>
  have:¬(r.length:Int)+1=0:=zE
  simp[ajF,ajG,this];exact h'
def Xg(id:Int):List It->Option It
 |[]=>none
 |x::r=>if x.id=id then some x else Xg id r
def Qdd{id:Int}{x:It}:∀{l:List It},Xg id l=some x->x∈l/\x.id=id
 |[],h=>by cases h
 |y::r,h=>by
  simp only[Xg]at h;split at h
  ·rename_i hy;cases h;exact⟨zd,hy⟩
  obtain⟨h1,h2⟩:=Qdd h;exact⟨by simp[h1],h2⟩
def Xp:Option It->AV
 |some x=>.aS [.agg (Qh x),.bool true]
 |none=>.aS [.agg [I 0,I 0,I 0,I 0,I 0],.bool false]
def kT(p:Pl)(id:Int)(hl:p.aM.length<=1000000000):Pure Tryz.prog aD 80 [.agg (Qa p),I id] (Xp (Xg id p.aM)):=by
 refine Qp akf (fun _ _ _=>.junk) zd ?_;simp[ao2,Qa];refine Qk Mu (fun f m=>∃(i:Nat)(bx:T5),f 11=I i/\i<=p.aM.length/\Xg id (p.aM.drop i)=Xg id p.aM/\m=⟨Qa p::[I 0,I 0,I 0,I 0,I 0]::bx,[],fun _=>.gone,0⟩) (fun f _=>p.aM.length-(numOf (f 11)).toNat) ?_ ?_
 ·exact⟨0,[],zd,zE,rfl,rfl⟩
 rintro f m ⟨i,bx,pq,hi,hf,rfl⟩;rcases zzaa i p.aM.length with ai|bn
 ·obtain⟨x,hx⟩:=aV ai;have ah:Qj (p.aM.map Qh) i=Qh x:=Qu (by simp[hx]);have aa:(i:Int)<(p.aM.length:Int):=zE
  have hw:=bO i zE;have hd:p.aM.drop i=x::p.aM.drop (i+1):=by rw[zzah ai,(zza.1 hx).2]
  rw[hd,Xg]at hf;by_cases aL:x.id=id
  ·rw[if_pos aL]at hf;simp[pq,ai,aa,ah,Qh,aL,Mu,ake,<- hf,Xp]
  rw[if_neg aL]at hf;simp[pq,ai,aa,ah,Qh,aL,Mu,hw];refine⟨aQ,⟨i+1,zd,zE,hf⟩,zE⟩
 rw[zzal bn]at hf;have bP:¬(i:Int)<(p.aM.length:Int):=zE
 simp[pq,zzbk.2 bn,bP,Mu,ake,<- hf,Xp,Xg]
def yU:List (Int×Int×Int×Int):=[(24000,1001,24,0),(24,1,24,0),(25,1,25,0),(30000,1001,30,2),(30,1,30,0),(50,1,50,0),(60000,1001,60,4),(60,1,60,0)]
def z7(nu de:Int):List (Int×Int×Int×Int)->Option (Int×Int×Int×Int)
 |[]=>none
 |x::r=>if x.1=nu/\x.2.1=de then some x else z7 nu de r
def Vd(nu de:Int):Bool:=(z7 nu de yU).isSome
def H8:Option (Int×Int×Int×Int)->AV
 |some x=>.aS [.agg [I x.1,I x.2.1,I x.2.2.1,I x.2.2.2],.bool true]
 |none=>.aS [.agg [I 0,I 0,I 0,I 0],.bool false]
def RZ:∀i:Nat,i<8->∃x,yU[i]?=some x/\(Ho.drop (i*4)).take 4=[I x.1,I x.2.1,I x.2.2.1,I x.2.2.2]/\yU.drop i=x::yU.drop (i+1)
 |0,_=>⟨_,rfl,rfl,rfl⟩
 |1,_=>⟨_,rfl,rfl,rfl⟩
 |2,_=>⟨_,rfl,rfl,rfl⟩
 |3,_=>⟨_,rfl,rfl,rfl⟩
 |4,_=>⟨_,rfl,rfl,rfl⟩
 |5,_=>⟨_,rfl,rfl,rfl⟩
 |6,_=>⟨_,rfl,rfl,rfl⟩
 |7,_=>⟨_,rfl,rfl,rfl⟩
 |n+8,h=>zE
def Ju{nu de:Int}(h:Vd nu de=true):24<=nu/\nu<=60000/\1<=de/\de<=1001/\de<nu:=by
 simp only[Vd,yU,z7]at h;repeat' split at h
 all_goals first|(cases h;done)|omega
theorem aaY:Ho.length=32:=rfl
def R2(nu de:Int):Pure Tryz.prog aD 188 [.agg [I nu,I de]] (H8 (z7 nu de yU)):=by
 refine Qp acM (fun _ _ _=>.junk) zd ?_;have hg:aD 2=.ep Ho 0:=rfl;have lZ:=aaY;have bA:Ho.take 32=Ho:=rfl;simp[ahe,hg,lZ,bA];refine Qk vq (fun f m=>∃(i:Nat)(bx:T5),f 7=I i/\i<=8/\z7 nu de (yU.drop i)=z7 nu de yU/\m=⟨[I nu,I de]::[I 0,I 0,I 0,I 0]::bx,[],fun _=>.gone,0⟩) (fun f _=>8-(numOf (f 7)).toNat) ?_ ?_
 ·exact⟨0,[],zd,zE,rfl,rfl⟩
 rintro f m ⟨i,bx,h7,hi,hf,rfl⟩;by_cases h8:i=8
 ·subst h8;have:z7 nu de (yU.drop 8)=none:=rfl;rw[this]at hf;simp[h7,vq,TR,<- hf,H8]
 have ai:i<8:=zE
 obtain⟨x,hx,ah,hd⟩:=RZ i ai;have aa:(i:Int)<8:=zE
 have hw:=bO i zE;have w8:min 4 (32-i*4)=4:=zE
 rw[hd,z7]at hf;by_cases hc:x.1=nu/\x.2.1=de
 ·rw[if_pos hc]at hf;simp[h7,ai,aa,lZ,ah,w8,hc.1,hc.2,vq,TR,<- hf,H8]
 rw[if_neg hc]at hf;by_cases fC:x.1=nu
 ·have zm:¬x.2.1=de:=fun h=>hc ⟨fC,h⟩;simp[h7,ai,aa,lZ,ah,w8,fC,zm,vq,hw];refine⟨aQ,⟨i+1,zd,zE,hf⟩,zE⟩
 simp[h7,ai,aa,lZ,ah,w8,fC,vq,hw];refine⟨aQ,⟨i+1,zd,zE,hf⟩,zE⟩
def Ws(nu de:Int):Pure Tryz.prog aD 132 [.agg [I nu,I de]] (.bool (Vd nu de)):=by
 have h:=R2 nu de;unfold Vd;refine Qp ab0 (fun _ _ _=>H8 (z7 nu de yU)) zd ?_;cases hf:z7 nu de yU with
 |none=>rw[hf]at h;simp only[H8]at h;simp[Tw,Tx,H8];exact h
 |some x=>rw[hf]at h;simp only[H8]at h;simp[Tw,Tx,H8];exact h
def H9(f:Int):Pure Tryz.prog aD 190 [I f] (.bool (decide (0<=f/\f<=100000000))):=by
 refine Qp acO (fun _ _ _=>.junk) zd ?_;by_cases h1:0<=f<;>by_cases h2:f<=100000000<;>simp[ahh,ahi,h1,h2]
def tg(f:Int):Pure Tryz.prog aD 38 [I f] (.bool (decide (0<=f/\f<=100000000))):=by
 refine Qp ajE (fun _ _ _=>.junk) zd ?_;by_cases h1:0<=f<;>by_cases h2:f<=100000000<;>simp[aoA,aoB,h1,h2]
def Yn(nu de f:Int):Int:=if Vd nu de=true/\0<=f/\f<=100000000 then(f*de).tdiv nu else -1
def xu(nu de s:Int):Int:=if Vd nu de=true/\0<=s/\s<=10000000000 then(s*nu+de-1).tdiv de else -1
def Di{x y a b:Int}(h1:0<=x/\x<=a)(h2:0<=y/\y<=b):0<=x*y/\x*y<=a*b:=
 ⟨zzed h1.1 h2.1,Int.mul_le_mul h1.2 h2.2 h2.1 (zzhm h1.1 h1.2)⟩
def Dj{x y:Int}(h:0<=x)(hy:1<=y):0<=x.tdiv y/\x.tdiv y<=x:=by
 rw[zzck h];exact⟨Int.ediv_nonneg h zE,Int.ediv_le_self _ h⟩
def QD(nu de f:Int):Pure Tryz.prog aD 134 [.agg [I nu,I de],I f] (I (Yn nu de f)):=by
 have h1:=Ws nu de;have h2:=H9 f;refine Qp ab2 (fun _ g _=>if g=132 then .bool (Vd nu de)else .bool (decide (0<=f/\f<=100000000))) zd ?_;cases hv:Vd nu de with
 |false=>rw[hv]at h1;simp[MH,MI,hv,Yn];exact h1
 |true=>
  rw[hv]at h1;by_cases hf:0<=f/\f<=100000000
  ·obtain⟨b1,b2,b3,b4,_⟩:=Ju hv;obtain⟨p1,p2⟩:=Di (x:=f) (y:=de) (a:=100000000) (b:=1001) ⟨hf.1,hf.2⟩ ⟨zE,zE⟩;have w1:IntKind.i64.wrap (f*de)=f*de:=by rw[Ql]<;>omega
   obtain⟨d1,d2⟩:=Dj (x:=f*de) (y:=nu) p1 zE;have w2:IntKind.i64.wrap ((f*de).tdiv nu)=(f*de).tdiv nu:=by rw[Ql]<;>omega
   have hnz:¬nu=0:=zE
   simp[hf]at h2;simp[MH,MI,hv,Yn,hf,w1,w2,hnz];exact⟨h1,h2⟩
  simp only[hf,decide_false]at h2;simp[MH,MI,hv,Yn,hf];exact⟨h1,h2⟩
def afZ(a b:Int)(ha:0<=a/\a<=1000000000000000)(hb:1<=b/\b<=1001):Pure Tryz.prog aD 140 [I a,I b] (I ((a+b-1).tdiv b)):=by
 refine Qp ab8 (fun _ _ _=>.junk) zd ?_;have w1:IntKind.i64.wrap (a+b)=a+b:=by rw[Ql]<;>omega
 have w2:IntKind.i64.wrap (a+b-1)=a+b-1:=by rw[Ql]<;>omega
 obtain⟨d1,d2⟩:=Dj (x:=a+b-1) (y:=b) zE zE;have w3:IntKind.i64.wrap ((a+b-1).tdiv b)=(a+b-1).tdiv b:=by rw[Ql]<;>omega
 have hnz:¬b=0:=zE
 simp[agF,agG,w1,w2,w3,hnz]
def A5(nu de s:Int):Pure Tryz.prog aD 86 [.agg [I nu,I de],I s] (I (xu nu de s)):=by
 have h1:=Ws nu de;refine Qp akm (fun _ g _=>if g=132 then .bool (Vd nu de)else I (xu nu de s)) zd ?_;cases hv:Vd nu de with
 |false=>rw[hv]at h1;simp[S9,Ta,hv,xu];exact h1
 |true=>
  rw[hv]at h1;by_cases Nl:s<0
  ·have:¬(0<=s/\s<=10000000000):=zE
   simp[S9,Ta,hv,xu,Nl,this];exact h1
  by_cases hs1:10000000000<s
  ·have:¬(0<=s/\s<=10000000000):=zE
   simp[S9,Ta,hv,xu,Nl,hs1,this];exact h1
  have hs:0<=s/\s<=10000000000:=zE
  obtain⟨b1,b2,b3,b4,_⟩:=Ju hv;obtain⟨p1,p2⟩:=Di (x:=s) (y:=nu) (a:=10000000000) (b:=60000) ⟨hs.1,hs.2⟩ ⟨zE,zE⟩;have w1:IntKind.i64.wrap (s*nu)=s*nu:=by rw[Ql]<;>omega
  have h2:=afZ (s*nu) de ⟨p1,zE⟩ ⟨zE,zE⟩;simp[S9,Ta,hv,xu,Nl,hs1,hs,w1];exact⟨h1,h2⟩
def gP(n:Int):Bool:=decide (-50400<=n/\n<=50400)
def yV(n:Int):Pure Tryz.prog aD 189 [I n] (.bool (gP n)):=by
 refine Qp acN (fun _ _ _=>.junk) zd ?_;by_cases h1: -50400<=n<;>by_cases h2:n<=50400<;>simp[ahf,ahg,gP,h1,h2]
def tU:Int->List Sp->Bool
 |_,[]=>true
 |last,s::r=>if s.1<=last\/10000000000<s.1\/gP s.2=false then false else tU s.1 r
def Yi(of:Int)(sh:List Sp):Bool:=decide (sh.length<=40)&&gP of&&tU (-1) sh
def jH(of:Int)(sh:List Sp)(hl:sh.length<=1000000000):Pure Tryz.prog aD 133 [.agg [I of,.sl .ro (sh.map Qf)]] (.bool (Yi of sh)):=by
 have h1:=yV of;refine Qp ab1 (fun d f a=>match a with|[.int _ n]=>.bool (gP n)|_=>.junk) zd ?_;by_cases h40:40<sh.length
 ·have af0:(40:Int)<(sh.length:Int):=zE
  have:Yi of sh=false:=by simp[Yi];intro h;omega
  simp[Ei,vh,h40,af0,this]
 have af0:¬(40:Int)<(sh.length:Int):=zE
 cases ho:gP of with
 |false=>
  have:Yi of sh=false:=by simp[Yi,ho]
  rw[ho]at h1;simp[Ei,vh,h40,af0,this,ho];exact h1
 |true=>
  have hv:Yi of sh=tU (-1) sh:=by simp[Yi,ho];intro _;omega
  rw[ho]at h1;simp[Ei,h40,af0,ho];refine⟨h1,?_⟩;refine Qk qs (fun f m=>∃(i:Nat)(last:Int)(bx:T5),f 19=I i/\f 3=I last/\i<=sh.length/\tU last (sh.drop i)=tU (-1) sh/\m=⟨[I of,.sl .ro (sh.map Qf)]::bx,[],fun _=>.gone,0⟩) (fun f _=>sh.length-(numOf (f 19)).toNat) ?_ ?_
  ·exact⟨0,-1,[],zd,zd,zE,rfl,rfl⟩
  rintro f m ⟨i,last,bx,h19,h3,hi,ha,rfl⟩;rcases zzaa i sh.length with ai|bn
  ·obtain⟨s,hs⟩:=aV ai;have ah:=Zv hs;have aa:(i:Int)<(sh.length:Int):=zE
   have hw:=bO i zE;have hd:sh.drop i=s::sh.drop (i+1):=by rw[zzah ai,(zza.1 hs).2]
   rw[hd,tU]at ha;have hp:=yV s.2;by_cases c1:s.1<=last
   ·rw[if_pos (.inl c1)]at ha;simp[h19,h3,ai,aa,ah,c1,qs,vh,hv,<- ha]
   by_cases c2:10000000000<s.1
   ·rw[if_pos (.inr (.inl c2))]at ha;simp[h19,h3,ai,aa,ah,c1,c2,qs,vh,hv,<- ha]
   cases c3:gP s.2 with
   |false=>
    rw[if_pos (.inr (.inr c3))]at ha;rw[c3]at hp;simp[h19,h3,ai,aa,ah,c1,c2,c3,qs,vh,hv,<- ha];exact hp
   |true=>
    rw[if_neg (by rintro(h|h|h);exact c1 h;exact c2 h;rw[c3]at h;cases h)]at ha;rw[c3]at hp;simp[h19,h3,ai,aa,ah,c1,c2,c3,qs,hw];refine⟨hp,aQ,⟨i+1,zd,zE,ha⟩,zE⟩
  rw[zzal bn,tU]at ha;have bP:¬(i:Int)<(sh.length:Int):=zE
  simp[h19,zzbk.2 bn,bP,qs,vh,hv,<- ha]
def Ki(p:Pl):Bool:=Vd p.nu p.de&&Yi p.of p.sh&&decide (0<=p.ep/\p.ep<=9000000000)
def KG(p:Pl)(hl:p.sh.length<=1000000000):Pure Tryz.prog aD 81 [.agg (Qa p)] (.bool (Ki p)):=by
 have h1:=Ws p.nu p.de;have h2:=jH p.of p.sh hl;refine Qp akg (fun _ g _=>if g=132 then .bool (Vd p.nu p.de)else .bool (Yi p.of p.sh)) zd ?_;cases hv:Vd p.nu p.de with
 |false=>rw[hv]at h1;simp[aby,abz,Qa,Ki,hv];exact h1
 |true=>
  rw[hv]at h1;cases hz:Yi p.of p.sh with
  |false=>rw[hz]at h2;simp[aby,abz,Qa,Ki,hv,hz];exact⟨h1,h2⟩
  |true=>
   rw[hz]at h2;by_cases c1:0<=p.ep<;>by_cases c2:p.ep<=9000000000<;>simp[aby,abz,Qa,Ki,hv,hz,c1,c2]<;>exact⟨h1,h2⟩
open Go Go.Abs
instance:DecidableEq Cl:=fun x y=>decidable_of_iff (x.ki=y.ki/\x.it=y.it/\x.fr=y.fr/\x.to=y.to/\x.re=y.re/\x.n=y.n/\x.a=y.a/\x.b=y.b) (by cases x;cases y;simp)
def wi(n lo hi:Int):Bool:=decide (lo<=n/\n<=hi)
def Vp(n lo hi:Int):Pure Tryz.prog aD 98 [I n,I lo,I hi] (.bool (wi n lo hi)):=by
 refine Qp Tj (fun _ _ _=>.junk) zd ?_;by_cases h1:lo<=n<;>by_cases h2:n<=hi<;>simp[akD,akE,wi,h1,h2]
def Oz(c:Cl):Cl:=
 if c.ki=1\/c.ki=2 then⟨c.ki,c.it,c.fr,c.to,c.re,0,0,0⟩else if c.ki=3\/c.ki=4 then⟨c.ki,c.it,0,0,c.re,c.n,0,0⟩else
 if c.ki=5 then⟨c.ki,0,0,0,0,c.n,c.a,c.b⟩else if c.ki=6 then⟨c.ki,0,c.fr,c.to,0,0,c.a,0⟩else⟨0,0,0,0,0,0,0,0⟩
def R3(c:Cl):Pure Tryz.prog aD 96 [.agg (Qi c)] (.agg (Qi (Oz c))):=by
 refine Qp Th (fun _ _ _=>.junk) zd ?_;by_cases h1:c.ki=1
 ·simp[BM,BN,Qi,Oz,h1]
 by_cases h2:c.ki=2
 ·simp[BM,BN,Qi,Oz,h2]
 by_cases h3:c.ki=3
 ·simp[BM,BN,Qi,Oz,h3]
 by_cases h4:c.ki=4
 ·simp[BM,BN,Qi,Oz,h4]
 by_cases h5:c.ki=5
 ·simp[BM,BN,Qi,Oz,h5]
 by_cases h6:c.ki=6
 ·simp[BM,BN,Qi,Oz,h6]
 simp[BM,BN,Qi,Oz,h1,h2,h3,h4,h5,h6]
def Yv(c:Cl):Bool:=wi c.it 1 4611686018427387903&&wi c.re 1 255
def yW:UV:=fun _ _ l=>match l with
 |[.int _ n,.int _ lo,.int _ hi]=>.bool (wi n lo hi)
 |_=>.junk
def Ia(c:Cl):Pure Tryz.prog aD 97 [.agg (Qi c)] (.bool (Yv c)):=by
 have h1:=Vp c.it 1 4611686018427387903;have h2:=Vp c.re 1 255;refine Qp Ti yW zd ?_;cases e1:wi c.it 1 4611686018427387903 with
 |false=>rw[e1]at h1;simp[abA,abB,Qi,yW,Yv,e1];exact h1
 |true=>rw[e1]at h1;simp[abA,abB,Qi,yW,Yv,e1];exact⟨h1,h2⟩
def Ko(n:Int):Bool:=wi n 0 86340&&decide (n.tmod 60=0)
def tq(n:Int):Pure Tryz.prog aD 99 [I n] (.bool (Ko n)):=by
 have h1:=Vp n 0 86340;refine Qp Tk yW zd ?_;cases e1:wi n 0 86340 with
 |false=>rw[e1]at h1;simp[abC,abD,yW,Ko,e1];exact h1
 |true=>
  rw[e1]at h1;by_cases e2:n.tmod 60=0<;>simp[abC,abD,yW,Ko,e1,e2]<;>exact h1
def Kb(c:Cl):Bool:=
 if c.ki=1\/c.ki=2 then Yv c&&(decide (0<=c.fr)&&(decide (c.fr<c.to)&&decide (c.to<=10000000000)))else if c.ki=3 then Yv c&&wi c.n 0 1000 else
 if c.ki=4 then Yv c&&wi c.n 0 10000000000 else if c.ki=5 then wi c.a 1 200&&(wi c.b 1 200&&(decide (c.a≠c.b)&&wi c.n 0 86400))else
 if c.ki=6 then wi c.a 1 3&&(Ko c.fr&&(Ko c.to&&decide (c.fr≠c.to)))else false
def Xu(c:Cl):Bool:=decide (Oz c=c)&&Kb c
def ayl(c u:Cl):eqFs [I c.ki,I c.it,I c.fr,I c.to,I c.re,I c.n,I c.a,I c.b] [I u.ki,I u.it,I u.fr,I u.to,I u.re,I u.n,I u.a,I u.b]=decide (u=c):=by
 obtain⟨a1,a2,a3,a4,a5,a6,a7,a8⟩:=c;obtain⟨b1,b2,b3,b4,b5,b6,b7,b8⟩:=u;simp only[eqFs,eqF,Cl.mk.injEq,zzgg];by_cases h:(b1=a1/\b2=a2/\b3=a3/\b4=a4/\b5=a5/\b6=a6/\b7=a7/\b8=a8)
 ·obtain⟨rfl,rfl,rfl,rfl,rfl,rfl,rfl,rfl⟩:=h;simp
 rw[decide_eq_false h];apply Bool.eq_false_iff.2;intro hh;simp only[zzac,beq_iff_eq]at hh;obtain⟨e1,e2,e3,e4,e5,e6,e7,e8⟩:=hh;exact h ⟨e1.symm,e2.symm,e3.symm,e4.symm,e5.symm,e6.symm,e7.symm,e8.symm⟩
def anE(c:Cl):UV:=fun _ f l=>
 if f=96 then .agg (Qi (Oz c))else if f=97 then .bool (Yv c)else if f=98 then(match l with
 |[.int _ n,.int _ lo,.int _ hi]=>.bool (wi n lo hi)
 |_=>.junk)else match l with
 |[.int _ n]=>.bool (Ko n)
 |_=>.junk
def Kz(c:Cl):Pure Tryz.prog aD 48 [.agg (Qi c)] (.bool (Xu c)):=by
 have h0:=R3 c;have hE:=ayl c (Oz c);have hi:=Ia c;refine Qp SU (anE c) zd ?_;by_cases hu:Oz c=c
 ·rw[hu]at h0 hE;simp only[decide_true]at hE;have hv:Xu c=Kb c:=by simp[Xu,hu]
  rw[hv];simp[-eqFs,abo,Qi,anE,hu,hE];refine⟨h0,?_⟩;by_cases h1:c.ki=1\/c.ki=2
  ·have hk:Kb c=(Yv c&&(decide (0<=c.fr)&&(decide (c.fr<c.to)&&decide (c.to<=10000000000)))):=by unfold Kb;rw[if_pos h1]
   rw[hk];clear hk hv;cases e1:Yv c with
   |false=>rw[e1]at hi;rcases h1 with h1|h1<;>(simp[fV,h1,e1];simpa[Qi,h1]using hi)
   |true=>
    rw[e1]at hi;by_cases e2:0<=c.fr<;>by_cases e3:c.fr<c.to<;>by_cases e4:c.to<=10000000000<;>rcases h1 with h1|h1<;>(simp[fV,h1,e1,e2,e3,e4];simpa[Qi,h1]using hi)
  have pq:¬c.ki=1:=fun h=>h1 (.inl h);have ql:¬c.ki=2:=fun h=>h1 (.inr h);by_cases h3:c.ki=3
  ·have hk:Kb c=(Yv c&&wi c.n 0 1000):=by unfold Kb;rw[if_neg h1,if_pos h3]
   rw[hk];clear hk hv;have hw:=Vp c.n 0 1000;cases e1:Yv c with
   |false=>rw[e1]at hi;simp[fV,h3,e1];simpa[Qi,h3]using hi
   |true=>rw[e1]at hi;simp[fV,h3,e1];exact⟨by simpa[Qi,h3]using hi,hw⟩
  by_cases h4:c.ki=4
  ·have hk:Kb c=(Yv c&&wi c.n 0 10000000000):=by unfold Kb;rw[if_neg h1,if_neg h3,if_pos h4]
   rw[hk];clear hk hv;have hw:=Vp c.n 0 10000000000;cases e1:Yv c with
   |false=>rw[e1]at hi;simp[fV,h4,e1];simpa[Qi,h4]using hi
   |true=>rw[e1]at hi;simp[fV,h4,e1];exact⟨by simpa[Qi,h4]using hi,hw⟩
  by_cases h5:c.ki=5
  ·have hk:Kb c=(wi c.a 1 200&&(wi c.b 1 200&&(decide (c.a≠c.b)&&wi c.n 0 86400))):=by unfold Kb;rw[if_neg h1,if_neg h3,if_neg h4,if_pos h5]
   rw[hk];clear hk hv hi;have w1:=Vp c.a 1 200;have w2:=Vp c.b 1 200;have w3:=Vp c.n 0 86400;cases e1:wi c.a 1 200 with
   |false=>rw[e1]at w1;simp[fV,h5,e1];exact w1
   |true=>
    rw[e1]at w1;cases e2:wi c.b 1 200 with
    |false=>rw[e2]at w2;simp[fV,h5,e1,e2];exact⟨w1,w2⟩
    |true=>
     rw[e2]at w2;by_cases e3:c.a=c.b
     ·simp[fV,h5,e1,e2,e3];exact w2
     simp[fV,h5,e1,e2,e3];exact⟨w1,w2,w3⟩
  by_cases h6:c.ki=6
  ·have hk:Kb c=(wi c.a 1 3&&(Ko c.fr&&(Ko c.to&&decide (c.fr≠c.to)))):=by unfold Kb;rw[if_neg h1,if_neg h3,if_neg h4,if_neg h5,if_pos h6]
   rw[hk];clear hk hv hi;have w1:=Vp c.a 1 3;have w2:=tq c.fr;have w3:=tq c.to;cases e1:wi c.a 1 3 with
   |false=>rw[e1]at w1;simp[fV,h6,e1];exact w1
   |true=>
    rw[e1]at w1;cases e2:Ko c.fr with
    |false=>rw[e2]at w2;simp[fV,h6,e1,e2];exact⟨w1,w2⟩
    |true=>
     rw[e2]at w2;cases e4:Ko c.to with
     |false=>rw[e4]at w3;simp[fV,h6,e1,e2,e4];exact⟨w1,w2,w3⟩
     |true=>
      rw[e4]at w3;by_cases e3:c.fr=c.to
      ·simp[fV,h6,e1,e2,e4,e3];exact⟨w1,w3⟩
      simp[fV,h6,e1,e2,e4,e3];exact⟨w1,w2,w3⟩
  have hk:Kb c=false:=by unfold Kb;rw[if_neg h1,if_neg h3,if_neg h4,if_neg h5,if_neg h6]
  rw[hk];simp[fV,pq,ql,h3,h4,h5,h6]
 simp only[hu,decide_false]at hE;have hv:Xu c=false:=by simp[Xu,hu]
 rw[hv];simp[-eqFs,abo,fV,Qi,anE,hE];exact h0
def aug(a:Int):IntKind.i64.wrap ((BitVec.ofInt 64 a&&& 1#64).toNat:Int)=a%2:=by
 have h:(BitVec.ofInt 64 a&&& 1#64).toNat=(BitVec.ofInt 64 a).toNat%2:=by
  rw[BitVec.toNat_and];exact Nat.and_one_is_mod _
 rw[h,BitVec.toNat_ofInt,Ql]<;>omega
def aab(c:Cl)(region:Int):Bool:=decide (c.re.fdiv (2 ^ (min region.toNat 64))%2=1)
def P9(c:Cl)(item region:Int):Bool:=wi region 0 7&&(decide (c.it=item)&&aab c region)
def mw(c:Cl)(item region:Int):Pure Tryz.prog aD 191 [.agg (Qi c),I item,I region] (.bool (P9 c item region)):=by
 have h1:=Vp region 0 7;refine Qp acP yW zd ?_;cases e1:wi region 0 7 with
 |false=>rw[e1]at h1;simp[Es,Et,Qi,yW,P9,e1];exact h1
 |true=>
  have hr:0<=region:=by simp[wi]at e1;omega
  rw[e1]at h1;by_cases e2:c.it=item
  ·by_cases e3:c.re.fdiv (2 ^ (min region.toNat 64))%2=1
   ·simp[Es,Et,Qi,yW,P9,e1,e2,e3,hr,aab,IntKind.bits];exact⟨h1,(aug _).trans e3⟩
   simp[Es,Et,Qi,yW,P9,e1,e2,e3,hr,aab,IntKind.bits];exact⟨h1,fun h=>e3 ((aug _).symm.trans h)⟩
  simp[Es,Et,Qi,yW,P9,e1,e2];exact h1
def HP(bX:Int)(c:Cl):Bool:=decide (c.ki=6)&&(decide (c.a<=bX)&&Xu c)
def uF(cs:List Cl)(bX:Int):List Sp:=(cs.filter (HP bX)).map fun c=>(c.fr,c.to)
def tV(cs:List Cl)(bX:Int)(hl:cs.length<=100000000):Pure Tryz.prog aD 137 [.sl .ro (cs.map Qi),I bX] (.sl .ro ((uF cs bX).map Qf)):=by
 have key:∀r,r=(if uF cs bX=[]then AV.sl .nil []else .sl .ro ((uF cs bX).map Qf))->Pure Tryz.prog aD 137 [.sl .ro (cs.map Qi),I bX] r:=by
  rintro r rfl
  refine Qp ab5 (fun d f l=>if f=999999 then .junk else match l with
   |[.agg [.int _ a,.int _ b,.int _ c,.int _ d,.int _ e,.int _ f,.int _ g,.int _ h]]=>.bool (Xu ⟨a,b,c,d,e,f,g,h⟩)
   |_=>.junk) zd ?_
  simp[Tz]
  refine Qk iN (fun f m=>∃(i:Nat)(bx:T5)(rt:Rt)(L':Pa)(o:List Sp),i<=cs.length/\f 10=I i/\f 5=.sl rt (o.map Qf)/\m=⟨bx,L',fun _=>.gone,0⟩/\o.length<=i/\o++uF (cs.drop i) bX=uF cs bX/\
   ((o=[]/\rt=.nil/\L'=[])\/(o≠[]/\rt=.own 0 2/\L'=[o.length]))) (fun f _=>cs.length-(numOf (f 10)).toNat) ?_ ?_
  ·exact⟨0,[],.nil,[],[],zE,zd,zd,rfl,zd,zd,.inl ⟨rfl,rfl,rfl⟩⟩
  rintro f m ⟨i,bx,rt,L',o,hi,jy,h5,rfl,FI,ho,aX⟩;rcases zzaa i cs.length with ai|bn
  ·obtain⟨c,hc⟩:=aV ai;have ah:Qj (cs.map Qi) i=Qi c:=Qu (by simp[hc]);have aa:(i:Int)<(cs.length:Int):=zE
   have hw:=bO i zE;have hd:cs.drop i=c::cs.drop (i+1):=by rw[zzah ai,(zza.1 hc).2]
   have XI:=Kz c;rw[hd]at ho
   have oF:∀row∈o.map Qf,row.length=2:=by
    intro row h;rw[zzb]at h;obtain⟨a,_,rfl⟩:=h;rfl
   have skip:HP bX c=false->o++uF (cs.drop (i+1)) bX=uF cs bX:=by
    intro hb;rw[<- ho];simp[uF,hb]
   have take:HP bX c=true->(o++[(c.fr,c.to)])++uF (cs.drop (i+1)) bX=uF cs bX:=by
    intro hb;rw[<- ho];simp[uF,hb]
   by_cases c1:c.ki=6
   ·have hc6:(⟨6,c.it,c.fr,c.to,c.re,c.n,c.a,c.b⟩:Cl)=c:=by cases c;simp at c1;subst c1;rfl
    have nG:Pure Tryz.prog aD 48 [.agg [I 6,I c.it,I c.fr,I c.to,I c.re,I c.n,I c.a,I c.b]] (.bool (Xu c)):=by simpa[Qi,c1]using XI
    by_cases c2:c.a<=bX
    ·cases c3:Xu c with
     |true=>
      have ht:=take (by simp[HP,c1,c2,c3]);rw[c3]at nG;obtain⟨rfl,rfl,rfl⟩|⟨aN,rfl,rfl⟩:=aX
      ·simp[jy,h5,ai,aa,ah,Qi,c1,c2,hc6,c3,iN,hw];refine⟨nG,aQ,⟨i+1,zE,zd,_,.own 0 2,[1],[(c.fr,c.to)],⟨rfl,rfl⟩,⟨rfl,rfl⟩,zd,ht,zd⟩,zE⟩
      simp[jy,h5,ai,aa,ah,Qi,c1,c2,hc6,c3,iN,hw];refine⟨nG,⟨?_,zE⟩,aQ,⟨i+1,zE,zd,_,.own 0 2,[o.length+1],o++[(c.fr,c.to)],⟨rfl,by simp[Qf]⟩,⟨rfl,rfl⟩,by simp;omega,ht,zd⟩,zE⟩
      ·rintro row (⟨a,b,_,rfl⟩|rfl)<;>rfl
     |false=>
      have hs:=skip (by simp[HP,c3]);rw[c3]at nG;simp[jy,h5,ai,aa,ah,Qi,c1,c2,hc6,c3,iN,hw];refine⟨nG,aQ,⟨i+1,zE,zd,_,rt,L',o,⟨rfl,rfl⟩,⟨rfl,rfl⟩,zE,hs,aX⟩,zE⟩
    have hs:=skip (by simp[HP,c2]);simp[jy,h5,ai,aa,ah,Qi,c1,c2,iN,hw];refine⟨aQ,⟨i+1,zE,zd,_,rt,L',o,⟨rfl,rfl⟩,⟨rfl,rfl⟩,zE,hs,aX⟩,zE⟩
   have hs:=skip (by simp[HP,c1]);simp[jy,h5,ai,aa,ah,Qi,c1,iN,hw];refine⟨aQ,⟨i+1,zE,zd,_,rt,L',o,⟨rfl,rfl⟩,⟨rfl,rfl⟩,zE,hs,aX⟩,zE⟩
  obtain rfl:i=cs.length:=zE
  have he:uF cs bX=o:=by rw[<- ho];simp[uF]
  rw[he];obtain⟨rfl,rfl,rfl⟩|⟨aN,rfl,rfl⟩:=aX
  ·simp[jy,h5,iN,TA]
  simp[jy,h5,iN,TA,aN]
 have hk:=key _ rfl;by_cases hn:uF cs bX=[]
 ·rw[if_pos hn]at hk;rw[hn];exact Zk hk (Wk.sl _ _)
 rw[if_neg hn]at hk;exact hk
