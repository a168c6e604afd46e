import Derived.Test.YtnopaopphmjnmaaGreatDoorMLMO
set_option linter.all false
set_option maxRecDepth 100000
set_option maxHeartbeats 64000000
namespace Go.Proofs.YtnopaopphmjnmaaGreatDoor
open Go Go.Abs
structure It where
 id:Int
 ki:Int
 fr:Int
 sp:Int
 ra:Int
structure Cl where
 ki:Int
 it:Int
 fr:Int
 to:Int
 re:Int
 n:Int
 a:Int
 b:Int
structure En where
 id:Int
 it:Int
 fr:Int
 ea:Int
 la:Int
 bo:Int
 al:List Sp
structure Bk where
 id:Int
 it:Int
 re:Int
 fr:Int
 to:Int
 un:Int
 pr:Int
structure Pl where
 ch:Int
 nu:Int
 de:Int
 of:Int
 sh:List Sp
 ep:Int
 rg:Int
 ln:Int
 fi:Int
 aL:List It
 ens:List En
 bks:List Bk
 cls:List Cl
def Qm(x:It):List AV:=[I x.id,I x.ki,I x.fr,I x.sp,I x.ra]
def Qg(x:Cl):List AV:=[I x.ki,I x.it,I x.fr,I x.to,I x.re,I x.n,I x.a,I x.b]
def Qd(x:En):List AV:=[I x.id,I x.it,I x.fr,I x.ea,I x.la,I x.bo,.sl .ro (x.al.map Qe)]
def Xg(x:Bk):List AV:=[I x.id,I x.it,I x.re,I x.fr,I x.to,I x.un,I x.pr]
def Qb(p:Pl):List AV:=[I p.ch,I p.nu,I p.de,I p.of,.sl .ro (p.sh.map Qe),I p.ep,I p.rg,I p.ln,I p.fi,.sl .ro (p.aL.map Qm),.sl .ro (p.ens.map Qd),.sl .ro (p.bks.map Xg),.sl .ro (p.cls.map Qg)]
def FZ(l:List Sp)(s:Sp)(hl:l.length<=10000000):Pure Tryz.prog az 58 [.sl .ro (l.map Qe),.agg [I s.1,I s.2]] (.bool (C7 [s] l).isEmpty):=by
 have h:=zM [s] l (by simp) hl;have h':=Zt (l:=[.sl .full [[I s.1,I s.2]],.sl .ro (l.map Qe)]) h ⟨Wk.sl _ _,Wk.refl _,trivial⟩;generalize C7 [s] l=R at h';refine Qn ak7 (fun _ f _=>if f=112 then .sl .ro (R.map Qe)else .junk) (by simp) ?_;cases R with
 |nil=>simp[ak5,ak6];exact h'
 |cons a r=>
  have:¬(r.length:Int)+1=0:=by omega
  simp[ak5,ak6,this];exact h'
def Xh(id:Int):List It->Option It
 |[]=>none
 |x::r=>if x.id=id then some x else Xh id r
def pQ{id:Int}{x:It}:∀{l:List It},Xh id l=some x->x∈l/\x.id=id
 |[],h=>by cases h
 |y::r,h=>by
  simp only[Xh]at h;split at h
  ·rename_i hy;cases h;exact⟨by simp,hy⟩
  obtain⟨h1,h2⟩:=pQ h;exact⟨by simp[h1],h2⟩
def Zh:Option It->AV
 |some x=>.aW [.agg (Qm x),.bool true]
 |none=>.aW [.agg [I 0,I 0,I 0,I 0,I 0],.bool false]
def k8(p:Pl)(id:Int)(hl:p.aL.length<=1000000000):Pure Tryz.prog az 113 [.agg (Qb p),I id] (Zh (Xh id p.aL)):=by
 refine Qn ack (fun _ _ _=>.junk) (by simp) ?_;simp[ahj,Qb];refine Qi BQ (fun f m=>∃(i:Nat)(bx:List (List AV)),f 11=I i/\i<=p.aL.length/\Xh id (p.aL.drop i)=Xh id p.aL/\m=⟨Qb p::[I 0,I 0,I 0,I 0,I 0]::bx,[],fun _=>.gone,0⟩) (fun f _=>p.aL.length-(numOf (f 11)).toNat) ?_ ?_
 ·exact⟨0,[],by simp,by omega,rfl,rfl⟩
 rintro f m ⟨i,bx,kY,hi,hf,rfl⟩;rcases zzaa i p.aL.length with ai|bu
 ·obtain⟨x,hx⟩:=aS ai;have ah:Qh (p.aL.map Qm) i=Qm x:=Qs (by simp[hx]);have aa:(i:Int)<(p.aL.length:Int):=by omega
  have hw:=bJ i (by omega);have hd:p.aL.drop i=x::p.aL.drop (i+1):=by rw[zzaf ai,(zza.1 hx).2]
  rw[hd,Xh]at hf;by_cases aN:x.id=id
  ·rw[if_pos aN]at hf;simp[kY,ai,aa,ah,Qm,aN,BQ,TT,<- hf,Zh]
  rw[if_neg aN]at hf;simp[kY,ai,aa,ah,Qm,aN,BQ,hw];refine⟨aO,⟨i+1,by simp,by omega,hf⟩,by omega⟩
 rw[zzam bu]at hf;have bI:¬(i:Int)<(p.aL.length:Int):=by omega
 simp[kY,zzbm.2 bu,bI,BQ,TT,<- hf,Zh,Xh]
def yY:List (Int×Int×Int×Int):=[(24000,1001,24,0),(24,1,24,0),(25,1,25,0),(30000,1001,30,2),(30,1,30,0),(50,1,50,0),(60000,1001,60,4),(60,1,60,0)]
def Aa(nu de:Int):List (Int×Int×Int×Int)->Option (Int×Int×Int×Int)
 |[]=>none
 |x::r=>if x.1=nu/\x.2.1=de then some x else Aa nu de r
def Vf(nu de:Int):Bool:=(Aa nu de yY).isSome
def Ik:Option (Int×Int×Int×Int)->AV
 |some x=>.aW [.agg [I x.1,I x.2.1,I x.2.2.1,I x.2.2.2],.bool true]
 |none=>.aW [.agg [I 0,I 0,I 0,I 0],.bool false]
def S9:∀i:Nat,i<8->∃x,yY[i]?=some x/\(HW.drop (i*4)).take 4=[I x.1,I x.2.1,I x.2.2.1,I x.2.2.2]/\yY.drop i=x::yY.drop (i+1)
 |0,_=>⟨_,rfl,rfl,rfl⟩
 |1,_=>⟨_,rfl,rfl,rfl⟩
 |2,_=>⟨_,rfl,rfl,rfl⟩
 |3,_=>⟨_,rfl,rfl,rfl⟩
 |4,_=>⟨_,rfl,rfl,rfl⟩
 |5,_=>⟨_,rfl,rfl,rfl⟩
 |6,_=>⟨_,rfl,rfl,rfl⟩
 |7,_=>⟨_,rfl,rfl,rfl⟩
 |n+8,h=>by omega
def Jt{nu de:Int}(h:Vf nu de=true):24<=nu/\nu<=60000/\1<=de/\de<=1001/\de<nu:=by
 simp only[Vf,yY,Aa]at h;repeat' split at h
 all_goals first|(cases h;done)|omega
theorem abz:HW.length=32:=rfl
def Ta(nu de:Int):Pure Tryz.prog az 252 [.agg [I nu,I de]] (Ik (Aa nu de yY)):=by
 refine Qn adK (fun _ _ _=>.junk) (by simp) ?_;have hg:az 0=.ep HW 0:=rfl;have mD:=abz;have bB:HW.take 32=HW:=rfl;simp[aiv,hg,mD,bB];refine Qi vC (fun f m=>∃(i:Nat)(bx:List (List AV)),f 7=I i/\i<=8/\Aa nu de (yY.drop i)=Aa nu de yY/\m=⟨[I nu,I de]::[I 0,I 0,I 0,I 0]::bx,[],fun _=>.gone,0⟩) (fun f _=>8-(numOf (f 7)).toNat) ?_ ?_
 ·exact⟨0,[],by simp,by omega,rfl,rfl⟩
 rintro f m ⟨i,bx,h7,hi,hf,rfl⟩;by_cases h8:i=8
 ·subst h8;have:Aa nu de (yY.drop 8)=none:=rfl;rw[this]at hf;simp[h7,vC,U6,<- hf,Ik]
 have ai:i<8:=by omega
 obtain⟨x,hx,ah,hd⟩:=S9 i ai;have aa:(i:Int)<8:=by omega
 have hw:=bJ i (by omega);have wZ:min 4 (32-i*4)=4:=by omega
 rw[hd,Aa]at hf;by_cases hc:x.1=nu/\x.2.1=de
 ·rw[if_pos hc]at hf;simp[h7,ai,aa,mD,ah,wZ,hc.1,hc.2,vC,U6,<- hf,Ik]
 rw[if_neg hc]at hf;by_cases fE:x.1=nu
 ·have Cu:¬x.2.1=de:=fun h=>hc ⟨fE,h⟩;simp[h7,ai,aa,mD,ah,wZ,fE,Cu,vC,hw];refine⟨aO,⟨i+1,by simp,by omega,hf⟩,by omega⟩
 simp[h7,ai,aa,mD,ah,wZ,fE,vC,hw];refine⟨aO,⟨i+1,by simp,by omega,hf⟩,by omega⟩
def Wo(nu de:Int):Pure Tryz.prog az 183 [.agg [I nu,I de]] (.bool (Vf nu de)):=by
 have h:=Ta nu de;unfold Vf;refine Qn acZ (fun _ _ _=>Ik (Aa nu de yY)) (by simp) ?_;cases hf:Aa nu de yY with
 |none=>rw[hf]at h;simp only[Ik]at h;simp[UL,UM,Ik];exact h
 |some x=>rw[hf]at h;simp only[Ik]at h;simp[UL,UM,Ik];exact h
def Il(f:Int):Pure Tryz.prog az 254 [I f] (.bool (decide (0<=f/\f<=100000000))):=by
 refine Qn adM (fun _ _ _=>.junk) (by simp) ?_;by_cases h1:0<=f<;>by_cases h2:f<=100000000<;>simp[aiy,aiz,h1,h2]
def sJ(f:Int):Pure Tryz.prog az 57 [I f] (.bool (decide (0<=f/\f<=100000000))):=by
 refine Qn ak4 (fun _ _ _=>.junk) (by simp) ?_;by_cases h1:0<=f<;>by_cases h2:f<=100000000<;>simp[ao3,ao4,h1,h2]
def Yn(nu de f:Int):Int:=if Vf nu de=true/\0<=f/\f<=100000000 then(f*de).tdiv nu else -1
def xu(nu de s:Int):Int:=if Vf nu de=true/\0<=s/\s<=10000000000 then(s*nu+de-1).tdiv de else -1
def Dp{x y a b:Int}(h1:0<=x/\x<=a)(h2:0<=y/\y<=b):0<=x*y/\x*y<=a*b:=
 ⟨zzeb h1.1 h2.1,Int.mul_le_mul h1.2 h2.2 h2.1 (zzht h1.1 h1.2)⟩
def Dq{x y:Int}(h:0<=x)(hy:1<=y):0<=x.tdiv y/\x.tdiv y<=x:=by
 rw[zzco h];exact⟨Int.ediv_nonneg h (by omega),Int.ediv_le_self _ h⟩
def Ra(nu de f:Int):Pure Tryz.prog az 185 [.agg [I nu,I de],I f] (I (Yn nu de f)):=by
 have h1:=Wo nu de;have h2:=Il f;refine Qn ac1 (fun _ g _=>if g=183 then .bool (Vf nu de)else .bool (decide (0<=f/\f<=100000000))) (by simp) ?_;cases hv:Vf nu de with
 |false=>rw[hv]at h1;simp[Nj,Nk,hv,Yn];exact h1
 |true=>
  rw[hv]at h1;by_cases hf:0<=f/\f<=100000000
  ·obtain⟨b1,b2,b3,b4,_⟩:=Jt hv;obtain⟨p1,p2⟩:=Dp (x:=f) (y:=de) (a:=100000000) (b:=1001) ⟨hf.1,hf.2⟩ ⟨by omega,by omega⟩;have w1:IntKind.i64.wrap (f*de)=f*de:=by rw[Qk]<;>omega
   obtain⟨d1,d2⟩:=Dq (x:=f*de) (y:=nu) p1 (by omega);have w2:IntKind.i64.wrap ((f*de).tdiv nu)=(f*de).tdiv nu:=by rw[Qk]<;>omega
   have hnz:¬nu=0:=by omega
   simp[hf]at h2;simp[Nj,Nk,hv,Yn,hf,w1,w2,hnz];exact⟨h1,h2⟩
  simp only[hf,decide_false]at h2;simp[Nj,Nk,hv,Yn,hf];exact⟨h1,h2⟩
def ahc(a b:Int)(ha:0<=a/\a<=1000000000000000)(hb:1<=b/\b<=1001):Pure Tryz.prog az 191 [I a,I b] (I ((a+b-1).tdiv b)):=by
 refine Qn ac7 (fun _ _ _=>.junk) (by simp) ?_;have w1:IntKind.i64.wrap (a+b)=a+b:=by rw[Qk]<;>omega
 have w2:IntKind.i64.wrap (a+b-1)=a+b-1:=by rw[Qk]<;>omega
 obtain⟨d1,d2⟩:=Dq (x:=a+b-1) (y:=b) (by omega) (by omega);have w3:IntKind.i64.wrap ((a+b-1).tdiv b)=(a+b-1).tdiv b:=by rw[Qk]<;>omega
 have hnz:¬b=0:=by omega
 simp[ahW,ahX,w1,w2,w3,hnz]
def A3(nu de s:Int):Pure Tryz.prog az 119 [.agg [I nu,I de],I s] (I (xu nu de s)):=by
 have h1:=Wo nu de;refine Qn acr (fun _ g _=>if g=183 then .bool (Vf nu de)else I (xu nu de s)) (by simp) ?_;cases hv:Vf nu de with
 |false=>rw[hv]at h1;simp[Eo,Ep,hv,xu];exact h1
 |true=>
  rw[hv]at h1;by_cases NQ:s<0
  ·have:¬(0<=s/\s<=10000000000):=by omega
   simp[Eo,Ep,hv,xu,NQ,this];exact h1
  by_cases hs1:10000000000<s
  ·have:¬(0<=s/\s<=10000000000):=by omega
   simp[Eo,Ep,hv,xu,NQ,hs1,this];exact h1
  have hs:0<=s/\s<=10000000000:=by omega
  obtain⟨b1,b2,b3,b4,_⟩:=Jt hv;obtain⟨p1,p2⟩:=Dp (x:=s) (y:=nu) (a:=10000000000) (b:=60000) ⟨hs.1,hs.2⟩ ⟨by omega,by omega⟩;have w1:IntKind.i64.wrap (s*nu)=s*nu:=by rw[Qk]<;>omega
  have h2:=ahc (s*nu) de ⟨p1,by omega⟩ ⟨by omega,by omega⟩;simp[Eo,Ep,hv,xu,NQ,hs1,hs,w1];exact⟨h1,h2⟩
def gT(n:Int):Bool:=decide (-50400<=n/\n<=50400)
def yZ(n:Int):Pure Tryz.prog az 253 [I n] (.bool (gT n)):=by
 refine Qn adL (fun _ _ _=>.junk) (by simp) ?_;by_cases h1: -50400<=n<;>by_cases h2:n<=50400<;>simp[aiw,aix,gT,h1,h2]
def tQ:Int->List Sp->Bool
 |_,[]=>true
 |last,s::r=>if s.1<=last\/10000000000<s.1\/gT s.2=false then false else tQ s.1 r
def Yd(of:Int)(sh:List Sp):Bool:=decide (sh.length<=40)&&gT of&&tQ (-1) sh
def jy(of:Int)(sh:List Sp)(hl:sh.length<=1000000000):Pure Tryz.prog az 184 [.agg [I of,.sl .ro (sh.map Qe)]] (.bool (Yd of sh)):=by
 have h1:=yZ of;refine Qn ac0 (fun d f a=>match a with|[.int _ n]=>.bool (gT n)|_=>.junk) (by simp) ?_;by_cases h40:40<sh.length
 ·have HV:(40:Int)<(sh.length:Int):=by omega
  have:Yd of sh=false:=by simp[Yd];intro h;omega
  simp[Ez,vn,h40,HV,this]
 have HV:¬(40:Int)<(sh.length:Int):=by omega
 cases ho:gT of with
 |false=>
  have:Yd of sh=false:=by simp[Yd,ho]
  rw[ho]at h1;simp[Ez,vn,h40,HV,this,ho];exact h1
 |true=>
  have hv:Yd of sh=tQ (-1) sh:=by simp[Yd,ho];intro _;omega
  rw[ho]at h1;simp[Ez,h40,HV,ho];refine⟨h1,?_⟩;refine Qi qA (fun f m=>∃(i:Nat)(last:Int)(bx:List (List AV)),f 19=I i/\f 3=I last/\i<=sh.length/\tQ last (sh.drop i)=tQ (-1) sh/\m=⟨[I of,.sl .ro (sh.map Qe)]::bx,[],fun _=>.gone,0⟩) (fun f _=>sh.length-(numOf (f 19)).toNat) ?_ ?_
  ·exact⟨0,-1,[],by simp,by simp,by omega,rfl,rfl⟩
  rintro f m ⟨i,last,bx,h19,h3,hi,ha,rfl⟩;rcases zzaa i sh.length with ai|bu
  ·obtain⟨s,hs⟩:=aS ai;have ah:=Zc hs;have aa:(i:Int)<(sh.length:Int):=by omega
   have hw:=bJ i (by omega);have hd:sh.drop i=s::sh.drop (i+1):=by rw[zzaf ai,(zza.1 hs).2]
   rw[hd,tQ]at ha;have hp:=yZ s.2;by_cases c1:s.1<=last
   ·rw[if_pos (.inl c1)]at ha;simp[h19,h3,ai,aa,ah,c1,qA,vn,hv,<- ha]
   by_cases c2:10000000000<s.1
   ·rw[if_pos (.inr (.inl c2))]at ha;simp[h19,h3,ai,aa,ah,c1,c2,qA,vn,hv,<- ha]
   cases c3:gT s.2 with
   |false=>
    rw[if_pos (.inr (.inr c3))]at ha;rw[c3]at hp;simp[h19,h3,ai,aa,ah,c1,c2,c3,qA,vn,hv,<- ha];exact hp
   |true=>
    rw[if_neg (by rintro(h|h|h);exact c1 h;exact c2 h;rw[c3]at h;cases h)]at ha;rw[c3]at hp;simp[h19,h3,ai,aa,ah,c1,c2,c3,qA,hw];refine⟨hp,aO,⟨i+1,by simp,by omega,ha⟩,by omega⟩
  rw[zzam bu,tQ]at ha;have bI:¬(i:Int)<(sh.length:Int):=by omega
  simp[h19,zzbm.2 bu,bI,qA,vn,hv,<- ha]
def Kg(p:Pl):Bool:=Vf p.nu p.de&&Yd p.of p.sh&&decide (0<=p.ep/\p.ep<=9000000000)
def KW(p:Pl)(hl:p.sh.length<=1000000000):Pure Tryz.prog az 114 [.agg (Qb p)] (.bool (Kg p)):=by
 have h1:=Wo p.nu p.de;have h2:=jy p.of p.sh hl;refine Qn acm (fun _ g _=>if g=183 then .bool (Vf p.nu p.de)else .bool (Yd p.of p.sh)) (by simp) ?_;cases hv:Vf p.nu p.de with
 |false=>rw[hv]at h1;simp[MU,MV,Qb,Kg,hv];exact h1
 |true=>
  rw[hv]at h1;cases hz:Yd p.of p.sh with
  |false=>rw[hz]at h2;simp[MU,MV,Qb,Kg,hv,hz];exact⟨h1,h2⟩
  |true=>
   rw[hz]at h2;by_cases c1:0<=p.ep<;>by_cases c2:p.ep<=9000000000<;>simp[MU,MV,Qb,Kg,hv,hz,c1,c2]<;>exact⟨h1,h2⟩
open Go Go.Abs
instance:DecidableEq Cl:=fun x y=>decidable_of_iff (x.ki=y.ki/\x.it=y.it/\x.fr=y.fr/\x.to=y.to/\x.re=y.re/\x.n=y.n/\x.a=y.a/\x.b=y.b) (by cases x;cases y;simp)
def wi(n lo hi:Int):Bool:=decide (lo<=n/\n<=hi)
def Vl(n lo hi:Int):Pure Tryz.prog az 171 [I n,I lo,I hi] (.bool (wi n lo hi)):=by
 refine Qn acT (fun _ _ _=>.junk) (by simp) ?_;by_cases h1:lo<=n<;>by_cases h2:n<=hi<;>simp[ahS,ahT,wi,h1,h2]
def Ko(c:Cl):Cl:=
 if c.ki=1\/c.ki=2 then⟨c.ki,c.it,c.fr,c.to,c.re,0,0,0⟩else if c.ki=3\/c.ki=4 then⟨c.ki,c.it,0,0,c.re,c.n,0,0⟩else
 if c.ki=5 then⟨c.ki,0,0,0,0,c.n,c.a,c.b⟩else if c.ki=6 then⟨c.ki,0,c.fr,c.to,0,0,c.a,0⟩else⟨0,0,0,0,0,0,0,0⟩
def Tb(c:Cl):Pure Tryz.prog az 169 [.agg (Qg c)] (.agg (Qg (Ko c))):=by
 refine Qn acR (fun _ _ _=>.junk) (by simp) ?_;by_cases h1:c.ki=1
 ·simp[rY,rZ,Qg,Ko,h1]
 by_cases h2:c.ki=2
 ·simp[rY,rZ,Qg,Ko,h2]
 by_cases h3:c.ki=3
 ·simp[rY,rZ,Qg,Ko,h3]
 by_cases h4:c.ki=4
 ·simp[rY,rZ,Qg,Ko,h4]
 by_cases h5:c.ki=5
 ·simp[rY,rZ,Qg,Ko,h5]
 by_cases h6:c.ki=6
 ·simp[rY,rZ,Qg,Ko,h6]
 simp[rY,rZ,Qg,Ko,h1,h2,h3,h4,h5,h6]
def Vk(c:Cl):Bool:=wi c.it 1 4611686018427387903&&wi c.re 1 255
def DT:Nat->FuncId->List AV->AV:=fun _ _ l=>match l with
 |[.int _ n,.int _ lo,.int _ hi]=>.bool (wi n lo hi)
 |_=>.junk
def Im(c:Cl):Pure Tryz.prog az 170 [.agg (Qg c)] (.bool (Vk c)):=by
 have h1:=Vl c.it 1 4611686018427387903;have h2:=Vl c.re 1 255;refine Qn acS DT (by simp) ?_;cases e1:wi c.it 1 4611686018427387903 with
 |false=>rw[e1]at h1;simp[UH,UI,Qg,DT,Vk,e1];exact h1
 |true=>rw[e1]at h1;simp[UH,UI,Qg,DT,Vk,e1];exact⟨h1,h2⟩
def Vw(n:Int):Bool:=wi n 0 86340&&decide (n.tmod 60=0)
def tu(n:Int):Pure Tryz.prog az 172 [I n] (.bool (Vw n)):=by
 have h1:=Vl n 0 86340;refine Qn acU DT (by simp) ?_;cases e1:wi n 0 86340 with
 |false=>rw[e1]at h1;simp[UJ,UK,DT,Vw,e1];exact h1
 |true=>
  rw[e1]at h1;by_cases e2:n.tmod 60=0<;>simp[UJ,UK,DT,Vw,e1,e2]<;>exact h1
def Ui(c:Cl):Bool:=
 if c.ki=1\/c.ki=2 then Vk c&&(decide (0<=c.fr)&&(decide (c.fr<c.to)&&decide (c.to<=10000000000)))else if c.ki=3 then Vk c&&wi c.n 0 1000 else
 if c.ki=4 then Vk c&&wi c.n 0 10000000000 else if c.ki=5 then wi c.a 1 200&&(wi c.b 1 200&&(decide (c.a≠c.b)&&wi c.n 0 86400))else
 if c.ki=6 then wi c.a 1 3&&(Vw c.fr&&(Vw c.to&&decide (c.fr≠c.to)))else false
def Xk(c:Cl):Bool:=decide (Ko c=c)&&Ui c
def ax2(c u:Cl):eqFs [I c.ki,I c.it,I c.fr,I c.to,I c.re,I c.n,I c.a,I c.b] [I u.ki,I u.it,I u.fr,I u.to,I u.re,I u.n,I u.a,I u.b]=decide (u=c):=by
 obtain⟨a1,a2,a3,a4,a5,a6,a7,a8⟩:=c;obtain⟨b1,b2,b3,b4,b5,b6,b7,b8⟩:=u;simp only[eqFs,eqF,Cl.mk.injEq,zzgm];by_cases h:(b1=a1/\b2=a2/\b3=a3/\b4=a4/\b5=a5/\b6=a6/\b7=a7/\b8=a8)
 ·obtain⟨rfl,rfl,rfl,rfl,rfl,rfl,rfl,rfl⟩:=h;simp
 rw[decide_eq_false h];apply Bool.eq_false_iff.2;intro hh;simp only[zzak,beq_iff_eq]at hh;obtain⟨e1,e2,e3,e4,e5,e6,e7,e8⟩:=hh;exact h ⟨e1.symm,e2.symm,e3.symm,e4.symm,e5.symm,e6.symm,e7.symm,e8.symm⟩
def an4(c:Cl):Nat->FuncId->List AV->AV:=fun _ f l=>
 if f=169 then .agg (Qg (Ko c))else if f=170 then .bool (Vk c)else if f=171 then(match l with
 |[.int _ n,.int _ lo,.int _ hi]=>.bool (wi n lo hi)
 |_=>.junk)else match l with
 |[.int _ n]=>.bool (Vw n)
 |_=>.junk
def Kr(c:Cl):Pure Tryz.prog az 83 [.agg (Qg c)] (.bool (Xk c)):=by
 have h0:=Tb c;have hE:=ax2 c (Ko c);have hi:=Im c;refine Qn alw (an4 c) (by simp) ?_;by_cases hu:Ko c=c
 ·rw[hu]at h0 hE;simp only[decide_true]at hE;have hv:Xk c=Ui c:=by simp[Xk,hu]
  rw[hv];simp[-eqFs,alv,Qg,an4,hu,hE];refine⟨h0,?_⟩;by_cases h1:c.ki=1\/c.ki=2
  ·have hk:Ui c=(Vk c&&(decide (0<=c.fr)&&(decide (c.fr<c.to)&&decide (c.to<=10000000000)))):=by unfold Ui;rw[if_pos h1]
   rw[hk];clear hk hv;cases e1:Vk c with
   |false=>rw[e1]at hi;rcases h1 with h1|h1<;>(simp[iq,h1,e1];simpa[Qg,h1]using hi)
   |true=>
    rw[e1]at hi;by_cases e2:0<=c.fr<;>by_cases e3:c.fr<c.to<;>by_cases e4:c.to<=10000000000<;>rcases h1 with h1|h1<;>(simp[iq,h1,e1,e2,e3,e4];simpa[Qg,h1]using hi)
  have kY:¬c.ki=1:=fun h=>h1 (.inl h);have qt:¬c.ki=2:=fun h=>h1 (.inr h);by_cases h3:c.ki=3
  ·have hk:Ui c=(Vk c&&wi c.n 0 1000):=by unfold Ui;rw[if_neg h1,if_pos h3]
   rw[hk];clear hk hv;have hw:=Vl c.n 0 1000;cases e1:Vk c with
   |false=>rw[e1]at hi;simp[iq,h3,e1];simpa[Qg,h3]using hi
   |true=>rw[e1]at hi;simp[iq,h3,e1];exact⟨by simpa[Qg,h3]using hi,hw⟩
  by_cases h4:c.ki=4
  ·have hk:Ui c=(Vk c&&wi c.n 0 10000000000):=by unfold Ui;rw[if_neg h1,if_neg h3,if_pos h4]
   rw[hk];clear hk hv;have hw:=Vl c.n 0 10000000000;cases e1:Vk c with
   |false=>rw[e1]at hi;simp[iq,h4,e1];simpa[Qg,h4]using hi
   |true=>rw[e1]at hi;simp[iq,h4,e1];exact⟨by simpa[Qg,h4]using hi,hw⟩
  by_cases h5:c.ki=5
  ·have hk:Ui c=(wi c.a 1 200&&(wi c.b 1 200&&(decide (c.a≠c.b)&&wi c.n 0 86400))):=by unfold Ui;rw[if_neg h1,if_neg h3,if_neg h4,if_pos h5]
   rw[hk];clear hk hv hi;have w1:=Vl c.a 1 200;have w2:=Vl c.b 1 200;have w3:=Vl c.n 0 86400;cases e1:wi c.a 1 200 with
   |false=>rw[e1]at w1;simp[iq,h5,e1];exact w1
   |true=>
    rw[e1]at w1;cases e2:wi c.b 1 200 with
    |false=>rw[e2]at w2;simp[iq,h5,e1,e2];exact⟨w1,w2⟩
    |true=>
     rw[e2]at w2;by_cases e3:c.a=c.b
     ·simp[iq,h5,e1,e2,e3];exact w2
     simp[iq,h5,e1,e2,e3];exact⟨w1,w2,w3⟩
  by_cases h6:c.ki=6
  ·have hk:Ui c=(wi c.a 1 3&&(Vw c.fr&&(Vw c.to&&decide (c.fr≠c.to)))):=by unfold Ui;rw[if_neg h1,if_neg h3,if_neg h4,if_neg h5,if_pos h6]
   rw[hk];clear hk hv hi;have w1:=Vl c.a 1 3;have w2:=tu c.fr;have w3:=tu c.to;cases e1:wi c.a 1 3 with
   |false=>rw[e1]at w1;simp[iq,h6,e1];exact w1
   |true=>
    rw[e1]at w1;cases e2:Vw c.fr with
    |false=>rw[e2]at w2;simp[iq,h6,e1,e2];exact⟨w1,w2⟩
    |true=>
     rw[e2]at w2;cases e4:Vw c.to with
     |false=>rw[e4]at w3;simp[iq,h6,e1,e2,e4];exact⟨w1,w2,w3⟩
     |true=>
      rw[e4]at w3;by_cases e3:c.fr=c.to
      ·simp[iq,h6,e1,e2,e4,e3];exact⟨w1,w3⟩
      simp[iq,h6,e1,e2,e4,e3];exact⟨w1,w2,w3⟩
  have hk:Ui c=false:=by unfold Ui;rw[if_neg h1,if_neg h3,if_neg h4,if_neg h5,if_neg h6]
  rw[hk];simp[iq,kY,qt,h3,h4,h5,h6]
 simp only[hu,decide_false]at hE;have hv:Xk c=false:=by simp[Xk,hu]
 rw[hv];simp[-eqFs,alv,iq,Qg,an4,hE];exact h0
def aax(a:Int):IntKind.i64.wrap ((BitVec.ofInt 64 a&&& 1#64).toNat:Int)=a%2:=by
 have h:(BitVec.ofInt 64 a&&& 1#64).toNat=(BitVec.ofInt 64 a).toNat%2:=by
  rw[BitVec.toNat_and];exact Nat.and_one_is_mod _
 rw[h,BitVec.toNat_ofInt,Qk]<;>omega
def an5(c:Cl)(region:Int):Bool:=decide (c.re.fdiv (2 ^ (min region.toNat 64))%2=1)
def gR(c:Cl)(item region:Int):Bool:=wi region 0 7&&(decide (c.it=item)&&an5 c region)
def mO(c:Cl)(item region:Int):Pure Tryz.prog az 255 [.agg (Qg c),I item,I region] (.bool (gR c item region)):=by
 have h1:=Vl region 0 7;refine Qn adN DT (by simp) ?_;cases e1:wi region 0 7 with
 |false=>rw[e1]at h1;simp[EH,EI,Qg,DT,gR,e1];exact h1
 |true=>
  have hr:0<=region:=by simp[wi]at e1;omega
  rw[e1]at h1;by_cases e2:c.it=item
  ·by_cases e3:c.re.fdiv (2 ^ (min region.toNat 64))%2=1
   ·simp[EH,EI,Qg,DT,gR,e1,e2,e3,hr,an5,IntKind.bits];exact⟨h1,(aax _).trans e3⟩
   simp[EH,EI,Qg,DT,gR,e1,e2,e3,hr,an5,IntKind.bits];exact⟨h1,fun h=>e3 ((aax _).symm.trans h)⟩
  simp[EH,EI,Qg,DT,gR,e1,e2];exact h1
def Ij(bX:Int)(c:Cl):Bool:=decide (c.ki=6)&&(decide (c.a<=bX)&&Xk c)
def uD(cs:List Cl)(bX:Int):List Sp:=(cs.filter (Ij bX)).map fun c=>(c.fr,c.to)
def tT(cs:List Cl)(bX:Int)(hl:cs.length<=100000000):Pure Tryz.prog az 188 [.sl .ro (cs.map Qg),I bX] (.sl .ro ((uD cs bX).map Qe)):=by
 have key:∀r,r=(if uD cs bX=[]then AV.sl .nil []else .sl .ro ((uD cs bX).map Qe))->Pure Tryz.prog az 188 [.sl .ro (cs.map Qg),I bX] r:=by
  rintro r rfl
  refine Qn ac4 (fun d f l=>if f=999999 then .junk else match l with
   |[.agg [.int _ a,.int _ b,.int _ c,.int _ d,.int _ e,.int _ f,.int _ g,.int _ h]]=>.bool (Xk ⟨a,b,c,d,e,f,g,h⟩)
   |_=>.junk) (by simp) ?_
  simp[UO]
  refine Qi iR (fun f m=>∃(i:Nat)(bx:List (List AV))(rt:Rt)(L':List Nat)(o:List Sp),i<=cs.length/\f 10=I i/\f 5=.sl rt (o.map Qe)/\m=⟨bx,L',fun _=>.gone,0⟩/\o.length<=i/\o++uD (cs.drop i) bX=uD cs bX/\
   ((o=[]/\rt=.nil/\L'=[])\/(o≠[]/\rt=.own 0 2/\L'=[o.length]))) (fun f _=>cs.length-(numOf (f 10)).toNat) ?_ ?_
  ·exact⟨0,[],.nil,[],[],by omega,by simp,by simp,rfl,by simp,by simp,.inl ⟨rfl,rfl,rfl⟩⟩
  rintro f m ⟨i,bx,rt,L',o,hi,fU,h5,rfl,Oc,ho,aR⟩;rcases zzaa i cs.length with ai|bu
  ·obtain⟨c,hc⟩:=aS ai;have ah:Qh (cs.map Qg) i=Qg c:=Qs (by simp[hc]);have aa:(i:Int)<(cs.length:Int):=by omega
   have hw:=bJ i (by omega);have hd:cs.drop i=c::cs.drop (i+1):=by rw[zzaf ai,(zza.1 hc).2]
   have YA:=Kr c;rw[hd]at ho
   have iu:∀row∈o.map Qe,row.length=2:=by
    intro row h;rw[zzax]at h;obtain⟨a,_,rfl⟩:=h;rfl
   have skip:Ij bX c=false->o++uD (cs.drop (i+1)) bX=uD cs bX:=by
    intro hb;rw[<- ho];simp[uD,hb]
   have take:Ij bX c=true->(o++[(c.fr,c.to)])++uD (cs.drop (i+1)) bX=uD cs bX:=by
    intro hb;rw[<- ho];simp[uD,hb]
   by_cases c1:c.ki=6
   ·have hc6:(⟨6,c.it,c.fr,c.to,c.re,c.n,c.a,c.b⟩:Cl)=c:=by cases c;simp at c1;subst c1;rfl
    have nL:Pure Tryz.prog az 83 [.agg [I 6,I c.it,I c.fr,I c.to,I c.re,I c.n,I c.a,I c.b]] (.bool (Xk c)):=by simpa[Qg,c1]using YA
    by_cases c2:c.a<=bX
    ·cases c3:Xk c with
     |true=>
      have ht:=take (by simp[Ij,c1,c2,c3]);rw[c3]at nL;obtain⟨rfl,rfl,rfl⟩|⟨aK,rfl,rfl⟩:=aR
      ·simp[fU,h5,ai,aa,ah,Qg,c1,c2,hc6,c3,iR,hw];refine⟨nL,aO,⟨i+1,by omega,by simp,_,.own 0 2,[1],[(c.fr,c.to)],⟨rfl,rfl⟩,⟨rfl,rfl⟩,by simp,ht,by simp⟩,by omega⟩
      simp[fU,h5,ai,aa,ah,Qg,c1,c2,hc6,c3,iR,hw];refine⟨nL,⟨?_,by omega⟩,aO,⟨i+1,by omega,by simp,_,.own 0 2,[o.length+1],o++[(c.fr,c.to)],⟨rfl,by simp[Qe]⟩,⟨rfl,rfl⟩,by simp;omega,ht,by simp⟩,by omega⟩
      ·rintro row (⟨a,b,_,rfl⟩|rfl)<;>rfl
     |false=>
      have hs:=skip (by simp[Ij,c3]);rw[c3]at nL;simp[fU,h5,ai,aa,ah,Qg,c1,c2,hc6,c3,iR,hw];refine⟨nL,aO,⟨i+1,by omega,by simp,_,rt,L',o,⟨rfl,rfl⟩,⟨rfl,rfl⟩,by omega,hs,aR⟩,by omega⟩
    have hs:=skip (by simp[Ij,c2]);simp[fU,h5,ai,aa,ah,Qg,c1,c2,iR,hw];refine⟨aO,⟨i+1,by omega,by simp,_,rt,L',o,⟨rfl,rfl⟩,⟨rfl,rfl⟩,by omega,hs,aR⟩,by omega⟩
   have hs:=skip (by simp[Ij,c1]);simp[fU,h5,ai,aa,ah,Qg,c1,iR,hw];refine⟨aO,⟨i+1,by omega,by simp,_,rt,L',o,⟨rfl,rfl⟩,⟨rfl,rfl⟩,by omega,hs,aR⟩,by omega⟩
  obtain rfl:i=cs.length:=by omega
  have he:uD cs bX=o:=by rw[<- ho];simp[uD]
  rw[he];obtain⟨rfl,rfl,rfl⟩|⟨aK,rfl,rfl⟩:=aR
  ·simp[fU,h5,iR,UP]
  simp[fU,h5,iR,UP,aK]
 have hk:=key _ rfl;by_cases hn:uD cs bX=[]
 ·rw[if_pos hn]at hk;rw[hn];exact Qz hk (Wk.sl _ _)
 rw[if_neg hn]at hk;exact hk
end Go.Proofs.YtnopaopphmjnmaaGreatDoor
