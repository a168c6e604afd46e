import Derived.Test.YtnopaopphmjnmaaGreatDoorMQSpG
set_option linter.all false
set_option maxRecDepth 100000
set_option maxHeartbeats 64000000
namespace Go.Proofs.YtnopaopphmjnmaaGreatDoor
open Go Go.Abs
def Ue(n lo up:Int):Pure Tryz.prog aA 265 [I n,I lo,I up] (.bool (wi n lo up)):=by
 refine Qo aeA (fun _ _ _=>.junk) zd ?_;by_cases h1:lo<=n<;>by_cases h2:n<=up<;>simp[ajm,ajn,wi,h1,h2]
def akG(e:It):Pure Tryz.prog aA 56 [.agg (Qn e)] (I e.id):=by
 refine Qo UR (fun _ _ _=>.junk) zd ?_;simp[alV,Qn,alW]
def xU(e:Bk):Pure Tryz.prog aA 268 [.agg (Xg e)] (I e.id):=by
 refine Qo aeD (fun _ _ _=>.junk) zd ?_;simp[ajo,Xg,ajp]
def xV(e:Sp):Pure Tryz.prog aA 314 [.agg (Qf e)] (I e.1):=by
 refine Qo aeU (fun _ _ _=>.junk) zd ?_;simp[ajE,Qf,ajF]
def T9(k:Int):Option Int->Bool
 |some q=>decide (k<=q)
 |none=>false
def Kz(lo up:Int):Option Int->List Int->Bool
 |_,[]=>true
 |pr,k::r=>if k<lo\/up<k\/T9 k pr=true then false else Kz lo up (some k) r
def JS(ks:List Int):Nat->Option Int
 |0=>none
 |i+1=>ks[i]?
def Qed{ks:List Int}{i:Nat}{k:Int}(h:ks[i]?=some k):JS ks (i+1)=some k:=h
def keyOf:List AV->Int
 |[.agg (.int _ n::_)]=>n
 |_=>0
def iK:Nat->FuncId->List AV->AV:=fun _ _ l=>I (keyOf l)
def rP{lo up:Int}{ks:List Int}{i:Nat}{k:Int}(h:ks[i]?=some k):Kz lo up (JS ks i) (ks.drop i)=if k<lo\/up<k\/T9 k (JS ks i)=true then false else Kz lo up (JS ks (i+1)) (ks.drop (i+1)):=by
 obtain⟨hi,hk⟩:=zza.1 h;rw[zzaf hi,hk,Kz,Qed h]
def O7(s n:Nat)(R:Nat->Prop)(f:Nat->AV)(m:AM):Prop:=∃(i:Nat)(bx:List (List AV)),f s=I i/\i<=n/\R i/\m=⟨bx,[],fun _=>.gone,0⟩
def Sd(L:List It)(lo up:Int)(hl:L.length<=8796093022208):Pure Tryz.prog aA 266 [.sl .ro (L.map Qn),I lo,I up,.fn 56 [] []] (.bool (Kz lo up none (L.map fun x=>x.id))):=by
 obtain⟨T,hT⟩:∃T,Kz lo up none (L.map fun x=>x.id)=T:=⟨_,rfl⟩;rw[hT];refine Qo aeB iK zd ?_;simp[WI];refine Qk nt (O7 14 L.length fun i=>Kz lo up (JS (L.map fun x=>x.id) i) ((L.map fun x=>x.id).drop i)=T) (fun f _=>L.length-(numOf (f 14)).toNat) ?_ ?_
 ·exact⟨0,_,zd,zE,by simpa[JS]using hT,rfl⟩
 rintro f m ⟨i,bx,uu,hi,ha,rfl⟩;rcases zzaa i L.length with ai|bz
 ·obtain⟨x,hx⟩:=aU ai;have ah:Qh (L.map Qn) i=Qn x:=Qt (by simp[hx]);have aa:(i:Int)<(L.length:Int):=zE
  have hw:=bM i zE;have hk:=akG x;have Z2:(L.map fun x=>x.id)[i]?=some x.id:=by simp[hx]
  rw[rP Z2]at ha;by_cases c1:x.id<lo
  ·rw[if_pos (.inl c1)]at ha;subst ha;simp[uu,ai,aa,ah,Qn,iK,keyOf,c1,nt,vT];simpa[Qn]using hk
  by_cases c2:up<x.id
  ·rw[if_pos (.inr (.inl c2))]at ha;subst ha;simp[uu,ai,aa,ah,Qn,iK,keyOf,c1,c2,nt,vT];simpa[Qn]using hk
  cases i with
  |zero=>
   rw[if_neg (by simp[c1,c2,JS,T9])]at ha;have eT:IntKind.i64.wrap 1=1:=by decide
   simp[uu,ai,aa,ah,Qn,iK,keyOf,c1,c2,nt,vT,hw,eT];refine⟨by simpa[Qn]using hk,aP,⟨1,_,zd,zE,ha,rfl⟩,zE⟩
  |succ j=>
   have eV:j<L.length:=zE
   have sZ:(j:Int)<(L.length:Int):=zE
   obtain⟨y,hy⟩:=aU eV;have s5:Qh (L.map Qn) j=Qn y:=Qt (by simp[hy]);have hky:=akG y;have tc:JS (L.map fun x=>x.id) (j+1)=some y.id:=Qed (by simp[hy]);have EK:IntKind.i64.wrap (((j+1:Nat):Int)-1)=(j:Int):=by rw[Qj]<;>omega
   have GV:IntKind.i64.wrap ((j:Int)+1-1)=(j:Int):=by rw[Qj]<;>omega
   have xP:IntKind.i64.wrap (j:Int)=(j:Int):=by rw[Qj]<;>omega
   have ek:(0:Int)<(j:Int)+1:=zE
   have hj0:(0:Int)<=(j:Int):=zE
   have GW:(0:Int)<=(j:Int)+1:=zE
   have O5:¬(j:Int)<0:=zE
   have GX:(j:Int)+1<(L.length:Int):=zE
   have dP:IntKind.i64.wrap ((j:Int)+1+1)=((j+1+1:Nat):Int):=by rw[Qj]<;>omega
   by_cases c3:x.id<=y.id
   ·rw[if_pos (.inr (.inr (by rw[tc];simp[T9,c3])))]at ha;subst ha;simp[uu,ai,aa,GX,ek,hj0,GW,O5,EK,GV,xP,eV,sZ,ah,s5,Qn,iK,keyOf,c1,c2,c3,nt,vT];exact⟨by simpa[Qn]using hk,by simpa[Qn]using hky⟩
   rw[if_neg (by rw[tc];simp[c1,c2,c3,T9])]at ha;simp[uu,ai,aa,GX,ek,hj0,GW,O5,EK,GV,xP,eV,sZ,ah,s5,Qn,iK,keyOf,c1,c2,c3,nt,vT,dP];refine⟨by simpa[Qn]using hk,by simpa[Qn]using hky,aP,⟨j+1+1,_,zd,zE,ha,rfl⟩,zE⟩
 obtain rfl:i=L.length:=zE
 rw[zzan zd]at ha;have ha:true=T:=by rw[<- ha];simp[Kz]
 subst ha;simp[uu,nt,vT]
def Se(L:List Bk)(lo up:Int)(hl:L.length<=8796093022208):Pure Tryz.prog aA 267 [.sl .ro (L.map Xg),I lo,I up,.fn 268 [] []] (.bool (Kz lo up none (L.map fun x=>x.id))):=by
 obtain⟨T,hT⟩:∃T,Kz lo up none (L.map fun x=>x.id)=T:=⟨_,rfl⟩;rw[hT];refine Qo aeC iK zd ?_;simp[WJ];refine Qk nx (O7 14 L.length fun i=>Kz lo up (JS (L.map fun x=>x.id) i) ((L.map fun x=>x.id).drop i)=T) (fun f _=>L.length-(numOf (f 14)).toNat) ?_ ?_
 ·exact⟨0,_,zd,zE,by simpa[JS]using hT,rfl⟩
 rintro f m ⟨i,bx,uu,hi,ha,rfl⟩;rcases zzaa i L.length with ai|bz
 ·obtain⟨x,hx⟩:=aU ai;have ah:Qh (L.map Xg) i=Xg x:=Qt (by simp[hx]);have aa:(i:Int)<(L.length:Int):=zE
  have hw:=bM i zE;have hk:=xU x;have Z2:(L.map fun x=>x.id)[i]?=some x.id:=by simp[hx]
  rw[rP Z2]at ha;by_cases c1:x.id<lo
  ·rw[if_pos (.inl c1)]at ha;subst ha;simp[uu,ai,aa,ah,Xg,iK,keyOf,c1,nx,vU];simpa[Xg]using hk
  by_cases c2:up<x.id
  ·rw[if_pos (.inr (.inl c2))]at ha;subst ha;simp[uu,ai,aa,ah,Xg,iK,keyOf,c1,c2,nx,vU];simpa[Xg]using hk
  cases i with
  |zero=>
   rw[if_neg (by simp[c1,c2,JS,T9])]at ha;have eT:IntKind.i64.wrap 1=1:=by decide
   simp[uu,ai,aa,ah,Xg,iK,keyOf,c1,c2,nx,vU,hw,eT];refine⟨by simpa[Xg]using hk,aP,⟨1,_,zd,zE,ha,rfl⟩,zE⟩
  |succ j=>
   have eV:j<L.length:=zE
   have sZ:(j:Int)<(L.length:Int):=zE
   obtain⟨y,hy⟩:=aU eV;have s5:Qh (L.map Xg) j=Xg y:=Qt (by simp[hy]);have hky:=xU y;have tc:JS (L.map fun x=>x.id) (j+1)=some y.id:=Qed (by simp[hy]);have EK:IntKind.i64.wrap (((j+1:Nat):Int)-1)=(j:Int):=by rw[Qj]<;>omega
   have GV:IntKind.i64.wrap ((j:Int)+1-1)=(j:Int):=by rw[Qj]<;>omega
   have xP:IntKind.i64.wrap (j:Int)=(j:Int):=by rw[Qj]<;>omega
   have ek:(0:Int)<(j:Int)+1:=zE
   have hj0:(0:Int)<=(j:Int):=zE
   have GW:(0:Int)<=(j:Int)+1:=zE
   have O5:¬(j:Int)<0:=zE
   have GX:(j:Int)+1<(L.length:Int):=zE
   have dP:IntKind.i64.wrap ((j:Int)+1+1)=((j+1+1:Nat):Int):=by rw[Qj]<;>omega
   by_cases c3:x.id<=y.id
   ·rw[if_pos (.inr (.inr (by rw[tc];simp[T9,c3])))]at ha;subst ha;simp[uu,ai,aa,GX,ek,hj0,GW,O5,EK,GV,xP,eV,sZ,ah,s5,Xg,iK,keyOf,c1,c2,c3,nx,vU];exact⟨by simpa[Xg]using hk,by simpa[Xg]using hky⟩
   rw[if_neg (by rw[tc];simp[c1,c2,c3,T9])]at ha;simp[uu,ai,aa,GX,ek,hj0,GW,O5,EK,GV,xP,eV,sZ,ah,s5,Xg,iK,keyOf,c1,c2,c3,nx,vU,dP];refine⟨by simpa[Xg]using hk,by simpa[Xg]using hky,aP,⟨j+1+1,_,zd,zE,ha,rfl⟩,zE⟩
 obtain rfl:i=L.length:=zE
 rw[zzan zd]at ha;have ha:true=T:=by rw[<- ha];simp[Kz]
 subst ha;simp[uu,nx,vU]
def Sf(L:List Sp)(lo up:Int)(hl:L.length<=8796093022208):Pure Tryz.prog aA 313 [.sl .ro (L.map Qf),I lo,I up,.fn 314 [] []] (.bool (Kz lo up none (L.map fun x=>x.1))):=by
 obtain⟨T,hT⟩:∃T,Kz lo up none (L.map fun x=>x.1)=T:=⟨_,rfl⟩;rw[hT];refine Qo aeT iK zd ?_;simp[WS];refine Qk ny (O7 14 L.length fun i=>Kz lo up (JS (L.map fun x=>x.1) i) ((L.map fun x=>x.1).drop i)=T) (fun f _=>L.length-(numOf (f 14)).toNat) ?_ ?_
 ·exact⟨0,_,zd,zE,by simpa[JS]using hT,rfl⟩
 rintro f m ⟨i,bx,uu,hi,ha,rfl⟩;rcases zzaa i L.length with ai|bz
 ·obtain⟨x,hx⟩:=aU ai;have ah:Qh (L.map Qf) i=Qf x:=Qt (by simp[hx]);have aa:(i:Int)<(L.length:Int):=zE
  have hw:=bM i zE;have hk:=xV x;have Z2:(L.map fun x=>x.1)[i]?=some x.1:=by simp[hx]
  rw[rP Z2]at ha;by_cases c1:x.1<lo
  ·rw[if_pos (.inl c1)]at ha;subst ha;simp[uu,ai,aa,ah,Qf,iK,keyOf,c1,ny,vW];simpa[Qf]using hk
  by_cases c2:up<x.1
  ·rw[if_pos (.inr (.inl c2))]at ha;subst ha;simp[uu,ai,aa,ah,Qf,iK,keyOf,c1,c2,ny,vW];simpa[Qf]using hk
  cases i with
  |zero=>
   rw[if_neg (by simp[c1,c2,JS,T9])]at ha;have eT:IntKind.i64.wrap 1=1:=by decide
   simp[uu,ai,aa,ah,Qf,iK,keyOf,c1,c2,ny,vW,hw,eT];refine⟨by simpa[Qf]using hk,aP,⟨1,_,zd,zE,ha,rfl⟩,zE⟩
  |succ j=>
   have eV:j<L.length:=zE
   have sZ:(j:Int)<(L.length:Int):=zE
   obtain⟨y,hy⟩:=aU eV;have s5:Qh (L.map Qf) j=Qf y:=Qt (by simp[hy]);have hky:=xV y;have tc:JS (L.map fun x=>x.1) (j+1)=some y.1:=Qed (by simp[hy]);have EK:IntKind.i64.wrap (((j+1:Nat):Int)-1)=(j:Int):=by rw[Qj]<;>omega
   have GV:IntKind.i64.wrap ((j:Int)+1-1)=(j:Int):=by rw[Qj]<;>omega
   have xP:IntKind.i64.wrap (j:Int)=(j:Int):=by rw[Qj]<;>omega
   have ek:(0:Int)<(j:Int)+1:=zE
   have hj0:(0:Int)<=(j:Int):=zE
   have GW:(0:Int)<=(j:Int)+1:=zE
   have O5:¬(j:Int)<0:=zE
   have GX:(j:Int)+1<(L.length:Int):=zE
   have dP:IntKind.i64.wrap ((j:Int)+1+1)=((j+1+1:Nat):Int):=by rw[Qj]<;>omega
   by_cases c3:x.1<=y.1
   ·rw[if_pos (.inr (.inr (by rw[tc];simp[T9,c3])))]at ha;subst ha;simp[uu,ai,aa,GX,ek,hj0,GW,O5,EK,GV,xP,eV,sZ,ah,s5,Qf,iK,keyOf,c1,c2,c3,ny,vW];exact⟨by simpa[Qf]using hk,by simpa[Qf]using hky⟩
   rw[if_neg (by rw[tc];simp[c1,c2,c3,T9])]at ha;simp[uu,ai,aa,GX,ek,hj0,GW,O5,EK,GV,xP,eV,sZ,ah,s5,Qf,iK,keyOf,c1,c2,c3,ny,vW,dP];refine⟨by simpa[Qf]using hk,by simpa[Qf]using hky,aP,⟨j+1+1,_,zd,zE,ha,rfl⟩,zE⟩
 obtain rfl:i=L.length:=zE
 rw[zzan zd]at ha;have ha:true=T:=by rw[<- ha];simp[Kz]
 subst ha;simp[uu,ny,vW]
def Js(p:Pl):Bool:=wi p.ch 0 39&&(Vh p.nu p.de&&(Yh p.of p.sh&&(wi p.ep 0 9000000000&&(wi p.rg 1 8&&wi p.ln 1 100000000))))
def xW(p:Pl):Nat->FuncId->List AV->AV:=fun _ f l=>
 if f=183 then .bool (Vh p.nu p.de)else if f=184 then .bool (Yh p.of p.sh)else(match l with|[.int _ n,.int _ lo,.int _ up]=>.bool (wi n lo up)|_=>.junk)
def afS(p:Pl)(gQ:p.sh.length<=1000000000):Pure Tryz.prog aA 192 [.ep (Qa p++[.junk,.junk]) 0] (.bool (Js p)):=by
 have h1:=Ue p.ch 0 39;have h2:=Wx p.nu p.de;have h3:=jR p.of p.sh gQ;have h4:=Ue p.ep 0 9000000000;have h5:=Ue p.rg 1 8;have h6:=Ue p.ln 1 100000000;refine Qo adP (xW p) zd ?_;cases e1:wi p.ch 0 39 with
 |false=>rw[e1]at h1;simp[vJ,vK,Qa,xW,Js,e1];exact h1
 |true=>
  rw[e1]at h1;cases e2:Vh p.nu p.de with
  |false=>rw[e2]at h2;simp[vJ,vK,Qa,xW,Js,e1,e2];exact⟨h1,h2⟩
  |true=>
   rw[e2]at h2;cases e3:Yh p.of p.sh with
   |false=>rw[e3]at h3;simp[vJ,vK,Qa,xW,Js,e1,e2,e3];exact⟨h1,h2,h3⟩
   |true=>
    rw[e3]at h3;cases e4:wi p.ep 0 9000000000 with
    |false=>rw[e4]at h4;simp[vJ,vK,Qa,xW,Js,e1,e2,e3,e4];exact⟨h1,h2,h3,h4⟩
    |true=>
     rw[e4]at h4;cases e5:wi p.rg 1 8 with
     |false=>rw[e5]at h5;simp[vJ,vK,Qa,xW,Js,e1,e2,e3,e4,e5];exact⟨h1,h2,h3,h4,h5⟩
     |true=>rw[e5]at h5;simp[vJ,vK,Qa,xW,Js,e1,e2,e3,e4,e5];exact⟨h1,h2,h3,h4,h5,h6⟩
def afT:List Cl->Bool
 |[]=>true
 |c::r=>Xj c&&afT r
def Qdt(p:Pl):Bool:=decide (p.cls.length<=400)&&afT p.cls
def By:Nat->FuncId->List AV->AV:=fun _ _ l=>match l with
 |[.agg [.int _ a,.int _ b,.int _ c,.int _ d,.int _ e,.int _ f,.int _ g,.int _ h]]=>.bool (Xj ⟨a,b,c,d,e,f,g,h⟩)
 |_=>.junk
def Sg(p:Pl)(hc:p.cls.length<=1000000000):Pure Tryz.prog aA 196 [.ep (Qa p++[.junk,.junk]) 0] (.bool (Qdt p)):=by
 refine Qo adT By zd ?_;by_cases h0:p.cls.length<=400
 ·have zL:¬(400:Int)<(p.cls.length:Int):=zE
  obtain⟨T,hT⟩:∃T,Qdt p=T:=⟨_,rfl⟩;rw[hT];simp[V0,Qa,h0,zL];refine Qk Cx (O7 18 p.cls.length fun i=>afT (p.cls.drop i)=T) (fun f _=>p.cls.length-(numOf (f 18)).toNat) ?_ ?_
  ·exact⟨0,_,zd,zE,by rw[<- hT];simp[Qdt,h0],rfl⟩
  rintro f m ⟨i,bx,h18,hi,ha,rfl⟩;rcases zzaa i p.cls.length with ai|bz
  ·obtain⟨x,hx⟩:=aU ai;have ah:Qh (p.cls.map Qg) i=Qg x:=Qt (by simp[hx]);have aa:(i:Int)<(p.cls.length:Int):=zE
   have hw:=bM i zE;have hk:=We x;rw[Zd hx,afT]at ha;cases hv:Xj x with
   |false=>
    rw[hv]at ha hk;simp at ha;simp[h18,ai,aa,ah,Qg,By,hv,Cx,Fi,ha];simpa[Qg]using hk
   |true=>
    rw[hv]at ha hk;simp at ha;simp[h18,ai,aa,ah,Qg,By,hv,Cx,Fi,hw];refine⟨by simpa[Qg]using hk,aP,⟨i+1,_,zd,zE,ha,rfl⟩,zE⟩
  obtain rfl:i=p.cls.length:=zE
  rw[zzbn]at ha;have ha:true=T:=ha;subst ha;simp[h18,Cx,Fi]
 have zL:(400:Int)<(p.cls.length:Int):=zE
 simp[V0,Fi,Qa,Qdt,h0,zL]
open Go Go.Abs
def mI(l:List It):List (List Int×AV):=l.map fun x=>([x.id],.agg (Qn x))
def mK(l:List Bk):List (List Int×AV):=l.map fun x=>([x.id],.agg (Xg x))
def GY(id:Int):List Bk->Option Bk
 |[]=>none
 |x::r=>if x.id=id then some x else GY id r
def xX{k:List Int}:∀{kvs:List (List Int×AV)}{i:Nat},(∀p∈kvs,p.1≠k)->Xl k kvs i=none
 |[],_,_=>rfl
 |(k',a)::r,i,h=>by
  rw[Xl,if_neg (fun e=>h (k',a) zd e.symm)];exact xX fun p hp=>h p (by simp[hp])
def anL(id:Int):∀(l:List It)(i:Nat),(Xh id l=none->Xl [id] (mI l) i=none)/\∀x,Xh id l=some x->∃n,Xl [id] (mI l) i=some (n,.agg (Qn x))
 |[],i=>⟨fun _=>rfl,fun x h=>by cases h⟩
 |y::r,i=>by
  have ih:=anL id r (i+1);simp only[mI,zzay,Xl,Xh]at ih |-
  by_cases h:y.id=id
  ·rw[if_pos h,if_pos (by rw[h])];exact⟨fun h=>(by cases h),fun x h=>(by cases h;exact⟨i,rfl⟩)⟩
  rw[if_neg h,if_neg (by intro e;cases e;exact h rfl)];exact ih
def atB(id:Int):∀(l:List Bk)(i:Nat),(GY id l=none->Xl [id] (mK l) i=none)/\∀x,GY id l=some x->∃n,Xl [id] (mK l) i=some (n,.agg (Xg x))
 |[],i=>⟨fun _=>rfl,fun x h=>by cases h⟩
 |y::r,i=>by
  have ih:=atB id r (i+1);simp only[mK,zzay,Xl,GY]at ih |-
  by_cases h:y.id=id
  ·rw[if_pos h,if_pos (by rw[h])];exact⟨fun h=>(by cases h),fun x h=>(by cases h;exact⟨i,rfl⟩)⟩
  rw[if_neg h,if_neg (by intro e;cases e;exact h rfl)];exact ih
def lE{lo up:Int}:∀{ks:List Int}{pr:Option Int},Kz lo up pr ks=true->ks.Pairwise (·<·)/\∀k∈ks,lo<=k/\k<=up/\∀q,pr=some q->q<k
 |[],pr,_=>⟨List.Pairwise.nil,fun k hk=>by cases hk⟩
 |k::r,pr,h=>by
  rw[Kz]at h;split at h
  ·cases h
  rename_i hn;simp only[not_or]at hn;obtain⟨h1,h2⟩:=lE h
  have hk:∀q,pr=some q->q<k:=fun q hq=>by
   have:=hn.2.2;subst hq;simp[T9]at this;omega
  refine⟨zzch.2 ⟨fun a ha=>(h2 a ha).2.2 k rfl,h1⟩,fun a ha=>?_⟩;rcases zzat.1 ha with rfl|ha
  ·exact⟨zE,zE,hk⟩
  obtain⟨g1,g2,g3⟩:=h2 a ha;refine⟨g1,g2,fun q hq=>?_⟩;have:=hk q hq;have:=g3 k rfl;omega
def xY{α:Type}{key:α->Int}{row:α->AV}{l:List α}{i:Nat}{x:α}(h:(l.map key).Pairwise (·<·))(hx:l[i]?=some x):Xl [key x] ((l.take i).map fun x=>([key x],row x)) 0=none:=by
 refine xX fun p hp=>?_;obtain⟨y,hy,rfl⟩:=zzax.1 hp;obtain⟨j,hj,oD⟩:=zzgc hy;rw[zzaq]at hj;rw[List.getElem_take]at oD;obtain⟨hi,hx⟩:=zza.1 hx
 have ai:key l[j]<key l[i]:=by
  have:=zzdr.1 h j i (by simp;omega) (by simpa using hi) zE;simpa using this
 intro e;rw[<- oD,<- hx]at e;simp only[List.cons.injEq,and_true]at e;omega
def Up(x:It):Bool:=wi x.ki 1 5&&(wi x.fr 1 100000000&&(wi x.sp 0 200&&wi x.ra 0 3))
def xZ:List It->Bool
 |[]=>true
 |x::r=>Up x&&xZ r
def xg(p:Pl):Bool:=match Xh p.fi p.aN with
 |some x=>decide (x.ki=5)
 |none=>false
def UA(p:Pl):Bool:=decide (p.aN.length<=4000)&&(Kz 1 1000000 none (p.aN.map fun x=>x.id)&&(xZ p.aN&&xg p))
def b9(p:Pl)(kI kB:List (List Int×AV))(bx:List (List AV)):AM:=⟨Qa p::[.aL 0 kI]::[.aL 0 kB]::(Qa p++[.mp 1,.mp 2])::bx,[],fun _=>.gone,0⟩
def afU(x:It):Idle (.agg (Qn x)):=Idle.agg fun c hc=>by
 simp only[Qn,zzat,zzdy,or_false]at hc;rcases hc with rfl|rfl|rfl|rfl|rfl<;>exact Idle.int _ _
def afV(x:Bk):Idle (.agg (Xg x)):=Idle.agg fun c hc=>by
 simp only[Xg,zzat,zzdy,or_false]at hc;rcases hc with rfl|rfl|rfl|rfl|rfl|rfl|rfl<;>exact Idle.int _ _
def BkK(p:Pl)(K:AV->AM->Prop)(r:AV)(m:AM):Prop:=∃kI kB bx,m=b9 p kI kB bx/\(∀e∈kI,Idle e.2)/\(∀e∈kB,Idle e.2)/\Idle r/\K r (b9 p kI kB [])
def Bz{p:Pl}{K:AV->AM->Prop}{r:AV}{m:AM}(kI kB:List (List Int×AV))(bx:List (List AV))(hm:m=b9 p kI kB bx)(h1:∀e∈kI,Idle e.2)(h2:∀e∈kB,Idle e.2)(h3:Idle r)(h4:K r (b9 p kI kB [])):BkK p K r m:=⟨kI,kB,bx,hm,h1,h2,h3,h4⟩
def td{f:FuncId}{xs:List AV}{p:Pl}{Y:YT}{k0 b0:List (List Int×AV)}{K:AV->AM->Prop}
  (h:an Tryz.prog aA Y f xs (b9 p k0 b0 []) (BkK p K)):an Tryz.prog aA Y f xs (b9 p k0 b0 []) K:=by
 refine an.forget (an.mono h ?_);rintro r m' ⟨kI,kB,bx,rfl,h1,h2,h3,h4⟩;refine⟨b9 p kI kB [],bx,rfl,rfl,rfl,fun id cells hc=>?_,h3,h4⟩
 match id,hc with
 |0,hc=>exact .inl hc
 |1,hc=>cases hc;exact .inr (.inr ⟨0,kI,rfl,h1⟩)
 |2,hc=>cases hc;exact .inr (.inr ⟨0,kB,rfl,h2⟩)
 |3,hc=>exact .inl hc
 |n+4,hc=>cases hc
def pZ(p:Pl):Nat->FuncId->List AV->AV:=fun _ f l=>
 if f=266 then .bool (Kz 1 1000000 none (p.aN.map fun x=>x.id))else(match l with|[.int _ n,.int _ lo,.int _ up]=>.bool (wi n lo up)|_=>.junk)
def Vt(l:List It):∀e∈mI l,Idle e.2:=fun e he=>by
 obtain⟨x,_,rfl⟩:=zzax.1 he;exact afU x
def Qbd(l:List Bk):∀e∈mK l,Idle e.2:=fun e he=>by
 obtain⟨x,_,rfl⟩:=zzax.1 he;exact afV x
def afW{l:List It}{i:Nat}{x:It}(h:l[i]?=some x):mI (l.take (i+1))=mI (l.take i)++[([x.id],.agg (Qn x))]:=by
 simp[mI,zzas,h]
def afX{l:List Bk}{i:Nat}{x:Bk}(h:l[i]?=some x):mK (l.take (i+1))=mK (l.take i)++[([x.id],.agg (Xg x))]:=by
 simp[mK,zzas,h]
def Je{P:List Int×AV->Prop}:∀e∈([]:List (List Int×AV)),P e:=fun e h=>by cases h
def akH(s n:Nat)(p:Pl)(kI kB:Nat->List (List Int×AV))(R:Nat->Prop)(f:Nat->AV)(m:AM):Prop:=∃(i:Nat)(bx:List (List AV)),f s=I i/\i<=n/\R i/\m=b9 p (kI i) (kB i) bx
def afY(p:Pl)(hl:p.aN.length<=1000000000)(Y:YT)(K:AV->AM->Prop)(hK1:UA p=true->K (.bool true) (b9 p (mI p.aN) [] []))(rQ:UA p=false->∀kI,K (.bool false) (b9 p kI [] [])):
  an Tryz.prog aA Y 193 [.ptr 3 0] (b9 p [] [] []) K:=by
 have O8:=Sd p.aN 1 1000000 zE;refine td ?_;refine Xd adQ (pZ p) zd ?_;by_cases h0:p.aN.length<=4000
 ·have zL:¬(4000:Int)<(p.aN.length:Int):=zE
  cases ha:Kz 1 1000000 none (p.aN.map fun x=>x.id)with
  |false=>
   rw[ha]at O8;simp[Ff,oM,b9,Qa,h0,zL,pZ,ha];exact⟨O8,Bz _ _ _ rfl Je Je (Idle.bool _) (rQ (by simp[UA,ha]) [])⟩
  |true=>
   rw[ha]at O8;have hp:=(lE ha).1;simp[Ff,b9,Qa,h0,zL,pZ,ha];refine⟨O8,?_⟩;refine Qk jc (akH 27 p.aN.length p (fun i=>mI (p.aN.take i)) (fun _=>[]) fun i=>xZ (p.aN.drop i)=xZ p.aN) (fun f _=>p.aN.length-(numOf (f 27)).toNat) ?_ ?_
   ·exact⟨0,[],zd,zE,zd,by simp[b9,Qa,mI]⟩
   rintro f m ⟨i,bx,h27,hi,eD,rfl⟩;rcases zzaa i p.aN.length with ai|bz
   ·obtain⟨x,hx⟩:=aU ai;have ah:Qh (p.aN.map Qn) i=Qn x:=Qt (by simp[hx]);have aa:(i:Int)<(p.aN.length:Int):=zE
    have hw:=bM i zE;have hkf:Xl [x.id] (mI (p.aN.take i)) 0=none:=xY (key:=fun x=>x.id) (row:=fun x=>.agg (Qn x)) hp hx;have bC:=afW hx;rw[Zd hx,xZ]at eD;have h1:=Ue x.ki 1 5;have h2:=Ue x.fr 1 100000000;have h3:=Ue x.sp 0 200;have h4:=Ue x.ra 0 3;have bad:Up x=false->UA p=false:=fun h=>by rw[h]at eD;simp[UA,<- eD]
    cases e1:wi x.ki 1 5 with
    |false=>
     rw[e1]at h1;simp[h27,ai,aa,ah,Qn,b9,Qa,pZ,e1,jc,oM];exact⟨h1,Bz _ _ _ rfl (Vt _) Je (Idle.bool _) (rQ (bad (by simp[Up,e1])) _)⟩
    |true=>
     rw[e1]at h1;cases e2:wi x.fr 1 100000000 with
     |false=>
      rw[e2]at h2;simp[h27,ai,aa,ah,Qn,b9,Qa,pZ,e1,e2,jc,oM];exact⟨h1,h2,Bz _ _ _ rfl (Vt _) Je (Idle.bool _) (rQ (bad (by simp[Up,e1,e2])) _)⟩
     |true=>
      rw[e2]at h2;cases e3:wi x.sp 0 200 with
      |false=>
       rw[e3]at h3;simp[h27,ai,aa,ah,Qn,b9,Qa,pZ,e1,e2,e3,jc,oM];exact⟨h1,h2,h3,Bz _ _ _ rfl (Vt _) Je (Idle.bool _) (rQ (bad (by simp[Up,e1,e2,e3])) _)⟩
      |true=>
       rw[e3]at h3;cases e4:wi x.ra 0 3 with
       |false=>
        rw[e4]at h4;simp[h27,ai,aa,ah,Qn,b9,Qa,pZ,e1,e2,e3,e4,jc,oM];exact⟨h1,h2,h3,h4,Bz _ _ _ rfl (Vt _) Je (Idle.bool _) (rQ (bad (by simp[Up,e1,e2,e3,e4])) _)⟩
       |true=>
        rw[e4]at h4;have bZ:Up x=true:=by simp[Up,e1,e2,e3,e4]
        rw[bZ,zzdu]at eD;simp[h27,ai,aa,ah,Qn,b9,Qa,pZ,e1,e2,e3,e4,jc,hw,hkf];refine⟨h1,h2,h3,h4,aP,⟨i+1,bx++[Qn x],zd,zE,eD,?_⟩,zE⟩
        ·simp only[bC];simp[Qn,b9,Qa]
   have bL:¬(i:Int)<(p.aN.length:Int):=zE
   rw[zzan bz]at eD;have iR:p.aN.take i=p.aN:=zzap bz;simp only[iR];have eD:xZ p.aN=true:=by rw[<- eD];rfl
   obtain⟨g1,g2⟩:=anL p.fi p.aN 0;cases hf:Xh p.fi p.aN with
   |none=>
    have g:=g1 hf;simp[h27,bL,jc,oM,b9,Qa,g];exact Bz _ _ _ rfl (Vt _) Je (Idle.bool _) (rQ (by simp[UA,xg,hf]) _)
   |some x=>
    obtain⟨n,g⟩:=g2 x hf;simp[h27,bL,jc,oM,b9,Qa,g,Qn];by_cases h5:x.ki=5
    ·simp only[h5];exact Bz _ _ _ rfl (Vt _) Je (Idle.bool _) (hK1 (by simp[UA,xg,hf,h0,ha,eD,h5]))
    have h5':(x.ki==5)=false:=by simpa using h5
    rw[h5'];exact Bz _ _ _ rfl (Vt _) Je (Idle.bool _) (rQ (by simp[UA,xg,hf,h5]) _)
 have zL:(4000:Int)<(p.aN.length:Int):=zE
 simp[Ff,oM,b9,Qa,h0,zL,pZ];exact Bz _ _ _ rfl Je Je (Idle.bool _) (rQ (by simp[UA,h0]) [])
open Go Go.Abs
def DK(x:Bk):Bool:=decide (0<=x.fr)&&(decide (x.fr<x.to)&&(decide (x.to<=x.un)&&decide (x.un<=100000000)))
def kindOf(p:Pl)(id:Int):Int:=match Xh id p.aN with
 |some y=>y.ki
 |none=>0
def Z3(p:Pl)(x:Bk):Bool:=decide (kindOf p x.it=2)&&(wi x.re 0 (p.rg-1)&&(DK x&&wi x.pr 0 1000000000))
def Si(p:Pl):List Bk->Bool
 |[]=>true
 |x::r=>Z3 p x&&Si p r
def jW(p:Pl):Bool:=decide (p.bks.length<=2000)&&(Kz 1 1000000 none (p.bks.map fun x=>x.id)&&Si p p.bks)
def DL(p:Pl)(id:Int):∃r,Xl [id] (mI p.aN) 0=r/\((∃n x,Xh id p.aN=some x/\r=some (n,.agg (Qn x)))\/(Xh id p.aN=none/\r=none)):=by
 obtain⟨g1,g2⟩:=anL id p.aN 0;cases hf:Xh id p.aN with
 |none=>exact⟨_,rfl,.inr ⟨rfl,g1 hf⟩⟩
 |some x=>
  obtain⟨n,g⟩:=g2 x hf;exact⟨_,rfl,.inl ⟨n,x,rfl,g⟩⟩
def Sj(p:Pl):Nat->FuncId->List AV->AV:=fun _ f l=>
 if f=267 then .bool (Kz 1 1000000 none (p.bks.map fun x=>x.id))else(match l with|[.int _ n,.int _ lo,.int _ up]=>.bool (wi n lo up)|_=>.junk)
def afZ(p:Pl)(hl:p.bks.length<=8796093022208)(EL:1<=p.rg/\p.rg<=8)(Y:YT)(K:AV->AM->Prop)(hK1:jW p=true->K (.bool true) (b9 p (mI p.aN) (mK p.bks) []))(rQ:jW p=false->∀kB,K (.bool false) (b9 p (mI p.aN) kB [])):
  an Tryz.prog aA Y 194 [.ptr 3 0] (b9 p (mI p.aN) [] []) K:=by
 have O8:=Se p.bks 1 1000000 hl;refine td ?_;refine Xd adR (Sj p) zd ?_;by_cases h0:p.bks.length<=2000
 ·have zL:¬(2000:Int)<(p.bks.length:Int):=zE
  cases ha:Kz 1 1000000 none (p.bks.map fun x=>x.id)with
  |false=>
   rw[ha]at O8;simp[Fh,fW,b9,Qa,h0,zL,Sj,ha];exact⟨O8,Bz _ _ _ rfl (Vt _) Je (Idle.bool _) (rQ (by simp[jW,ha]) [])⟩
  |true=>
   rw[ha]at O8;have hp:=(lE ha).1;simp[Fh,b9,Qa,h0,zL,Sj,ha];refine⟨O8,?_⟩;refine Qk eO (akH 28 p.bks.length p (fun _=>mI p.aN) (fun i=>mK (p.bks.take i)) fun i=>Si p (p.bks.drop i)=Si p p.bks) (fun f _=>p.bks.length-(numOf (f 28)).toNat) ?_ ?_
   ·exact⟨0,[],zd,zE,zd,by simp[b9,Qa,mK]⟩
   rintro f m ⟨i,bx,h28,hi,eD,rfl⟩;rcases zzaa i p.bks.length with ai|bz
   ·obtain⟨x,hx⟩:=aU ai;have ah:Qh (p.bks.map Xg) i=Xg x:=Qt (by simp[hx]);have aa:(i:Int)<(p.bks.length:Int):=zE
    have hw:=bM i zE;have pS:IntKind.i64.wrap (p.rg-1)=p.rg-1:=by rw[Qj]<;>omega
    have hkf:Xl [x.id] (mK (p.bks.take i)) 0=none:=xY (key:=fun x=>x.id) (row:=fun x=>.agg (Xg x)) hp hx;have bC:=afX hx;rw[Zd hx,Si]at eD;have h1:=Ue x.re 0 (p.rg-1);have h2:=Ue x.pr 0 1000000000;have bad:Z3 p x=false->jW p=false:=fun h=>by rw[h]at eD;simp[jW,<- eD]
    obtain⟨r,hr,Sk⟩:=DL p x.it;by_cases fP:kindOf p x.it=2
    ·obtain⟨n,y,hf,rfl⟩|⟨hf,rfl⟩:=Sk
     ·have hy:y.ki=2:=by simpa[kindOf,hf]using fP
      cases e1:wi x.re 0 (p.rg-1)with
      |false=>
       rw[e1]at h1;simp[h28,ai,aa,ah,Xg,b9,Qa,Sj,hr,Qn,hy,pS,e1,eO,fW];exact⟨h1,Bz _ _ _ rfl (Vt _) (Qbd _) (Idle.bool _) (rQ (bad (by simp[Z3,e1])) _)⟩
      |true=>
       rw[e1]at h1;cases e2:DK x with
       |false=>
        have e2':¬(0<=x.fr)\/(0<=x.fr/\¬x.fr<x.to)\/(0<=x.fr/\x.fr<x.to/\¬x.to<=x.un)\/(0<=x.fr/\x.fr<x.to/\x.to<=x.un/\¬x.un<=100000000):=by
         simp[DK]at e2;omega
        obtain c1|⟨c1,c2⟩|⟨c1,c2,c3⟩|⟨c1,c2,c3,c4⟩:=e2'
        ·simp[h28,ai,aa,ah,Xg,b9,Qa,Sj,hr,Qn,hy,pS,e1,c1,eO,fW];exact⟨h1,Bz _ _ _ rfl (Vt _) (Qbd _) (Idle.bool _) (rQ (bad (by simp[Z3,e1,e2])) _)⟩
        ·simp[h28,ai,aa,ah,Xg,b9,Qa,Sj,hr,Qn,hy,pS,e1,c1,c2,eO,fW];exact⟨h1,Bz _ _ _ rfl (Vt _) (Qbd _) (Idle.bool _) (rQ (bad (by simp[Z3,e1,e2])) _)⟩
        ·simp[h28,ai,aa,ah,Xg,b9,Qa,Sj,hr,Qn,hy,pS,e1,c1,c2,c3,eO,fW];exact⟨h1,Bz _ _ _ rfl (Vt _) (Qbd _) (Idle.bool _) (rQ (bad (by simp[Z3,e1,e2])) _)⟩
        simp[h28,ai,aa,ah,Xg,b9,Qa,Sj,hr,Qn,hy,pS,e1,c1,c2,c3,c4,eO,fW];exact⟨h1,Bz _ _ _ rfl (Vt _) (Qbd _) (Idle.bool _) (rQ (bad (by simp[Z3,e1,e2])) _)⟩
       |true=>
        have e2':0<=x.fr/\x.fr<x.to/\x.to<=x.un/\x.un<=100000000:=by
         simp[DK]at e2;omega
        obtain⟨c1,c2,c3,c4⟩:=e2';cases e3:wi x.pr 0 1000000000 with
        |false=>
         rw[e3]at h2;simp[h28,ai,aa,ah,Xg,b9,Qa,Sj,hr,Qn,hy,pS,e1,c1,c2,c3,c4,e3,eO,fW];exact⟨h1,h2,Bz _ _ _ rfl (Vt _) (Qbd _) (Idle.bool _) (rQ (bad (by simp[Z3,e1,e2,e3])) _)⟩
        |true=>
         rw[e3]at h2;have bZ:Z3 p x=true:=by simp[Z3,fP,e1,e2,e3]
         rw[bZ,zzdu]at eD;simp[h28,ai,aa,ah,Xg,b9,Qa,Sj,hr,Qn,hy,pS,e1,c1,c2,c3,c4,e3,eO,fW,hw,hkf];refine⟨h1,h2,aP,⟨i+1,bx++[Xg x],zd,zE,eD,?_⟩,zE⟩
         ·simp only[bC];simp[Xg,b9,Qa]
     simp[kindOf,hf]at fP
    have hb:=bad (by simp[Z3,fP]);obtain⟨n,y,hf,rfl⟩|⟨hf,rfl⟩:=Sk
    ·have hy:¬y.ki=2:=by simpa[kindOf,hf]using fP
     simp[h28,ai,aa,ah,Xg,b9,Qa,Sj,hr,Qn,hy,pS,eO,fW];exact Bz _ _ _ rfl (Vt _) (Qbd _) (Idle.bool _) (rQ hb _)
    simp[h28,ai,aa,ah,Xg,b9,Qa,Sj,hr,Qn,pS,eO,fW];exact Bz _ _ _ rfl (Vt _) (Qbd _) (Idle.bool _) (rQ hb _)
   have bL:¬(i:Int)<(p.bks.length:Int):=zE
   rw[zzan bz]at eD;have iR:p.bks.take i=p.bks:=zzap bz;simp only[iR];have eD:Si p p.bks=true:=by rw[<- eD];rfl
   simp[h28,bL,eO,fW,b9,Qa];exact Bz _ _ _ rfl (Vt _) (Qbd _) (Idle.bool _) (hK1 (by simp[jW,h0,ha,eD]))
 have zL:(2000:Int)<(p.bks.length:Int):=zE
 simp[Fh,fW,b9,Qa,h0,zL,Sj];exact Bz _ _ _ rfl (Vt _) Je (Idle.bool _) (rQ (by simp[jW,h0]) [])
open Go Go.Abs
def RdK(m:AM)(K:AV->AM->Prop)(r:AV)(m':AM):Prop:=∃ex,m'={m with boxes:=m.boxes++ex}/\Idle r/\K r m
def p5{m:AM}{K:AV->AM->Prop}{r:AV}{m':AM}(ex:List (List AV))(hm:m'={m with boxes:=m.boxes++ex})(hi:Idle r)(hK:K r m):RdK m K r m':=⟨ex,hm,hi,hK⟩
def Wi{f:FuncId}{xs:List AV}{m:AM}{Y:YT}{K:AV->AM->Prop}(h:an Tryz.prog aA Y f xs m (RdK m K)):an Tryz.prog aA Y f xs m K:=by
 refine an.mono (an.read (K:=fun r=>K r m) (an.mono h fun r m' h=>h)) ?_;rintro r m' ⟨rfl,h⟩;exact h
def p6:∀{l:List It},xZ l=true->∀x∈l,Up x=true
 |y::r,h,x,hx=>by
  rw[xZ,zzak]at h;rcases zzat.1 hx with rfl|hx
  ·exact h.1
  exact p6 h.2 x hx
def Z4{x:It}(h:Up x=true):(1<=x.ki/\x.ki<=5)/\(1<=x.fr/\x.fr<=100000000)/\(0<=x.sp/\x.sp<=200)/\(0<=x.ra/\x.ra<=3):=by
 simp only[Up,wi,zzak,decide_eq_true_eq]at h;exact h
def jX(p:Pl)(e:En):Bool:=match Xh e.it p.aN with
 |none=>false
 |some y=>if y.ki=5 then false else if wi e.fr 1 y.fr=false then false else if y.ki≠4/\e.fr≠y.fr then false else decide (0<=e.ea)&&(decide (e.ea<=e.la)&&decide (e.la<=p.ln-e.fr))
def jY:Nat->FuncId->List AV->AV:=fun _ f l=>match l with|[.int _ n,.int _ lo,.int _ up]=>.bool (wi n lo up)|_=>.junk
def anM(p:Pl)(e:En)(kB:List (List Int×AV))(bx:List (List AV))(GZ:xZ p.aN=true)(dy:1<=p.ln/\p.ln<=100000000)(Y:YT)(K:AV->AM->Prop)(hK:∀b,jX p e=b->K (.bool b) (b9 p (mI p.aN) kB bx)):
  an Tryz.prog aA Y 269 [.ptr 3 0,.agg (Qd e)] (b9 p (mI p.aN) kB bx) K:=by
 refine Wi (Xd aeE jY zd ?_);obtain⟨r,hr,Sk⟩:=DL p e.it;simp[ajq,ajr,b9,Qa,Qd];refine Ze ?_;obtain⟨n,y,hf,rfl⟩|⟨hf,rfl⟩:=Sk
 ·obtain⟨g1,g2,g3,g4⟩:=Z4 (p6 GZ y (p7 hf).1);have h1:=Ue e.fr 1 y.fr;by_cases c1:y.ki=5
  ·simp[hr,Qn,c1];exact p5 _ rfl (Idle.bool _) (hK _ (by simp[jX,hf,c1]))
  cases c2:wi e.fr 1 y.fr with
  |false=>
   rw[c2]at h1;simp[hr,Qn,c1,c2,jY];exact⟨h1,p5 _ rfl (Idle.bool _) (hK _ (by simp[jX,hf,c1,c2]))⟩
  |true=>
   rw[c2]at h1;have c2':1<=e.fr/\e.fr<=y.fr:=by simpa[wi]using c2
   have hw:IntKind.i64.wrap (p.ln-e.fr)=p.ln-e.fr:=by rw[Qj]<;>omega
   by_cases c3:y.ki≠4/\e.fr≠y.fr
   ·simp[hr,Qn,c1,c2,jY,c3.1,c3.2];exact⟨h1,p5 _ rfl (Idle.bool _) (hK _ (by simp[jX,hf,c1,c2,c3.1,c3.2]))⟩
   have fin:∀b,(decide (0<=e.ea)&&(decide (e.ea<=e.la)&&decide (e.la<=p.ln-e.fr)))=b->jX p e=b:=fun b hb=>by
    rw[jX,hf];simp only;rw[if_neg c1,if_neg (by simp[c2]),if_neg c3];exact hb
   have c3':y.ki=4\/(¬y.ki=4/\e.fr=y.fr):=by
    by_cases h:y.ki=4
    ·exact .inl h
    exact .inr ⟨h,by by_cases h':e.fr=y.fr;exact h';exact absurd ⟨h,h'⟩ c3⟩
   by_cases d1:0<=e.ea
   ·by_cases d2:e.ea<=e.la
    ·by_cases d3:e.la<=p.ln-e.fr
     ·obtain c|⟨c,c'⟩:=c3'
      ·simp[hr,Qn,c1,c2,jY,c,hw,d1,d2,d3];exact⟨h1,p5 _ rfl (Idle.bool _) (hK _ (fin _ (by simp[d1,d2,d3])))⟩
      rw[<- c']at c2 h1;simp[hr,Qn,c1,c2,jY,c,<- c',hw,d1,d2,d3];exact⟨h1,p5 _ rfl (Idle.bool _) (hK _ (fin _ (by simp[d1,d2,d3])))⟩
     obtain c|⟨c,c'⟩:=c3'
     ·simp[hr,Qn,c1,c2,jY,c,hw,d1,d2,d3];exact⟨h1,p5 _ rfl (Idle.bool _) (hK _ (fin _ (by simp[d1,d2,d3])))⟩
     rw[<- c']at c2 h1;simp[hr,Qn,c1,c2,jY,c,<- c',hw,d1,d2,d3];exact⟨h1,p5 _ rfl (Idle.bool _) (hK _ (fin _ (by simp[d1,d2,d3])))⟩
    obtain c|⟨c,c'⟩:=c3'
    ·simp[hr,Qn,c1,c2,jY,c,d1,d2];exact⟨h1,p5 _ rfl (Idle.bool _) (hK _ (fin _ (by simp[d1,d2])))⟩
    rw[<- c']at c2 h1;simp[hr,Qn,c1,c2,jY,c,<- c',d1,d2];exact⟨h1,p5 _ rfl (Idle.bool _) (hK _ (fin _ (by simp[d1,d2])))⟩
   obtain c|⟨c,c'⟩:=c3'
   ·simp[hr,Qn,c1,c2,jY,c,d1];exact⟨h1,p5 _ rfl (Idle.bool _) (hK _ (fin _ (by simp[d1])))⟩
   rw[<- c']at c2 h1;simp[hr,Qn,c1,c2,jY,c,<- c',d1];exact⟨h1,p5 _ rfl (Idle.bool _) (hK _ (fin _ (by simp[d1])))⟩
 simp[hr];exact p5 _ rfl (Idle.bool _) (hK _ (by simp[jX,hf]))
open Go Go.Abs
def Ac(p:Pl)(e:En)(a:Sp):Bool:=match Xh a.2 p.aN with
 |none=>false
 |some y=>decide (y.fr=e.fr)&&(decide (y.ki≠5)&&decide (y.ki≠4))
def O9(p:Pl)(e:En)(kB:List (List Int×AV))(b0:List (List AV)):AM:=b9 p (mI p.aN) kB (b0++[[.ptr 3 0],Qd e])
def rdA{p:Pl}{e:En}{kB:List (List Int×AV)}{b0:List (List AV)}{K:AV->AM->Prop}{r:AV}{m':AM}(ex:List (List AV))(hm:m'=b9 p (mI p.aN) kB (b0++([.ptr 3 0]::Qd e::ex)))(hi:Idle r)(hK:K r (O9 p e kB b0)):RdK (O9 p e kB b0) K r m':=
 p5 ex (by rw[hm];simp[O9,b9]) hi hK
def Z5(p:Pl)(e:En)(a:Sp)(kB:List (List Int×AV))(b0:List (List AV))(Y:YT)(K:AV->AM->Prop)(hK:K (.bool (!Ac p e a)) (O9 p e kB b0)):
  an Tryz.prog aA Y 315 [.agg (Qf a),.ptr (b0.length+4) 0,.ptr (b0.length+5) 0] (O9 p e kB b0) K:=by
 refine Wi (Xd aeV (fun _ _ _=>.junk) zd ?_);obtain⟨r,hr,Sk⟩:=DL p a.2;simp[ajG,ajH,O9,b9,Qa,Qd,Qf];refine Ze ?_;obtain⟨n,y,hf,rfl⟩|⟨hf,rfl⟩:=Sk
 ·by_cases c1:y.fr=e.fr
  ·by_cases c2:y.ki=5
   ·have:(!Ac p e a)=true:=by simp[Ac,hf,c1,c2]
    rw[this]at hK;simp[hr,Qn,c1,c2];exact rdA _ rfl (Idle.bool _) hK
   by_cases c3:y.ki=4
   ·have:(!Ac p e a)=true:=by simp[Ac,hf,c1,c2,c3]
    rw[this]at hK;simp[hr,Qn,c1,c2,c3];exact rdA _ rfl (Idle.bool _) hK
   have:(!Ac p e a)=false:=by simp[Ac,hf,c1,c2,c3]
   rw[this]at hK;have h':(y.ki==5||y.ki==4)=false:=by simp[c2,c3]
   simp[hr,Qn,c1,c2,c3];rw[h'];exact rdA _ rfl (Idle.bool _) hK
  have:(!Ac p e a)=true:=by simp[Ac,hf,c1]
  rw[this]at hK;have h':(y.fr !=e.fr||y.ki==5||y.ki==4)=true:=by simp[c1]
  simp[hr,Qn,c1];rw[h'];exact rdA _ rfl (Idle.bool _) hK
 have:(!Ac p e a)=true:=by simp[Ac,hf]
 rw[this]at hK;simp[hr];exact rdA _ rfl (Idle.bool _) hK
def jZ{α:Type}(b:α->Bool):List α->Nat->Int
 |[],_=> -1
 |x::r,i=>if b x=true then(i:Int)else jZ b r (i+1)
def x9{α:Type}(b:α->Bool):∀(l:List α)(i:Nat),(0<=jZ b l i<->l.any b=true)
 |[],i=>by simp[jZ]
 |x::r,i=>by
  rw[jZ];cases h:b x with
  |true=>simp[h]
  |false=>simp[h,x9 b r (i+1)]
def atC(s n:Nat)(m0:AM)(R:Nat->Prop)(f:Nat->AV)(m:AM):Prop:=∃(i:Nat),f s=I i/\i<=n/\R i/\m=m0
def Z6(p:Pl)(e:En)(L:List Sp)(hl:L.length<=8796093022208)(kB:List (List Int×AV))(b0:List (List AV))(Y:YT)(K:AV->AM->Prop)(hK:K (I (jZ (fun a=>!Ac p e a) L 0)) (O9 p e kB b0)):
  an Tryz.prog aA Y 345 [.sl .ro (L.map Qf),.fn 315 [] [.ptr (b0.length+4) 0,.ptr (b0.length+5) 0]] (O9 p e kB b0) K:=by
 obtain⟨T,hT⟩:∃T,jZ (fun a=>!Ac p e a) L 0=T:=⟨_,rfl⟩;rw[hT]at hK;refine Xd ae3 (fun _ _ _=>.gd false .junk) zd ?_;simp[ajV];refine Qk vY (atC 8 L.length (O9 p e kB b0) fun i=>jZ (fun a=>!Ac p e a) (L.drop i) i=T) (fun f _=>L.length-(numOf (f 8)).toNat) ?_ ?_
 ·exact⟨0,zd,zE,by simpa using hT,rfl⟩
 rintro f m ⟨i,h8,hi,hx,rfl⟩;rcases zzaa i L.length with ai|bz
 ·obtain⟨a,ha⟩:=aU ai;have ah:=Zf ha;have aa:(i:Int)<(L.length:Int):=zE
  have hw:=bM i zE;rw[Zd ha,jZ]at hx;simp[h8,ai,aa,ah,vY,Fs];refine Z5 p e a kB b0 Y _ ?_;cases hb:Ac p e a with
  |false=>
   rw[hb]at hx;simp at hx;simp[h8,vY,Fs,hx];exact hK
  |true=>
   rw[hb]at hx;simp at hx;simp[h8,vY,Fs,hw];refine⟨aP,⟨i+1,zd,zE,hx,rfl⟩,zE⟩
 have bL:¬(i:Int)<(L.length:Int):=zE
 rw[zzan bz,jZ]at hx;simp[h8,bL,zzbo.2 bz,vY,Fs,hx];exact hK
def L7(p:Pl)(e:En)(L:List Sp)(hl:L.length<=8796093022208)(kB:List (List Int×AV))(b0:List (List AV))(Y:YT)(K:AV->AM->Prop)(hK:K (.bool (L.any fun a=>!Ac p e a)) (O9 p e kB b0)):
  an Tryz.prog aA Y 316 [.sl .ro (L.map Qf),.fn 315 [] [.ptr (b0.length+4) 0,.ptr (b0.length+5) 0]] (O9 p e kB b0) K:=by
 have anN:=x9 (fun a=>!Ac p e a) L 0;refine Xd aeW (fun _ _ _=>.gd false .junk) zd ?_;simp[ajI];refine Z6 p e L hl kB b0 Y _ ?_
 have:decide (0<=jZ (fun a=>!Ac p e a) L 0)=L.any fun a=>!Ac p e a:=by
  rw[zzbv,decide_eq_true_eq];exact anN
 simp[ajJ,this];simpa using hK
def mW(p:Pl)(e:En):Bool:=Kz 1 (p.rg-1) none (e.al.map fun x=>x.1)&&(!(decide (kindOf p e.it=4)&&decide (e.al≠[]))&&!(e.al.any fun a=>!Ac p e a))
def BA(p:Pl)(e:En):Nat->FuncId->List AV->AV:=fun _ f _=>if f=313 then .bool (Kz 1 (p.rg-1) none (e.al.map fun x=>x.1))else .gd false .junk
def anO(p:Pl)(e:En)(hl:e.al.length<=8796093022208)(EL:1<=p.rg/\p.rg<=8)(kB:List (List Int×AV))(bx:List (List AV))(Y:YT)(K:AV->AM->Prop)(hK:∀b,mW p e=b->K (.bool b) (b9 p (mI p.aN) kB bx)):
  an Tryz.prog aA Y 270 [.ptr 3 0,.agg (Qd e)] (b9 p (mI p.aN) kB bx) K:=by
 have G1:=Sf e.al 1 (p.rg-1) hl;refine Wi (Xd aeF (BA p e) zd ?_);obtain⟨r,hr,Sk⟩:=DL p e.it;have pS:IntKind.i64.wrap (p.rg-1)=p.rg-1:=by rw[Qj]<;>omega
 cases h1:Kz 1 (p.rg-1) none (e.al.map fun x=>x.1)with
 |false=>
  rw[h1]at G1;simp[AQ,oN,b9,Qa,Qd,pS,BA,h1];exact⟨G1,p5 _ rfl (Idle.bool _) (hK _ (by simp[mW,h1]))⟩
 |true=>
  rw[h1]at G1;have tl:∀(E:List (Nat×AV)),True:=fun _=>trivial;have hgo:kindOf p e.it=4->e.al≠[]->mW p e=false:=fun h h'=>by simp[mW,h,h']
  have qT:¬(kindOf p e.it=4/\e.al≠[])->mW p e=!(e.al.any fun a=>!Ac p e a):=fun h=>by
   have:(decide (kindOf p e.it=4)&&decide (e.al≠[]))=false:=by
    rw[Bool.eq_false_iff];intro h';simp at h';exact h h'
   rw[mW,h1,this];rfl
  obtain⟨n,y,hf,rfl⟩|⟨hf,rfl⟩:=Sk
  ·have hkd:kindOf p e.it=y.ki:=by simp[kindOf,hf]
   by_cases c1:y.ki=4
   ·by_cases c2:e.al=[]
    ·have RD:=qT (by simp[c2]);have c2l:¬0<e.al.length:=by simp[c2]
     simp[AQ,oN,b9,Qa,Qd,pS,BA,h1,hr,Qn,c1,c2];rw[c2]at G1;refine⟨G1,?_⟩;have:=L7 p e [] zd kB bx Y;simp only[O9,b9,Qa,Qd,c2]at this;refine this _ ?_;simp[oN];exact p5 _ rfl (Idle.bool _) (hK _ (by rw[RD,c2];rfl))
    have c2l:0<e.al.length:=zzcx.2 c2;simp[AQ,oN,b9,Qa,Qd,pS,BA,h1,hr,Qn,c1,c2l];exact⟨G1,p5 _ rfl (Idle.bool _) (hK _ (hgo (by rw[hkd,c1]) c2))⟩
   have RD:=qT (by rw[hkd];exact fun h=>c1 h.1);simp[AQ,oN,b9,Qa,Qd,pS,BA,h1,hr,Qn,c1];refine⟨G1,?_⟩;have:=L7 p e e.al hl kB bx Y;simp only[O9,b9,Qa,Qd]at this;refine this _ ?_;simp[oN];exact p5 _ rfl (Idle.bool _) (hK _ (by rw[RD]))
  have RD:=qT (by simp[kindOf,hf]);simp[AQ,oN,b9,Qa,Qd,pS,BA,h1,hr];refine⟨G1,?_⟩;have:=L7 p e e.al hl kB bx Y;simp only[O9,b9,Qa,Qd]at this;refine this _ ?_;simp[oN];exact p5 _ rfl (Idle.bool _) (hK _ (by rw[RD]))
open Go Go.Abs
def ya(x a:Sp):Bool:=x.1==a.1&&x.2==a.2
def Z7(x:Sp)(L:List Sp):L.any (ya x)=decide (x∈L):=by
 rw[zzbv];simp only[zzbx,decide_eq_true_eq,ya,zzak,beq_iff_eq];constructor
 ·rintro⟨a,h,h1,h2⟩;have:x=a:=Prod.ext h1 h2;rw[this];exact h
 exact fun h=>⟨x,h,rfl,rfl⟩
def Z8(x:Sp)(L:List Sp)(hl:L.length<=8796093022208):Pure Tryz.prog aA 346 [.sl .ro (L.map Qf),.agg (Qf x)] (I (jZ (ya x) L 0)):=by
 obtain⟨T,hT⟩:∃T,jZ (ya x) L 0=T:=⟨_,rfl⟩;rw[hT];refine Qo ae4 (fun _ _ _=>.junk) zd ?_;simp[ajW,Qf];refine Qk CL (atC 8 L.length ⟨[[I x.1,I x.2]],[],fun _=>.gone,0⟩ fun i=>jZ (ya x) (L.drop i) i=T) (fun f _=>L.length-(numOf (f 8)).toNat) ?_ ?_
 ·exact⟨0,zd,zE,by simpa using hT,rfl⟩
 rintro f m ⟨i,h8,hi,hx,rfl⟩;rcases zzaa i L.length with ai|bz
 ·obtain⟨a,ha⟩:=aU ai;have ah:Qh (L.map Qf) i=Qf a:=Zf ha;have akI:Qh (L.map fun x=>[I x.1,I x.2]) i=Qf a:=ah;have aa:(i:Int)<(L.length:Int):=zE
  have hw:=bM i zE;rw[Zd ha,jZ]at hx;cases hb:ya x a with
  |false=>
   rw[hb]at hx;simp at hx;simp only[ya]at hb;simp[h8,ai,aa,ah,akI,CL,Ow,hw,Qf,hb];refine⟨aP,⟨i+1,zd,zE,hx,rfl⟩,zE⟩
  |true=>
   rw[hb]at hx;simp at hx;simp only[ya]at hb;subst hx;simp[h8,ai,aa,ah,akI,CL,Ow,Qf,hb]
 have bL:¬(i:Int)<(L.length:Int):=zE
 rw[zzan bz,jZ]at hx;simp[h8,bL,zzbo.2 bz,CL,Ow,hx]
def G2(x:Sp)(L:List Sp)(hl:L.length<=8796093022208):Pure Tryz.prog aA 317 [.sl .ro (L.map Qf),.agg (Qf x)] (.bool (decide (x∈L))):=by
 have k:=Z8 x L hl;have anN:=x9 (ya x) L 0;refine Qo aeX (fun _ _ _=>I (jZ (ya x) L 0)) zd ?_
 have:decide (0<=jZ (ya x) L 0)=decide (x∈L):=by
  rw[<- Z7,zzbv,decide_eq_true_eq];exact anN
 simp[ajK,ajL,this,Qf];simpa[Qf]using k
def anP(p:Pl)(id:Int):∃r,Xl [id] (mK p.bks) 0=r/\((∃n x,GY id p.bks=some x/\r=some (n,.agg (Xg x)))\/(GY id p.bks=none/\r=none)):=by
 obtain⟨g1,g2⟩:=atB id p.bks 0;cases hf:GY id p.bks with
 |none=>exact⟨_,rfl,.inr ⟨rfl,g1 hf⟩⟩
 |some x=>
  obtain⟨n,g⟩:=g2 x hf;exact⟨_,rfl,.inl ⟨n,x,rfl,g⟩⟩
def Sl(p:Pl)(e:En):Bool:=if e.bo=0 then true else match GY e.bo p.bks with
 |none=>false
 |some x=>if x.re=0 then decide (x.it=e.it)else decide ((x.re,x.it)∈e.al)
def Sm(p:Pl)(e:En)(hl:e.al.length<=8796093022208)(kI:List (List Int×AV))(bx:List (List AV))(Y:YT)(K:AV->AM->Prop)(hK:∀b,Sl p e=b->K (.bool b) (b9 p kI (mK p.bks) bx)):
  an Tryz.prog aA Y 271 [.ptr 3 0,.agg (Qd e)] (b9 p kI (mK p.bks) bx) K:=by
 obtain⟨r,hr,Sk⟩:=anP p e.bo;by_cases h0:e.bo=0
 ·refine Wi (Xd CI (fun _ _ _=>.junk) zd ?_);simp[Om,On,b9,Qa,Qd,h0];exact p5 _ rfl (Idle.bool _) (hK _ (by simp[Sl,h0]))
 obtain⟨n,x,hf,rfl⟩|⟨hf,rfl⟩:=Sk
 ·have k:=G2 (x.re,x.it) e.al hl;refine Wi (Xd CI (fun _ _ _=>.bool (decide ((x.re,x.it)∈e.al))) zd ?_);simp[Om,On,b9,Qa,Qd,h0];refine Ze ?_;by_cases c1:x.re=0
  ·simp[hr,Xg,c1];exact p5 _ rfl (Idle.bool _) (hK _ (by simp only[Sl,h0,hf,c1];rw[zzbv];simp))
  simp[hr,Xg,c1];refine⟨by simpa[Qf]using k,p5 _ rfl (Idle.bool _) (hK _ (by simp[Sl,h0,hf,c1]))⟩
 refine Wi (Xd CI (fun _ _ _=>.junk) zd ?_);simp[Om,On,b9,Qa,Qd,h0];refine Ze ?_;simp[hr];exact p5 _ rfl (Idle.bool _) (hK _ (by simp[Sl,h0,hf]))
def Ae(p:Pl)(seen:List Int)(e:En):Bool:=wi e.id 1 1000000&&(!decide (e.id∈seen)&&(jX p e&&(mW p e&&Sl p e)))
def G3(p:Pl):List Int->List En->Bool
 |_,[]=>true
 |seen,e::r=>Ae p seen e&&G3 p (seen++[e.id]) r
def yb(p:Pl):Bool:=decide (p.ens.length<=4000)&&G3 p [] p.ens
def mS(l:List Int):List (List Int×AV):=l.map fun n=>([n],.bool true)
def atD(k:Int):∀(l:List Int)(i:Nat),(k∈l->∃n,Xl [k] (mS l) i=some (n,.bool true))/\(¬k∈l->Xl [k] (mS l) i=none)
 |[],i=>⟨fun h=>(by cases h),fun _=>rfl⟩
 |x::r,i=>by
  have ih:=atD k r (i+1);simp only[mS,zzay,Xl]at ih |-
  by_cases h:x=k
  ·subst h;simp
  have h':¬k=x:=fun e=>h e.symm;rw[if_neg (by intro e;cases e;exact h rfl)];simp only[zzat,h',false_or];exact ih
def yc:Nat->FuncId->List AV->AV:=fun _ f l=>if f=265 then(match l with|[.int _ n,.int _ lo,.int _ up]=>.bool (wi n lo up)|_=>.junk)else .gd false .junk
def anQ(p:Pl)(f:Nat->AV)(m:AM):Prop:=∃(i:Nat)(bx:List (List AV)),f 20=I i/\i<=p.ens.length/\G3 p ((p.ens.take i).map fun e=>e.id) (p.ens.drop i)=G3 p [] p.ens/\f 3=.mp 4/\m=b9 p (mI p.aN) (mK p.bks) ([.aL 0 (mS ((p.ens.take i).map fun e=>e.id))]::bx)
def Qdl{p:Pl}{i:Nat}{e:En}(h:p.ens[i]?=some e):Qh (p.ens.map Qd) i=Qd e:=Qt (by simp[h])
def Sn(p:Pl)(hl:p.ens.length<=1000000000)(eD:∀e∈p.ens,e.al.length<=8796093022208)(GZ:xZ p.aN=true)(EL:1<=p.rg/\p.rg<=8)(dy:1<=p.ln/\p.ln<=100000000)(Y:YT)(K:AV->AM->Prop)(hK:∀b,yb p=b->K (.bool b) (b9 p (mI p.aN) (mK p.bks) [])):
  an Tryz.prog aA Y 195 [.ptr 3 0] (b9 p (mI p.aN) (mK p.bks) []) K:=by
 refine Wi (Xd adS yc zd ?_);by_cases h0:p.ens.length<=4000
 ·have zL:¬(4000:Int)<(p.ens.length:Int):=zE
  simp[N5,b9,Qa,h0,zL];refine Qk qO (anQ p) (fun f _=>p.ens.length-(numOf (f 20)).toNat) ?_ ?_
  ·exact⟨0,[],zd,zE,zd,zd,by simp[b9,Qa,mS]⟩
  rintro f m ⟨i,bx,h20,hi,ha,h3,rfl⟩;rcases zzaa i p.ens.length with ai|bz
  ·obtain⟨e,he⟩:=aU ai;have ah:=Qdl he;have aa:(i:Int)<(p.ens.length:Int):=zE
   have hw:=bM i zE;have bC:(p.ens.take (i+1)).map (fun e=>e.id)=(p.ens.take i).map (fun e=>e.id)++[e.id]:=by simp[zzas,he]
   rw[Zd he,G3,<- bC]at ha;obtain⟨S,hS⟩:∃S,(p.ens.take i).map (fun e=>e.id)=S:=⟨_,rfl⟩;rw[hS]at ha bC |-
   have h1:=Ue e.id 1 1000000;have hae:=eD e (zzac he);obtain⟨s1,s2⟩:=atD e.id S 0;have bad:Ae p S e=false->yb p=false:=fun h=>by rw[h]at ha;simp[yb,<- ha]
   cases e1:wi e.id 1 1000000 with
   |false=>
    rw[e1]at h1;simp[h20,h3,ai,aa,ah,Qd,b9,Qa,yc,e1,qO,sA];exact⟨h1,p5 _ rfl (Idle.bool _) (hK _ (bad (by simp[Ae,e1])))⟩
   |true=>
    rw[e1]at h1;by_cases e2:e.id∈S
    ·obtain⟨n,s1⟩:=s1 e2;simp[h20,h3,ai,aa,ah,Qd,b9,Qa,yc,e1,s1,qO,sA];exact⟨h1,p5 _ rfl (Idle.bool _) (hK _ (bad (by simp[Ae,e1,e2])))⟩
    have s2:=s2 e2;simp[h20,h3,ai,aa,ah,Qd,b9,Qa,yc,e1,s2,qO];refine⟨h1,anM p e (mK p.bks) ([.aL 0 (mS S)]::(bx++[Qd e])) GZ dy Y _ fun b hb=>?_⟩;cases b with
    |false=>
     simp[sA];exact p5 _ rfl (Idle.bool _) (hK _ (bad (by simp[Ae,e1,e2,hb])))
    |true=>
     simp[b9,Qa,Qd,yc];refine anO p e hae EL (mK p.bks) ([.aL 0 (mS S)]::(bx++[Qd e])) Y _ fun b mQ=>?_;cases b with
     |false=>
      simp[sA];exact p5 _ rfl (Idle.bool _) (hK _ (bad (by simp[Ae,e1,e2,hb,mQ])))
     |true=>
      simp[b9,Qa,Qd,yc];refine Sm p e hae (mI p.aN) ([.aL 0 (mS S)]::(bx++[Qd e])) Y _ fun b hb3=>?_;cases b with
      |false=>
       simp[sA];exact p5 _ rfl (Idle.bool _) (hK _ (bad (by simp[Ae,e1,e2,hb,mQ,hb3])))
      |true=>
       have bZ:Ae p S e=true:=by simp[Ae,e1,e2,hb,mQ,hb3]
       rw[bZ,zzdu]at ha;simp[h20,h3,b9,Qa,Qd,yc,s2,hw,qO];refine⟨aP,⟨i+1,bx++[Qd e],zd,zE,ha,by simp[h3],?_⟩,zE⟩
       ·rw[bC];simp[b9,Qa,Qd,mS]
  have bL:¬(i:Int)<(p.ens.length:Int):=zE
  rw[zzan bz]at ha;have ha:G3 p [] p.ens=true:=by rw[<- ha];rfl
  simp[h20,bL,zzbo.2 bz,qO,sA,b9,Qa];exact p5 _ rfl (Idle.bool _) (hK _ (by simp[yb,h0,ha]))
 have zL:(4000:Int)<(p.ens.length:Int):=zE
 simp[N5,sA,b9,Qa,h0,zL];exact p5 [] zd (Idle.bool _) (hK _ (by simp[yb,h0]))
open Go Go.Abs
def oa(p:Pl):Bool:=Js p&&(UA p&&(jW p&&(yb p&&Qdt p)))
def p8(p:Pl):Nat->FuncId->List AV->AV:=fun _ f _=>if f=192 then .bool (Js p)else if f=196 then .bool (Qdt p)else .gd false .junk
def PlS(p:Pl):Prop:=p.sh.length<=1000000000/\p.aN.length<=1000000000/\p.ens.length<=1000000000/\p.bks.length<=8796093022208/\p.cls.length<=1000000000/\∀e∈p.ens,e.al.length<=8796093022208
def Wz(p:Pl)(h:PlS p):Pure Tryz.prog aA 120 [.agg (Qa p)] (.bool (oa p)):=by
 obtain⟨l1,l2,l3,l4,l5,l6⟩:=h;have k44:=afS p l1;have k48:=Sg p l5;refine Qo ac7 (p8 p) zd ?_;cases e1:Js p with
 |false=>
  rw[e1]at k44;simp[U5,AB,Qa,p8,oa,e1];simpa[Qa]using k44
 |true=>
  rw[e1]at k44
  have hs:(1<=p.rg/\p.rg<=8)/\(1<=p.ln/\p.ln<=100000000):=by
   simp[Js,wi]at e1;omega
  simp[U5,Qa,p8,oa,e1];refine⟨by simpa[Qa]using k44,?_⟩;refine afY p l2 Y0 _ (fun e2=>?_) (fun e2 kI=>?_)
  ·simp[b9,Qa,p8,e2];refine afZ p l4 hs.1 Y0 _ (fun e3=>?_) (fun e3 kB=>?_)
   ·simp[b9,Qa,p8,e3]
    have GZ:xZ p.aN=true:=by
     simp[UA]at e2;exact e2.2.2.1
    refine Sn p l3 l6 GZ hs.1 hs.2 Y0 _ fun b e4=>?_;cases b with
    |false=>simp[AB,b9,Qa,p8,e4]
    |true=>
     simp[AB,b9,Qa,p8,e4];simpa[Qa]using k48
   simp[AB,b9,Qa,p8,e3]
  simp[AB,b9,Qa,p8,e2]
