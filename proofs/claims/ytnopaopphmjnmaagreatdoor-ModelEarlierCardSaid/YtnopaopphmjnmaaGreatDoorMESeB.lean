import Derived.Test.YtnopaopphmjnmaaGreatDoorMEML
set_option linter.all false
set_option maxRecDepth 100000
set_option maxHeartbeats 64000000
namespace Go.Proofs.YtnopaopphmjnmaaGreatDoor
open Go Go.Abs
def aby{lo hi:Int}{a b:List Sp}(h:Tl lo hi b):Tl lo hi (zK a b):=by
 obtain⟨⟨h1,_⟩,h2⟩:=lu a b;intro w hw;have ai:=h1 w hw;obtain⟨s,hs,s1,s2⟩:=((h2 w.1).1 ⟨w,hw,by omega,ai⟩).2;obtain⟨t,ht,t1,t2⟩:=((h2 (w.2-1)).1 ⟨w,hw,by omega,by omega⟩).2;have:=h s hs;have:=h t ht;omega
def Qdg(p:Pl)(id region:Int)(s:Sp):(Vq p id region s).length<=1000000:=by
 unfold Vq;simp only;generalize Rk s=c;cases Xj id p.aM with
 |none=>simp
 |some x=>
  simp only;split
  ·simp
  rename_i hb;simp only[not_or]at hb;split
  ·simp
  split
  ·simp
  have bJ:Tl c.1 c.2 [c]:=by intro w hw;simp at hw;subst hw;omega
  have:=K7 _ c.1 c.2 (lu ((iF p x region (uS p c) (mh p x region (uS p c)).length).map (uL p)) [c]).1 (fun w hw=>by have:=aby bJ w hw;omega);omega
def frB(f:Int):Bool:=decide (0<=f/\f<=100000000)
def Xz(p:Pl)(id region f n:Int):Bool:=
 if n<1\/1000000<n\/frB f=false\/frB (f+n-1)=false then false else(De [(f,f+n)] (Vq p id region (f,f+n))).isEmpty
def BM(p:Pl)(id region f n:Int):Nat->FuncId->List AV->AV:=fun d g l=>
 if g=57 then(match l with|[.int _ n]=>.bool (frB n)|_=>.junk)else
 if g=59 then .sl .ro ((Vq p id region (f,f+n)).map Qe)else
 if g=58 then .bool (De [(f,f+n)] (Vq p id region (f,f+n))).isEmpty else .junk
def Qeq(p:Pl)(id region f n:Int)(hc:p.cls.length<=1000000)(gO:p.sh.length<=1000000000)(cI:p.aM.length<=1000000000):
  Pure Tryz.prog az 30 [.agg (Qc p),I id,I region,I f,I n] (.bool (Xz p id region f n)):=by
 have SM:=tE f;have ag3:=tE (f+n-1);refine Qn akL (BM p id region f n) (by simp) ?_;by_cases b1:n<1
 ·simp[PR,Qc,BM,PT,b1,Xz]
 by_cases b2:1000000<n
 ·simp[PR,Qc,BM,PT,b1,b2,Xz]
 by_cases b3:frB f=true
 ·have b3':0<=f/\f<=100000000:=by simpa[frB]using b3
  have eX:IntKind.i64.wrap (f+n)=f+n:=by rw[Qk]<;>omega
  have dG:IntKind.i64.wrap (f+n-1)=f+n-1:=by rw[Qk]<;>omega
  rw[show decide (0<=f/\f<=100000000)=true from b3]at SM;by_cases b4:frB (f+n-1)=true
  ·rw[show decide (0<=f+n-1/\f+n-1<=100000000)=true from b4]at ag3;have k36:=nU p id region (f,f+n) hc gO cI (by simp only;omega) (by simp only;omega);have k35:=Ig (Vq p id region (f,f+n)) (f,f+n) (by have:=Qdg p id region (f,f+n);omega);simp[PR,Qc,BM,PT,b1,b2,b3,b4,eX,dG,Xz];exact⟨SM,ag3,k36,k35⟩
  have b4':frB (f+n-1)=false:=by simpa using b4
  rw[show decide (0<=f+n-1/\f+n-1<=100000000)=false from b4']at ag3;simp[PR,Qc,BM,PT,b1,b2,b3,b4',eX,dG,Xz];exact⟨SM,ag3⟩
 have b3':frB f=false:=by simpa using b3
 rw[show decide (0<=f/\f<=100000000)=false from b3']at SM;simp[PR,Qc,BM,PT,b1,b2,b3',Xz];exact SM
open Go Go.Abs
def Zf(id:Int):List En->Option En
 |[]=>none
 |x::r=>if x.id=id then some x else Zf id r
def sK:Option En->AV
 |some x=>.aW [.agg (Qd x),.bool true]
 |none=>.aW [.agg [I 0,I 0,I 0,I 0,I 0,I 0,.sl .nil []],.bool false]
def om(e:En):Pure Tryz.prog az 204 [.agg (Qd e)] (I e.id):=by
 refine Qn adl (fun _ _ _=>.junk) (by simp) ?_;simp[ahY,Qd,ahZ]
def MJ(L:List En)(id:Int)(hl:L.length<=1000000000):Pure Tryz.prog az 203 [.sl .ro (L.map Qd),I id,.fn 204 [] []] (sK (Zf id L)):=by
 refine Qn Cc (fun _ f l=>if f=204 then(match l with|[.agg (c::_)]=>c|_=>.junk)else .junk) (by simp) ?_;simp[NC];refine Qj dZ (fun f m=>∃(i:Nat)(bx:List (List AV)),f 13=I i/\i<=L.length/\Zf id (L.drop i)=Zf id L/\m=⟨[I 0,I 0,I 0,I 0,I 0,I 0,.sl .nil []]::bx,[],fun _=>.gone,0⟩) (fun f _=>L.length-(numOf (f 13)).toNat) ?_ ?_
 ·exact⟨0,[],by simp,by omega,rfl,rfl⟩
 rintro f m ⟨i,bx,xu,hi,hf,rfl⟩;rcases zzaa i L.length with ai|bu
 ·obtain⟨x,hx⟩:=aR ai;have ah:Qh (L.map Qd) i=Qd x:=Qs (by simp[hx]);have aa:(i:Int)<(L.length:Int):=by omega
  have hw:=bK i (by omega);have hd:L.drop i=x::L.drop (i+1):=by rw[zzaf ai,(zza.1 hx).2]
  have hk:=om x;rw[hd,Zf]at hf;by_cases aN:x.id=id
  ·rw[if_pos aN]at hf;simp[xu,ai,aa,ah,Qd,aN,dZ,vA,<- hf,sK];simpa[Qd,aN]using hk
  rw[if_neg aN]at hf;simp[xu,ai,aa,ah,Qd,aN,dZ,hw];refine⟨hk,aO,⟨i+1,by simp,by omega,hf⟩,by omega⟩
 rw[zzal bu]at hf;have bJ:¬(i:Int)<(L.length:Int):=by omega
 simp[xu,zzbl.2 bu,bJ,dZ,vA,<- hf,sK,Zf]
open Go Go.Abs
def MK{w:World}{γ:G}{rows:List (List AV)}{v:Value}(h:aB w γ (.sl .ro rows) v):aB w γ (.sl .nil rows) v\/aB w γ (.sl .nn rows) v:=by
 cases h with
 |sl b off sz cv hcap hnil ha hsz hc hr aS=>
  rename_i a cap;by_cases e:a=none
  ·exact .inl (.sl b off sz cv hcap hnil ha hsz hc hr e)
  exact .inr (.sl b off sz cv hcap hnil ha hsz hc hr e)
def Vo{P:Program}{gl:Nat->AV}{f:FuncId}{rows:List (List AV)}{r:AV}(h:Pure P gl f [.sl .nil rows] r)(k:Pure P gl f [.sl .nn rows] r):Pure P gl f [.sl .ro rows] r:=
 ⟨h.1,fun ro w vs lT hr=>by
  match vs,hr with
  |[v],hr=>
   rcases MK (hr.2 0 _ v rfl rfl)with h1|h1
   ·exact h.2 ro w [v] lT ⟨rfl,fun i x y hx hy=>by
     cases i with
     |zero=>cases hx;cases hy;exact h1
     |succ i=>cases hx⟩
   exact k.2 ro w [v] lT ⟨rfl,fun i x y hx hy=>by
    cases i with
    |zero=>cases hx;cases hy;exact h1
    |succ i=>cases hx⟩
  |[],hr=>exact absurd hr.1 (by simp)
  |_::_::_,hr=>exact absurd hr.1 (by simp)⟩
def D4:Pure Tryz.prog az 88 [.sl .nn []] (.sl .ro []):=by
 have:∃rt,Pure Tryz.prog az 88 [.sl .nn []] (.sl rt []):=by
  refine⟨.ro,Qn JE (fun _ _ _=>.junk) (by simp) ?_⟩;simp[ab4,ab5]
 obtain⟨rt,h⟩:=this;exact Xa h (Wk.sl _ _)
def Ja(l:List Sp)(hl:l.length<=8796093022208):Pure Tryz.prog az 88 [.sl .ro (l.map Qe)] (.sl .ro (l.map Qe)):=by
 cases l with
 |nil=>exact Vo (Xa j6 (Wk.sl _ _)) D4
 |cons x r=>
  refine Qn JE (fun _ _ _=>.junk) (by simp) ?_;simp[ab4,ab5];simp at hl;refine⟨⟨rfl,?_⟩,by omega⟩;rintro row a b _ rfl;rfl
def Lg(p:Pl)(id:Int)(hl:p.ens.length<=1000000000)(ha:∀e∈p.ens,e.al.length<=8796093022208):Pure Tryz.prog az 130 [.agg (Qc p),I id] (sK (Zf id p.ens)):=by
 have h59:=MJ p.ens id hl;refine Qn Nh (fun _ f l=>if f=203 then sK (Zf id p.ens)else l.headD .junk) (by simp) ?_;cases hf:Zf id p.ens with
 |none=>
  rw[hf]at h59;simp[Nf,Ng,Qc,sK,hf];exact⟨h59,j6⟩
 |some x=>
  rw[hf]at h59
  have hx:x∈p.ens:=by
   have:∀l:List En,Zf id l=some x->x∈l:=by
    intro l;induction l with
    |nil=>intro h;cases h
    |cons y r ih=>
     intro h;simp only[Zf]at h;split at h
     ·cases h;simp
     simp[ih h]
   exact this _ hf
  have hc:=Ja x.al (ha x hx);simp[Nf,Ng,Qc,sK,Qd,hf];exact⟨h59,hc⟩
open Go Go.Abs
def ML(e:It):Pure Tryz.prog az 56 [.agg (Qm e)] (I e.id):=by
 refine Qn TH (fun _ _ _=>.junk) (by simp) ?_;simp[ak2,Qm,ak3]
def yw(L:List It)(id:Int)(hl:L.length<=1000000000):Pure Tryz.prog az 55 [.sl .ro (L.map Qm),I id,.fn 56 [] []] (Zq (Xj id L)):=by
 refine Qn ak1 (fun _ f l=>if f=56 then(match l with|[.agg (c::_)]=>c|_=>.junk)else .junk) (by simp) ?_;simp[ao9];refine Qj M0 (fun f m=>∃(i:Nat)(bx:List (List AV)),f 13=I i/\i<=L.length/\Xj id (L.drop i)=Xj id L/\m=⟨[I 0,I 0,I 0,I 0,I 0]::bx,[],fun _=>.gone,0⟩) (fun f _=>L.length-(numOf (f 13)).toNat) ?_ ?_
 ·exact⟨0,[],by simp,by omega,rfl,rfl⟩
 rintro f m ⟨i,bx,xu,hi,hf,rfl⟩;rcases zzaa i L.length with ai|bu
 ·obtain⟨x,hx⟩:=aR ai;have ah:Qh (L.map Qm) i=Qm x:=Qs (by simp[hx]);have aa:(i:Int)<(L.length:Int):=by omega
  have hw:=bK i (by omega);have hd:L.drop i=x::L.drop (i+1):=by rw[zzaf ai,(zza.1 hx).2]
  have hk:=ML x;rw[hd,Xj]at hf;by_cases aN:x.id=id
  ·rw[if_pos aN]at hf;simp[xu,ai,aa,ah,Qm,aN,M0,ak0,<- hf,Zq];simpa[Qm,aN]using hk
  rw[if_neg aN]at hf;simp[xu,ai,aa,ah,Qm,aN,M0,hw];refine⟨hk,aO,⟨i+1,by simp,by omega,hf⟩,by omega⟩
 rw[zzal bu]at hf;have bJ:¬(i:Int)<(L.length:Int):=by omega
 simp[xu,zzbl.2 bu,bJ,M0,ak0,<- hf,Zq,Xj]
def S4(p:Pl)(id:Int)(hl:p.aM.length<=1000000000):Pure Tryz.prog az 29 [.agg (Qc p),I id] (Zq (Xj id p.aM)):=by
 have h:=yw p.aM id hl;refine Qn TF (fun _ f l=>if f=55 then Zq (Xj id p.aM)else .junk) (by simp) ?_;cases hf:Xj id p.aM with
 |none=>
  rw[hf]at h;simp[TD,TE,Qc,Zq,hf];exact h
 |some x=>
  rw[hf]at h;simp[TD,TE,Qc,Zq,Qm,hf];exact h
def xC(p:Pl)(f t:Int):Pure Tryz.prog az 131 [.agg (Qc p),I f,I t] (.fn 205 [] [.ep (Qc p) 0,.ep [I f] 0,.ep [I t] 0]):=by
 refine Qn acE (fun _ _ _=>.junk) (by simp) ?_;simp[ahy,ahz,Qc]
open Go Go.Abs
def Uw(b:Nat->Bool):Nat->Int
 |0=>0
 |n+1=>Uw b n+if b n then 2 ^ n else 0
def DD(b:Nat->Bool):∀n,0<=Uw b n/\Uw b n<2 ^ n
 |0=>by simp[Uw]
 |n+1=>by
  have:=DD b n;have h2:(2:Int) ^ (n+1)=2*2 ^ n:=by rw[Int.pow_succ];omega
  rw[Uw,h2];split<;>omega
def Z4:∀i:Nat,i<8->∀x:Nat,x<2 ^ i->IntKind.i64.wrap (((((x:Int)%2 ^ IntKind.i64.bits).toNat|||(IntKind.i64.wrap (2 ^ min i IntKind.i64.bits)%2 ^ IntKind.i64.bits).toNat:Nat)):Int)=(x:Int)+2 ^ i:=by
 decide+kernel
def sJ(Y:YT)(p:Pl)(h:FuncId)(cap:List AV)(b:Nat->Bool)(m:AM)(K:AV->AM->Prop)
  (hg:∀(i:Nat)(mm:AM),i<8->(i:Int)<p.rg->(∃bx,mm=⟨m.boxes++bx,m.lens,m.st,m.ln⟩)->∀K':AV->AM->Prop,K' (.bool (b i)) mm->an Tryz.prog az Y h ([I i]++cap) mm K')
  (hK:∀bx,K (I (Uw b (min p.rg 8).toNat)) ⟨m.boxes++bx,m.lens,m.st,m.ln⟩):an Tryz.prog az Y 206 [.agg (Qc p),.fn h [] cap] m K:=by
 refine Xe adn (fun _ _ _=>.gd false .junk) (by simp) ?_;obtain⟨n,hn⟩:∃n,(min p.rg 8).toNat=n:=⟨_,rfl⟩
 have tO:Qh (m.boxes++[Qc p]) m.boxes.length=Qc p:=by
  simp
 rw[hn]at hK;have Rh:(if 8<p.rg then 8 else p.rg)=min p.rg 8:=by omega
 simp only[Qc]at tO;simp[ah0,Qc,tO];refine Qj JT (fun f mm=>∃(i:Nat)(bx:List (List AV)),f 10=I i/\(i=0\/i<=n)/\mm=⟨m.boxes++bx,m.lens,m.st,m.ln⟩/\f 5=I (Uw b i)) (fun f _=>n-(numOf (f 10)).toNat) ?_ ?_
 ·exact⟨0,_,by simp,.inl rfl,rfl,by simp[Uw]⟩
 rintro f mm ⟨i,bx,gi,hi,rfl,h5⟩;by_cases ai:(i:Int)<min p.rg 8
 ·have bJ:i<n:=by omega
  have hw:=bK i (by omega);have eD:=DD b i;have hg':=hg i ⟨m.boxes++bx,m.lens,m.st,m.ln⟩ (by omega) (by omega) ⟨_,rfl⟩
  have hor:IntKind.i64.wrap ((((Uw b i%2 ^ IntKind.i64.bits).toNat|||(IntKind.i64.wrap (2 ^ min i IntKind.i64.bits)%2 ^ IntKind.i64.bits).toNat:Nat)):Int)=Uw b i+2 ^ i:=by
   obtain⟨x,hx⟩:∃x:Nat,Uw b i=(x:Int):=⟨(Uw b i).toNat,by omega⟩
   have hx2:x<2 ^ i:=by
    have h2:=eD.2;rw[hx]at h2
    exact_mod_cast h2
   rw[hx];exact Z4 i (by omega) x hx2
  have hms:Uw b (i+1)=Uw b i+if b i then 2 ^ i else 0:=rfl;simp[gi,h5,JT,Rh,ai];refine hg' _ ?_;cases hb:b i with
  |true=>
   rw[hb]at hms;simp[hor,hw];refine⟨aO,⟨i+1,by omega,by omega,by rw[hms];rfl⟩,by omega⟩
  |false=>
   rw[hb]at hms;simp[hw];refine⟨aO,⟨i+1,by omega,by omega,by rw[hms];simp⟩,by omega⟩
 have bJ:i=n:=by omega
 subst bJ;simp[gi,h5,JT,Rh,ai,ah1];exact hK _
open Go Go.Abs
def Uy(fr t a:Int):Int:=if 1<=fr then min (t-a) fr else t-a
def Yd(fr t a:Int):List (Int×Int):=if a<t then(a,Uy fr t a)::Yd fr t (a+Uy fr t a)else[]
termination_by(t-a).toNat
decreasing_by simp only[Uy];split<;>omega
def Yj(p:Pl):Int:=match Xj p.fi p.aM with|some x=>x.fr|none=>0
def Ga(p:Pl):Int:=Uw (fun _=>true) (min p.rg 8).toNat
def Qbg(p:Pl)(x:Int×Int):List AV:=[.agg [I 0,I p.fi,I x.1,I x.2,I 0,I (Ga p),.sl .nil []]]
def aur(p:Pl):Nat->FuncId->List AV->AV:=fun _ f _=>if f=29 then Zq (Xj p.fi p.aM)else .gd false .junk
def xB(p:Pl)(f t:Int)(hl:p.aM.length<=1000000000)(hb: -1000000000<=f/\t<=1000000000)(hf:f<=1000000000/\ -1000000000<=t):
  YB Tryz.prog az 205 [] [.ep (Qc p) 0,.ep [I f] 0,.ep [I t] 0] ((Yd (Yj p) t f).map (Qbg p)):=by
 intro Y l m K hF;have k62:=S4 p p.fi hl;refine Xe adm (aur p) (by simp) ?_
 obtain⟨b,row,aus,ah⟩:∃(b:Bool)(y:It),Zq (Xj p.fi p.aM)=.aW [.agg (Qm y),.bool b]/\y.fr=Yj p:=by
  unfold Yj;cases Xj p.fi p.aM with
  |none=>exact⟨false,⟨0,0,0,0,0⟩,rfl,rfl⟩
  |some x=>exact⟨true,x,rfl,rfl⟩
 rw[aus]at k62;simp[UR,Qc,aur,aus,Qm]
 refine⟨k62,sJ Y p 207 [] (fun _=>true) _ _ (fun i mm _ _ _ K' h=>by
  show an _ _ _ _ [I (i:Int)] _ _;refine Xe ado (fun _ _ _=>.junk) (by simp) ?_;simp[ah2,ah3];exact h) fun bx=>?_⟩
 obtain⟨B0,eG⟩:∃B0,m.boxes.length=B0:=⟨_,rfl⟩;have Sm:=hF.ext (m':=⟨m.boxes++[[I row.id,I row.ki,I row.fr,I row.sp,I row.ra]]++bx,m.lens,m.st,m.ln⟩) ⟨by simp,fun j hj _=>by rw[zzax];exact Ql hj,⟨[],by simp⟩,fun _ _=>rfl⟩;simp only[eG];refine Qj Cd (fun g mm=>∃(a:Int)(O:Nat->Prop),g 8=I a/\ -1000000000<=a/\a<=1000000000/\B0<mm.boxes.length/\Qh mm.boxes B0=[I row.id,I row.ki,I row.fr,I row.sp,I row.ra]/\O B0/\jN (Y l) K ((Yd (Yj p) t a).map (Qbg p)) O mm) (fun g _=>(t-numOf (g 8)).toNat) ?_ ?_
 ·refine⟨f,_,by simp,by omega,by omega,by simp[eG],?_,.inr ⟨by omega,by simp;omega⟩,Sm⟩;show Qh (m.boxes++[_]++bx) B0=_;rw[Ql (by simp;omega)];subst eG;simp
 rintro g mm ⟨a,O,h8,a1,a2,hlm,Tj,tY,hFo⟩;by_cases ai:a<t
 ·rw[Yd,if_pos ai]at hFo;simp only[zzay,Qbg]at hFo;have eX:IntKind.i64.wrap (t-a)=t-a:=by rw[Qk]<;>omega
  have I3:Uy (Yj p) t a=if 1<=row.fr then min (t-a) row.fr else t-a:=by rw[Uy,ah]
  have IS:1<=Uy (Yj p) t a/\Uy (Yj p) t a<=t-a:=by rw[I3];split<;>omega
  have dG:IntKind.i64.wrap (a+Uy (Yj p) t a)=a+Uy (Yj p) t a:=by rw[Qk]<;>omega
  have Rh:(if row.fr<t-a then row.fr else t-a)=min (t-a) row.fr:=by omega
  have hM:Uw (fun _=>true) (min p.rg 8).toNat=Ga p:=rfl;generalize hN:Uy (Yj p) t a=N at*
  have key:∀g1,(1<=row.fr->g1=min (t-a) row.fr)->True:=fun _ _=>trivial;have hwN:IntKind.i64.wrap N=N:=by rw[Qk]<;>omega
  by_cases uD:1<=row.fr
  ·rw[if_pos uD]at I3;simp[h8,Cd,ai,Tj,uD,eX,Rh,<- I3,hwN,hM,hlm];refine hFo _ (bO.refl _ _) _ (fun m2 xb qx=>?_) (fun m2 hK=>?_)
   ·have q1:Qh m2.boxes B0=[I row.id,I row.ki,I row.fr,I row.sp,I row.ra]:=by rw[xb.2 B0 (.inl tY)];exact Tj
    have AW:=xb.1;simp[dG];refine⟨aO,⟨by omega,by omega,by omega,q1,_,.inl tY,qx⟩,by omega⟩
   simp[ND];exact hK _ (bO.refl _ _)
  rw[if_neg uD]at I3;simp[h8,Cd,ai,Tj,uD,eX,<- I3,hwN,hM,hlm];refine hFo _ (bO.refl _ _) _ (fun m2 xb qx=>?_) (fun m2 hK=>?_)
  ·have q1:Qh m2.boxes B0=[I row.id,I row.ki,I row.fr,I row.sp,I row.ra]:=by rw[xb.2 B0 (.inl tY)];exact Tj
   have AW:=xb.1;simp[dG];refine⟨aO,⟨by omega,by omega,by omega,q1,_,.inl tY,qx⟩,by omega⟩
  simp[ND];exact hK _ (bO.refl _ _)
 rw[Yd,if_neg ai]at hFo;simp only[zzcg]at hFo;simp[h8,Cd,ai,ND];exact hFo _ (bO.refl _ _)
open Go Go.Abs
def F9(Y:YT)(p:Pl)(e:En)(a r fr:Int)(m:AM)(bp bf be:Nat)(hc:p.cls.length<=1000000)(gO:p.sh.length<=1000000000)(cI:p.aM.length<=1000000000)
  (h1:Qh m.boxes bp=Qc p)(h2:Qh m.boxes bf=[I fr])(h3:Qh m.boxes be=Qd e)(K:AV->AM->Prop)(hK:K (.bool (Xz p a r fr e.fr)) m):
  an Tryz.prog az Y 208 [I a,I r,.ptr bp 0,.ptr bf 0,.ptr be 0] m K:=by
 have k:=Qeq p a r fr e.fr hc gO cI;refine Xe adp (fun _ f _=>if f=30 then .bool (Xz p a r fr e.fr)else .junk) (by simp) ?_;simp only[Qc]at h1;simp only[Qd]at h3;simp[ah4,ah5,h1,h2,h3];exact⟨k,hK⟩
def YN(Y:YT)(p:Pl)(e:En)(r fr:Int)(m:AM)(bp bf be bg:Nat)(hc:p.cls.length<=1000000)(gO:p.sh.length<=1000000000)(cI:p.aM.length<=1000000000)
  (h1:Qh m.boxes bp=Qc p)(h2:Qh m.boxes bf=[I fr])(h3:Qh m.boxes be=Qd e)(h4:Qh m.boxes bg=[.fn 208 [] [.ptr bp 0,.ptr bf 0,.ptr be 0]])(K:AV->AM->Prop)(hK:K (.bool (Xz p e.it r fr e.fr)) m):
  an Tryz.prog az Y 209 [I r,.ptr bg 0,.ptr be 0] m K:=by
 have k:=F9 Y p e e.it r fr m bp bf be hc gO cI h1 h2 h3;refine Xe adq (fun _ _ _=>.gd false .junk) (by simp) ?_;simp only[Qd]at h3;simp[ah6,h4,h3];refine k _ ?_;simp[ah7];exact hK
open Go Go.Abs
def S5(x:Int)(c:Cl):Bool:=decide (c.fr<=x/\x<c.to)
def grX(C:List Cl)(x:Int):Bool:=match C.reverse.find? (S5 x)with
 |some c=>decide (c.ki=1)
 |none=>false
def find_congr{α:Type}{p q:α->Bool}:∀{l:List α},(∀a∈l,p a=q a)->l.find? p=l.find? q
 |[],_=>rfl
 |a::l,h=>by
  have h1:=h a (by simp);have ih:=find_congr (l:=l) fun b hb=>h b (by simp[hb]);rw[zzfe,zzfe,h1,ih]
def Zw{x:Int}:∀{l:List Int}{j:Nat}{v:Int},l.Pairwise (·<·)->l[j]?=some v->(j<rf l x<->v<x)
 |[],j,v,_,h=>by simp at h
 |a::r,j,v,hp,h=>by
  obtain⟨h1,h2⟩:=zzc.1 hp
  have e:rf (a::r) x=rf r x+if a<x then 1 else 0:=by
   unfold rf;rw[zzdw];by_cases ha:a<x<;>simp[ha]
  have hz:¬a<x->rf r x=0:=by
   intro ha;unfold rf;rw[zzcc,zzhc];intro y hy;have:=h1 y hy;simp;omega
  rw[e];cases j with
  |zero=>
   simp at h;subst h;by_cases ha:a<x
   ·simp[ha]
   simp[ha,hz ha]
  |succ j=>
   simp at h;have hav:=h1 v (zzac h);have ih:=Zw (x:=x) h2 h;by_cases ha:a<x
   ·simp only[ha,if_true];omega
   have:=hz ha;simp only[ha,if_false];omega
def Ih(Bd:List Int)(j:Nat)(c:Cl):Bool:=decide (rf Bd c.fr<=j/\j<rf Bd c.to)
def Ii(Bd:List Int)(j:Nat):∀(R:List Cl)(s:GS),(R.foldl (Rf Bd) s)[j]?=(s[j]?).map fun o=>match o with
  |some v=>some v
  |none=>(R.find? (Ih Bd j)).map fun c=>decide (c.ki=1)
 |[],s=>by
  cases h:s[j]? with
  |none=>simp[h]
  |some o=>cases o<;>simp[h]
 |c::R,s=>by
  rw[zzd,Ii Bd j R,Rf,Jd,zzfe];cases h:s[j]? with
  |none=>simp
  |some o=>
   cases o with
   |some v=>simp
   |none=>
    by_cases hc:rf Bd c.fr<=j/\j<rf Bd c.to
    ·simp[Ih,hc]
    simp[Ih,hc]
def Ij(Bd:List Int)(s:GS)(x:Int):∀n,Xr (nN Bd s n) x<->∃j,j<n/\s[j]?=some (some true)/\Bd.getD j 0<=x/\x<Bd.getD (j+1) 0
 |0=>by simp[nN]
 |n+1=>by
  rw[rj,Yx,Ij Bd s x n];unfold CZ;constructor
  ·rintro(⟨j,h1,h2⟩|h)
   ·exact⟨j,by omega,h2⟩
   split at h
   ·rename_i hs;rw[Xd]at h;obtain h|h:=h
    ·exact⟨n,by omega,hs,h⟩
    simp at h
   simp at h
  rintro⟨j,h1,h2,h3⟩;rcases zzaa j n with h|h
  ·exact .inl ⟨j,h,h2,h3⟩
  obtain rfl:j=n:=by omega
  right;rw[if_pos h2,Xd];exact .inl h3
def u6{l:List Int}{j:Nat}{v:Int}(h:l[j]?=some v):l.getD j 0=v:=by
 simp[zzar,h]
def aut(C:List Cl)(hC:∀c∈C,c.fr<c.to)(x:Int):Xr (nN (dH C) (wW C) (dH C).length) x<->grX C x=true:=by
 have nQ:=On C;have cU:∀c∈C,c.fr∈dH C/\c.to∈dH C:=fun c hc=>⟨(uF _ _).2 (pn hc).1,(uF _ _).2 (pn hc).2⟩
 have xe:∀j,j<(dH C).length->(wW C)[j]?=some ((C.reverse.find? (Ih (dH C) j)).map fun c=>decide (c.ki=1)):=by
  intro j hj;rw[wW,Ii];have:(List.replicate (dH C).length (none:Option Bool))[j]?=some none:=by simp[hj]
  rw[this];rfl
 have key:∀(j:Nat)(u w:Int),(dH C)[j]?=some u->(dH C)[j+1]?=some w->u<=x->x<w->∀c∈C.reverse,Ih (dH C) j c=S5 x c:=by
  intro j u w hu hw h1 h2 c hc;have qq:=zzfm.1 hc;have a1:=Zw (x:=c.fr) nQ hu;have a2:=Zw (x:=c.fr) nQ hw;have a3:=Zw (x:=c.to) nQ hu;have a4:=Zw (x:=c.to) nQ hw;obtain⟨m1,m2⟩:=cU c qq
  have gap:∀y∈dH C,y<=u\/w<=y:=by
   intro y hy;obtain⟨k,hk⟩:=zzft hy;rcases zzaa j k with h|h
   ·right;have q1:=Zw (x:=w) nQ hk;have q2:=Zw (x:=w) nQ hw;omega
   left;have q1:=Zw (x:=y) nQ hk;have q2:=Zw (x:=y) nQ hu;omega
  have g1:=gap _ m1;have g2:=gap _ m2;unfold Ih S5;apply decide_eq_decide.2;omega
 have abz:∀(j:Nat)(u w:Int),(dH C)[j]?=some u->(dH C)[j+1]?=some w->u<=x->x<w->((wW C)[j]?=some (some true)<->grX C x=true):=by
  intro j u w hu hw h1 h2;rw[xe j (zza.1 hu).1,find_congr (key j u w hu hw h1 h2),grX];cases C.reverse.find? (S5 x)<;>simp
 rw[Ij];constructor
 ·rintro⟨j,hj,hs,h1,h2⟩;have iM:=hs;rw[xe j hj]at hs;cases hf:C.reverse.find? (Ih (dH C) j)with
  |none=>rw[hf]at hs;simp at hs
  |some c=>
   have hc:=zzfm.1 (zzeb hf);have hi:=zzha hf;simp only[Ih,decide_eq_true_eq]at hi;have hl:=KZ (cU c hc).2;have dU:j+1<(dH C).length:=by omega
   obtain⟨u,hu⟩:∃u,(dH C)[j]?=some u:=⟨_,zzad hj⟩;obtain⟨w,hw⟩:∃w,(dH C)[j+1]?=some w:=⟨_,zzad dU⟩;rw[u6 hu]at h1;rw[u6 hw]at h2;exact(abz j u w hu hw h1 h2).1 iM
 intro hg;have hg':=hg;rw[grX]at hg;cases hf:C.reverse.find? (S5 x)with
 |none=>rw[hf]at hg;simp at hg
 |some c=>
  have hc:=zzfm.1 (zzeb hf);have hi:=zzha hf;simp only[S5,decide_eq_true_eq]at hi;obtain⟨m1,m2⟩:=cU c hc;obtain⟨k1,cQ⟩:=zzft m1;obtain⟨k2,cV⟩:=zzft m2;have a1:=(Zw (x:=x+1) nQ cQ).2 (by omega);have a2:=Zw (x:=x+1) nQ cV;have l2:=(zza.1 cV).1;obtain⟨j,hj⟩:∃j,rf (dH C) (x+1)=j+1:=⟨rf (dH C) (x+1)-1,by omega⟩;have dU:j+1<(dH C).length:=by omega
  obtain⟨u,hu⟩:∃u,(dH C)[j]?=some u:=⟨_,zzad (by omega)⟩;obtain⟨w,hw⟩:∃w,(dH C)[j+1]?=some w:=⟨_,zzad dU⟩;have b1:=Zw (x:=x+1) nQ hu;have b2:=Zw (x:=x+1) nQ hw;exact⟨j,by omega,(abz j u w hu hw (by omega) (by omega)).2 hg',by rw[u6 hu];omega,by rw[u6 hw];omega⟩
def ag4{cs:List Cl}{item region:Int}:∀c∈Wl cs item region,c.fr<c.to:=by
 intro c hc;simp only[Wl,zzcp,FN,Xl,Um,zzak,decide_eq_true_eq]at hc;obtain⟨_,h1,_,_,h2⟩:=hc;rw[if_pos h1]at h2;simp at h2;omega
def MM(cs:List Cl)(item region x:Int):Xr (Qct cs item region) x<->grX (Wl cs item region) x=true:=by
 rw[Qct,(Va _).2,aut _ ag4]
def NE(L:List Sp):Prop:=∀s∈L,s.1<s.2
def ag5{L:List Sp}{f t:Int}(h:NE L):NE (nS L f t)/\∀x,Xr (nS L f t) x<->Xr L x\/(f<=x/\x<t):=by
 unfold nS;split
 ·rename_i IK;cases hl:L.getLast? with
  |none=>
   have:L=[]:=by simpa using hl
   subst this;refine⟨by intro s hs;simp at hs;subst hs;exact IK,fun x=>by simp⟩
  |some s=>
   obtain⟨D,rfl⟩:∃D,L=D++[s]:=by
    have aK:L≠[]:=by rintro rfl;simp at hl
    refine⟨L.dropLast,?_⟩;have h1:=zzeu aK;rw[List.getLast?_eq_some_getLast aK]at hl;cases hl;exact h1.symm
   have hs:=h s (by simp);simp only;split
   ·rename_i e;simp only[zzfu];refine⟨?_,fun x=>?_⟩
    ·intro u hu;rw[zzao]at hu;obtain hu|hu:=hu
     ·exact h u (by simp[hu])
     simp at hu;subst hu;simp only;omega
    simp only[Yx,Xd,Yv,or_false,or_assoc];constructor
    ·rintro(h|h)
     ·exact .inl h
     by_cases x<s.2
     ·exact .inr (.inl (by omega))
     exact .inr (.inr (by omega))
    rintro(h|h|h)
    ·exact .inl h
    ·exact .inr (by omega)
    exact .inr (by omega)
   refine⟨?_,fun x=>by simp[or_assoc]⟩;intro u hu;rw[zzao]at hu;obtain hu|hu:=hu
   ·exact h u hu
   simp at hu;subst hu;exact IK
 refine⟨h,fun x=>?_⟩;constructor
 ·exact .inl
 rintro(h|h)
 ·exact h
 omega
def inW(W:List Sp)(n:Int):Prop:=∃w∈W,w.1<=n/\n<w.2
def PD(sf st mid:Int):∀{W L:List Sp},NE L->NE (pE sf st mid W L)/\∀x,Xr (pE sf st mid W L) x<->Xr L x\/(sf<=x/\x<st/\inW W (x-mid))
 |[],L,h=>⟨h,fun x=>by simp[pE,inW]⟩
 |w::W,L,h=>by
  obtain⟨a1,a2⟩:=ag5 (f:=max sf (mid+w.1)) (t:=min st (mid+w.2)) h;obtain⟨b1,b2⟩:=PD sf st mid (W:=W) a1;refine⟨b1,fun x=>?_⟩;rw[pE,b2,a2];simp only[inW,zzaw,exists_eq_or_imp];constructor
  ·rintro((h|h)|⟨h1,h2,h3⟩)
   ·exact .inl h
   ·exact .inr ⟨by omega,by omega,.inl (by omega)⟩
   exact .inr ⟨h1,h2,.inr h3⟩
  rintro(h|⟨h1,h2,h3|h3⟩)
  ·exact .inl (.inl h)
  ·exact .inl (.inr (by omega))
  exact .inr ⟨h1,h2,h3⟩
def ag6(W:List Sp):Prop:=∀w∈W,0<=w.1/\w.2<=86400
def ag7{W:List Sp}(hW:ag6 W)(sf st o:Int):∀(n:Nat)(d:Int){L:List Sp},(st-(d*86400-o)).toNat<=n->NE L->NE (nT W sf st (d*86400-o) L)/\
  ∀x,Xr (nT W sf st (d*86400-o) L) x<->Xr L x\/(sf<=x/\x<st/\d<=(x+o)/86400/\inW W ((x+o)%86400)):=by
 intro n;induction n with
 |zero=>
  intro d L h hL;rw[nT,if_neg (by omega)];refine⟨hL,fun x=>⟨.inl,?_⟩⟩;rintro(h|⟨h1,h2,h3,h4⟩)
  ·exact h
  omega
 |succ n ih=>
  intro d L h hL;rw[nT];split
  ·rename_i hm;obtain⟨a1,a2⟩:=PD sf st (d*86400-o) (W:=W) hL;have e:d*86400-o+86400=(d+1)*86400-o:=by omega
   rw[e];obtain⟨b1,b2⟩:=ih (d+1) (by omega) a1;refine⟨b1,fun x=>?_⟩;rw[b2,a2];constructor
   ·rintro((h|⟨h1,h2,w,hw,h3,h4⟩)|⟨h1,h2,h3,h4⟩)
    ·exact .inl h
    ·have:=hW w hw;have hd:(x+o)/86400=d:=by omega
     exact .inr ⟨h1,h2,by omega,w,hw,by omega,by omega⟩
    exact .inr ⟨h1,h2,by omega,h4⟩
   rintro(h|⟨h1,h2,h3,h4⟩)
   ·exact .inl (.inl h)
   by_cases hd:(x+o)/86400=d
   ·obtain⟨w,hw,h5,h6⟩:=h4;exact .inl (.inr ⟨h1,h2,w,hw,by omega,by omega⟩)
   exact .inr ⟨h1,h2,by omega,h4⟩
  rename_i hm;refine⟨hL,fun x=>⟨.inl,?_⟩⟩;rintro(h|⟨h1,h2,h3,h4⟩)
  ·exact h
  omega
def an5{s:Sp}{W:List Sp}(hW:ag6 W)(y:Int×Int×Int){L:List Sp}(hL:NE L):NE (stL s W y L)/\
  ∀x,Xr (stL s W y L) x<->Xr L x\/(y.1<=x/\x<y.2.1/\s.1<=x/\x<s.2/\inW W ((x+y.2.2)%86400)):=by
 unfold stL;split
 ·refine⟨hL,fun x=>⟨.inl,?_⟩⟩;rintro(h|⟨h1,h2,h3,h4,_⟩)
  ·exact h
  omega
 obtain⟨a1,a2⟩:=ag7 hW (max y.1 s.1) (min y.2.1 s.2) y.2.2 _ ((max y.1 s.1+y.2.2)/86400) (zzab _) hL;refine⟨a1,fun x=>?_⟩;rw[a2];constructor
 ·rintro(h|⟨h1,h2,h3,h4⟩)
  ·exact .inl h
  exact .inr ⟨by omega,by omega,by omega,by omega,h4⟩
 rintro(h|⟨h1,h2,h3,h4,h5⟩)
 ·exact .inl h
 exact .inr ⟨by omega,by omega,by omega,h5⟩
def PE{s:Sp}{W:List Sp}(hW:ag6 W):∀{xs:List (Int×Int×Int)}{L:List Sp},xs.Pairwise (fun a b=>a.1<=b.1)->NE L->∀x,Xr (tZ s W xs L) x<->Xr L x\/(s.1<=x/\x<s.2/\∃y∈xs,y.1<=x/\x<y.2.1/\inW W ((x+y.2.2)%86400))
 |[],L,_,hL,x=>by simp[tZ]
 |y::r,L,hp,hL,x=>by
  obtain⟨p1,p2⟩:=zzc.1 hp;rw[tZ];split
  ·rename_i hb;constructor
   ·exact .inl
   rintro(h|⟨h1,h2,z,hz,h3,h4,_⟩)
   ·exact h
   rcases zzaw.1 hz with rfl|hz
   ·omega
   have:=p1 z hz;omega
  obtain⟨a1,a2⟩:=an5 (s:=s) hW y hL;rw[PE hW p2 a1,a2];simp only[zzaw,exists_eq_or_imp];constructor
  ·rintro((h|⟨h1,h2,h3,h4,h5⟩)|⟨h1,h2,h3⟩)
   ·exact .inl h
   ·exact .inr ⟨h3,h4,.inl ⟨h1,h2,h5⟩⟩
   exact .inr ⟨h1,h2,.inr h3⟩
  rintro(h|⟨h1,h2,⟨h3,h4,h5⟩|h3⟩)
  ·exact .inl (.inl h)
  ·exact .inl (.inr ⟨h3,h4,h1,h2,h5⟩)
  exact .inr ⟨h1,h2,h3⟩
def yM(of:Int)(sh:List Sp)(x:Int):Int:=sh.foldl (fun n s=>if s.1<=x then s.2 else n) of
def Ik:∀{sh:List Sp}{last:Int},ua last sh=true->sh.Pairwise (fun a b=>a.1<b.1)/\∀s∈sh,last<s.1/\s.1<=10000000000/\gX s.2=true
 |[],_,_=>⟨.nil,fun _ h=>by cases h⟩
 |a::r,last,h=>by
  rw[ua]at h;split at h
  ·cases h
  rename_i hn;simp only[not_or,zzgj]at hn;obtain⟨h1,h2⟩:=Ik h;refine⟨zzc.2 ⟨fun b hb=>(h2 b hb).1,h1⟩,?_⟩;intro s hs;rcases zzaw.1 hs with rfl|hs
  ·exact⟨by omega,by omega,hn.2.2⟩
  have:=h2 s hs;exact⟨by omega,this.2⟩
def BN{x:Int}:∀{sh:List Sp}(o:Int),(∀s∈sh,x<s.1)->yM o sh x=o
 |[],o,_=>rfl
 |a::r,o,h=>by
  have:=h a (by simp);rw[yM,zzd,if_neg (by omega)];exact BN o fun s hs=>h s (by simp[hs])
def Il{P:Int->Prop}:∀{sh:List Sp}{f o:Int},(∀s∈sh,f<=s.1/\s.1<=10000000000)->sh.Pairwise (fun a b=>a.1<b.1)->f<=10000000000->∀x,(∃y∈uH f o sh,y.1<=x/\x<y.2.1/\P y.2.2)<->f<=x/\x<=10000000000/\P (yM o sh x)
 |[],f,o,_,_,hf,x=>by
  simp only[uH,zzbg,exists_eq_left,yM,List.foldl_nil];constructor
  ·rintro⟨h1,h2,h3⟩;exact⟨h1,by omega,h3⟩
  rintro⟨h1,h2,h3⟩;exact⟨h1,by omega,h3⟩
 |s::r,f,o,hb,hp,hf,x=>by
  obtain⟨p1,p2⟩:=zzc.1 hp;have hs:=hb s (by simp);have ih:=Il (P:=P) (o:=s.2) (f:=s.1) (sh:=r) (fun t ht=>⟨by have:=p1 t ht;omega,(hb t (by simp[ht])).2⟩) p2 hs.2 x
  have e:(∃y∈uH f o (s::r),y.1<=x/\x<y.2.1/\P y.2.2)<->(f<=x/\x<s.1/\P o)\/∃y∈uH s.1 s.2 r,y.1<=x/\x<y.2.1/\P y.2.2:=by
   rw[uH];simp only[zzao,or_and_right,exists_or];refine or_congr ?_ Iff.rfl;split
   ·simp
   simp;intro h1 h2;omega
  have eo:yM o (s::r) x=yM (if s.1<=x then s.2 else o) r x:=rfl;rw[e,ih,eo];by_cases hx:s.1<=x
  ·rw[if_pos hx];constructor
   ·rintro(⟨h1,h2,h3⟩|⟨h1,h2,h3⟩)
    ·omega
    exact⟨by omega,h2,h3⟩
   rintro⟨h1,h2,h3⟩;exact .inr ⟨hx,h2,h3⟩
  rw[if_neg hx];have hn:=BN (x:=x) (sh:=r) o fun t ht=>by have:=p1 t ht;omega
  rw[hn];constructor
  ·rintro(⟨h1,h2,h3⟩|⟨h1,h2,h3⟩)
   ·exact⟨h1,by omega,h3⟩
   omega
  rintro⟨h1,h2,h3⟩;exact .inl ⟨h1,by omega,h3⟩
def Im:∀{sh:List Sp}{f o:Int},(∀s∈sh,f<=s.1)->sh.Pairwise (fun a b=>a.1<b.1)->(uH f o sh).Pairwise (fun a b=>a.1<=b.1)/\∀y∈uH f o sh,f<=y.1
 |[],f,o,_,_=>by simp[uH]
 |s::r,f,o,hb,hp=>by
  obtain⟨p1,p2⟩:=zzc.1 hp;have hs:=hb s (by simp);obtain⟨i1,i2⟩:=Im (f:=s.1) (o:=s.2) (sh:=r) (fun t ht=>by have:=p1 t ht;omega) p2;rw[uH];refine⟨?_,?_⟩
  ·rw[zzdh];refine⟨by split<;>simp,i1,?_⟩;intro a ha b cL;have:=i2 b cL;split at ha
   ·simp at ha;subst ha;simp only;omega
   simp at ha
  intro y hy;rw[zzao]at hy;obtain hy|hy:=hy
  ·split at hy
   ·simp at hy;subst hy;exact zzbv _
   simp at hy
  have:=i2 y hy;omega
def PF(of:Int)(sh:List Sp)(x fr to:Int):Prop:=0<=x/\x<=10000000000/\inW (zH fr to) ((x+yM of sh x)%86400)
def abA{of:Int}{sh:List Sp}{s:Sp}{fr to:Int}(h:xw of sh s fr to=true)(x:Int):Xr (iE of sh s fr to) x<->s.1<=x/\x<s.2/\PF of sh x fr to:=by
 rw[iE,if_pos h];simp only[xw,Yg,zI,zzak,decide_eq_true_eq]at h;obtain⟨⟨⟨⟨⟨_,_⟩,ha⟩,h1⟩,h2⟩,_⟩:=h;obtain⟨a1,a2⟩:=Ik ha;have hW:ag6 (zH fr to):=fun w hw=>by have:=(uJ h1 h2).2 w hw;omega
 rw[PE hW (Im (fun t ht=>by have:=a2 t ht;omega) a1).1 (fun _ h=>by cases h)];rw[Il (P:=fun o=>inW (zH fr to) ((x+o)%86400)) (fun t ht=>by have:=a2 t ht;omega) a1 (by omega)];simp only[Yv,false_or,PF]
open Go Go.Abs
def PG(p:Pl)(it:It)(region x:Int):Prop:=it.ki=5\/(Kj p=true/\grX (Wl p.cls it.id region) (p.ep+Yr p.nu p.de x)=true/\∀w∈uK p.cls it.ra,PF p.of p.sh (p.ep+Yr p.nu p.de x) w.1 w.2)
def gZ(p:Pl)(id region x:Int):Prop:=∃it,Xj id p.aM=some it/\(0<=region/\region<8)/\(0<=x/\x<=100000000)/\PG p it region x
def Io:∀(Xs:List (List Sp))(a:List Sp)(y:Int),Xr (Xs.foldl zK a) y<->Xr a y/\∀l∈Xs,Xr l y
 |[],a,y=>by simp
 |l::Xs,a,y=>by
  rw[zzd,Io Xs,(lu a l).2];simp only[zzaw,forall_eq_or_imp,and_assoc]
def D5{nu de s f:Int}(hv:Vf nu de=true)(hs:0<=s/\s<=10000000000)(hf:0<=f/\f<=100000000):xA nu de s<=f<->s<=Yr nu de f:=by
 obtain⟨b1,b2,b3,b4,b5⟩:=Jy hv;rw[xA,if_pos ⟨hv,hs.1,hs.2⟩,Yr,if_pos ⟨hv,hf.1,hf.2⟩];have q0:0<=s*nu:=zzec hs.1 (by omega);have q1:0<=f*de:=zzec hf.1 (by omega);rw[zzcm (by omega),zzcm q1]
 have e1:(s*nu+de-1)/de<=f<->s*nu<=f*de:=by
  rw[<- Int.lt_add_one_iff,Int.ediv_lt_iff_lt_mul (by omega)];have:(f+1)*de=f*de+de:=by rw[Int.add_mul];omega
  omega
 rw[e1,Int.le_ediv_iff_mul_le (by omega)]
def MN{p:Pl}{U:List Sp}(hv:Vf p.nu p.de=true)(hU:∀w∈U,(0<=w.1-p.ep/\w.1-p.ep<=10000000000)/\(0<=w.2-p.ep/\w.2-p.ep<=10000000000)){f:Int}(hf:0<=f/\f<=100000000):
  Xr (U.map (uL p)) f<->Xr U (p.ep+Yr p.nu p.de f):=by
 unfold Xr;simp only[zzbc];constructor
 ·rintro⟨_,⟨w,hw,rfl⟩,h1,h2⟩;obtain⟨u1,u2⟩:=hU w hw;have a1:=D5 hv u1 hf;have a2:=D5 hv u2 hf;simp only[uL]at h1 h2;exact⟨w,hw,by omega,by omega⟩
 rintro⟨w,hw,h1,h2⟩;obtain⟨u1,u2⟩:=hU w hw;have a1:=D5 hv u1 hf;have a2:=D5 hv u2 hf;exact⟨_,⟨w,hw,rfl⟩,by simp only[uL];omega,by simp only[uL];omega⟩
def abB{cs:List Cl}{ra:Int}:∀w∈uK cs ra,zI w.1=true/\zI w.2=true:=by
 intro w hw;simp only[uK,zzbc,zzcp,Ip,zzak,decide_eq_true_eq,Xl]at hw;obtain⟨c,⟨_,h1,_,_,h2⟩,rfl⟩:=hw;rw[Um]at h2;simp only[h1]at h2;simp[Ya,wi]at h2;simp only[zI,decide_eq_true_eq];omega
def ag8(s:Sp):0<=(Rk s).1/\(Rk s).2<=100000001/\∀x,((Rk s).1<=x/\x<(Rk s).2)<->(s.1<=x/\x<s.2/\0<=x/\x<=100000000):=by
 simp only[Rk];refine⟨by omega,by omega,fun x=>?_⟩;omega
def lE(p:Pl)(id region:Int)(s:Sp)(hs:s.2-s.1<=1000000)(x:Int):Xr (Vq p id region s) x<->s.1<=x/\x<s.2/\gZ p id region x:=by
 obtain⟨c0,c1,cx⟩:=ag8 s;have cl:(Rk s).2-(Rk s).1<=1000000:=by simp only[Rk];omega
 unfold Vq gZ;generalize Rk s=c at*
 cases hf:Xj id p.aM with
 |none=>simp
 |some it=>
  simp only[Option.some.injEq,exists_eq_left'];split
  ·rename_i hb;simp only[Yv,false_iff];rintro⟨h1,h2,h3,h4,_⟩;have:=(cx x).2 ⟨h1,h2,h4⟩;omega
  rename_i hb;simp only[not_or]at hb;split
  ·rename_i hk;simp only[Xd,Yv,or_false,PG,hk,true_or,and_true];rw[cx x];constructor
   ·rintro⟨h1,h2,h3,h4⟩;exact⟨h1,h2,by omega,h3,h4⟩
   rintro⟨h1,h2,h3,h4⟩;exact⟨h1,h2,h4⟩
  rename_i hk;split
  ·rename_i ht;simp[PG,hk,ht]
  rename_i ht;have YM:Kj p=true:=by simpa using ht
  have hte:Vf p.nu p.de=true/\Yg p.of p.sh=true/\0<=p.ep/\p.ep<=9000000000:=by
   simp only[Kj,zzak,decide_eq_true_eq]at YM;exact⟨YM.1.1,YM.1.2,YM.2⟩
  obtain⟨hv,hz,he⟩:=hte;rw[(lu _ _).2];obtain⟨u,hu⟩:∃u,uS p c=u:=⟨_,rfl⟩;have hu1:u.1=p.ep+Yr p.nu p.de c.1:=by rw[<- hu];rfl
  have J8:u.2=p.ep+Yr p.nu p.de (c.2-1)+1:=by rw[<- hu];rfl
  rw[hu];have hd:=lz (f:=c.1) (g:=c.2-1) hv (by omega) (by omega) (by omega);have hs1:=pF p.nu p.de c.1;have KO:=pF p.nu p.de (c.2-1)
  have N3:0<=Yr p.nu p.de c.1:=by
   rw[Yr,if_pos ⟨hv,by omega,by omega⟩];exact Int.tdiv_nonneg (zzec (by omega) (by have:=Jy hv;omega)) (by have:=Jy hv;omega)
  have dA:iF p it region u (mh p it region u).length=(mh p it region u).foldl zK [u]:=by simp[iF]
  have bJ:Tl u.1 u.2 (iF p it region u (mh p it region u).length):=by
   rw[dA];exact C7 _ _ (by intro w hw;simp at hw;subst hw;omega)
  by_cases hx:c.1<=x/\x<c.2
  ·have jf:=(cx x).1 hx;have m1:=lz (f:=c.1) (g:=x) hv (by omega) (by omega) (by omega);have m2:=lz (f:=x) (g:=c.2-1) hv (by omega) (by omega) (by omega);rw[MN hv (fun w hw=>by have:=bJ w hw;omega) ⟨by omega,by omega⟩,dA,Io];simp only[Xd,Yv,or_false,PG,hk,false_or,YM,true_and]
   have hl:(∀l∈mh p it region u,Xr l (p.ep+Yr p.nu p.de x))<->(grX (Wl p.cls it.id region) (p.ep+Yr p.nu p.de x)=true/\∀w∈uK p.cls it.ra,PF p.of p.sh (p.ep+Yr p.nu p.de x) w.1 w.2):=by
    unfold mh;simp only[zzaw,forall_eq_or_imp,zzbc,forall_exists_index,and_imp,forall_apply_eq_imp_iff₂];rw[MM];refine and_congr Iff.rfl (forall_congr' fun w=>forall_congr' fun hw=>?_);obtain⟨d1,d2⟩:=abB w hw;rw[abA (by simp only[xw,hz,d1,d2,zzgg,zzdq,decide_eq_true_eq];omega)];constructor
    ·rintro⟨_,_,h⟩;exact h
    intro h;exact⟨by omega,by omega,h⟩
   rw[hl];constructor
   ·rintro⟨⟨_,h⟩,_⟩;exact⟨jf.1,jf.2.1,by omega,jf.2.2,h⟩
   rintro⟨_,_,_,_,h⟩;exact⟨⟨by omega,h⟩,hx⟩
  simp only[Xd,Yv,or_false];constructor
  ·rintro⟨_,h⟩;exact absurd h hx
  rintro⟨h1,h2,_,h4,_⟩;exact absurd ((cx x).2 ⟨h1,h2,h4⟩) hx
def LJ(p:Pl)(id region f n:Int):Xz p id region f n=true<->(1<=n/\n<=1000000/\0<=f/\f+n-1<=100000000)/\∀x,f<=x->x<f+n->gZ p id region x:=by
 unfold Xz;split
 ·rename_i hb;simp only[zzbq,false_iff];rintro⟨⟨h1,h2,h3,h4⟩,_⟩;obtain h|h|h|h:=hb
  ·omega
  ·omega
  ·simp[frB]at h;omega
  simp[frB]at h;omega
 rename_i hb;simp only[not_or,zzgj,frB,decide_eq_true_eq]at hb;obtain⟨b1,b2,b3,b4⟩:=hb;rw[List.isEmpty_iff,MO (by simp only;omega)];constructor
 ·intro h;refine⟨by omega,fun x h1 h2=>?_⟩;exact((lE p id region (f,f+n) (by simp only;omega) x).1 (h x h1 h2)).2.2
 rintro⟨_,h⟩ x h1 h2;exact(lE p id region (f,f+n) (by simp only;omega) x).2 ⟨h1,h2,h x h1 h2⟩
end Go.Proofs.YtnopaopphmjnmaaGreatDoor
