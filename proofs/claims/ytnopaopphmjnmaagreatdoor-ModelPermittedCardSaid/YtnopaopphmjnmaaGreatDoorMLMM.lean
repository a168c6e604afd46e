import Derived.Test.YtnopaopphmjnmaaGreatDoorMLML
set_option linter.all false
set_option maxRecDepth 100000
set_option maxHeartbeats 64000000
namespace Go.Proofs.YtnopaopphmjnmaaGreatDoor
open Go Go.Abs
def YP{lo hi:Int}{a b:List Sp}(h:Tq lo hi b):Tq lo hi (zH a b):=by
 obtain⟨⟨h1,_⟩,h2⟩:=kZ a b;intro w hw;have ai:=h1 w hw;obtain⟨s,hs,s1,s2⟩:=((h2 w.1).1 ⟨w,hw,by omega,ai⟩).2;obtain⟨t,ht,t1,t2⟩:=((h2 (w.2-1)).1 ⟨w,hw,by omega,by omega⟩).2;have:=h s hs;have:=h t ht;omega
def Qcu(p:Pl)(id region:Int)(s:Sp):(Vo p id region s).length<=1000000:=by
 unfold Vo;simp only;generalize Rb s=c;cases Xh id p.aL with
 |none=>simp
 |some x=>
  simp only;split
  ·simp
  rename_i hb;simp only[not_or]at hb;split
  ·simp
  split
  ·simp
  have bI:Tq c.1 c.2 [c]:=by intro w hw;simp at hw;subst hw;omega
  have:=KU _ c.1 c.2 (kZ ((iC p x region (uS p c) (lW p x region (uS p c)).length).map (uE p)) [c]).1 (fun w hw=>by have:=YP bI w hw;omega);omega
def YQ(f:Int):Bool:=decide (0<=f/\f<=100000000)
def Xo(p:Pl)(id region f n:Int):Bool:=
 if n<1\/1000000<n\/YQ f=false\/YQ (f+n-1)=false then false else(C7 [(f,f+n)] (Vo p id region (f,f+n))).isEmpty
def A6(p:Pl)(id region f n:Int):Nat->FuncId->List AV->AV:=fun d g l=>
 if g=57 then(match l with|[.int _ n]=>.bool (YQ n)|_=>.junk)else
 if g=59 then .sl .ro ((Vo p id region (f,f+n)).map Qe)else
 if g=58 then .bool (C7 [(f,f+n)] (Vo p id region (f,f+n))).isEmpty else .junk
def Qbe(p:Pl)(id region f n:Int)(hc:p.cls.length<=1000000)(gK:p.sh.length<=1000000000)(cm:p.aL.length<=1000000000):
  Pure Tryz.prog az 30 [.agg (Qb p),I id,I region,I f,I n] (.bool (Xo p id region f n)):=by
 have Rf:=sJ f;have afb:=sJ (f+n-1);refine Qn akL (A6 p id region f n) (by simp) ?_;by_cases b1:n<1
 ·simp[PC,Qb,A6,PD,b1,Xo]
 by_cases b2:1000000<n
 ·simp[PC,Qb,A6,PD,b1,b2,Xo]
 by_cases b3:YQ f=true
 ·have b3':0<=f/\f<=100000000:=by simpa[YQ]using b3
  have fC:IntKind.i64.wrap (f+n)=f+n:=by rw[Qk]<;>omega
  have ee:IntKind.i64.wrap (f+n-1)=f+n-1:=by rw[Qk]<;>omega
  rw[show decide (0<=f/\f<=100000000)=true from b3]at Rf;by_cases b4:YQ (f+n-1)=true
  ·rw[show decide (0<=f+n-1/\f+n-1<=100000000)=true from b4]at afb;have k36:=nO p id region (f,f+n) hc gK cm (by simp only;omega) (by simp only;omega);have k35:=FZ (Vo p id region (f,f+n)) (f,f+n) (by have:=Qcu p id region (f,f+n);omega);simp[PC,Qb,A6,PD,b1,b2,b3,b4,fC,ee,Xo];exact⟨Rf,afb,k36,k35⟩
  have b4':YQ (f+n-1)=false:=by simpa using b4
  rw[show decide (0<=f+n-1/\f+n-1<=100000000)=false from b4']at afb;simp[PC,Qb,A6,PD,b1,b2,b3,b4',fC,ee,Xo];exact⟨Rf,afb⟩
 have b3':YQ f=false:=by simpa using b3
 rw[show decide (0<=f/\f<=100000000)=false from b3']at Rf;simp[PC,Qb,A6,PD,b1,b2,b3',Xo];exact Rf
open Go Go.Abs
def Ze(id:Int):List En->Option En
 |[]=>none
 |x::r=>if x.id=id then some x else Ze id r
def Wz:Option En->AV
 |some x=>.aW [.agg (Qd x),.bool true]
 |none=>.aW [.agg [I 0,I 0,I 0,I 0,I 0,I 0,.sl .nil []],.bool false]
def nP(e:En):Pure Tryz.prog az 204 [.agg (Qd e)] (I e.id):=by
 refine Qn adj (fun _ _ _=>.junk) (by simp) ?_;simp[ah0,Qd,ah1]
def KZ(L:List En)(id:Int)(hl:L.length<=1000000000):Pure Tryz.prog az 203 [.sl .ro (L.map Qd),I id,.fn 204 [] []] (Wz (Ze id L)):=by
 refine Qn B9 (fun _ f l=>if f=204 then(match l with|[.agg (c::_)]=>c|_=>.junk)else .junk) (by simp) ?_;simp[Np];refine Qi dU (fun f m=>∃(i:Nat)(bx:List (List AV)),f 13=I i/\i<=L.length/\Ze id (L.drop i)=Ze id L/\m=⟨[I 0,I 0,I 0,I 0,I 0,I 0,.sl .nil []]::bx,[],fun _=>.gone,0⟩) (fun f _=>L.length-(numOf (f 13)).toNat) ?_ ?_
 ·exact⟨0,[],by simp,by omega,rfl,rfl⟩
 rintro f m ⟨i,bx,rq,hi,hf,rfl⟩;rcases zzaa i L.length with ai|bu
 ·obtain⟨x,hx⟩:=aS ai;have ah:Qh (L.map Qd) i=Qd x:=Qs (by simp[hx]);have aa:(i:Int)<(L.length:Int):=by omega
  have hw:=bJ i (by omega);have hd:L.drop i=x::L.drop (i+1):=by rw[zzaf ai,(zza.1 hx).2]
  have hk:=nP x;rw[hd,Ze]at hf;by_cases aN:x.id=id
  ·rw[if_pos aN]at hf;simp[rq,ai,aa,ah,Qd,aN,dU,vu,<- hf,Wz];simpa[Qd,aN]using hk
  rw[if_neg aN]at hf;simp[rq,ai,aa,ah,Qd,aN,dU,hw];refine⟨hk,aO,⟨i+1,by simp,by omega,hf⟩,by omega⟩
 rw[zzam bu]at hf;have bI:¬(i:Int)<(L.length:Int):=by omega
 simp[rq,zzbm.2 bu,bI,dU,vu,<- hf,Wz,Ze]
open Go Go.Abs
def K0{w:World}{γ:G}{rows:List (List AV)}{v:Value}(h:aB w γ (.sl .ro rows) v):aB w γ (.sl .nil rows) v\/aB w γ (.sl .nn rows) v:=by
 cases h with
 |sl b off sz cv hcap hnil ha hsz hc hr aR=>
  rename_i a cap;by_cases e:a=none
  ·exact .inl (.sl b off sz cv hcap hnil ha hsz hc hr e)
  exact .inr (.sl b off sz cv hcap hnil ha hsz hc hr e)
def Vm{P:Program}{gl:Nat->AV}{f:FuncId}{rows:List (List AV)}{r:AV}(h:Pure P gl f [.sl .nil rows] r)(k:Pure P gl f [.sl .nn rows] r):Pure P gl f [.sl .ro rows] r:=
 ⟨h.1,fun ro w vs lM hr=>by
  match vs,hr with
  |[v],hr=>
   rcases K0 (hr.2 0 _ v rfl rfl)with h1|h1
   ·exact h.2 ro w [v] lM ⟨rfl,fun i x y hx hy=>by
     cases i with
     |zero=>cases hx;cases hy;exact h1
     |succ i=>cases hx⟩
   exact k.2 ro w [v] lM ⟨rfl,fun i x y hx hy=>by
    cases i with
    |zero=>cases hx;cases hy;exact h1
    |succ i=>cases hx⟩
  |[],hr=>exact absurd hr.1 (by simp)
  |_::_::_,hr=>exact absurd hr.1 (by simp)⟩
def C8:Pure Tryz.prog az 88 [.sl .nn []] (.sl .ro []):=by
 have:∃rt,Pure Tryz.prog az 88 [.sl .nn []] (.sl rt []):=by
  refine⟨.ro,Qn I7 (fun _ _ _=>.junk) (by simp) ?_⟩;simp[ab2,ab3]
 obtain⟨rt,h⟩:=this;exact Qz h (Wk.sl _ _)
def Ut(l:List Sp)(hl:l.length<=8796093022208):Pure Tryz.prog az 88 [.sl .ro (l.map Qe)] (.sl .ro (l.map Qe)):=by
 cases l with
 |nil=>exact Vm (Qz jI (Wk.sl _ _)) C8
 |cons x r=>
  refine Qn I7 (fun _ _ _=>.junk) (by simp) ?_;simp[ab2,ab3];simp at hl;refine⟨⟨rfl,?_⟩,by omega⟩;rintro row a b _ rfl;rfl
def K1(p:Pl)(id:Int)(hl:p.ens.length<=1000000000)(ha:∀e∈p.ens,e.al.length<=8796093022208):Pure Tryz.prog az 130 [.agg (Qb p),I id] (Wz (Ze id p.ens)):=by
 have h59:=KZ p.ens id hl;refine Qn M3 (fun _ f l=>if f=203 then Wz (Ze id p.ens)else l.headD .junk) (by simp) ?_;cases hf:Ze id p.ens with
 |none=>
  rw[hf]at h59;simp[MZ,M1,Qb,Wz,hf];exact⟨h59,jI⟩
 |some x=>
  rw[hf]at h59
  have hx:x∈p.ens:=by
   have:∀l:List En,Ze id l=some x->x∈l:=by
    intro l;induction l with
    |nil=>intro h;cases h
    |cons y r ih=>
     intro h;simp only[Ze]at h;split at h
     ·cases h;simp
     simp[ih h]
   exact this _ hf
  have hc:=Ut x.al (ha x hx);simp[MZ,M1,Qb,Wz,Qd,hf];exact⟨h59,hc⟩
open Go Go.Abs
def K2(e:It):Pure Tryz.prog az 56 [.agg (Qm e)] (I e.id):=by
 refine Qn TJ (fun _ _ _=>.junk) (by simp) ?_;simp[ak2,Qm,ak3]
def xw(L:List It)(id:Int)(hl:L.length<=1000000000):Pure Tryz.prog az 55 [.sl .ro (L.map Qm),I id,.fn 56 [] []] (Zh (Xh id L)):=by
 refine Qn ak1 (fun _ f l=>if f=56 then(match l with|[.agg (c::_)]=>c|_=>.junk)else .junk) (by simp) ?_;simp[ao2];refine Qi MN (fun f m=>∃(i:Nat)(bx:List (List AV)),f 13=I i/\i<=L.length/\Xh id (L.drop i)=Xh id L/\m=⟨[I 0,I 0,I 0,I 0,I 0]::bx,[],fun _=>.gone,0⟩) (fun f _=>L.length-(numOf (f 13)).toNat) ?_ ?_
 ·exact⟨0,[],by simp,by omega,rfl,rfl⟩
 rintro f m ⟨i,bx,rq,hi,hf,rfl⟩;rcases zzaa i L.length with ai|bu
 ·obtain⟨x,hx⟩:=aS ai;have ah:Qh (L.map Qm) i=Qm x:=Qs (by simp[hx]);have aa:(i:Int)<(L.length:Int):=by omega
  have hw:=bJ i (by omega);have hd:L.drop i=x::L.drop (i+1):=by rw[zzaf ai,(zza.1 hx).2]
  have hk:=K2 x;rw[hd,Xh]at hf;by_cases aN:x.id=id
  ·rw[if_pos aN]at hf;simp[rq,ai,aa,ah,Qm,aN,MN,ak0,<- hf,Zh];simpa[Qm,aN]using hk
  rw[if_neg aN]at hf;simp[rq,ai,aa,ah,Qm,aN,MN,hw];refine⟨hk,aO,⟨i+1,by simp,by omega,hf⟩,by omega⟩
 rw[zzam bu]at hf;have bI:¬(i:Int)<(L.length:Int):=by omega
 simp[rq,zzbm.2 bu,bI,MN,ak0,<- hf,Zh,Xh]
def A7(p:Pl)(id:Int)(hl:p.aL.length<=1000000000):Pure Tryz.prog az 29 [.agg (Qb p),I id] (Zh (Xh id p.aL)):=by
 have h:=xw p.aL id hl;refine Qn TH (fun _ f l=>if f=55 then Zh (Xh id p.aL)else .junk) (by simp) ?_;cases hf:Xh id p.aL with
 |none=>
  rw[hf]at h;simp[TF,TG,Qb,Zh,hf];exact h
 |some x=>
  rw[hf]at h;simp[TF,TG,Qb,Zh,Qm,hf];exact h
def xx(p:Pl)(f t:Int):Pure Tryz.prog az 131 [.agg (Qb p),I f,I t] (.fn 205 [] [.ep (Qb p) 0,.ep [I f] 0,.ep [I t] 0]):=by
 refine Qn acC (fun _ _ _=>.junk) (by simp) ?_;simp[ahA,ahB,Qb]
open Go Go.Abs
def Uk(b:Nat->Bool):Nat->Int
 |0=>0
 |n+1=>Uk b n+if b n then 2 ^ n else 0
def C9(b:Nat->Bool):∀n,0<=Uk b n/\Uk b n<2 ^ n
 |0=>by simp[Uk]
 |n+1=>by
  have:=C9 b n;have h2:(2:Int) ^ (n+1)=2*2 ^ n:=by rw[Int.pow_succ];omega
  rw[Uk,h2];split<;>omega
def YR:∀i:Nat,i<8->∀x:Nat,x<2 ^ i->IntKind.i64.wrap (((((x:Int)%2 ^ IntKind.i64.bits).toNat|||(IntKind.i64.wrap (2 ^ min i IntKind.i64.bits)%2 ^ IntKind.i64.bits).toNat:Nat)):Int)=(x:Int)+2 ^ i:=by
 decide+kernel
def sK(Y:YT)(p:Pl)(h:FuncId)(cap:List AV)(b:Nat->Bool)(m:AM)(K:AV->AM->Prop)
  (hg:∀(i:Nat)(mm:AM),i<8->(i:Int)<p.rg->(∃bx,mm=⟨m.boxes++bx,m.lens,m.st,m.ln⟩)->∀K':AV->AM->Prop,K' (.bool (b i)) mm->an Tryz.prog az Y h ([I i]++cap) mm K')
  (hK:∀bx,K (I (Uk b (min p.rg 8).toNat)) ⟨m.boxes++bx,m.lens,m.st,m.ln⟩):an Tryz.prog az Y 206 [.agg (Qb p),.fn h [] cap] m K:=by
 refine Xe adl (fun _ _ _=>.gd false .junk) (by simp) ?_;obtain⟨n,hn⟩:∃n,(min p.rg 8).toNat=n:=⟨_,rfl⟩
 have tI:Qh (m.boxes++[Qb p]) m.boxes.length=Qb p:=by
  simp
 rw[hn]at hK;have Q8:(if 8<p.rg then 8 else p.rg)=min p.rg 8:=by omega
 simp only[Qb]at tI;simp[ah2,Qb,tI];refine Qi JL (fun f mm=>∃(i:Nat)(bx:List (List AV)),f 10=I i/\(i=0\/i<=n)/\mm=⟨m.boxes++bx,m.lens,m.st,m.ln⟩/\f 5=I (Uk b i)) (fun f _=>n-(numOf (f 10)).toNat) ?_ ?_
 ·exact⟨0,_,by simp,.inl rfl,rfl,by simp[Uk]⟩
 rintro f mm ⟨i,bx,fU,hi,rfl,h5⟩;by_cases ai:(i:Int)<min p.rg 8
 ·have bI:i<n:=by omega
  have hw:=bJ i (by omega);have gE:=C9 b i;have Rg:=hg i ⟨m.boxes++bx,m.lens,m.st,m.ln⟩ (by omega) (by omega) ⟨_,rfl⟩
  have hor:IntKind.i64.wrap ((((Uk b i%2 ^ IntKind.i64.bits).toNat|||(IntKind.i64.wrap (2 ^ min i IntKind.i64.bits)%2 ^ IntKind.i64.bits).toNat:Nat)):Int)=Uk b i+2 ^ i:=by
   obtain⟨x,hx⟩:∃x:Nat,Uk b i=(x:Int):=⟨(Uk b i).toNat,by omega⟩
   have hx2:x<2 ^ i:=by
    have h2:=gE.2;rw[hx]at h2
    exact_mod_cast h2
   rw[hx];exact YR i (by omega) x hx2
  have hms:Uk b (i+1)=Uk b i+if b i then 2 ^ i else 0:=rfl;simp[fU,h5,JL,Q8,ai];refine Rg _ ?_;cases hb:b i with
  |true=>
   rw[hb]at hms;simp[hor,hw];refine⟨aO,⟨i+1,by omega,by omega,by rw[hms];rfl⟩,by omega⟩
  |false=>
   rw[hb]at hms;simp[hw];refine⟨aO,⟨i+1,by omega,by omega,by rw[hms];simp⟩,by omega⟩
 have bI:i=n:=by omega
 subst bI;simp[fU,h5,JL,Q8,ai,ah3];exact hK _
open Go Go.Abs
def Us(fr t a:Int):Int:=if 1<=fr then min (t-a) fr else t-a
def Vz(fr t a:Int):List (Int×Int):=if a<t then(a,Us fr t a)::Vz fr t (a+Us fr t a)else[]
termination_by(t-a).toNat
decreasing_by simp only[Us];split<;>omega
def Yi(p:Pl):Int:=match Xh p.fi p.aL with|some x=>x.fr|none=>0
def F0(p:Pl):Int:=Uk (fun _=>true) (min p.rg 8).toNat
def Qba(p:Pl)(x:Int×Int):List AV:=[.agg [I 0,I p.fi,I x.1,I x.2,I 0,I (F0 p),.sl .nil []]]
def ash(p:Pl):Nat->FuncId->List AV->AV:=fun _ f _=>if f=29 then Zh (Xh p.fi p.aL)else .gd false .junk
def xy(p:Pl)(f t:Int)(hl:p.aL.length<=1000000000)(hb: -1000000000<=f/\t<=1000000000)(hf:f<=1000000000/\ -1000000000<=t):
  YD Tryz.prog az 205 [] [.ep (Qb p) 0,.ep [I f] 0,.ep [I t] 0] ((Vz (Yi p) t f).map (Qba p)):=by
 intro Y l m K hF;have YS:=A7 p p.fi hl;refine Xe adk (ash p) (by simp) ?_
 obtain⟨b,row,asi,ah⟩:∃(b:Bool)(y:It),Zh (Xh p.fi p.aL)=.aW [.agg (Qm y),.bool b]/\y.fr=Yi p:=by
  unfold Yi;cases Xh p.fi p.aL with
  |none=>exact⟨false,⟨0,0,0,0,0⟩,rfl,rfl⟩
  |some x=>exact⟨true,x,rfl,rfl⟩
 rw[asi]at YS;simp[UT,Qb,ash,asi,Qm]
 refine⟨YS,sK Y p 207 [] (fun _=>true) _ _ (fun i mm _ _ _ K' h=>by
  show an _ _ _ _ [I (i:Int)] _ _;refine Xe adm (fun _ _ _=>.junk) (by simp) ?_;simp[ah4,ah5];exact h) fun bx=>?_⟩
 obtain⟨B0,eV⟩:∃B0,m.boxes.length=B0:=⟨_,rfl⟩;have Rh:=hF.ext (m':=⟨m.boxes++[[I row.id,I row.ki,I row.fr,I row.sp,I row.ra]]++bx,m.lens,m.st,m.ln⟩) ⟨by simp,fun j hj _=>by rw[zzaw];exact Ql hj,⟨[],by simp⟩,fun _ _=>rfl⟩;simp only[eV];refine Qi Cb (fun g mm=>∃(a:Int)(O:Nat->Prop),g 8=I a/\ -1000000000<=a/\a<=1000000000/\B0<mm.boxes.length/\Qh mm.boxes B0=[I row.id,I row.ki,I row.fr,I row.sp,I row.ra]/\O B0/\jx (Y l) K ((Vz (Yi p) t a).map (Qba p)) O mm) (fun g _=>(t-numOf (g 8)).toNat) ?_ ?_
 ·refine⟨f,_,by simp,by omega,by omega,by simp[eV],?_,.inr ⟨by omega,by simp;omega⟩,Rh⟩;show Qh (m.boxes++[_]++bx) B0=_;rw[Ql (by simp;omega)];subst eV;simp
 rintro g mm ⟨a,O,h8,a1,a2,hlm,Tn,tO,hFo⟩;by_cases ai:a<t
 ·rw[Vz,if_pos ai]at hFo;simp only[zzaz,Qba]at hFo;have fC:IntKind.i64.wrap (t-a)=t-a:=by rw[Qk]<;>omega
  have IE:Us (Yi p) t a=if 1<=row.fr then min (t-a) row.fr else t-a:=by rw[Us,ah]
  have IF:1<=Us (Yi p) t a/\Us (Yi p) t a<=t-a:=by rw[IE];split<;>omega
  have ee:IntKind.i64.wrap (a+Us (Yi p) t a)=a+Us (Yi p) t a:=by rw[Qk]<;>omega
  have Q8:(if row.fr<t-a then row.fr else t-a)=min (t-a) row.fr:=by omega
  have hM:Uk (fun _=>true) (min p.rg 8).toNat=F0 p:=rfl;generalize hN:Us (Yi p) t a=N at*
  have key:∀g1,(1<=row.fr->g1=min (t-a) row.fr)->True:=fun _ _=>trivial;have hwN:IntKind.i64.wrap N=N:=by rw[Qk]<;>omega
  by_cases uv:1<=row.fr
  ·rw[if_pos uv]at IE;simp[h8,Cb,ai,Tn,uv,fC,Q8,<- IE,hwN,hM,hlm];refine hFo _ (bN.refl _ _) _ (fun m2 wY qs=>?_) (fun m2 hK=>?_)
   ·have q1:Qh m2.boxes B0=[I row.id,I row.ki,I row.fr,I row.sp,I row.ra]:=by rw[wY.2 B0 (.inl tO)];exact Tn
    have AT:=wY.1;simp[ee];refine⟨aO,⟨by omega,by omega,by omega,q1,_,.inl tO,qs⟩,by omega⟩
   simp[Nq];exact hK _ (bN.refl _ _)
  rw[if_neg uv]at IE;simp[h8,Cb,ai,Tn,uv,fC,<- IE,hwN,hM,hlm];refine hFo _ (bN.refl _ _) _ (fun m2 wY qs=>?_) (fun m2 hK=>?_)
  ·have q1:Qh m2.boxes B0=[I row.id,I row.ki,I row.fr,I row.sp,I row.ra]:=by rw[wY.2 B0 (.inl tO)];exact Tn
   have AT:=wY.1;simp[ee];refine⟨aO,⟨by omega,by omega,by omega,q1,_,.inl tO,qs⟩,by omega⟩
  simp[Nq];exact hK _ (bN.refl _ _)
 rw[Vz,if_neg ai]at hFo;simp only[zzcf]at hFo;simp[h8,Cb,ai,Nq];exact hFo _ (bN.refl _ _)
open Go Go.Abs
def F1(Y:YT)(p:Pl)(e:En)(a r fr:Int)(m:AM)(bp bf be:Nat)(hc:p.cls.length<=1000000)(gK:p.sh.length<=1000000000)(cm:p.aL.length<=1000000000)
  (h1:Qh m.boxes bp=Qb p)(h2:Qh m.boxes bf=[I fr])(h3:Qh m.boxes be=Qd e)(K:AV->AM->Prop)(hK:K (.bool (Xo p a r fr e.fr)) m):
  an Tryz.prog az Y 208 [I a,I r,.ptr bp 0,.ptr bf 0,.ptr be 0] m K:=by
 have k:=Qbe p a r fr e.fr hc gK cm;refine Xe adn (fun _ f _=>if f=30 then .bool (Xo p a r fr e.fr)else .junk) (by simp) ?_;simp only[Qb]at h1;simp only[Qd]at h3;simp[ah6,ah7,h1,h2,h3];exact⟨k,hK⟩
def YU(Y:YT)(p:Pl)(e:En)(r fr:Int)(m:AM)(bp bf be bg:Nat)(hc:p.cls.length<=1000000)(gK:p.sh.length<=1000000000)(cm:p.aL.length<=1000000000)
  (h1:Qh m.boxes bp=Qb p)(h2:Qh m.boxes bf=[I fr])(h3:Qh m.boxes be=Qd e)(h4:Qh m.boxes bg=[.fn 208 [] [.ptr bp 0,.ptr bf 0,.ptr be 0]])(K:AV->AM->Prop)(hK:K (.bool (Xo p e.it r fr e.fr)) m):
  an Tryz.prog az Y 209 [I r,.ptr bg 0,.ptr be 0] m K:=by
 have k:=F1 Y p e e.it r fr m bp bf be hc gK cm h1 h2 h3;refine Xe ado (fun _ _ _=>.gd false .junk) (by simp) ?_;simp only[Qd]at h3;simp[ah8,h4,h3];refine k _ ?_;simp[ah9];exact hK
end Go.Proofs.YtnopaopphmjnmaaGreatDoor
