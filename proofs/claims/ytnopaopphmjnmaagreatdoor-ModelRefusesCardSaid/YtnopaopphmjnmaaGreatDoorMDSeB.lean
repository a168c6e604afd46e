import Derived.Test.YtnopaopphmjnmaaGreatDoorMDML
set_option linter.all false
set_option maxRecDepth 100000
set_option maxHeartbeats 64000000
namespace Go.Proofs.YtnopaopphmjnmaaGreatDoor
open Go Go.Abs
def abE{lo hi:Int}{a b:List Sp}(h:Tk lo hi b):Tk lo hi (zy a b):=by
 obtain⟨⟨h1,_⟩,h2⟩:=kT a b;intro w hw;have ai:=h1 w hw;obtain⟨s,hs,s1,s2⟩:=((h2 w.1).1 ⟨w,hw,by omega,ai⟩).2;obtain⟨t,ht,t1,t2⟩:=((h2 (w.2-1)).1 ⟨w,hw,by omega,by omega⟩).2;have:=h s hs;have:=h t ht;omega
def Qcn(p:Pl)(id region:Int)(s:Sp):(Vm p id region s).length<=1000000:=by
 unfold Vm;simp only;generalize Rg s=c;cases Xg id p.aL with
 |none=>simp
 |some x=>
  simp only;split
  ·simp
  rename_i hb;simp only[not_or]at hb;split
  ·simp
  split
  ·simp
  have bJ:Tk c.1 c.2 [c]:=by intro w hw;simp at hw;subst hw;omega
  have:=KZ _ c.1 c.2 (kT ((iD p x region (uS p c) (lQ p x region (uS p c)).length).map (ux p)) [c]).1 (fun w hw=>by have:=abE bJ w hw;omega);omega
def frB(f:Int):Bool:=decide (0<=f/\f<=100000000)
def Xv(p:Pl)(id region f n:Int):Bool:=
 if n<1\/1000000<n\/frB f=false\/frB (f+n-1)=false then false else(C5 [(f,f+n)] (Vm p id region (f,f+n))).isEmpty
def BJ(p:Pl)(id region f n:Int):Nat->FuncId->List AV->AV:=fun d g l=>
 if g=57 then(match l with|[.int _ n]=>.bool (frB n)|_=>.junk)else
 if g=59 then .sl .ro ((Vm p id region (f,f+n)).map Qe)else
 if g=58 then .bool (C5 [(f,f+n)] (Vm p id region (f,f+n))).isEmpty else .junk
def Qdy(p:Pl)(id region f n:Int)(hc:p.cls.length<=1000000)(gH:p.sh.length<=1000000000)(cH:p.aL.length<=1000000000):
  Pure Tryz.prog aq 30 [.agg (Qc p),I id,I region,I f,I n] (.bool (Xv p id region f n)):=by
 have y5:=tj f;have ahr:=tj (f+n-1);refine Qn alp (BJ p id region f n) (by simp) ?_;by_cases b1:n<1
 ·simp[PJ,Qc,BJ,PK,b1,Xv]
 by_cases b2:1000000<n
 ·simp[PJ,Qc,BJ,PK,b1,b2,Xv]
 by_cases b3:frB f=true
 ·have b3':0<=f/\f<=100000000:=by simpa[frB]using b3
  have eO:IntKind.i64.wrap (f+n)=f+n:=by rw[Qk]<;>omega
  have eC:IntKind.i64.wrap (f+n-1)=f+n-1:=by rw[Qk]<;>omega
  rw[show decide (0<=f/\f<=100000000)=true from b3]at y5;by_cases b4:frB (f+n-1)=true
  ·rw[show decide (0<=f+n-1/\f+n-1<=100000000)=true from b4]at ahr;have k36:=nI p id region (f,f+n) hc gH cH (by simp only;omega) (by simp only;omega);have k35:=H6 (Vm p id region (f,f+n)) (f,f+n) (by have:=Qcn p id region (f,f+n);omega);simp[PJ,Qc,BJ,PK,b1,b2,b3,b4,eO,eC,Xv];exact⟨y5,ahr,k36,k35⟩
  have b4':frB (f+n-1)=false:=by simpa using b4
  rw[show decide (0<=f+n-1/\f+n-1<=100000000)=false from b4']at ahr;simp[PJ,Qc,BJ,PK,b1,b2,b3,b4',eO,eC,Xv];exact⟨y5,ahr⟩
 have b3':frB f=false:=by simpa using b3
 rw[show decide (0<=f/\f<=100000000)=false from b3']at y5;simp[PJ,Qc,BJ,PK,b1,b2,b3',Xv];exact y5
open Go Go.Abs
def Zf(id:Int):List En->Option En
 |[]=>none
 |x::r=>if x.id=id then some x else Zf id r
def Wy:Option En->AV
 |some x=>.aU [.agg (Qd x),.bool true]
 |none=>.aU [.agg [I 0,I 0,I 0,I 0,I 0,I 0,.sl .nil []],.bool false]
def nT(e:En):Pure Tryz.prog aq 204 [.agg (Qd e)] (I e.id):=by
 refine Qn adD (fun _ _ _=>.junk) (by simp) ?_;simp[aiz,Qd,aiA]
def MG(L:List En)(id:Int)(hl:L.length<=1000000000):Pure Tryz.prog aq 203 [.sl .ro (L.map Qd),I id,.fn 204 [] []] (Wy (Zf id L)):=by
 refine Qn BY (fun _ f l=>if f=204 then(match l with|[.agg (c::_)]=>c|_=>.junk)else .junk) (by simp) ?_;simp[Nv];refine Qi dW (fun f m=>∃(i:Nat)(bx:List (List AV)),f 13=I i/\i<=L.length/\Zf id (L.drop i)=Zf id L/\m=⟨[I 0,I 0,I 0,I 0,I 0,I 0,.sl .nil []]::bx,[],fun _=>.gone,0⟩) (fun f _=>L.length-(numOf (f 13)).toNat) ?_ ?_
 ·exact⟨0,[],by simp,by omega,rfl,rfl⟩
 rintro f m ⟨i,bx,eW,hi,hf,rfl⟩;rcases zzaa i L.length with ai|bw
 ·obtain⟨x,hx⟩:=aP ai;have aa:Qh (L.map Qd) i=Qd x:=Qr (by simp[hx]);have ah:(i:Int)<(L.length:Int):=by omega
  have hw:=bH i (by omega);have hd:L.drop i=x::L.drop (i+1):=by rw[zzaf ai,(zza.1 hx).2]
  have hk:=nT x;rw[hd,Zf]at hf;by_cases aO:x.id=id
  ·rw[if_pos aO]at hf;simp[eW,ah,aa,Qd,aO,dW,vi,<- hf,Wy];simpa[Qd,aO]using hk
  rw[if_neg aO]at hf;simp[eW,ah,aa,Qd,aO,dW,hw];refine⟨hk,aN,⟨i+1,by simp,by omega,hf⟩,by omega⟩
 rw[zzan bw]at hf;have bJ:¬(i:Int)<(L.length:Int):=by omega
 simp[eW,bJ,dW,vi,<- hf,Wy,Zf]
open Go Go.Abs
def MH{w:World}{γ:G}{rows:List (List AV)}{v:Value}(h:aB w γ (.sl .ro rows) v):aB w γ (.sl .nil rows) v\/aB w γ (.sl .nn rows) v:=by
 cases h with
 |sl b off sz cv hcap hnil ha hsz hc hr aT=>
  rename_i a cap;by_cases e:a=none
  ·exact .inl (.sl b off sz cv hcap hnil ha hsz hc hr e)
  exact .inr (.sl b off sz cv hcap hnil ha hsz hc hr e)
def Vk{P:Program}{gl:Nat->AV}{f:FuncId}{rows:List (List AV)}{r:AV}(h:Pure P gl f [.sl .nil rows] r)(k:Pure P gl f [.sl .nn rows] r):Pure P gl f [.sl .ro rows] r:=
 ⟨h.1,fun ro w vs iV hr=>by
  match vs,hr with
  |[v],hr=>
   rcases MH (hr.2 0 _ v rfl rfl)with h1|h1
   ·exact h.2 ro w [v] iV ⟨rfl,fun i x y hx hy=>by
     cases i with
     |zero=>cases hx;cases hy;exact h1
     |succ i=>cases hx⟩
   exact k.2 ro w [v] iV ⟨rfl,fun i x y hx hy=>by
    cases i with
    |zero=>cases hx;cases hy;exact h1
    |succ i=>cases hx⟩
  |[],hr=>exact absurd hr.1 (by simp)
  |_::_::_,hr=>exact absurd hr.1 (by simp)⟩
def DZ:Pure Tryz.prog aq 88 [.sl .nn []] (.sl .ro []):=by
 have:∃rt,Pure Tryz.prog aq 88 [.sl .nn []] (.sl rt []):=by
  refine⟨.ro,Qn IZ (fun _ _ _=>.junk) (by simp) ?_⟩;simp[ach,aci]
 obtain⟨rt,h⟩:=this;exact Qz h (Wk.sl _ _)
def Ur(l:List Sp)(hl:l.length<=8796093022208):Pure Tryz.prog aq 88 [.sl .ro (l.map Qe)] (.sl .ro (l.map Qe)):=by
 cases l with
 |nil=>exact Vk (Qz jR (Wk.sl _ _)) DZ
 |cons x r=>
  refine Qn IZ (fun _ _ _=>.junk) (by simp) ?_;simp[ach,aci];simp at hl;refine⟨⟨rfl,?_⟩,by omega⟩;rintro row a b _ rfl;rfl
def K7(p:Pl)(id:Int)(hl:p.ens.length<=1000000000)(ha:∀e∈p.ens,e.al.length<=8796093022208):Pure Tryz.prog aq 130 [.agg (Qc p),I id] (Wy (Zf id p.ens)):=by
 have h59:=MG p.ens id hl;refine Qn M9 (fun _ f l=>if f=203 then Wy (Zf id p.ens)else l.headD .junk) (by simp) ?_;cases hf:Zf id p.ens with
 |none=>
  rw[hf]at h59;simp[M7,M8,Qc,Wy];exact⟨h59,jR⟩
 |some x=>
  rw[hf]at h59
  have hx:x∈p.ens:=by
   have:∀l:List En,Zf id l=some x->x∈l:=by
    intro l;induction l with
    |nil=>intro h;cases h
    |cons y r ih=>
     intro h;simp only[Zf]at h;split at h
     ·cases h;simp
     simp[ih h]
   exact this _ hf
  have hc:=Ur x.al (ha x hx);simp[M7,M8,Qc,Wy,Qd];exact⟨h59,hc⟩
open Go Go.Abs
def MI(e:It):Pure Tryz.prog aq 56 [.agg (Qm e)] (I e.id):=by
 refine Qn TN (fun _ _ _=>.junk) (by simp) ?_;simp[alK,Qm,alL]
def x9(L:List It)(id:Int)(hl:L.length<=1000000000):Pure Tryz.prog aq 55 [.sl .ro (L.map Qm),I id,.fn 56 [] []] (Zo (Xg id L)):=by
 refine Qn alJ (fun _ f l=>if f=56 then(match l with|[.agg (c::_)]=>c|_=>.junk)else .junk) (by simp) ?_;simp[apW];refine Qi MS (fun f m=>∃(i:Nat)(bx:List (List AV)),f 13=I i/\i<=L.length/\Xg id (L.drop i)=Xg id L/\m=⟨[I 0,I 0,I 0,I 0,I 0]::bx,[],fun _=>.gone,0⟩) (fun f _=>L.length-(numOf (f 13)).toNat) ?_ ?_
 ·exact⟨0,[],by simp,by omega,rfl,rfl⟩
 rintro f m ⟨i,bx,eW,hi,hf,rfl⟩;rcases zzaa i L.length with ai|bw
 ·obtain⟨x,hx⟩:=aP ai;have aa:Qh (L.map Qm) i=Qm x:=Qr (by simp[hx]);have ah:(i:Int)<(L.length:Int):=by omega
  have hw:=bH i (by omega);have hd:L.drop i=x::L.drop (i+1):=by rw[zzaf ai,(zza.1 hx).2]
  have hk:=MI x;rw[hd,Xg]at hf;by_cases aO:x.id=id
  ·rw[if_pos aO]at hf;simp[eW,ah,aa,Qm,aO,MS,alI,<- hf,Zo];simpa[Qm,aO]using hk
  rw[if_neg aO]at hf;simp[eW,ah,aa,Qm,aO,MS,hw];refine⟨hk,aN,⟨i+1,by simp,by omega,hf⟩,by omega⟩
 rw[zzan bw]at hf;have bJ:¬(i:Int)<(L.length:Int):=by omega
 simp[eW,bJ,MS,alI,<- hf,Zo,Xg]
def S1(p:Pl)(id:Int)(hl:p.aL.length<=1000000000):Pure Tryz.prog aq 29 [.agg (Qc p),I id] (Zo (Xg id p.aL)):=by
 have h:=x9 p.aL id hl;refine Qn TJ (fun _ f l=>if f=55 then Zo (Xg id p.aL)else .junk) (by simp) ?_;cases hf:Xg id p.aL with
 |none=>
  rw[hf]at h;simp[TH,TI,Qc,Zo];exact h
 |some x=>
  rw[hf]at h;simp[TH,TI,Qc,Zo,Qm];exact h
def wZ(p:Pl)(f t:Int):Pure Tryz.prog aq 131 [.agg (Qc p),I f,I t] (.fn 205 [] [.ep (Qc p) 0,.ep [I f] 0,.ep [I t] 0]):=by
 refine Qn acO (fun _ _ _=>.junk) (by simp) ?_;simp[ahU,ahV,Qc]
open Go Go.Abs
def Un(b:Nat->Bool):Nat->Int
 |0=>0
 |n+1=>Un b n+if b n then 2 ^ n else 0
def Dv(b:Nat->Bool):∀n,0<=Un b n/\Un b n<2 ^ n
 |0=>by simp[Un]
 |n+1=>by
  have:=Dv b n;have h2:(2:Int) ^ (n+1)=2*2 ^ n:=by rw[Int.pow_succ];omega
  rw[Un,h2];split<;>omega
def aan:∀i:Nat,i<8->∀x:Nat,x<2 ^ i->IntKind.i64.wrap (((((x:Int)%2 ^ IntKind.i64.bits).toNat|||(IntKind.i64.wrap (2 ^ min i IntKind.i64.bits)%2 ^ IntKind.i64.bits).toNat:Nat)):Int)=(x:Int)+2 ^ i:=by
 decide+kernel
def sG(Y:YT)(p:Pl)(h:FuncId)(cap:List AV)(b:Nat->Bool)(m:AM)(K:AV->AM->Prop)
  (hg:∀(i:Nat)(mm:AM),i<8->(i:Int)<p.rg->(∃bx,mm=⟨m.boxes++bx,m.lens,m.st,m.ln⟩)->∀K':AV->AM->Prop,K' (.bool (b i)) mm->an Tryz.prog aq Y h ([I i]++cap) mm K')
  (hK:∀bx,K (I (Un b (min p.rg 8).toNat)) ⟨m.boxes++bx,m.lens,m.st,m.ln⟩):an Tryz.prog aq Y 206 [.agg (Qc p),.fn h [] cap] m K:=by
 refine Xe adH (fun _ _ _=>.gd false .junk) (by simp) ?_;obtain⟨n,hn⟩:∃n,(min p.rg 8).toNat=n:=⟨_,rfl⟩
 have tH:Qh (m.boxes++[Qc p]) m.boxes.length=Qc p:=by
  simp
 rw[hn]at hK;have Ra:(if 8<p.rg then 8 else p.rg)=min p.rg 8:=by omega
 simp only[Qc]at tH;simp[aiB,Qc,tH];refine Qi JO (fun f mm=>∃(i:Nat)(bx:List (List AV)),f 10=I i/\(i=0\/i<=n)/\mm=⟨m.boxes++bx,m.lens,m.st,m.ln⟩/\f 5=I (Un b i)) (fun f _=>n-(numOf (f 10)).toNat) ?_ ?_
 ·exact⟨0,_,by simp,.inl rfl,rfl,by simp[Un]⟩
 rintro f mm ⟨i,bx,kS,hi,rfl,h5⟩;by_cases ai:(i:Int)<min p.rg 8
 ·have bJ:i<n:=by omega
  have hw:=bH i (by omega);have gq:=Dv b i;have hg':=hg i ⟨m.boxes++bx,m.lens,m.st,m.ln⟩ (by omega) (by omega) ⟨_,rfl⟩
  have hor:IntKind.i64.wrap ((((Un b i%2 ^ IntKind.i64.bits).toNat|||(IntKind.i64.wrap (2 ^ min i IntKind.i64.bits)%2 ^ IntKind.i64.bits).toNat:Nat)):Int)=Un b i+2 ^ i:=by
   obtain⟨x,hx⟩:∃x:Nat,Un b i=(x:Int):=⟨(Un b i).toNat,by omega⟩
   have hx2:x<2 ^ i:=by
    have h2:=gq.2;rw[hx]at h2
    exact_mod_cast h2
   rw[hx];exact aan i (by omega) x hx2
  have hms:Un b (i+1)=Un b i+if b i then 2 ^ i else 0:=rfl;simp[kS,h5,JO,Ra,ai];refine hg' _ ?_;cases hb:b i with
  |true=>
   rw[hb]at hms;simp[hor,hw];refine⟨aN,⟨i+1,by omega,by omega,by rw[hms];rfl⟩,by omega⟩
  |false=>
   rw[hb]at hms;simp[hw];refine⟨aN,⟨i+1,by omega,by omega,by rw[hms];simp⟩,by omega⟩
 have bJ:i=n:=by omega
 subst bJ;simp[kS,h5,JO,Ra,ai,aiC];exact hK _
open Go Go.Abs
def Uq(fr t a:Int):Int:=if 1<=fr then min (t-a) fr else t-a
def Vw(fr t a:Int):List (Int×Int):=if a<t then(a,Uq fr t a)::Vw fr t (a+Uq fr t a)else[]
termination_by(t-a).toNat
decreasing_by simp only[Uq];split<;>omega
def Yb(p:Pl):Int:=match Xg p.fi p.aL with|some x=>x.fr|none=>0
def F4(p:Pl):Int:=Un (fun _=>true) (min p.rg 8).toNat
def Qav(p:Pl)(x:Int×Int):List AV:=[.agg [I 0,I p.fi,I x.1,I x.2,I 0,I (F4 p),.sl .nil []]]
def avp(p:Pl):Nat->FuncId->List AV->AV:=fun _ f _=>if f=29 then Zo (Xg p.fi p.aL)else .gd false .junk
def wY(p:Pl)(f t:Int)(hl:p.aL.length<=1000000000)(hb: -1000000000<=f/\t<=1000000000)(hf:f<=1000000000/\ -1000000000<=t):
  YO Tryz.prog aq 205 [] [.ep (Qc p) 0,.ep [I f] 0,.ep [I t] 0] ((Vw (Yb p) t f).map (Qav p)):=by
 intro Y l m K hF;have k62:=S1 p p.fi hl;refine Xe adG (avp p) (by simp) ?_
 obtain⟨b,row,avq,aa⟩:∃(b:Bool)(y:It),Zo (Xg p.fi p.aL)=.aU [.agg (Qm y),.bool b]/\y.fr=Yb p:=by
  unfold Yb;cases Xg p.fi p.aL with
  |none=>exact⟨false,⟨0,0,0,0,0⟩,rfl,rfl⟩
  |some x=>exact⟨true,x,rfl,rfl⟩
 rw[avq]at k62;simp[U3,Qc,avp,avq,Qm]
 refine⟨k62,sG Y p 207 [] (fun _=>true) _ _ (fun i mm _ _ _ K' h=>by
  show an _ _ _ _ [I (i:Int)] _ _;refine Xe adI (fun _ _ _=>.junk) (by simp) ?_;simp[aiD,aiE];exact h) fun bx=>?_⟩
 obtain⟨B0,fC⟩:∃B0,m.boxes.length=B0:=⟨_,rfl⟩;have Sg:=hF.ext (m':=⟨m.boxes++[[I row.id,I row.ki,I row.fr,I row.sp,I row.ra]]++bx,m.lens,m.st,m.ln⟩) ⟨by simp,fun j hj _=>by rw[zzba];exact Ql hj,⟨[],by simp⟩,fun _ _=>rfl⟩;simp only[fC];refine Qi BZ (fun g mm=>∃(a:Int)(O:Nat->Prop),g 8=I a/\ -1000000000<=a/\a<=1000000000/\B0<mm.boxes.length/\Qh mm.boxes B0=[I row.id,I row.ki,I row.fr,I row.sp,I row.ra]/\O B0/\jr (Y l) K ((Vw (Yb p) t a).map (Qav p)) O mm) (fun g _=>(t-numOf (g 8)).toNat) ?_ ?_
 ·refine⟨f,_,by simp,by omega,by omega,by simp[fC],?_,.inr ⟨by omega,by simp;omega⟩,Sg⟩;show Qh (m.boxes++[_]++bx) B0=_;rw[Ql (by simp;omega)];subst fC;simp
 rintro g mm ⟨a,O,h8,a1,a2,hlm,Om,tL,hFo⟩;by_cases ai:a<t
 ·rw[Vw,if_pos ai]at hFo;simp only[zzay,Qav]at hFo;have eO:IntKind.i64.wrap (t-a)=t-a:=by rw[Qk]<;>omega
  have D9:Uq (Yb p) t a=if 1<=row.fr then min (t-a) row.fr else t-a:=by rw[Uq,aa]
  have IA:1<=Uq (Yb p) t a/\Uq (Yb p) t a<=t-a:=by rw[D9];split<;>omega
  have eC:IntKind.i64.wrap (a+Uq (Yb p) t a)=a+Uq (Yb p) t a:=by rw[Qk]<;>omega
  have Ra:(if row.fr<t-a then row.fr else t-a)=min (t-a) row.fr:=by omega
  have hM:Un (fun _=>true) (min p.rg 8).toNat=F4 p:=rfl;generalize hN:Uq (Yb p) t a=N at*
  have key:∀g1,(1<=row.fr->g1=min (t-a) row.fr)->True:=fun _ _=>trivial;have hwN:IntKind.i64.wrap N=N:=by rw[Qk]<;>omega
  by_cases sE:1<=row.fr
  ·rw[if_pos sE]at D9;simp[h8,BZ,ai,Om,sE,eO,Ra,<- D9,hM];refine hFo _ (bM.refl _ _) _ (fun m2 wI qm=>?_) (fun m2 hK=>?_)
   ·have q1:Qh m2.boxes B0=[I row.id,I row.ki,I row.fr,I row.sp,I row.ra]:=by rw[wI.2 B0 (.inl tL)];exact Om
    have AN:=wI.1;simp[eC];refine⟨aN,⟨by omega,by omega,by omega,q1,_,.inl tL,qm⟩,by omega⟩
   simp[Nw];exact hK _ (bM.refl _ _)
  rw[if_neg sE]at D9;simp[h8,BZ,ai,Om,sE,<- D9,hwN,hM];refine hFo _ (bM.refl _ _) _ (fun m2 wI qm=>?_) (fun m2 hK=>?_)
  ·have q1:Qh m2.boxes B0=[I row.id,I row.ki,I row.fr,I row.sp,I row.ra]:=by rw[wI.2 B0 (.inl tL)];exact Om
   have AN:=wI.1;simp[eC];refine⟨aN,⟨by omega,by omega,by omega,q1,_,.inl tL,qm⟩,by omega⟩
  simp[Nw];exact hK _ (bM.refl _ _)
 rw[Vw,if_neg ai]at hFo;simp only[zzce]at hFo;simp[h8,BZ,ai,Nw];exact hFo _ (bM.refl _ _)
open Go Go.Abs
def F3(Y:YT)(p:Pl)(e:En)(a r fr:Int)(m:AM)(bp bf be:Nat)(hc:p.cls.length<=1000000)(gH:p.sh.length<=1000000000)(cH:p.aL.length<=1000000000)
  (h1:Qh m.boxes bp=Qc p)(h2:Qh m.boxes bf=[I fr])(h3:Qh m.boxes be=Qd e)(K:AV->AM->Prop)(hK:K (.bool (Xv p a r fr e.fr)) m):
  an Tryz.prog aq Y 208 [I a,I r,.ptr bp 0,.ptr bf 0,.ptr be 0] m K:=by
 have k:=Qdy p a r fr e.fr hc gH cH;refine Xe adJ (fun _ f _=>if f=30 then .bool (Xv p a r fr e.fr)else .junk) (by simp) ?_;simp only[Qc]at h1;simp only[Qd]at h3;simp[aiF,aiG,h1,h2,h3];exact⟨k,hK⟩
def Y1(Y:YT)(p:Pl)(e:En)(r fr:Int)(m:AM)(bp bf be bg:Nat)(hc:p.cls.length<=1000000)(gH:p.sh.length<=1000000000)(cH:p.aL.length<=1000000000)
  (h1:Qh m.boxes bp=Qc p)(h2:Qh m.boxes bf=[I fr])(h3:Qh m.boxes be=Qd e)(h4:Qh m.boxes bg=[.fn 208 [] [.ptr bp 0,.ptr bf 0,.ptr be 0]])(K:AV->AM->Prop)(hK:K (.bool (Xv p e.it r fr e.fr)) m):
  an Tryz.prog aq Y 209 [I r,.ptr bg 0,.ptr be 0] m K:=by
 have k:=F3 Y p e e.it r fr m bp bf be hc gH cH h1 h2 h3;refine Xe adK (fun _ _ _=>.gd false .junk) (by simp) ?_;simp only[Qd]at h3;simp[aiH,h4,h3];refine k _ ?_;simp[aiI];exact hK
open Go Go.Abs
def S2(x:Int)(c:Cl):Bool:=decide (c.fr<=x/\x<c.to)
def grX(C:List Cl)(x:Int):Bool:=match C.reverse.find? (S2 x)with
 |some c=>decide (c.ki=1)
 |none=>false
def find_congr{α:Type}{p q:α->Bool}:∀{l:List α},(∀a∈l,p a=q a)->l.find? p=l.find? q
 |[],_=>rfl
 |a::l,h=>by
  have h1:=h a (by simp);have ih:=find_congr (l:=l) fun b hb=>h b (by simp[hb]);rw[zzf,zzf,h1,ih]
def Zr{x:Int}:∀{l:List Int}{j:Nat}{v:Int},l.Pairwise (·<·)->l[j]?=some v->(j<qW l x<->v<x)
 |[],j,v,_,h=>by simp at h
 |a::r,j,v,hp,h=>by
  obtain⟨h1,h2⟩:=zzbz.1 hp
  have e:qW (a::r) x=qW r x+if a<x then 1 else 0:=by
   unfold qW;rw[zzgo];by_cases ha:a<x<;>simp[ha]
  have hz:¬a<x->qW r x=0:=by
   intro ha;unfold qW;rw[zzc,zzgz];intro y hy;have:=h1 y hy;simp;omega
  rw[e];cases j with
  |zero=>
   simp at h;subst h;by_cases ha:a<x
   ·simp[ha]
   simp[ha,hz ha]
  |succ j=>
   simp at h;have hav:=h1 v (zzac h);have ih:=Zr (x:=x) h2 h;by_cases ha:a<x
   ·simp only[ha,if_true];omega
   have:=hz ha;simp only[ha,if_false];omega
def H7(Bd:List Int)(j:Nat)(c:Cl):Bool:=decide (qW Bd c.fr<=j/\j<qW Bd c.to)
def H8(Bd:List Int)(j:Nat):∀(R:List Cl)(s:GS),(R.foldl (Q8 Bd) s)[j]?=(s[j]?).map fun o=>match o with
  |some v=>some v
  |none=>(R.find? (H7 Bd j)).map fun c=>decide (c.ki=1)
 |[],s=>by
  cases h:s[j]? with
  |none=>simp[h]
  |some o=>cases o<;>simp[h]
 |c::R,s=>by
  rw[zzcx,H8 Bd j R,Q8,Uu,zzf];cases h:s[j]? with
  |none=>simp
  |some o=>
   cases o with
   |some v=>simp
   |none=>
    by_cases hc:qW Bd c.fr<=j/\j<qW Bd c.to
    ·simp[H7,hc]
    simp[H7,hc]
def H9(Bd:List Int)(s:GS)(x:Int):∀n,Xq (nC Bd s n) x<->∃j,j<n/\s[j]?=some (some true)/\Bd.getD j 0<=x/\x<Bd.getD (j+1) 0
 |0=>by simp[nC]
 |n+1=>by
  rw[qY,Yp,H9 Bd s x n];unfold CO;constructor
  ·rintro(⟨j,h1,h2⟩|h)
   ·exact⟨j,by omega,h2⟩
   split at h
   ·rename_i hs;rw[Xd]at h;obtain h|h:=h
    ·exact⟨n,by omega,hs,h⟩
    simp at h
   simp at h
  rintro⟨j,h1,h2,h3⟩;rcases zzaa j n with h|h
  ·exact .inl ⟨j,h,h2,h3⟩
  obtain rfl:j=n:=by omega
  right;rw[if_pos h2,Xd];exact .inl h3
def uM{l:List Int}{j:Nat}{v:Int}(h:l[j]?=some v):l.getD j 0=v:=by
 simp[zzas,h]
def avr(C:List Cl)(hC:∀c∈C,c.fr<c.to)(x:Int):Xq (nC (dB C) (wB C) (dB C).length) x<->grX C x=true:=by
 have nE:=Og C;have dK:∀c∈C,c.fr∈dB C/\c.to∈dB C:=fun c hc=>⟨(uo _ _).2 (oV hc).1,(uo _ _).2 (oV hc).2⟩
 have wK:∀j,j<(dB C).length->(wB C)[j]?=some ((C.reverse.find? (H7 (dB C) j)).map fun c=>decide (c.ki=1)):=by
  intro j hj;rw[wB,H8];have:(List.replicate (dB C).length (none:Option Bool))[j]?=some none:=by simp[hj]
  rw[this];rfl
 have key:∀(j:Nat)(u w:Int),(dB C)[j]?=some u->(dB C)[j+1]?=some w->u<=x->x<w->∀c∈C.reverse,H7 (dB C) j c=S2 x c:=by
  intro j u w hu hw h1 h2 c hc;have qi:=zzfi.1 hc;have a1:=Zr (x:=c.fr) nE hu;have a2:=Zr (x:=c.fr) nE hw;have a3:=Zr (x:=c.to) nE hu;have a4:=Zr (x:=c.to) nE hw;obtain⟨m1,m2⟩:=dK c qi
  have gap:∀y∈dB C,y<=u\/w<=y:=by
   intro y hy;obtain⟨k,hk⟩:=zzfq hy;rcases zzaa j k with h|h
   ·right;have q1:=Zr (x:=w) nE hk;have q2:=Zr (x:=w) nE hw;omega
   left;have q1:=Zr (x:=y) nE hk;have q2:=Zr (x:=y) nE hu;omega
  have g1:=gap _ m1;have g2:=gap _ m2;unfold H7 S2;apply decide_eq_decide.2;omega
 have abF:∀(j:Nat)(u w:Int),(dB C)[j]?=some u->(dB C)[j+1]?=some w->u<=x->x<w->((wB C)[j]?=some (some true)<->grX C x=true):=by
  intro j u w hu hw h1 h2;rw[wK j (zza.1 hu).1,find_congr (key j u w hu hw h1 h2),grX];cases C.reverse.find? (S2 x)<;>simp
 rw[H9];constructor
 ·rintro⟨j,hj,hs,h1,h2⟩;have iG:=hs;rw[wK j hj]at hs;cases hf:C.reverse.find? (H7 (dB C) j)with
  |none=>rw[hf]at hs;simp at hs
  |some c=>
   have hc:=zzfi.1 (zzea hf);have hi:=zzgx hf;simp only[H7,decide_eq_true_eq]at hi;have hl:=KT (dK c hc).2;have ew:j+1<(dB C).length:=by omega
   obtain⟨u,hu⟩:∃u,(dB C)[j]?=some u:=⟨_,zzad hj⟩;obtain⟨w,hw⟩:∃w,(dB C)[j+1]?=some w:=⟨_,zzad ew⟩;rw[uM hu]at h1;rw[uM hw]at h2;exact(abF j u w hu hw h1 h2).1 iG
 intro hg;have hg':=hg;rw[grX]at hg;cases hf:C.reverse.find? (S2 x)with
 |none=>rw[hf]at hg;simp at hg
 |some c=>
  have hc:=zzfi.1 (zzea hf);have hi:=zzgx hf;simp only[S2,decide_eq_true_eq]at hi;obtain⟨m1,m2⟩:=dK c hc;obtain⟨k1,cZ⟩:=zzfq m1;obtain⟨k2,dw⟩:=zzfq m2;have a1:=(Zr (x:=x+1) nE cZ).2 (by omega);have a2:=Zr (x:=x+1) nE dw;have l2:=(zza.1 dw).1;obtain⟨j,hj⟩:∃j,qW (dB C) (x+1)=j+1:=⟨qW (dB C) (x+1)-1,by omega⟩;have ew:j+1<(dB C).length:=by omega
  obtain⟨u,hu⟩:∃u,(dB C)[j]?=some u:=⟨_,zzad (by omega)⟩;obtain⟨w,hw⟩:∃w,(dB C)[j+1]?=some w:=⟨_,zzad ew⟩;have b1:=Zr (x:=x+1) nE hu;have b2:=Zr (x:=x+1) nE hw;exact⟨j,by omega,(abF j u w hu hw (by omega) (by omega)).2 hg',by rw[uM hu];omega,by rw[uM hw];omega⟩
def ahs{cs:List Cl}{item region:Int}:∀c∈Kz cs item region,c.fr<c.to:=by
 intro c hc;simp only[Kz,zzcy,FG,Xi,Ug,zzak,decide_eq_true_eq]at hc;obtain⟨_,h1,_,_,h2⟩:=hc;rw[if_pos h1]at h2;simp at h2;omega
def MJ(cs:List Cl)(item region x:Int):Xq (Qcb cs item region) x<->grX (Kz cs item region) x=true:=by
 rw[Qcb,(Zw _).2,avr _ ahs]
def NE(L:List Sp):Prop:=∀s∈L,s.1<s.2
def aht{L:List Sp}{f t:Int}(h:NE L):NE (nG L f t)/\∀x,Xq (nG L f t) x<->Xq L x\/(f<=x/\x<t):=by
 unfold nG;split
 ·rename_i Ti;cases hl:L.getLast? with
  |none=>
   have:L=[]:=by simpa using hl
   subst this;refine⟨by intro s hs;simp at hs;subst hs;exact Ti,fun x=>by simp⟩
  |some s=>
   obtain⟨D,rfl⟩:∃D,L=D++[s]:=by
    have aJ:L≠[]:=by rintro rfl;simp at hl
    refine⟨L.dropLast,?_⟩;have h1:=zzer aJ;rw[List.getLast?_eq_some_getLast aJ]at hl;cases hl;exact h1.symm
   have hs:=h s (by simp);simp only;split
   ·rename_i e;simp only[zzfr];refine⟨?_,fun x=>?_⟩
    ·intro u hu;rw[zzap]at hu;obtain hu|hu:=hu
     ·exact h u (by simp[hu])
     simp at hu;subst hu;simp only;omega
    simp only[Yp,Xd,Ym,or_false,or_assoc];constructor
    ·rintro(h|h)
     ·exact .inl h
     by_cases x<s.2
     ·exact .inr (.inl (by omega))
     exact .inr (.inr (by omega))
    rintro(h|h|h)
    ·exact .inl h
    ·exact .inr (by omega)
    exact .inr (by omega)
   refine⟨?_,fun x=>by simp[or_assoc]⟩;intro u hu;rw[zzap]at hu;obtain hu|hu:=hu
   ·exact h u hu
   simp at hu;subst hu;exact Ti
 refine⟨h,fun x=>?_⟩;constructor
 ·exact .inl
 rintro(h|h)
 ·exact h
 omega
def inW(W:List Sp)(n:Int):Prop:=∃w∈W,w.1<=n/\n<w.2
def Pz(sf st mid:Int):∀{W L:List Sp},NE L->NE (o6 sf st mid W L)/\∀x,Xq (o6 sf st mid W L) x<->Xq L x\/(sf<=x/\x<st/\inW W (x-mid))
 |[],L,h=>⟨h,fun x=>by simp[o6,inW]⟩
 |w::W,L,h=>by
  obtain⟨a1,a2⟩:=aht (f:=max sf (mid+w.1)) (t:=min st (mid+w.2)) h;obtain⟨b1,b2⟩:=Pz sf st mid (W:=W) a1;refine⟨b1,fun x=>?_⟩;rw[o6,b2,a2];simp only[inW,zzau,exists_eq_or_imp];constructor
  ·rintro((h|h)|⟨h1,h2,h3⟩)
   ·exact .inl h
   ·exact .inr ⟨by omega,by omega,.inl (by omega)⟩
   exact .inr ⟨h1,h2,.inr h3⟩
  rintro(h|⟨h1,h2,h3|h3⟩)
  ·exact .inl (.inl h)
  ·exact .inl (.inr (by omega))
  exact .inr ⟨h1,h2,h3⟩
def ahu(W:List Sp):Prop:=∀w∈W,0<=w.1/\w.2<=86400
def ahv{W:List Sp}(hW:ahu W)(sf st o:Int):∀(n:Nat)(d:Int){L:List Sp},(st-(d*86400-o)).toNat<=n->NE L->NE (nH W sf st (d*86400-o) L)/\
  ∀x,Xq (nH W sf st (d*86400-o) L) x<->Xq L x\/(sf<=x/\x<st/\d<=(x+o)/86400/\inW W ((x+o)%86400)):=by
 intro n;induction n with
 |zero=>
  intro d L h hL;rw[nH,if_neg (by omega)];refine⟨hL,fun x=>⟨.inl,?_⟩⟩;rintro(h|⟨h1,h2,h3,h4⟩)
  ·exact h
  omega
 |succ n ih=>
  intro d L h hL;rw[nH];split
  ·rename_i hm;obtain⟨a1,a2⟩:=Pz sf st (d*86400-o) (W:=W) hL;have e:d*86400-o+86400=(d+1)*86400-o:=by omega
   rw[e];obtain⟨b1,b2⟩:=ih (d+1) (by omega) a1;refine⟨b1,fun x=>?_⟩;rw[b2,a2];constructor
   ·rintro((h|⟨h1,h2,w,hw,h3,h4⟩)|⟨h1,h2,h3,h4⟩)
    ·exact .inl h
    ·have:=hW w hw;have hd:(x+o)/86400=d:=by omega
     exact .inr ⟨h1,h2,by omega,w,hw,by omega,by omega⟩
    exact .inr ⟨h1,h2,by omega,h4⟩
   rintro(h|⟨h1,h2,h3,h4⟩)
   ·exact .inl (.inl h)
   by_cases hd:(x+o)/86400=d
   ·obtain⟨w,hw,h5,h6⟩:=h4;exact .inl (.inr ⟨h1,h2,w,hw,by omega,by omega⟩)
   exact .inr ⟨h1,h2,by omega,h4⟩
  rename_i hm;refine⟨hL,fun x=>⟨.inl,?_⟩⟩;rintro(h|⟨h1,h2,h3,h4⟩)
  ·exact h
  omega
def ao3{s:Sp}{W:List Sp}(hW:ahu W)(y:Int×Int×Int){L:List Sp}(hL:NE L):NE (stL s W y L)/\
  ∀x,Xq (stL s W y L) x<->Xq L x\/(y.1<=x/\x<y.2.1/\s.1<=x/\x<s.2/\inW W ((x+y.2.2)%86400)):=by
 unfold stL;split
 ·refine⟨hL,fun x=>⟨.inl,?_⟩⟩;rintro(h|⟨h1,h2,h3,h4,_⟩)
  ·exact h
  omega
 obtain⟨a1,a2⟩:=ahv hW (max y.1 s.1) (min y.2.1 s.2) y.2.2 _ ((max y.1 s.1+y.2.2)/86400) (zzab _) hL;refine⟨a1,fun x=>?_⟩;rw[a2];constructor
 ·rintro(h|⟨h1,h2,h3,h4⟩)
  ·exact .inl h
  exact .inr ⟨by omega,by omega,by omega,by omega,h4⟩
 rintro(h|⟨h1,h2,h3,h4,h5⟩)
 ·exact .inl h
 exact .inr ⟨by omega,by omega,by omega,h5⟩
def PA{s:Sp}{W:List Sp}(hW:ahu W):∀{xs:List (Int×Int×Int)}{L:List Sp},xs.Pairwise (fun a b=>a.1<=b.1)->NE L->∀x,Xq (tM s W xs L) x<->Xq L x\/(s.1<=x/\x<s.2/\∃y∈xs,y.1<=x/\x<y.2.1/\inW W ((x+y.2.2)%86400))
 |[],L,_,hL,x=>by simp[tM]
 |y::r,L,hp,hL,x=>by
  obtain⟨p1,p2⟩:=zzbz.1 hp;rw[tM];split
  ·rename_i hb;constructor
   ·exact .inl
   rintro(h|⟨h1,h2,z,hz,h3,h4,_⟩)
   ·exact h
   rcases zzau.1 hz with rfl|hz
   ·omega
   have:=p1 z hz;omega
  obtain⟨a1,a2⟩:=ao3 (s:=s) hW y hL;rw[PA hW p2 a1,a2];simp only[zzau,exists_eq_or_imp];constructor
  ·rintro((h|⟨h1,h2,h3,h4,h5⟩)|⟨h1,h2,h3⟩)
   ·exact .inl h
   ·exact .inr ⟨h3,h4,.inl ⟨h1,h2,h5⟩⟩
   exact .inr ⟨h1,h2,.inr h3⟩
  rintro(h|⟨h1,h2,⟨h3,h4,h5⟩|h3⟩)
  ·exact .inl (.inl h)
  ·exact .inl (.inr ⟨h3,h4,h1,h2,h5⟩)
  exact .inr ⟨h1,h2,h3⟩
def yA(of:Int)(sh:List Sp)(x:Int):Int:=sh.foldl (fun n s=>if s.1<=x then s.2 else n) of
def Ia:∀{sh:List Sp}{last:Int},tN last sh=true->sh.Pairwise (fun a b=>a.1<b.1)/\∀s∈sh,last<s.1/\s.1<=10000000000/\gQ s.2=true
 |[],_,_=>⟨.nil,fun _ h=>by cases h⟩
 |a::r,last,h=>by
  rw[tN]at h;split at h
  ·cases h
  rename_i hn;simp only[not_or,zzgf]at hn;obtain⟨h1,h2⟩:=Ia h;refine⟨zzbz.2 ⟨fun b hb=>(h2 b hb).1,h1⟩,?_⟩;intro s hs;rcases zzau.1 hs with rfl|hs
  ·exact⟨by omega,by omega,hn.2.2⟩
  have:=h2 s hs;exact⟨by omega,this.2⟩
def BK{x:Int}:∀{sh:List Sp}(o:Int),(∀s∈sh,x<s.1)->yA o sh x=o
 |[],o,_=>rfl
 |a::r,o,h=>by
  have:=h a (by simp);rw[yA,zzcx,if_neg (by omega)];exact BK o fun s hs=>h s (by simp[hs])
def Ib{P:Int->Prop}:∀{sh:List Sp}{f o:Int},(∀s∈sh,f<=s.1/\s.1<=10000000000)->sh.Pairwise (fun a b=>a.1<b.1)->f<=10000000000->∀x,(∃y∈ur f o sh,y.1<=x/\x<y.2.1/\P y.2.2)<->f<=x/\x<=10000000000/\P (yA o sh x)
 |[],f,o,_,_,hf,x=>by
  simp only[ur,zzbr,exists_eq_left,yA,List.foldl_nil];constructor
  ·rintro⟨h1,h2,h3⟩;exact⟨h1,by omega,h3⟩
  rintro⟨h1,h2,h3⟩;exact⟨h1,by omega,h3⟩
 |s::r,f,o,hb,hp,hf,x=>by
  obtain⟨p1,p2⟩:=zzbz.1 hp;have hs:=hb s (by simp);have ih:=Ib (P:=P) (o:=s.2) (f:=s.1) (sh:=r) (fun t ht=>⟨by have:=p1 t ht;omega,(hb t (by simp[ht])).2⟩) p2 hs.2 x
  have e:(∃y∈ur f o (s::r),y.1<=x/\x<y.2.1/\P y.2.2)<->(f<=x/\x<s.1/\P o)\/∃y∈ur s.1 s.2 r,y.1<=x/\x<y.2.1/\P y.2.2:=by
   rw[ur];simp only[zzap,or_and_right,exists_or];refine or_congr ?_ Iff.rfl;split
   ·simp
   simp;intro h1 h2;omega
  have eo:yA o (s::r) x=yA (if s.1<=x then s.2 else o) r x:=rfl;rw[e,ih,eo];by_cases hx:s.1<=x
  ·rw[if_pos hx];constructor
   ·rintro(⟨h1,h2,h3⟩|⟨h1,h2,h3⟩)
    ·omega
    exact⟨by omega,h2,h3⟩
   rintro⟨h1,h2,h3⟩;exact .inr ⟨hx,h2,h3⟩
  rw[if_neg hx];have hn:=BK (x:=x) (sh:=r) o fun t ht=>by have:=p1 t ht;omega
  rw[hn];constructor
  ·rintro(⟨h1,h2,h3⟩|⟨h1,h2,h3⟩)
   ·exact⟨h1,by omega,h3⟩
   omega
  rintro⟨h1,h2,h3⟩;exact .inl ⟨h1,by omega,h3⟩
def Ic:∀{sh:List Sp}{f o:Int},(∀s∈sh,f<=s.1)->sh.Pairwise (fun a b=>a.1<b.1)->(ur f o sh).Pairwise (fun a b=>a.1<=b.1)/\∀y∈ur f o sh,f<=y.1
 |[],f,o,_,_=>by simp[ur]
 |s::r,f,o,hb,hp=>by
  obtain⟨p1,p2⟩:=zzbz.1 hp;have hs:=hb s (by simp);obtain⟨i1,i2⟩:=Ic (f:=s.1) (o:=s.2) (sh:=r) (fun t ht=>by have:=p1 t ht;omega) p2;rw[ur];refine⟨?_,?_⟩
  ·rw[zzfp];refine⟨by split<;>simp,i1,?_⟩;intro a ha b cK;have:=i2 b cK;split at ha
   ·simp at ha;subst ha;simp only;omega
   simp at ha
  intro y hy;rw[zzap]at hy;obtain hy|hy:=hy
  ·split at hy
   ·simp at hy;subst hy;exact zzbx _
   simp at hy
  have:=i2 y hy;omega
def PB(of:Int)(sh:List Sp)(x fr to:Int):Prop:=0<=x/\x<=10000000000/\inW (zq fr to) ((x+yA of sh x)%86400)
def abG{of:Int}{sh:List Sp}{s:Sp}{fr to:Int}(h:wQ of sh s fr to=true)(x:Int):Xq (iC of sh s fr to) x<->s.1<=x/\x<s.2/\PB of sh x fr to:=by
 rw[iC,if_pos h];simp only[wQ,Vy,zw,zzak,decide_eq_true_eq]at h;obtain⟨⟨⟨⟨⟨_,_⟩,ha⟩,h1⟩,h2⟩,_⟩:=h;obtain⟨a1,a2⟩:=Ia ha;have hW:ahu (zq fr to):=fun w hw=>by have:=(uv h1 h2).2 w hw;omega
 rw[PA hW (Ic (fun t ht=>by have:=a2 t ht;omega) a1).1 (fun _ h=>by cases h)];rw[Ib (P:=fun o=>inW (zq fr to) ((x+o)%86400)) (fun t ht=>by have:=a2 t ht;omega) a1 (by omega)];simp only[Ym,false_or,PB]
open Go Go.Abs
def PC(p:Pl)(it:It)(region x:Int):Prop:=it.ki=5\/(Ka p=true/\grX (Kz p.cls it.id region) (p.ep+Yk p.nu p.de x)=true/\∀w∈uw p.cls it.ra,PB p.of p.sh (p.ep+Yk p.nu p.de x) w.1 w.2)
def gT(p:Pl)(id region x:Int):Prop:=∃it,Xg id p.aL=some it/\(0<=region/\region<8)/\(0<=x/\x<=100000000)/\PC p it region x
def Ie:∀(Xs:List (List Sp))(a:List Sp)(y:Int),Xq (Xs.foldl zy a) y<->Xq a y/\∀l∈Xs,Xq l y
 |[],a,y=>by simp
 |l::Xs,a,y=>by
  rw[zzcx,Ie Xs,(kT a l).2];simp only[zzau,forall_eq_or_imp,and_assoc]
def D0{nu de s f:Int}(hv:Vb nu de=true)(hs:0<=s/\s<=10000000000)(hf:0<=f/\f<=100000000):wW nu de s<=f<->s<=Yk nu de f:=by
 obtain⟨b1,b2,b3,b4,b5⟩:=Jo hv;rw[wW,if_pos ⟨hv,hs.1,hs.2⟩,Yk,if_pos ⟨hv,hf.1,hf.2⟩];have q0:0<=s*nu:=zzeb hs.1 (by omega);have q1:0<=f*de:=zzeb hf.1 (by omega);rw[zzcl (by omega),zzcl q1]
 have e1:(s*nu+de-1)/de<=f<->s*nu<=f*de:=by
  rw[<- Int.lt_add_one_iff,Int.ediv_lt_iff_lt_mul (by omega)];have:(f+1)*de=f*de+de:=by rw[Int.add_mul];omega
  omega
 rw[e1,Int.le_ediv_iff_mul_le (by omega)]
def MK{p:Pl}{U:List Sp}(hv:Vb p.nu p.de=true)(hU:∀w∈U,(0<=w.1-p.ep/\w.1-p.ep<=10000000000)/\(0<=w.2-p.ep/\w.2-p.ep<=10000000000)){f:Int}(hf:0<=f/\f<=100000000):
  Xq (U.map (ux p)) f<->Xq U (p.ep+Yk p.nu p.de f):=by
 unfold Xq;simp only[zzaw];constructor
 ·rintro⟨_,⟨w,hw,rfl⟩,h1,h2⟩;obtain⟨u1,u2⟩:=hU w hw;have a1:=D0 hv u1 hf;have a2:=D0 hv u2 hf;simp only[ux]at h1 h2;exact⟨w,hw,by omega,by omega⟩
 rintro⟨w,hw,h1,h2⟩;obtain⟨u1,u2⟩:=hU w hw;have a1:=D0 hv u1 hf;have a2:=D0 hv u2 hf;exact⟨_,⟨w,hw,rfl⟩,by simp only[ux];omega,by simp only[ux];omega⟩
def abH{cs:List Cl}{ra:Int}:∀w∈uw cs ra,zw w.1=true/\zw w.2=true:=by
 intro w hw;simp only[uw,zzaw,zzcy,Ig,zzak,decide_eq_true_eq,Xi]at hw;obtain⟨c,⟨_,h1,_,_,h2⟩,rfl⟩:=hw;rw[Ug]at h2;simp only[h1]at h2;simp[Ji,wi]at h2;simp only[zw,decide_eq_true_eq];omega
def ahw(s:Sp):0<=(Rg s).1/\(Rg s).2<=100000001/\∀x,((Rg s).1<=x/\x<(Rg s).2)<->(s.1<=x/\x<s.2/\0<=x/\x<=100000000):=by
 simp only[Rg];refine⟨by omega,by omega,fun x=>?_⟩;omega
def kY(p:Pl)(id region:Int)(s:Sp)(hs:s.2-s.1<=1000000)(x:Int):Xq (Vm p id region s) x<->s.1<=x/\x<s.2/\gT p id region x:=by
 obtain⟨c0,c1,cx⟩:=ahw s;have cl:(Rg s).2-(Rg s).1<=1000000:=by simp only[Rg];omega
 unfold Vm gT;generalize Rg s=c at*
 cases hf:Xg id p.aL with
 |none=>simp
 |some it=>
  simp only[Option.some.injEq,exists_eq_left'];split
  ·rename_i hb;simp only[Ym,false_iff];rintro⟨h1,h2,h3,h4,_⟩;have:=(cx x).2 ⟨h1,h2,h4⟩;omega
  rename_i hb;simp only[not_or]at hb;split
  ·rename_i hk;simp only[Xd,Ym,or_false,PC,hk,true_or,and_true];rw[cx x];constructor
   ·rintro⟨h1,h2,h3,h4⟩;exact⟨h1,h2,by omega,h3,h4⟩
   rintro⟨h1,h2,h3,h4⟩;exact⟨h1,h2,h4⟩
  rename_i hk;split
  ·rename_i ht;simp[PC,hk,ht]
  rename_i ht;have YZ:Ka p=true:=by simpa using ht
  have hte:Vb p.nu p.de=true/\Vy p.of p.sh=true/\0<=p.ep/\p.ep<=9000000000:=by
   simp only[Ka,zzak,decide_eq_true_eq]at YZ;exact⟨YZ.1.1,YZ.1.2,YZ.2⟩
  obtain⟨hv,hz,he⟩:=hte;rw[(kT _ _).2];obtain⟨u,hu⟩:∃u,uS p c=u:=⟨_,rfl⟩;have hu1:u.1=p.ep+Yk p.nu p.de c.1:=by rw[<- hu];rfl
  have J6:u.2=p.ep+Yk p.nu p.de (c.2-1)+1:=by rw[<- hu];rfl
  rw[hu];have hd:=kU (f:=c.1) (g:=c.2-1) hv (by omega) (by omega) (by omega);have hs1:=o7 p.nu p.de c.1;have KI:=o7 p.nu p.de (c.2-1)
  have NW:0<=Yk p.nu p.de c.1:=by
   rw[Yk,if_pos ⟨hv,by omega,by omega⟩];exact Int.tdiv_nonneg (zzeb (by omega) (by have:=Jo hv;omega)) (by have:=Jo hv;omega)
  have dz:iD p it region u (lQ p it region u).length=(lQ p it region u).foldl zy [u]:=by simp[iD]
  have bJ:Tk u.1 u.2 (iD p it region u (lQ p it region u).length):=by
   rw[dz];exact CV _ _ (by intro w hw;simp at hw;subst hw;omega)
  by_cases hx:c.1<=x/\x<c.2
  ·have oD:=(cx x).1 hx;have m1:=kU (f:=c.1) (g:=x) hv (by omega) (by omega) (by omega);have m2:=kU (f:=x) (g:=c.2-1) hv (by omega) (by omega) (by omega);rw[MK hv (fun w hw=>by have:=bJ w hw;omega) ⟨by omega,by omega⟩,dz,Ie];simp only[Xd,Ym,or_false,PC,hk,false_or,YZ,true_and]
   have hl:(∀l∈lQ p it region u,Xq l (p.ep+Yk p.nu p.de x))<->(grX (Kz p.cls it.id region) (p.ep+Yk p.nu p.de x)=true/\∀w∈uw p.cls it.ra,PB p.of p.sh (p.ep+Yk p.nu p.de x) w.1 w.2):=by
    unfold lQ;simp only[zzau,forall_eq_or_imp,zzaw,forall_exists_index,and_imp,forall_apply_eq_imp_iff₂];rw[MJ];refine and_congr Iff.rfl (forall_congr' fun w=>forall_congr' fun hw=>?_);obtain⟨d1,d2⟩:=abH w hw;rw[abG (by simp only[wQ,hz,d1,d2,zzgc,zzdz,decide_eq_true_eq];omega)];constructor
    ·rintro⟨_,_,h⟩;exact h
    intro h;exact⟨by omega,by omega,h⟩
   rw[hl];constructor
   ·rintro⟨⟨_,h⟩,_⟩;exact⟨oD.1,oD.2.1,by omega,oD.2.2,h⟩
   rintro⟨_,_,_,_,h⟩;exact⟨⟨by omega,h⟩,hx⟩
  simp only[Xd,Ym,or_false];constructor
  ·rintro⟨_,h⟩;exact absurd h hx
  rintro⟨h1,h2,_,h4,_⟩;exact absurd ((cx x).2 ⟨h1,h2,h4⟩) hx
def LH(p:Pl)(id region f n:Int):Xv p id region f n=true<->(1<=n/\n<=1000000/\0<=f/\f+n-1<=100000000)/\∀x,f<=x->x<f+n->gT p id region x:=by
 unfold Xv;split
 ·rename_i hb;simp only[zzbq,false_iff];rintro⟨⟨h1,h2,h3,h4⟩,_⟩;obtain h|h|h|h:=hb
  ·omega
  ·omega
  ·simp[frB]at h;omega
  simp[frB]at h;omega
 rename_i hb;simp only[not_or,zzgf,frB,decide_eq_true_eq]at hb;obtain⟨b1,b2,b3,b4⟩:=hb;rw[List.isEmpty_iff,ML (by simp only;omega)];constructor
 ·intro h;refine⟨by omega,fun x h1 h2=>?_⟩;exact((kY p id region (f,f+n) (by simp only;omega) x).1 (h x h1 h2)).2.2
 rintro⟨_,h⟩ x h1 h2;exact(kY p id region (f,f+n) (by simp only;omega) x).2 ⟨h1,h2,h x h1 h2⟩
end Go.Proofs.YtnopaopphmjnmaaGreatDoor
