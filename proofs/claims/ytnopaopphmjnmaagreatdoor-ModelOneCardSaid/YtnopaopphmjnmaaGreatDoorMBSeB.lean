import Derived.Test.YtnopaopphmjnmaaGreatDoorMBML
set_option linter.all false
set_option maxRecDepth 100000
set_option maxHeartbeats 64000000
namespace Go.Proofs.YtnopaopphmjnmaaGreatDoor
open Go Go.Abs
def aa7{lo hi:Int}{a b:List Sp}(h:SZ lo hi b):SZ lo hi (zg a b):=by
 obtain⟨⟨h1,_⟩,h2⟩:=kM a b;intro w hw;have ai:=h1 w hw;obtain⟨s,hs,s1,s2⟩:=((h2 w.1).1 ⟨w,hw,by omega,ai⟩).2;obtain⟨t,ht,t1,t2⟩:=((h2 (w.2-1)).1 ⟨w,hw,by omega,by omega⟩).2;have:=h s hs;have:=h t ht;omega
def Qcm(p:Pl)(id region:Int)(s:Sp):(Vo p id region s).length<=1000000:=by
 unfold Vo;simp only;generalize QM s=c;cases Xh id p.aM with
 |none=>simp
 |some x=>
  simp only;split
  ·simp
  rename_i hb;simp only[not_or]at hb;split
  ·simp
  split
  ·simp
  have bI:SZ c.1 c.2 [c]:=by intro w hw;simp at hw;subst hw;omega
  have:=KJ _ c.1 c.2 (kM ((iq p x region (uS p c) (lM p x region (uS p c)).length).map (ua p)) [c]).1 (fun w hw=>by have:=aa7 bI w hw;omega);omega
def frB(f:Int):Bool:=decide (0<=f/\f<=100000000)
def Xw(p:Pl)(id region f n:Int):Bool:=
 if n<1\/1000000<n\/frB f=false\/frB (f+n-1)=false then false else(CO [(f,f+n)] (Vo p id region (f,f+n))).isEmpty
def Br(p:Pl)(id region f n:Int):Nat->FuncId->List AV->AV:=fun d g l=>
 if g=57 then(match l with|[.int _ n]=>.bool (frB n)|_=>.junk)else
 if g=59 then .sl .ro ((Vo p id region (f,f+n)).map Qe)else
 if g=58 then .bool (CO [(f,f+n)] (Vo p id region (f,f+n))).isEmpty else .junk
def Qdw(p:Pl)(id region f n:Int)(hc:p.cls.length<=1000000)(gD:p.sh.length<=1000000000)(cH:p.aM.length<=1000000000):
  Pure Tryz.prog az 30 [.agg (Qc p),I id,I region,I f,I n] (.bool (Xw p id region f n)):=by
 have Sl:=sQ f;have agE:=sQ (f+n-1);refine Qn akl (Br p id region f n) (by simp) ?_;by_cases b1:n<1
 ·simp[Pj,Qc,Br,Pk,b1,Xw]
 by_cases b2:1000000<n
 ·simp[Pj,Qc,Br,Pk,b1,b2,Xw]
 by_cases b3:frB f=true
 ·have b3':0<=f/\f<=100000000:=by simpa[frB]using b3
  have eU:IntKind.i64.wrap (f+n)=f+n:=by rw[Qi]<;>omega
  have ee:IntKind.i64.wrap (f+n-1)=f+n-1:=by rw[Qi]<;>omega
  rw[show decide (0<=f/\f<=100000000)=true from b3]at Sl;by_cases b4:frB (f+n-1)=true
  ·rw[show decide (0<=f+n-1/\f+n-1<=100000000)=true from b4]at agE;have k36:=nD p id region (f,f+n) hc gD cH (by simp only;omega) (by simp only;omega);have k35:=HS (Vo p id region (f,f+n)) (f,f+n) (by have:=Qcm p id region (f,f+n);omega);simp[Pj,Qc,Br,Pk,b1,b2,b3,b4,eU,ee,Xw];exact⟨Sl,agE,k36,k35⟩
  have b4':frB (f+n-1)=false:=by simpa using b4
  rw[show decide (0<=f+n-1/\f+n-1<=100000000)=false from b4']at agE;simp[Pj,Qc,Br,Pk,b1,b2,b3,b4',eU,ee,Xw];exact⟨Sl,agE⟩
 have b3':frB f=false:=by simpa using b3
 rw[show decide (0<=f/\f<=100000000)=false from b3']at Sl;simp[Pj,Qc,Br,Pk,b1,b2,b3',Xw];exact Sl
open Go Go.Abs
def Zf(id:Int):List En->Option En
 |[]=>none
 |x::r=>if x.id=id then some x else Zf id r
def Ww:Option En->AV
 |some x=>.aV [.agg (Qd x),.bool true]
 |none=>.aV [.agg [I 0,I 0,I 0,I 0,I 0,I 0,.sl .nil []],.bool false]
def nO(e:En):Pure Tryz.prog az 204 [.agg (Qd e)] (I e.id):=by
 refine Qn acV (fun _ _ _=>.junk) (by simp) ?_;simp[ahz,Qd,ahA]
def Mf(L:List En)(id:Int)(hl:L.length<=1000000000):Pure Tryz.prog az 203 [.sl .ro (L.map Qd),I id,.fn 204 [] []] (Ww (Zf id L)):=by
 refine Qn BH (fun _ f l=>if f=204 then(match l with|[.agg (c::_)]=>c|_=>.junk)else .junk) (by simp) ?_;simp[M6];refine Qj dU (fun f m=>∃(i:Nat)(bx:List (List AV)),f 13=I i/\i<=L.length/\Zf id (L.drop i)=Zf id L/\m=⟨[I 0,I 0,I 0,I 0,I 0,I 0,.sl .nil []]::bx,[],fun _=>.gone,0⟩) (fun f _=>L.length-(numOf (f 13)).toNat) ?_ ?_
 ·exact⟨0,[],by simp,by omega,rfl,rfl⟩
 rintro f m ⟨i,bx,jk,hi,hf,rfl⟩;rcases zzaa i L.length with ai|bB
 ·obtain⟨x,hx⟩:=aR ai;have aa:Qh (L.map Qd) i=Qd x:=Qs (by simp[hx]);have ah:(i:Int)<(L.length:Int):=by omega
  have hw:=bJ i (by omega);have hd:L.drop i=x::L.drop (i+1):=by rw[zzaf ai,(zza.1 hx).2]
  have hk:=nO x;rw[hd,Zf]at hf;by_cases aO:x.id=id
  ·rw[if_pos aO]at hf;simp[jk,ah,aa,Qd,aO,dU,uU,<- hf,Ww];simpa[Qd,aO]using hk
  rw[if_neg aO]at hf;simp[jk,ah,aa,Qd,aO,dU,hw];refine⟨hk,aN,⟨i+1,by simp,by omega,hf⟩,by omega⟩
 rw[zzan bB]at hf;have bI:¬(i:Int)<(L.length:Int):=by omega
 simp[jk,bI,dU,uU,<- hf,Ww,Zf]
open Go Go.Abs
def Mg{w:World}{γ:G}{rows:List (List AV)}{v:Value}(h:aB w γ (.sl .ro rows) v):aB w γ (.sl .nil rows) v\/aB w γ (.sl .nn rows) v:=by
 cases h with
 |sl b off sz cv hcap hnil ha hsz hc hr aT=>
  rename_i a cap;by_cases e:a=none
  ·exact .inl (.sl b off sz cv hcap hnil ha hsz hc hr e)
  exact .inr (.sl b off sz cv hcap hnil ha hsz hc hr e)
def Vm{P:Program}{gl:Nat->AV}{f:FuncId}{rows:List (List AV)}{r:AV}(h:Pure P gl f [.sl .nil rows] r)(k:Pure P gl f [.sl .nn rows] r):Pure P gl f [.sl .ro rows] r:=
 ⟨h.1,fun ro w vs iQ hr=>by
  match vs,hr with
  |[v],hr=>
   rcases Mg (hr.2 0 _ v rfl rfl)with h1|h1
   ·exact h.2 ro w [v] iQ ⟨rfl,fun i x y hx hy=>by
     cases i with
     |zero=>cases hx;cases hy;exact h1
     |succ i=>cases hx⟩
   exact k.2 ro w [v] iQ ⟨rfl,fun i x y hx hy=>by
    cases i with
    |zero=>cases hx;cases hy;exact h1
    |succ i=>cases hx⟩
  |[],hr=>exact absurd hr.1 (by simp)
  |_::_::_,hr=>exact absurd hr.1 (by simp)⟩
def DH:Pure Tryz.prog az 88 [.sl .nn []] (.sl .ro []):=by
 have:∃rt,Pure Tryz.prog az 88 [.sl .nn []] (.sl rt []):=by
  refine⟨.ro,Qn IP (fun _ _ _=>.junk) (by simp) ?_⟩;simp[abG,abH]
 obtain⟨rt,h⟩:=this;exact Qy h (Wk.sl _ _)
def Us(l:List Sp)(hl:l.length<=8796093022208):Pure Tryz.prog az 88 [.sl .ro (l.map Qe)] (.sl .ro (l.map Qe)):=by
 cases l with
 |nil=>exact Vm (Qy jN (Wk.sl _ _)) DH
 |cons x r=>
  refine Qn IP (fun _ _ _=>.junk) (by simp) ?_;simp[abG,abH];simp at hl;refine⟨⟨rfl,?_⟩,by omega⟩;rintro row a b _ rfl;rfl
def KQ(p:Pl)(id:Int)(hl:p.ens.length<=1000000000)(ha:∀e∈p.ens,e.al.length<=8796093022208):Pure Tryz.prog az 130 [.agg (Qc p),I id] (Ww (Zf id p.ens)):=by
 have h59:=Mf p.ens id hl;refine Qn ML (fun _ f l=>if f=203 then Ww (Zf id p.ens)else l.headD .junk) (by simp) ?_;cases hf:Zf id p.ens with
 |none=>
  rw[hf]at h59;simp[MJ,MK,Qc,Ww];exact⟨h59,jN⟩
 |some x=>
  rw[hf]at h59
  have hx:x∈p.ens:=by
   have:∀l:List En,Zf id l=some x->x∈l:=by
    intro l;induction l with
    |nil=>intro h;cases h
    |cons y r ih=>
     intro h;simp only[Zf]at h;split at h
     ·cases h;simp
     simp[ih h]
   exact this _ hf
  have hc:=Us x.al (ha x hx);simp[MJ,MK,Qc,Ww,Qd];exact⟨h59,hc⟩
open Go Go.Abs
def Mh(e:It):Pure Tryz.prog az 56 [.agg (Qm e)] (I e.id):=by
 refine Qn Tj (fun _ _ _=>.junk) (by simp) ?_;simp[akC,Qm,akD]
def xN(L:List It)(id:Int)(hl:L.length<=1000000000):Pure Tryz.prog az 55 [.sl .ro (L.map Qm),I id,.fn 56 [] []] (Zp (Xh id L)):=by
 refine Qn akB (fun _ f l=>if f=56 then(match l with|[.agg (c::_)]=>c|_=>.junk)else .junk) (by simp) ?_;simp[aoB];refine Qj Mw (fun f m=>∃(i:Nat)(bx:List (List AV)),f 13=I i/\i<=L.length/\Xh id (L.drop i)=Xh id L/\m=⟨[I 0,I 0,I 0,I 0,I 0]::bx,[],fun _=>.gone,0⟩) (fun f _=>L.length-(numOf (f 13)).toNat) ?_ ?_
 ·exact⟨0,[],by simp,by omega,rfl,rfl⟩
 rintro f m ⟨i,bx,jk,hi,hf,rfl⟩;rcases zzaa i L.length with ai|bB
 ·obtain⟨x,hx⟩:=aR ai;have aa:Qh (L.map Qm) i=Qm x:=Qs (by simp[hx]);have ah:(i:Int)<(L.length:Int):=by omega
  have hw:=bJ i (by omega);have hd:L.drop i=x::L.drop (i+1):=by rw[zzaf ai,(zza.1 hx).2]
  have hk:=Mh x;rw[hd,Xh]at hf;by_cases aO:x.id=id
  ·rw[if_pos aO]at hf;simp[jk,ah,aa,Qm,aO,Mw,akA,<- hf,Zp];simpa[Qm,aO]using hk
  rw[if_neg aO]at hf;simp[jk,ah,aa,Qm,aO,Mw,hw];refine⟨hk,aN,⟨i+1,by simp,by omega,hf⟩,by omega⟩
 rw[zzan bB]at hf;have bI:¬(i:Int)<(L.length:Int):=by omega
 simp[jk,bI,Mw,akA,<- hf,Zp,Xh]
def SD(p:Pl)(id:Int)(hl:p.aM.length<=1000000000):Pure Tryz.prog az 29 [.agg (Qc p),I id] (Zp (Xh id p.aM)):=by
 have h:=xN p.aM id hl;refine Qn Th (fun _ f l=>if f=55 then Zp (Xh id p.aM)else .junk) (by simp) ?_;cases hf:Xh id p.aM with
 |none=>
  rw[hf]at h;simp[Tf,Tg,Qc,Zp];exact h
 |some x=>
  rw[hf]at h;simp[Tf,Tg,Qc,Zp,Qm];exact h
def wL(p:Pl)(f t:Int):Pure Tryz.prog az 131 [.agg (Qc p),I f,I t] (.fn 205 [] [.ep (Qc p) 0,.ep [I f] 0,.ep [I t] 0]):=by
 refine Qn acd (fun _ _ _=>.junk) (by simp) ?_;simp[ag9,aha,Qc]
open Go Go.Abs
def Uo(b:Nat->Bool):Nat->Int
 |0=>0
 |n+1=>Uo b n+if b n then 2 ^ n else 0
def Dd(b:Nat->Bool):∀n,0<=Uo b n/\Uo b n<2 ^ n
 |0=>by simp[Uo]
 |n+1=>by
  have:=Dd b n;have h2:(2:Int) ^ (n+1)=2*2 ^ n:=by rw[Int.pow_succ];omega
  rw[Uo,h2];split<;>omega
def ZN:∀i:Nat,i<8->∀x:Nat,x<2 ^ i->IntKind.i64.wrap (((((x:Int)%2 ^ IntKind.i64.bits).toNat|||(IntKind.i64.wrap (2 ^ min i IntKind.i64.bits)%2 ^ IntKind.i64.bits).toNat:Nat)):Int)=(x:Int)+2 ^ i:=by
 decide+kernel
def sj(Y:YT)(p:Pl)(h:FuncId)(cap:List AV)(b:Nat->Bool)(m:AM)(K:AV->AM->Prop)
  (hg:∀(i:Nat)(mm:AM),i<8->(i:Int)<p.rg->(∃bx,mm=⟨m.boxes++bx,m.lens,m.st,m.ln⟩)->∀K':AV->AM->Prop,K' (.bool (b i)) mm->an Tryz.prog az Y h ([I i]++cap) mm K')
  (hK:∀bx,K (I (Uo b (min p.rg 8).toNat)) ⟨m.boxes++bx,m.lens,m.st,m.ln⟩):an Tryz.prog az Y 206 [.agg (Qc p),.fn h [] cap] m K:=by
 refine Xd acX (fun _ _ _=>.gd false .junk) (by simp) ?_;obtain⟨n,hn⟩:∃n,(min p.rg 8).toNat=n:=⟨_,rfl⟩
 have s5:Qh (m.boxes++[Qc p]) m.boxes.length=Qc p:=by
  simp
 rw[hn]at hK;have QJ:(if 8<p.rg then 8 else p.rg)=min p.rg 8:=by omega
 simp only[Qc]at s5;simp[ahB,Qc,s5];refine Qj Jx (fun f mm=>∃(i:Nat)(bx:List (List AV)),f 10=I i/\(i=0\/i<=n)/\mm=⟨m.boxes++bx,m.lens,m.st,m.ln⟩/\f 5=I (Uo b i)) (fun f _=>n-(numOf (f 10)).toNat) ?_ ?_
 ·exact⟨0,_,by simp,.inl rfl,rfl,by simp[Uo]⟩
 rintro f mm ⟨i,bx,nY,hi,rfl,h5⟩;by_cases ai:(i:Int)<min p.rg 8
 ·have bI:i<n:=by omega
  have hw:=bJ i (by omega);have gi:=Dd b i;have hg':=hg i ⟨m.boxes++bx,m.lens,m.st,m.ln⟩ (by omega) (by omega) ⟨_,rfl⟩
  have hor:IntKind.i64.wrap ((((Uo b i%2 ^ IntKind.i64.bits).toNat|||(IntKind.i64.wrap (2 ^ min i IntKind.i64.bits)%2 ^ IntKind.i64.bits).toNat:Nat)):Int)=Uo b i+2 ^ i:=by
   obtain⟨x,hx⟩:∃x:Nat,Uo b i=(x:Int):=⟨(Uo b i).toNat,by omega⟩
   have hx2:x<2 ^ i:=by
    have h2:=gi.2;rw[hx]at h2
    exact_mod_cast h2
   rw[hx];exact ZN i (by omega) x hx2
  have hms:Uo b (i+1)=Uo b i+if b i then 2 ^ i else 0:=rfl;simp[nY,h5,Jx,QJ,ai];refine hg' _ ?_;cases hb:b i with
  |true=>
   rw[hb]at hms;simp[hor,hw];refine⟨aN,⟨i+1,by omega,by omega,by rw[hms];rfl⟩,by omega⟩
  |false=>
   rw[hb]at hms;simp[hw];refine⟨aN,⟨i+1,by omega,by omega,by rw[hms];simp⟩,by omega⟩
 have bI:i=n:=by omega
 subst bI;simp[nY,h5,Jx,QJ,ai,ahC];exact hK _
open Go Go.Abs
def Ur(fr t a:Int):Int:=if 1<=fr then min (t-a) fr else t-a
def Vw(fr t a:Int):List (Int×Int):=if a<t then(a,Ur fr t a)::Vw fr t (a+Ur fr t a)else[]
termination_by(t-a).toNat
decreasing_by simp only[Ur];split<;>omega
def Yb(p:Pl):Int:=match Xh p.fi p.aM with|some x=>x.fr|none=>0
def FR(p:Pl):Int:=Uo (fun _=>true) (min p.rg 8).toNat
def Qau(p:Pl)(x:Int×Int):List AV:=[.agg [I 0,I p.fi,I x.1,I x.2,I 0,I (FR p),.sl .nil []]]
def atD(p:Pl):Nat->FuncId->List AV->AV:=fun _ f _=>if f=29 then Zp (Xh p.fi p.aM)else .gd false .junk
def wK(p:Pl)(f t:Int)(hl:p.aM.length<=1000000000)(hb: -1000000000<=f/\t<=1000000000)(hf:f<=1000000000/\ -1000000000<=t):
  XQ Tryz.prog az 205 [] [.ep (Qc p) 0,.ep [I f] 0,.ep [I t] 0] ((Vw (Yb p) t f).map (Qau p)):=by
 intro Y l m K hF;have Z7:=SD p p.fi hl;refine Xd acW (atD p) (by simp) ?_
 obtain⟨b,row,atE,aa⟩:∃(b:Bool)(y:It),Zp (Xh p.fi p.aM)=.aV [.agg (Qm y),.bool b]/\y.fr=Yb p:=by
  unfold Yb;cases Xh p.fi p.aM with
  |none=>exact⟨false,⟨0,0,0,0,0⟩,rfl,rfl⟩
  |some x=>exact⟨true,x,rfl,rfl⟩
 rw[atE]at Z7;simp[T6,Qc,atD,atE,Qm]
 refine⟨Z7,sj Y p 207 [] (fun _=>true) _ _ (fun i mm _ _ _ K' h=>by
  show an _ _ _ _ [I (i:Int)] _ _;refine Xd acY (fun _ _ _=>.junk) (by simp) ?_;simp[ahD,ahE];exact h) fun bx=>?_⟩
 obtain⟨B0,ji⟩:∃B0,m.boxes.length=B0:=⟨_,rfl⟩;have RP:=hF.ext (m':=⟨m.boxes++[[I row.id,I row.ki,I row.fr,I row.sp,I row.ra]]++bx,m.lens,m.st,m.ln⟩) ⟨by simp,fun j hj _=>by rw[zzbc];exact Ql hj,⟨[],by simp⟩,fun _ _=>rfl⟩;simp only[ji];refine Qj BI (fun g mm=>∃(a:Int)(O:Nat->Prop),g 8=I a/\ -1000000000<=a/\a<=1000000000/\B0<mm.boxes.length/\Qh mm.boxes B0=[I row.id,I row.ki,I row.fr,I row.sp,I row.ra]/\O B0/\jj (Y l) K ((Vw (Yb p) t a).map (Qau p)) O mm) (fun g _=>(t-numOf (g 8)).toNat) ?_ ?_
 ·refine⟨f,_,by simp,by omega,by omega,by simp[ji],?_,.inr ⟨by omega,by simp;omega⟩,RP⟩;show Qh (m.boxes++[_]++bx) B0=_;rw[Ql (by simp;omega)];subst ji;simp
 rintro g mm ⟨a,O,h8,a1,a2,hlm,NX,tj,hFo⟩;by_cases ai:a<t
 ·rw[Vw,if_pos ai]at hFo;simp only[zzaw,Qau]at hFo;have eU:IntKind.i64.wrap (t-a)=t-a:=by rw[Qi]<;>omega
  have DT:Ur (Yb p) t a=if 1<=row.fr then min (t-a) row.fr else t-a:=by rw[Ur,aa]
  have Ir:1<=Ur (Yb p) t a/\Ur (Yb p) t a<=t-a:=by rw[DT];split<;>omega
  have ee:IntKind.i64.wrap (a+Ur (Yb p) t a)=a+Ur (Yb p) t a:=by rw[Qi]<;>omega
  have QJ:(if row.fr<t-a then row.fr else t-a)=min (t-a) row.fr:=by omega
  have hM:Uo (fun _=>true) (min p.rg 8).toNat=FR p:=rfl;generalize hN:Ur (Yb p) t a=N at*
  have key:∀g1,(1<=row.fr->g1=min (t-a) row.fr)->True:=fun _ _=>trivial;have hwN:IntKind.i64.wrap N=N:=by rw[Qi]<;>omega
  by_cases wD:1<=row.fr
  ·rw[if_pos wD]at DT;simp[h8,BI,ai,NX,wD,eU,QJ,<- DT,hM];refine hFo _ (bM.refl _ _) _ (fun m2 wj p9=>?_) (fun m2 hK=>?_)
   ·have q1:Qh m2.boxes B0=[I row.id,I row.ki,I row.fr,I row.sp,I row.ra]:=by rw[wj.2 B0 (.inl tj)];exact NX
    have Az:=wj.1;simp[ee];refine⟨aN,⟨by omega,by omega,by omega,q1,_,.inl tj,p9⟩,by omega⟩
   simp[M7];exact hK _ (bM.refl _ _)
  rw[if_neg wD]at DT;simp[h8,BI,ai,NX,wD,<- DT,hwN,hM];refine hFo _ (bM.refl _ _) _ (fun m2 wj p9=>?_) (fun m2 hK=>?_)
  ·have q1:Qh m2.boxes B0=[I row.id,I row.ki,I row.fr,I row.sp,I row.ra]:=by rw[wj.2 B0 (.inl tj)];exact NX
   have Az:=wj.1;simp[ee];refine⟨aN,⟨by omega,by omega,by omega,q1,_,.inl tj,p9⟩,by omega⟩
  simp[M7];exact hK _ (bM.refl _ _)
 rw[Vw,if_neg ai]at hFo;simp only[zzce]at hFo;simp[h8,BI,ai,M7];exact hFo _ (bM.refl _ _)
open Go Go.Abs
def FQ(Y:YT)(p:Pl)(e:En)(a r fr:Int)(m:AM)(bp bf be:Nat)(hc:p.cls.length<=1000000)(gD:p.sh.length<=1000000000)(cH:p.aM.length<=1000000000)
  (h1:Qh m.boxes bp=Qc p)(h2:Qh m.boxes bf=[I fr])(h3:Qh m.boxes be=Qd e)(K:AV->AM->Prop)(hK:K (.bool (Xw p a r fr e.fr)) m):
  an Tryz.prog az Y 208 [I a,I r,.ptr bp 0,.ptr bf 0,.ptr be 0] m K:=by
 have k:=Qdw p a r fr e.fr hc gD cH;refine Xd acZ (fun _ f _=>if f=30 then .bool (Xw p a r fr e.fr)else .junk) (by simp) ?_;simp only[Qc]at h1;simp only[Qd]at h3;simp[ahF,ahG,h1,h2,h3];exact⟨k,hK⟩
def X1(Y:YT)(p:Pl)(e:En)(r fr:Int)(m:AM)(bp bf be bg:Nat)(hc:p.cls.length<=1000000)(gD:p.sh.length<=1000000000)(cH:p.aM.length<=1000000000)
  (h1:Qh m.boxes bp=Qc p)(h2:Qh m.boxes bf=[I fr])(h3:Qh m.boxes be=Qd e)(h4:Qh m.boxes bg=[.fn 208 [] [.ptr bp 0,.ptr bf 0,.ptr be 0]])(K:AV->AM->Prop)(hK:K (.bool (Xw p e.it r fr e.fr)) m):
  an Tryz.prog az Y 209 [I r,.ptr bg 0,.ptr be 0] m K:=by
 have k:=FQ Y p e e.it r fr m bp bf be hc gD cH h1 h2 h3;refine Xd ac0 (fun _ _ _=>.gd false .junk) (by simp) ?_;simp only[Qd]at h3;simp[ahH,h4,h3];refine k _ ?_;simp[ahI];exact hK
open Go Go.Abs
def SE(x:Int)(c:Cl):Bool:=decide (c.fr<=x/\x<c.to)
def grX(C:List Cl)(x:Int):Bool:=match C.reverse.find? (SE x)with
 |some c=>decide (c.ki=1)
 |none=>false
def find_congr{α:Type}{p q:α->Bool}:∀{l:List α},(∀a∈l,p a=q a)->l.find? p=l.find? q
 |[],_=>rfl
 |a::l,h=>by
  have h1:=h a (by simp);have ih:=find_congr (l:=l) fun b hb=>h b (by simp[hb]);rw[zzf,zzf,h1,ih]
def Zu{x:Int}:∀{l:List Int}{j:Nat}{v:Int},l.Pairwise (·<·)->l[j]?=some v->(j<qK l x<->v<x)
 |[],j,v,_,h=>by simp at h
 |a::r,j,v,hp,h=>by
  obtain⟨h1,h2⟩:=zzbw.1 hp
  have e:qK (a::r) x=qK r x+if a<x then 1 else 0:=by
   unfold qK;rw[zzer];by_cases ha:a<x<;>simp[ha]
  have hz:¬a<x->qK r x=0:=by
   intro ha;unfold qK;rw[zzca,zzeh];intro y hy;have:=h1 y hy;simp;omega
  rw[e];cases j with
  |zero=>
   simp at h;subst h;by_cases ha:a<x
   ·simp[ha]
   simp[ha,hz ha]
  |succ j=>
   simp at h;have hav:=h1 v (zzac h);have ih:=Zu (x:=x) h2 h;by_cases ha:a<x
   ·simp only[ha,if_true];omega
   have:=hz ha;simp only[ha,if_false];omega
def HT(Bd:List Int)(j:Nat)(c:Cl):Bool:=decide (qK Bd c.fr<=j/\j<qK Bd c.to)
def HU(Bd:List Int)(j:Nat):∀(R:List Cl)(s:GS),(R.foldl (QH Bd) s)[j]?=(s[j]?).map fun o=>match o with
  |some v=>some v
  |none=>(R.find? (HT Bd j)).map fun c=>decide (c.ki=1)
 |[],s=>by
  cases h:s[j]? with
  |none=>simp[h]
  |some o=>cases o<;>simp[h]
 |c::R,s=>by
  rw[zzcw,HU Bd j R,QH,Uv,zzf];cases h:s[j]? with
  |none=>simp
  |some o=>
   cases o with
   |some v=>simp
   |none=>
    by_cases hc:qK Bd c.fr<=j/\j<qK Bd c.to
    ·simp[HT,hc]
    simp[HT,hc]
def HV(Bd:List Int)(s:GS)(x:Int):∀n,Xr (nr Bd s n) x<->∃j,j<n/\s[j]?=some (some true)/\Bd.getD j 0<=x/\x<Bd.getD (j+1) 0
 |0=>by simp[nr]
 |n+1=>by
  rw[qM,Yp,HV Bd s x n];unfold Cx;constructor
  ·rintro(⟨j,h1,h2⟩|h)
   ·exact⟨j,by omega,h2⟩
   split at h
   ·rename_i hs;rw[Xc]at h;obtain h|h:=h
    ·exact⟨n,by omega,hs,h⟩
    simp at h
   simp at h
  rintro⟨j,h1,h2,h3⟩;rcases zzaa j n with h|h
  ·exact .inl ⟨j,h,h2,h3⟩
  obtain rfl:j=n:=by omega
  right;rw[if_pos h2,Xc];exact .inl h3
def uy{l:List Int}{j:Nat}{v:Int}(h:l[j]?=some v):l.getD j 0=v:=by
 simp[zzas,h]
def atF(C:List Cl)(hC:∀c∈C,c.fr<c.to)(x:Int):Xr (nr (dA C) (vY C) (dA C).length) x<->grX C x=true:=by
 have nx:=NS C;have dH:∀c∈C,c.fr∈dA C/\c.to∈dA C:=fun c hc=>⟨(tU _ _).2 (oN hc).1,(tU _ _).2 (oN hc).2⟩
 have wm:∀j,j<(dA C).length->(vY C)[j]?=some ((C.reverse.find? (HT (dA C) j)).map fun c=>decide (c.ki=1)):=by
  intro j hj;rw[vY,HU];have:(List.replicate (dA C).length (none:Option Bool))[j]?=some none:=by simp[hj]
  rw[this];rfl
 have key:∀(j:Nat)(u w:Int),(dA C)[j]?=some u->(dA C)[j+1]?=some w->u<=x->x<w->∀c∈C.reverse,HT (dA C) j c=SE x c:=by
  intro j u w hu hw h1 h2 c hc;have p5:=zzfk.1 hc;have a1:=Zu (x:=c.fr) nx hu;have a2:=Zu (x:=c.fr) nx hw;have a3:=Zu (x:=c.to) nx hu;have a4:=Zu (x:=c.to) nx hw;obtain⟨m1,m2⟩:=dH c p5
  have gap:∀y∈dA C,y<=u\/w<=y:=by
   intro y hy;obtain⟨k,hk⟩:=zzfs hy;rcases zzaa j k with h|h
   ·right;have q1:=Zu (x:=w) nx hk;have q2:=Zu (x:=w) nx hw;omega
   left;have q1:=Zu (x:=y) nx hk;have q2:=Zu (x:=y) nx hu;omega
  have g1:=gap _ m1;have g2:=gap _ m2;unfold HT SE;apply decide_eq_decide.2;omega
 have aa8:∀(j:Nat)(u w:Int),(dA C)[j]?=some u->(dA C)[j+1]?=some w->u<=x->x<w->((vY C)[j]?=some (some true)<->grX C x=true):=by
  intro j u w hu hw h1 h2;rw[wm j (zza.1 hu).1,find_congr (key j u w hu hw h1 h2),grX];cases C.reverse.find? (SE x)<;>simp
 rw[HV];constructor
 ·rintro⟨j,hj,hs,h1,h2⟩;have iz:=hs;rw[wm j hj]at hs;cases hf:C.reverse.find? (HT (dA C) j)with
  |none=>rw[hf]at hs;simp at hs
  |some c=>
   have hc:=zzfk.1 (zzdy hf);have hi:=zzgy hf;simp only[HT,decide_eq_true_eq]at hi;have hl:=KB (dH c hc).2;have ek:j+1<(dA C).length:=by omega
   obtain⟨u,hu⟩:∃u,(dA C)[j]?=some u:=⟨_,zzad hj⟩;obtain⟨w,hw⟩:∃w,(dA C)[j+1]?=some w:=⟨_,zzad ek⟩;rw[uy hu]at h1;rw[uy hw]at h2;exact(aa8 j u w hu hw h1 h2).1 iz
 intro hg;have hg':=hg;rw[grX]at hg;cases hf:C.reverse.find? (SE x)with
 |none=>rw[hf]at hg;simp at hg
 |some c=>
  have hc:=zzfk.1 (zzdy hf);have hi:=zzgy hf;simp only[SE,decide_eq_true_eq]at hi;obtain⟨m1,m2⟩:=dH c hc;obtain⟨k1,cV⟩:=zzfs m1;obtain⟨k2,di⟩:=zzfs m2;have a1:=(Zu (x:=x+1) nx cV).2 (by omega);have a2:=Zu (x:=x+1) nx di;have l2:=(zza.1 di).1;obtain⟨j,hj⟩:∃j,qK (dA C) (x+1)=j+1:=⟨qK (dA C) (x+1)-1,by omega⟩;have ek:j+1<(dA C).length:=by omega
  obtain⟨u,hu⟩:∃u,(dA C)[j]?=some u:=⟨_,zzad (by omega)⟩;obtain⟨w,hw⟩:∃w,(dA C)[j+1]?=some w:=⟨_,zzad ek⟩;have b1:=Zu (x:=x+1) nx hu;have b2:=Zu (x:=x+1) nx hw;exact⟨j,by omega,(aa8 j u w hu hw (by omega) (by omega)).2 hg',by rw[uy hu];omega,by rw[uy hw];omega⟩
def agF{cs:List Cl}{item region:Int}:∀c∈Ky cs item region,c.fr<c.to:=by
 intro c hc;simp only[Ky,zzcx,Fu,Xj,Uf,zzak,decide_eq_true_eq]at hc;obtain⟨_,h1,_,_,h2⟩:=hc;rw[if_pos h1]at h2;simp at h2;omega
def Mi(cs:List Cl)(item region x:Int):Xr (Qcc cs item region) x<->grX (Ky cs item region) x=true:=by
 rw[Qcc,(Zy _).2,atF _ agF]
def NE(L:List Sp):Prop:=∀s∈L,s.1<s.2
def agG{L:List Sp}{f t:Int}(h:NE L):NE (nA L f t)/\∀x,Xr (nA L f t) x<->Xr L x\/(f<=x/\x<t):=by
 unfold nA;split
 ·rename_i SX;cases hl:L.getLast? with
  |none=>
   have:L=[]:=by simpa using hl
   subst this;refine⟨by intro s hs;simp at hs;subst hs;exact SX,fun x=>by simp⟩
  |some s=>
   obtain⟨D,rfl⟩:∃D,L=D++[s]:=by
    have aJ:L≠[]:=by rintro rfl;simp at hl
    refine⟨L.dropLast,?_⟩;have h1:=zzeo aJ;rw[List.getLast?_eq_some_getLast aJ]at hl;cases hl;exact h1.symm
   have hs:=h s (by simp);simp only;split
   ·rename_i e;simp only[zzft];refine⟨?_,fun x=>?_⟩
    ·intro u hu;rw[zzal]at hu;obtain hu|hu:=hu
     ·exact h u (by simp[hu])
     simp at hu;subst hu;simp only;omega
    simp only[Yp,Xc,Yl,or_false,or_assoc];constructor
    ·rintro(h|h)
     ·exact .inl h
     by_cases x<s.2
     ·exact .inr (.inl (by omega))
     exact .inr (.inr (by omega))
    rintro(h|h|h)
    ·exact .inl h
    ·exact .inr (by omega)
    exact .inr (by omega)
   refine⟨?_,fun x=>by simp[or_assoc]⟩;intro u hu;rw[zzal]at hu;obtain hu|hu:=hu
   ·exact h u hu
   simp at hu;subst hu;exact SX
 refine⟨h,fun x=>?_⟩;constructor
 ·exact .inl
 rintro(h|h)
 ·exact h
 omega
def inW(W:List Sp)(n:Int):Prop:=∃w∈W,w.1<=n/\n<w.2
def O5(sf st mid:Int):∀{W L:List Sp},NE L->NE (oQ sf st mid W L)/\∀x,Xr (oQ sf st mid W L) x<->Xr L x\/(sf<=x/\x<st/\inW W (x-mid))
 |[],L,h=>⟨h,fun x=>by simp[oQ,inW]⟩
 |w::W,L,h=>by
  obtain⟨a1,a2⟩:=agG (f:=max sf (mid+w.1)) (t:=min st (mid+w.2)) h;obtain⟨b1,b2⟩:=O5 sf st mid (W:=W) a1;refine⟨b1,fun x=>?_⟩;rw[oQ,b2,a2];simp only[inW,zzau,exists_eq_or_imp];constructor
  ·rintro((h|h)|⟨h1,h2,h3⟩)
   ·exact .inl h
   ·exact .inr ⟨by omega,by omega,.inl (by omega)⟩
   exact .inr ⟨h1,h2,.inr h3⟩
  rintro(h|⟨h1,h2,h3|h3⟩)
  ·exact .inl (.inl h)
  ·exact .inl (.inr (by omega))
  exact .inr ⟨h1,h2,h3⟩
def agH(W:List Sp):Prop:=∀w∈W,0<=w.1/\w.2<=86400
def agI{W:List Sp}(hW:agH W)(sf st o:Int):∀(n:Nat)(d:Int){L:List Sp},(st-(d*86400-o)).toNat<=n->NE L->NE (nB W sf st (d*86400-o) L)/\
  ∀x,Xr (nB W sf st (d*86400-o) L) x<->Xr L x\/(sf<=x/\x<st/\d<=(x+o)/86400/\inW W ((x+o)%86400)):=by
 intro n;induction n with
 |zero=>
  intro d L h hL;rw[nB,if_neg (by omega)];refine⟨hL,fun x=>⟨.inl,?_⟩⟩;rintro(h|⟨h1,h2,h3,h4⟩)
  ·exact h
  omega
 |succ n ih=>
  intro d L h hL;rw[nB];split
  ·rename_i hm;obtain⟨a1,a2⟩:=O5 sf st (d*86400-o) (W:=W) hL;have e:d*86400-o+86400=(d+1)*86400-o:=by omega
   rw[e];obtain⟨b1,b2⟩:=ih (d+1) (by omega) a1;refine⟨b1,fun x=>?_⟩;rw[b2,a2];constructor
   ·rintro((h|⟨h1,h2,w,hw,h3,h4⟩)|⟨h1,h2,h3,h4⟩)
    ·exact .inl h
    ·have:=hW w hw;have hd:(x+o)/86400=d:=by omega
     exact .inr ⟨h1,h2,by omega,w,hw,by omega,by omega⟩
    exact .inr ⟨h1,h2,by omega,h4⟩
   rintro(h|⟨h1,h2,h3,h4⟩)
   ·exact .inl (.inl h)
   by_cases hd:(x+o)/86400=d
   ·obtain⟨w,hw,h5,h6⟩:=h4;exact .inl (.inr ⟨h1,h2,w,hw,by omega,by omega⟩)
   exact .inr ⟨h1,h2,by omega,h4⟩
  rename_i hm;refine⟨hL,fun x=>⟨.inl,?_⟩⟩;rintro(h|⟨h1,h2,h3,h4⟩)
  ·exact h
  omega
def anC{s:Sp}{W:List Sp}(hW:agH W)(y:Int×Int×Int){L:List Sp}(hL:NE L):NE (stL s W y L)/\
  ∀x,Xr (stL s W y L) x<->Xr L x\/(y.1<=x/\x<y.2.1/\s.1<=x/\x<s.2/\inW W ((x+y.2.2)%86400)):=by
 unfold stL;split
 ·refine⟨hL,fun x=>⟨.inl,?_⟩⟩;rintro(h|⟨h1,h2,h3,h4,_⟩)
  ·exact h
  omega
 obtain⟨a1,a2⟩:=agI hW (max y.1 s.1) (min y.2.1 s.2) y.2.2 _ ((max y.1 s.1+y.2.2)/86400) (zzab _) hL;refine⟨a1,fun x=>?_⟩;rw[a2];constructor
 ·rintro(h|⟨h1,h2,h3,h4⟩)
  ·exact .inl h
  exact .inr ⟨by omega,by omega,by omega,by omega,h4⟩
 rintro(h|⟨h1,h2,h3,h4,h5⟩)
 ·exact .inl h
 exact .inr ⟨by omega,by omega,by omega,h5⟩
def O6{s:Sp}{W:List Sp}(hW:agH W):∀{xs:List (Int×Int×Int)}{L:List Sp},xs.Pairwise (fun a b=>a.1<=b.1)->NE L->∀x,Xr (tq s W xs L) x<->Xr L x\/(s.1<=x/\x<s.2/\∃y∈xs,y.1<=x/\x<y.2.1/\inW W ((x+y.2.2)%86400))
 |[],L,_,hL,x=>by simp[tq]
 |y::r,L,hp,hL,x=>by
  obtain⟨p1,p2⟩:=zzbw.1 hp;rw[tq];split
  ·rename_i hb;constructor
   ·exact .inl
   rintro(h|⟨h1,h2,z,hz,h3,h4,_⟩)
   ·exact h
   rcases zzau.1 hz with rfl|hz
   ·omega
   have:=p1 z hz;omega
  obtain⟨a1,a2⟩:=anC (s:=s) hW y hL;rw[O6 hW p2 a1,a2];simp only[zzau,exists_eq_or_imp];constructor
  ·rintro((h|⟨h1,h2,h3,h4,h5⟩)|⟨h1,h2,h3⟩)
   ·exact .inl h
   ·exact .inr ⟨h3,h4,.inl ⟨h1,h2,h5⟩⟩
   exact .inr ⟨h1,h2,.inr h3⟩
  rintro(h|⟨h1,h2,⟨h3,h4,h5⟩|h3⟩)
  ·exact .inl (.inl h)
  ·exact .inl (.inr ⟨h3,h4,h1,h2,h5⟩)
  exact .inr ⟨h1,h2,h3⟩
def yC(of:Int)(sh:List Sp)(x:Int):Int:=sh.foldl (fun n s=>if s.1<=x then s.2 else n) of
def HW:∀{sh:List Sp}{last:Int},tu last sh=true->sh.Pairwise (fun a b=>a.1<b.1)/\∀s∈sh,last<s.1/\s.1<=10000000000/\gM s.2=true
 |[],_,_=>⟨.nil,fun _ h=>by cases h⟩
 |a::r,last,h=>by
  rw[tu]at h;split at h
  ·cases h
  rename_i hn;simp only[not_or,zzgh]at hn;obtain⟨h1,h2⟩:=HW h;refine⟨zzbw.2 ⟨fun b hb=>(h2 b hb).1,h1⟩,?_⟩;intro s hs;rcases zzau.1 hs with rfl|hs
  ·exact⟨by omega,by omega,hn.2.2⟩
  have:=h2 s hs;exact⟨by omega,this.2⟩
def Bs{x:Int}:∀{sh:List Sp}(o:Int),(∀s∈sh,x<s.1)->yC o sh x=o
 |[],o,_=>rfl
 |a::r,o,h=>by
  have:=h a (by simp);rw[yC,zzcw,if_neg (by omega)];exact Bs o fun s hs=>h s (by simp[hs])
def HX{P:Int->Prop}:∀{sh:List Sp}{f o:Int},(∀s∈sh,f<=s.1/\s.1<=10000000000)->sh.Pairwise (fun a b=>a.1<b.1)->f<=10000000000->∀x,(∃y∈tW f o sh,y.1<=x/\x<y.2.1/\P y.2.2)<->f<=x/\x<=10000000000/\P (yC o sh x)
 |[],f,o,_,_,hf,x=>by
  simp only[tW,zzbk,exists_eq_left,yC,List.foldl_nil];constructor
  ·rintro⟨h1,h2,h3⟩;exact⟨h1,by omega,h3⟩
  rintro⟨h1,h2,h3⟩;exact⟨h1,by omega,h3⟩
 |s::r,f,o,hb,hp,hf,x=>by
  obtain⟨p1,p2⟩:=zzbw.1 hp;have hs:=hb s (by simp);have ih:=HX (P:=P) (o:=s.2) (f:=s.1) (sh:=r) (fun t ht=>⟨by have:=p1 t ht;omega,(hb t (by simp[ht])).2⟩) p2 hs.2 x
  have e:(∃y∈tW f o (s::r),y.1<=x/\x<y.2.1/\P y.2.2)<->(f<=x/\x<s.1/\P o)\/∃y∈tW s.1 s.2 r,y.1<=x/\x<y.2.1/\P y.2.2:=by
   rw[tW];simp only[zzal,or_and_right,exists_or];refine or_congr ?_ Iff.rfl;split
   ·simp
   simp;intro h1 h2;omega
  have eo:yC o (s::r) x=yC (if s.1<=x then s.2 else o) r x:=rfl;rw[e,ih,eo];by_cases hx:s.1<=x
  ·rw[if_pos hx];constructor
   ·rintro(⟨h1,h2,h3⟩|⟨h1,h2,h3⟩)
    ·omega
    exact⟨by omega,h2,h3⟩
   rintro⟨h1,h2,h3⟩;exact .inr ⟨hx,h2,h3⟩
  rw[if_neg hx];have hn:=Bs (x:=x) (sh:=r) o fun t ht=>by have:=p1 t ht;omega
  rw[hn];constructor
  ·rintro(⟨h1,h2,h3⟩|⟨h1,h2,h3⟩)
   ·exact⟨h1,by omega,h3⟩
   omega
  rintro⟨h1,h2,h3⟩;exact .inl ⟨h1,by omega,h3⟩
def HY:∀{sh:List Sp}{f o:Int},(∀s∈sh,f<=s.1)->sh.Pairwise (fun a b=>a.1<b.1)->(tW f o sh).Pairwise (fun a b=>a.1<=b.1)/\∀y∈tW f o sh,f<=y.1
 |[],f,o,_,_=>by simp[tW]
 |s::r,f,o,hb,hp=>by
  obtain⟨p1,p2⟩:=zzbw.1 hp;have hs:=hb s (by simp);obtain⟨i1,i2⟩:=HY (f:=s.1) (o:=s.2) (sh:=r) (fun t ht=>by have:=p1 t ht;omega) p2;rw[tW];refine⟨?_,?_⟩
  ·rw[List.pairwise_append];refine⟨by split<;>simp,i1,?_⟩;intro a ha b cK;have:=i2 b cK;split at ha
   ·simp at ha;subst ha;simp only;omega
   simp at ha
  intro y hy;rw[zzal]at hy;obtain hy|hy:=hy
  ·split at hy
   ·simp at hy;subst hy;exact zzbv _
   simp at hy
  have:=i2 y hy;omega
def O7(of:Int)(sh:List Sp)(x fr to:Int):Prop:=0<=x/\x<=10000000000/\inW (zb fr to) ((x+yC of sh x)%86400)
def aa9{of:Int}{sh:List Sp}{s:Sp}{fr to:Int}(h:wE of sh s fr to=true)(x:Int):Xr (ij of sh s fr to) x<->s.1<=x/\x<s.2/\O7 of sh x fr to:=by
 rw[ij,if_pos h];simp only[wE,Vy,ze,zzak,decide_eq_true_eq]at h;obtain⟨⟨⟨⟨⟨_,_⟩,ha⟩,h1⟩,h2⟩,_⟩:=h;obtain⟨a1,a2⟩:=HW ha;have hW:agH (zb fr to):=fun w hw=>by have:=(tY h1 h2).2 w hw;omega
 rw[O6 hW (HY (fun t ht=>by have:=a2 t ht;omega) a1).1 (fun _ h=>by cases h)];rw[HX (P:=fun o=>inW (zb fr to) ((x+o)%86400)) (fun t ht=>by have:=a2 t ht;omega) a1 (by omega)];simp only[Yl,false_or,O7]
open Go Go.Abs
def O8(p:Pl)(it:It)(region x:Int):Prop:=it.ki=5\/(Ka p=true/\grX (Ky p.cls it.id region) (p.ep+Yj p.nu p.de x)=true/\∀w∈tZ p.cls it.ra,O7 p.of p.sh (p.ep+Yj p.nu p.de x) w.1 w.2)
def gO(p:Pl)(id region x:Int):Prop:=∃it,Xh id p.aM=some it/\(0<=region/\region<8)/\(0<=x/\x<=100000000)/\O8 p it region x
def HZ:∀(Xs:List (List Sp))(a:List Sp)(y:Int),Xr (Xs.foldl zg a) y<->Xr a y/\∀l∈Xs,Xr l y
 |[],a,y=>by simp
 |l::Xs,a,y=>by
  rw[zzcw,HZ Xs,(kM a l).2];simp only[zzau,forall_eq_or_imp,and_assoc]
def DI{nu de s f:Int}(hv:Ve nu de=true)(hs:0<=s/\s<=10000000000)(hf:0<=f/\f<=100000000):wJ nu de s<=f<->s<=Yj nu de f:=by
 obtain⟨b1,b2,b3,b4,b5⟩:=Jp hv;rw[wJ,if_pos ⟨hv,hs.1,hs.2⟩,Yj,if_pos ⟨hv,hf.1,hf.2⟩];have q0:0<=s*nu:=zzdz hs.1 (by omega);have q1:0<=f*de:=zzdz hf.1 (by omega);rw[zzck (by omega),zzck q1]
 have e1:(s*nu+de-1)/de<=f<->s*nu<=f*de:=by
  rw[<- Int.lt_add_one_iff,Int.ediv_lt_iff_lt_mul (by omega)];have:(f+1)*de=f*de+de:=by rw[Int.add_mul];omega
  omega
 rw[e1,Int.le_ediv_iff_mul_le (by omega)]
def Mj{p:Pl}{U:List Sp}(hv:Ve p.nu p.de=true)(hU:∀w∈U,(0<=w.1-p.ep/\w.1-p.ep<=10000000000)/\(0<=w.2-p.ep/\w.2-p.ep<=10000000000)){f:Int}(hf:0<=f/\f<=100000000):
  Xr (U.map (ua p)) f<->Xr U (p.ep+Yj p.nu p.de f):=by
 unfold Xr;simp only[zzay];constructor
 ·rintro⟨_,⟨w,hw,rfl⟩,h1,h2⟩;obtain⟨u1,u2⟩:=hU w hw;have a1:=DI hv u1 hf;have a2:=DI hv u2 hf;simp only[ua]at h1 h2;exact⟨w,hw,by omega,by omega⟩
 rintro⟨w,hw,h1,h2⟩;obtain⟨u1,u2⟩:=hU w hw;have a1:=DI hv u1 hf;have a2:=DI hv u2 hf;exact⟨_,⟨w,hw,rfl⟩,by simp only[ua];omega,by simp only[ua];omega⟩
def aba{cs:List Cl}{ra:Int}:∀w∈tZ cs ra,ze w.1=true/\ze w.2=true:=by
 intro w hw;simp only[tZ,zzay,zzcx,H6,zzak,decide_eq_true_eq,Xj]at hw;obtain⟨c,⟨_,h1,_,_,h2⟩,rfl⟩:=hw;rw[Uf]at h2;simp only[h1]at h2;simp[Jj,wi]at h2;simp only[ze,decide_eq_true_eq];omega
def agJ(s:Sp):0<=(QM s).1/\(QM s).2<=100000001/\∀x,((QM s).1<=x/\x<(QM s).2)<->(s.1<=x/\x<s.2/\0<=x/\x<=100000000):=by
 simp only[QM];refine⟨by omega,by omega,fun x=>?_⟩;omega
def kS(p:Pl)(id region:Int)(s:Sp)(hs:s.2-s.1<=1000000)(x:Int):Xr (Vo p id region s) x<->s.1<=x/\x<s.2/\gO p id region x:=by
 obtain⟨c0,c1,cx⟩:=agJ s;have cl:(QM s).2-(QM s).1<=1000000:=by simp only[QM];omega
 unfold Vo gO;generalize QM s=c at*
 cases hf:Xh id p.aM with
 |none=>simp
 |some it=>
  simp only[Option.some.injEq,exists_eq_left'];split
  ·rename_i hb;simp only[Yl,false_iff];rintro⟨h1,h2,h3,h4,_⟩;have:=(cx x).2 ⟨h1,h2,h4⟩;omega
  rename_i hb;simp only[not_or]at hb;split
  ·rename_i hk;simp only[Xc,Yl,or_false,O8,hk,true_or,and_true];rw[cx x];constructor
   ·rintro⟨h1,h2,h3,h4⟩;exact⟨h1,h2,by omega,h3,h4⟩
   rintro⟨h1,h2,h3,h4⟩;exact⟨h1,h2,h4⟩
  rename_i hk;split
  ·rename_i ht;simp[O8,hk,ht]
  rename_i ht;have X0:Ka p=true:=by simpa using ht
  have hte:Ve p.nu p.de=true/\Vy p.of p.sh=true/\0<=p.ep/\p.ep<=9000000000:=by
   simp only[Ka,zzak,decide_eq_true_eq]at X0;exact⟨X0.1.1,X0.1.2,X0.2⟩
  obtain⟨hv,hz,he⟩:=hte;rw[(kM _ _).2];obtain⟨u,hu⟩:∃u,uS p c=u:=⟨_,rfl⟩;have hu1:u.1=p.ep+Yj p.nu p.de c.1:=by rw[<- hu];rfl
  have JP:u.2=p.ep+Yj p.nu p.de (c.2-1)+1:=by rw[<- hu];rfl
  rw[hu];have hd:=kN (f:=c.1) (g:=c.2-1) hv (by omega) (by omega) (by omega);have hs1:=oR p.nu p.de c.1;have J4:=oR p.nu p.de (c.2-1)
  have Ny:0<=Yj p.nu p.de c.1:=by
   rw[Yj,if_pos ⟨hv,by omega,by omega⟩];exact Int.tdiv_nonneg (zzdz (by omega) (by have:=Jp hv;omega)) (by have:=Jp hv;omega)
  have dw:iq p it region u (lM p it region u).length=(lM p it region u).foldl zg [u]:=by simp[iq]
  have bI:SZ u.1 u.2 (iq p it region u (lM p it region u).length):=by
   rw[dw];exact CG _ _ (by intro w hw;simp at hw;subst hw;omega)
  by_cases hx:c.1<=x/\x<c.2
  ·have ov:=(cx x).1 hx;have m1:=kN (f:=c.1) (g:=x) hv (by omega) (by omega) (by omega);have m2:=kN (f:=x) (g:=c.2-1) hv (by omega) (by omega) (by omega);rw[Mj hv (fun w hw=>by have:=bI w hw;omega) ⟨by omega,by omega⟩,dw,HZ];simp only[Xc,Yl,or_false,O8,hk,false_or,X0,true_and]
   have hl:(∀l∈lM p it region u,Xr l (p.ep+Yj p.nu p.de x))<->(grX (Ky p.cls it.id region) (p.ep+Yj p.nu p.de x)=true/\∀w∈tZ p.cls it.ra,O7 p.of p.sh (p.ep+Yj p.nu p.de x) w.1 w.2):=by
    unfold lM;simp only[zzau,forall_eq_or_imp,zzay,forall_exists_index,and_imp,forall_apply_eq_imp_iff₂];rw[Mi];refine and_congr Iff.rfl (forall_congr' fun w=>forall_congr' fun hw=>?_);obtain⟨d1,d2⟩:=aba w hw;rw[aa9 (by simp only[wE,hz,d1,d2,zzge,zzdw,decide_eq_true_eq];omega)];constructor
    ·rintro⟨_,_,h⟩;exact h
    intro h;exact⟨by omega,by omega,h⟩
   rw[hl];constructor
   ·rintro⟨⟨_,h⟩,_⟩;exact⟨ov.1,ov.2.1,by omega,ov.2.2,h⟩
   rintro⟨_,_,_,_,h⟩;exact⟨⟨by omega,h⟩,hx⟩
  simp only[Xc,Yl,or_false];constructor
  ·rintro⟨_,h⟩;exact absurd h hx
  rintro⟨h1,h2,_,h4,_⟩;exact absurd ((cx x).2 ⟨h1,h2,h4⟩) hx
def Li(p:Pl)(id region f n:Int):Xw p id region f n=true<->(1<=n/\n<=1000000/\0<=f/\f+n-1<=100000000)/\∀x,f<=x->x<f+n->gO p id region x:=by
 unfold Xw;split
 ·rename_i hb;simp only[zzbs,false_iff];rintro⟨⟨h1,h2,h3,h4⟩,_⟩;obtain h|h|h|h:=hb
  ·omega
  ·omega
  ·simp[frB]at h;omega
  simp[frB]at h;omega
 rename_i hb;simp only[not_or,zzgh,frB,decide_eq_true_eq]at hb;obtain⟨b1,b2,b3,b4⟩:=hb;rw[List.isEmpty_iff,Mk (by simp only;omega)];constructor
 ·intro h;refine⟨by omega,fun x h1 h2=>?_⟩;exact((kS p id region (f,f+n) (by simp only;omega) x).1 (h x h1 h2)).2.2
 rintro⟨_,h⟩ x h1 h2;exact(kS p id region (f,f+n) (by simp only;omega) x).2 ⟨h1,h2,h x h1 h2⟩
end Go.Proofs.YtnopaopphmjnmaaGreatDoor
