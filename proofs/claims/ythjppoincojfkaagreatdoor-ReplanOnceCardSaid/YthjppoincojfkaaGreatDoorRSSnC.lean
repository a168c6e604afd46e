import Derived.Test.YthjppoincojfkaaGreatDoorRSRgG
set_option linter.all false
set_option maxRecDepth 100000
set_option maxHeartbeats 64000000
namespace Go.Proofs.YthjppoincojfkaaGreatDoor
open Go Go.Abs
def wu6(n:Int)(h:0<=n)(h':n<=9223372036854775807):IntKind.u64.wrap n=n:=by
 simp[IntKind.wrap,IntKind.bits,IntKind.signed];omega
def R9(e:bn)(f:Int)(h:Jt e)(hf:f<=9223372036854775807):Pure Tryz.prog aD 77 [.agg (Qf e),.ep [I f] 0] (.bool (ua f e)):=by
 refine Qp akr (fun _ _ _=>.junk) zd ?_;obtain⟨⟨a1,a2⟩,⟨a3,a4⟩,_⟩:=h;by_cases h1:e.st<=f
 ·have w1:=wu6 e.st zE zE;have w2:=wu6 f zE zE;have w3:=wu6 (f-e.st) zE zE;have w4:=wu6 e.fr zE zE;by_cases h2:0<e.fr
  ·have:(f-e.st<e.fr)=(f<e.st+e.fr):=by apply propext;omega
   simp[abF,abG,Qf,h1,h2,ua,w1,w2,w3,w4,this]
  have:¬f<e.st+e.fr:=zE
  simp[abF,abG,Qf,h1,h2,ua,this]
 simp[abF,abG,Qf,h1,ua]
def HT(L:List bn)(f:Int)(hL:L.length<=1000000000)(hs:∀e∈L,Jt e)(hf:f<=9223372036854775807):Pure Tryz.prog aD 78 [.sl .ro (L.map Qf),.fn 77 [] [.ep [I f] 0]] (I (gX f L 0)):=by
 refine Qp Ts (K9 f) zd ?_;simp[aks,abH];refine Qi r6 (fun s m=>∃i:Nat,s 8=I i/\i<=L.length/\gX f (L.drop i) i=gX f L 0/\m=⟨[],[],fun _=>.gone,0⟩) (fun s m=>L.length-(numOf (s 8)).toNat) ?_ ?_
 ·exact⟨0,zd,zE,zd,rfl⟩
 rintro s m ⟨i,hi,cE,hr,rfl⟩;rcases zzaa i L.length with ah|bq
 ·obtain⟨a,ha⟩:∃a,L[i]?=some a:=⟨L[i],zzaf ah⟩;have ai:Qh (L.map Qf) i=Qf a:=Qu (by simp[ha]);have hw:=bO i zE;rw[Za ha]at hr;have hp:Pure Tryz.prog aD 77 [.agg (Qf a),.ep [I f] 0] (.bool (ua f a)):=R9 a f (hs a (zzad ha)) hf;have ho:decide (a.st<=f/\f<a.st+a.fr)=ua f a:=rfl;by_cases h:ua f a=true
  ·simp[gX,h]at hr;rw[h]at hp ho;simp at ho;simp[hi,ai,ah,Qf,K9,r6,ho];exact⟨hp,hr⟩
  simp at h;simp[gX,h]at hr;rw[h]at hp ho
  have cO:decide (a.st<=f)=false\/decide (f<a.st+a.fr)=false:=by
   by_cases q:a.st<=f
   ·right;simp at ho |-;omega
   left;simp[q]
  simp only[decide_eq_false_iff_not]at ho;simp[hi,ai,ah,Qf,K9,r6,ho,hw];refine⟨hp,aQ,⟨i+1,zd,zE,hr⟩,zE⟩
 rw[zzal bq]at hr;simp[hi,zzbk.2 bq,r6];exact hr
def HU(L:List bn)(f:Int)(hL:L.length<=1000000000)(hs:∀e∈L,Jt e)(hf:f<=9223372036854775807):Pure Tryz.prog aD 34 [.sl .ro (L.map Qf),I f] (yc f (Dm f L)):=by
 have Lq:=HT L f hL hs hf;refine Qp ajQ (fun _ g l=>if g=78 then I (gX f L 0)else l.headD .junk) zd ?_;cases SE:Dm f L with
 |none=>
  rw[ya SE]at Lq |-
  simp[ajO,ajP,yc,aiG];exact Lq
 |some a=>
  obtain⟨k,h1,h2,h3⟩:=yb (i:=0) SE;rw[h1]at Lq |-
  have ah:k<L.length:=(zza.1 h2).1;have ai:Qh (L.map Qf) k=Qf a:=Qu (by simp[h2]);obtain⟨⟨a1,a2⟩,⟨a3,a4⟩,⟨a7,a8⟩,a9⟩:=hs a (zzad h2);have hon:a.st<=f/\f<a.st+a.fr:=by simpa[ua]using h3
  have w1:IntKind.i64.wrap (a.i+f)=a.i+f:=by rw[Ql]<;>omega
  have w2:IntKind.i64.wrap (a.i+f-a.st)=a.i+f-a.st:=by rw[Ql]<;>omega
  rw[zzbs]at Lq;have hcn:=Qck a.al a9;simp[ajO,ajP,yc,ah,ai,Qf];refine⟨Lq,hcn,Qbj [(.junk,⟨[[I f],[I a.id,I a.it,I a.st,I a.fr,I a.i,I a.re,.sl .ro (a.al.map Qe)],[I a.id,I a.it,I a.st,I a.fr,I a.i,I a.re,.sl .ro (a.al.map Qe)]],[],fun _=>.gone,0⟩)] ?_⟩;simp[w1,w2]
open Go Go.Abs
def ays(re r:Int):Bool:=decide (re.fdiv (2 ^ (min r.toNat 64))%2=1)
def PsR(ml ls:Pa)(rt:Rt)(n:Nat):Prop:=(∃lx,ls=ml++lx)/\(rt=.full\/∃k,rt=.own k 3/\ml.length<=k/\ls[k]?=some n)
open Go Go.Abs
def y7(n:Nat)(f:Nat->AV)(m:AM):Prop:=∃i:Nat,f 13=I i/\i<=n/\m=⟨[],[],fun _=>.gone,0⟩
def ayt(l:Pi)(hl:l.length<=8796093022208):Pure Tryz.prog aD 50 [.sl .ro (l.map Qy),.sl .ro (l.map Qy)] (.bool true):=by
 refine Qp aj5 (fun _ _ _=>.junk) zd ?_;simp[aoO];refine Qi Tg (y7 l.length) (fun f _=>l.length-(numOf (f 13)).toNat) ?_ ?_
 ·exact⟨0,zd,zE,rfl⟩
 rintro f m ⟨i,eT,hi,rfl⟩;rcases zzaa i l.length with ah|bq
 ·obtain⟨a,ha⟩:=aV ah;have ai:Qh (l.map Qy) i=Qy a:=Qu (by simp[ha]);have aa:(i:Int)<(l.length:Int):=zE
  have hw:=bO i zE;simp[eT,Tg,ah,aa,ai,Qy,hw];refine⟨aQ,⟨i+1,zd,zE,rfl⟩,zE⟩
 obtain rfl:i=l.length:=zE
 simp[eT,Tg,aoP]
def ayu(l:List Cue)(hl:l.length<=8796093022208):Pure Tryz.prog aD 51 [.sl .ro (l.map Qk),.sl .ro (l.map Qk)] (.bool true):=by
 refine Qp aj6 (fun _ _ _=>.junk) zd ?_;simp[aoQ];refine Qi Th (y7 l.length) (fun f _=>l.length-(numOf (f 13)).toNat) ?_ ?_
 ·exact⟨0,zd,zE,rfl⟩
 rintro f m ⟨i,eT,hi,rfl⟩;rcases zzaa i l.length with ah|bq
 ·obtain⟨a,ha⟩:=aV ah;have ai:Qh (l.map Qk) i=Qk a:=Qu (by simp[ha]);have aa:(i:Int)<(l.length:Int):=zE
  have hw:=bO i zE;simp[eT,Th,ah,aa,ai,Qk,hw];refine⟨aQ,⟨i+1,zd,zE,rfl⟩,zE⟩
 obtain rfl:i=l.length:=zE
 simp[eT,Th,aoR]
def at3(l:List Sp)(hl:l.length<=8796093022208):Pure Tryz.prog aD 56 [.sl .ro (l.map Qe),.sl .ro (l.map Qe)] (.bool true):=by
 refine Qp akd (fun _ _ _=>.junk) zd ?_;simp[aoW];refine Qi Tj (y7 l.length) (fun f _=>l.length-(numOf (f 13)).toNat) ?_ ?_
 ·exact⟨0,zd,zE,rfl⟩
 rintro f m ⟨i,eT,hi,rfl⟩;rcases zzaa i l.length with ah|bq
 ·obtain⟨a,ha⟩:=aV ah;have ai:Qh (l.map Qe) i=Qe a:=Qu (by simp[ha]);have aa:(i:Int)<(l.length:Int):=zE
  have hw:=bO i zE;simp[eT,Tj,ah,aa,ai,Qe,hw];refine⟨aQ,⟨i+1,zd,zE,rfl⟩,zE⟩
 obtain rfl:i=l.length:=zE
 simp[eT,Tj,aoX]
def at4(l:List It)(hl:l.length<=8796093022208):Pure Tryz.prog aD 57 [.sl .ro (l.map Qm),.sl .ro (l.map Qm)] (.bool true):=by
 refine Qp ake (fun _ _ _=>.junk) zd ?_;simp[aoY];refine Qi Tk (y7 l.length) (fun f _=>l.length-(numOf (f 13)).toNat) ?_ ?_
 ·exact⟨0,zd,zE,rfl⟩
 rintro f m ⟨i,eT,hi,rfl⟩;rcases zzaa i l.length with ah|bq
 ·obtain⟨a,ha⟩:=aV ah;have ai:Qh (l.map Qm) i=Qm a:=Qu (by simp[ha]);have aa:(i:Int)<(l.length:Int):=zE
  have hw:=bO i zE;simp[eT,Tk,ah,aa,ai,Qm,hw];refine⟨aQ,⟨i+1,zd,zE,rfl⟩,zE⟩
 obtain rfl:i=l.length:=zE
 simp[eT,Tk,aoZ]
def at5(l:List Bk)(hl:l.length<=8796093022208):Pure Tryz.prog aD 60 [.sl .ro (l.map Xi),.sl .ro (l.map Xi)] (.bool true):=by
 refine Qp aki (fun _ _ _=>.junk) zd ?_;simp[ao3];refine Qi Tm (y7 l.length) (fun f _=>l.length-(numOf (f 13)).toNat) ?_ ?_
 ·exact⟨0,zd,zE,rfl⟩
 rintro f m ⟨i,eT,hi,rfl⟩;rcases zzaa i l.length with ah|bq
 ·obtain⟨a,ha⟩:=aV ah;have ai:Qh (l.map Xi) i=Xi a:=Qu (by simp[ha]);have aa:(i:Int)<(l.length:Int):=zE
  have hw:=bO i zE;simp[eT,Tm,ah,aa,ai,Xi,hw];refine⟨aQ,⟨i+1,zd,zE,rfl⟩,zE⟩
 obtain rfl:i=l.length:=zE
 simp[eT,Tm,ao4]
def at6(l:List Cl)(hl:l.length<=8796093022208):Pure Tryz.prog aD 61 [.sl .ro (l.map Qg),.sl .ro (l.map Qg)] (.bool true):=by
 refine Qp akj (fun _ _ _=>.junk) zd ?_;simp[ao5];refine Qi Tn (y7 l.length) (fun f _=>l.length-(numOf (f 13)).toNat) ?_ ?_
 ·exact⟨0,zd,zE,rfl⟩
 rintro f m ⟨i,eT,hi,rfl⟩;rcases zzaa i l.length with ah|bq
 ·obtain⟨a,ha⟩:=aV ah;have ai:Qh (l.map Qg) i=Qg a:=Qu (by simp[ha]);have aa:(i:Int)<(l.length:Int):=zE
  have hw:=bO i zE;simp[eT,Tn,ah,aa,ai,Qg,hw];refine⟨aQ,⟨i+1,zd,zE,rfl⟩,zE⟩
 obtain rfl:i=l.length:=zE
 simp[eT,Tn,ao6]
def ajj(l:List Sp)(hl:l.length<=8796093022208):Pure Tryz.prog aD 112 [.sl .ro (l.map Qe),.sl .ro (l.map Qe)] (.bool true):=by
 refine Qp abW (fun _ _ _=>.junk) zd ?_;simp[agw];refine Qi I4 (y7 l.length) (fun f _=>l.length-(numOf (f 13)).toNat) ?_ ?_
 ·exact⟨0,zd,zE,rfl⟩
 rintro f m ⟨i,eT,hi,rfl⟩;rcases zzaa i l.length with ah|bq
 ·obtain⟨a,ha⟩:=aV ah;have ai:Qh (l.map Qe) i=Qe a:=Qu (by simp[ha]);have aa:(i:Int)<(l.length:Int):=zE
  have hw:=bO i zE;simp[eT,I4,ah,aa,ai,Qe,hw];refine⟨aQ,⟨i+1,zd,zE,rfl⟩,zE⟩
 obtain rfl:i=l.length:=zE
 simp[eT,I4,agx]
def af3(e:bn)(hl:e.al.length<=8796093022208):Pure Tryz.prog aD 55 [.agg (Qf e),.agg (Qf e)] (.bool true):=by
 have k:=ajj e.al hl;refine Qp akc (fun _ _ _=>.bool true) zd ?_;simp[aoU,aoV,Qf];exact k
def af4(e:En)(hl:e.al.length<=8796093022208):Pure Tryz.prog aD 59 [.agg (Qd e),.agg (Qd e)] (.bool true):=by
 have k:=ajj e.al hl;refine Qp akh (fun _ _ _=>.bool true) zd ?_;simp[ao1,ao2,Qd];exact k
def ajk(n:Nat)(f:Nat->AV)(m:AM):Prop:=∃(i:Nat)(bx:T5),f 17=I i/\i<=n/\m=⟨bx,[],fun _=>.gone,0⟩
def ani(l:List bn)(hl:l.length<=8796093022208)(ha:∀e∈l,e.al.length<=8796093022208):Pure Tryz.prog aD 54 [.sl .ro (l.map Qf),.sl .ro (l.map Qf),.fn 55 [] []] (.bool true):=by
 refine Qp akb (fun _ _ _=>.bool true) zd ?_;simp[aka];refine Qi Ti (ajk l.length) (fun f _=>l.length-(numOf (f 17)).toNat) ?_ ?_
 ·exact⟨0,_,zd,zE,rfl⟩
 rintro f m ⟨i,bx,h17,hi,rfl⟩;rcases zzaa i l.length with ah|bq
 ·obtain⟨a,he⟩:=aV ah;have k:=af3 a (ha a (zzad he));have ai:Qh (l.map Qf) i=Qf a:=Qu (by simp[he]);have aa:(i:Int)<(l.length:Int):=zE
  have hw:=bO i zE;simp only[Qf]at k ai;simp[h17,Ti,ah,aa,ai,Qf,hw];refine⟨k,aQ,⟨i+1,_,zd,zE,rfl⟩,zE⟩
 obtain rfl:i=l.length:=zE
 simp[h17,Ti,aoT]
def anj(l:List En)(hl:l.length<=8796093022208)(ha:∀e∈l,e.al.length<=8796093022208):Pure Tryz.prog aD 58 [.sl .ro (l.map Qd),.sl .ro (l.map Qd),.fn 59 [] []] (.bool true):=by
 refine Qp akg (fun _ _ _=>.bool true) zd ?_;simp[akf];refine Qi Tl (ajk l.length) (fun f _=>l.length-(numOf (f 17)).toNat) ?_ ?_
 ·exact⟨0,_,zd,zE,rfl⟩
 rintro f m ⟨i,bx,h17,hi,rfl⟩;rcases zzaa i l.length with ah|bq
 ·obtain⟨a,he⟩:=aV ah;have k:=af4 a (ha a (zzad he));have ai:Qh (l.map Qd) i=Qd a:=Qu (by simp[he]);have aa:(i:Int)<(l.length:Int):=zE
  have hw:=bO i zE;simp only[Qd]at k ai;simp[h17,Tl,ah,aa,ai,Qd,hw];refine⟨k,aQ,⟨i+1,_,zd,zE,rfl⟩,zE⟩
 obtain rfl:i=l.length:=zE
 simp[h17,Tl,ao0]
structure ank (g:Pg):Prop where
 sh:g.p.sh.length<=8796093022208
 aN:g.p.aN.length<=8796093022208
 ens:g.p.ens.length<=8796093022208
 al:∀e∈g.p.ens,e.al.length<=8796093022208
 bks:g.p.bks.length<=8796093022208
 cls:g.p.cls.length<=8796093022208
 ev:g.ev.length<=8796093022208
 eal:∀e∈g.ev,e.al.length<=8796093022208
 cu:g.cu.length<=8796093022208
 dr:g.dr.length<=8796093022208
def anl(l:List bn)(hl:l.length<=8796093022208)(ha:∀e∈l,e.al.length<=8796093022208):Pure Tryz.prog aD 26 [.sl .ro (l.map Qf),.sl .ro (l.map Qf)] (.bool true):=by
 have k:=ani l hl ha;refine Qp ajL (fun _ _ _=>.bool true) zd ?_;simp[aoF,aoG];exact k
def anm(g:Pg)(h:ank g):Pure Tryz.prog aD 27 [.agg (Qa g.p),.agg (Qa g.p)] (.bool true):=by
 have k1:=at3 g.p.sh h.sh;have k2:=at4 g.p.aN h.aN;have k3:=anj g.p.ens h.ens h.al;have k4:=at5 g.p.bks h.bks;have k5:=at6 g.p.cls h.cls;refine Qp ajM (fun _ _ _=>.bool true) zd ?_;simp[aoH,aoI,Qa];exact⟨k1,k2,k3,k4,k5⟩
def ann(g:Pg)(h:ank g):Pure Tryz.prog aD 23 [.agg (Qj g),.agg (Qj g)] (.bool true):=by
 have k1:=ayt g.dr h.dr;have k2:=ayu g.cu h.cu;have k3:=anl g.ev h.ev h.eal;have k4:=anm g h;simp only[Qa]at k4;refine Qp S5 (fun _ _ _=>.bool true) zd ?_;simp[abo,abp,Qj,Qa];exact⟨k1,k2,k3,k4⟩
open Go Go.Abs
def dJ.sm{k:Nat}{g:Pg}(h:dJ k g)(hk:k<=900):ank g where
 sh:=by have:=h.sh;omega
 aN:=by have:=h.aN;omega
 ens:=by have:=h.ens;omega
 al:=fun e he=>(h.plc hk).2.2.2.2.2 e he
 bks:=by have:=h.bks;omega
 cls:=by have:=h.cls;omega
 ev:=by have:=h.small.1;omega
 eal:=fun e he=>by have:=(h.ep e he).2.2.1;omega
 cu:=by have:=h.cu;omega
 dr:=by have:=h.dr;omega
open Go Go.Abs
def okI(q:Pl)(id r x:Int):Prop:=∃y,Xj id q.aN=some y/\(y.ki=5\/Xt q id r x 1=true)
def EvG(q:Pl)(e:bn)(x:Int):Prop:=(∀r,0<=r->ays e.re r=true->okI q e.it r x)/\∀a∈e.al,okI q a.2 a.1 x
def atJ(g:Pg)(F:Int):Prop:=∀e∈g.ev,∀x,F<=x->e.st<=x->x<e.st+e.fr->EvG g.p e x
open Go Go.Abs
open Go Go.Abs
def R2(l:List bn)(id f:Int):Bool:=l.any fun e=>decide (e.id=id)&&decide (e.st<f)
def aaP(b:QR)(k id:Int):gG (Vg k true b) id=(decide (id=k)||gG b id):=by
 unfold gG;rw[Ug];by_cases h:id=k<;>simp[h]
def HV(f id:Int):∀(L:List bn)(b:QR),gG (Xn f L b) id=(gG b id||R2 L id f)
 |[],b=>by simp[Xn,R2]
 |e::r,b=>by
  rw[Xn,HV f id r];have e1:decide (id=e.id)=decide (e.id=id):=decide_eq_decide.2 eq_comm;have e2:R2 (e::r) id f=(decide (e.id=id)&&decide (e.st<f)||R2 r id f):=rfl;rw[e2];by_cases h:e.st<f
  ·rw[if_pos h,aaP,e1,decide_eq_true h];cases decide (e.id=id)<;>cases gG b id<;>simp
  rw[if_neg h,decide_eq_false h];simp
def afS(f id:Int)(L:List bn):gG (Xn f L []) id=R2 L id f:=by
 rw[HV];simp[gG,af]
def nY(g:Pg)(o:Od):Bool:=Uu g o&&(if o.ki=5 then(Ae o.cu g.cu).isSome else(Jk g o.fr (Xn o.fr g.ev []) o).isSome)
def O0{p:Pl}:∀{l:List En}{seen:Pi},z7 p seen l=true->(l.map (·.id)).Nodup/\∀e∈l,¬e.id∈seen
 |[],_,_=>⟨List.nodup_nil,fun e he=>by cases he⟩
 |x::r,seen,h=>by
  rw[z7,zzac]at h;obtain⟨h1,h2⟩:=h;obtain⟨i1,i2⟩:=O0 h2;simp only[xQ,zzac]at h1;have hs:¬x.id∈seen:=by simpa using h1.2.1
  refine⟨?_,fun e he=>?_⟩
  ·rw[zzas,zzen];refine⟨fun hm=>?_,i1⟩;obtain⟨e,he,hee⟩:=zzav.1 hm;exact i2 e he (zzgz _ (by rw[hee];simp))
  rcases zzam.1 he with rfl|he
  ·exact hs
  exact fun hm=>i2 e he (List.mem_append_left _ hm)
def aax{p:Pl}(h:pJ p=true):(p.ens.map (·.id)).Nodup:=by
 simp only[pJ,zzac]at h;have h4:=h.2.2.2.1;simp only[sW,zzac]at h4;exact(O0 h4.2).1
open Go Go.Abs
def ayf(g:Pg):Prop:=∀e∈g.ev,e.id≠0->∀x,Xw e.id g.p.ens=some x->x.it=e.it
def aay(l:Pi):(Jc l).Pairwise (·<=·)/\∀x,x∈Jc l<->x∈l:=by
 refine⟨?_,fun x=>List.mem_mergeSort⟩;have:=zzfi (le:=fun x y:Int=>decide (x<=y)) (fun a b c h1 h2=>by simp at h1 h2 |-;omega) (fun a b=>by simp;omega) l;exact this.imp fun h=>by simpa using h
open Go Go.Abs
def Sa(g:Pg)(fr:Int)(mb:T5):T5:=mb++(Qj g::Qr g fr (mb.length+2)::[.aJ 0 (bG .bool (Xn fr g.ev []))]::Qr g fr (mb.length+2)::g.ev.map Qf)
def ano(g:Pg)(fr:Int)(mb:T5)(ml:Pa)(ms:Nat->LS)(mn:Nat)(f:Nat->AV)(m:AM):Prop:=
 ∃(i:Nat)(b:QR),f 16=I i/\i<=g.ev.length/\Xn fr (g.ev.drop i) b=Xn fr g.ev []/\b.length<=i/\
  m=⟨mb++(Qj g::Ek::[.aJ 0 (bG .bool b)]::Qr g fr (mb.length+2)::(g.ev.take i).map Qf),ml,ms,mn⟩
def Sb(Y:YT)(m:AM)(g:Pg)(fr:Int)(hl:g.ev.length<=1000000):
  aB Tryz.prog aD Y 43 [.agg (Qj g),I fr] m (fun r m'=>r=.agg (Qr g fr (m.boxes.length+2))/\m'={m with boxes:=Sa g fr m.boxes}):=by
 obtain⟨mb,ml,ms,mn⟩:=m;refine Xl S9 (fun _ _ _=>.junk) zd ?_;simp[aj1,Qj,Qa];refine Qi lT (ano g fr mb ml ms mn) (fun f _=>g.ev.length-(numOf (f 16)).toNat) ?_ ?_
 ·exact⟨0,[],zd,zE,zd,zd,by simp[Qj,Qa,Qr,Ek]⟩
 rintro f m ⟨i,b,KK,hi,hb,fS,rfl⟩;rcases zzaa i g.ev.length with ah|bq
 ·obtain⟨e,he⟩:=aV ah;have ai:Qh (g.ev.map Qf) i=Qf e:=Qu (by simp[he]);have aa:(i:Int)<(g.ev.length:Int):=zE
  have hw:=bO i zE;have hd:g.ev.drop i=e::g.ev.drop (i+1):=by rw[zzag ah,(zza.1 he).2]
  have bB:(g.ev.take (i+1)).map Qf=(g.ev.take i).map Qf++[Qf e]:=by rw[zzb,he];simp
  generalize(g.ev.take i).map Qf=bx at bB |-
  rw[hd,Xn]at hb;by_cases hs:e.st<fr
  ·rw[if_pos hs]at hb;have fO:=rH e.id true b;rcases Xv AV.bool e.id b 0 with⟨b1,b2,b3,b4⟩|⟨u,n,b1,b2,b3,b4,b5,b6⟩
   ·simp[KK,lT,aa,ai,hw,Qf,Qj,Qa,Qr,Ek,hs,b2];refine⟨aQ,⟨i+1,Vg e.id true b,zd,zE,hb,zE,by rw[bB];simp[Qj,Qa,Qr,Ek,Qf,b4]⟩,zE⟩
   simp[KK,lT,aa,ai,hw,Qf,Qj,Qa,Qr,Ek,hs,b2];refine⟨aQ,⟨i+1,Vg e.id true b,zd,zE,hb,zE,by rw[bB];simp[Qj,Qa,Qr,Ek,Qf,b6]⟩,zE⟩
  rw[if_neg hs]at hb;simp[KK,lT,aa,ai,hw,Qf,Qj,Qa,Qr,Ek,hs];refine⟨aQ,⟨i+1,b,zd,zE,hb,zE,by rw[bB];simp[Qj,Qa,Qr,Ek,Qf]⟩,zE⟩
 obtain rfl:i=g.ev.length:=zE
 rw[zzbt,Xn]at hb;subst hb;simp[KK,lT,aj2,Qj,Qa,Qr,Ek,Sa]
def anp(g:Pg)(fr:Int)(mb:T5)(h:∀c∈mb,eH c):(∀c∈Sa g fr mb,eH c)/\fP (Sa g fr mb) (mb.length+2) (Xn fr g.ev []):=by
 refine⟨fun c hc=>?_,⟨by simp[Sa],by simp[Sa]⟩⟩;simp only[Sa,zzao,zzam,zzav]at hc;obtain hc|rfl|rfl|rfl|rfl|⟨e,_,rfl⟩:=hc
 ·exact h c hc
 ·exact eH.of (by simp[Qj,Qa]) (Z6 g)
 ·exact eH.mo g fr _
 ·exact eH.map _
 ·exact eH.mo g fr _
 exact eH.of (by simp[Qf]) (DM e)
def af5(g:Pg)(fr:Int)(o:Od)(mb:T5)(ml:Pa)(ms:Nat->LS)(mn:Nat)(h:Z5 g fr o)(gO:∀c∈mb,eH c)(v:AV)(hv:Ac (Jk g fr (Xn fr g.ev []) o)=v):
  aB Tryz.prog aD Y0 44 [.agg (Qr g fr (mb.length+2)),.agg (Qq o)] ⟨Sa g fr mb,ml,ms,mn⟩ (fun r m'=>r=v/\m'=⟨Sa g fr mb,ml,ms,mn⟩):=by
 obtain⟨h1,h2⟩:=anp g fr mb gO;exact aB.mono (Ox Y0 ⟨Sa g fr mb,ml,ms,mn⟩ g fr (mb.length+2) _ o h h2 h1) (by rintro r m' ⟨rfl,rfl⟩;exact⟨hv,rfl⟩)
def rR(g:Pg)(o:Od)(h:afG g o):Pure Tryz.prog aD 21 [.agg (Qj g),.agg (Qq o)] (.bool (nY g o)):=by
 obtain⟨hpg,fO,hve,oo,iu,hrn⟩:=h;have DR:=td g o fO;have sL:=BB g.cu o.cu oo;rw[Hv]at sL;unfold nY;simp only[Qj,Qa,Qq,Qd,Qg,Qk,zzae,zzai]at DR sL;cases hc:Uu g o with
 |false=>
  rw[hc]at DR;refine Qp vk (fun _ f l=>if f=41 then .bool false else .gd false .junk) zd ?_;simp[Pd,Pe,Qj,Qa,Qq,Qd,Qg,Qk];exact DR
 |true=>
  rw[hc]at DR;by_cases h5:o.ki=5
  ·rw[if_pos h5];rw[h5]at DR;cases he:Ae o.cu g.cu with
   |none=>
    rw[he]at sL;refine Qp vk (fun _ f l=>if f=41 then .bool true else if f=42 then .aS [.sl .nil [],I 150]else .gd false .junk) zd ?_;simp[Pd,Pe,Qj,Qa,Qq,Qd,Qg,Qk,h5];exact⟨DR,sL⟩
   |some x=>
    rw[he]at sL;refine Qp vk (fun _ f l=>if f=41 then .bool true else if f=42 then .aS [.sl (uh x) (x.map Qk),I 0]else .gd false .junk) zd ?_;simp[Pd,Pe,Qj,Qa,Qq,Qd,Qg,Qk,h5];exact⟨DR,sL⟩
  rw[if_neg h5];have iu:=iu hc h5;have bP:g.ev.length<=1000000:=by have:=hpg.2.1;omega
  have gO:∀c∈[Qj g,Qq o],eH c:=by
   intro c hc;simp only[zzam,zzdp,or_false]at hc;obtain rfl|rfl:=hc
   ·exact eH.of (by simp[Qj,Qa]) (Z6 g)
   exact eH.of (by simp[Qq]) rfl
  have kl:=Sb Y0 ⟨[Qj g,Qq o],[],fun _=>.gone,0⟩ g o.fr bP;have kc:=af5 g o.fr o [Qj g,Qq o] [] (fun _=>.gone) 0 iu gO;simp only[zzaz,zzco]at kl kc;generalize hM:Sa g o.fr [Qj g,Qq o]=M at kl kc;have hM1:∀x,Qh (M++x) 1=Qq o:=fun x=>by rw[<- hM];simp[Sa]
  have anq:Qh M 1=Qq o:=by rw[<- hM];simp[Sa]
  simp only[Qq,Qd,Qg,Qk,zzae,zzai]at hM1 anq;cases hx:Jk g o.fr (Xn o.fr g.ev []) o with
  |none=>
   have kc:=kc _ (by rw[hx]);simp only[Qj,Qa,Qq,Qd,Qg,Qk,Qr,zzae,zzai]at kl kc;refine Qp vk (fun _ f l=>if f=41 then .bool true else .gd false .junk) zd ?_;simp[Pd,Pe,Qj,Qa,Qq,Qd,Qg,Qk,h5];refine⟨DR,GY zd [(.agg (Qr g o.fr 4),⟨M,[],fun _=>.gone,0⟩),(Ac none,⟨M,[],fun _=>.gone,0⟩),(.ptr M.length 0,⟨M++[[I 0,I 0,I 0,I 0,.sl .nil [],I 0,I 0,I 0,I 0,.sl .nil [],.sl .nil [],.sl .nil [],.sl .nil [],I 0]],[],fun _=>.gone,0⟩),(.junk,⟨M++[RI],[],fun _=>.gone,0⟩)] ?_⟩;simp[Qr,Qj,Qa,Ac,RI,hM1,anq,Qq,Qd,Qg,Qk];exact⟨kl,kc⟩
  |some r=>
   obtain⟨q,d⟩:=r;have kc:=kc _ (by rw[hx]);simp only[Qj,Qa,Qq,Qd,Qg,Qk,Qr,zzae,zzai]at kl kc;refine Qp vk (fun _ f l=>if f=41 then .bool true else .gd false .junk) zd ?_;simp[Pd,Pe,Qj,Qa,Qq,Qd,Qg,Qk,h5];refine⟨DR,GY zd [(.agg (Qr g o.fr 4),⟨M,[],fun _=>.gone,0⟩),(Ac (some (q,d)),⟨M,[],fun _=>.gone,0⟩),(.ptr M.length 0,⟨M++[[I 0,I 0,I 0,I 0,.sl .nil [],I 0,I 0,I 0,I 0,.sl .nil [],.sl .nil [],.sl .nil [],.sl .nil [],I 0]],[],fun _=>.gone,0⟩),(.junk,⟨M++[Qa q++[I d]],[],fun _=>.gone,0⟩)] ?_⟩;simp[Qr,Qj,Qa,Ac,RI,hM1,anq,Qq,Qd,Qg,Qk];simp only[Ac,Qa,zzae,zzai]at kc;exact⟨kl,kc⟩
open Go Go.Abs
def Ah(o:Od):Od:={o with nw:={o.nw with al:=o.nw.al.take 9},cu:={o.cu with tx:=o.cu.tx.extract 0 (if 300<o.cu.tx.size then 300 else o.cu.tx.size)}}
def mxJ(a b:Int):Int:=if a<b then b else a
def af6(o:Od)(last:Int):Od:={Ah o with fr:=mxJ o.fr last}
def Sc(o:Od)(last:Int):Int:=if mxJ o.fr last<=100000000 then mxJ o.fr last else last
def nZ:Nat->List Od->Int->List Od
 |0,_,_=>[]
 |_+1,[],_=>[]
 |n+1,o::r,last=>af6 o last::nZ n r (Sc o last)
def HL(l:List Od):List Od:=nZ 8 l 0
def af7(o:Od)(last:Int):last<=Sc o last:=by unfold Sc mxJ;split<;>split<;>omega
def HW:∀(n:Nat)(l:List Od)(last:Int),(nZ n l last).length<=n
 |0,_,_=>by simp[nZ]
 |n+1,[],_=>by simp[nZ]
 |n+1,o::r,last=>by have:=HW n r (Sc o last);simp[nZ];omega
def O1:∀(n:Nat)(l:List Od)(last:Int),∀o∈nZ n l last,Af o/\last<=o.fr
 |0,_,_,_,h=>by simp[nZ]at h
 |n+1,[],_,_,h=>by simp[nZ]at h
 |n+1,a::r,last,o,h=>by
  rw[nZ]at h;rcases zzam.1 h with rfl|h
  ·refine⟨by simp[Af,af6,Ah];omega,?_⟩;show last<=mxJ a.fr last;unfold mxJ;split<;>omega
  have h1:=O1 n r _ o h;have h2:=af7 a last;exact⟨h1.1,zE⟩
def aaz(l:List Od):(HL l).length<=8:=HW 8 l 0
def afV(l:List Od):∀o∈HL l,Af o/\0<=o.fr:=O1 8 l 0
def Jw(g:Pg)(o:Od):Pg:=eN (Zn g o)
def Ka:Pg->List Od->List Pg
 |_,[]=>[]
 |g,o::r=>Jw g o::Ka (Jw g o) r
def DZ(p:Pl)(l:List Od):List Pg:=if DS p=0 then eN (Jl p)::Ka (eN (Jl p)) l else[]
def lC:∀(g:Pg)(l:List Od),(Ka g l).length=l.length
 |_,[]=>rfl
 |g,o::r=>by rw[Ka,zzaz,zzaz,lC]
def vi(g:Pg):eN (eN g)=eN g:=by
 unfold eN;simp only[zzcu];congr 1
def oa(g:Pg)(o:Od):Qj (Jw g o)=Qj (Zn g o):=lB _
structure ChP (k:Nat) (g:Pg):Prop where
 ok:dJ k g
 nn:eN g=g
def ChP.step{k:Nat}{g:Pg}{o:Od}(h:ChP k g)(hk:k<=900):ChP (k+1) (Jw g o):=⟨(rP h.ok hk).eN,vi _⟩
def O2:∀{l:List Od}{g:Pg}{k:Nat},ChP k g->k+l.length<=900->∀(i:Nat)(h:Pg),(g::Ka g l)[i]?=some h->ChP (k+i) h
 |[],g,k,hg,hk,0,h,e=>by simp at e;subst e;exact hg
 |[],g,k,hg,hk,i+1,h,e=>by simp[Ka]at e
 |o::r,g,k,hg,hk,0,h,e=>by simp at e;subst e;exact hg
 |o::r,g,k,hg,hk,i+1,h,e=>by
  rw[Ka,zzcf]at e;simp only[zzaz]at hk;have:=O2 (hg.step (o:=o) zE) zE i h e;rw[show k+(i+1)=k+1+i by omega];exact this
def BK:∀{l:List Od}{g:Pg}(i:Nat)(h:Pg)(o:Od),l[i]?=some o->(g::Ka g l)[i]?=some h->(g::Ka g l)[i+1]?=some (Jw h o)
 |[],g,i,h,o,hl,e=>by simp at hl
 |a::r,g,0,h,o,hl,e=>by simp at hl e;subst hl;subst e;simp[Ka]
 |a::r,g,i+1,h,o,hl,e=>by
  rw[Ka,zzcf]at e |-
  exact BK i h o (Nm hl) e
def aaB{p:Pl}(hp:RX p){l:List Od}(hl:l.length<=8)(i:Nat)(g:Pg)(h:(DZ p l)[i]?=some g):ChP i g:=by
 unfold DZ at h;split at h
 ·rename_i hb;have:=O2 (l:=l) (g:=eN (Jl p)) (k:=0) ⟨(vf hp hb).eN,vi _⟩ zE i g h;rw[zzbs]at this;exact this
 simp at h
def atM{g:Pg}{o:Od}(h:nY g o=false):Zn g o={g with ve:=g.ve+1}:=by
 unfold nY at h;unfold Zn;cases hc:Uu g o with
 |false=>simp
 |true=>
  rw[hc,zzdo]at h;rw[if_neg (by decide)];by_cases hk:o.ki=5
  ·rw[if_pos hk]at h |-
   cases he:Ae o.cu g.cu with
   |none=>rfl
   |some x=>rw[he]at h;cases h
  rw[if_neg hk]at h |-
  cases he:Jk g o.fr (Xn o.fr g.ev []) o with
  |none=>rfl
  |some x=>rw[he]at h;cases h
def EvT(lo up:Int):List bn->Prop
 |[]=>lo=up
 |e::r=>e.st=lo/\1<=e.fr/\0<=e.i/\EvT (e.st+e.fr) up r
def azq(g:Pg):Prop:=EvT 0 g.p.ln g.ev
structure PlL (p:Pl):Prop where
 sh:RX p
 al:∀e∈p.ens,e.al.length<=8796093022208
 ea:∀e∈p.ens,e.ea<=9223372036854775807
open Go Go.Abs
def D5{p:Pl}{e:En}{from_ s:Int}(h:Vr p e from_=some s):Xt p e.it 0 s e.fr=true:=by
 obtain⟨h1,h2,h3,h4,h5,h6,h7⟩:=Jz h;have hl:=(h7 (s+e.fr-1) zE zE);obtain⟨_,_,_,hx,_⟩:=hl;exact(xU _ _ _ _ _).2 ⟨⟨h1.1,h1.2,h3,zE⟩,h7⟩
def OR(p:Pl):List Sp->Int->Prop
 |[],_=>True
 |s::r,free=>(∃e,Xw s.1 p.ens=some e/\(1<=e.fr/\e.fr<=1000000)/\free<=s.2/\0<=s.2/\s.2<=100000000/\e.ea<=s.2/\s.2<=e.la/\s.2+e.fr<=p.ln/\Xt p e.it 0 s.2 e.fr=true/\OR p r (s.2+e.fr))
def DY{p:Pl}:∀{ids:Pi}{us en:List (Int×Int)}{free last:Int}{l:List Sp},Ut p ids us en free last=some l->l.map (·.1)=ids/\OR p l free
 |[],_,_,_,_,l,h=>by cases h;exact⟨rfl,trivial⟩
 |id::r,us,en,free,last,l,h=>by
  rw[Ut]at h;cases hf:zn id p.ens 0 with
  |none=>rw[hf]at h;cases h
  |some k=>
   rw[hf]at h;simp only at h;split at h
   ·cases h
   obtain⟨_,e,h2,h3,h4⟩:=kV hf;rw[zzes]at h2;rw[h2]at h;simp only at h;split at h
   ·cases h
   cases hs:Vr p e (Ua en (Kl p e.it) (max e.ea free))with
   |none=>rw[hs]at h;cases h
   |some s=>
    rw[hs]at h;simp only at h;cases hg:Ut p r (Vw us e.it) (Zm p en e.it (s+e.fr)) (s+e.fr) k with
    |none=>rw[hg]at h;cases h
    |some l'=>
     rw[hg]at h;cases h;obtain⟨g1,g2⟩:=DY hg;obtain⟨a1,a2,a3,a4,a5,a6,a7⟩:=Jz hs;have fu:=xV en (Kl p e.it) (max e.ea free);exact⟨by simp[g1],e,h4,a1,zE,a3,a6,zE,a4,a5,D5 hs,g2⟩
open Go Go.Abs
open Go Go.Abs
theorem Mb(o:Od)(last:Int):Qq (af6 o last)=[I o.sq,I o.ch,I (mxJ o.fr last),I o.ki,I o.en,I o.n,I o.nw.id,I o.nw.it,I o.nw.fr,I o.nw.ea,I o.nw.la,I o.nw.bo,.sl .ro (List.map Qe (List.take 9 o.nw.al)),
  I o.cl.ki,I o.cl.it,I o.cl.fr,I o.cl.to,I o.cl.re,I o.cl.n,I o.cl.a,I o.cl.b,I o.cu.id,I o.cu.fr,I o.cu.to,I o.cu.pr,.str (o.cu.tx.extract 0 (if 300<o.cu.tx.size then 300 else o.cu.tx.size))]:=rfl
def at7(o:Od):Pure Tryz.prog aD 24 [.agg (Qq o)] (.agg (Qq (Ah o))):=by
 have t1:List.take (if(9:Int)<(o.nw.al.length:Int)then(9:Int)else(o.nw.al.length:Int)).toNat (o.nw.al.map Qe)=List.take 9 (o.nw.al.map Qe):=by
  have:=lu (o.nw.al.map Qe) 9;rw[zzbv]at this;exact this
 have a1:=yA (a:=o.nw.al.length) 9;have b1:=yB (a:=o.nw.al.length) 9;have a2:=yA (a:=o.cu.tx.size) 300;have b2:=yB (a:=o.cu.tx.size) 300
 have e2:(if(300:Int)<(o.cu.tx.size:Int)then(300:Int)else(o.cu.tx.size:Int)).toNat=if 300<o.cu.tx.size then 300 else o.cu.tx.size:=by
  by_cases h:300<o.cu.tx.size
  ·rw[if_pos h,if_pos zE];rfl
  rw[if_neg h,if_neg zE];omega
 simp at a1 b1 a2 b2;refine Qp ajK (fun _ _ _=>.junk) zd ?_;simp[aoD,aoE,Qq,Qd,Qg,Qk,Ah,t1,a1,b1,a2,b2,e2];rintro row a b _ rfl;rfl
def ayv(o:List Od)(rt:Rt)(ls:Pa):Prop:=(o=[]/\rt=.nil/\ls=[])\/(o≠[]/\rt=.own 0 26/\ls=[o.length])
def aua(l:List Od)(f:Nat->AV)(m:AM):Prop:=
 ∃(i:Nat)(out:List Od)(last:Int)(rt:Rt)(ls:Pa)(bx:T5),f 5=I i/\i<=l.length/\i<=8/\f 3=.sl rt (out.map Qq)/\f 4=I last/\ayv out rt ls/\out.length=i/\out++nZ (8-i) (l.drop i) last=HL l/\m=⟨bx,ls,fun _=>.gone,0⟩
def qg:UV:=fun _ f l=>if f=24 then(match l with
 |[.agg cs]=>.agg (Qq (Ah (dOd cs)))
 |_=>.junk)else .junk
def Sd(l:List Od)(hl:l.length<=1000000000000):∃rt,Pure Tryz.prog aD 12 [.sl .ro (l.map Qq)] (.sl rt ((HL l).map Qq)):=by
 refine⟨if HL l=[]then .nil else .ro,Qp ajz qg zd ?_⟩;simp[ajy];refine Qi rZ (aua l) (fun f _=>l.length-(numOf (f 5)).toNat) ?_ ?_
 ·exact⟨0,[],0,.nil,[],[],zd,zE,zE,zd,zd,.inl ⟨rfl,rfl,rfl⟩,rfl,rfl,rfl⟩
 rintro f m ⟨i,out,last,rt,ls,bx,f5,hi,h8,f3,f4,hO,zT,hr,rfl⟩;rcases zzaa i l.length with ah|bq
 ·have aa:(i:Int)<(l.length:Int):=zE
  rcases zzaa i 8 with hl8|hg8
  ·have hi8:(i:Int)<8:=zE
   obtain⟨o,ho⟩:=aV ah;have ai:Qh (l.map Qq) i=Qq o:=Qu (by simp[ho]);have hw:=bO i zE;have hd:l.drop i=o::l.drop (i+1):=by rw[zzag ah,(zza.1 ho).2]
   rw[hd,show 8-i=(8-(i+1))+1 by omega,nZ]at hr;have k24:=at7 o;have A1:=DX o;have Gz:=Mb o last;have hx:mxJ o.fr last=if o.fr<last then last else o.fr:=rfl;have hN:Sc o last=if mxJ o.fr last<=100000000 then mxJ o.fr last else last:=rfl;rw[hx]at Gz hN;generalize hM:(if o.fr<last then last else o.fr)=M at*
   generalize hC:af6 o last=C at*
   simp only[Qq,Qd,Qg,Qk,Ah,zzae,zzai,List.map_take]at ai k24 A1;simp only[List.map_take]at Gz;have mW:(out++[C])++nZ (8-(i+1)) (l.drop (i+1)) (Sc o last)=HL l:=by rw[<- hr];simp
   by_cases hm:M<=100000000
   ·rw[if_pos hm]at hN;rw[hN]at mW;obtain⟨rfl,rfl,rfl⟩|⟨h0,rfl,rfl⟩:=hO
    ·simp[f5,f3,f4,rZ,aa,hi8,hw,ai,qg,A1,hM,hm,Ah,Qq,Qd,Qg,Qk];refine⟨k24,ag ?_,⟨i+1,[]++[C],M,.own 0 26,[1],_,zd,zE,zE,by simp[Gz],zd,.inr ⟨zd,rfl,zd⟩,by simp at zT |-;omega,mW,rfl⟩,zE⟩;repeat(first|exact Qb _ _|refine Qc _ rfl ?_)
    simp[f5,f3,f4,rZ,aa,hi8,hw,ai,qg,A1,hM,hm,Ah,Qq,Qd,Qg,Qk];refine⟨k24,⟨?_,zE⟩,aQ,⟨i+1,out++[C],M,.own 0 26,[out.length+1],_,zd,zE,zE,by simp[Gz],zd,.inr ⟨zd,rfl,zd⟩,by simp;omega,mW,rfl⟩,zE⟩
    ·rintro row (⟨a,_,rfl⟩|rfl)<;>rfl
   rw[if_neg hm]at hN;rw[hN]at mW;obtain⟨rfl,rfl,rfl⟩|⟨h0,rfl,rfl⟩:=hO
   ·simp[f5,f3,f4,rZ,aa,hi8,hw,ai,qg,A1,hM,hm,Ah,Qq,Qd,Qg,Qk];refine⟨k24,ag ?_,⟨i+1,[]++[C],last,.own 0 26,[1],_,zd,zE,zE,by simp[Gz],by simp[f4],.inr ⟨zd,rfl,zd⟩,by simp at zT |-;omega,mW,rfl⟩,zE⟩;repeat(first|exact Qb _ _|refine Qc _ rfl ?_)
   simp[f5,f3,f4,rZ,aa,hi8,hw,ai,qg,A1,hM,hm,Ah,Qq,Qd,Qg,Qk];refine⟨k24,⟨?_,zE⟩,aQ,⟨i+1,out++[C],last,.own 0 26,[out.length+1],_,zd,zE,zE,by simp[Gz],by simp[f4],.inr ⟨zd,rfl,zd⟩,by simp;omega,mW,rfl⟩,zE⟩
   ·rintro row (⟨a,_,rfl⟩|rfl)<;>rfl
  obtain rfl:i=8:=zE
  rw[zzfr,nZ,zzar]at hr;rw[<- hr];obtain⟨rfl,rfl,rfl⟩|⟨h0,rfl,rfl⟩:=hO
  ·simp at zT
  simp[f5,f3,rZ,aa,abl,h0]
 obtain rfl:i=l.length:=zE
 have e0:nZ (8-l.length) (l.drop l.length) last=[]:=by rw[zzbt];cases 8-l.length<;>rfl
 rw[e0,zzar]at hr;rw[<- hr];obtain⟨rfl,rfl,rfl⟩|⟨h0,rfl,rfl⟩:=hO
 ·simp[f5,f3,rZ,abl]
 simp[f5,f3,rZ,abl,h0]
def L7(l:List Od)(hl:l.length<=1000000000000):Pure Tryz.prog aD 12 [.sl .ro (l.map Qq)] (.sl .ro ((HL l).map Qq)):=by
 obtain⟨rt,h⟩:=Sd l hl;exact Zh h (Wk.sl _ _)
open Go Go.Abs
def aub(o:List Pg)(rt:Rt)(ls:Pa):Prop:=(rt=.full/\ls=[]/\o.length=1)\/(rt=.own 0 18/\ls=[o.length]/\2<=o.length)
def auc(p:Pl)(l:List Od)(f:Nat->AV)(m:AM):Prop:=
 ∃(i:Nat)(g:Pg)(out:List Pg)(rt:Rt)(ls:Pa),f 9=I i/\i<=l.length/\f 8=.sl rt (out.map Qj)/\aub out rt ls/\out.length=i+1/\out++Ka g (l.drop i)=DZ p l/\ChP i g/\m=⟨[Qa p,Qj g],ls,fun _=>.gone,0⟩
def HX:UV:=fun _ f l=>if f=30 then(match l with
 |[.agg cs]=>Hy (dPl cs)
 |_=>.junk)else if f=25 then(match l with
 |[.agg cs,.agg ds]=>.agg (Qj (Jw (dPg cs) (dOd ds)))
 |_=>.junk)else .junk
def af8(p:Pl)(l:List Od)(hp:PlL p)(hl:l.length<=8)(ho:∀o∈l,Af o):∃rt,Pure Tryz.prog aD 13 [.agg (Qa p),.sl .ro (l.map Qq)] (.sl rt ((DZ p l).map Qj)):=by
 refine⟨if DS p=0 then(if l=[]then .full else .ro)else .nil,Qp ajA HX zd ?_⟩;have zo:=BH p (ajf hp.sh hp.al hp.ea);have hdp:=OL p;unfold Hy at zo;by_cases hb:DS p=0
 ·have WW:ChP 0 (eN (Jl p)):=⟨(vf hp.sh hb).eN,vi _⟩;have iu:DZ p l=eN (Jl p)::Ka (eN (Jl p)) l:=by unfold DZ;rw[if_pos hb]
  rw[<- lB,hb]at zo;rw[if_pos hb];have hR:Hy p=.aS [.agg (Qj (eN (Jl p))),.sl .ro ((yP p).map Qy),I 0]:=by unfold Hy;rw[lB,hb]
  have hc:=(aaB (l:=l) hp.sh hl 0 (eN (Jl p)) (by rw[iu];rfl));generalize eN (Jl p)=g0 at*
  simp only[Qa,Qj,zzae,zzai]at zo hdp hR;simp[abm,Qa,Qj,HX,hdp,hR];refine⟨zo,?_⟩;refine Qi Em (auc p l) (fun f _=>l.length-(numOf (f 9)).toNat) ?_ ?_
  ·exact⟨0,g0,[g0],.full,[],zd,zE,by simp[Qj,Qa],.inl ⟨rfl,rfl,rfl⟩,rfl,by rw[iu];simp,hc,by simp[Qj,Qa]⟩
  rintro f m ⟨i,g,out,rt,ls,f9,hi,f8,hO,zT,hr,hg,rfl⟩;rcases zzaa i l.length with ah|bq
  ·obtain⟨o,cO⟩:∃o,l[i]?=some o:=⟨_,zzaf ah⟩;have aa:(i:Int)<(l.length:Int):=zE
   have ai:Qh (l.map Qq) i=Qq o:=Qu (by simp[cO]);have hw:=bO i zE;have hd:l.drop i=o::l.drop (i+1):=by rw[zzag ah,(zza.1 cO).2]
   rw[hd,Ka]at hr;have k25:=nW g o (BI hg.ok zE (ho o (zzad cO)));rw[<- oa]at k25;have hg':=hg.step (o:=o) zE;have hdg:dPg (Qj g)=g:=by rw[ON,hg.nn]
   have A1:=DX o;generalize hG:Jw g o=h at*
   simp only[Qa,Qj,Qq,Qd,Qg,Qk,zzae,zzai]at k25 hdg A1 ai;obtain⟨rfl,rfl,h1⟩|⟨rfl,rfl,h1⟩:=hO
   ·simp[f9,f8,Em,aa,hw,ai,HX,hdg,A1,hG,Qa,Qj];refine⟨k25,⟨?_,zE⟩,aQ,⟨i+1,h,out++[h],.own 0 18,[out.length+1],zd,zE,by simp[Qj,Qa],.inr ⟨rfl,zd,by simp;omega⟩,by simp;omega,by rw[<- hr];simp,hg',by simp[Qj,Qa]⟩,zE⟩
    ·rintro row (⟨a,_,rfl⟩|rfl)<;>rfl
   simp[f9,f8,Em,aa,hw,ai,HX,hdg,A1,hG,Qa,Qj];refine⟨k25,⟨?_,zE⟩,aQ,⟨i+1,h,out++[h],.own 0 18,[out.length+1],zd,zE,by simp[Qj,Qa],.inr ⟨rfl,zd,by simp;omega⟩,by simp;omega,by rw[<- hr];simp,hg',by simp[Qj,Qa]⟩,zE⟩
   ·rintro row (⟨a,_,rfl⟩|rfl)<;>rfl
  obtain rfl:i=l.length:=zE
  rw[zzbt,Ka,zzar]at hr;rw[<- hr];obtain⟨rfl,rfl,h1⟩|⟨rfl,rfl,h1⟩:=hO
  ·have h0:l=[]:=zzbx.1 zE;simp[f9,f8,Em,abn,h0]
  have h0:l≠[]:=fun h=>by rw[h]at zT;simp at zT;omega
  simp[f9,f8,Em,abn,h0]
 have iu:DZ p l=[]:=by unfold DZ;rw[if_neg hb]
 rw[if_neg hb,iu];have hR:Hy p=.aS [.agg (Qj (Jl p)),.sl .ro ((yP p).map Qy),I (DS p)]:=rfl;generalize Jl p=g0 at*
 simp only[Qa,Qj,zzae,zzai]at zo hdp hR;simp[abm,abn,Qa,Qj,HX,hdp,hR,hb];exact zo
def aaA(p:Pl)(l:List Od)(hp:PlL p)(hl:l.length<=8)(ho:∀o∈l,Af o):Pure Tryz.prog aD 13 [.agg (Qa p),.sl .ro (l.map Qq)] (.sl .ro ((DZ p l).map Qj)):=by
 obtain⟨rt,h⟩:=af8 p l hp hl ho;exact Zh h (Wk.sl _ _)
open Go Go.Abs
def uk:Pl:=⟨0,25,1,0,[],0,1,200,1,[⟨1,5,50,0,0⟩,⟨2,2,20,0,0⟩,⟨3,4,100,0,0⟩],[⟨1,2,20,0,0,0,[]⟩,⟨2,3,40,20,50,0,[]⟩],[],[⟨1,2,0,1000,255,0,0,0⟩,⟨1,3,0,1000,255,0,0,0⟩]⟩
def zy:Pl:={uk with ens:=[⟨1,2,20,0,0,0,[]⟩,⟨2,3,50,20,50,0,[]⟩]}
def zz:Pl:={uk with ens:=[⟨1,2,20,0,0,0,[]⟩]}
def fiE(a n:Int):bn:=⟨0,1,a,n,0,1,[],false⟩
def bI:Pg:=⟨uk,[⟨1,2,0,20,0,1,[],false⟩,⟨2,3,20,40,0,1,[],false⟩,fiE 60 50,fiE 110 50,fiE 160 40],[],0,[],0⟩
def SZ:Pg:=⟨zy,[⟨1,2,0,20,0,1,[],false⟩,⟨2,3,20,10,0,1,[],false⟩,⟨2,3,30,40,10,1,[],false⟩,fiE 70 50,fiE 120 50,fiE 170 30],[],0,[],1⟩
def exK:Pg:=⟨zz,[⟨1,2,0,20,0,1,[],false⟩,fiE 20 50,fiE 70 50,fiE 120 50,fiE 170 30],[],0,[],1⟩
def oL:Od:=⟨1,-1,30,1,2,10,SS,ZC,ZD⟩
def oD:Od:=⟨1,0,20,2,2,0,SS,ZC,ZD⟩
def oX:Od:=⟨1,0,20,2,1,0,SS,ZC,ZD⟩
def anr(fr a:Int):Vp fr a a=[]:=by rw[Vp,if_neg zE]
def ans{fr t a:Int}(h:a<t)(h2:t-a<=fr):Vp fr t a=[(a,t-a)]:=by
 have hN:Ub fr t a=t-a:=by unfold Ub;rw[if_pos zE];omega
 rw[Vp,if_pos h,hN,show a+(t-a)=t by omega,anr]
def Mc{fr t a:Int}(h:a<t)(h1:1<=fr)(h2:fr<t-a):Vp fr t a=(a,fr)::Vp fr t (a+fr):=by
 have hN:Ub fr t a=fr:=by unfold Ub;split<;>omega
 rw[Vp,if_pos h,hN]
def aaQ:pJ uk=true:=by cbv
def aud:pJ zy=true:=by cbv
def aue:pJ zz=true:=by cbv
def auf:Ut uk [1,2] [] [] 0 (-1)=some [(1,0),(2,20)]:=by rw[<- Oz];cbv
def aaR:Hw uk=some [(1,0),(2,20)]:=by unfold Hw;rw[if_neg (by rw[aaQ];decide)];exact auf
def aug:pP uk ⟨1,2,20,0,0,0,[]⟩ 0=⟨1,2,0,20,0,1,[],false⟩:=by cbv
def auh:pP uk ⟨2,3,40,20,50,0,[]⟩ 20=⟨2,3,20,40,0,1,[],false⟩:=by cbv
def aui:(tZ uk [(1,0),(2,20)] 0).map zx=bI.ev:=by
 have h1:jO uk (1,0) 0=some ⟨1,2,20,0,0,0,[]⟩:=by cbv
 have h2:jO uk (2,20) 20=some ⟨2,3,40,20,50,0,[]⟩:=by cbv
 have hf:Ye uk=50:=by cbv
 have hl:uk.ln=200:=rfl;rw[tZ,if_neg (by rw[hl];omega),Jh,h1];simp only[hf,anr,zzcs,zzai];rw[show(0:Int)+20=20 from rfl,Jh,h2];simp only[hf,anr,zzcs,zzai];rw[show(20:Int)+40=60 from rfl,Jh,hf,hl,Mc zE zE zE,Mc zE zE zE,ans zE zE,aug,auh];rfl
def ajl:DS uk=0:=by unfold DS;rw[if_neg (by rw[aaQ];decide),aaR]
def ajm:eN (Jl uk)=bI:=by
 unfold Jl eN;rw[aaR];simp only;rw[aui];rfl
def ayw:Vq oL=true:=by
 unfold Vq;rw[if_neg (by simp[oL]),if_neg (by simp[oL]),if_neg (by simp[oL]),if_neg (by simp[oL])];simp[oL,okB,Kb,Qcw,uW,SS,ZC,ZD,eB]
def auj:Vq oD=true:=by
 unfold Vq;rw[if_neg (by simp[oD]),if_neg (by simp[oD]),if_neg (by simp[oD]),if_neg (by simp[oD])];simp[oD,okB,Kb,Qcw,uW,SS,ZC,ZD,eB]
def sD0:Jc ([]:Pi)=[]:=by unfold Jc;simp
def ant:Jk bI 30 (Xn 30 bI.ev []) oL=some (zy,50):=by
 unfold Jk;rw[if_neg (by simp[bI,uk])];have hb:Kv bI 30 (Xn 30 bI.ev []) oL=some (zy,50):=by cbv
 have hm:zq bI 30 (Xn 30 bI.ev []) oL zy 50=true:=by cbv
 rw[hb];simp only;rw[if_pos (by rw[aud,hm];rfl)]
def aaS:Jk bI 20 (Xn 20 bI.ev []) oD=some (zz,0):=by
 unfold Jk;rw[if_neg (by simp[bI,uk])];have hb:Kv bI 20 (Xn 20 bI.ev []) oD=some (zz,0):=by cbv
 have hm:zq bI 20 (Xn 20 bI.ev []) oD zz 0=true:=by cbv
 rw[hb];simp only;rw[if_pos (by rw[aue,hm];rfl)]
def anu:Jk bI 20 (Xn 20 bI.ev []) oX=none:=by
 unfold Jk;rw[if_neg (by simp[bI,uk])];cases hb:Kv bI 20 (Xn 20 bI.ev []) oX with
 |none=>rfl
 |some r=>
  obtain⟨q,d⟩:=r
  have hm:zq bI 20 (Xn 20 bI.ev []) oX q d=false:=by
   unfold zq;rw[if_neg (by simp[oX]),if_pos (by rfl)];cbv
  simp only;rw[hm,zzhb,if_neg (by decide)]
def ayx:Uu bI oL=true:=by unfold Uu;rw[ayw];rfl
def auk:Uu bI oD=true:=by unfold Uu;rw[auj];rfl
def anv:nY bI oD=true:=by
 unfold nY;rw[auk,if_neg (by simp[oD])];show(true&&(Jk bI 20 (Xn 20 bI.ev []) oD).isSome)=true;rw[aaS];rfl
def anw:nY bI oX=false:=by
 unfold nY;rw[if_neg (by simp[oX])];show(Uu bI oX&&(Jk bI 20 (Xn 20 bI.ev []) oX).isSome)=false;rw[anu,Option.isSome_none,zzhb]
def ajn:Jw bI oL=SZ:=by
 have cZ:zw bI 30 (Xn 30 bI.ev []) oL zy 50=some ⟨2,3,30,40,10,1,[],true⟩:=by cbv
 have he:Uc bI 30 (Xn 30 bI.ev []) oL zy 50=70:=by unfold Uc;rw[cZ];rfl
 have h1:Us bI 30 (Xn 30 bI.ev []) oL zy 50=[⟨1,2,0,20,0,1,[],false⟩,⟨2,3,20,10,0,1,[],false⟩,⟨2,3,30,40,10,1,[],true⟩]:=by unfold Us;rw[cZ];cbv
 have hi:Yp bI (Xn 30 bI.ev []) zy.ens=[]:=by cbv
 have hk:RS bI 30 (Xn 30 bI.ev []) oL zy 50=[]:=by unfold RS;rw[hi];rfl
 have hs:Vt bI 30 (Xn 30 bI.ev []) oL zy 50=[]:=by unfold Vt;rw[hi,hk];rfl
 have hd:Kz bI 30 (Xn 30 bI.ev []) oL zy 50=[]:=by unfold Kz;rw[hi,hk];rfl
 have hf:Ye zy=50:=by cbv
 have hl:zy.ln=200:=rfl
 have hb:Wd bI 30 (Xn 30 bI.ev []) oL zy 50=[⟨0,1,70,50,0,1,[],true⟩,⟨0,1,120,50,0,1,[],true⟩,⟨0,1,170,30,0,1,[],true⟩]:=by
  unfold Wd;rw[hs,he,tZ,if_neg (by rw[hl];omega),Jh,hf,hl,Mc zE zE zE,Mc zE zE zE,ans zE zE];rfl
 unfold Jw Zn;rw[if_neg (by rw[ayx];decide),if_neg (by simp[oL])];have hx:Jk bI oL.fr (Xn oL.fr bI.ev []) oL=some (zy,50):=ant;rw[hx];show eN (SV bI oL (Xn 30 bI.ev []) zy 50)=SZ;unfold SV;show eN ({bI with p:=zy,ev:=Us bI 30 _ _ zy 50++Wd bI 30 _ _ zy 50,dr:=dd (Jc (bI.dr++Kz bI 30 _ _ zy 50)),ve:=bI.ve+1}:Pg)=SZ;rw[h1,hb,hd];show eN ({bI with p:=zy,ev:=_,dr:=dd (Jc []),ve:=_}:Pg)=SZ;rw[sD0];rfl
def ajo:Jw bI oD=exK:=by
 have cZ:zw bI 20 (Xn 20 bI.ev []) oD zz 0=none:=by cbv
 have he:Uc bI 20 (Xn 20 bI.ev []) oD zz 0=20:=by unfold Uc;rw[cZ]
 have h1:Us bI 20 (Xn 20 bI.ev []) oD zz 0=[⟨1,2,0,20,0,1,[],false⟩]:=by unfold Us;rw[cZ];cbv
 have hi:Yp bI (Xn 20 bI.ev []) zz.ens=[]:=by cbv
 have hk:RS bI 20 (Xn 20 bI.ev []) oD zz 0=[]:=by unfold RS;rw[hi];rfl
 have hs:Vt bI 20 (Xn 20 bI.ev []) oD zz 0=[]:=by unfold Vt;rw[hi,hk];rfl
 have hd:Kz bI 20 (Xn 20 bI.ev []) oD zz 0=[]:=by unfold Kz;rw[hi,hk];rfl
 have hf:Ye zz=50:=by cbv
 have hl:zz.ln=200:=rfl
 have hb:Wd bI 20 (Xn 20 bI.ev []) oD zz 0=[⟨0,1,20,50,0,1,[],true⟩,⟨0,1,70,50,0,1,[],true⟩,⟨0,1,120,50,0,1,[],true⟩,⟨0,1,170,30,0,1,[],true⟩]:=by
  unfold Wd;rw[hs,he,tZ,if_neg (by rw[hl];omega),Jh,hf,hl,Mc zE zE zE,Mc zE zE zE,Mc zE zE zE,ans zE zE];rfl
 unfold Jw Zn;rw[if_neg (by rw[auk];decide),if_neg (by simp[oD])];have hx:Jk bI oD.fr (Xn oD.fr bI.ev []) oD=some (zz,0):=aaS;rw[hx];show eN (SV bI oD (Xn 20 bI.ev []) zz 0)=exK;unfold SV;show eN ({bI with p:=zz,ev:=Us bI 20 _ _ zz 0++Wd bI 20 _ _ zz 0,dr:=dd (Jc (bI.dr++Kz bI 20 _ _ zz 0)),ve:=bI.ve+1}:Pg)=exK;rw[h1,hb,hd];show eN ({bI with p:=zz,ev:=_,dr:=dd (Jc []),ve:=_}:Pg)=exK;rw[sD0];rfl
open Go Go.Abs
def aaT(e:En×Rt):P2:=[I e.1.id,I e.1.it,I e.1.fr,I e.1.ea,I e.1.la,I e.1.bo,.sl e.2 (e.1.al.map Qe)]
def anx(l:List (En×Rt))(rt:Rt):Wk (.sl rt (l.map aaT)) (.sl .ro ((l.map (·.1)).map Qd)):=by
 refine Wk.trans (Wk.sl _ _) ?_;rw[zzcu];refine Wk.rows l aaT (Qd ∘ (·.1)) (fun _=>rfl) fun a j c' h=>?_
 match j,h with
 |0,h=>exact⟨_,rfl,by cases h;exact Ps⟩
 |1,h=>exact⟨_,rfl,by cases h;exact Ps⟩
 |2,h=>exact⟨_,rfl,by cases h;exact Ps⟩
 |3,h=>exact⟨_,rfl,by cases h;exact Ps⟩
 |4,h=>exact⟨_,rfl,by cases h;exact Ps⟩
 |5,h=>exact⟨_,rfl,by cases h;exact Ps⟩
 |6,h=>exact⟨_,rfl,by cases h;exact Wk.sl _ _⟩
 |j+7,h=>simp[Qd]at h
def aaU:P2:=[I 0,I 25,I 1,I 0,.sl .nil [],I 0,I 1,I 200,I 1,.sl .full [[I 1,I 5,I 50,I 0,I 0],[I 2,I 2,I 20,I 0,I 0],[I 3,I 4,I 100,I 0,I 0]],
 .sl .full [[I 1,I 2,I 20,I 0,I 0,I 0,.sl .nil []],[I 2,I 3,I 40,I 20,I 50,I 0,.sl .nil []]],.sl .nil [],
 .sl .full [[I 1,I 2,I 0,I 1000,I 255,I 0,I 0,I 0],[I 1,I 3,I 0,I 1000,I 255,I 0,I 0,I 0]]]
def Me:Pure Tryz.prog aD 31 [] (.agg aaU):=by
 refine Qp ajN (fun _ _ _=>.junk) zd ?_;simp[aoJ,aoK,aaU]
def Se:Pure Tryz.prog aD 31 [] (.agg (Qa uk)):=
 Zh Me (jN ⟨Ps,Ps,Ps,Ps,Wk.sl _ _,Ps,Ps,Ps,Ps,Wk.sl _ _,anx [(⟨1,2,20,0,0,0,[]⟩,.nil),(⟨2,3,40,20,50,0,[]⟩,.nil)] .full,Wk.sl _ _,Wk.sl _ _,trivial⟩)
def Mf:RX uk:=⟨by decide,by decide,by decide,by decide,by decide,by decide⟩
def aaV:PlL uk:=⟨Mf,by decide,by decide⟩
def oc:dJ 0 bI:=by rw[<- ajm];exact(vf Mf ajl).eN
def anz:dJ 1 SZ:=by rw[<- ajn];exact(rP oc zE).eN
def anA:dJ 1 exK:=by rw[<- ajo];exact(rP oc zE).eN
def af9:Pure Tryz.prog aD 30 [.agg (Qa uk)] (.aS [.agg (Qj bI),.sl .ro [],I 0]):=by
 have k:=BH uk (ajf Mf aaV.al aaV.ea)
 have e:Hy uk=.aS [.agg (Qj bI),.sl .ro [],I 0]:=by
  unfold Hy yP;rw[ajl,aaR,aaQ,<- lB,ajm];rfl
 rw[e]at k;exact k
def qh(q c f k e n:Int):P2:=[I q,I c,I f,I k,I e,I n,I 0,I 0,I 0,I 0,I 0,I 0,.sl .nil [],I 0,I 0,I 0,I 0,I 0,I 0,I 0,I 0,I 0,I 0,I 0,I 0,.str ⟨#[]⟩]
def HY(q c f k e n:Int):Wk (.agg (qh q c f k e n)) (.agg (Qq ⟨q,c,f,k,e,n,SS,ZC,ZD⟩)):=
 jN ⟨Ps,Ps,Ps,Ps,Ps,Ps,Ps,Ps,Ps,Ps,Ps,Ps,Wk.sl _ _,Ps,Ps,Ps,Ps,Ps,Ps,Ps,Ps,Ps,Ps,Ps,Ps,Ps,trivial⟩
def O3(q c f k e n:Int):Af ⟨q,c,f,k,e,n,SS,ZC,ZD⟩:=by simp[Af,SS]
def anB:Pure Tryz.prog aD 25 [.agg (Qj bI),.agg (qh 1 (-1) 30 1 2 10)] (.agg (Qj SZ)):=by
 have k:=nW bI oL (BI oc zE (O3 _ _ _ _ _ _));rw[<- oa,ajn]at k;exact Xz k ⟨Ps,HY _ _ _ _ _ _,trivial⟩
def anC:Pure Tryz.prog aD 25 [.agg (Qj bI),.agg (qh 1 0 20 2 2 0)] (.agg (Qj exK)):=by
 have k:=nW bI oD (BI oc zE (O3 _ _ _ _ _ _));rw[<- oa,ajo]at k;exact Xz k ⟨Ps,HY _ _ _ _ _ _,trivial⟩
def ayy:Pure Tryz.prog aD 21 [.agg (Qj bI),.agg (qh 1 0 20 2 2 0)] (.bool true):=by
 have k:=rR bI oD (BI oc zE (O3 _ _ _ _ _ _));rw[anv]at k;exact Xz k ⟨Ps,HY _ _ _ _ _ _,trivial⟩
def ayz:Pure Tryz.prog aD 21 [.agg (Qj bI),.agg (qh 1 0 20 2 1 0)] (.bool false):=by
 have k:=rR bI oX (BI oc zE (O3 _ _ _ _ _ _));rw[anw]at k;exact Xz k ⟨Ps,HY _ _ _ _ _ _,trivial⟩
def ayA:Pure Tryz.prog aD 22 [.agg (qh 1 0 20 2 2 0)] (.bool true):=by
 have k:=tc oD (by decide);rw[auj]at k;exact Xz k ⟨HY _ _ _ _ _ _,trivial⟩
def aga:Pure Tryz.prog aD 23 [.agg (Qj bI),.agg (Qj bI)] (.bool true):=ann bI (oc.sm zE)
def agb(g h:Pg)(hv:g.ve≠h.ve):Pure Tryz.prog aD 23 [.agg (Qj g),.agg (Qj h)] (.bool false):=by
 refine Qp S5 (fun _ _ _=>.bool true) zd ?_;by_cases he:g.ed=h.ed
 ·simp[abo,abp,Qj,Qa,he,hv]
 simp[abo,abp,Qj,Qa,he,hv]
def ayB:Pure Tryz.prog aD 34 [.sl .ro (SZ.ev.map Qf),I 69] (.aS [.agg [I 2,I 3,I 30,I 40,I 10,I 1,.sl .ro []],I 49,.bool true]):=by
 have k:=HU SZ.ev 69 (by decide) anz.small.2 zE;have e:yc 69 (Dm 69 SZ.ev)=.aS [.agg [I 2,I 3,I 30,I 40,I 10,I 1,.sl .ro []],I 49,.bool true]:=by cbv
 rw[e]at k;exact k
def ayC:Pure Tryz.prog aD 34 [.sl .ro (exK.ev.map Qf),I 30] (.aS [.agg [I 0,I 1,I 20,I 50,I 0,I 1,.sl .ro []],I 10,.bool true]):=by
 have k:=HU exK.ev 30 (by decide) anA.small.2 zE;have e:yc 30 (Dm 30 exK.ev)=.aS [.agg [I 0,I 1,I 20,I 50,I 0,I 1,.sl .ro []],I 10,.bool true]:=by cbv
 rw[e]at k;exact k
def aaW:UV:=fun d f _=>if f=31 then .agg (Qa uk)else if f=30 then .aS [.agg (Qj bI),.sl .ro [],I 0]else if f=25 then(if d=29 then .agg (Qj SZ)else .agg (Qj exK))
 else if f=32 then .aS [.str ⟨#[2,1,60,2,4,20]⟩,I 0]else if f=33 then .aS [.agg (qh 1 (-1) 30 1 2 10),I 0]
 else if f=34 then(if d=46 then .aS [.agg [I 2,I 3,I 30,I 40,I 10,I 1,.sl .ro []],I 49,.bool true]else .aS [.agg [I 0,I 1,I 20,I 50,I 0,I 1,.sl .ro []],I 10,.bool true])
 else if f=21 then .bool (decide (d≠59))else if f=22 then .bool true else if f=23 then .bool (decide (d=130))else .junk
def am9:Pure Tryz.prog aD 11 [] (.bool true):=by
 have h1:Qh (bI.ev.map Qf) 1=[I 2,I 3,I 20,I 40,I 0,I 1,.sl .ro []]:=rfl;have h2:bI.ev.length=5:=rfl;have h3:SZ.ve=1:=rfl;have k1:=Se;have k2:=af9;have k3:=anB;have k4:=anC;have k5:=HZ (gl:=aD);have k6:=H6 (gl:=aD);have k7:=ayB;have k8:=ayC;have k9:=ayz;have k10:=ayA;have k11:=ayy;have k12:=aga;have k13:=agb bI SZ (by decide);simp only[Qj,Qa,qh,oSL,zzae,zzai]at k1 k2 k3 k4 k5 k6 k7 k8 k9 k10 k11 k12 k13;refine Qp ajx aaW zd ?_;simp[aoy,aoz,aaW,Qj,Qa,qh,h1,h2,h3];exact⟨k1,k2,k3,k4,k5,k6,k7,k8,k9,k10,k11,k12,k13⟩
def ana{p:Pl}(hp:(∀e∈p.ens,e.al.length<=8796093022208)/\∀e∈p.ens,e.ea<=9223372036854775807):PlL (Rz p):=
 ⟨amZ p,fun e he=>hp.1 e (zzce he),fun e he=>hp.2 e (zzce he)⟩
