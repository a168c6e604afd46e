import Derived.Test.YthjppoincojfkaaGreatDoorRTRgG
set_option linter.all false
set_option maxRecDepth 100000
set_option maxHeartbeats 64000000
namespace Go.Proofs.YthjppoincojfkaaGreatDoor
open Go Go.Abs
def wu6(n:Int)(h:0<=n)(h':n<=9223372036854775807):IntKind.u64.wrap n=n:=by
 simp[IntKind.wrap,IntKind.bits,IntKind.signed];omega
def R8(e:aW)(f:Int)(h:Kq e)(hf:f<=9223372036854775807):Pure Tryz.prog aD 77 [.agg (Qf e),.ep [I f] 0] (.bool (Wd f e)):=by
 refine Qp akI (fun _ _ _=>.junk) zd ?_;obtain⟨⟨a1,a2⟩,⟨a3,a4⟩,_⟩:=h;by_cases h1:e.st<=f
 ·have w1:=wu6 e.st zE zE;have w2:=wu6 f zE zE;have w3:=wu6 (f-e.st) zE zE;have w4:=wu6 e.fr zE zE;by_cases h2:0<e.fr
  ·have:(f-e.st<e.fr)=(f<e.st+e.fr):=by apply propext;omega
   simp[abX,abY,Qf,h1,h2,Wd,w1,w2,w3,w4,this]
  have:¬f<e.st+e.fr:=zE
  simp[abX,abY,Qf,h1,h2,Wd,this]
 simp[abX,abY,Qf,h1,Wd]
def HU(L:List aW)(f:Int)(hL:L.length<=1000000000)(hs:∀e∈L,Kq e)(hf:f<=9223372036854775807):Pure Tryz.prog aD 78 [.sl .ro (L.map Qf),.fn 77 [] [.ep [I f] 0]] (I (gP f L 0)):=by
 refine Qp Tx (K6 f) zd ?_;simp[akJ,abZ];refine Qj rY (fun s m=>∃i:Nat,s 8=I i/\i<=L.length/\gP f (L.drop i) i=gP f L 0/\m=⟨[],[],fun _=>.gone,0⟩) (fun s m=>L.length-(numOf (s 8)).toNat) ?_ ?_
 ·exact⟨0,zd,zE,zd,rfl⟩
 rintro s m ⟨i,hi,cw,hr,rfl⟩;rcases zzaa i L.length with ah|bu
 ·obtain⟨a,ha⟩:∃a,L[i]?=some a:=⟨L[i],zzaf ah⟩;have ai:Qi (L.map Qf) i=Qf a:=Qw (by simp[ha]);have hw:=bO i zE;rw[Zc ha]at hr;have hp:Pure Tryz.prog aD 77 [.agg (Qf a),.ep [I f] 0] (.bool (Wd f a)):=R8 a f (hs a (zzad ha)) hf;have ho:decide (a.st<=f/\f<a.st+a.fr)=Wd f a:=rfl;by_cases h:Wd f a=true
  ·simp[gP,h]at hr;rw[h]at hp ho;simp at ho;simp[hi,ai,ah,Qf,K6,rY,ho];exact⟨hp,hr⟩
  simp at h;simp[gP,h]at hr;rw[h]at hp ho
  have cM:decide (a.st<=f)=false\/decide (f<a.st+a.fr)=false:=by
   by_cases q:a.st<=f
   ·right;simp at ho |-;omega
   left;simp[q]
  simp only[decide_eq_false_iff_not]at ho;simp[hi,ai,ah,Qf,K6,rY,ho,hw];refine⟨hp,aQ,⟨i+1,zd,zE,hr⟩,zE⟩
 rw[zzam bu]at hr;simp[hi,zzbm.2 bu,rY];exact hr
def HV(L:List aW)(f:Int)(hL:L.length<=1000000000)(hs:∀e∈L,Kq e)(hf:f<=9223372036854775807):Pure Tryz.prog aD 34 [.sl .ro (L.map Qf),I f] (xR f (Di f L)):=by
 have El:=HU L f hL hs hf;refine Qp aj7 (fun _ g l=>if g=78 then I (gP f L 0)else l.headD .junk) zd ?_;cases SF:Di f L with
 |none=>
  rw[xP SF]at El |-
  simp[aj5,aj6,xR,ai2];exact El
 |some a=>
  obtain⟨k,h1,h2,h3⟩:=xQ (i:=0) SF;rw[h1]at El |-
  have ah:k<L.length:=(zza.1 h2).1;have ai:Qi (L.map Qf) k=Qf a:=Qw (by simp[h2]);obtain⟨⟨a1,a2⟩,⟨a3,a4⟩,⟨a7,a8⟩,a9⟩:=hs a (zzad h2);have hon:a.st<=f/\f<a.st+a.fr:=by simpa[Wd]using h3
  have w1:IntKind.i64.wrap (a.i+f)=a.i+f:=by rw[Ql]<;>omega
  have w2:IntKind.i64.wrap (a.i+f-a.st)=a.i+f-a.st:=by rw[Ql]<;>omega
  rw[zzbs]at El;have hcn:=Qcf a.al a9;simp[aj5,aj6,xR,ah,ai,Qf];refine⟨El,hcn,Qaz [(.junk,⟨[[I f],[I a.id,I a.it,I a.st,I a.fr,I a.i,I a.re,.sl .ro (a.al.map Qe)],[I a.id,I a.it,I a.st,I a.fr,I a.i,I a.re,.sl .ro (a.al.map Qe)]],[],fun _=>.gone,0⟩)] ?_⟩;simp[w1,w2]
def ayA(re r:Int):Bool:=decide (re.fdiv (2 ^ (min r.toNat 64))%2=1)
def PsR(ml ls:Pa)(rt:Rt)(n:Nat):Prop:=(∃lx,ls=ml++lx)/\(rt=.full\/∃k,rt=.own k 3/\ml.length<=k/\ls[k]?=some n)
def yS(n:Nat)(f:Nat->AV)(m:AM):Prop:=∃i:Nat,f 13=I i/\i<=n/\m=⟨[],[],fun _=>.gone,0⟩
def ayB(l:Pi)(hl:l.length<=8796093022208):Pure Tryz.prog aD 50 [.sl .ro (l.map Qz),.sl .ro (l.map Qz)] (.bool true):=by
 refine Qp akm (fun _ _ _=>.junk) zd ?_;simp[ao6];refine Qj Tl (yS l.length) (fun f _=>l.length-(numOf (f 13)).toNat) ?_ ?_
 ·exact⟨0,zd,zE,rfl⟩
 rintro f m ⟨i,eS,hi,rfl⟩;rcases zzaa i l.length with ah|bu
 ·obtain⟨a,ha⟩:=aV ah;have ai:Qi (l.map Qz) i=Qz a:=Qw (by simp[ha]);have aa:(i:Int)<(l.length:Int):=zE
  have hw:=bO i zE;simp[eS,Tl,ah,aa,ai,Qz,hw];refine⟨aQ,⟨i+1,zd,zE,rfl⟩,zE⟩
 obtain rfl:i=l.length:=zE
 simp[eS,Tl,ao7]
def ayC(l:List Cue)(hl:l.length<=8796093022208):Pure Tryz.prog aD 51 [.sl .ro (l.map Qh),.sl .ro (l.map Qh)] (.bool true):=by
 refine Qp akn (fun _ _ _=>.junk) zd ?_;simp[ao8];refine Qj Tm (yS l.length) (fun f _=>l.length-(numOf (f 13)).toNat) ?_ ?_
 ·exact⟨0,zd,zE,rfl⟩
 rintro f m ⟨i,eS,hi,rfl⟩;rcases zzaa i l.length with ah|bu
 ·obtain⟨a,ha⟩:=aV ah;have ai:Qi (l.map Qh) i=Qh a:=Qw (by simp[ha]);have aa:(i:Int)<(l.length:Int):=zE
  have hw:=bO i zE;simp[eS,Tm,ah,aa,ai,Qh,hw];refine⟨aQ,⟨i+1,zd,zE,rfl⟩,zE⟩
 obtain rfl:i=l.length:=zE
 simp[eS,Tm,ao9]
def auh(l:List Sp)(hl:l.length<=8796093022208):Pure Tryz.prog aD 56 [.sl .ro (l.map Qe),.sl .ro (l.map Qe)] (.bool true):=by
 refine Qp aku (fun _ _ _=>.junk) zd ?_;simp[ape];refine Qj Tp (yS l.length) (fun f _=>l.length-(numOf (f 13)).toNat) ?_ ?_
 ·exact⟨0,zd,zE,rfl⟩
 rintro f m ⟨i,eS,hi,rfl⟩;rcases zzaa i l.length with ah|bu
 ·obtain⟨a,ha⟩:=aV ah;have ai:Qi (l.map Qe) i=Qe a:=Qw (by simp[ha]);have aa:(i:Int)<(l.length:Int):=zE
  have hw:=bO i zE;simp[eS,Tp,ah,aa,ai,Qe,hw];refine⟨aQ,⟨i+1,zd,zE,rfl⟩,zE⟩
 obtain rfl:i=l.length:=zE
 simp[eS,Tp,apf]
def aui(l:List It)(hl:l.length<=8796093022208):Pure Tryz.prog aD 57 [.sl .ro (l.map Qm),.sl .ro (l.map Qm)] (.bool true):=by
 refine Qp akv (fun _ _ _=>.junk) zd ?_;simp[apg];refine Qj Tq (yS l.length) (fun f _=>l.length-(numOf (f 13)).toNat) ?_ ?_
 ·exact⟨0,zd,zE,rfl⟩
 rintro f m ⟨i,eS,hi,rfl⟩;rcases zzaa i l.length with ah|bu
 ·obtain⟨a,ha⟩:=aV ah;have ai:Qi (l.map Qm) i=Qm a:=Qw (by simp[ha]);have aa:(i:Int)<(l.length:Int):=zE
  have hw:=bO i zE;simp[eS,Tq,ah,aa,ai,Qm,hw];refine⟨aQ,⟨i+1,zd,zE,rfl⟩,zE⟩
 obtain rfl:i=l.length:=zE
 simp[eS,Tq,aph]
def auj(l:List Bk)(hl:l.length<=8796093022208):Pure Tryz.prog aD 60 [.sl .ro (l.map Xi),.sl .ro (l.map Xi)] (.bool true):=by
 refine Qp akz (fun _ _ _=>.junk) zd ?_;simp[apl];refine Qj Ts (yS l.length) (fun f _=>l.length-(numOf (f 13)).toNat) ?_ ?_
 ·exact⟨0,zd,zE,rfl⟩
 rintro f m ⟨i,eS,hi,rfl⟩;rcases zzaa i l.length with ah|bu
 ·obtain⟨a,ha⟩:=aV ah;have ai:Qi (l.map Xi) i=Xi a:=Qw (by simp[ha]);have aa:(i:Int)<(l.length:Int):=zE
  have hw:=bO i zE;simp[eS,Ts,ah,aa,ai,Xi,hw];refine⟨aQ,⟨i+1,zd,zE,rfl⟩,zE⟩
 obtain rfl:i=l.length:=zE
 simp[eS,Ts,apm]
def auk(l:List Cl)(hl:l.length<=8796093022208):Pure Tryz.prog aD 61 [.sl .ro (l.map Qg),.sl .ro (l.map Qg)] (.bool true):=by
 refine Qp akA (fun _ _ _=>.junk) zd ?_;simp[apn];refine Qj Tt (yS l.length) (fun f _=>l.length-(numOf (f 13)).toNat) ?_ ?_
 ·exact⟨0,zd,zE,rfl⟩
 rintro f m ⟨i,eS,hi,rfl⟩;rcases zzaa i l.length with ah|bu
 ·obtain⟨a,ha⟩:=aV ah;have ai:Qi (l.map Qg) i=Qg a:=Qw (by simp[ha]);have aa:(i:Int)<(l.length:Int):=zE
  have hw:=bO i zE;simp[eS,Tt,ah,aa,ai,Qg,hw];refine⟨aQ,⟨i+1,zd,zE,rfl⟩,zE⟩
 obtain rfl:i=l.length:=zE
 simp[eS,Tt,apo]
def ajG(l:List Sp)(hl:l.length<=8796093022208):Pure Tryz.prog aD 112 [.sl .ro (l.map Qe),.sl .ro (l.map Qe)] (.bool true):=by
 refine Qp ach (fun _ _ _=>.junk) zd ?_;simp[agS];refine Qj I4 (yS l.length) (fun f _=>l.length-(numOf (f 13)).toNat) ?_ ?_
 ·exact⟨0,zd,zE,rfl⟩
 rintro f m ⟨i,eS,hi,rfl⟩;rcases zzaa i l.length with ah|bu
 ·obtain⟨a,ha⟩:=aV ah;have ai:Qi (l.map Qe) i=Qe a:=Qw (by simp[ha]);have aa:(i:Int)<(l.length:Int):=zE
  have hw:=bO i zE;simp[eS,I4,ah,aa,ai,Qe,hw];refine⟨aQ,⟨i+1,zd,zE,rfl⟩,zE⟩
 obtain rfl:i=l.length:=zE
 simp[eS,I4,agT]
def agp(e:aW)(hl:e.al.length<=8796093022208):Pure Tryz.prog aD 55 [.agg (Qf e),.agg (Qf e)] (.bool true):=by
 have k:=ajG e.al hl;refine Qp akt (fun _ _ _=>.bool true) zd ?_;simp[apc,apd,Qf];exact k
def agq(e:En)(hl:e.al.length<=8796093022208):Pure Tryz.prog aD 59 [.agg (Qd e),.agg (Qd e)] (.bool true):=by
 have k:=ajG e.al hl;refine Qp aky (fun _ _ _=>.bool true) zd ?_;simp[apj,apk,Qd];exact k
def ajH(n:Nat)(f:Nat->AV)(m:AM):Prop:=∃(i:Nat)(bx:T5),f 17=I i/\i<=n/\m=⟨bx,[],fun _=>.gone,0⟩
def anF(l:List aW)(hl:l.length<=8796093022208)(ha:∀e∈l,e.al.length<=8796093022208):Pure Tryz.prog aD 54 [.sl .ro (l.map Qf),.sl .ro (l.map Qf),.fn 55 [] []] (.bool true):=by
 refine Qp aks (fun _ _ _=>.bool true) zd ?_;simp[akr];refine Qj Tn (ajH l.length) (fun f _=>l.length-(numOf (f 17)).toNat) ?_ ?_
 ·exact⟨0,_,zd,zE,rfl⟩
 rintro f m ⟨i,bx,h17,hi,rfl⟩;rcases zzaa i l.length with ah|bu
 ·obtain⟨a,he⟩:=aV ah;have k:=agp a (ha a (zzad he));have ai:Qi (l.map Qf) i=Qf a:=Qw (by simp[he]);have aa:(i:Int)<(l.length:Int):=zE
  have hw:=bO i zE;simp only[Qf]at k ai;simp[h17,Tn,ah,aa,ai,Qf,hw];refine⟨k,aQ,⟨i+1,_,zd,zE,rfl⟩,zE⟩
 obtain rfl:i=l.length:=zE
 simp[h17,Tn,apb]
def anG(l:List En)(hl:l.length<=8796093022208)(ha:∀e∈l,e.al.length<=8796093022208):Pure Tryz.prog aD 58 [.sl .ro (l.map Qd),.sl .ro (l.map Qd),.fn 59 [] []] (.bool true):=by
 refine Qp akx (fun _ _ _=>.bool true) zd ?_;simp[akw];refine Qj Tr (ajH l.length) (fun f _=>l.length-(numOf (f 17)).toNat) ?_ ?_
 ·exact⟨0,_,zd,zE,rfl⟩
 rintro f m ⟨i,bx,h17,hi,rfl⟩;rcases zzaa i l.length with ah|bu
 ·obtain⟨a,he⟩:=aV ah;have k:=agq a (ha a (zzad he));have ai:Qi (l.map Qd) i=Qd a:=Qw (by simp[he]);have aa:(i:Int)<(l.length:Int):=zE
  have hw:=bO i zE;simp only[Qd]at k ai;simp[h17,Tr,ah,aa,ai,Qd,hw];refine⟨k,aQ,⟨i+1,_,zd,zE,rfl⟩,zE⟩
 obtain rfl:i=l.length:=zE
 simp[h17,Tr,api]
structure anH (g:Pg):Prop where
 sh:g.p.sh.length<=8796093022208
 aM:g.p.aM.length<=8796093022208
 ens:g.p.ens.length<=8796093022208
 al:∀e∈g.p.ens,e.al.length<=8796093022208
 bks:g.p.bks.length<=8796093022208
 cls:g.p.cls.length<=8796093022208
 ev:g.ev.length<=8796093022208
 eal:∀e∈g.ev,e.al.length<=8796093022208
 cu:g.cu.length<=8796093022208
 dr:g.dr.length<=8796093022208
def anI(l:List aW)(hl:l.length<=8796093022208)(ha:∀e∈l,e.al.length<=8796093022208):Pure Tryz.prog aD 26 [.sl .ro (l.map Qf),.sl .ro (l.map Qf)] (.bool true):=by
 have k:=anF l hl ha;refine Qp aj2 (fun _ _ _=>.bool true) zd ?_;simp[aoX,aoY];exact k
def anJ(g:Pg)(h:anH g):Pure Tryz.prog aD 27 [.agg (Qa g.p),.agg (Qa g.p)] (.bool true):=by
 have k1:=auh g.p.sh h.sh;have k2:=aui g.p.aM h.aM;have k3:=anG g.p.ens h.ens h.al;have k4:=auj g.p.bks h.bks;have k5:=auk g.p.cls h.cls;refine Qp aj3 (fun _ _ _=>.bool true) zd ?_;simp[aoZ,ao0,Qa];exact⟨k1,k2,k3,k4,k5⟩
def anK(g:Pg)(h:anH g):Pure Tryz.prog aD 23 [.agg (Qk g),.agg (Qk g)] (.bool true):=by
 have k1:=ayB g.dr h.dr;have k2:=ayC g.cu h.cu;have k3:=anI g.ev h.ev h.eal;have k4:=anJ g h;simp only[Qa]at k4;refine Qp Ta (fun _ _ _=>.bool true) zd ?_;simp[abH,abI,Qk,Qa];exact⟨k1,k2,k3,k4⟩
def cO.sm{k:Nat}{g:Pg}(h:cO k g)(hk:k<=900):anH g where
 sh:=by have:=h.sh;omega
 aM:=by have:=h.aM;omega
 ens:=by have:=h.ens;omega
 al:=fun e he=>(h.plc hk).2.2.2.2.2 e he
 bks:=by have:=h.bks;omega
 cls:=by have:=h.cls;omega
 ev:=by have:=h.small.1;omega
 eal:=fun e he=>by have:=(h.ep e he).2.2.1;omega
 cu:=by have:=h.cu;omega
 dr:=by have:=h.dr;omega
def okI(q:Pl)(id r x:Int):Prop:=∃y,Xk id q.aM=some y/\(y.ki=5\/Xv q id r x 1=true)
def EvG(q:Pl)(e:aW)(x:Int):Prop:=(∀r,0<=r->ayA e.re r=true->okI q e.it r x)/\∀a∈e.al,okI q a.2 a.1 x
def aul(g:Pg)(F:Int):Prop:=∀e∈g.ev,∀x,F<=x->e.st<=x->x<e.st+e.fr->EvG g.p e x
def R9(l:List aW)(id f:Int):Bool:=l.any fun e=>decide (e.id=id)&&decide (e.st<f)
def aa7(b:QR)(k id:Int):fO (Vj k true b) id=(decide (id=k)||fO b id):=by
 unfold fO;rw[Ul];by_cases h:id=k<;>simp[h]
def HW(f id:Int):∀(L:List aW)(b:QR),fO (Xd f L b) id=(fO b id||R9 L id f)
 |[],b=>by simp[Xd,R9]
 |e::r,b=>by
  rw[Xd,HW f id r];have e1:decide (id=e.id)=decide (e.id=id):=decide_eq_decide.2 eq_comm;have e2:R9 (e::r) id f=(decide (e.id=id)&&decide (e.st<f)||R9 r id f):=rfl;rw[e2];by_cases h:e.st<f
  ·rw[ac h,aa7,e1,decide_eq_true h];cases decide (e.id=id)<;>cases fO b id<;>simp
  rw[ab h,decide_eq_false h];simp
def agr(f id:Int)(L:List aW):fO (Xd f L []) id=R9 L id f:=by
 rw[HW];simp[fO,af]
def rN(g:Pg)(o:Od):Bool:=Ug g o&&(if o.ki=5 then(DN o.cu g.cu).isSome else(Jk g o.fr (Xd o.fr g.ev []) o).isSome)
def O8{p:Pl}:∀{l:List En}{seen:Pi},zT p seen l=true->(l.map (·.id)).Nodup/\∀e∈l,¬e.id∈seen
 |[],_,_=>⟨List.nodup_nil,fun e he=>by cases he⟩
 |x::r,seen,h=>by
  rw[zT,zzac]at h;obtain⟨h1,h2⟩:=h;obtain⟨i1,i2⟩:=O8 h2;simp only[xH,zzac]at h1;have hs:¬x.id∈seen:=by simpa using h1.2.1
  refine⟨?_,fun e he=>?_⟩
  ·rw[zzar,zzed];refine⟨fun hm=>?_,i1⟩;obtain⟨e,he,hee⟩:=zzan.1 hm;exact i2 e he (zzez _ (by rw[hee];simp))
  rcases zzao.1 he with rfl|he
  ·exact hs
  exact fun hm=>i2 e he (zzff _ hm)
def OW{p:Pl}(h:pe p=true):(p.ens.map (·.id)).Nodup:=by
 simp only[pe,zzac]at h;have h4:=h.2.2.2.1;simp only[sP,zzac]at h4;exact(O8 h4.2).1
def ayD(g:Pg):Prop:=∀e∈g.ev,e.id≠0->∀x,Xn e.id g.p.ens=some x->x.it=e.it
def HK(l:Pi):(Uk l).Pairwise (·<=·)/\∀x,x∈Uk l<->x∈l:=by
 refine⟨?_,fun x=>List.mem_mergeSort⟩;have:=zzfq (le:=fun x y:Int=>decide (x<=y)) (fun a b c h1 h2=>by simp at h1 h2 |-;omega) (fun a b=>by simp;omega) l;exact this.imp fun h=>by simpa using h
def Sa(g:Pg)(fr:Int)(mb:T5):T5:=mb++(Qk g::Qr g fr (mb.length+2)::[.aJ 0 (bG .bool (Xd fr g.ev []))]::Qr g fr (mb.length+2)::g.ev.map Qf)
def anL(g:Pg)(fr:Int)(mb:T5)(ml:Pa)(ms:Nat->LS)(mn:Nat)(f:Nat->AV)(m:AM):Prop:=
 ∃(i:Nat)(b:QR),f 16=I i/\i<=g.ev.length/\Xd fr (g.ev.drop i) b=Xd fr g.ev []/\b.length<=i/\
  m=⟨mb++(Qk g::Em::[.aJ 0 (bG .bool b)]::Qr g fr (mb.length+2)::(g.ev.take i).map Qf),ml,ms,mn⟩
def Sb(Y:YT)(m:AM)(g:Pg)(fr:Int)(hl:g.ev.length<=1000000):
  aB Tryz.prog aD Y 43 [.agg (Qk g),I fr] m (fun r m'=>r=.agg (Qr g fr (m.boxes.length+2))/\m'={m with boxes:=Sa g fr m.boxes}):=by
 obtain⟨mb,ml,ms,mn⟩:=m;refine Xo Te (fun _ _ _=>.junk) zd ?_;simp[aki,Qk,Qa];refine Qj lF (anL g fr mb ml ms mn) (fun f _=>g.ev.length-(numOf (f 16)).toNat) ?_ ?_
 ·exact⟨0,[],zd,zE,zd,zd,by simp[Qk,Qa,Qr,Em]⟩
 rintro f m ⟨i,b,KI,hi,hb,fT,rfl⟩;rcases zzaa i g.ev.length with ah|bu
 ·obtain⟨e,he⟩:=aV ah;have ai:Qi (g.ev.map Qf) i=Qf e:=Qw (by simp[he]);have aa:(i:Int)<(g.ev.length:Int):=zE
  have hw:=bO i zE;have hd:g.ev.drop i=e::g.ev.drop (i+1):=by rw[zzai ah,(zza.1 he).2]
  have bz:(g.ev.take (i+1)).map Qf=(g.ev.take i).map Qf++[Qf e]:=by rw[zzay,he];simp
  generalize(g.ev.take i).map Qf=bx at bz |-
  rw[hd,Xd]at hb;by_cases hs:e.st<fr
  ·rw[ac hs]at hb;have fM:=rz e.id true b;rcases Xx AV.bool e.id b 0 with⟨b1,b2,b3,b4⟩|⟨u,n,b1,b2,b3,b4,b5,b6⟩
   ·simp[KI,lF,aa,ai,hw,Qf,Qk,Qa,Qr,Em,hs,b2];refine⟨aQ,⟨i+1,Vj e.id true b,zd,zE,hb,zE,by rw[bz];simp[Qk,Qa,Qr,Em,Qf,b4]⟩,zE⟩
   simp[KI,lF,aa,ai,hw,Qf,Qk,Qa,Qr,Em,hs,b2];refine⟨aQ,⟨i+1,Vj e.id true b,zd,zE,hb,zE,by rw[bz];simp[Qk,Qa,Qr,Em,Qf,b6]⟩,zE⟩
  rw[ab hs]at hb;simp[KI,lF,aa,ai,hw,Qf,Qk,Qa,Qr,Em,hs];refine⟨aQ,⟨i+1,b,zd,zE,hb,zE,by rw[bz];simp[Qk,Qa,Qr,Em,Qf]⟩,zE⟩
 obtain rfl:i=g.ev.length:=zE
 rw[zzc,Xd]at hb;subst hb;simp[KI,lF,akj,Qk,Qa,Qr,Em,Sa]
def anM(g:Pg)(fr:Int)(mb:T5)(h:∀c∈mb,eG c):(∀c∈Sa g fr mb,eG c)/\fN (Sa g fr mb) (mb.length+2) (Xd fr g.ev []):=by
 refine⟨fun c hc=>?_,⟨by simp[Sa],by simp[Sa]⟩⟩;simp only[Sa,zzaj,zzao,zzan]at hc;obtain hc|rfl|rfl|rfl|rfl|⟨e,_,rfl⟩:=hc
 ·exact h c hc
 ·exact eG.of (by simp[Qk,Qa]) (aad g)
 ·exact eG.mo g fr _
 ·exact eG.map _
 ·exact eG.mo g fr _
 exact eG.of (by simp[Qf]) (DI e)
def agt(g:Pg)(fr:Int)(o:Od)(mb:T5)(ml:Pa)(ms:Nat->LS)(mn:Nat)(h:aac g fr o)(gJ:∀c∈mb,eG c)(v:AV)(hv:zZ (Jk g fr (Xd fr g.ev []) o)=v):
  aB Tryz.prog aD Y0 44 [.agg (Qr g fr (mb.length+2)),.agg (Qq o)] ⟨Sa g fr mb,ml,ms,mn⟩ (fun r m'=>r=v/\m'=⟨Sa g fr mb,ml,ms,mn⟩):=by
 obtain⟨h1,h2⟩:=anM g fr mb gJ;exact aB.mono (OA Y0 ⟨Sa g fr mb,ml,ms,mn⟩ g fr (mb.length+2) _ o h h2 h1) (by rintro r m' ⟨rfl,rfl⟩;exact⟨hv,rfl⟩)
def rM(g:Pg)(o:Od)(h:afX g o):Pure Tryz.prog aD 21 [.agg (Qk g),.agg (Qq o)] (.bool (rN g o)):=by
 obtain⟨hpg,fM,hve,qc,gY,hrn⟩:=h;have DO:=sW g o fM;have sH:=Bs g.cu o.cu qc;rw[Ht]at sH;unfold rN;simp only[Qk,Qa,Qq,Qd,Qg,Qh,zzae,zzag]at DO sH;cases hc:Ug g o with
 |false=>
  rw[hc]at DO;refine Qp u5 (fun _ f l=>if f=41 then .bool false else .gd false .junk) zd ?_;simp[Po,Pp,Qk,Qa,Qq,Qd,Qg,Qh];exact DO
 |true=>
  rw[hc]at DO;by_cases h5:o.ki=5
  ·rw[ac h5];rw[h5]at DO;cases he:DN o.cu g.cu with
   |none=>
    rw[he]at sH;refine Qp u5 (fun _ f l=>if f=41 then .bool true else if f=42 then .aS [.sl .nil [],I 150]else .gd false .junk) zd ?_;simp[Po,Pp,Qk,Qa,Qq,Qd,Qg,Qh,h5];exact⟨DO,sH⟩
   |some x=>
    rw[he]at sH;refine Qp u5 (fun _ f l=>if f=41 then .bool true else if f=42 then .aS [.sl (tW x) (x.map Qh),I 0]else .gd false .junk) zd ?_;simp[Po,Pp,Qk,Qa,Qq,Qd,Qg,Qh,h5];exact⟨DO,sH⟩
  rw[ab h5];have gY:=gY hc h5;have bU:g.ev.length<=1000000:=by have:=hpg.2.1;omega
  have gJ:∀c∈[Qk g,Qq o],eG c:=by
   intro c hc;simp only[zzao,zzdo,or_false]at hc;obtain rfl|rfl:=hc
   ·exact eG.of (by simp[Qk,Qa]) (aad g)
   exact eG.of (by simp[Qq]) rfl
  have kl:=Sb Y0 ⟨[Qk g,Qq o],[],fun _=>.gone,0⟩ g o.fr bU;have kc:=agt g o.fr o [Qk g,Qq o] [] (fun _=>.gone) 0 gY gJ;simp only[zzbf,zzcn]at kl kc;generalize hM:Sa g o.fr [Qk g,Qq o]=M at kl kc;have hM1:∀x,Qi (M++x) 1=Qq o:=fun x=>by rw[<- hM];simp[Sa]
  have anN:Qi M 1=Qq o:=by rw[<- hM];simp[Sa]
  simp only[Qq,Qd,Qg,Qh,zzae,zzag]at hM1 anN;cases hx:Jk g o.fr (Xd o.fr g.ev []) o with
  |none=>
   have kc:=kc _ (by rw[hx]);simp only[Qk,Qa,Qq,Qd,Qg,Qh,Qr,zzae,zzag]at kl kc;refine Qp u5 (fun _ f l=>if f=41 then .bool true else .gd false .junk) zd ?_;simp[Po,Pp,Qk,Qa,Qq,Qd,Qg,Qh,h5];refine⟨DO,G3 zd [(.agg (Qr g o.fr 4),⟨M,[],fun _=>.gone,0⟩),(zZ none,⟨M,[],fun _=>.gone,0⟩),(.ptr M.length 0,⟨M++[[I 0,I 0,I 0,I 0,.sl .nil [],I 0,I 0,I 0,I 0,.sl .nil [],.sl .nil [],.sl .nil [],.sl .nil [],I 0]],[],fun _=>.gone,0⟩),(.junk,⟨M++[RM],[],fun _=>.gone,0⟩)] ?_⟩;simp[Qr,Qk,Qa,zZ,RM,hM1,anN,Qq,Qd,Qg,Qh];exact⟨kl,kc⟩
  |some r=>
   obtain⟨q,d⟩:=r;have kc:=kc _ (by rw[hx]);simp only[Qk,Qa,Qq,Qd,Qg,Qh,Qr,zzae,zzag]at kl kc;refine Qp u5 (fun _ f l=>if f=41 then .bool true else .gd false .junk) zd ?_;simp[Po,Pp,Qk,Qa,Qq,Qd,Qg,Qh,h5];refine⟨DO,G3 zd [(.agg (Qr g o.fr 4),⟨M,[],fun _=>.gone,0⟩),(zZ (some (q,d)),⟨M,[],fun _=>.gone,0⟩),(.ptr M.length 0,⟨M++[[I 0,I 0,I 0,I 0,.sl .nil [],I 0,I 0,I 0,I 0,.sl .nil [],.sl .nil [],.sl .nil [],.sl .nil [],I 0]],[],fun _=>.gone,0⟩),(.junk,⟨M++[Qa q++[I d]],[],fun _=>.gone,0⟩)] ?_⟩;simp[Qr,Qk,Qa,zZ,RM,hM1,anN,Qq,Qd,Qg,Qh];simp only[zZ,Qa,zzae,zzag]at kc;exact⟨kl,kc⟩
def rK(o:Od):Od:={o with nw:={o.nw with al:=o.nw.al.take 9},cu:={o.cu with tx:=o.cu.tx.extract 0 (if 300<o.cu.tx.size then 300 else o.cu.tx.size)}}
def SZ(a b:Int):Int:=if a<b then b else a
def agu(o:Od)(last:Int):Od:={rK o with fr:=SZ o.fr last}
def Sc(o:Od)(last:Int):Int:=if SZ o.fr last<=100000000 then SZ o.fr last else last
def nP:Nat->List Od->Int->List Od
 |0,_,_=>[]
 |_+1,[],_=>[]
 |n+1,o::r,last=>agu o last::nP n r (Sc o last)
def HE(l:List Od):List Od:=nP 8 l 0
def agv(o:Od)(last:Int):last<=Sc o last:=by unfold Sc SZ;split<;>split<;>omega
def HX:∀(n:Nat)(l:List Od)(last:Int),(nP n l last).length<=n
 |0,_,_=>by simp[nP]
 |n+1,[],_=>by simp[nP]
 |n+1,o::r,last=>by have:=HX n r (Sc o last);simp[nP];omega
def O9:∀(n:Nat)(l:List Od)(last:Int),∀o∈nP n l last,tX o/\last<=o.fr
 |0,_,_,_,h=>by simp[nP]at h
 |n+1,[],_,_,h=>by simp[nP]at h
 |n+1,a::r,last,o,h=>by
  rw[nP]at h;rcases zzao.1 h with rfl|h
  ·refine⟨by simp[tX,agu,rK];omega,?_⟩;show last<=SZ a.fr last;unfold SZ;split<;>omega
  have h1:=O9 n r _ o h;have h2:=agv a last;exact⟨h1.1,zE⟩
def aaG(l:List Od):(HE l).length<=8:=HX 8 l 0
def agb(l:List Od):∀o∈HE l,tX o/\0<=o.fr:=O9 8 l 0
def OQ(g:Pg)(o:Od):Pg:=fS (Zi g o)
def O2:Pg->List Od->List Pg
 |_,[]=>[]
 |g,o::r=>OQ g o::O2 (OQ g o) r
def zm(p:Pl)(l:List Od):List Pg:=if DP p=0 then fS (Wl p)::O2 (fS (Wl p)) l else[]
def rQ:∀(g:Pg)(l:List Od),(O2 g l).length=l.length
 |_,[]=>rfl
 |g,o::r=>by rw[O2,zzbf,zzbf,rQ]
def uY(g:Pg):fS (fS g)=fS g:=by
 unfold fS;simp only[zzcw];congr 1
def Qdz(g:Pg)(o:Od):Qk (OQ g o)=Qk (Zi g o):=kS _
structure ChP (k:Nat) (g:Pg):Prop where
 ok:cO k g
 nn:fS g=g
def ChP.step{k:Nat}{g:Pg}{o:Od}(h:ChP k g)(hk:k<=900):ChP (k+1) (OQ g o):=⟨(rJ h.ok hk).fS,uY _⟩
def Pb:∀{l:List Od}{g:Pg}{k:Nat},ChP k g->k+l.length<=900->∀(i:Nat)(h:Pg),(g::O2 g l)[i]?=some h->ChP (k+i) h
 |[],g,k,hg,hk,0,h,e=>by simp at e;subst e;exact hg
 |[],g,k,hg,hk,i+1,h,e=>by simp[O2]at e
 |o::r,g,k,hg,hk,0,h,e=>by simp at e;subst e;exact hg
 |o::r,g,k,hg,hk,i+1,h,e=>by
  rw[O2,zzcl]at e;simp only[zzbf]at hk;have:=Pb (hg.step (o:=o) zE) zE i h e;rw[show k+(i+1)=k+1+i by omega];exact this
def L3{p:Pl}(hp:LU p){l:List Od}(hl:l.length<=8)(i:Nat)(g:Pg)(h:(zm p l)[i]?=some g):ChP i g:=by
 unfold zm at h;split at h
 ·rename_i hb;have:=Pb (l:=l) (g:=fS (Wl p)) (k:=0) ⟨(uX hp hb).fS,uY _⟩ zE i g h;rw[zzbs]at this;exact this
 simp at h
def agc(p:Pl)(l:List Od):(zm p l).length=if DP p=0 then l.length+1 else 0:=by
 unfold zm;split
 ·rw[zzbf,rQ]
 rfl
def R3{g:Pg}{o:Od}(h:rN g o=true):Zz o=true/\(o.ch= -1\/o.ch=g.p.ch):=by
 unfold rN at h;rw[zzac]at h;have h1:=h.1;unfold Ug at h1;rw[zzac,zzfw,am,am]at h1;exact h1
def EvT(lo up:Int):List aW->Prop
 |[]=>lo=up
 |e::r=>e.st=lo/\1<=e.fr/\0<=e.i/\EvT (e.st+e.fr) up r
def azA(g:Pg):Prop:=EvT 0 g.p.ln g.ev
structure PlL (p:Pl):Prop where
 sh:LU p
 al:∀e∈p.ens,e.al.length<=8796093022208
 ea:∀e∈p.ens,e.ea<=9223372036854775807
def D4{p:Pl}{e:En}{from_ s:Int}(h:Vm p e from_=some s):Xv p e.it 0 s e.fr=true:=by
 obtain⟨h1,h2,h3,h4,h5,h6,h7⟩:=Uh h;have hl:=(h7 (s+e.fr-1) zE zE);obtain⟨_,_,_,hx,_⟩:=hl;exact(xK _ _ _ _ _).2 ⟨⟨h1.1,h1.2,h3,zE⟩,h7⟩
def aaK(p:Pl):List Sp->Int->Prop
 |[],_=>True
 |s::r,free=>(∃e,Xn s.1 p.ens=some e/\(1<=e.fr/\e.fr<=1000000)/\free<=s.2/\0<=s.2/\s.2<=100000000/\e.ea<=s.2/\s.2<=e.la/\s.2+e.fr<=p.ln/\Xv p e.it 0 s.2 e.fr=true/\aaK p r (s.2+e.fr))
def DX{p:Pl}:∀{ids:Pi}{us en:List (Int×Int)}{free last:Int}{l:List Sp},Yt p ids us en free last=some l->l.map (·.1)=ids/\aaK p l free
 |[],_,_,_,_,l,h=>by cases h;exact⟨rfl,trivial⟩
 |id::r,us,en,free,last,l,h=>by
  rw[Yt]at h;cases hf:Wy id p.ens 0 with
  |none=>rw[hf]at h;cases h
  |some k=>
   rw[hf]at h;simp only at h;split at h
   ·cases h
   obtain⟨_,e,h2,h3,h4⟩:=Qdb hf;rw[zzel]at h2;rw[h2]at h;simp only at h;split at h
   ·cases h
   cases hs:Vm p e (Vr en (Ub p e.it) (max e.ea free))with
   |none=>rw[hs]at h;cases h
   |some s=>
    rw[hs]at h;simp only at h;cases hg:Yt p r (Zx us e.it) (Xz p en e.it (s+e.fr)) (s+e.fr) k with
    |none=>rw[hg]at h;cases h
    |some l'=>
     rw[hg]at h;cases h;obtain⟨g1,g2⟩:=DX hg;obtain⟨a1,a2,a3,a4,a5,a6,a7⟩:=Uh hs;have eZ:=pz en (Ub p e.it) (max e.ea free);exact⟨by simp[g1],e,h4,a1,zE,a3,a6,zE,a4,a5,D4 hs,g2⟩
def ayE(g:Pg)(F:Int):Prop:=∀e∈g.ev,∀x,F<=x->e.st<=x->x<e.st+e.fr->okI g.p e.it 0 x
def ayF(g:Pg)(F:Int):Prop:=∀e∈g.ev,∀a∈e.al,∀x,F<=x->e.st<=x->x<e.st+e.fr->II g.p a.2 a.1 x
structure azB (g:Pg) (F:Int):Prop where
 it:ayD g
 re:aul g F
 ne:ayE g F
 al:ayF g F
def aum:aW->List aW->Prop
 |_,[]=>True
 |a,e::r=>e.st=a.st+a.fr/\e.i=a.i+a.fr/\e.it=a.it/\aum e r
def ayG:List aW->Prop
 |[]=>True
 |e::r=>e.i=0/\aum e r
def evI(id:Int)(L:List aW):List aW:=L.filter fun e=>decide (e.id=id)
def HL{f:Int}:∀{R:List aW},(∀x∈R,f<=x.st)->Zm f R=[]
 |[],_=>rfl
 |b::r,h=>by rw[Zm,ac (h b zd),HL fun x hx=>h x (by simp[hx])]
def O0{L:List En}(hn:(L.map (·.id)).Nodup){x:En}(hx:x∈L):Xn x.id L=some x:=by
 induction L with
 |nil=>cases hx
 |cons y r ih=>
  rw[zzar,zzed]at hn;rw[Xn];rcases zzao.1 hx with rfl|hx
  ·rw[ac rfl]
  rw[ab (fun h=>hn.1 (zzan.2 ⟨x,hx,h.symm⟩))];exact ih hn.2 hx
structure aza (g:Pg) (F:Int):Prop where
 run:∀id,id≠0->ayG (evI id g.ev)
 sh:∀x∈g.p.ens,evI x.id g.ev=[]->x.id∈g.dr
 win:∀x∈g.p.ens,∀e r,evI x.id g.ev=e::r->F<=e.st->x.id ∉ g.dr/\x.ea<=e.st/\e.st<=x.la
def OY:∀{ids:Pi}{K:List Bool},K.length=ids.length->∀id∈ids,id∈Xe true ids K\/id∈Xe false ids K
 |[],_,_,id,h=>by cases h
 |x::r,[],h,_,_=>by simp at h
 |x::r,k::K,h,id,hi=>by
  rw[Xe,Xe];rcases zzao.1 hi with rfl|hi
  ·cases k<;>simp
  rcases OY (Nm h) id hi with h1|h1
  ·left;split
   ·exact zzcu _ h1
   exact h1
  right;split
  ·exact zzcu _ h1
  exact h1
def OX(f id:Int)(L:List aW):fO (Xd f L []) id=true<->∃e∈L,e.id=id/\e.st<f:=by
 rw[agr];unfold R9;rw[zzbt];constructor
 ·rintro⟨e,he,h⟩;rw[zzac,am,am]at h;exact⟨e,he,h⟩
 rintro⟨e,he,h1,h2⟩;exact⟨e,he,by rw[zzac,am,am];exact⟨h1,h2⟩⟩
def aaM{g:Pg}{f:Int}{b:QR}{o:Od}{q:Pl}{d:Int}{c:aW}(he:z6 g f b o q d=some c):
  ∃x∈g.ev,x.st<=f/\f<x.st+x.fr/\x.id≠0/\fO b x.id=true/\c.id=x.id/\c.st=f/\c.i=x.i+(f-x.st)/\c.it=x.it:=by
 unfold z6 at he;cases hp:Uc g f b with
 |none=>rw[hp]at he;cases he
 |some x=>
  rw[hp]at he;simp only at he;cases hF:zX g f o q d x with
  |none=>rw[hF]at he;cases he
  |some F=>
   rw[hF]at he;simp only at he;split at he
   ·cases he
   cases he;unfold Uc at hp;cases hfd:g.ev.find? (Wd f)with
   |none=>rw[hfd]at hp;cases hp
   |some y=>
    rw[hfd]at hp;simp only at hp;split at hp
    ·cases hp
    split at hp
    ·cases hp;rename_i h1 h2;have h3:=zzfl hfd;simp only[Wd,am]at h3;exact⟨x,zzdg hfd,h3.1,h3.2,h1,h2,rfl,rfl,rfl,rfl⟩
    cases hp
theorem Mc(o:Od)(last:Int):Qq (agu o last)=[I o.sq,I o.ch,I (SZ o.fr last),I o.ki,I o.en,I o.n,I o.nw.id,I o.nw.it,I o.nw.fr,I o.nw.ea,I o.nw.la,I o.nw.bo,.sl .ro (List.map Qe (List.take 9 o.nw.al)),
  I o.cl.ki,I o.cl.it,I o.cl.fr,I o.cl.to,I o.cl.re,I o.cl.n,I o.cl.a,I o.cl.b,I o.cu.id,I o.cu.fr,I o.cu.to,I o.cu.pr,.str (o.cu.tx.extract 0 (if 300<o.cu.tx.size then 300 else o.cu.tx.size))]:=rfl
def ajC(o:Od):Pure Tryz.prog aD 24 [.agg (Qq o)] (.agg (Qq (rK o))):=by
 have t1:List.take (if(9:Int)<(o.nw.al.length:Int)then(9:Int)else(o.nw.al.length:Int)).toNat (o.nw.al.map Qe)=List.take 9 (o.nw.al.map Qe):=by
  have:=Qds (o.nw.al.map Qe) 9;rw[zzbw]at this;exact this
 have a1:=sY (a:=o.nw.al.length) 9;have b1:=sZ (a:=o.nw.al.length) 9;have a2:=sY (a:=o.cu.tx.size) 300;have b2:=sZ (a:=o.cu.tx.size) 300
 have e2:(if(300:Int)<(o.cu.tx.size:Int)then(300:Int)else(o.cu.tx.size:Int)).toNat=if 300<o.cu.tx.size then 300 else o.cu.tx.size:=by
  by_cases h:300<o.cu.tx.size
  ·rw[ac h,ac zE];rfl
  rw[ab h,ab zE];omega
 simp at a1 b1 a2 b2;refine Qp aj1 (fun _ _ _=>.junk) zd ?_;simp[aoV,aoW,Qq,Qd,Qg,Qh,rK,t1,a1,b1,a2,b2,e2];rintro row a b _ rfl;rfl
def ayH(o:List Od)(rt:Rt)(ls:Pa):Prop:=(o=[]/\rt=.nil/\ls=[])\/(o≠[]/\rt=.own 0 26/\ls=[o.length])
def aun(l:List Od)(f:Nat->AV)(m:AM):Prop:=
 ∃(i:Nat)(out:List Od)(last:Int)(rt:Rt)(ls:Pa)(bx:T5),f 5=I i/\i<=l.length/\i<=8/\f 3=.sl rt (out.map Qq)/\f 4=I last/\ayH out rt ls/\out.length=i/\out++nP (8-i) (l.drop i) last=HE l/\m=⟨bx,ls,fun _=>.gone,0⟩
def pY:UV:=fun _ f l=>if f=24 then(match l with
 |[.agg cs]=>.agg (Qq (rK (dOd cs)))
 |_=>.junk)else .junk
def Sd(l:List Od)(hl:l.length<=1000000000000):∃rt,Pure Tryz.prog aD 12 [.sl .ro (l.map Qq)] (.sl rt ((HE l).map Qq)):=by
 refine⟨if HE l=[]then .nil else .ro,Qp ajV pY zd ?_⟩;simp[ajU];refine Qj rX (aun l) (fun f _=>l.length-(numOf (f 5)).toNat) ?_ ?_
 ·exact⟨0,[],0,.nil,[],[],zd,zE,zE,zd,zd,.inl ⟨rfl,rfl,rfl⟩,rfl,rfl,rfl⟩
 rintro f m ⟨i,out,last,rt,ls,bx,f5,hi,h8,f3,f4,hO,FM,hr,rfl⟩;rcases zzaa i l.length with ah|bu
 ·have aa:(i:Int)<(l.length:Int):=zE
  rcases zzaa i 8 with hl8|hg8
  ·have hi8:(i:Int)<8:=zE
   obtain⟨o,ho⟩:=aV ah;have ai:Qi (l.map Qq) i=Qq o:=Qw (by simp[ho]);have hw:=bO i zE;have hd:l.drop i=o::l.drop (i+1):=by rw[zzai ah,(zza.1 ho).2]
   rw[hd,show 8-i=(8-(i+1))+1 by omega,nP]at hr;have k24:=ajC o;have hdo:=OP o;have Gy:=Mc o last;have hx:SZ o.fr last=if o.fr<last then last else o.fr:=rfl;have hN:Sc o last=if SZ o.fr last<=100000000 then SZ o.fr last else last:=rfl;rw[hx]at Gy hN;generalize hM:(if o.fr<last then last else o.fr)=M at*
   generalize hC:agu o last=C at*
   simp only[Qq,Qd,Qg,Qh,rK,zzae,zzag,zzgp]at ai k24 hdo;simp only[zzgp]at Gy;have zy:(out++[C])++nP (8-(i+1)) (l.drop (i+1)) (Sc o last)=HE l:=by rw[<- hr];simp
   by_cases hm:M<=100000000
   ·rw[ac hm]at hN;rw[hN]at zy;obtain⟨rfl,rfl,rfl⟩|⟨h0,rfl,rfl⟩:=hO
    ·simp[f5,f3,f4,rX,aa,hi8,hw,ai,pY,hdo,hM,hm,rK,Qq,Qd,Qg,Qh];refine⟨k24,ag ?_,⟨i+1,[]++[C],M,.own 0 26,[1],_,zd,zE,zE,by simp[Gy],zd,.inr ⟨zd,rfl,zd⟩,by simp at FM |-;omega,zy,rfl⟩,zE⟩;repeat(first|exact Qb _ _|refine Qc _ rfl ?_)
    simp[f5,f3,f4,rX,aa,hi8,hw,ai,pY,hdo,hM,hm,rK,Qq,Qd,Qg,Qh];refine⟨k24,⟨?_,zE⟩,aQ,⟨i+1,out++[C],M,.own 0 26,[out.length+1],_,zd,zE,zE,by simp[Gy],zd,.inr ⟨zd,rfl,zd⟩,by simp;omega,zy,rfl⟩,zE⟩
    ·rintro row (⟨a,_,rfl⟩|rfl)<;>rfl
   rw[ab hm]at hN;rw[hN]at zy;obtain⟨rfl,rfl,rfl⟩|⟨h0,rfl,rfl⟩:=hO
   ·simp[f5,f3,f4,rX,aa,hi8,hw,ai,pY,hdo,hM,hm,rK,Qq,Qd,Qg,Qh];refine⟨k24,ag ?_,⟨i+1,[]++[C],last,.own 0 26,[1],_,zd,zE,zE,by simp[Gy],by simp[f4],.inr ⟨zd,rfl,zd⟩,by simp at FM |-;omega,zy,rfl⟩,zE⟩;repeat(first|exact Qb _ _|refine Qc _ rfl ?_)
   simp[f5,f3,f4,rX,aa,hi8,hw,ai,pY,hdo,hM,hm,rK,Qq,Qd,Qg,Qh];refine⟨k24,⟨?_,zE⟩,aQ,⟨i+1,out++[C],last,.own 0 26,[out.length+1],_,zd,zE,zE,by simp[Gy],by simp[f4],.inr ⟨zd,rfl,zd⟩,by simp;omega,zy,rfl⟩,zE⟩
   ·rintro row (⟨a,_,rfl⟩|rfl)<;>rfl
  obtain rfl:i=8:=zE
  rw[zzg,nP,zzat]at hr;rw[<- hr];obtain⟨rfl,rfl,rfl⟩|⟨h0,rfl,rfl⟩:=hO
  ·simp at FM
  simp[f5,f3,rX,aa,abE,h0]
 obtain rfl:i=l.length:=zE
 have e0:nP (8-l.length) (l.drop l.length) last=[]:=by rw[zzc];cases 8-l.length<;>rfl
 rw[e0,zzat]at hr;rw[<- hr];obtain⟨rfl,rfl,rfl⟩|⟨h0,rfl,rfl⟩:=hO
 ·simp[f5,f3,rX,abE]
 simp[f5,f3,rX,abE,h0]
def LZ(l:List Od)(hl:l.length<=1000000000000):Pure Tryz.prog aD 12 [.sl .ro (l.map Qq)] (.sl .ro ((HE l).map Qq)):=by
 obtain⟨rt,h⟩:=Sd l hl;exact Zk h (Wk.sl _ _)
def auo(o:List Pg)(rt:Rt)(ls:Pa):Prop:=(rt=.full/\ls=[]/\o.length=1)\/(rt=.own 0 18/\ls=[o.length]/\2<=o.length)
def aup(p:Pl)(l:List Od)(f:Nat->AV)(m:AM):Prop:=
 ∃(i:Nat)(g:Pg)(out:List Pg)(rt:Rt)(ls:Pa),f 9=I i/\i<=l.length/\f 8=.sl rt (out.map Qk)/\auo out rt ls/\out.length=i+1/\out++O2 g (l.drop i)=zm p l/\ChP i g/\m=⟨[Qa p,Qk g],ls,fun _=>.gone,0⟩
def HY:UV:=fun _ f l=>if f=30 then(match l with
 |[.agg cs]=>Hv (dPl cs)
 |_=>.junk)else if f=25 then(match l with
 |[.agg cs,.agg ds]=>.agg (Qk (OQ (dPg cs) (dOd ds)))
 |_=>.junk)else .junk
def agw(p:Pl)(l:List Od)(hp:PlL p)(hl:l.length<=8)(ho:∀o∈l,tX o):∃rt,Pure Tryz.prog aD 13 [.agg (Qa p),.sl .ro (l.map Qq)] (.sl rt ((zm p l).map Qk)):=by
 refine⟨if DP p=0 then(if l=[]then .full else .ro)else .nil,Qp ajW HY zd ?_⟩;have zg:=BB p (ajA hp.sh hp.al hp.ea);have hdp:=OO p;unfold Hv at zg;by_cases hb:DP p=0
 ·have W7:ChP 0 (fS (Wl p)):=⟨(uX hp.sh hb).fS,uY _⟩;have gY:zm p l=fS (Wl p)::O2 (fS (Wl p)) l:=by unfold zm;rw[ac hb]
  rw[<- kS,hb]at zg;rw[ac hb];have hR:Hv p=.aS [.agg (Qk (fS (Wl p))),.sl .ro ((yC p).map Qz),I 0]:=by unfold Hv;rw[kS,hb]
  have hc:=(L3 (l:=l) hp.sh hl 0 (fS (Wl p)) (by rw[gY];rfl));generalize fS (Wl p)=g0 at*
  simp only[Qa,Qk,zzae,zzag]at zg hdp hR;simp[abF,Qa,Qk,HY,hdp,hR];refine⟨zg,?_⟩;refine Qj Er (aup p l) (fun f _=>l.length-(numOf (f 9)).toNat) ?_ ?_
  ·exact⟨0,g0,[g0],.full,[],zd,zE,by simp[Qk,Qa],.inl ⟨rfl,rfl,rfl⟩,rfl,by rw[gY];simp,hc,by simp[Qk,Qa]⟩
  rintro f m ⟨i,g,out,rt,ls,f9,hi,f8,hO,FM,hr,hg,rfl⟩;rcases zzaa i l.length with ah|bu
  ·obtain⟨o,cM⟩:∃o,l[i]?=some o:=⟨_,zzaf ah⟩;have aa:(i:Int)<(l.length:Int):=zE
   have ai:Qi (l.map Qq) i=Qq o:=Qw (by simp[cM]);have hw:=bO i zE;have hd:l.drop i=o::l.drop (i+1):=by rw[zzai ah,(zza.1 cM).2]
   rw[hd,O2]at hr;have k25:=Qen g o (yD hg.ok zE (ho o (zzad cM)));rw[<- Qdz]at k25;have hg':=hg.step (o:=o) zE;have hdg:dPg (Qk g)=g:=by rw[aga,hg.nn]
   have hdo:=OP o;generalize hG:OQ g o=h at*
   simp only[Qa,Qk,Qq,Qd,Qg,Qh,zzae,zzag]at k25 hdg hdo ai;obtain⟨rfl,rfl,h1⟩|⟨rfl,rfl,h1⟩:=hO
   ·simp[f9,f8,Er,aa,hw,ai,HY,hdg,hdo,hG,Qa,Qk];refine⟨k25,⟨?_,zE⟩,aQ,⟨i+1,h,out++[h],.own 0 18,[out.length+1],zd,zE,by simp[Qk,Qa],.inr ⟨rfl,zd,by simp;omega⟩,by simp;omega,by rw[<- hr];simp,hg',by simp[Qk,Qa]⟩,zE⟩
    ·rintro row (⟨a,_,rfl⟩|rfl)<;>rfl
   simp[f9,f8,Er,aa,hw,ai,HY,hdg,hdo,hG,Qa,Qk];refine⟨k25,⟨?_,zE⟩,aQ,⟨i+1,h,out++[h],.own 0 18,[out.length+1],zd,zE,by simp[Qk,Qa],.inr ⟨rfl,zd,by simp;omega⟩,by simp;omega,by rw[<- hr];simp,hg',by simp[Qk,Qa]⟩,zE⟩
   ·rintro row (⟨a,_,rfl⟩|rfl)<;>rfl
  obtain rfl:i=l.length:=zE
  rw[zzc,O2,zzat]at hr;rw[<- hr];obtain⟨rfl,rfl,h1⟩|⟨rfl,rfl,h1⟩:=hO
  ·have h0:l=[]:=zzcd.1 zE;simp[f9,f8,Er,abG,h0]
  have h0:l≠[]:=fun h=>by rw[h]at FM;simp at FM;omega
  simp[f9,f8,Er,abG,h0]
 have gY:zm p l=[]:=by unfold zm;rw[ab hb]
 rw[ab hb,gY];have hR:Hv p=.aS [.agg (Qk (Wl p)),.sl .ro ((yC p).map Qz),I (DP p)]:=rfl;generalize Wl p=g0 at*
 simp only[Qa,Qk,zzae,zzag]at zg hdp hR;simp[abF,abG,Qa,Qk,HY,hdp,hR,hb];exact zg
def aaH(p:Pl)(l:List Od)(hp:PlL p)(hl:l.length<=8)(ho:∀o∈l,tX o):Pure Tryz.prog aD 13 [.agg (Qa p),.sl .ro (l.map Qq)] (.sl .ro ((zm p l).map Qk)):=by
 obtain⟨rt,h⟩:=agw p l hp hl ho;exact Zk h (Wk.sl _ _)
def auq(l:Pi)(n:Int)(f:Nat->AV)(m:AM):Prop:=∃(k:Nat),f 5=I k/\k<=l.length/\n ∉ l.take k/\m=⟨[],[],fun _=>.gone,0⟩
def at6(l:Pi)(n:Int)(hl:l.length<=1000000000):Pure Tryz.prog aD 20 [.sl .ro (l.map Qz),I n] (.bool (decide (n∈l))):=by
 refine Qp aj0 (fun _ _ _=>.junk) zd ?_;simp[aoU];refine Qj MA (auq l n) (fun f _=>l.length-(numOf (f 5)).toNat) ?_ ?_
 ·exact⟨0,zd,zE,zd,rfl⟩
 rintro f m ⟨k,f5,hk,hn,rfl⟩;rcases zzaa k l.length with ah|bu
 ·have Ks:(k:Int)<(l.length:Int):=zE
  have NV:IntKind.i64.wrap ((k:Int)+1)=(k:Int)+1:=by rw[Ql]<;>omega
  obtain⟨x,hx⟩:=aV ah;have r1:Qi (l.map Qz) k=[I x]:=Qw (by simp[hx,Qz]);by_cases hxn:x=n
  ·subst hxn;have hm:x∈l:=zzad hx;simp[f5,MA,Ks,NV,r1,ajZ,hm]
  have vL:n ∉ l.take (k+1):=by
   have e1:l.take (k+1)=l.take k++[x]:=by rw[List.take_succ,hx];rfl
   rw[e1,zzaj,zzbx];rintro(h|h)
   ·exact hn h
   exact hxn h.symm
  simp[f5,MA,Ks,NV,r1,hxn]
  repeat' first
   |exact⟨k+1,zd,zE,vL,rfl⟩
   |omega
   |exact Qb _ _
   |refine Qc _ rfl ?_
   |refine ag ?_
   |refine And.intro ?_ ?_
 obtain rfl:k=l.length:=zE
 rw[zzbu]at hn;simp[f5,MA,ajZ,hn]
def jR(L:List aW):List Ad:=Jl none L []
def uU(l:List Ad):List (Int×Int):=l.foldl (fun u a=>Zx u a.it) []
def uE(p:Pl)(l:List Ad):List (Int×Int):=l.foldl (fun u a=>Xz p u a.it (a.fr+a.fs)) []
def yI(l:List Ad)(a:Ad):uU (l++[a])=Zx (uU l) a.it:=by unfold uU;rw[zzeh];rfl
def yJ(p:Pl)(l:List Ad)(a:Ad):uE p (l++[a])=Xz p (uE p l) a.it (a.fr+a.fs):=by unfold uE;rw[zzeh];rfl
def OT{p:Pl}:∀{l:List Ad}{u en:List (Int×Int)},(∀a∈l,nC a=true)->Wt l u=l.foldl (fun u a=>Zx u a.it) u/\Wu p l en=l.foldl (fun u a=>Xz p u a.it (a.fr+a.fs)) en
 |[],_,_,_=>⟨rfl,rfl⟩
 |a::r,u,en,h=>by
  rw[Wt,Wu,h a zd,ac rfl,ac rfl];exact OT fun x hx=>h x (by simp[hx])
def Aa(p:Pl)(a b:List Ad):Prop:=LeU (uU a) (uU b)/\z7 (uE p a) (uE p b)
def Aa.refl{p:Pl}(a:List Ad):Aa p a a:=⟨fun _=>zzbd _,z7.refl _⟩
def Aa.push{p:Pl}(a:List Ad)(x:Ad):Aa p a (a++[x]):=by
 refine⟨?_,?_⟩
 ·rw[yI];exact LeU.skip (fun _=>zzbd _) _
 rw[yJ];exact z7.skip (z7.refl _) _ _
def Aa.two{p:Pl}(o:List Ad){x y:Ad}(h1:x.it=y.it)(h2:x.fr+x.fs<=y.fr+y.fs)(h3:0<=x.fr+x.fs):Aa p (o++[x]) (o++[y]):=by
 refine⟨?_,?_⟩
 ·rw[yI,yI,h1];exact fun _=>zzbd _
 rw[yJ,yJ,h1];exact z7.note (z7.refl _) _ h2 h3 rfl
def L6(k:Int)(out:List Ad):Prop:=∀a∈out,a.re=0/\0<=a.fr/\a.fr<=k/\1<=a.fs/\a.fs<=k
def L6.push{k:Int}{out:List Ad}{a:Ad}(h:L6 k out)(ha:a.re=0/\0<=a.fr/\a.fr<=k/\1<=a.fs/\a.fs<=k):L6 k (out++[a]):=fun x hx=>by
 rcases zzaj.1 hx with hx|hx
 ·exact h x hx
 rw[zzbx]at hx;subst hx;exact ha
def age{n:Int}(l:List Ad):(l=[]/\iy n l=[])\/∃O z,l=O++[z]/\∀n,iy n l=O++[{z with fs:=z.fs+n}]:=by
 rcases zzfc l with rfl|⟨O,z,rfl⟩
 ·exact .inl ⟨rfl,rfl⟩
 exact .inr ⟨O,z,zzef,fun n=>by rw[zzef,jN]⟩
def HH{up:Int}:∀{L:List aW}{lo:Int}{x:Option aW}{out:List Ad},dB lo up L->0<=lo->L6 lo out->L6 up (Jl x L out)
 |[],lo,x,out,h,h0,hk=>fun a ha=>by simp only[dB]at h;have:=hk a ha;omega
 |e::r,lo,x,out,h,h0,hk=>by
  obtain⟨h1,h2,h3⟩:=h;rw[Jl];refine HH h3 zE ?_;have hw:L6 (e.st+e.fr) out:=fun a ha=>by have:=hk a ha;omega
  have hp:=hw.push (a:=DG e) ⟨rfl,by show 0<=e.st;omega,by show e.st<=e.st+e.fr;omega,h2,by show e.fr<=e.st+e.fr;omega⟩;unfold Xj;split
  ·exact hw
  cases x with
  |none=>exact hp
  |some x=>
   simp only;split
   ·rcases age (n:=e.fr) out with⟨_,h⟩|⟨O,z,rfl,h⟩
    ·rw[h];intro a ha;cases ha
    rw[h];have:=hk z zd;exact L6.push (fun a ha=>hw a (by simp[ha])) (by simp only;omega)
   exact hp
def Yr(A:List aW)(e:aW):jR (A++[e])=Xj A.getLast? e (jR A):=by
 unfold jR;rw[rE];cases A.getLast?<;> rfl
def DY{p:Pl}{k:Int}{y:Option aW}{a b:aW}{out:List Ad}(hk:L6 k out)(h0:0<=a.st)(h6:0<=a.fr)(h1:a.id=b.id)(h2:a.it=b.it)(h3:a.st=b.st)(h4:a.i=b.i)(h5:a.fr<=b.fr):Aa p (Xj y a out) (Xj y b out):=by
 unfold Xj;rw[h1];split
 ·exact Aa.refl _
 have hp:Aa p (out++[DG a]) (out++[DG b]):=Aa.two _ h2 (by show a.st+a.fr<=b.st+b.fr;omega) (by show 0<=a.st+a.fr;omega);cases y with
 |none=>exact hp
 |some y=>
  have hj:gR y a<->gR y b:=by unfold gR;rw[h1,h3,h4]
  simp only[hj];split
  ·rcases age (n:=a.fr) out with⟨rfl,_⟩|⟨O,z,rfl,h⟩
   ·exact Aa.refl _
   rw[h,h];have:=hk z zd;exact Aa.two _ rfl (by simp only;omega) (by simp only;omega)
  exact hp
def aaO{p:Pl}{k:Int}{x:Option aW}{e:aW}{out:List Ad}(hk:L6 k out)(h:0<=e.fr):Aa p out (Xj x e out):=by
 unfold Xj;split
 ·exact Aa.refl _
 cases x with
 |none=>exact Aa.push _ _
 |some x=>
  simp only;split
  ·rcases age (n:=e.fr) out with⟨rfl,_⟩|⟨O,z,rfl,h'⟩
   ·exact Aa.refl _
   rw[h'];have:=hk z zd;exact Aa.two _ rfl (by simp only;omega) zE
  exact Aa.push _ _
def BF:∀(L A:List aW),(∀e∈L,e.id=0)->jR (A++L)=jR A
 |[],A,_=>by rw[zzat]
 |e::r,A,h=>by
  rw[show A++e::r=(A++[e])++r by simp,BF r _ fun x hx=>h x (by simp[hx]),Yr];unfold Xj;rw[ac (h e zd)]
def HF(e:aW):Prop:=1<=e.fr/\0<=e.i
def OS{A:List aW}{e:aW}(h0:e.id≠0)(hi:e.i=0)(hA:∀x∈A,HF x):jR (A++[e])=jR A++[DG e]:=by
 rw[Yr];unfold Xj;rw[ab h0];cases hl:A.getLast? with
 |none=>rfl
 |some x=>
  simp only;rw[ab];rintro⟨_,_,h3⟩;obtain⟨h1,h2⟩:=hA x (List.mem_of_getLast? hl);omega
def Pc:∀(L:List aW)(x:Option aW)(out:List Ad),Jl (x.map zk) (L.map zk) out=Jl x L out
 |[],_,_=>rfl
 |e::r,x,out=>by
  rw[zzar,Jl,Jl,show Xj (x.map zk) (zk e) out=Xj x e out by cases x<;>rfl];exact Pc r (some e) _
def L8(L:List aW):jR (L.map zk)=jR L:=Pc L none []
def qo(F:Int)(e:aW):Prop:=e.id≠0/\e.i=0/\F<=e.st
instance (F:Int) (e:aW):Decidable (qo F e):=by unfold qo;infer_instance
def ayI(p:Pl)(o:List Ad)(e:aW):Prop:=∃x,Xn e.id p.ens=some x/\x.it=e.it/\x.fr=e.fr/\(1<=e.fr/\e.fr<=1000000)/\e.st<=x.la/\0<=e.st/\e.st<=100000000/\e.st+e.fr<=p.ln/\
 (∀y,e.st<=y->y<e.st+e.fr->II p e.it 0 y)/\¬(Jf p e.it≠ -1/\Jf p e.it<=(af e.it (uU o)).getD 0)/\Vr (uE p o) (Ub p e.it) x.ea<=e.st
def pV(p:Pl)(F:Int):List aW->List aW->Prop
 |_,[]=>True
 |A,e::R=>(qo F e->ayI p (jR A) e)/\pV p F (A++[e]) R
def pV.app{p:Pl}{F:Int}{M:List aW}:∀{L A:List aW},pV p F A L->pV p F (A++L) M->pV p F A (L++M)
 |[],A,_,h=>by simpa using h
 |e::r,A,h,k=>⟨h.1,pV.app h.2 (Nm k)⟩
def pV.drop{p:Pl}{F:Int}{M:List aW}:∀{L A:List aW},pV p F A (L++M)->pV p F (A++L) M
 |[],A,h=>by simpa using h
 |e::r,A,h=>by simpa using pV.drop (L:=r) h.2
def pV.no{p:Pl}{F:Int}:∀{L A:List aW},(∀e∈L,¬qo F e)->pV p F A L
 |[],A,_=>trivial
 |e::r,A,h=>⟨fun he=>(h e zd he).elim,pV.no fun x hx=>h x (by simp[hx])⟩
def pV.nl{p:Pl}{F:Int}:∀{L A:List aW},pV p F A L->pV p F (A.map zk) (L.map zk)
 |[],A,_=>trivial
 |e::r,A,h=>⟨fun he=>by rw[L8];exact h.1 he,by have:=pV.nl h.2;rw[zzcb]at this;exact this⟩
def z8(F:Int)(L:List aW):Pi:=(L.filter fun e=>decide (qo F e)).map (·.id)
def DW(F:Int)(a b:List aW):z8 F (a++b)=z8 F a++z8 F b:=by unfold z8;rw[zzdb,zzcb]
def L5{F:Int}{L:List aW}(h:∀e∈L,¬qo F e):z8 F L=[]:=by
 unfold z8;rw[zzfs.2 (fun e he=>by rw[am];exact h e he)];rfl
def aa8(F:Int):∀L:List aW,z8 F (L.map zk)=z8 F L
 |[]=>rfl
 |e::r=>by
  have ih:=aa8 F r;unfold z8 at ih |-
  rw[zzar,zzdp,zzdp];show(if decide (qo F e)=true then _ else _:List aW).map _=_;split
  ·rw[zzar,zzar,ih];rfl
  exact ih
structure OV (g:Pg) (F:Int):Prop where
 ok:pV g.p F [] g.ev
 sr:(z8 F g.ev).Sublist (g.p.ens.map (·.id))
 f1:∀e∈g.ev,e.id≠0->∃a∈g.ev,a.id=e.id/\a.i=0
 f2:∀a∈g.ev,∀x∈g.ev,a.id=x.id->x.id≠0->a.st<x.st->1<=x.i
 sh:∀x∈g.p.ens,x.id ∉ g.dr->∃e∈g.ev,e.id=x.id
def OV.fS{g:Pg}{F:Int}(h:OV g F):OV (fS g) F:=by
 refine⟨pV.nl h.ok,?_,fun e he h0=>?_,fun a ha x hx=>?_,fun x hx hd=>?_⟩
 ·show(z8 F (g.ev.map zk)).Sublist _;rw[aa8];exact h.sr
 ·obtain⟨y,hy,rfl⟩:=zzan.1 he;obtain⟨a,a1,a2⟩:=h.f1 y hy h0;exact⟨_,zzan.2 ⟨a,a1,rfl⟩,a2⟩
 ·obtain⟨y,hy,rfl⟩:=zzan.1 ha;obtain⟨z,hz,rfl⟩:=zzan.1 hx;exact h.f2 y hy z hz
 obtain⟨e,e1,e2⟩:=h.sh x hx hd;exact⟨_,zzan.2 ⟨e,e1,rfl⟩,e2⟩
def tZ:Pl:=⟨0,25,1,0,[],0,1,200,1,[⟨1,5,50,0,0⟩,⟨2,2,20,0,0⟩,⟨3,4,100,0,0⟩],[⟨1,2,20,0,0,0,[]⟩,⟨2,3,40,20,50,0,[]⟩],[],[⟨1,2,0,1000,255,0,0,0⟩,⟨1,3,0,1000,255,0,0,0⟩]⟩
def zn:Pl:={tZ with ens:=[⟨1,2,20,0,0,0,[]⟩,⟨2,3,50,20,50,0,[]⟩]}
def zo:Pl:={tZ with ens:=[⟨1,2,20,0,0,0,[]⟩]}
def fiE(a n:Int):aW:=⟨0,1,a,n,0,1,[],false⟩
def bI:Pg:=⟨tZ,[⟨1,2,0,20,0,1,[],false⟩,⟨2,3,20,40,0,1,[],false⟩,fiE 60 50,fiE 110 50,fiE 160 40],[],0,[],0⟩
def S2:Pg:=⟨zn,[⟨1,2,0,20,0,1,[],false⟩,⟨2,3,20,10,0,1,[],false⟩,⟨2,3,30,40,10,1,[],false⟩,fiE 70 50,fiE 120 50,fiE 170 30],[],0,[],1⟩
def exK:Pg:=⟨zo,[⟨1,2,0,20,0,1,[],false⟩,fiE 20 50,fiE 70 50,fiE 120 50,fiE 170 30],[],0,[],1⟩
def oL:Od:=⟨1,-1,30,1,2,10,SS,ZJ,ZK⟩
def oD:Od:=⟨1,0,20,2,2,0,SS,ZJ,ZK⟩
def oX:Od:=⟨1,0,20,2,1,0,SS,ZJ,ZK⟩
def anO(fr a:Int):Vg fr a a=[]:=by rw[Vg,ab zE]
def anP{fr t a:Int}(h:a<t)(h2:t-a<=fr):Vg fr t a=[(a,t-a)]:=by
 have hN:Uf fr t a=t-a:=by unfold Uf;rw[ac zE];omega
 rw[Vg,ac h,hN,show a+(t-a)=t by omega,anO]
def Me{fr t a:Int}(h:a<t)(h1:1<=fr)(h2:fr<t-a):Vg fr t a=(a,fr)::Vg fr t (a+fr):=by
 have hN:Uf fr t a=fr:=by unfold Uf;split<;>omega
 rw[Vg,ac h,hN]
def aa9:pe tZ=true:=by cbv
def aur:pe zn=true:=by cbv
def aus:pe zo=true:=by cbv
def aut:Yt tZ [1,2] [] [] 0 (-1)=some [(1,0),(2,20)]:=by rw[<- OC];cbv
def aba:Hu tZ=some [(1,0),(2,20)]:=by unfold Hu;rw[ab (by rw[aa9];decide)];exact aut
def auu:tP tZ ⟨1,2,20,0,0,0,[]⟩ 0=⟨1,2,0,20,0,1,[],false⟩:=by cbv
def auv:tP tZ ⟨2,3,40,20,50,0,[]⟩ 20=⟨2,3,20,40,0,1,[],false⟩:=by cbv
def auw:(zf tZ [(1,0),(2,20)] 0).map zk=bI.ev:=by
 have h1:jo tZ (1,0) 0=some ⟨1,2,20,0,0,0,[]⟩:=by cbv
 have h2:jo tZ (2,20) 20=some ⟨2,3,40,20,50,0,[]⟩:=by cbv
 have hf:Vv tZ=50:=by cbv
 have hl:tZ.ln=200:=rfl;rw[zf,ab (by rw[hl];omega),Je,h1];simp only[hf,anO,zzct,zzag];rw[show(0:Int)+20=20 from rfl,Je,h2];simp only[hf,anO,zzct,zzag];rw[show(20:Int)+40=60 from rfl,Je,hf,hl,Me zE zE zE,Me zE zE zE,anP zE zE,auu,auv];rfl
def ajI:DP tZ=0:=by unfold DP;rw[ab (by rw[aa9];decide),aba]
def ajJ:fS (Wl tZ)=bI:=by
 unfold Wl fS;rw[aba];simp only;rw[auw];rfl
def ayJ:Zz oL=true:=by
 unfold Zz;rw[ab (by simp[oL]),ab (by simp[oL]),ab (by simp[oL]),ab (by simp[oL])];simp[oL,okB,Ka,Qcr,uP,SS,ZJ,ZK,eB]
def auy:Zz oD=true:=by
 unfold Zz;rw[ab (by simp[oD]),ab (by simp[oD]),ab (by simp[oD]),ab (by simp[oD])];simp[oD,okB,Ka,Qcr,uP,SS,ZJ,ZK,eB]
def sD0:Uk ([]:Pi)=[]:=by unfold Uk;simp
def anQ:Jk bI 30 (Xd 30 bI.ev []) oL=some (zn,50):=by
 unfold Jk;rw[ab (by simp[bI,tZ])];have hb:Ki bI 30 (Xd 30 bI.ev []) oL=some (zn,50):=by cbv
 have hm:zh bI 30 (Xd 30 bI.ev []) oL zn 50=true:=by cbv
 rw[hb];simp only;rw[ac (by rw[aur,hm];rfl)]
def abb:Jk bI 20 (Xd 20 bI.ev []) oD=some (zo,0):=by
 unfold Jk;rw[ab (by simp[bI,tZ])];have hb:Ki bI 20 (Xd 20 bI.ev []) oD=some (zo,0):=by cbv
 have hm:zh bI 20 (Xd 20 bI.ev []) oD zo 0=true:=by cbv
 rw[hb];simp only;rw[ac (by rw[aus,hm];rfl)]
def anR:Jk bI 20 (Xd 20 bI.ev []) oX=none:=by
 unfold Jk;rw[ab (by simp[bI,tZ])];cases hb:Ki bI 20 (Xd 20 bI.ev []) oX with
 |none=>rfl
 |some r=>
  obtain⟨q,d⟩:=r
  have hm:zh bI 20 (Xd 20 bI.ev []) oX q d=false:=by
   unfold zh;rw[ab (by simp[oX]),ac (by rfl)];cbv
  simp only;rw[hm,zzhi,ab (by decide)]
def ayK:Ug bI oL=true:=by unfold Ug;rw[ayJ];rfl
def auz:Ug bI oD=true:=by unfold Ug;rw[auy];rfl
def anS:rN bI oD=true:=by
 unfold rN;rw[auz,ab (by simp[oD])];show(true&&(Jk bI 20 (Xd 20 bI.ev []) oD).isSome)=true;rw[abb];rfl
def anT:rN bI oX=false:=by
 unfold rN;rw[ab (by simp[oX])];show(Ug bI oX&&(Jk bI 20 (Xd 20 bI.ev []) oX).isSome)=false;rw[anR,Option.isSome_none,zzhi]
def ajK:OQ bI oL=S2:=by
 have cU:z6 bI 30 (Xd 30 bI.ev []) oL zn 50=some ⟨2,3,30,40,10,1,[],true⟩:=by cbv
 have he:Yc bI 30 (Xd 30 bI.ev []) oL zn 50=70:=by unfold Yc;rw[cU];rfl
 have h1:Vz bI 30 (Xd 30 bI.ev []) oL zn 50=[⟨1,2,0,20,0,1,[],false⟩,⟨2,3,20,10,0,1,[],false⟩,⟨2,3,30,40,10,1,[],true⟩]:=by unfold Vz;rw[cU];cbv
 have hi:Yg bI (Xd 30 bI.ev []) zn.ens=[]:=by cbv
 have hk:jQ bI 30 (Xd 30 bI.ev []) oL zn 50=[]:=by unfold jQ;rw[hi];rfl
 have hs:Vs bI 30 (Xd 30 bI.ev []) oL zn 50=[]:=by unfold Vs;rw[hi,hk];rfl
 have hd:Kg bI 30 (Xd 30 bI.ev []) oL zn 50=[]:=by unfold Kg;rw[hi,hk];rfl
 have hf:Vv zn=50:=by cbv
 have hl:zn.ln=200:=rfl
 have hb:Ku bI 30 (Xd 30 bI.ev []) oL zn 50=[⟨0,1,70,50,0,1,[],true⟩,⟨0,1,120,50,0,1,[],true⟩,⟨0,1,170,30,0,1,[],true⟩]:=by
  unfold Ku;rw[hs,he,zf,ab (by rw[hl];omega),Je,hf,hl,Me zE zE zE,Me zE zE zE,anP zE zE];rfl
 unfold OQ Zi;rw[ab (by rw[ayK];decide),ab (by simp[oL])];have hx:Jk bI oL.fr (Xd oL.fr bI.ev []) oL=some (zn,50):=anQ;rw[hx];show fS (Qdx bI oL (Xd 30 bI.ev []) zn 50)=S2;unfold Qdx;show fS ({bI with p:=zn,ev:=Vz bI 30 _ _ zn 50++Ku bI 30 _ _ zn 50,dr:=dd (Uk (bI.dr++Kg bI 30 _ _ zn 50)),ve:=bI.ve+1}:Pg)=S2;rw[h1,hb,hd];show fS ({bI with p:=zn,ev:=_,dr:=dd (Uk []),ve:=_}:Pg)=S2;rw[sD0];rfl
def ajL:OQ bI oD=exK:=by
 have cU:z6 bI 20 (Xd 20 bI.ev []) oD zo 0=none:=by cbv
 have he:Yc bI 20 (Xd 20 bI.ev []) oD zo 0=20:=by unfold Yc;rw[cU]
 have h1:Vz bI 20 (Xd 20 bI.ev []) oD zo 0=[⟨1,2,0,20,0,1,[],false⟩]:=by unfold Vz;rw[cU];cbv
 have hi:Yg bI (Xd 20 bI.ev []) zo.ens=[]:=by cbv
 have hk:jQ bI 20 (Xd 20 bI.ev []) oD zo 0=[]:=by unfold jQ;rw[hi];rfl
 have hs:Vs bI 20 (Xd 20 bI.ev []) oD zo 0=[]:=by unfold Vs;rw[hi,hk];rfl
 have hd:Kg bI 20 (Xd 20 bI.ev []) oD zo 0=[]:=by unfold Kg;rw[hi,hk];rfl
 have hf:Vv zo=50:=by cbv
 have hl:zo.ln=200:=rfl
 have hb:Ku bI 20 (Xd 20 bI.ev []) oD zo 0=[⟨0,1,20,50,0,1,[],true⟩,⟨0,1,70,50,0,1,[],true⟩,⟨0,1,120,50,0,1,[],true⟩,⟨0,1,170,30,0,1,[],true⟩]:=by
  unfold Ku;rw[hs,he,zf,ab (by rw[hl];omega),Je,hf,hl,Me zE zE zE,Me zE zE zE,Me zE zE zE,anP zE zE];rfl
 unfold OQ Zi;rw[ab (by rw[auz];decide),ab (by simp[oD])];have hx:Jk bI oD.fr (Xd oD.fr bI.ev []) oD=some (zo,0):=abb;rw[hx];show fS (Qdx bI oD (Xd 20 bI.ev []) zo 0)=exK;unfold Qdx;show fS ({bI with p:=zo,ev:=Vz bI 20 _ _ zo 0++Ku bI 20 _ _ zo 0,dr:=dd (Uk (bI.dr++Kg bI 20 _ _ zo 0)),ve:=bI.ve+1}:Pg)=exK;rw[h1,hb,hd];show fS ({bI with p:=zo,ev:=_,dr:=dd (Uk []),ve:=_}:Pg)=exK;rw[sD0];rfl
def abc(e:En×Rt):P2:=[I e.1.id,I e.1.it,I e.1.fr,I e.1.ea,I e.1.la,I e.1.bo,.sl e.2 (e.1.al.map Qe)]
def anU(l:List (En×Rt))(rt:Rt):Wk (.sl rt (l.map abc)) (.sl .ro ((l.map (·.1)).map Qd)):=by
 refine Wk.trans (Wk.sl _ _) ?_;rw[zzcw];refine Wk.rows l abc (Qd ∘ (·.1)) (fun _=>rfl) fun a j c' h=>?_
 match j,h with
 |0,h=>exact⟨_,rfl,by cases h;exact Ps⟩
 |1,h=>exact⟨_,rfl,by cases h;exact Ps⟩
 |2,h=>exact⟨_,rfl,by cases h;exact Ps⟩
 |3,h=>exact⟨_,rfl,by cases h;exact Ps⟩
 |4,h=>exact⟨_,rfl,by cases h;exact Ps⟩
 |5,h=>exact⟨_,rfl,by cases h;exact Ps⟩
 |6,h=>exact⟨_,rfl,by cases h;exact Wk.sl _ _⟩
 |j+7,h=>simp[Qd]at h
def abd:P2:=[I 0,I 25,I 1,I 0,.sl .nil [],I 0,I 1,I 200,I 1,.sl .full [[I 1,I 5,I 50,I 0,I 0],[I 2,I 2,I 20,I 0,I 0],[I 3,I 4,I 100,I 0,I 0]],
 .sl .full [[I 1,I 2,I 20,I 0,I 0,I 0,.sl .nil []],[I 2,I 3,I 40,I 20,I 50,I 0,.sl .nil []]],.sl .nil [],
 .sl .full [[I 1,I 2,I 0,I 1000,I 255,I 0,I 0,I 0],[I 1,I 3,I 0,I 1000,I 255,I 0,I 0,I 0]]]
def Mf:Pure Tryz.prog aD 31 [] (.agg abd):=by
 refine Qp aj4 (fun _ _ _=>.junk) zd ?_;simp[ao1,ao2,abd]
def Se:Pure Tryz.prog aD 31 [] (.agg (Qa tZ)):=
 Zk Mf (Qdq ⟨Ps,Ps,Ps,Ps,Wk.sl _ _,Ps,Ps,Ps,Ps,Wk.sl _ _,anU [(⟨1,2,20,0,0,0,[]⟩,.nil),(⟨2,3,40,20,50,0,[]⟩,.nil)] .full,Wk.sl _ _,Wk.sl _ _,trivial⟩)
def Mg:LU tZ:=⟨by decide,by decide,by decide,by decide,by decide,by decide⟩
def abe:PlL tZ:=⟨Mg,by decide,by decide⟩
def nQ:cO 0 bI:=by rw[<- ajJ];exact(uX Mg ajI).fS
def anV:cO 1 S2:=by rw[<- ajK];exact(rJ nQ zE).fS
def anW:cO 1 exK:=by rw[<- ajL];exact(rJ nQ zE).fS
def agx:Pure Tryz.prog aD 30 [.agg (Qa tZ)] (.aS [.agg (Qk bI),.sl .ro [],I 0]):=by
 have k:=BB tZ (ajA Mg abe.al abe.ea)
 have e:Hv tZ=.aS [.agg (Qk bI),.sl .ro [],I 0]:=by
  unfold Hv yC;rw[ajI,aba,aa9,<- kS,ajJ];rfl
 rw[e]at k;exact k
def pZ(q c f k e n:Int):P2:=[I q,I c,I f,I k,I e,I n,I 0,I 0,I 0,I 0,I 0,I 0,.sl .nil [],I 0,I 0,I 0,I 0,I 0,I 0,I 0,I 0,I 0,I 0,I 0,I 0,.str ⟨#[]⟩]
def HZ(q c f k e n:Int):Wk (.agg (pZ q c f k e n)) (.agg (Qq ⟨q,c,f,k,e,n,SS,ZJ,ZK⟩)):=
 Qdq ⟨Ps,Ps,Ps,Ps,Ps,Ps,Ps,Ps,Ps,Ps,Ps,Ps,Wk.sl _ _,Ps,Ps,Ps,Ps,Ps,Ps,Ps,Ps,Ps,Ps,Ps,Ps,Ps,trivial⟩
def Pd(q c f k e n:Int):tX ⟨q,c,f,k,e,n,SS,ZJ,ZK⟩:=by simp[tX,SS]
def anX:Pure Tryz.prog aD 25 [.agg (Qk bI),.agg (pZ 1 (-1) 30 1 2 10)] (.agg (Qk S2)):=by
 have k:=Qen bI oL (yD nQ zE (Pd _ _ _ _ _ _));rw[<- Qdz,ajK]at k;exact Zb k ⟨Ps,HZ _ _ _ _ _ _,trivial⟩
def anY:Pure Tryz.prog aD 25 [.agg (Qk bI),.agg (pZ 1 0 20 2 2 0)] (.agg (Qk exK)):=by
 have k:=Qen bI oD (yD nQ zE (Pd _ _ _ _ _ _));rw[<- Qdz,ajL]at k;exact Zb k ⟨Ps,HZ _ _ _ _ _ _,trivial⟩
def ayL:Pure Tryz.prog aD 21 [.agg (Qk bI),.agg (pZ 1 0 20 2 2 0)] (.bool true):=by
 have k:=rM bI oD (yD nQ zE (Pd _ _ _ _ _ _));rw[anS]at k;exact Zb k ⟨Ps,HZ _ _ _ _ _ _,trivial⟩
def ayM:Pure Tryz.prog aD 21 [.agg (Qk bI),.agg (pZ 1 0 20 2 1 0)] (.bool false):=by
 have k:=rM bI oX (yD nQ zE (Pd _ _ _ _ _ _));rw[anT]at k;exact Zb k ⟨Ps,HZ _ _ _ _ _ _,trivial⟩
def ayN:Pure Tryz.prog aD 22 [.agg (pZ 1 0 20 2 2 0)] (.bool true):=by
 have k:=sV oD (by decide);rw[auy]at k;exact Zb k ⟨HZ _ _ _ _ _ _,trivial⟩
def agy:Pure Tryz.prog aD 23 [.agg (Qk bI),.agg (Qk bI)] (.bool true):=anK bI (nQ.sm zE)
def agz(g h:Pg)(hv:g.ve≠h.ve):Pure Tryz.prog aD 23 [.agg (Qk g),.agg (Qk h)] (.bool false):=by
 refine Qp Ta (fun _ _ _=>.bool true) zd ?_;by_cases he:g.ed=h.ed
 ·simp[abH,abI,Qk,Qa,he,hv]
 simp[abH,abI,Qk,Qa,he,hv]
def ayO:Pure Tryz.prog aD 34 [.sl .ro (S2.ev.map Qf),I 69] (.aS [.agg [I 2,I 3,I 30,I 40,I 10,I 1,.sl .ro []],I 49,.bool true]):=by
 have k:=HV S2.ev 69 (by decide) anV.small.2 zE;have e:xR 69 (Di 69 S2.ev)=.aS [.agg [I 2,I 3,I 30,I 40,I 10,I 1,.sl .ro []],I 49,.bool true]:=by cbv
 rw[e]at k;exact k
def ayP:Pure Tryz.prog aD 34 [.sl .ro (exK.ev.map Qf),I 30] (.aS [.agg [I 0,I 1,I 20,I 50,I 0,I 1,.sl .ro []],I 10,.bool true]):=by
 have k:=HV exK.ev 30 (by decide) anW.small.2 zE;have e:xR 30 (Di 30 exK.ev)=.aS [.agg [I 0,I 1,I 20,I 50,I 0,I 1,.sl .ro []],I 10,.bool true]:=by cbv
 rw[e]at k;exact k
def abf:UV:=fun d f _=>if f=31 then .agg (Qa tZ)else if f=30 then .aS [.agg (Qk bI),.sl .ro [],I 0]else if f=25 then(if d=29 then .agg (Qk S2)else .agg (Qk exK))
 else if f=32 then .aS [.str ⟨#[2,1,60,2,4,20]⟩,I 0]else if f=33 then .aS [.agg (pZ 1 (-1) 30 1 2 10),I 0]
 else if f=34 then(if d=46 then .aS [.agg [I 2,I 3,I 30,I 40,I 10,I 1,.sl .ro []],I 49,.bool true]else .aS [.agg [I 0,I 1,I 20,I 50,I 0,I 1,.sl .ro []],I 10,.bool true])
 else if f=21 then .bool (decide (d≠59))else if f=22 then .bool true else if f=23 then .bool (decide (d=130))else .junk
def anp:Pure Tryz.prog aD 11 [] (.bool true):=by
 have h1:Qi (bI.ev.map Qf) 1=[I 2,I 3,I 20,I 40,I 0,I 1,.sl .ro []]:=rfl;have h2:bI.ev.length=5:=rfl;have h3:S2.ve=1:=rfl;have k1:=Se;have k2:=agx;have k3:=anX;have k4:=anY;have k5:=H6 (gl:=aD);have k6:=H7 (gl:=aD);have k7:=ayO;have k8:=ayP;have k9:=ayM;have k10:=ayN;have k11:=ayL;have k12:=agy;have k13:=agz bI S2 (by decide);simp only[Qk,Qa,pZ,oSL,zzae,zzag]at k1 k2 k3 k4 k5 k6 k7 k8 k9 k10 k11 k12 k13;refine Qp ajT abf zd ?_;simp[aoQ,aoR,abf,Qk,Qa,pZ,h1,h2,h3];exact⟨k1,k2,k3,k4,k5,k6,k7,k8,k9,k10,k11,k12,k13⟩
def anq{p:Pl}(hp:(∀e∈p.ens,e.al.length<=8796093022208)/\∀e∈p.ens,e.ea<=9223372036854775807):PlL (Rx p):=
 ⟨ang p,fun e he=>hp.1 e (zzcc he),fun e he=>hp.2 e (zzcc he)⟩
