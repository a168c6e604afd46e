import Derived.Test.YthjppoincojfkaaGreatDoorRBMfN
set_option linter.all false
set_option maxRecDepth 100000
set_option maxHeartbeats 64000000
namespace Go.Proofs.YthjppoincojfkaaGreatDoor
open Go Go.Abs
def yI(n:Nat)(f:Nat->AV)(m:AM):Prop:=∃i:Nat,f 13=I i/\i<=n/\m=⟨[],[],fun _=>.gone,0⟩
def axX(l:Pi)(hl:l.length<=8796093022208):Pure Tryz.prog aD 50 [.sl .ro (l.map Xb),.sl .ro (l.map Xb)] (.bool true):=by
 refine Qp ajO (fun _ _ _=>.junk) zd ?_;simp[aoC];refine Qk SX (yI l.length) (fun f _=>l.length-(numOf (f 13)).toNat) ?_ ?_
 ·exact⟨0,zd,zE,rfl⟩
 rintro f m ⟨i,eU,hi,rfl⟩;rcases zzaa i l.length with ai|bn
 ·obtain⟨a,ha⟩:=aV ai;have ah:Qj (l.map Xb) i=Xb a:=Qu (by simp[ha]);have aa:(i:Int)<(l.length:Int):=zE
  have hw:=bO i zE;simp[eU,SX,ai,aa,ah,Xb,hw];refine⟨aQ,⟨i+1,zd,zE,rfl⟩,zE⟩
 obtain rfl:i=l.length:=zE
 simp[eU,SX,aoD]
def axY(l:List Cue)(hl:l.length<=8796093022208):Pure Tryz.prog aD 51 [.sl .ro (l.map Qm),.sl .ro (l.map Qm)] (.bool true):=by
 refine Qp ajP (fun _ _ _=>.junk) zd ?_;simp[aoE];refine Qk SY (yI l.length) (fun f _=>l.length-(numOf (f 13)).toNat) ?_ ?_
 ·exact⟨0,zd,zE,rfl⟩
 rintro f m ⟨i,eU,hi,rfl⟩;rcases zzaa i l.length with ai|bn
 ·obtain⟨a,ha⟩:=aV ai;have ah:Qj (l.map Qm) i=Qm a:=Qu (by simp[ha]);have aa:(i:Int)<(l.length:Int):=zE
  have hw:=bO i zE;simp[eU,SY,ai,aa,ah,Qm,hw];refine⟨aQ,⟨i+1,zd,zE,rfl⟩,zE⟩
 obtain rfl:i=l.length:=zE
 simp[eU,SY,aoF]
def atA(l:List Sp)(hl:l.length<=8796093022208):Pure Tryz.prog aD 56 [.sl .ro (l.map Qf),.sl .ro (l.map Qf)] (.bool true):=by
 refine Qp ajW (fun _ _ _=>.junk) zd ?_;simp[aoK];refine Qk S0 (yI l.length) (fun f _=>l.length-(numOf (f 13)).toNat) ?_ ?_
 ·exact⟨0,zd,zE,rfl⟩
 rintro f m ⟨i,eU,hi,rfl⟩;rcases zzaa i l.length with ai|bn
 ·obtain⟨a,ha⟩:=aV ai;have ah:Qj (l.map Qf) i=Qf a:=Qu (by simp[ha]);have aa:(i:Int)<(l.length:Int):=zE
  have hw:=bO i zE;simp[eU,S0,ai,aa,ah,Qf,hw];refine⟨aQ,⟨i+1,zd,zE,rfl⟩,zE⟩
 obtain rfl:i=l.length:=zE
 simp[eU,S0,aoL]
def atB(l:List It)(hl:l.length<=8796093022208):Pure Tryz.prog aD 57 [.sl .ro (l.map Qh),.sl .ro (l.map Qh)] (.bool true):=by
 refine Qp ajX (fun _ _ _=>.junk) zd ?_;simp[aoM];refine Qk S1 (yI l.length) (fun f _=>l.length-(numOf (f 13)).toNat) ?_ ?_
 ·exact⟨0,zd,zE,rfl⟩
 rintro f m ⟨i,eU,hi,rfl⟩;rcases zzaa i l.length with ai|bn
 ·obtain⟨a,ha⟩:=aV ai;have ah:Qj (l.map Qh) i=Qh a:=Qu (by simp[ha]);have aa:(i:Int)<(l.length:Int):=zE
  have hw:=bO i zE;simp[eU,S1,ai,aa,ah,Qh,hw];refine⟨aQ,⟨i+1,zd,zE,rfl⟩,zE⟩
 obtain rfl:i=l.length:=zE
 simp[eU,S1,aoN]
def atC(l:List Bk)(hl:l.length<=8796093022208):Pure Tryz.prog aD 60 [.sl .ro (l.map Xj),.sl .ro (l.map Xj)] (.bool true):=by
 refine Qp aj1 (fun _ _ _=>.junk) zd ?_;simp[aoR];refine Qk S3 (yI l.length) (fun f _=>l.length-(numOf (f 13)).toNat) ?_ ?_
 ·exact⟨0,zd,zE,rfl⟩
 rintro f m ⟨i,eU,hi,rfl⟩;rcases zzaa i l.length with ai|bn
 ·obtain⟨a,ha⟩:=aV ai;have ah:Qj (l.map Xj) i=Xj a:=Qu (by simp[ha]);have aa:(i:Int)<(l.length:Int):=zE
  have hw:=bO i zE;simp[eU,S3,ai,aa,ah,Xj,hw];refine⟨aQ,⟨i+1,zd,zE,rfl⟩,zE⟩
 obtain rfl:i=l.length:=zE
 simp[eU,S3,aoS]
def atD(l:List Cl)(hl:l.length<=8796093022208):Pure Tryz.prog aD 61 [.sl .ro (l.map Qi),.sl .ro (l.map Qi)] (.bool true):=by
 refine Qp aj2 (fun _ _ _=>.junk) zd ?_;simp[aoT];refine Qk S4 (yI l.length) (fun f _=>l.length-(numOf (f 13)).toNat) ?_ ?_
 ·exact⟨0,zd,zE,rfl⟩
 rintro f m ⟨i,eU,hi,rfl⟩;rcases zzaa i l.length with ai|bn
 ·obtain⟨a,ha⟩:=aV ai;have ah:Qj (l.map Qi) i=Qi a:=Qu (by simp[ha]);have aa:(i:Int)<(l.length:Int):=zE
  have hw:=bO i zE;simp[eU,S4,ai,aa,ah,Qi,hw];refine⟨aQ,⟨i+1,zd,zE,rfl⟩,zE⟩
 obtain rfl:i=l.length:=zE
 simp[eU,S4,aoU]
def ai5(l:List Sp)(hl:l.length<=8796093022208):Pure Tryz.prog aD 112 [.sl .ro (l.map Qf),.sl .ro (l.map Qf)] (.bool true):=by
 refine Qp abL (fun _ _ _=>.junk) zd ?_;simp[agi];refine Qk IQ (yI l.length) (fun f _=>l.length-(numOf (f 13)).toNat) ?_ ?_
 ·exact⟨0,zd,zE,rfl⟩
 rintro f m ⟨i,eU,hi,rfl⟩;rcases zzaa i l.length with ai|bn
 ·obtain⟨a,ha⟩:=aV ai;have ah:Qj (l.map Qf) i=Qf a:=Qu (by simp[ha]);have aa:(i:Int)<(l.length:Int):=zE
  have hw:=bO i zE;simp[eU,IQ,ai,aa,ah,Qf,hw];refine⟨aQ,⟨i+1,zd,zE,rfl⟩,zE⟩
 obtain rfl:i=l.length:=zE
 simp[eU,IQ,agj]
def afu(e:bF)(hl:e.al.length<=8796093022208):Pure Tryz.prog aD 55 [.agg (Qe e),.agg (Qe e)] (.bool true):=by
 have k:=ai5 e.al hl;refine Qp ajV (fun _ _ _=>.bool true) zd ?_;simp[aoI,aoJ,Qe];exact k
def afv(e:En)(hl:e.al.length<=8796093022208):Pure Tryz.prog aD 59 [.agg (Qd e),.agg (Qd e)] (.bool true):=by
 have k:=ai5 e.al hl;refine Qp aj0 (fun _ _ _=>.bool true) zd ?_;simp[aoP,aoQ,Qd];exact k
def ai6(n:Nat)(f:Nat->AV)(m:AM):Prop:=∃(i:Nat)(bx:T5),f 17=I i/\i<=n/\m=⟨bx,[],fun _=>.gone,0⟩
def amP(l:List bF)(hl:l.length<=8796093022208)(ha:∀e∈l,e.al.length<=8796093022208):Pure Tryz.prog aD 54 [.sl .ro (l.map Qe),.sl .ro (l.map Qe),.fn 55 [] []] (.bool true):=by
 refine Qp ajU (fun _ _ _=>.bool true) zd ?_;simp[ajT];refine Qk SZ (ai6 l.length) (fun f _=>l.length-(numOf (f 17)).toNat) ?_ ?_
 ·exact⟨0,_,zd,zE,rfl⟩
 rintro f m ⟨i,bx,h17,hi,rfl⟩;rcases zzaa i l.length with ai|bn
 ·obtain⟨a,he⟩:=aV ai;have k:=afu a (ha a (zzad he));have ah:Qj (l.map Qe) i=Qe a:=Qu (by simp[he]);have aa:(i:Int)<(l.length:Int):=zE
  have hw:=bO i zE;simp only[Qe]at k ah;simp[h17,SZ,ai,aa,ah,Qe,hw];refine⟨k,aQ,⟨i+1,_,zd,zE,rfl⟩,zE⟩
 obtain rfl:i=l.length:=zE
 simp[h17,SZ,aoH]
def amQ(l:List En)(hl:l.length<=8796093022208)(ha:∀e∈l,e.al.length<=8796093022208):Pure Tryz.prog aD 58 [.sl .ro (l.map Qd),.sl .ro (l.map Qd),.fn 59 [] []] (.bool true):=by
 refine Qp ajZ (fun _ _ _=>.bool true) zd ?_;simp[ajY];refine Qk S2 (ai6 l.length) (fun f _=>l.length-(numOf (f 17)).toNat) ?_ ?_
 ·exact⟨0,_,zd,zE,rfl⟩
 rintro f m ⟨i,bx,h17,hi,rfl⟩;rcases zzaa i l.length with ai|bn
 ·obtain⟨a,he⟩:=aV ai;have k:=afv a (ha a (zzad he));have ah:Qj (l.map Qd) i=Qd a:=Qu (by simp[he]);have aa:(i:Int)<(l.length:Int):=zE
  have hw:=bO i zE;simp only[Qd]at k ah;simp[h17,S2,ai,aa,ah,Qd,hw];refine⟨k,aQ,⟨i+1,_,zd,zE,rfl⟩,zE⟩
 obtain rfl:i=l.length:=zE
 simp[h17,S2,aoO]
structure amR (g:Pg):Prop where
 sh:g.p.sh.length<=8796093022208
 aM:g.p.aM.length<=8796093022208
 ens:g.p.ens.length<=8796093022208
 al:∀e∈g.p.ens,e.al.length<=8796093022208
 bks:g.p.bks.length<=8796093022208
 cls:g.p.cls.length<=8796093022208
 ev:g.ev.length<=8796093022208
 eal:∀e∈g.ev,e.al.length<=8796093022208
 cu:g.cu.length<=8796093022208
 dr:g.dr.length<=8796093022208
def amS(l:List bF)(hl:l.length<=8796093022208)(ha:∀e∈l,e.al.length<=8796093022208):Pure Tryz.prog aD 26 [.sl .ro (l.map Qe),.sl .ro (l.map Qe)] (.bool true):=by
 have k:=amP l hl ha;refine Qp ajr (fun _ _ _=>.bool true) zd ?_;simp[aot,aou];exact k
def amT(g:Pg)(h:amR g):Pure Tryz.prog aD 27 [.agg (Qa g.p),.agg (Qa g.p)] (.bool true):=by
 have k1:=atA g.p.sh h.sh;have k2:=atB g.p.aM h.aM;have k3:=amQ g.p.ens h.ens h.al;have k4:=atC g.p.bks h.bks;have k5:=atD g.p.cls h.cls;refine Qp ajs (fun _ _ _=>.bool true) zd ?_;simp[aov,aow,Qa];exact⟨k1,k2,k3,k4,k5⟩
def amU(g:Pg)(h:amR g):Pure Tryz.prog aD 23 [.agg (Qg g),.agg (Qg g)] (.bool true):=by
 have k1:=axX g.dr h.dr;have k2:=axY g.cu h.cu;have k3:=amS g.ev h.ev h.eal;have k4:=amT g h;simp only[Qa]at k4;refine Qp SJ (fun _ _ _=>.bool true) zd ?_;simp[abd,abe,Qg,Qa];exact⟨k1,k2,k3,k4⟩
open Go Go.Abs
def dx.sm{k:Nat}{g:Pg}(h:dx k g)(hk:k<=900):amR g where
 sh:=by have:=h.sh;omega
 aM:=by have:=h.aM;omega
 ens:=by have:=h.ens;omega
 al:=fun e he=>(h.plc hk).2.2.2.2.2 e he
 bks:=by have:=h.bks;omega
 cls:=by have:=h.cls;omega
 ev:=by have:=h.small.1;omega
 eal:=fun e he=>by have:=(h.ep e he).2.2.1;omega
 cu:=by have:=h.cu;omega
 dr:=by have:=h.dr;omega
open Go Go.Abs
def j9(g:Pg)(o:Od):Bool:=Us g o&&(if o.ki=5 then(He o.cu g.cu).isSome else(Uz g o.fr (Xo o.fr g.ev []) o).isSome)
open Go Go.Abs
def RL(g:Pg)(fr:Int)(mb:T5):T5:=mb++(Qg g::Qr g fr (mb.length+2)::[.aJ 0 (bG .bool (Xo fr g.ev []))]::Qr g fr (mb.length+2)::g.ev.map Qe)
def amV(g:Pg)(fr:Int)(mb:T5)(ml:Pa)(ms:Nat->LS)(mn:Nat)(f:Nat->AV)(m:AM):Prop:=
 ∃(i:Nat)(b:QR),f 16=I i/\i<=g.ev.length/\Xo fr (g.ev.drop i) b=Xo fr g.ev []/\b.length<=i/\
  m=⟨mb++(Qg g::D6::[.aJ 0 (bG .bool b)]::Qr g fr (mb.length+2)::(g.ev.take i).map Qe),ml,ms,mn⟩
def RM(Y:YT)(m:AM)(g:Pg)(fr:Int)(hl:g.ev.length<=1000000):
  aB Tryz.prog aD Y 43 [.agg (Qg g),I fr] m (fun r m'=>r=.agg (Qr g fr (m.boxes.length+2))/\m'={m with boxes:=RL g fr m.boxes}):=by
 obtain⟨mb,ml,ms,mn⟩:=m;refine Xn SN (fun _ _ _=>.junk) zd ?_;simp[ajK,Qg,Qa];refine Qk lS (amV g fr mb ml ms mn) (fun f _=>g.ev.length-(numOf (f 16)).toNat) ?_ ?_
 ·exact⟨0,[],zd,zE,zd,zd,by simp[Qg,Qa,Qr,D6]⟩
 rintro f m ⟨i,b,KC,hi,hb,ek,rfl⟩;rcases zzaa i g.ev.length with ai|bn
 ·obtain⟨e,he⟩:=aV ai;have ah:Qj (g.ev.map Qe) i=Qe e:=Qu (by simp[he]);have aa:(i:Int)<(g.ev.length:Int):=zE
  have hw:=bO i zE;have hd:g.ev.drop i=e::g.ev.drop (i+1):=by rw[zzah ai,(zza.1 he).2]
  have bA:(g.ev.take (i+1)).map Qe=(g.ev.take i).map Qe++[Qe e]:=by rw[zzax,he];simp
  generalize(g.ev.take i).map Qe=bx at bA |-
  rw[hd,Xo]at hb;by_cases hs:e.st<fr
  ·rw[if_pos hs]at hb;have fP:=rG e.id true b;rcases Xy AV.bool e.id b 0 with⟨b1,b2,b3,b4⟩|⟨u,n,b1,b2,b3,b4,b5,b6⟩
   ·simp[KC,lS,aa,ah,hw,Qe,Qg,Qa,Qr,D6,hs,b2];refine⟨aQ,⟨i+1,Vh e.id true b,zd,zE,hb,zE,by rw[bA];simp[Qg,Qa,Qr,D6,Qe,b4]⟩,zE⟩
   simp[KC,lS,aa,ah,hw,Qe,Qg,Qa,Qr,D6,hs,b2];refine⟨aQ,⟨i+1,Vh e.id true b,zd,zE,hb,zE,by rw[bA];simp[Qg,Qa,Qr,D6,Qe,b6]⟩,zE⟩
  rw[if_neg hs]at hb;simp[KC,lS,aa,ah,hw,Qe,Qg,Qa,Qr,D6,hs];refine⟨aQ,⟨i+1,b,zd,zE,hb,zE,by rw[bA];simp[Qg,Qa,Qr,D6,Qe]⟩,zE⟩
 obtain rfl:i=g.ev.length:=zE
 rw[zzbx,Xo]at hb;subst hb;simp[KC,lS,ajL,Qg,Qa,Qr,D6,RL]
def amW(g:Pg)(fr:Int)(mb:T5)(h:∀c∈mb,eL c):(∀c∈RL g fr mb,eL c)/\fQ (RL g fr mb) (mb.length+2) (Xo fr g.ev []):=by
 refine⟨fun c hc=>?_,⟨by simp[RL],by simp[RL]⟩⟩;simp only[RL,zzam,zzaq,zzb]at hc;obtain hc|rfl|rfl|rfl|rfl|⟨e,_,rfl⟩:=hc
 ·exact h c hc
 ·exact eL.of (by simp[Qg,Qa]) (ZT g)
 ·exact eL.mo g fr _
 ·exact eL.map _
 ·exact eL.mo g fr _
 exact eL.of (by simp[Qe]) (DF e)
def afw(g:Pg)(fr:Int)(o:Od)(mb:T5)(ml:Pa)(ms:Nat->LS)(mn:Nat)(h:ZS g fr o)(gL:∀c∈mb,eL c)(v:AV)(hv:zY (Uz g fr (Xo fr g.ev []) o)=v):
  aB Tryz.prog aD Y0 44 [.agg (Qr g fr (mb.length+2)),.agg (Qq o)] ⟨RL g fr mb,ml,ms,mn⟩ (fun r m'=>r=v/\m'=⟨RL g fr mb,ml,ms,mn⟩):=by
 obtain⟨h1,h2⟩:=amW g fr mb gL;exact aB.mono (Oj Y0 ⟨RL g fr mb,ml,ms,mn⟩ g fr (mb.length+2) _ o h h2 h1) (by rintro r m' ⟨rfl,rfl⟩;exact⟨hv,rfl⟩)
def rO(g:Pg)(o:Od)(h:afn g o):Pure Tryz.prog aD 21 [.agg (Qg g),.agg (Qq o)] (.bool (j9 g o)):=by
 obtain⟨hpg,fP,hve,r8,ic,hrn⟩:=h;have DI:=sV g o fP;have sI:=Br g.cu o.cu r8;rw[Hf]at sI;unfold j9;simp only[Qg,Qa,Qq,Qd,Qi,Qm,zzae,zzai]at DI sI;cases hc:Us g o with
 |false=>
  rw[hc]at DI;refine Qp uY (fun _ f l=>if f=41 then .bool false else .gd false .junk) zd ?_;simp[OZ,O0,Qg,Qa,Qq,Qd,Qi,Qm];exact DI
 |true=>
  rw[hc]at DI;by_cases h5:o.ki=5
  ·rw[if_pos h5];rw[h5]at DI;cases he:He o.cu g.cu with
   |none=>
    rw[he]at sI;refine Qp uY (fun _ f l=>if f=41 then .bool true else if f=42 then .aS [.sl .nil [],I 150]else .gd false .junk) zd ?_;simp[OZ,O0,Qg,Qa,Qq,Qd,Qi,Qm,h5];exact⟨DI,sI⟩
   |some x=>
    rw[he]at sI;refine Qp uY (fun _ f l=>if f=41 then .bool true else if f=42 then .aS [.sl (ug x) (x.map Qm),I 0]else .gd false .junk) zd ?_;simp[OZ,O0,Qg,Qa,Qq,Qd,Qi,Qm,h5];exact⟨DI,sI⟩
  rw[if_neg h5];have ic:=ic hc h5;have bT:g.ev.length<=1000000:=by have:=hpg.2.1;omega
  have gL:∀c∈[Qg g,Qq o],eL c:=by
   intro c hc;simp only[zzaq,zzdl,or_false]at hc;obtain rfl|rfl:=hc
   ·exact eL.of (by simp[Qg,Qa]) (ZT g)
   exact eL.of (by simp[Qq]) rfl
  have kl:=RM Y0 ⟨[Qg g,Qq o],[],fun _=>.gone,0⟩ g o.fr bT;have kc:=afw g o.fr o [Qg g,Qq o] [] (fun _=>.gone) 0 ic gL;simp only[zzbg,zzcn]at kl kc;generalize hM:RL g o.fr [Qg g,Qq o]=M at kl kc;have hM1:∀x,Qj (M++x) 1=Qq o:=fun x=>by rw[<- hM];simp[RL]
  have amX:Qj M 1=Qq o:=by rw[<- hM];simp[RL]
  simp only[Qq,Qd,Qi,Qm,zzae,zzai]at hM1 amX;cases hx:Uz g o.fr (Xo o.fr g.ev []) o with
  |none=>
   have kc:=kc _ (by rw[hx]);simp only[Qg,Qa,Qq,Qd,Qi,Qm,Qr,zzae,zzai]at kl kc;refine Qp uY (fun _ f l=>if f=41 then .bool true else .gd false .junk) zd ?_;simp[OZ,O0,Qg,Qa,Qq,Qd,Qi,Qm,h5];refine⟨DI,Fp zd [(.agg (Qr g o.fr 4),⟨M,[],fun _=>.gone,0⟩),(zY none,⟨M,[],fun _=>.gone,0⟩),(.ptr M.length 0,⟨M++[[I 0,I 0,I 0,I 0,.sl .nil [],I 0,I 0,I 0,I 0,.sl .nil [],.sl .nil [],.sl .nil [],.sl .nil [],I 0]],[],fun _=>.gone,0⟩),(.junk,⟨M++[Rz],[],fun _=>.gone,0⟩)] ?_⟩;simp[Qr,Qg,Qa,zY,Rz,hM1,amX,Qq,Qd,Qi,Qm];exact⟨kl,kc⟩
  |some r=>
   obtain⟨q,d⟩:=r;have kc:=kc _ (by rw[hx]);simp only[Qg,Qa,Qq,Qd,Qi,Qm,Qr,zzae,zzai]at kl kc;refine Qp uY (fun _ f l=>if f=41 then .bool true else .gd false .junk) zd ?_;simp[OZ,O0,Qg,Qa,Qq,Qd,Qi,Qm,h5];refine⟨DI,Fp zd [(.agg (Qr g o.fr 4),⟨M,[],fun _=>.gone,0⟩),(zY (some (q,d)),⟨M,[],fun _=>.gone,0⟩),(.ptr M.length 0,⟨M++[[I 0,I 0,I 0,I 0,.sl .nil [],I 0,I 0,I 0,I 0,.sl .nil [],.sl .nil [],.sl .nil [],.sl .nil [],I 0]],[],fun _=>.gone,0⟩),(.junk,⟨M++[Qa q++[I d]],[],fun _=>.gone,0⟩)] ?_⟩;simp[Qr,Qg,Qa,zY,Rz,hM1,amX,Qq,Qd,Qi,Qm];simp only[zY,Qa,zzae,zzai]at kc;exact⟨kl,kc⟩
