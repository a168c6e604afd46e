import Derived.Test.YthjppoincojfkaaGreatDoorRAMcU
set_option linter.all false
set_option maxRecDepth 100000
set_option maxHeartbeats 64000000
namespace Go.Proofs.YthjppoincojfkaaGreatDoor
open Go Go.Abs
def yL(n:Nat)(f:Nat->AV)(m:AM):Prop:=∃i:Nat,f 13=I i/\i<=n/\m=⟨[],[],fun _=>.gone,0⟩
def axV(l:Pi)(hl:l.length<=8796093022208):Pure Tryz.prog aD 50 [.sl .ro (l.map Xa),.sl .ro (l.map Xa)] (.bool true):=by
 refine Qo ajP (fun _ _ _=>.junk) zd ?_;simp[aou];refine Qk SX (yL l.length) (fun f _=>l.length-(numOf (f 13)).toNat) ?_ ?_
 ·exact⟨0,zd,zE,rfl⟩
 rintro f m ⟨i,eU,hi,rfl⟩;rcases zzaa i l.length with ai|bn
 ·obtain⟨a,ha⟩:=aV ai;have ah:Qj (l.map Xa) i=Xa a:=Qu (by simp[ha]);have aa:(i:Int)<(l.length:Int):=zE
  have hw:=bO i zE;simp[eU,SX,ai,aa,ah,Xa,hw];refine⟨aQ,⟨i+1,zd,zE,rfl⟩,zE⟩
 obtain rfl:i=l.length:=zE
 simp[eU,SX,aov]
def axW(l:List Cue)(hl:l.length<=8796093022208):Pure Tryz.prog aD 51 [.sl .ro (l.map Qi),.sl .ro (l.map Qi)] (.bool true):=by
 refine Qo ajQ (fun _ _ _=>.junk) zd ?_;simp[aow];refine Qk SY (yL l.length) (fun f _=>l.length-(numOf (f 13)).toNat) ?_ ?_
 ·exact⟨0,zd,zE,rfl⟩
 rintro f m ⟨i,eU,hi,rfl⟩;rcases zzaa i l.length with ai|bn
 ·obtain⟨a,ha⟩:=aV ai;have ah:Qj (l.map Qi) i=Qi a:=Qu (by simp[ha]);have aa:(i:Int)<(l.length:Int):=zE
  have hw:=bO i zE;simp[eU,SY,ai,aa,ah,Qi,hw];refine⟨aQ,⟨i+1,zd,zE,rfl⟩,zE⟩
 obtain rfl:i=l.length:=zE
 simp[eU,SY,aox]
def ato(l:List Sp)(hl:l.length<=8796093022208):Pure Tryz.prog aD 56 [.sl .ro (l.map Qe),.sl .ro (l.map Qe)] (.bool true):=by
 refine Qo ajX (fun _ _ _=>.junk) zd ?_;simp[aoC];refine Qk S0 (yL l.length) (fun f _=>l.length-(numOf (f 13)).toNat) ?_ ?_
 ·exact⟨0,zd,zE,rfl⟩
 rintro f m ⟨i,eU,hi,rfl⟩;rcases zzaa i l.length with ai|bn
 ·obtain⟨a,ha⟩:=aV ai;have ah:Qj (l.map Qe) i=Qe a:=Qu (by simp[ha]);have aa:(i:Int)<(l.length:Int):=zE
  have hw:=bO i zE;simp[eU,S0,ai,aa,ah,Qe,hw];refine⟨aQ,⟨i+1,zd,zE,rfl⟩,zE⟩
 obtain rfl:i=l.length:=zE
 simp[eU,S0,aoD]
def atp(l:List It)(hl:l.length<=8796093022208):Pure Tryz.prog aD 57 [.sl .ro (l.map Qm),.sl .ro (l.map Qm)] (.bool true):=by
 refine Qo ajY (fun _ _ _=>.junk) zd ?_;simp[aoE];refine Qk S1 (yL l.length) (fun f _=>l.length-(numOf (f 13)).toNat) ?_ ?_
 ·exact⟨0,zd,zE,rfl⟩
 rintro f m ⟨i,eU,hi,rfl⟩;rcases zzaa i l.length with ai|bn
 ·obtain⟨a,ha⟩:=aV ai;have ah:Qj (l.map Qm) i=Qm a:=Qu (by simp[ha]);have aa:(i:Int)<(l.length:Int):=zE
  have hw:=bO i zE;simp[eU,S1,ai,aa,ah,Qm,hw];refine⟨aQ,⟨i+1,zd,zE,rfl⟩,zE⟩
 obtain rfl:i=l.length:=zE
 simp[eU,S1,aoF]
def atq(l:List Bk)(hl:l.length<=8796093022208):Pure Tryz.prog aD 60 [.sl .ro (l.map Xj),.sl .ro (l.map Xj)] (.bool true):=by
 refine Qo aj2 (fun _ _ _=>.junk) zd ?_;simp[aoJ];refine Qk S3 (yL l.length) (fun f _=>l.length-(numOf (f 13)).toNat) ?_ ?_
 ·exact⟨0,zd,zE,rfl⟩
 rintro f m ⟨i,eU,hi,rfl⟩;rcases zzaa i l.length with ai|bn
 ·obtain⟨a,ha⟩:=aV ai;have ah:Qj (l.map Xj) i=Xj a:=Qu (by simp[ha]);have aa:(i:Int)<(l.length:Int):=zE
  have hw:=bO i zE;simp[eU,S3,ai,aa,ah,Xj,hw];refine⟨aQ,⟨i+1,zd,zE,rfl⟩,zE⟩
 obtain rfl:i=l.length:=zE
 simp[eU,S3,aoK]
def atr(l:List Cl)(hl:l.length<=8796093022208):Pure Tryz.prog aD 61 [.sl .ro (l.map Qg),.sl .ro (l.map Qg)] (.bool true):=by
 refine Qo aj3 (fun _ _ _=>.junk) zd ?_;simp[aoL];refine Qk S4 (yL l.length) (fun f _=>l.length-(numOf (f 13)).toNat) ?_ ?_
 ·exact⟨0,zd,zE,rfl⟩
 rintro f m ⟨i,eU,hi,rfl⟩;rcases zzaa i l.length with ai|bn
 ·obtain⟨a,ha⟩:=aV ai;have ah:Qj (l.map Qg) i=Qg a:=Qu (by simp[ha]);have aa:(i:Int)<(l.length:Int):=zE
  have hw:=bO i zE;simp[eU,S4,ai,aa,ah,Qg,hw];refine⟨aQ,⟨i+1,zd,zE,rfl⟩,zE⟩
 obtain rfl:i=l.length:=zE
 simp[eU,S4,aoM]
def ai0(l:List Sp)(hl:l.length<=8796093022208):Pure Tryz.prog aD 112 [.sl .ro (l.map Qe),.sl .ro (l.map Qe)] (.bool true):=by
 refine Qo abH (fun _ _ _=>.junk) zd ?_;simp[agd];refine Qk IW (yL l.length) (fun f _=>l.length-(numOf (f 13)).toNat) ?_ ?_
 ·exact⟨0,zd,zE,rfl⟩
 rintro f m ⟨i,eU,hi,rfl⟩;rcases zzaa i l.length with ai|bn
 ·obtain⟨a,ha⟩:=aV ai;have ah:Qj (l.map Qe) i=Qe a:=Qu (by simp[ha]);have aa:(i:Int)<(l.length:Int):=zE
  have hw:=bO i zE;simp[eU,IW,ai,aa,ah,Qe,hw];refine⟨aQ,⟨i+1,zd,zE,rfl⟩,zE⟩
 obtain rfl:i=l.length:=zE
 simp[eU,IW,age]
def aft(e:bC)(hl:e.al.length<=8796093022208):Pure Tryz.prog aD 55 [.agg (Qf e),.agg (Qf e)] (.bool true):=by
 have k:=ai0 e.al hl;refine Qo ajW (fun _ _ _=>.bool true) zd ?_;simp[aoA,aoB,Qf];exact k
def afu(e:En)(hl:e.al.length<=8796093022208):Pure Tryz.prog aD 59 [.agg (Qd e),.agg (Qd e)] (.bool true):=by
 have k:=ai0 e.al hl;refine Qo aj1 (fun _ _ _=>.bool true) zd ?_;simp[aoH,aoI,Qd];exact k
def ai1(n:Nat)(f:Nat->AV)(m:AM):Prop:=∃(i:Nat)(bx:T5),f 17=I i/\i<=n/\m=⟨bx,[],fun _=>.gone,0⟩
def amI(l:List bC)(hl:l.length<=8796093022208)(ha:∀e∈l,e.al.length<=8796093022208):Pure Tryz.prog aD 54 [.sl .ro (l.map Qf),.sl .ro (l.map Qf),.fn 55 [] []] (.bool true):=by
 refine Qo ajV (fun _ _ _=>.bool true) zd ?_;simp[ajU];refine Qk SZ (ai1 l.length) (fun f _=>l.length-(numOf (f 17)).toNat) ?_ ?_
 ·exact⟨0,_,zd,zE,rfl⟩
 rintro f m ⟨i,bx,h17,hi,rfl⟩;rcases zzaa i l.length with ai|bn
 ·obtain⟨a,he⟩:=aV ai;have k:=aft a (ha a (zzae he));have ah:Qj (l.map Qf) i=Qf a:=Qu (by simp[he]);have aa:(i:Int)<(l.length:Int):=zE
  have hw:=bO i zE;simp only[Qf]at k ah;simp[h17,SZ,ai,aa,ah,Qf,hw];refine⟨k,aQ,⟨i+1,_,zd,zE,rfl⟩,zE⟩
 obtain rfl:i=l.length:=zE
 simp[h17,SZ,aoz]
def amJ(l:List En)(hl:l.length<=8796093022208)(ha:∀e∈l,e.al.length<=8796093022208):Pure Tryz.prog aD 58 [.sl .ro (l.map Qd),.sl .ro (l.map Qd),.fn 59 [] []] (.bool true):=by
 refine Qo aj0 (fun _ _ _=>.bool true) zd ?_;simp[ajZ];refine Qk S2 (ai1 l.length) (fun f _=>l.length-(numOf (f 17)).toNat) ?_ ?_
 ·exact⟨0,_,zd,zE,rfl⟩
 rintro f m ⟨i,bx,h17,hi,rfl⟩;rcases zzaa i l.length with ai|bn
 ·obtain⟨a,he⟩:=aV ai;have k:=afu a (ha a (zzae he));have ah:Qj (l.map Qd) i=Qd a:=Qu (by simp[he]);have aa:(i:Int)<(l.length:Int):=zE
  have hw:=bO i zE;simp only[Qd]at k ah;simp[h17,S2,ai,aa,ah,Qd,hw];refine⟨k,aQ,⟨i+1,_,zd,zE,rfl⟩,zE⟩
 obtain rfl:i=l.length:=zE
 simp[h17,S2,aoG]
structure amK (g:Pg):Prop where
 sh:g.p.sh.length<=8796093022208
 aN:g.p.aN.length<=8796093022208
 ens:g.p.ens.length<=8796093022208
 al:∀e∈g.p.ens,e.al.length<=8796093022208
 bks:g.p.bks.length<=8796093022208
 cls:g.p.cls.length<=8796093022208
 ev:g.ev.length<=8796093022208
 eal:∀e∈g.ev,e.al.length<=8796093022208
 cu:g.cu.length<=8796093022208
 dr:g.dr.length<=8796093022208
def Z8(l:List bC)(hl:l.length<=8796093022208)(ha:∀e∈l,e.al.length<=8796093022208):Pure Tryz.prog aD 26 [.sl .ro (l.map Qf),.sl .ro (l.map Qf)] (.bool true):=by
 have k:=amI l hl ha;refine Qo ajt (fun _ _ _=>.bool true) zd ?_;simp[aok,aol];exact k
def Z9(g:Pg)(h:amK g):Pure Tryz.prog aD 27 [.agg (Qa g.p),.agg (Qa g.p)] (.bool true):=by
 have k1:=ato g.p.sh h.sh;have k2:=atp g.p.aN h.aN;have k3:=amJ g.p.ens h.ens h.al;have k4:=atq g.p.bks h.bks;have k5:=atr g.p.cls h.cls;refine Qo aju (fun _ _ _=>.bool true) zd ?_;simp[aom,aon,Qa];exact⟨k1,k2,k3,k4,k5⟩
def LR(g:Pg)(h:amK g):Pure Tryz.prog aD 23 [.agg (Qh g),.agg (Qh g)] (.bool true):=by
 have k1:=axV g.dr h.dr;have k2:=axW g.cu h.cu;have k3:=Z8 g.ev h.ev h.eal;have k4:=Z9 g h;simp only[Qa]at k4;refine Qo SI (fun _ _ _=>.bool true) zd ?_;simp[aa9,aba,Qh,Qa];exact⟨k1,k2,k3,k4⟩
open Go Go.Abs
def dy.sm{k:Nat}{g:Pg}(h:dy k g)(hk:k<=900):amK g where
 sh:=by have:=h.sh;omega
 aN:=by have:=h.aN;omega
 ens:=by have:=h.ens;omega
 al:=fun e he=>(h.plc hk).2.2.2.2.2 e he
 bks:=by have:=h.bks;omega
 cls:=by have:=h.cls;omega
 ev:=by have:=h.small.1;omega
 eal:=fun e he=>by have:=(h.ep e he).2.2.1;omega
 cu:=by have:=h.cu;omega
 dr:=by have:=h.dr;omega
open Go Go.Abs
def rU(g:Pg)(o:Od):Bool:=Vb g o&&(if o.ki=5 then(uo o.cu g.cu).isSome else(Ue g o.fr (Xm o.fr g.ev []) o).isSome)
open Go Go.Abs
def RF(g:Pg)(fr:Int)(mb:T5):T5:=mb++(Qh g::Qr g fr (mb.length+2)::[.aJ 0 (bG .bool (Xm fr g.ev []))]::Qr g fr (mb.length+2)::g.ev.map Qf)
def amL(g:Pg)(fr:Int)(mb:T5)(ml:Pa)(ms:Nat->LS)(mn:Nat)(f:Nat->AV)(m:AM):Prop:=
 ∃(i:Nat)(b:QR),f 16=I i/\i<=g.ev.length/\Xm fr (g.ev.drop i) b=Xm fr g.ev []/\b.length<=i/\
  m=⟨mb++(Qh g::Ee::[.aJ 0 (bG .bool b)]::Qr g fr (mb.length+2)::(g.ev.take i).map Qf),ml,ms,mn⟩
def RG(Y:YT)(m:AM)(g:Pg)(fr:Int)(hl:g.ev.length<=1000000):
  aB Tryz.prog aD Y 43 [.agg (Qh g),I fr] m (fun r m'=>r=.agg (Qr g fr (m.boxes.length+2))/\m'={m with boxes:=RF g fr m.boxes}):=by
 obtain⟨mb,ml,ms,mn⟩:=m;refine Xn SN (fun _ _ _=>.junk) zd ?_;simp[ajL,Qh,Qa];refine Qk lS (amL g fr mb ml ms mn) (fun f _=>g.ev.length-(numOf (f 16)).toNat) ?_ ?_
 ·exact⟨0,[],zd,zE,zd,zd,by simp[Qh,Qa,Qr,Ee]⟩
 rintro f m ⟨i,b,KH,hi,hb,eR,rfl⟩;rcases zzaa i g.ev.length with ai|bn
 ·obtain⟨e,he⟩:=aV ai;have ah:Qj (g.ev.map Qf) i=Qf e:=Qu (by simp[he]);have aa:(i:Int)<(g.ev.length:Int):=zE
  have hw:=bO i zE;have hd:g.ev.drop i=e::g.ev.drop (i+1):=by rw[zzag ai,(zza.1 he).2]
  have bA:(g.ev.take (i+1)).map Qf=(g.ev.take i).map Qf++[Qf e]:=by rw[zzax,he];simp
  generalize(g.ev.take i).map Qf=bx at bA |-
  rw[hd,Xm]at hb;by_cases hs:e.st<fr
  ·rw[if_pos hs]at hb;have fR:=rN e.id true b;rcases Xx AV.bool e.id b 0 with⟨b1,b2,b3,b4⟩|⟨u,n,b1,b2,b3,b4,b5,b6⟩
   ·simp[KH,lS,aa,ah,hw,Qf,Qh,Qa,Qr,Ee,hs,b2];refine⟨aQ,⟨i+1,Vm e.id true b,zd,zE,hb,zE,by rw[bA];simp[Qh,Qa,Qr,Ee,Qf,b4]⟩,zE⟩
   simp[KH,lS,aa,ah,hw,Qf,Qh,Qa,Qr,Ee,hs,b2];refine⟨aQ,⟨i+1,Vm e.id true b,zd,zE,hb,zE,by rw[bA];simp[Qh,Qa,Qr,Ee,Qf,b6]⟩,zE⟩
  rw[if_neg hs]at hb;simp[KH,lS,aa,ah,hw,Qf,Qh,Qa,Qr,Ee,hs];refine⟨aQ,⟨i+1,b,zd,zE,hb,zE,by rw[bA];simp[Qh,Qa,Qr,Ee,Qf]⟩,zE⟩
 obtain rfl:i=g.ev.length:=zE
 rw[zzbv,Xm]at hb;subst hb;simp[KH,lS,ajM,Qh,Qa,Qr,Ee,RF]
def amM(g:Pg)(fr:Int)(mb:T5)(h:∀c∈mb,eL c):(∀c∈RF g fr mb,eL c)/\fS (RF g fr mb) (mb.length+2) (Xm fr g.ev []):=by
 refine⟨fun c hc=>?_,⟨by simp[RF],by simp[RF]⟩⟩;simp only[RF,zzam,zzao,zzbg]at hc;obtain hc|rfl|rfl|rfl|rfl|⟨e,_,rfl⟩:=hc
 ·exact h c hc
 ·exact eL.of (by simp[Qh,Qa]) (ZZ g)
 ·exact eL.mo g fr _
 ·exact eL.map _
 ·exact eL.mo g fr _
 exact eL.of (by simp[Qf]) (DK e)
def afv(g:Pg)(fr:Int)(o:Od)(mb:T5)(ml:Pa)(ms:Nat->LS)(mn:Nat)(h:ZY g fr o)(gN:∀c∈mb,eL c)(v:AV)(hv:Ac (Ue g fr (Xm fr g.ev []) o)=v):
  aB Tryz.prog aD Y0 44 [.agg (Qr g fr (mb.length+2)),.agg (Qq o)] ⟨RF g fr mb,ml,ms,mn⟩ (fun r m'=>r=v/\m'=⟨RF g fr mb,ml,ms,mn⟩):=by
 obtain⟨h1,h2⟩:=amM g fr mb gN;exact aB.mono (On Y0 ⟨RF g fr mb,ml,ms,mn⟩ g fr (mb.length+2) _ o h h2 h1) (by rintro r m' ⟨rfl,rfl⟩;exact⟨hv,rfl⟩)
def rV(g:Pg)(o:Od)(h:afo g o):Pure Tryz.prog aD 21 [.agg (Qh g),.agg (Qq o)] (.bool (rU g o)):=by
 obtain⟨hpg,fR,hve,sk,fE,hrn⟩:=h;have DN:=tf g o fR;have sP:=By g.cu o.cu sk;rw[Hv]at sP;unfold rU;simp only[Qh,Qa,Qq,Qd,Qg,Qi,zzad,zzai]at DN sP;cases hc:Vb g o with
 |false=>
  rw[hc]at DN;refine Qo vi (fun _ f l=>if f=41 then .bool false else .gd false .junk) zd ?_;simp[OV,OW,Qh,Qa,Qq,Qd,Qg,Qi];exact DN
 |true=>
  rw[hc]at DN;by_cases h5:o.ki=5
  ·rw[if_pos h5];rw[h5]at DN;cases he:uo o.cu g.cu with
   |none=>
    rw[he]at sP;refine Qo vi (fun _ f l=>if f=41 then .bool true else if f=42 then .aS [.sl .nil [],I 150]else .gd false .junk) zd ?_;simp[OV,OW,Qh,Qa,Qq,Qd,Qg,Qi,h5];exact⟨DN,sP⟩
   |some x=>
    rw[he]at sP;refine Qo vi (fun _ f l=>if f=41 then .bool true else if f=42 then .aS [.sl (um x) (x.map Qi),I 0]else .gd false .junk) zd ?_;simp[OV,OW,Qh,Qa,Qq,Qd,Qg,Qi,h5];exact⟨DN,sP⟩
  rw[if_neg h5];have fE:=fE hc h5;have bV:g.ev.length<=1000000:=by have:=hpg.2.1;omega
  have gN:∀c∈[Qh g,Qq o],eL c:=by
   intro c hc;simp only[zzao,zzd,or_false]at hc;obtain rfl|rfl:=hc
   ·exact eL.of (by simp[Qh,Qa]) (ZZ g)
   exact eL.of (by simp[Qq]) rfl
  have kl:=RG Y0 ⟨[Qh g,Qq o],[],fun _=>.gone,0⟩ g o.fr bV;have kc:=afv g o.fr o [Qh g,Qq o] [] (fun _=>.gone) 0 fE gN;simp only[zzbd,zzco]at kl kc;generalize hM:RF g o.fr [Qh g,Qq o]=M at kl kc;have hM1:∀x,Qj (M++x) 1=Qq o:=fun x=>by rw[<- hM];simp[RF]
  have amN:Qj M 1=Qq o:=by rw[<- hM];simp[RF]
  simp only[Qq,Qd,Qg,Qi,zzad,zzai]at hM1 amN;cases hx:Ue g o.fr (Xm o.fr g.ev []) o with
  |none=>
   have kc:=kc _ (by rw[hx]);simp only[Qh,Qa,Qq,Qd,Qg,Qi,Qr,zzad,zzai]at kl kc;refine Qo vi (fun _ f l=>if f=41 then .bool true else .gd false .junk) zd ?_;simp[OV,OW,Qh,Qa,Qq,Qd,Qg,Qi,h5];refine⟨DN,Fw zd [(.agg (Qr g o.fr 4),⟨M,[],fun _=>.gone,0⟩),(Ac none,⟨M,[],fun _=>.gone,0⟩),(.ptr M.length 0,⟨M++[[I 0,I 0,I 0,I 0,.sl .nil [],I 0,I 0,I 0,I 0,.sl .nil [],.sl .nil [],.sl .nil [],.sl .nil [],I 0]],[],fun _=>.gone,0⟩),(.junk,⟨M++[Rz],[],fun _=>.gone,0⟩)] ?_⟩;simp[Qr,Qh,Qa,Ac,Rz,hM1,amN,Qq,Qd,Qg,Qi];exact⟨kl,kc⟩
  |some r=>
   obtain⟨q,d⟩:=r;have kc:=kc _ (by rw[hx]);simp only[Qh,Qa,Qq,Qd,Qg,Qi,Qr,zzad,zzai]at kl kc;refine Qo vi (fun _ f l=>if f=41 then .bool true else .gd false .junk) zd ?_;simp[OV,OW,Qh,Qa,Qq,Qd,Qg,Qi,h5];refine⟨DN,Fw zd [(.agg (Qr g o.fr 4),⟨M,[],fun _=>.gone,0⟩),(Ac (some (q,d)),⟨M,[],fun _=>.gone,0⟩),(.ptr M.length 0,⟨M++[[I 0,I 0,I 0,I 0,.sl .nil [],I 0,I 0,I 0,I 0,.sl .nil [],.sl .nil [],.sl .nil [],.sl .nil [],I 0]],[],fun _=>.gone,0⟩),(.junk,⟨M++[Qa q++[I d]],[],fun _=>.gone,0⟩)] ?_⟩;simp[Qr,Qh,Qa,Ac,Rz,hM1,amN,Qq,Qd,Qg,Qi];simp only[Ac,Qa,zzad,zzai]at kc;exact⟨kl,kc⟩
