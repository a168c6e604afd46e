import Derived.Test.YthjppoincojfkaaGreatDoorRBRpB
set_option linter.all false
set_option maxRecDepth 100000
set_option maxHeartbeats 64000000
namespace Go.Proofs.YthjppoincojfkaaGreatDoor
open Go Go.Abs
def yL(c n:Int):Int:=(if c<0 then -(c+1)else c).tmod n
def am8(c n:Int)(h0: -9223372036854775808<=c)(h1:c<=9223372036854775807)(hn:n≠0):Pure Tryz.prog aD 28 [I c,I n] (I (yL c n)):=by
 refine Qp ajv (fun _ _ _=>.junk) zd ?_;have dU:c<0->IntKind.i64.wrap (c+1)=c+1:=fun h=>by rw[Ql]<;>omega
 have fE:c<0->IntKind.i64.wrap (-(c+1))= -(c+1):=fun h=>by rw[Ql]<;>omega
 by_cases h:c<0
 ·simp[ajt,aju,h,dU h,fE h,hn,yL]
 simp[ajt,aju,h,hn,yL]
def aau(c n:Int)(hn:0<n):0<=yL c n/\yL c n<n:=by
 unfold yL;have h0:0<=(if c<0 then -(c+1)else c):=by split<;>omega
 rw[Int.tmod_eq_emod_of_nonneg h0];exact⟨Int.emod_nonneg _ zE,Int.emod_lt_of_pos _ hn⟩
def Ka(q:Pl)(L:List Od)(r:Int)(y:Option It)(ft:Bool)(h:Pg):UV:=fun _ f l=>if f=11 then .bool true else if f=12 then .sl .ro (L.map Qq)else if f=14 then .agg (Qa q)else if f=13 then .sl .ro ((DP q L).map Qg)else if f=28 then I r else if f=17 then Xp y
 else if f=21 then .bool ft else if f=25 then .agg (Qg h)else .junk
def Yc(id f:Int):P2:=[I 0,I (-1),I f,I 4,I 0,I 0,I 0,I 0,I 0,I 0,I 0,I 0,.sl .nil [],I 2,I id,I 0,I 10000000000,I 255,I 0,I 0,I 0,I 0,I 0,I 0,I 0,.str ⟨#[]⟩]
def ai7(id f:Int):Wk (.agg (Yc id f)) (.agg (Qq (dF id f))):=
 Qdv ⟨Ps,Ps,Ps,Ps,Ps,Ps,Ps,Ps,Ps,Ps,Ps,Ps,Wk.sl _ _,Ps,Ps,Ps,Ps,Ps,Ps,Ps,Ps,Ps,Ps,Ps,Ps,Ps,trivial⟩
def atM(a b c d h:P2)(n:Nat)(f:Nat->AV)(m:AM):Prop:=∃(i:Nat)(bx:T5),f 17=I i/\i<=n/\m=⟨a::b::c::d::h::bx,[],fun _=>.gone,0⟩
def ai8(n:Nat)(M:AM)(f:Nat->AV)(m:AM):Prop:=∃(j:Nat),f 19=I j/\j<=n/\m=M
def atN(L:List Od):Int:=match L[L.length-1]? with
 |none=>0
 |some o=>o.fr
def afE{L:List Od}(h:∀o∈L,0<=o.fr):0<=atN L:=by
 unfold atN;cases hx:L[L.length-1]? with
 |none=>exact zzbu _
 |some o=>exact h o (zzad hx)
def law9(p:Pl)(l:List Od)(c fr:Int)(hp:(∀e∈p.ens,e.al.length<=8796093022208)/\∀e∈p.ens,e.ea<=9223372036854775807)(hl:l.length<=1000000000000)(hc:Xz c)(wC:Xz fr):Pure Tryz.prog aD 9 [.agg (Qa p),.sl .ro (l.map Qq),I c,I fr] (.bool true):=by
 have td:=am9;have uW:=Lp p;have qn:=LV (l.take 6) (by simp;omega);have hL:=aav (l.take 6);have hLo:=afF (l.take 6);generalize Hy (l.take 6)=L at*
 have hq:PlL (Rh p):=ana hp;have qo:=aaw (Rh p) L hq hL (fun o ho=>(hLo o ho).1);generalize Rh p=q at*
 have t1:List.take (if(6:Int)<(l.length:Int)then(6:Int)else(l.length:Int)).toNat (l.map Qq)=(l.take 6).map Qq:=by
  have:=Qdx (l.map Qq) 6;rw[zzbt]at this;rw[zzgh];exact this
 have a1:=sY (a:=l.length) 6;have b1:=sZ (a:=l.length) 6;simp at a1 b1;have hC:=fun i g h=>aax hq.sh hL i g h;have ze:=am8 c 12 hc.1 hc.2 zE;obtain⟨r0,r1⟩:=aau c 12 zE;generalize yL c 12=r at*
 have qn:Pure Tryz.prog aD 12 [.sl .ro (List.take 6 (l.map Qq))] (.sl .ro (L.map Qq)):=by rw[<- zzgh];exact qn
 have aH:=afG q L;have oy:=afE fun o ho=>(hLo o ho).2;have dU:IntKind.i64.wrap (1+r)=1+r:=by rw[Ql]<;>omega
 have aL:1<=1+r/\1+r<=12:=zE
 simp only[Qa]at qo uW;rcases(DP q L).eq_nil_or_concat with hn|⟨C',g,hCg⟩
 ·rw[hn]at qo;refine Qp SE (Ka q L r none false pg0) zd ?_;simp[z8,Aa,Qa,Ka,t1,a1,b1,hn];exact⟨td,fun _ _=>rfl,qn,uW,qo⟩
 have hN:(DP q L).length=C'.length+1:=by rw[hCg];simp
 have hg:=hC C'.length g (by rw[hCg];simp);have hNL:C'.length=L.length:=by split at aH<;>omega
 have r1:Qj ((DP q L).map Qg) C'.length=Qg g:=Qu (by rw[hCg];simp);have aN:¬DP q L=[]:=by rw[hCg];simp
 have A6:IntKind.i64.wrap (((DP q L).length:Int)-1)=(C'.length:Int):=by rw[Ql]<;>omega
 have ai:C'.length<(DP q L).length:=zE
 have iI:=By g.p (1+r) (by have:=hg.ok.aM;omega);have gV:=fun f=>rO g (dF (1+r) f) (yG hg.ok zE (by simp[yF,dF,Iz]));have iJ:=fun f=>Qep g (dF (1+r) f) (yG hg.ok zE (by simp[yF,dF,Iz]));have gV:∀f,Pure Tryz.prog aD 21 [.agg (Qg g),.agg (Yc (1+r) f)] (.bool (j9 g (dF (1+r) f))):=fun f=>Xw (gV f) ⟨Ps,ai7 (1+r) f,trivial⟩;have iJ:∀f,Pure Tryz.prog aD 25 [.agg (Qg g),.agg (Yc (1+r) f)] (.agg (Qg (Zu g (dF (1+r) f)))):=fun f=>Xw (iJ f) ⟨Ps,ai7 (1+r) f,trivial⟩;simp only[<- Qed]at iJ;have xe:=fun f=>am7 (f:=f) hg.ok zE aL;have ek:=fun f=>aat (f:=f) hg.ok zE aL;have hgs:=fun f=>(hg.step (o:=dF (1+r) f) zE).ok.small;generalize hCx:DP q L=C at*
 generalize C'.length=N at*
 have hN0:∀M:Nat,M+1=C.length->True:=fun _ _=>trivial;rcases L.eq_nil_or_concat with hL0|⟨L',z,hLz⟩
 ·obtain⟨fo,Hz⟩:∃fo,(if fr<0 then 0 else fr)=fo:=⟨_,rfl⟩;have HA:¬(0:Int)<(L.length:Int):=by rw[hL0];simp
  have HB:L.length=0:=by rw[hL0];rfl
  clear hL0;have gV:=gV fo;have iJ:=iJ fo;have xe:=xe fo;have ek:=ek fo;have hgs:=hgs fo;refine Qp SE (Ka q L r (Xg (1+r) g.p.aM) (j9 g (dF (1+r) fo)) (LU g (dF (1+r) fo))) zd ?_;generalize LU g (dF (1+r) fo)=h at*
  simp only[Qa,Qg,Qh,Yc,zzae,zzai]at r1 iI gV iJ;cases hy:Xg (1+r) g.p.aM with
  |none=>
   rw[hy]at iI;simp only[Xp]at iI;cases hf:j9 g (dF (1+r) fo)with
   |true=>
    rw[hf]at gV;simp[z8,Aa,Qa,Qg,Qh,Ka,t1,a1,b1,hCx,aN,r1,A6,dU,Hz,Xp,HA,HB,hy,hf]
    repeat' first
     |exact td
     |exact fun _ _=>rfl
     |exact qn
     |exact uW
     |exact qo
     |exact ze
     |exact iI
     |exact gV
     |exact iJ
     |omega
     |refine And.intro ?_ ?_
   |false=>
    rw[hf]at gV;simp[z8,Aa,Qa,Qg,Qh,Ka,t1,a1,b1,hCx,aN,r1,A6,dU,Hz,Xp,HA,HB,hy,hf]
    repeat' first
     |exact td
     |exact fun _ _=>rfl
     |exact qn
     |exact uW
     |exact qo
     |exact ze
     |exact iI
     |exact gV
     |exact iJ
     |omega
     |refine And.intro ?_ ?_
  |some y=>
   rw[hy]at iI;have hyi:=(Qdd hy).2;simp only[Xp,Qh]at iI;cases hf:j9 g (dF (1+r) fo)with
   |false=>
    rw[hf]at gV;by_cases h5:y.ki=5
    ·rw[h5]at iI;simp[z8,Aa,Qa,Qg,Qh,Ka,t1,a1,b1,hCx,aN,r1,A6,dU,Hz,Xp,HA,HB,hy,hf,h5]
     repeat' first
      |exact td
      |exact fun _ _=>rfl
      |exact qn
      |exact uW
      |exact qo
      |exact ze
      |exact iI
      |exact gV
      |exact iJ
      |omega
      |refine And.intro ?_ ?_
    by_cases hn:fo<0
    ·simp[z8,Aa,Qa,Qg,Qh,Ka,t1,a1,b1,hCx,aN,r1,A6,dU,Hz,Xp,HA,HB,hy,hf,h5,hn]
     repeat' first
      |exact td
      |exact fun _ _=>rfl
      |exact qn
      |exact uW
      |exact qo
      |exact ze
      |exact iI
      |exact gV
      |exact iJ
      |omega
      |refine And.intro ?_ ?_
    have bn:g.p.ln<=fo:=by
     rcases zzei fo g.p.ln with hc|hc
     ·rw[xe ⟨zE,hc⟩]at hf;cases hf
     exact hc
    simp[z8,Aa,Qa,Qg,Qh,Ka,t1,a1,b1,hCx,aN,r1,A6,dU,Hz,Xp,HA,HB,hy,hf,h5,hn,bn]
    repeat' first
     |exact td
     |exact fun _ _=>rfl
     |exact qn
     |exact uW
     |exact qo
     |exact ze
     |exact iI
     |exact gV
     |exact iJ
     |omega
     |refine And.intro ?_ ?_
   |true=>
    rw[hf]at gV;by_cases h5:y.ki=5
    ·rw[h5]at iI;simp[z8,Aa,Qa,Qg,Qh,Ka,t1,a1,b1,hCx,aN,r1,A6,dU,Hz,Xp,HA,HB,hy,hf,h5]
     repeat' first
      |exact td
      |exact fun _ _=>rfl
      |exact qn
      |exact uW
      |exact qo
      |exact ze
      |exact iI
      |exact gV
      |exact iJ
      |omega
      |refine And.intro ?_ ?_
    by_cases he:1000000000<g.p.ep
    ·simp[z8,Aa,Qa,Qg,Qh,Ka,t1,a1,b1,hCx,aN,r1,A6,dU,Hz,Xp,HA,HB,hy,hf,h5,he]
     repeat' first
      |exact td
      |exact fun _ _=>rfl
      |exact qn
      |exact uW
      |exact qo
      |exact ze
      |exact iI
      |exact gV
      |exact iJ
      |omega
      |refine And.intro ?_ ?_
    have hB:=ek (fun z hz=>by rw[hy]at hz;cases hz;exact h5) hf;simp[z8,Aa,Qa,Qg,Qh,Ka,t1,a1,b1,hCx,aN,r1,A6,dU,Hz,Xp,HA,HB,hy,hf,h5,he];refine⟨td,fun _ _=>rfl,qn,uW,qo,ze,zE,iI,gV,iJ,?_⟩;refine Qk D8 (atM (Qa p) (Yc (1+r) fo) (Qg g) (Qh y) (Qg h) h.ev.length) (fun f _=>h.ev.length-(numOf (f 17)).toNat) ?_ ?_
    ·exact⟨0,[],zd,zE,by simp[Qa,Qg,Qh,Yc]⟩
    rintro f m ⟨i,bx,f17,hi,rfl⟩;have ND:=hgs.1;rcases zzaa i h.ev.length with hlt2|hge2
    ·have o7:(i:Int)<(h.ev.length:Int):=zE
     have hw:IntKind.i64.wrap ((i:Int)+1)=(i:Int)+1:=by rw[Ql]<;>omega
     obtain⟨e,KY⟩:=aV hlt2;have hem:=zzad KY;have r2:Qj (h.ev.map Qe) i=Qe e:=Qu (by simp[KY]);obtain⟨⟨s1,s2⟩,⟨s3,s4⟩,_,sal⟩:=hgs.2 e hem;have hwa:IntKind.i64.wrap (e.st+e.fr)=e.st+e.fr:=by rw[Ql]<;>omega
     have hBe:=hB e hem;simp only[Qe]at r2;by_cases cm:e.st+e.fr<=fo
     ·simp[f17,D8,o7,hw,r2,hwa,cm,Qa,Qg,Qh,Yc]
      repeat' first
       |exact td
       |exact fun _ _=>rfl
       |exact qn
       |exact uW
       |exact qo
       |exact ze
       |exact iI
       |exact gV
       |exact iJ
       |omega
       |exact⟨i+1,_,zd,zE,by simp[Qa,Qg,Qh,Yc];rfl⟩
       |exact Qb _ _
       |refine Qc _ rfl ?_
       |refine ag ?_
       |refine And.intro ?_ ?_
     obtain⟨n1,n2⟩:=hBe.resolve_left cm;have n1:¬e.it=y.id:=by rw[hyi];exact n1
     simp[f17,D8,o7,hw,r2,hwa,cm,n1,Qa,Qg,Qh,Yc];refine Qk OW (ai8 e.al.length ⟨Qa p::Yc (1+r) fo::Qg g::Qh y::Qg h::(bx++[Qe e]),[],fun _=>.gone,0⟩) (fun f _=>e.al.length-(numOf (f 19)).toNat) ?_ ?_
     ·exact⟨0,zd,zE,by simp[Qa,Qg,Qh,Yc,Qe]⟩
     rintro f2 m2 ⟨j,f19,hj,rfl⟩;rcases zzaa j e.al.length with XG|hge3
     ·have eT:(j:Int)<(e.al.length:Int):=zE
      have rf:IntKind.i64.wrap ((j:Int)+1)=(j:Int)+1:=by rw[Ql]<;>omega
      obtain⟨a,ha⟩:=aV XG;have ra:Qj (e.al.map Qf) j=Qf a:=Qu (by simp[ha]);have n3:¬a.2=y.id:=by rw[hyi];exact n2 a (zzad ha)
      simp only[Qf]at ra;simp[f17,f19,OW,eT,rf,ra,n3,Qa,Qg,Qh,Yc,Qe]
      repeat' first
       |exact td
       |exact fun _ _=>rfl
       |exact qn
       |exact uW
       |exact qo
       |exact ze
       |exact iI
       |exact gV
       |exact iJ
       |omega
       |exact⟨j+1,zd,zE,by simp[Qa,Qg,Qh,Yc,Qe]⟩
       |exact Qb _ _
       |refine Qc _ rfl ?_
       |refine ag ?_
       |refine And.intro ?_ ?_
     have eT:¬(j:Int)<(e.al.length:Int):=zE
     simp[f17,f19,OW,eT,hw,Qa,Qg,Qh,Yc,Qe]
     repeat' first
      |exact td
      |exact fun _ _=>rfl
      |exact qn
      |exact uW
      |exact qo
      |exact ze
      |exact iI
      |exact gV
      |exact iJ
      |omega
      |exact⟨i+1,_,zd,zE,by simp[Qa,Qg,Qh,Yc];rfl⟩
      |exact Qb _ _
      |refine Qc _ rfl ?_
      |refine ag ?_
      |refine And.intro ?_ ?_
    have o7:¬(i:Int)<(h.ev.length:Int):=zE
    simp[f17,D8,o7,Aa,Qa,Qg,Qh,Yc]
 have hLn:0<L.length:=by rw[hLz];simp
 have Of:Qj (L.map Qq) (L.length-1)=Qq z:=Qu (by rw[hLz];simp);have hwL:IntKind.i64.wrap ((L.length:Int)-1)=((L.length-1:Nat):Int):=by rw[Ql]<;>omega
 have HA:(0:Int)<(L.length:Int):=zE
 have HC:L.length-1<L.length:=zE
 obtain⟨fo,Hz⟩:∃fo,(if fr<z.fr then z.fr else fr)=fo:=⟨_,rfl⟩;clear hLz;simp only[Qq,Qd,Qi,Qm,zzae,zzai]at Of;have gV:=gV fo;have iJ:=iJ fo;have xe:=xe fo;have ek:=ek fo;have hgs:=hgs fo;refine Qp SE (Ka q L r (Xg (1+r) g.p.aM) (j9 g (dF (1+r) fo)) (LU g (dF (1+r) fo))) zd ?_;generalize LU g (dF (1+r) fo)=h at*
 simp only[Qa,Qg,Qh,Yc,zzae,zzai]at r1 iI gV iJ;cases hy:Xg (1+r) g.p.aM with
 |none=>
  rw[hy]at iI;simp only[Xp]at iI;cases hf:j9 g (dF (1+r) fo)with
  |true=>
   rw[hf]at gV;simp[z8,Aa,Qa,Qg,Qh,Ka,t1,a1,b1,hCx,aN,r1,A6,dU,Hz,Xp,Of,hwL,HA,HC,hLn,hy,hf]
   repeat' first
    |exact td
    |exact fun _ _=>rfl
    |exact qn
    |exact uW
    |exact qo
    |exact ze
    |exact iI
    |exact gV
    |exact iJ
    |omega
    |refine And.intro ?_ ?_
  |false=>
   rw[hf]at gV;simp[z8,Aa,Qa,Qg,Qh,Ka,t1,a1,b1,hCx,aN,r1,A6,dU,Hz,Xp,Of,hwL,HA,HC,hLn,hy,hf]
   repeat' first
    |exact td
    |exact fun _ _=>rfl
    |exact qn
    |exact uW
    |exact qo
    |exact ze
    |exact iI
    |exact gV
    |exact iJ
    |omega
    |refine And.intro ?_ ?_
 |some y=>
  rw[hy]at iI;have hyi:=(Qdd hy).2;simp only[Xp,Qh]at iI;cases hf:j9 g (dF (1+r) fo)with
  |false=>
   rw[hf]at gV;by_cases h5:y.ki=5
   ·rw[h5]at iI;simp[z8,Aa,Qa,Qg,Qh,Ka,t1,a1,b1,hCx,aN,r1,A6,dU,Hz,Xp,Of,hwL,HA,HC,hLn,hy,hf,h5]
    repeat' first
     |exact td
     |exact fun _ _=>rfl
     |exact qn
     |exact uW
     |exact qo
     |exact ze
     |exact iI
     |exact gV
     |exact iJ
     |omega
     |refine And.intro ?_ ?_
   by_cases hn:fo<0
   ·simp[z8,Aa,Qa,Qg,Qh,Ka,t1,a1,b1,hCx,aN,r1,A6,dU,Hz,Xp,Of,hwL,HA,HC,hLn,hy,hf,h5,hn]
    repeat' first
     |exact td
     |exact fun _ _=>rfl
     |exact qn
     |exact uW
     |exact qo
     |exact ze
     |exact iI
     |exact gV
     |exact iJ
     |omega
     |refine And.intro ?_ ?_
   have bn:g.p.ln<=fo:=by
    rcases zzei fo g.p.ln with hc|hc
    ·rw[xe ⟨zE,hc⟩]at hf;cases hf
    exact hc
   simp[z8,Aa,Qa,Qg,Qh,Ka,t1,a1,b1,hCx,aN,r1,A6,dU,Hz,Xp,Of,hwL,HA,HC,hLn,hy,hf,h5,hn,bn]
   repeat' first
    |exact td
    |exact fun _ _=>rfl
    |exact qn
    |exact uW
    |exact qo
    |exact ze
    |exact iI
    |exact gV
    |exact iJ
    |omega
    |refine And.intro ?_ ?_
  |true=>
   rw[hf]at gV;by_cases h5:y.ki=5
   ·rw[h5]at iI;simp[z8,Aa,Qa,Qg,Qh,Ka,t1,a1,b1,hCx,aN,r1,A6,dU,Hz,Xp,Of,hwL,HA,HC,hLn,hy,hf,h5]
    repeat' first
     |exact td
     |exact fun _ _=>rfl
     |exact qn
     |exact uW
     |exact qo
     |exact ze
     |exact iI
     |exact gV
     |exact iJ
     |omega
     |refine And.intro ?_ ?_
   by_cases he:1000000000<g.p.ep
   ·simp[z8,Aa,Qa,Qg,Qh,Ka,t1,a1,b1,hCx,aN,r1,A6,dU,Hz,Xp,Of,hwL,HA,HC,hLn,hy,hf,h5,he]
    repeat' first
     |exact td
     |exact fun _ _=>rfl
     |exact qn
     |exact uW
     |exact qo
     |exact ze
     |exact iI
     |exact gV
     |exact iJ
     |omega
     |refine And.intro ?_ ?_
   have hB:=ek (fun z hz=>by rw[hy]at hz;cases hz;exact h5) hf;simp[z8,Aa,Qa,Qg,Qh,Ka,t1,a1,b1,hCx,aN,r1,A6,dU,Hz,Xp,Of,hwL,HA,HC,hLn,hy,hf,h5,he];refine⟨td,fun _ _=>rfl,qn,uW,qo,ze,zE,iI,gV,iJ,?_⟩;refine Qk D8 (atM (Qa p) (Yc (1+r) fo) (Qg g) (Qh y) (Qg h) h.ev.length) (fun f _=>h.ev.length-(numOf (f 17)).toNat) ?_ ?_
   ·exact⟨0,[],zd,zE,by simp[Qa,Qg,Qh,Yc]⟩
   rintro f m ⟨i,bx,f17,hi,rfl⟩;have ND:=hgs.1;rcases zzaa i h.ev.length with hlt2|hge2
   ·have o7:(i:Int)<(h.ev.length:Int):=zE
    have hw:IntKind.i64.wrap ((i:Int)+1)=(i:Int)+1:=by rw[Ql]<;>omega
    obtain⟨e,KY⟩:=aV hlt2;have hem:=zzad KY;have r2:Qj (h.ev.map Qe) i=Qe e:=Qu (by simp[KY]);obtain⟨⟨s1,s2⟩,⟨s3,s4⟩,_,sal⟩:=hgs.2 e hem;have hwa:IntKind.i64.wrap (e.st+e.fr)=e.st+e.fr:=by rw[Ql]<;>omega
    have hBe:=hB e hem;simp only[Qe]at r2;by_cases cm:e.st+e.fr<=fo
    ·simp[f17,D8,o7,hw,r2,hwa,cm,Qa,Qg,Qh,Yc]
     repeat' first
      |exact td
      |exact fun _ _=>rfl
      |exact qn
      |exact uW
      |exact qo
      |exact ze
      |exact iI
      |exact gV
      |exact iJ
      |omega
      |exact⟨i+1,_,zd,zE,by simp[Qa,Qg,Qh,Yc];rfl⟩
      |exact Qb _ _
      |refine Qc _ rfl ?_
      |refine ag ?_
      |refine And.intro ?_ ?_
    obtain⟨n1,n2⟩:=hBe.resolve_left cm;have n1:¬e.it=y.id:=by rw[hyi];exact n1
    simp[f17,D8,o7,hw,r2,hwa,cm,n1,Qa,Qg,Qh,Yc];refine Qk OW (ai8 e.al.length ⟨Qa p::Yc (1+r) fo::Qg g::Qh y::Qg h::(bx++[Qe e]),[],fun _=>.gone,0⟩) (fun f _=>e.al.length-(numOf (f 19)).toNat) ?_ ?_
    ·exact⟨0,zd,zE,by simp[Qa,Qg,Qh,Yc,Qe]⟩
    rintro f2 m2 ⟨j,f19,hj,rfl⟩;rcases zzaa j e.al.length with XG|hge3
    ·have eT:(j:Int)<(e.al.length:Int):=zE
     have rf:IntKind.i64.wrap ((j:Int)+1)=(j:Int)+1:=by rw[Ql]<;>omega
     obtain⟨a,ha⟩:=aV XG;have ra:Qj (e.al.map Qf) j=Qf a:=Qu (by simp[ha]);have n3:¬a.2=y.id:=by rw[hyi];exact n2 a (zzad ha)
     simp only[Qf]at ra;simp[f17,f19,OW,eT,rf,ra,n3,Qa,Qg,Qh,Yc,Qe]
     repeat' first
      |exact td
      |exact fun _ _=>rfl
      |exact qn
      |exact uW
      |exact qo
      |exact ze
      |exact iI
      |exact gV
      |exact iJ
      |omega
      |exact⟨j+1,zd,zE,by simp[Qa,Qg,Qh,Yc,Qe]⟩
      |exact Qb _ _
      |refine Qc _ rfl ?_
      |refine ag ?_
      |refine And.intro ?_ ?_
    have eT:¬(j:Int)<(e.al.length:Int):=zE
    simp[f17,f19,OW,eT,hw,Qa,Qg,Qh,Yc,Qe]
    repeat' first
     |exact td
     |exact fun _ _=>rfl
     |exact qn
     |exact uW
     |exact qo
     |exact ze
     |exact iI
     |exact gV
     |exact iJ
     |omega
     |exact⟨i+1,_,zd,zE,by simp[Qa,Qg,Qh,Yc];rfl⟩
     |exact Qb _ _
     |refine Qc _ rfl ?_
     |refine ag ?_
     |refine And.intro ?_ ?_
   have o7:¬(i:Int)<(h.ev.length:Int):=zE
   simp[f17,D8,o7,Aa,Qa,Qg,Qh,Yc]
