import Derived.Test.YthjppoincojfkaaGreatDoorRTRyE
set_option linter.all false
set_option maxRecDepth 100000
set_option maxHeartbeats 64000000
namespace Go.Proofs.YthjppoincojfkaaGreatDoor
open Go Go.Abs
def mxN(a f:Int):Int:=if f<=100000000 then SZ a f else a
def yH(a:Int)(L:List Od):Int:=L.foldl (fun a x=>mxN a x.fr) a
def aaE{a:Int}{L:List Od}{i:Nat}{x:Od}(h:L[i]?=some x):yH a (L.take (i+1))=mxN (yH a (L.take i)) x.fr:=by
 unfold yH;rw[zzay,h,zzeh];rfl
def ano(a f:Int):a<=mxN a f/\(f<=100000000->f<=mxN a f):=by unfold mxN SZ;split<;>(try split)<;>omega
def aaF:∀(L:List Od)(a:Int),a<=yH a L/\∀x∈L,x.fr<=100000000->x.fr<=yH a L
 |[],a=>⟨zzbd _,fun x hx=>by cases hx⟩
 |y::r,a=>by
  obtain⟨h1,h2⟩:=aaF r (mxN a y.fr);obtain⟨h3,h4⟩:=ano a y.fr;refine⟨zzem h3 h1,fun x hx hf=>?_⟩;rcases zzao.1 hx with rfl|hx
  ·exact zzem (h4 hf) h1
  exact h2 x hx hf
def tY(q:Pl)(L:List Od)(oo:Od)(gd:Pi)(ft:Bool)(h:Pg):UV:=fun _ f l=>if f=11 then .bool true else if f=12 then .sl .ro (L.map Qq)else if f=14 then .agg (Qa q)else if f=13 then .sl .ro ((zm q L).map Qk)else if f=24 then .agg (Qq oo)
 else if f=21 then .bool ft else if f=25 then .agg (Qk h)else if f=29 then(match l with
 |[_,.int _ id]=>Jo (Xn id h.p.ens)
 |_=>.junk)else if f=20 then(match l with
 |[_,.int _ id]=>.bool (decide (id∈gd))
 |_=>.junk)else .junk
def BE(o:Od)(f:Int):Od:={o with fr:=f}
def ayr(p:Pl)(oo:Od)(L:List Od)(f:Nat->AV)(m:AM):Prop:=∃(i:Nat),f 9=I i/\i<=L.length/\m=⟨[Qa p,Qq (BE oo (yH oo.fr (L.take i)))],[],fun _=>.gone,0⟩
def at5(g h:Pg)(f:Nat->AV)(m:AM):Prop:=∃(j:Nat)(a b:P2)(bx:T5),f 12=I j/\j<=h.dr.length/\m=⟨a::b::Qk g::Qk h::bx,[],fun _=>.gone,0⟩
def law10(p:Pl)(l:List Od)(o:Od)(hp:(∀e∈p.ens,e.al.length<=8796093022208)/\∀e∈p.ens,e.ea<=9223372036854775807)(hl:l.length<=1000000000000):Pure Tryz.prog aD 10 [.agg (Qa p),.sl .ro (l.map Qq),.agg (Qq o)] (.bool true):=by
 have k11:=anp;have k14:=Ls p;have k12:=LZ (l.take 6) (by simp;omega);have hL:=aaG (l.take 6);have hLo:=agb (l.take 6);generalize HE (l.take 6)=L at*
 have hq:PlL (Rx p):=anq hp;have k13:=aaH (Rx p) L hq hL (fun o ho=>(hLo o ho).1);generalize Rx p=q at*
 have t1:List.take (if(6:Int)<(l.length:Int)then(6:Int)else(l.length:Int)).toNat (l.map Qq)=(l.take 6).map Qq:=by
  have:=Qds (l.map Qq) 6;rw[zzbw]at this;rw[zzgp];exact this
 have a1:=sY (a:=l.length) 6;have b1:=sZ (a:=l.length) 6;simp at a1 b1;have aH:=agc q L;have kc:=ajC o;have hoO:tX (rK o):=by simp[tX,rK];omega
 generalize rK o=oo at*
 have hC:=fun i g h=>L3 hq.sh hL i g h;have hS:=fun i g h o a b c d=>anr (o:=o) hq.sh hL i g h a b c d;have k12:Pure Tryz.prog aD 12 [.sl .ro (List.take 6 (l.map Qq))] (.sl .ro (L.map Qq)):=by rw[<- zzgp];exact k12
 obtain⟨m1,m2⟩:=aaF L oo.fr;simp only[Qa]at k13 k14;rcases(zm q L).eq_nil_or_concat with hn|⟨C',g,hCg⟩
 ·rw[hn]at k13;simp only[Qq,Qd,Qg,Qh,zzae,zzag]at kc;refine Qp S4 (tY q L oo [] false pg0) zd ?_;simp[S3,Ep,Qa,Qq,Qd,Qg,Qh,tY,t1,a1,b1,hn]
  repeat' first
   |exact k11
   |exact k12
   |exact k13
   |exact k14
   |exact kc
   |omega
   |refine And.intro ?_ ?_
 have hN:(zm q L).length=C'.length+1:=by rw[hCg];simp
 have hg:=hC C'.length g (by rw[hCg];simp);have hSg:=hS C'.length g (by rw[hCg];simp) (BE oo (yH oo.fr L)) (fun x hx hf=>m2 x hx hf);have hCl:(zm q L).length<=9:=by split at aH<;>omega
 have r1:Qi ((zm q L).map Qk) C'.length=Qk g:=Qw (by rw[hCg];simp);have hwl:IntKind.i64.wrap (((zm q L).length:Int)-1)=(C'.length:Int):=by rw[Ql]<;>omega
 have aO:¬zm q L=[]:=by rw[hCg];simp
 have ah:C'.length<(zm q L).length:=zE
 have hfO:tX (BE oo (yH oo.fr L)):=hoO;have g2:=hg.step (o:=BE oo (yH oo.fr L)) zE;have k21:=rM g (BE oo (yH oo.fr L)) (yD hg.ok zE hfO);have k25:=Qen g (BE oo (yH oo.fr L)) (yD hg.ok zE hfO);rw[<- Qdz]at k25;have k20:=fun n=>at6 g.dr n (by have:=hg.ok.dr;omega);have k29:=fun n=>xk (OQ g (BE oo (yH oo.fr L))).p n (by have:=g2.ok.ens;omega) (fun e he=>by have:=(gU g2.ok.v e he).2.2.2.2.2.1;omega);have hhd:=g2.ok.dr;have hM:yH oo.fr (L.take L.length)=yH oo.fr L:=by rw[zzbu]
 generalize OQ g (BE oo (yH oo.fr L))=h at*
 generalize Ej:rN g (BE oo (yH oo.fr L))=ft at*
 generalize hMM:yH oo.fr L=M at*
 generalize hCx:zm q L=C at*
 generalize C'.length=N at*
 clear m1 m2 Ej hMM hC hS;refine Qp S4 (tY q L oo g.dr ft h) zd ?_;simp only[Qq,Qd,Qg,Qh,zzae,zzag]at kc;simp[S3,Qa,Qq,Qd,Qg,Qh,tY,t1,a1,b1,hCx,aO];refine⟨k11,k12,k14,k13,kc,?_⟩;refine Qj rV (ayr p oo L) (fun f _=>L.length-(numOf (f 9)).toNat) ?_ ?_
 ·exact⟨0,zd,zE,by simp[yH,Qa,Qq,Qd,Qg,Qh,BE]⟩
 rintro f m ⟨i,f9,hi,rfl⟩;rcases zzaa i L.length with alU|hge1
 ·have aa:(i:Int)<(L.length:Int):=zE
  have hw:IntKind.i64.wrap ((i:Int)+1)=(i:Int)+1:=by rw[Ql]<;>omega
  obtain⟨x,hx⟩:=aV alU;have r2:Qi (L.map Qq) i=Qq x:=Qw (by simp[hx]);have bz:=aaE (a:=oo.fr) hx;have hnx:mxN (yH oo.fr (L.take i)) x.fr=if x.fr<=100000000 then(if yH oo.fr (L.take i)<x.fr then x.fr else yH oo.fr (L.take i))else yH oo.fr (L.take i):=rfl;rw[hnx]at bz;generalize yH oo.fr (L.take i)=Mi at*
  simp only[Qq,Qd,Qg,Qh,zzae,zzag]at r2;by_cases hfx:x.fr<=100000000
  ·rw[ac hfx]at bz;simp[f9,rV,aa,hw,r2,hfx,Qa,Qq,Qd,Qg,Qh,BE]
   repeat' first
    |exact⟨i+1,zd,zE,by rw[bz];simp[Qa,Qq,Qd,Qg,Qh,BE]⟩
    |omega
    |exact Qb _ _
    |refine Qc _ rfl ?_
    |refine ag ?_
    |refine And.intro ?_ ?_
  rw[ab hfx]at bz;simp[f9,rV,aa,hw,r2,hfx,Qa,Qq,Qd,Qg,Qh,BE]
  repeat' first
   |exact⟨i+1,zd,zE,by rw[bz];simp[Qa,Qq,Qd,Qg,Qh,BE]⟩
   |omega
   |exact Qb _ _
   |refine Qc _ rfl ?_
   |refine ag ?_
   |refine And.intro ?_ ?_
 obtain rfl:i=L.length:=zE
 rw[hM];have aa:¬(L.length:Int)<(L.length:Int):=zE
 simp only[Qa,Qk,zzae,zzag]at r1;have hSg:(oo.ki=2\/oo.ki=3)->oo.nw.bo=0->ft=true->∀id∈h.dr,∀x,Xn id h.p.ens=some x->x.bo≠0->id∈g.dr:=hSg;simp only[Qa,Qk,Qq,Qd,Qg,Qh,BE,zzae,zzag]at k21 k25;by_cases hbo:oo.nw.bo=0
 ·by_cases hk:oo.ki=2\/oo.ki=3
  ·rw[hbo]at k21 k25;obtain hk|hk:=hk
   all_goals
    rw[hk]at k21 k25;cases ft with
    |false=>
     simp[f9,rV,Qa,Qk,Qq,Qd,Qg,Qh,BE,hwl,ah,r1,tY,Ep,hbo,hk];exact k21
    |true=>
     have hK:=hSg zE hbo rfl;simp[f9,rV,Qa,Qk,Qq,Qd,Qg,Qh,BE,hwl,ah,r1,tY,Ep,hbo,hk];refine⟨k21,k25,?_⟩;refine Qj S5 (at5 g h) (fun f _=>h.dr.length-(numOf (f 12)).toNat) ?_ ?_
     ·exact⟨0,_,_,[],zd,zE,by simp[Qa,Qk];exact⟨rfl,rfl⟩⟩
     rintro f m ⟨j,a,b,bx,f12,hj,rfl⟩;rcases zzaa j h.dr.length with alW|hge3
     ·have dF:(j:Int)<(h.dr.length:Int):=zE
      have hw:IntKind.i64.wrap ((j:Int)+1)=(j:Int)+1:=by rw[Ql]<;>omega
      obtain⟨id,aK⟩:=aV alW;have r3:Qi (h.dr.map Qz) j=[I id]:=Qw (by simp[aK,Qz]);have hK:=hK id (zzad aK);have k20:=k20 id;have k29:=k29 id;simp only[Qa]at k29;simp[f12,S5,dF,Qa,Qk];refine Yz ?_;cases hx:Xn id h.p.ens with
      |none=>
       rw[hx]at k29;simp only[Jo]at k29;simp[f12,hw,r3,tY,hx,Jo]
       repeat' first
        |exact k20
        |exact k29
        |exact⟨j+1,_,_,_,zd,zE,rfl⟩
        |omega
        |exact Qb _ _
        |refine Qc _ rfl ?_
        |refine ag ?_
        |refine And.intro ?_ ?_
      |some x=>
       rw[hx]at k29;simp only[Jo,Qd]at k29;by_cases hxb:x.bo=0
       ·rw[hxb]at k29;simp[f12,hw,r3,tY,hx,Jo,Qd,hxb]
        repeat' first
         |exact k20
         |exact k29
         |exact⟨j+1,_,_,_,zd,zE,rfl⟩
         |omega
         |exact Qb _ _
         |refine Qc _ rfl ?_
         |refine ag ?_
         |refine And.intro ?_ ?_
       have hm:=hK x hx hxb;rw[decide_eq_true hm]at k20;simp[f12,hw,r3,tY,hx,Jo,Qd,hxb,hm]
       repeat' first
        |exact k20
        |exact k29
        |exact⟨j+1,_,_,_,zd,zE,rfl⟩
        |omega
        |exact Qb _ _
        |refine Qc _ rfl ?_
        |refine ag ?_
        |refine And.intro ?_ ?_
     have dF:¬(j:Int)<(h.dr.length:Int):=zE
     simp[f12,S5,dF,Qa,Qk,Ep]
  have h2:¬oo.ki=2:=fun e=>hk (.inl e);have h3:¬oo.ki=3:=fun e=>hk (.inr e);simp[f9,rV,Qa,Qk,Qq,Qd,Qg,Qh,BE,hwl,ah,r1,tY,Ep,hbo,h2,h3]
 by_cases h2:oo.ki=2
 ·simp[f9,rV,Qa,Qk,Qq,Qd,Qg,Qh,BE,hwl,ah,r1,tY,Ep,hbo,h2]
 simp[f9,rV,Qa,Qk,Qq,Qd,Qg,Qh,BE,hwl,ah,r1,tY,Ep,hbo,h2]
