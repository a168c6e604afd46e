import Derived.Test.YthjppoincojfkaaGreatDoorRBMcH
set_option linter.all false
set_option maxRecDepth 100000
set_option maxHeartbeats 64000000
namespace Go.Abs
open Go Go.RowKit
end Go.Abs
namespace Go.Proofs.YthjppoincojfkaaGreatDoor
open Go Go.Abs
def Bu(g:Pg)(f:Int)(b:QR)(o:Od)(q:Pl)(d:Int):Option bF:=match Ji g f b with
 |none=>none
 |some e=>match DA g f o q d e with
  |none=>none
  |some F=>if F=0 then none else some ⟨e.id,e.it,f,F,e.i+(f-e.st),pZ q f e.it F q.rg.toNat,jV q f e.id F ((Za e.id q.ens).getD yj).al,decide (jV q f e.id F ((Za e.id q.ens).getD yj).al=[])⟩
def Z5(e:bF):bF:={e with nl:=false}
def Uq(g:Pg)(f:Int)(b:QR)(o:Od)(q:Pl)(d:Int):List bF:=(Yh f g.ev).map Z5++(Bu g f b o q d).toList
def Jk(g:Pg)(f:Int)(b:QR)(o:Od)(q:Pl)(d:Int):Int:=match Bu g f b o q d with
 |none=>f
 |some e=>f+e.fr
def mM(g:Pg)(f:Int)(b:QR)(o:Od)(q:Pl)(d:Int):List Ad:=Rq (Uq g f b o q d) (Jk g f b o q d)
def j4(g:Pg)(f:Int)(b:QR)(o:Od)(q:Pl)(d:Int):List Bool:=Ky q (Jk g f b o q d) (mM g f b o q d) (Jj g b q.ens)
def Vk(g:Pg)(f:Int)(b:QR)(o:Od)(q:Pl)(d:Int):List Sp:=(Yb q (Jk g f b o q d) (mM g f b o q d) (Xe true (Jj g b q.ens) (j4 g f b o q d))).getD []
def Wz(g:Pg)(f:Int)(b:QR)(o:Od)(q:Pl)(d:Int):Pi:=Xe false (Jj g b q.ens) (j4 g f b o q d)
def IB(g:Pg)(f:Int)(b:QR)(o:Od)(q:Pl)(d:Int):List bF:=y7 q (Vk g f b o q d) (Jk g f b o q d)
def G8(l:List Sp):Iw l=.sl (ug l) (l.map Qf):=by
 unfold Iw ug;split
 ·rename_i h;rw[h];rfl
 rfl
def afk(l:Pi):G4 l=.sl (ug l) (l.map Xb):=by
 unfold G4 ug;split
 ·rename_i h;rw[h];rfl
 rfl
def yB(l:List bF):(l.map Z5).map Zr=l.map Qe:=by
 rw[zzct];exact zzcq fun e _=>rfl
def Bv(l:List bF):(l.map Z5).map Qe=l.map Qe:=by
 rw[zzct];exact zzcq fun e _=>rfl
def Oq(g:Pg)(past:List Ad)(L:List Sp)(D:Pi)(bl:List bF):UV:=fun dst fn l=>
 if fn=109 then .sl .ro (past.map Vi)else if fn=108 then .aS [.sl (ug L) (L.map Qf),.sl (ug D) (D.map Xb)]else if fn=67 then .sl .ro (bl.map Qe)
 else if fn=107 then(match l with|[_,.int _ id]=>.bool (decide (id∈g.dr))|_=>.junk)else if fn=999999 then(if dst=95\/dst=97 then .aJ 0 []else .junk)else .gd false .junk
structure G9 (g:Pg) (f:Int) (b:QR) (o:Od) (q:Pl) (d:Int):Prop where
 mo:lQ g f
 pl:Bj q
 pk:PlK q
 d0:0<=d/\d<=1000000000
 rg:0<=q.rg/\q.rg<=8
 f0:0<=f/\f<=1000000
 ev:g.ev.length<=2000
 dr:g.dr.length<=1000000
 ln:q.ln<=1000000
 cu:∀e,Bu g f b o q d=some e->Kt e
 en:0<=Jk g f b o q d/\Jk g f b o q d<=1000000
 st:∀s∈Vk g f b o q d,-1000000000<=s.2/\s.2<=1000000000
def lq{g:Pg}{f:Int}{b:QR}{o:Od}{q:Pl}{d:Int}(h:G9 g f b o q d):(Uq g f b o q d).length<=2001/\∀e∈Uq g f b o q d,Kt e:=by
 have h1:=Qdq f g.ev;have h2:=nY f h.f0.2 g.ev h.mo.2.1;refine⟨?_,fun e he=>?_⟩
 ·have:=h.ev;have h3:(Bu g f b o q d).toList.length<=1:=by cases Bu g f b o q d<;>simp
  simp only[Uq,zzak,zzbt];omega
 rcases zzam.1 he with he|he
 ·obtain⟨x,hx,rfl⟩:=zzb.1 he;exact h2 x hx
 exact h.cu e (by cases hc:Bu g f b o q d with
  |none=>rw[hc]at he;simp at he
  |some x=>rw[hc]at he;simp at he;rw[he])
def Z6{g:Pg}{f:Int}{b:QR}{o:Od}{q:Pl}{d:Int}(h:G9 g f b o q d):(mM g f b o q d).length<=2001:=by
 have h1:=GZ (Yh (Jk g f b o q d) (Uq g f b o q d)) none [];have h2:=Qdq (Jk g f b o q d) (Uq g f b o q d);have h3:=(lq h).1;simp only[zzcn]at h1;unfold mM Rq;omega
def afl{g:Pg}{f:Int}{b:QR}{o:Od}{q:Pl}{d:Int}(h:G9 g f b o q d)(ce:Rt):Pure Tryz.prog aD 109 [.sl ce ((Uq g f b o q d).map Zr),I (Jk g f b o q d)] (.sl .ro ((mM g f b o q d).map Vi)):=
 Xw (Lv (Uq g f b o q d) (Jk g f b o q d) (by have:=(lq h).1;omega) (lq h).2 h.en) ⟨Wk.trans (Wk.sl _ _) (KL _),Ps,trivial⟩
def afm{g:Pg}{f:Int}{b:QR}{o:Od}{q:Pl}{d:Int}(h:G9 g f b o q d)(ci:Rt):
  Pure Tryz.prog aD 108 [.agg (Qa q),.sl ci ((Jj g b q.ens).map Xb),I (Jk g f b o q d),.sl .ro ((mM g f b o q d).map Vi)] (.aS [.sl (ug (Vk g f b o q d)) ((Vk g f b o q d).map Qf),.sl (ug (Wz g f b o q d)) ((Wz g f b o q d).map Xb)]):=by
 have h1:=jZ g b q.ens;have h2:=h.pk.ens;have h3:=h.en;have:=ZZ h.pk (at_:=Jk g f b o q d) (by unfold amx;omega) (past:=mM g f b o q d) (by have:=Z6 h;omega) (ids:=Jj g b q.ens) zE;rw[RD,G8,afk]at this;exact Xw this ⟨Ps,Wk.sl _ _,Ps,Ps,trivial⟩
def amB{g:Pg}{f:Int}{b:QR}{o:Od}{q:Pl}{d:Int}(h:G9 g f b o q d)(hl:(Vk g f b o q d).length<=1000000)(rL:Rt):
  Pure Tryz.prog aD 67 [.agg (Qa q),.sl rL ((Vk g f b o q d).map Qf),I (Jk g f b o q d)] (.sl .ro ((IB g f b o q d).map Qe)):=by
 obtain⟨q1,q2,q3,q4,q5,q6⟩:=h.pl;exact Xw (sK q (Vk g f b o q d) (Jk g f b o q d) zE zE zE zE q6 h.ln hl h.st) ⟨Ps,Wk.sl _ _,Ps,trivial⟩
open Go Go.Abs
def DH(ex gG:T5)(a b c X:P2):Qj (a::b::c::(ex++(gG++[X]))) (ex.length+(gG.length+3))=X:=by
 refine Qu ?_;have:a::b::c::(ex++(gG++[X]))=([a,b,c]++ex++gG)++[X]:=zd
 rw[this,zzao (by simp;omega),show ex.length+(gG.length+3)-([a,b,c]++ex++gG).length=0 by simp;omega];rfl
def EvW.more{ml:Pa}{rt:Rt}{n:Nat}(h:EvW ml rt n)(x:Pa):EvW (ml++x) rt n:=by
 obtain h|⟨k,h1,h2⟩:=h
 ·exact .inl h
 exact .inr ⟨k,h1,by rw[zzaj (zza.1 h2).1];exact h2⟩
def EvW.cv{ml:Pa}{rt:Rt}{n:Nat}(h:EvW ml rt n):∃ce,DG rt ce:=by
 obtain⟨rfl,_⟩|⟨k,rfl,_⟩:=h
 ·exact⟨_,DG.nil⟩
 exact⟨_,DG.own _ _⟩
def IdR.cv{ml ls:Pa}{rt:Rt}{n:Nat}(h:IdR ml ls rt n):∃ci,DG rt ci:=by
 obtain⟨rfl,_⟩|⟨rfl,_⟩:=h
 ·exact⟨_,DG.nil⟩
 exact⟨_,DG.own _ _⟩
def IdR.ls{ml ls:Pa}{rt:Rt}{n:Nat}(h:IdR ml ls rt n):∃x,ls=ml++x:=by
 obtain⟨_,_,rfl⟩|⟨_,_,rfl⟩:=h
 ·exact⟨[],zd⟩
 exact⟨_,rfl⟩
def RG(Y:YT)(m:AM)(g:Pg)(f:Int)(mid:Nat)(b:QR)(o:Od)(q:Pl)(d:Int)(h:G9 g f b o q d)(hb:fQ m.boxes mid b)
  (iC:(Vk g f b o q d).length<=1000000)(ek:(IB g f b o q d).length<=10000000)(K:So)
  (
   hK:∀ex ls ke vd,gU m.boxes.length ⟨m.boxes++ex,ls,m.st,m.ln⟩ vd ((dd (Kj (g.dr++Wz g f b o q d))).map Xb)->
   K (.aS [.sl (.own ke 7) ((Uq g f b o q d).map Zr++(IB g f b o q d).map Qe),vd]) ⟨m.boxes++ex,ls,m.st,m.ln⟩):
  aB Tryz.prog aD Y 53 [.agg (Qr g f mid),.agg (Qq o),.agg (Qa q++[I d])] m K:=by
 obtain⟨mb,ml,ms,mn⟩:=m;have hB:∀ex,fQ (mb++ex) mid b:=fun ex=>⟨by have:=hb.1;simp at this |-;omega,hb.ext ex⟩;have afi:=fun ce=>afl h ce;have Z2:=fun ci=>afm h ci;have Z3:=fun rL=>amB h iC rL
 have hdl:(Wz g f b o q d).length<=1000000:=by
  have h1:=p7 false (Jj g b q.ens) (j4 g f b o q d);have h2:=jZ g b q.ens;have h3:=h.pk.ens;unfold Wz;omega
 have bT:=(lq h).1;have hL:∀ev,Uq g f b o q d=ev->ev.length<=2001:=fun ev he=>by rw[<- he];exact bT
 generalize hpast:mM g f b o q d=past at*
 generalize hstart:Vk g f b o q d=L at*
 generalize hdrop:Wz g f b o q d=D at*
 generalize hbld:IB g f b o q d=bl at*
 have tail:∀(E:QQ)(X:T5)(ls:Pa)(rte:Rt)(Q:R0),Abs.look E 3=.ptr mb.length 0->Qj (mb++X) mb.length=Qr g f mid->2<X.length->
   Abs.look E 5=.ptr (mb.length+2) 0->Qj (mb++X) (mb.length+2)=Qa q++[I d]->Abs.look E 8=.sl rte ((Uq g f b o q d).map Zr)->EvW ls rte (Uq g f b o q d).length->Abs.look E 9=I (Jk g f b o q d)->
   (∀E' ex LG ke vd,Abs.look E' 6=.sl (.own ke 7) ((Uq g f b o q d).map Zr++bl.map Qe)->Abs.look E' 7=vd->gU mb.length ⟨mb++ex,LG,ms,mn⟩ vd ((dd (Kj (g.dr++D))).map Xb)->Q .ret ⟨Vw 103 E',⟨mb++ex,LG,ms,mn⟩⟩)->
   vc Tryz.prog aD (Oq g past L D bl) Y On ⟨Vw 103 E,⟨mb++X,ls,ms,mn⟩⟩ Q:=by
  intro E X ls rte Q e3 r3 hX e5 r5 e8 hw e9 hQ;refine Z4 Y _ (by simp[Oq]) (by simp[Oq]) E (mb++X) ls ms mn g f mid mb.length (mb.length+2) b q d Q (fun d id=>by simp[Oq]) e3 (by simp;omega) r3 e5 (by simp;omega) r5 (hB X) h.dr (by have:=h.pk.ens;omega) ?_;intro E' ex rt LG hE ql aL;obtain⟨ci,hci⟩:=aL.cv;obtain⟨ce,hce⟩:=hw.cv;obtain⟨x,rfl⟩:=aL.ls
  refine Z1 Y _ (by simp[Oq]) (by simp[Oq]) (by simp[Oq]) (fun _ _=>by simp[Oq]) (fun _ _=>by simp[Oq]) E' (mb++X++ex) (ls++x) ms mn g f mid mb.length (mb.length+2) q d rte ce rt ci (ug L) (ug D) (Uq g f b o q d) bl (Jk g f b o q d) (Jj g b q.ens) D L past Q
   (fun _ _=>by simp[Oq]) (fun _ _=>by simp[Oq]) (fun _ _=>by simp[Oq]) (afi ce) (Z2 ci) (Z3 _) hce hci (LD L)
   ((hE 3 zE zE).trans e3) (by simp;omega) ((Qn (by simp;omega)).trans r3) ((hE 5 zE zE).trans e5) (by simp;omega) ((Qn (by simp;omega)).trans r5)
   ((hE 8 zE zE).trans e8) (hw.more x) ((hE 9 zE zE).trans e9) ql h.dr hdl zE ek ?_
  intro E2 gG ls2 ke vd q1 q2 q3;replace q3:=q3.mono (n':=mb.length) zd;rw[zzbe,zzbe]at q3 |-
  exact hQ E2 _ ls2 ke vd q1 q2 q3
 obtain⟨hm,uk,EX,hd0,KQ,hf0,ayX,fk,dG,r8,Io,bY⟩:=h;refine Xn ajS (Oq g past L D bl) zd ?_;rw[afh];simp[atl,aoG,Qr,Qg,Qa,Qq,Qd,Qi,Qm,Oq];refine yq Y _ g.ev f zE hm.2.1 hf0 _ fun ex v ls hO=>?_;simp;have hbr:∀l:List bF,∀a∈l,(Qe a).length=7:=fun _ _ _=>rfl;have ayY:(Yh f g.ev).length<=2000:=by have:=Qdq f g.ev;omega
 refine ae1 Y _ g f mid b o q (.sl .ro (q.ens.map Qd)) .ro d (.inl ⟨.ro,rfl,Dx.ro⟩) Dx.ro hm (hB _) uk hd0 KQ _ (fun e F he hF qm gG ls2 v2 F4=>?_) (fun hn gG=>?_)
 ·have cB:Bu g f b o q d=some ⟨e.id,e.it,f,F,e.i+(f-e.st),pZ q f e.it F q.rg.toNat,jV q f e.id F ((Za e.id q.ens).getD yj).al,decide (jV q f e.id F ((Za e.id q.ens).getD yj).al=[])⟩:=by
   unfold Bu;rw[he];simp only;rw[hF];simp only;rw[if_neg qm]
  have he1:Jk g f b o q d=f+F:=by unfold Jk;rw[cB]
  have hw:IntKind.i64.wrap (f+F)=f+F:=by rw[Ql]<;>omega
  have fh:(Uq g f b o q d).map Zr=(Yh f g.ev).map Qe++[[I e.id,I e.it,I f,I F,I (e.i+(f-e.st)),I (pZ q f e.it F q.rg.toNat),.sl (if jV q f e.id F ((Za e.id q.ens).getD yj).al=[]then .nil else .ro) ((jV q f e.id F ((Za e.id q.ens).getD yj).al).map Qf)]]:=by
   unfold Uq;rw[cB,zzch,yB];simp[Zr]
  have amC:(Uq g f b o q d).length=(Yh f g.ev).length+1:=by
   unfold Uq;rw[cB];simp
  rw[fh,amC,he1]at tail;rw[fh]at hK;generalize jV q f e.id F ((Za e.id q.ens).getD yj).al=A at*
  obtain⟨rfl,rfl,rfl⟩|⟨hA,rfl,rfl⟩:=F4
  ·obtain⟨h0,rfl,rfl⟩|⟨h0,rfl,rfl⟩:=hO
   ·rw[h0]at tail hK;simp[zzan,hw,DH ex gG];refine tail _ _ _ _ _ zd (by simp[Qr,Qg,Qa]) zd zd (by simp[Qa]) (by simp;rfl) (.inr ⟨_,rfl,zd⟩) zd ?_;intro E' iH LG ke vd q1 q2 q3;have:=hK iH LG ke vd q3;simp[q1,q2]at this |-
    exact this
   skip
   simp[zzan,hw,DH ex gG];refine⟨⟨by rintro row (⟨a,_,rfl⟩|rfl)<;>rfl,zE⟩,tail _ _ _ _ _ zd (by simp[Qr,Qg,Qa]) zd zd (by simp[Qa]) (by simp;rfl) (.inr ⟨_,rfl,zd⟩) zd ?_⟩;intro E' iH LG ke vd q1 q2 q3;have:=hK iH LG ke vd q3;simp[q1,q2]at this |-
   exact this
  obtain⟨h0,rfl,rfl⟩|⟨h0,rfl,rfl⟩:=hO
  ·rw[h0]at tail hK;simp[zzan,hw,DH ex gG];refine tail _ _ _ (.own (ls.length+1) 7) _ zd (by simp[Qr,Qg,Qa]) zd zd (by simp[Qa]) (by simp[hA]) (.inr ⟨_,rfl,zd⟩) zd ?_;intro E' iH LG ke vd q1 q2 q3;have:=hK iH LG ke vd q3;simp[q1,q2]at this |-
   exact this
  skip
  simp[zzan,hw,DH ex gG];refine⟨⟨by rintro row (⟨a,_,rfl⟩|rfl)<;>rfl,zE⟩,tail _ _ _ (.own ml.length 7) _ zd (by simp[Qr,Qg,Qa]) zd zd (by simp[Qa]) (by simp[hA]) (.inr ⟨_,rfl,zd⟩) zd ?_⟩;intro E' iH LG ke vd q1 q2 q3;have:=hK iH LG ke vd q3;simp[q1,q2]at this |-
  exact this
 have cB:Bu g f b o q d=none:=by
  unfold Bu;cases hp:Ji g f b with
  |none=>rfl
  |some e=>
   rw[hp]at hn;simp only[zzcu]at hn;obtain hn|hn:=hn
   ·simp only[hn]
   simp only[hn,if_true]
 have he1:Jk g f b o q d=f:=by unfold Jk;rw[cB]
 have fh:(Uq g f b o q d).map Zr=(Yh f g.ev).map Qe:=by
  unfold Uq;rw[cB,zzch,yB];simp
 have amC:(Uq g f b o q d).length=(Yh f g.ev).length:=by
  unfold Uq;rw[cB];simp
 rw[fh,amC,he1]at tail;rw[fh]at hK;obtain⟨h0,rfl,rfl⟩|⟨h0,rfl,rfl⟩:=hO
 ·rw[h0]at tail hK;simp[zzan,nT];refine tail _ _ _ .nil _ zd (by simp[Qr,Qg,Qa]) zd zd (by simp[Qa]) zd (.inl ⟨rfl,rfl⟩) zd ?_;intro E' iH LG ke vd q1 q2 q3;have:=hK iH LG ke vd q3;simp[q1,q2]at this |-
  exact this
 simp[zzan,nT];refine tail _ _ _ (.own ml.length 7) _ zd (by simp[Qr,Qg,Qa]) zd zd (by simp[Qa]) zd (.inr ⟨_,rfl,zd⟩) zd ?_;intro E' iH LG ke vd q1 q2 q3;have:=hK iH LG ke vd q3;simp[q1,q2]at this |-
 exact this
open Go Go.Abs
def He(c:Cue)(l:List Cue):Option (List Cue):=if iy c=true then(if 200<(gT c (!decide (c.to=0)) l).length then none else some (gT c (!decide (c.to=0)) l))else none
def Hf(c:Cue)(l:List Cue):mH c l=match He c l with
 |none=>.aS [.sl .nil [],I 150]
 |some x=>.aS [.sl (ug x) (x.map Qm),I 0]:=by
 unfold mH He ug;split
 ·split<;>rfl
 rfl
def j5(g:Pg)(o:Od)(b:QR)(q:Pl)(d:Int):Pg:=
 {g with p:=q,ev:=Uq g o.fr b o q d++IB g o.fr b o q d,dr:=dd (Kj (g.dr++Wz g o.fr b o q d)),ve:=g.ve+1}
def Zu(g:Pg)(o:Od):Pg:=
 if Us g o=false then{g with ve:=g.ve+1}
 else if o.ki=5 then(match He o.cu g.cu with
  |none=>{g with ve:=g.ve+1}
  |some x=>{g with cu:=x,ed:=o.fr,ve:=g.ve+1})
 else match Uz g o.fr (Xo o.fr g.ev []) o with
  |none=>{g with ve:=g.ve+1}
  |some (q,d)=>j5 g o (Xo o.fr g.ev []) q d
structure afn (g:Pg) (o:Od):Prop where
 pg:PgC g
 al:o.nw.al.length<=8796093022208
 ve:0<=g.ve/\g.ve<=1000000
 cu:g.cu.length<=1000000
 ch:Us g o=true->o.ki≠5->ZS g o.fr o
 rn:Us g o=true->o.ki≠5->∀q d,Uz g o.fr (Xo o.fr g.ev []) o=some (q,d)->G9 g o.fr (Xo o.fr g.ev []) o q d/\(Vk g o.fr (Xo o.fr g.ev []) o q d).length<=1000000/\(IB g o.fr (Xo o.fr g.ev []) o q d).length<=10000000
def fQ.more{bx:T5}{mid:Nat}{b:QR}(h:fQ bx mid b)(x:T5):fQ (bx++x) mid b:=⟨by have:=h.1;simp;omega,h.ext x⟩
def fQ.axU{a b c d d':P2}{ex:T5}{mid:Nat}{bg:QR}(h:fQ (a::b::c::d::ex) mid bg)(hm:4<=mid)(x:T5):fQ (a::b::c::d'::(ex++x)) mid bg:=by
 obtain⟨j,rfl⟩:∃j,mid=j+4:=⟨mid-4,zE⟩;obtain⟨h1,h2⟩:=h;have hg:=Jh h1;rw[h2]at hg;simp only[zzcw]at hg;have hj:=(zza.1 hg).1;refine⟨by simp;omega,Qu ?_⟩;simp only[zzcw];rw[zzaj hj,hg]
def cell_of{a:AV}(h:Qx a=true):cellsOf a=[a]:=by cases a<;>simp_all[Qx,cellsOf]
def afo{a:AV}(h:Qx a=true):bare a=true:=by cases a<;>simp_all[Qx,bare]
def amD(a b:List bF):Wk (.sl .ro (a.map Zr++b.map Qe)) (.sl .ro ((a++b).map Qe)):=by
 have h:a.map Zr++b.map Qe=(a++b.map Z5).map Zr:=by rw[zzch,yB]
 have h2:(a++b).map Qe=(a++b.map Z5).map Qe:=by rw[zzch,zzch,Bv]
 rw[h,h2];exact KL _
def amE(g:Pg)(o:Od)(h:afn g o):∃re rc rd evr,Wk (.sl re evr) (.sl .ro ((Zu g o).ev.map Qe))/\
  Pure Tryz.prog aD 25 [.agg (Qg g),.agg (Qq o)] (.agg (Qa (Zu g o).p++[.sl re evr,.sl rc ((Zu g o).cu.map Qm),I (Zu g o).ed,.sl rd ((Zu g o).dr.map Xb),I (Zu g o).ve])):=by
 obtain⟨hpg,fP,hve,r8,ic,hrn⟩:=h;have k76:=YV g hpg;have DI:=sV g o fP;have sI:=Br g.cu o.cu r8;rw[Hf]at sI;simp only[Qg,Qa,Qq,Qd,Qi,Qm,zzae,zzai]at k76 DI sI;have hw:IntKind.i64.wrap (g.ve+1)=g.ve+1:=by rw[Ql]<;>omega
 cases hc:Us g o with
 |false=>
  have ha:Zu g o={g with ve:=g.ve+1}:=by unfold Zu;rw[if_pos hc]
  rw[ha];rw[hc]at DI;refine⟨.ro,.ro,.ro,g.ev.map Qe,Ps,Qp uZ (fun _ f l=>if f=52 then l.headD .junk else if f=41 then .bool (Us g o)else .gd false .junk) zd ?_⟩;simp[O1,O2,Qg,Qa,Qq,Qd,Qi,Qm,hc,hw];exact⟨k76,DI⟩
 |true=>
  rw[hc]at DI;by_cases h5:o.ki=5
  ·rw[h5]at DI;cases he:He o.cu g.cu with
   |none=>
    have ha:Zu g o={g with ve:=g.ve+1}:=by unfold Zu;rw[if_neg (by rw[hc];decide),if_pos h5,he]
    rw[ha];rw[he]at sI;refine⟨.ro,.ro,.ro,g.ev.map Qe,Ps,Qp uZ (fun _ f l=>if f=52 then l.headD .junk else if f=41 then .bool true else if f=42 then .aS [.sl .nil [],I 150]else .gd false .junk) zd ?_⟩;simp[O1,O2,Qg,Qa,Qq,Qd,Qi,Qm,hw,h5];exact⟨k76,DI,sI⟩
   |some x=>
    have ha:Zu g o={g with cu:=x,ed:=o.fr,ve:=g.ve+1}:=by unfold Zu;rw[if_neg (by rw[hc];decide),if_pos h5,he]
    rw[ha];rw[he]at sI;have hcx:=LD x;have amF:=fun m d y=>hcx m d y;refine⟨.ro,ug x,.ro,g.ev.map Qe,Ps,Qp uZ (fun _ f l=>if f=52 then l.headD .junk else if f=41 then .bool true else if f=42 then .aS [.sl (ug x) (x.map Qm),I 0]else .gd false .junk) zd ?_⟩;simp[O1,O2,Qg,Qa,Qq,Qd,Qi,Qm,hw,h5];refine⟨k76,DI,sI,Uh ?_⟩;simp[amF]
  have ic:=ic hc h5;have hrn:=hrn hc h5;cases hx:Uz g o.fr (Xo o.fr g.ev []) o with
  |none=>
   have ha:Zu g o={g with ve:=g.ve+1}:=by unfold Zu;rw[if_neg (by rw[hc];decide),if_neg h5,hx]
   rw[ha];refine⟨.ro,.ro,.ro,g.ev.map Qe,Ps,Qp uZ (fun _ f l=>if f=52 then l.headD .junk else if f=41 then .bool true else .gd false .junk) zd ?_⟩;simp[O1,O2,Qg,Qa,Qq,Qd,Qi,Qm,hw,h5];refine⟨k76,DI,?_⟩;refine Bt Y0 _ g o.fr (by have:=hpg.2.1;omega) _ fun ex mid hex VF gL=>?_;simp[Qr,Qg,Qa,zzan];refine Ol Y0 _ g o.fr mid (Xo o.fr g.ev []) o ic ?_ ?_ _ ?_
   ·have:=fun x=>fQ.more gL x;simp only[zzae,zzai]at this;exact this _
   ·intro c hc;simp only[zzaq,zzam,zzdl,or_false]at hc;obtain rfl|rfl|rfl|rfl|hc|rfl:=hc
    ·exact eL.of zd rfl
    ·exact eL.of zd rfl
    ·exact eL.of zd rfl
    ·exact eL.of zd rfl
    ·exact hex c hc
    exact eL.mo g o.fr mid
   rw[hx];simp[zY,Rz]
  |some r=>
   obtain⟨q,d⟩:=r;obtain⟨hR,iC,ek⟩:=hrn q d hx;have ha:Zu g o=j5 g o (Xo o.fr g.ev []) q d:=by unfold Zu;rw[if_neg (by rw[hc];decide),if_neg h5,hx]
   rw[ha];refine⟨.ro,.ro,ug ((j5 g o (Xo o.fr g.ev []) q d).dr.map Xb),(Uq g o.fr (Xo o.fr g.ev []) o q d).map Zr++(IB g o.fr (Xo o.fr g.ev []) o q d).map Qe,amD _ _,Qp uZ (fun _ f l=>if f=52 then l.headD .junk else if f=41 then .bool true else .gd false .junk) zd ?_⟩;simp[O1,O2,Qg,Qa,Qq,Qd,Qi,Qm,hw,h5];refine⟨k76,DI,?_⟩;refine Bt Y0 _ g o.fr (by have:=hpg.2.1;omega) _ fun ex mid hex VF gL=>?_;simp[Qr,Qg,Qa,zzan];have y6:=fun x=>fQ.more gL x;simp only[zzae,zzai]at y6
   refine Ol Y0 _ g o.fr mid (Xo o.fr g.ev []) o ic (y6 _) (by
    intro c hc;simp only[zzaq,zzam,zzdl,or_false]at hc;obtain rfl|rfl|rfl|rfl|hc|rfl:=hc
    ·exact eL.of zd rfl
    ·exact eL.of zd rfl
    ·exact eL.of zd rfl
    ·exact eL.of zd rfl
    ·exact hex c hc
    exact eL.mo g o.fr mid) _ ?_
   rw[hx];simp[zY,Qa,zzan];refine RG Y0 _ g o.fr mid (Xo o.fr g.ev []) o q d hR (fQ.axU (by simpa using y6 []) (Nm VF) _) iC ek _ fun gG ls ke vd hv=>?_;have fC:=hv.1;have zm:=cell_of fC;have hc3:=afo fC;simp[zzan,fC,zm,hc3];refine⟨zE,zE,rfl,rfl,rfl,rfl,rfl,rfl,rfl,rfl,rfl,rfl,rfl,rfl,rfl,rfl,rfl,?_,?_⟩
   ·refine hv.2 _ zd (fun j h1 h2=>?_) _;simp at h1;obtain⟨i,rfl⟩:∃i,j=i+4:=⟨j-4,zE⟩;simp
   rfl
def Qep(g:Pg)(o:Od)(h:afn g o):Pure Tryz.prog aD 25 [.agg (Qg g),.agg (Qq o)] (.agg (Qg (Zu g o))):=by
 obtain⟨re,rc,rd,evr,hw,hp⟩:=amE g o h;refine Zk hp ?_;unfold Qg;simp only[Qa,zzae,zzai];refine Qdv ?_;exact⟨Ps,Ps,Ps,Ps,Ps,Ps,Ps,Ps,Ps,Ps,Ps,Ps,Ps,hw,Wk.sl _ _,Ps,Wk.sl _ _,Ps,trivial⟩
open Go Go.Abs
def LH{l l':P2}(h:WkL l l'):Wk (.aS l) (.aS l'):=fun w γ v hr=>by
 have key:∀{l l':P2},WkL l l'->l.length=l'.length/\∀(i:Nat)(c':AV),l'[i]?=some c'->∃c,l[i]?=some c/\Wk c c':=by
  intro l;induction l with
  |nil=>intro l' h;cases l' with
   |nil=>exact⟨rfl,fun i c' h=>by simp at h⟩
   |cons _ _=>exact h.elim
  |cons a l ih=>intro l' h;cases l' with
   |nil=>exact h.elim
   |cons b l'=>
    obtain⟨h1,h2⟩:=ih h.2;refine⟨by simp[h1],fun i c' hc=>?_⟩;cases i with
    |zero=>simp at hc;subst hc;exact⟨a,rfl,h.1⟩
    |succ i=>simpa using h2 i c' (Nm hc)
 obtain⟨h1,h2⟩:=key h;cases hr with
 |aS hl hc=>
  refine .aS zE fun i c' v tI hv=>?_;obtain⟨c,g1,g2⟩:=h2 i c' tI;exact g2 _ _ _ (hc i c v g1 hv)
def pl0:Pl:=⟨0,0,0,0,[],0,0,0,0,[],[],[],[]⟩
def pg0:Pg:=⟨pl0,[],[],0,[],0⟩
def IC(p:Pl):Option (List Sp):=if iG p=false then none else Ur p (Ue p) [] [] 0 (-1)
def uV(p:Pl):Pg:=match IC p with
 |none=>pg0
 |some l=>⟨p,y7 p l 0,[],0,[],0⟩
def yC(p:Pl):Pi:=if iG p=false then[]else match IC p with
 |none=>nO (Iv p) (Ue p)
 |some _=>[]
def iB(p:Pl):Int:=if iG p=false then 80 else match IC p with
 |none=>90
 |some _=>0
def atu{V X Y:AV}{p:Pl}{ev:List bF}{cu:List Cue}{dr:Pi}{ed ve:Int}(h1:Wk V (.sl .ro (ev.map Qe)))(h2:Wk X (.sl .ro (cu.map Qm)))(h3:Wk Y (.sl .ro (dr.map Xb))):
  Wk (.agg (Qa p++[V,X,I ed,Y,I ve])) (.agg (Qg ⟨p,ev,cu,ed,dr,ve⟩)):=by
 unfold Qg;simp only[Qa,zzae,zzai];exact Qdv ⟨Ps,Ps,Ps,Ps,Ps,Ps,Ps,Ps,Ps,Ps,Ps,Ps,Ps,h1,h2,Ps,h3,Ps,trivial⟩
def Z7:Wk (.agg YU) (.agg (Qg pg0)):=by
 unfold YU pg0 pl0 Qg;simp only[Qa,zzae,zzai,zzcr];exact Qdv ⟨Ps,Ps,Ps,Ps,Wk.sl _ _,Ps,Ps,Ps,Ps,Wk.sl _ _,Wk.sl _ _,Wk.sl _ _,Wk.sl _ _,Wk.sl _ _,Wk.sl _ _,Ps,Wk.sl _ _,Ps,trivial⟩
def LI(p:Pl)(hp:Bj p)(dG:p.ln<=1000000)(Sv:∀e∈p.ens,e.ea<=9223372036854775807)(hl:∀l,IC p=some l->l.length<=1000000/\∀s∈l,-1000000000<=s.2/\s.2<=1000000000):
  Pure Tryz.prog aD 30 [.agg (Qa p)] (.aS [.agg (Qg (uV p)),.sl .ro ((yC p).map Xb),I (iB p)]):=by
 obtain⟨h1,h2,h3,h4,h5,h6⟩:=hp;have k60:=Q0 p ⟨zE,zE,zE,zE,zE,h6⟩ h5 zE zE Sv;have k61:=pV p ⟨h1,h2,h3,h4,h5,h6⟩;by_cases hv:iG p=false
 ·have hr:QZ p=.aS [.sl .nil [],.sl .nil [],I 80]:=by unfold QZ;rw[if_pos hv]
  have hb:IC p=none:=by unfold IC;rw[if_pos hv]
  have hg:uV p=pg0:=by unfold uV;rw[hb]
  have hc:yC p=[]:=by unfold yC;rw[if_pos hv]
  have he:iB p=80:=by unfold iB;rw[if_pos hv]
  rw[hr]at k60;rw[hg,hc,he];simp only[Qa]at k60
  have:Pure Tryz.prog aD 30 [.agg (Qa p)] (.aS [.agg YU,.sl .nil [],I 80]):=by
   refine Qp IE (fun _ f _=>if f=65 then .aS [.sl .nil [],.sl .nil [],I 80]else .junk) zd ?_;simp[abh,abi,Qa,YU];exact k60
  exact Zk this (LH ⟨Z7,Wk.sl _ _,Ps,trivial⟩)
 cases hx:Ur p (Ue p) [] [] 0 (-1)with
 |none=>
  have hr:QZ p=.aS [.sl .nil [],.sl .ro ((nO (Iv p) (Ue p)).map Xb),I 90]:=by unfold QZ;rw[if_neg hv,hx]
  have hb:IC p=none:=by unfold IC;rw[if_neg hv,hx]
  have hg:uV p=pg0:=by unfold uV;rw[hb]
  have hc:yC p=nO (Iv p) (Ue p):=by unfold yC;rw[if_neg hv,hb]
  have he:iB p=90:=by unfold iB;rw[if_neg hv,hb]
  rw[hr]at k60;rw[hg,hc,he];simp only[Qa]at k60
  have:Pure Tryz.prog aD 30 [.agg (Qa p)] (.aS [.agg YU,.sl .ro ((nO (Iv p) (Ue p)).map Xb),I 90]):=by
   refine Qp IE (fun _ f _=>if f=65 then .aS [.sl .nil [],.sl .ro ((nO (Iv p) (Ue p)).map Xb),I 90]else .junk) zd ?_;simp[abh,abi,Qa,YU];exact k60
  exact Zk this (LH ⟨Z7,Ps,Ps,trivial⟩)
 |some l=>
  have hr:QZ p=.aS [Iw l,.sl .nil [],I 0]:=by unfold QZ;rw[if_neg hv,hx]
  have hb:IC p=some l:=by unfold IC;rw[if_neg hv,hx]
  have hg:uV p=⟨p,y7 p l 0,[],0,[],0⟩:=by unfold uV;rw[hb]
  have hc:yC p=[]:=by unfold yC;rw[if_neg hv,hb]
  have he:iB p=0:=by unfold iB;rw[if_neg hv,hb]
  obtain⟨gM,CK⟩:=hl l hb;rw[hr,G8]at k60;rw[hg,hc,he];have hcx:=LD l;have amF:=fun m d y=>hcx m d y;have Z3:=Xw (sK p l 0 h5 zE zE zE h6 dG gM CK) (l:=[.agg (Qa p),.sl (ug l) (l.map Qf),I 0]) ⟨Ps,Wk.sl _ _,Ps,trivial⟩;simp only[Qa]at k60 k61 Z3
  have:Pure Tryz.prog aD 30 [.agg (Qa p)] (.aS [.agg (Qa p++[.sl .ro ((y7 p l 0).map Qe),.sl .nil [],I 0,.sl .nil [],I 0]),.sl .nil [],I 0]):=by
   refine Qp IE (fun _ f x=>if f=65 then .aS [.sl (ug l) (l.map Qf),.sl .nil [],I 0]else if f=66 then x.headD .junk else if f=67 then .sl .ro ((y7 p l 0).map Qe)else .junk) zd ?_;simp[abh,abi,Qa,amF];exact⟨k60,k61,Z3⟩
  exact Zk this (LH ⟨atu (Ps) (Wk.sl _ _) (Wk.sl _ _),Wk.sl _ _,Ps,trivial⟩)
open Go Go.Abs
def axV(o:Int×Int):P2:=[I o.1,I 0,I o.2,I 0,I 0,I 0,I 0,I 0,I 0,I 0,I 0,I 0,.sl .nil [],I 0,I 0,I 0,I 0,I 0,I 0,I 0,I 0,I 0,I 0,I 0,I 0,.str ⟨#[]⟩]
structure Md where
 pl:List (Int×Int)
 ps:List (List Pg)
 os:List (Int×Int)
def axW(SB:List Rt)(ps:List (List Pg)):P2:=List.zipWith (fun rt l=>AV.sl rt (l.map Qg)) SB ps
structure MdB (bx:T5) (md:Nat) (M:Md) (pid cG:Nat) (SB:List Rt) (rto:Rt) (z:P2):Prop where
 hmd:md<bx.length
 row:Qj bx md=[.mp pid,.bs cG 0 M.ps.length 1,.sl rto (M.os.map axV)]
 hpid:pid<bx.length
 map:Qj bx pid=[.aJ 0 (bG (AV.int .i64) M.pl)]
 hbid:cG<bx.length
 hps:Qj bx cG=axW SB M.ps++z
 hrts:SB.length=M.ps.length
 ne:M.ps≠[]
 uk:∀c i,af c M.pl=some i->0<=i/\i<M.ps.length
 len:M.ps.length<=40
 los:M.os.length<=1000
 hrto:DG rto .ro\/(rto=.nil/\M.os=[])
open Go Go.Abs
structure atv (p:Pl):Prop where
 pl:Bj p
 ln:p.ln<=1000000
 ea:∀e∈p.ens,e.ea<=9223372036854775807
 l:∀l,IC p=some l->l.length<=1000000/\∀s∈l,-1000000000<=s.2/\s.2<=1000000000
def Hg(p:Pl):AV:=.aS [.agg (Qg (uV p)),.sl .ro ((yC p).map Xb),I (iB p)]
def Bw(p:Pl)(h:atv p):Pure Tryz.prog aD 30 [.agg (Qa p)] (Hg p):=LI p h.pl h.ln h.ea h.l
open Go Go.Abs
def j6(g:Pg):Pg:={g with ev:=g.ev.map Z5}
def lu(g:Pg):Qg (j6 g)=Qg g:=by
 unfold Qg j6;simp only[Bv]
def ayD(ls:Pa)(SB:List Rt)(ps:List (List Pg)):Prop:=
 (∀(i:Nat)(rt:Rt)(l:List Pg),SB[i]?=some rt->ps[i]?=some l->rt=.full\/∃k,rt=.own k 18/\ls[k]?=some l.length)/\∀(i j k:Nat),SB[i]?=some (.own k 18)->SB[j]?=some (.own k 18)->i=j
def ayE(ls:Pa)(SB:List Rt)(rto:Rt)(n:Nat):Prop:=(rto=.nil/\n=0)\/∃k,rto=.own k 26/\ls[k]?=some n/\∀i:Nat,SB[i]?≠some (.own k 18)
def ayZ(ls:Pa)(SB:List Rt)(rto:Rt)(k n:Nat):Prop:=ls[k]?=some n/\(∀i:Nat,SB[i]?≠some (.own k 18))/\rto≠.own k 26
open Go Go.Abs
open Go Go.Abs
def wu6(n:Int)(h:0<=n)(h':n<=9223372036854775807):IntKind.u64.wrap n=n:=by
 simp[IntKind.wrap,IntKind.bits,IntKind.signed];omega
def RH(e:bF)(f:Int)(h:Kt e)(hf:f<=9223372036854775807):Pure Tryz.prog aD 77 [.agg (Qe e),.ep [I f] 0] (.bool (xS f e)):=by
 refine Qp aka (fun _ _ _=>.junk) zd ?_;obtain⟨⟨a1,a2⟩,⟨a3,a4⟩,_⟩:=h;by_cases h1:e.st<=f
 ·have w1:=wu6 e.st zE zE;have w2:=wu6 f zE zE;have w3:=wu6 (f-e.st) zE zE;have w4:=wu6 e.fr zE zE;by_cases h2:0<e.fr
  ·have:(f-e.st<e.fr)=(f<e.st+e.fr):=by apply propext;omega
   simp[abu,abv,Qe,h1,h2,xS,w1,w2,w3,w4,this]
  have:¬f<e.st+e.fr:=zE
  simp[abu,abv,Qe,h1,h2,xS,this]
 simp[abu,abv,Qe,h1,xS]
def Hh(L:List bF)(f:Int)(hL:L.length<=1000000000)(hs:∀e∈L,Kt e)(hf:f<=9223372036854775807):Pure Tryz.prog aD 78 [.sl .ro (L.map Qe),.fn 77 [] [.ep [I f] 0]] (I (gR f L 0)):=by
 refine Qp S8 (K3 f) zd ?_;simp[akb,abw];refine Qk rT (fun s m=>∃i:Nat,s 8=I i/\i<=L.length/\gR f (L.drop i) i=gR f L 0/\m=⟨[],[],fun _=>.gone,0⟩) (fun s m=>L.length-(numOf (s 8)).toNat) ?_ ?_
 ·exact⟨0,zd,zE,zd,rfl⟩
 rintro s m ⟨i,hi,cm,hr,rfl⟩;rcases zzaa i L.length with ai|bn
 ·obtain⟨a,ha⟩:∃a,L[i]?=some a:=⟨L[i],zzaf ai⟩;have ah:Qj (L.map Qe) i=Qe a:=Qu (by simp[ha]);have hw:=bO i zE;rw[Ze ha]at hr;have hp:Pure Tryz.prog aD 77 [.agg (Qe a),.ep [I f] 0] (.bool (xS f a)):=RH a f (hs a (zzad ha)) hf;have ho:decide (a.st<=f/\f<a.st+a.fr)=xS f a:=rfl;by_cases h:xS f a=true
  ·simp[gR,h]at hr;rw[h]at hp ho;simp at ho;simp[hi,ah,ai,Qe,K3,rT,ho];exact⟨hp,hr⟩
  simp at h;simp[gR,h]at hr;rw[h]at hp ho
  have cO:decide (a.st<=f)=false\/decide (f<a.st+a.fr)=false:=by
   by_cases q:a.st<=f
   ·right;simp at ho |-;omega
   left;simp[q]
  simp only[decide_eq_false_iff_not]at ho;simp[hi,ah,ai,Qe,K3,rT,ho,hw];refine⟨hp,aQ,⟨i+1,zd,zE,hr⟩,zE⟩
 rw[zzal bn]at hr;simp[hi,zzbk.2 bn,rT];exact hr
def Hi(L:List bF)(f:Int)(hL:L.length<=1000000000)(hs:∀e∈L,Kt e)(hf:f<=9223372036854775807):Pure Tryz.prog aD 34 [.sl .ro (L.map Qe),I f] (xW f (Dm f L)):=by
 have Lh:=Hh L f hL hs hf;refine Qp ajz (fun _ g l=>if g=78 then I (gR f L 0)else l.headD .junk) zd ?_;cases Sh:Dm f L with
 |none=>
  rw[xU Sh]at Lh |-
  simp[ajx,ajy,xW,aiR];exact Lh
 |some a=>
  obtain⟨k,h1,h2,h3⟩:=xV (i:=0) Sh;rw[h1]at Lh |-
  have ai:k<L.length:=(zza.1 h2).1;have ah:Qj (L.map Qe) k=Qe a:=Qu (by simp[h2]);obtain⟨⟨a1,a2⟩,⟨a3,a4⟩,⟨a7,a8⟩,a9⟩:=hs a (zzad h2);have hon:a.st<=f/\f<a.st+a.fr:=by simpa[xS]using h3
  have w1:IntKind.i64.wrap (a.i+f)=a.i+f:=by rw[Ql]<;>omega
  have w2:IntKind.i64.wrap (a.i+f-a.st)=a.i+f-a.st:=by rw[Ql]<;>omega
  rw[zzbs]at Lh;have hcn:=Qcl a.al a9;simp[ajx,ajy,xW,ai,ah,Qe];refine⟨Lh,hcn,Qbf [(.junk,⟨[[I f],[I a.id,I a.it,I a.st,I a.fr,I a.i,I a.re,.sl .ro (a.al.map Qf)],[I a.id,I a.it,I a.st,I a.fr,I a.i,I a.re,.sl .ro (a.al.map Qf)]],[],fun _=>.gone,0⟩)] ?_⟩;simp[w1,w2]
open Go Go.Abs
def amG(re r:Int):Bool:=decide (re.fdiv (2 ^ (min r.toNat 64))%2=1)
def PsR(ml ls:Pa)(rt:Rt)(n:Nat):Prop:=(∃lx,ls=ml++lx)/\(rt=.full\/∃k,rt=.own k 3/\ml.length<=k/\ls[k]?=some n)
open Go Go.Abs
def dI:AV->Int
 |.int _ n=>n
 |_=>0
def dR:AV->T5
 |.sl _ r=>r
 |_=>[]
def dN(l:P2)(i:Nat):AV:=l.getD i .junk
def dSp(l:P2):Sp:=(dI (dN l 0),dI (dN l 1))
def dIt(l:P2):It:=⟨dI (dN l 0),dI (dN l 1),dI (dN l 2),dI (dN l 3),dI (dN l 4)⟩
def dCl(l:P2):Cl:=⟨dI (dN l 0),dI (dN l 1),dI (dN l 2),dI (dN l 3),dI (dN l 4),dI (dN l 5),dI (dN l 6),dI (dN l 7)⟩
def dEn(l:P2):En:=⟨dI (dN l 0),dI (dN l 1),dI (dN l 2),dI (dN l 3),dI (dN l 4),dI (dN l 5),(dR (dN l 6)).map dSp⟩
def dBk(l:P2):Bk:=⟨dI (dN l 0),dI (dN l 1),dI (dN l 2),dI (dN l 3),dI (dN l 4),dI (dN l 5),dI (dN l 6)⟩
def dPl(l:P2):Pl:=⟨dI (dN l 0),dI (dN l 1),dI (dN l 2),dI (dN l 3),(dR (dN l 4)).map dSp,dI (dN l 5),dI (dN l 6),dI (dN l 7),dI (dN l 8),(dR (dN l 9)).map dIt,(dR (dN l 10)).map dEn,(dR (dN l 11)).map dBk,(dR (dN l 12)).map dCl⟩
def Qef{α:Type}{f:α->P2}{g:P2->α}(h:∀a,g (f a)=a)(l:List α):(l.map f).map g=l:=by
 rw[zzct]
 conv=>rhs;rw[<- List.map_id l]
 exact zzcq fun a _=>h a
theorem DJ(s:Sp):dSp (Qf s)=s:=rfl
def Ot(e:En):dEn (Qd e)=e:=by
 show(⟨e.id,e.it,e.fr,e.ea,e.la,e.bo,(e.al.map Qf).map dSp⟩:En)=e;rw[Qef DJ]
def Ou(p:Pl):dPl (Qa p)=p:=by
 show(⟨p.ch,p.nu,p.de,p.of,(p.sh.map Qf).map dSp,p.ep,p.rg,p.ln,p.fi,(p.aM.map Qh).map dIt,(p.ens.map Qd).map dEn,(p.bks.map Xj).map dBk,(p.cls.map Qi).map dCl⟩:Pl)=p;rw[Qef DJ,Qef (fun _=>rfl),Qef Ot,Qef (fun _=>rfl),Qef (fun _=>rfl)]
def dEv(l:P2):bF:=⟨dI (dN l 0),dI (dN l 1),dI (dN l 2),dI (dN l 3),dI (dN l 4),dI (dN l 5),(dR (dN l 6)).map dSp,false⟩
def dS:AV->ByteArray
 |.str s=>s
 |_=>⟨#[]⟩
def dCu(l:P2):Cue:=⟨dI (dN l 0),dI (dN l 1),dI (dN l 2),dI (dN l 3),dS (dN l 4)⟩
def dPg(l:P2):Pg:=⟨dPl l,(dR (dN l 13)).map dEv,(dR (dN l 14)).map dCu,dI (dN l 15),(dR (dN l 16)).map fun r=>dI (dN r 0),dI (dN l 17)⟩
def afp(l:List bF):(l.map Qe).map dEv=l.map Z5:=by
 rw[zzct];refine zzcq fun e _=>?_;show(⟨e.id,e.it,e.st,e.fr,e.i,e.re,(e.al.map Qf).map dSp,false⟩:bF)=Z5 e;rw[Qef DJ];rfl
def afq(g:Pg):dPg (Qg g)=j6 g:=by
 show(⟨dPl (Qa g.p),(g.ev.map Qe).map dEv,(g.cu.map Qm).map dCu,g.ed,(g.dr.map Xb).map (fun r=>dI (dN r 0)),g.ve⟩:Pg)=j6 g;rw[Ou,afp,Qef (fun _=>rfl),Qef (fun _=>rfl)];rfl
def dOd(l:P2):Od:=⟨dI (dN l 0),dI (dN l 1),dI (dN l 2),dI (dN l 3),dI (dN l 4),dI (dN l 5),dEn (l.drop 6),dCl (l.drop 13),dCu (l.drop 21)⟩
def Ov(o:Od):dOd (Qq o)=o:=by
 show(⟨o.sq,o.ch,o.fr,o.ki,o.en,o.n,dEn (Qd o.nw),o.cl,o.cu⟩:Od)=o;rw[Ot]
