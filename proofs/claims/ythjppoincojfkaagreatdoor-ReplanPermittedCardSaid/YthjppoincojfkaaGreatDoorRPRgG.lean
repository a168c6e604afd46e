import Derived.Test.YthjppoincojfkaaGreatDoorRPMcH
import Derived.Test.YthjppoincojfkaaGreatDoorCards
import Derived.Deep.DeepHandedRow
import Derived.Lib.LaidTab
import Derived.MakeChecks
set_option linter.all false
set_option maxRecDepth 100000
set_option maxHeartbeats 64000000
namespace Go.Abs
open Go Go.RowKit
end Go.Abs
namespace Go.Proofs.YthjppoincojfkaaGreatDoor
open Go Go.Abs
def uV(g:Pg)(f:Int)(b:QR)(o:Od)(q:Pl)(d:Int):Option bC:=match Yz g f b with
 |none=>none
 |some e=>match Br g f o q d e with
  |none=>none
  |some F=>if F=0 then none else some ⟨e.id,e.it,f,F,e.i+(f-e.st),p7 q f e.it F q.rg.toNat,jS q f e.id F ((Xb e.id q.ens).getD yd).al,decide (jS q f e.id F ((Xb e.id q.ens).getD yd).al=[])⟩
def nl0(e:bC):bC:={e with nl:=false}
def Ui(g:Pg)(f:Int)(b:QR)(o:Od)(q:Pl)(d:Int):List bC:=(Vz f g.ev).map nl0++(uV g f b o q d).toList
def Jl(g:Pg)(f:Int)(b:QR)(o:Od)(q:Pl)(d:Int):Int:=match uV g f b o q d with
 |none=>f
 |some e=>f+e.fr
def mN(g:Pg)(f:Int)(b:QR)(o:Od)(q:Pl)(d:Int):List Ad:=Rr (Ui g f b o q d) (Jl g f b o q d)
def j4(g:Pg)(f:Int)(b:QR)(o:Od)(q:Pl)(d:Int):List Bool:=Wh q (Jl g f b o q d) (mN g f b o q d) (Jk g b q.ens)
def Vr(g:Pg)(f:Int)(b:QR)(o:Od)(q:Pl)(d:Int):List Sp:=(Yc q (Jl g f b o q d) (mN g f b o q d) (Xg true (Jk g b q.ens) (j4 g f b o q d))).getD []
def Hr(g:Pg)(f:Int)(b:QR)(o:Od)(q:Pl)(d:Int):Pi:=Xg false (Jk g b q.ens) (j4 g f b o q d)
def LM(g:Pg)(f:Int)(b:QR)(o:Od)(q:Pl)(d:Int):List bC:=Kw q (Vr g f b o q d) (Jl g f b o q d)
def Hu(l:List Sp):IQ l=.sl (tZ l) (l.map Qf):=by
 unfold IQ tZ;split
 ·rename_i h;rw[h];rfl
 rfl
def afL(l:Pi):Hf l=.sl (tZ l) (l.map Qy):=by
 unfold Hf tZ;split
 ·rename_i h;rw[h];rfl
 rfl
def yF(l:List bC):(l.map nl0).map Zt=l.map Qe:=by
 rw[zzcu];exact zzcr fun e _=>rfl
def By(l:List bC):(l.map nl0).map Qe=l.map Qe:=by
 rw[zzcu];exact zzcr fun e _=>rfl
def OE(g:Pg)(past:List Ad)(L:List Sp)(D:Pi)(bl:List bC):UV:=fun dst fn l=>
 if fn=109 then .sl .ro (past.map Vi)else if fn=108 then .aS [.sl (tZ L) (L.map Qf),.sl (tZ D) (D.map Qy)]else if fn=67 then .sl .ro (bl.map Qe)
 else if fn=107 then(match l with|[_,.int _ id]=>.bool (decide (id∈g.dr))|_=>.junk)else if fn=999999 then(if dst=95\/dst=97 then .aJ 0 []else .junk)else .gd false .junk
structure Hq (g:Pg) (f:Int) (b:QR) (o:Od) (q:Pl) (d:Int):Prop where
 mo:lT g f
 pl:Bl q
 pk:PlK q
 d0:0<=d/\d<=1000000000
 rg:0<=q.rg/\q.rg<=8
 f0:0<=f/\f<=1000000
 ev:g.ev.length<=2000
 dr:g.dr.length<=1000000
 ln:q.ln<=1000000
 cu:∀e,uV g f b o q d=some e->Kz e
 en:0<=Jl g f b o q d/\Jl g f b o q d<=1000000
 st:∀s∈Vr g f b o q d,-1000000000<=s.2/\s.2<=1000000000
def lq{g:Pg}{f:Int}{b:QR}{o:Od}{q:Pl}{d:Int}(h:Hq g f b o q d):(Ui g f b o q d).length<=2001/\∀e∈Ui g f b o q d,Kz e:=by
 have h1:=Qdt f g.ev;have h2:=oc f h.f0.2 g.ev h.mo.2.1;refine⟨?_,fun e he=>?_⟩
 ·have:=h.ev;have h3:(uV g f b o q d).toList.length<=1:=by cases uV g f b o q d<;>simp
  simp only[Ui,zzak,zzbv];omega
 rcases zzam.1 he with he|he
 ·obtain⟨x,hx,rfl⟩:=zzar.1 he;exact h2 x hx
 exact h.cu e (by cases hc:uV g f b o q d with
  |none=>rw[hc]at he;simp at he
  |some x=>rw[hc]at he;simp at he;rw[he])
def aal{g:Pg}{f:Int}{b:QR}{o:Od}{q:Pl}{d:Int}(h:Hq g f b o q d):(mN g f b o q d).length<=2001:=by
 have h1:=G9 (Vz (Jl g f b o q d) (Ui g f b o q d)) none [];have h2:=Qdt (Jl g f b o q d) (Ui g f b o q d);have h3:=(lq h).1;simp only[zzco]at h1;unfold mN Rr;omega
def afM{g:Pg}{f:Int}{b:QR}{o:Od}{q:Pl}{d:Int}(h:Hq g f b o q d)(ce:Rt):Pure Tryz.prog aD 109 [.sl ce ((Ui g f b o q d).map Zt),I (Jl g f b o q d)] (.sl .ro ((mN g f b o q d).map Vi)):=
 Xz (LC (Ui g f b o q d) (Jl g f b o q d) (by have:=(lq h).1;omega) (lq h).2 h.en) ⟨Wk.trans (Wk.sl _ _) (KW _),Ps,trivial⟩
def afN{g:Pg}{f:Int}{b:QR}{o:Od}{q:Pl}{d:Int}(h:Hq g f b o q d)(ci:Rt):
  Pure Tryz.prog aD 108 [.agg (Qa q),.sl ci ((Jk g b q.ens).map Qy),I (Jl g f b o q d),.sl .ro ((mN g f b o q d).map Vi)] (.aS [.sl (tZ (Vr g f b o q d)) ((Vr g f b o q d).map Qf),.sl (tZ (Hr g f b o q d)) ((Hr g f b o q d).map Qy)]):=by
 have h1:=jX g b q.ens;have h2:=h.pk.ens;have h3:=h.en;have:=Z3 h.pk (at_:=Jl g f b o q d) (by unfold amQ;omega) (past:=mN g f b o q d) (by have:=aal h;omega) (ids:=Jk g b q.ens) zE;rw[RB,Hu,afL]at this;exact Xz this ⟨Ps,Wk.sl _ _,Ps,Ps,trivial⟩
def am9{g:Pg}{f:Int}{b:QR}{o:Od}{q:Pl}{d:Int}(h:Hq g f b o q d)(hl:(Vr g f b o q d).length<=1000000)(rL:Rt):
  Pure Tryz.prog aD 67 [.agg (Qa q),.sl rL ((Vr g f b o q d).map Qf),I (Jl g f b o q d)] (.sl .ro ((LM g f b o q d).map Qe)):=by
 obtain⟨q1,q2,q3,q4,q5,q6⟩:=h.pl;exact Xz (sN q (Vr g f b o q d) (Jl g f b o q d) zE zE zE zE q6 h.ln hl h.st) ⟨Ps,Wk.sl _ _,Ps,trivial⟩
open Go Go.Abs
def DL(ex gC:T5)(a b c X:P2):Qh (a::b::c::(ex++(gC++[X]))) (ex.length+(gC.length+3))=X:=by
 refine Qu ?_;have:a::b::c::(ex++(gC++[X]))=([a,b,c]++ex++gC)++[X]:=zd
 rw[this,zzao (by simp;omega),show ex.length+(gC.length+3)-([a,b,c]++ex++gC).length=0 by simp;omega];rfl
def EvW.more{ml:Pa}{rt:Rt}{n:Nat}(h:EvW ml rt n)(x:Pa):EvW (ml++x) rt n:=by
 obtain h|⟨k,h1,h2⟩:=h
 ·exact .inl h
 exact .inr ⟨k,h1,by rw[zzaj (zza.1 h2).1];exact h2⟩
def EvW.cv{ml:Pa}{rt:Rt}{n:Nat}(h:EvW ml rt n):∃ce,DF rt ce:=by
 obtain⟨rfl,_⟩|⟨k,rfl,_⟩:=h
 ·exact⟨_,DF.nil⟩
 exact⟨_,DF.own _ _⟩
def IdR.cv{ml ls:Pa}{rt:Rt}{n:Nat}(h:IdR ml ls rt n):∃ci,DF rt ci:=by
 obtain⟨rfl,_⟩|⟨rfl,_⟩:=h
 ·exact⟨_,DF.nil⟩
 exact⟨_,DF.own _ _⟩
def IdR.ls{ml ls:Pa}{rt:Rt}{n:Nat}(h:IdR ml ls rt n):∃x,ls=ml++x:=by
 obtain⟨_,_,rfl⟩|⟨_,_,rfl⟩:=h
 ·exact⟨[],zd⟩
 exact⟨_,rfl⟩
def RL(Y:YT)(m:AM)(g:Pg)(f:Int)(mid:Nat)(b:QR)(o:Od)(q:Pl)(d:Int)(h:Hq g f b o q d)(hb:fL m.boxes mid b)
  (iB:(Vr g f b o q d).length<=1000000)(fO:(LM g f b o q d).length<=10000000)(K:So)
  (
   hK:∀ex ls ke vd,gR m.boxes.length ⟨m.boxes++ex,ls,m.st,m.ln⟩ vd ((dd (Kl (g.dr++Hr g f b o q d))).map Qy)->
   K (.aS [.sl (.own ke 7) ((Ui g f b o q d).map Zt++(LM g f b o q d).map Qe),vd]) ⟨m.boxes++ex,ls,m.st,m.ln⟩):
  aB Tryz.prog aD Y 53 [.agg (Qr g f mid),.agg (Qq o),.agg (Qa q++[I d])] m K:=by
 obtain⟨mb,ml,ms,mn⟩:=m;have hB:∀ex,fL (mb++ex) mid b:=fun ex=>⟨by have:=hb.1;simp at this |-;omega,hb.ext ex⟩;have afA:=fun ce=>afM h ce;have Z6:=fun ci=>afN h ci;have Z7:=fun rL=>am9 h iB rL
 have hdl:(Hr g f b o q d).length<=1000000:=by
  have h1:=qc false (Jk g b q.ens) (j4 g f b o q d);have h2:=jX g b q.ens;have h3:=h.pk.ens;unfold Hr;omega
 have bT:=(lq h).1;have hL:∀ev,Ui g f b o q d=ev->ev.length<=2001:=fun ev he=>by rw[<- he];exact bT
 generalize hpast:mN g f b o q d=past at*
 generalize hstart:Vr g f b o q d=L at*
 generalize hdrop:Hr g f b o q d=D at*
 generalize hbld:LM g f b o q d=bl at*
 have tail:∀(E:QQ)(X:T5)(ls:Pa)(rte:Rt)(Q:R0),Abs.look E 3=.ptr mb.length 0->Qh (mb++X) mb.length=Qr g f mid->2<X.length->
   Abs.look E 5=.ptr (mb.length+2) 0->Qh (mb++X) (mb.length+2)=Qa q++[I d]->Abs.look E 8=.sl rte ((Ui g f b o q d).map Zt)->EvW ls rte (Ui g f b o q d).length->Abs.look E 9=I (Jl g f b o q d)->
   (∀E' ex LO ke vd,Abs.look E' 6=.sl (.own ke 7) ((Ui g f b o q d).map Zt++bl.map Qe)->Abs.look E' 7=vd->gR mb.length ⟨mb++ex,LO,ms,mn⟩ vd ((dd (Kl (g.dr++D))).map Qy)->Q .ret ⟨Vw 103 E',⟨mb++ex,LO,ms,mn⟩⟩)->
   vc Tryz.prog aD (OE g past L D bl) Y Ow ⟨Vw 103 E,⟨mb++X,ls,ms,mn⟩⟩ Q:=by
  intro E X ls rte Q e3 r3 hX e5 r5 e8 hw e9 hQ;refine Z9 Y _ (by simp[OE]) (by simp[OE]) E (mb++X) ls ms mn g f mid mb.length (mb.length+2) b q d Q (fun d id=>by simp[OE]) e3 (by simp;omega) r3 e5 (by simp;omega) r5 (hB X) h.dr (by have:=h.pk.ens;omega) ?_;intro E' ex rt LO hE qw aL;obtain⟨ci,hci⟩:=aL.cv;obtain⟨ce,hce⟩:=hw.cv;obtain⟨x,rfl⟩:=aL.ls
  refine Z5 Y _ (by simp[OE]) (by simp[OE]) (by simp[OE]) (fun _ _=>by simp[OE]) (fun _ _=>by simp[OE]) E' (mb++X++ex) (ls++x) ms mn g f mid mb.length (mb.length+2) q d rte ce rt ci (tZ L) (tZ D) (Ui g f b o q d) bl (Jl g f b o q d) (Jk g b q.ens) D L past Q
   (fun _ _=>by simp[OE]) (fun _ _=>by simp[OE]) (fun _ _=>by simp[OE]) (afA ce) (Z6 ci) (Z7 _) hce hci (LJ L)
   ((hE 3 zE zE).trans e3) (by simp;omega) ((Qn (by simp;omega)).trans r3) ((hE 5 zE zE).trans e5) (by simp;omega) ((Qn (by simp;omega)).trans r5)
   ((hE 8 zE zE).trans e8) (hw.more x) ((hE 9 zE zE).trans e9) qw h.dr hdl zE fO ?_
  intro E2 gC ls2 ke vd q1 q2 q3;replace q3:=q3.mono (n':=mb.length) zd;rw[zzav,zzav]at q3 |-
  exact hQ E2 _ ls2 ke vd q1 q2 q3
 obtain⟨hm,sg,E7,hd0,IJ,hf0,azm,fc,dD,sd,IF,bY⟩:=h;refine Xn ake (OE g past L D bl) zd ?_;rw[afz];simp[atB,ao0,Qr,Qm,Qa,Qq,Qd,Qg,Qk,OE];refine yq Y _ g.ev f zE hm.2.1 hf0 _ fun ex v ls hO=>?_;simp;have hbr:∀l:List bC,∀a∈l,(Qe a).length=7:=fun _ _ _=>rfl;have azn:(Vz f g.ev).length<=2000:=by have:=Qdt f g.ev;omega
 refine afg Y _ g f mid b o q (.sl .ro (q.ens.map Qd)) .ro d (.inl ⟨.ro,rfl,Dx.ro⟩) Dx.ro hm (hB _) sg hd0 IJ _ (fun e F he hF p8 gC ls2 v2 Gd=>?_) (fun hn gC=>?_)
 ·have cW:uV g f b o q d=some ⟨e.id,e.it,f,F,e.i+(f-e.st),p7 q f e.it F q.rg.toNat,jS q f e.id F ((Xb e.id q.ens).getD yd).al,decide (jS q f e.id F ((Xb e.id q.ens).getD yd).al=[])⟩:=by
   unfold uV;rw[he];simp only;rw[hF];simp only;rw[if_neg p8]
  have he1:Jl g f b o q d=f+F:=by unfold Jl;rw[cW]
  have hw:IntKind.i64.wrap (f+F)=f+F:=by rw[Ql]<;>omega
  have eZ:(Ui g f b o q d).map Zt=(Vz f g.ev).map Qe++[[I e.id,I e.it,I f,I F,I (e.i+(f-e.st)),I (p7 q f e.it F q.rg.toNat),.sl (if jS q f e.id F ((Xb e.id q.ens).getD yd).al=[]then .nil else .ro) ((jS q f e.id F ((Xb e.id q.ens).getD yd).al).map Qf)]]:=by
   unfold Ui;rw[cW,zzci,yF];simp[Zt]
  have ana:(Ui g f b o q d).length=(Vz f g.ev).length+1:=by
   unfold Ui;rw[cW];simp
  rw[eZ,ana,he1]at tail;rw[eZ]at hK;generalize jS q f e.id F ((Xb e.id q.ens).getD yd).al=A at*
  obtain⟨rfl,rfl,rfl⟩|⟨hA,rfl,rfl⟩:=Gd
  ·obtain⟨h0,rfl,rfl⟩|⟨h0,rfl,rfl⟩:=hO
   ·rw[h0]at tail hK;simp[zzan,hw,DL ex gC];refine tail _ _ _ _ _ zd (by simp[Qr,Qm,Qa]) zd zd (by simp[Qa]) (by simp;rfl) (.inr ⟨_,rfl,zd⟩) zd ?_;intro E' iE LO ke vd q1 q2 q3;have:=hK iE LO ke vd q3;simp[q1,q2]at this |-
    exact this
   skip
   simp[zzan,hw,DL ex gC];refine⟨⟨by rintro row (⟨a,_,rfl⟩|rfl)<;>rfl,zE⟩,tail _ _ _ _ _ zd (by simp[Qr,Qm,Qa]) zd zd (by simp[Qa]) (by simp;rfl) (.inr ⟨_,rfl,zd⟩) zd ?_⟩;intro E' iE LO ke vd q1 q2 q3;have:=hK iE LO ke vd q3;simp[q1,q2]at this |-
   exact this
  obtain⟨h0,rfl,rfl⟩|⟨h0,rfl,rfl⟩:=hO
  ·rw[h0]at tail hK;simp[zzan,hw,DL ex gC];refine tail _ _ _ (.own (ls.length+1) 7) _ zd (by simp[Qr,Qm,Qa]) zd zd (by simp[Qa]) (by simp[hA]) (.inr ⟨_,rfl,zd⟩) zd ?_;intro E' iE LO ke vd q1 q2 q3;have:=hK iE LO ke vd q3;simp[q1,q2]at this |-
   exact this
  skip
  simp[zzan,hw,DL ex gC];refine⟨⟨by rintro row (⟨a,_,rfl⟩|rfl)<;>rfl,zE⟩,tail _ _ _ (.own ml.length 7) _ zd (by simp[Qr,Qm,Qa]) zd zd (by simp[Qa]) (by simp[hA]) (.inr ⟨_,rfl,zd⟩) zd ?_⟩;intro E' iE LO ke vd q1 q2 q3;have:=hK iE LO ke vd q3;simp[q1,q2]at this |-
  exact this
 have cW:uV g f b o q d=none:=by
  unfold uV;cases hp:Yz g f b with
  |none=>rfl
  |some e=>
   rw[hp]at hn;simp only[zzcv]at hn;obtain hn|hn:=hn
   ·simp only[hn]
   simp only[hn,if_true]
 have he1:Jl g f b o q d=f:=by unfold Jl;rw[cW]
 have eZ:(Ui g f b o q d).map Zt=(Vz f g.ev).map Qe:=by
  unfold Ui;rw[cW,zzci,yF];simp
 have ana:(Ui g f b o q d).length=(Vz f g.ev).length:=by
  unfold Ui;rw[cW];simp
 rw[eZ,ana,he1]at tail;rw[eZ]at hK;obtain⟨h0,rfl,rfl⟩|⟨h0,rfl,rfl⟩:=hO
 ·rw[h0]at tail hK;simp[zzan,nW];refine tail _ _ _ .nil _ zd (by simp[Qr,Qm,Qa]) zd zd (by simp[Qa]) zd (.inl ⟨rfl,rfl⟩) zd ?_;intro E' iE LO ke vd q1 q2 q3;have:=hK iE LO ke vd q3;simp[q1,q2]at this |-
  exact this
 simp[zzan,nW];refine tail _ _ _ (.own ml.length 7) _ zd (by simp[Qr,Qm,Qa]) zd zd (by simp[Qa]) zd (.inr ⟨_,rfl,zd⟩) zd ?_;intro E' iE LO ke vd q1 q2 q3;have:=hK iE LO ke vd q3;simp[q1,q2]at this |-
 exact this
open Go Go.Abs
def yB(c:Cue)(l:List Cue):Option (List Cue):=if ir c=true then(if 200<(gQ c (!decide (c.to=0)) l).length then none else some (gQ c (!decide (c.to=0)) l))else none
def Ht(c:Cue)(l:List Cue):mJ c l=match yB c l with
 |none=>.aS [.sl .nil [],I 150]
 |some x=>.aS [.sl (tZ x) (x.map Qk),I 0]:=by
 unfold mJ yB tZ;split
 ·split<;>rfl
 rfl
def Kn(g:Pg)(o:Od)(b:QR)(q:Pl)(d:Int):Pg:=
 {g with p:=q,ev:=Ui g o.fr b o q d++LM g o.fr b o q d,dr:=dd (Kl (g.dr++Hr g o.fr b o q d)),ve:=g.ve+1}
def Zg(g:Pg)(o:Od):Pg:=
 if Uj g o=false then{g with ve:=g.ve+1}
 else if o.ki=5 then(match yB o.cu g.cu with
  |none=>{g with ve:=g.ve+1}
  |some x=>{g with cu:=x,ed:=o.fr,ve:=g.ve+1})
 else match Jc g o.fr (Xp o.fr g.ev []) o with
  |none=>{g with ve:=g.ve+1}
  |some (q,d)=>Kn g o (Xp o.fr g.ev []) q d
structure afF (g:Pg) (o:Od):Prop where
 pg:PgC g
 al:o.nw.al.length<=8796093022208
 ve:0<=g.ve/\g.ve<=1000000
 cu:g.cu.length<=1000000
 ch:Uj g o=true->o.ki≠5->ZX g o.fr o
 rn:Uj g o=true->o.ki≠5->∀q d,Jc g o.fr (Xp o.fr g.ev []) o=some (q,d)->Hq g o.fr (Xp o.fr g.ev []) o q d/\(Vr g o.fr (Xp o.fr g.ev []) o q d).length<=1000000/\(LM g o.fr (Xp o.fr g.ev []) o q d).length<=10000000
def fL.more{bx:T5}{mid:Nat}{b:QR}(h:fL bx mid b)(x:T5):fL (bx++x) mid b:=⟨by have:=h.1;simp;omega,h.ext x⟩
def fL.ayl{a b c d d':P2}{ex:T5}{mid:Nat}{bg:QR}(h:fL (a::b::c::d::ex) mid bg)(hm:4<=mid)(x:T5):fL (a::b::c::d'::(ex++x)) mid bg:=by
 obtain⟨j,rfl⟩:∃j,mid=j+4:=⟨mid-4,zE⟩;obtain⟨h1,h2⟩:=h;have hg:=Jj h1;rw[h2]at hg;simp only[zzcc]at hg;have hj:=(zza.1 hg).1;refine⟨by simp;omega,Qu ?_⟩;simp only[zzcc];rw[zzaj hj,hg]
def cell_of{a:AV}(h:Qx a=true):cellsOf a=[a]:=by cases a<;>simp_all[Qx,cellsOf]
def afO{a:AV}(h:Qx a=true):bare a=true:=by cases a<;>simp_all[Qx,bare]
def anb(a b:List bC):Wk (.sl .ro (a.map Zt++b.map Qe)) (.sl .ro ((a++b).map Qe)):=by
 have h:a.map Zt++b.map Qe=(a++b.map nl0).map Zt:=by rw[zzci,yF]
 have h2:(a++b).map Qe=(a++b.map nl0).map Qe:=by rw[zzci,zzci,By]
 rw[h,h2];exact KW _
def anc(g:Pg)(o:Od)(h:afF g o):∃re rc rd evr,Wk (.sl re evr) (.sl .ro ((Zg g o).ev.map Qe))/\
  Pure Tryz.prog aD 25 [.agg (Qm g),.agg (Qq o)] (.agg (Qa (Zg g o).p++[.sl re evr,.sl rc ((Zg g o).cu.map Qk),I (Zg g o).ed,.sl rd ((Zg g o).dr.map Qy),I (Zg g o).ve])):=by
 obtain⟨hpg,fK,hve,sd,gX,hrn⟩:=h;have k76:=YW g hpg;have DK:=sZ g o fK;have sK:=Bq g.cu o.cu sd;rw[Ht]at sK;simp only[Qm,Qa,Qq,Qd,Qg,Qk,zzae,zzai]at k76 DK sK;have hw:IntKind.i64.wrap (g.ve+1)=g.ve+1:=by rw[Ql]<;>omega
 cases hc:Uj g o with
 |false=>
  have ha:Zg g o={g with ve:=g.ve+1}:=by unfold Zg;rw[if_pos hc]
  rw[ha];rw[hc]at DK;refine⟨.ro,.ro,.ro,g.ev.map Qe,Ps,Qp uZ (fun _ f l=>if f=52 then l.headD .junk else if f=41 then .bool (Uj g o)else .gd false .junk) zd ?_⟩;simp[O5,O6,Qm,Qa,Qq,Qd,Qg,Qk,hc,hw];exact⟨k76,DK⟩
 |true=>
  rw[hc]at DK;by_cases h5:o.ki=5
  ·rw[h5]at DK;cases he:yB o.cu g.cu with
   |none=>
    have ha:Zg g o={g with ve:=g.ve+1}:=by unfold Zg;rw[if_neg (by rw[hc];decide),if_pos h5,he]
    rw[ha];rw[he]at sK;refine⟨.ro,.ro,.ro,g.ev.map Qe,Ps,Qp uZ (fun _ f l=>if f=52 then l.headD .junk else if f=41 then .bool true else if f=42 then .aS [.sl .nil [],I 150]else .gd false .junk) zd ?_⟩;simp[O5,O6,Qm,Qa,Qq,Qd,Qg,Qk,hw,h5];exact⟨k76,DK,sK⟩
   |some x=>
    have ha:Zg g o={g with cu:=x,ed:=o.fr,ve:=g.ve+1}:=by unfold Zg;rw[if_neg (by rw[hc];decide),if_pos h5,he]
    rw[ha];rw[he]at sK;have hcx:=LJ x;have ane:=fun m d y=>hcx m d y;refine⟨.ro,tZ x,.ro,g.ev.map Qe,Ps,Qp uZ (fun _ f l=>if f=52 then l.headD .junk else if f=41 then .bool true else if f=42 then .aS [.sl (tZ x) (x.map Qk),I 0]else .gd false .junk) zd ?_⟩;simp[O5,O6,Qm,Qa,Qq,Qd,Qg,Qk,hw,h5];refine⟨k76,DK,sK,Um ?_⟩;simp[ane]
  have gX:=gX hc h5;have hrn:=hrn hc h5;cases hx:Jc g o.fr (Xp o.fr g.ev []) o with
  |none=>
   have ha:Zg g o={g with ve:=g.ve+1}:=by unfold Zg;rw[if_neg (by rw[hc];decide),if_neg h5,hx]
   rw[ha];refine⟨.ro,.ro,.ro,g.ev.map Qe,Ps,Qp uZ (fun _ f l=>if f=52 then l.headD .junk else if f=41 then .bool true else .gd false .junk) zd ?_⟩;simp[O5,O6,Qm,Qa,Qq,Qd,Qg,Qk,hw,h5];refine⟨k76,DK,?_⟩;refine Bu Y0 _ g o.fr (by have:=hpg.2.1;omega) _ fun ex mid hex VH gI=>?_;simp[Qr,Qm,Qa,zzan];refine Oz Y0 _ g o.fr mid (Xp o.fr g.ev []) o gX ?_ ?_ _ ?_
   ·have:=fun x=>fL.more gI x;simp only[zzae,zzai]at this;exact this _
   ·intro c hc;simp only[zzap,zzam,zzdl,or_false]at hc;obtain rfl|rfl|rfl|rfl|hc|rfl:=hc
    ·exact eG.of zd rfl
    ·exact eG.of zd rfl
    ·exact eG.of zd rfl
    ·exact eG.of zd rfl
    ·exact hex c hc
    exact eG.mo g o.fr mid
   rw[hx];simp[zU,RF]
  |some r=>
   obtain⟨q,d⟩:=r;obtain⟨hR,iB,fO⟩:=hrn q d hx;have ha:Zg g o=Kn g o (Xp o.fr g.ev []) q d:=by unfold Zg;rw[if_neg (by rw[hc];decide),if_neg h5,hx]
   rw[ha];refine⟨.ro,.ro,tZ ((Kn g o (Xp o.fr g.ev []) q d).dr.map Qy),(Ui g o.fr (Xp o.fr g.ev []) o q d).map Zt++(LM g o.fr (Xp o.fr g.ev []) o q d).map Qe,anb _ _,Qp uZ (fun _ f l=>if f=52 then l.headD .junk else if f=41 then .bool true else .gd false .junk) zd ?_⟩;simp[O5,O6,Qm,Qa,Qq,Qd,Qg,Qk,hw,h5];refine⟨k76,DK,?_⟩;refine Bu Y0 _ g o.fr (by have:=hpg.2.1;omega) _ fun ex mid hex VH gI=>?_;simp[Qr,Qm,Qa,zzan];have y8:=fun x=>fL.more gI x;simp only[zzae,zzai]at y8
   refine Oz Y0 _ g o.fr mid (Xp o.fr g.ev []) o gX (y8 _) (by
    intro c hc;simp only[zzap,zzam,zzdl,or_false]at hc;obtain rfl|rfl|rfl|rfl|hc|rfl:=hc
    ·exact eG.of zd rfl
    ·exact eG.of zd rfl
    ·exact eG.of zd rfl
    ·exact eG.of zd rfl
    ·exact hex c hc
    exact eG.mo g o.fr mid) _ ?_
   rw[hx];simp[zU,Qa,zzan];refine RL Y0 _ g o.fr mid (Xp o.fr g.ev []) o q d hR (fL.ayl (by simpa using y8 []) (Nm VH) _) iB fO _ fun gC ls ke vd hv=>?_;have fk:=hv.1;have Cs:=cell_of fk;have hc3:=afO fk;simp[zzan,fk,Cs,hc3];refine⟨zE,zE,rfl,rfl,rfl,rfl,rfl,rfl,rfl,rfl,rfl,rfl,rfl,rfl,rfl,rfl,rfl,?_,?_⟩
   ·refine hv.2 _ zd (fun j h1 h2=>?_) _;simp at h1;obtain⟨i,rfl⟩:∃i,j=i+4:=⟨j-4,zE⟩;simp
   rfl
def og(g:Pg)(o:Od)(h:afF g o):Pure Tryz.prog aD 25 [.agg (Qm g),.agg (Qq o)] (.agg (Qm (Zg g o))):=by
 obtain⟨re,rc,rd,evr,hw,hp⟩:=anc g o h;refine Zh hp ?_;unfold Qm;simp only[Qa,zzae,zzai];refine jv ?_;exact⟨Ps,Ps,Ps,Ps,Ps,Ps,Ps,Ps,Ps,Ps,Ps,Ps,Ps,hw,Wk.sl _ _,Ps,Wk.sl _ _,Ps,trivial⟩
open Go Go.Abs
def LP{l l':P2}(h:WkL l l'):Wk (.aS l) (.aS l'):=fun w γ v hr=>by
 have key:∀{l l':P2},WkL l l'->l.length=l'.length/\∀(i:Nat)(c':AV),l'[i]?=some c'->∃c,l[i]?=some c/\Wk c c':=by
  intro l;induction l with
  |nil=>intro l' h;cases l' with
   |nil=>exact⟨rfl,fun i c' h=>by simp at h⟩
   |cons _ _=>exact h.elim
  |cons a l ih=>intro l' h;cases l' with
   |nil=>exact h.elim
   |cons b l'=>
    obtain⟨h1,h2⟩:=ih h.2;refine⟨by simp[h1],fun i c' hc=>?_⟩;cases i with
    |zero=>simp at hc;subst hc;exact⟨a,rfl,h.1⟩
    |succ i=>simpa using h2 i c' (Nm hc)
 obtain⟨h1,h2⟩:=key h;cases hr with
 |aS hl hc=>
  refine .aS zE fun i c' v uh hv=>?_;obtain⟨c,g1,g2⟩:=h2 i c' uh;exact g2 _ _ _ (hc i c v g1 hv)
def pl0:Pl:=⟨0,0,0,0,[],0,0,0,0,[],[],[],[]⟩
def pg0:Pg:=⟨pl0,[],[],0,[],0⟩
def Hp(p:Pl):Option (List Sp):=if jJ p=false then none else Uu p (Ug p) [] [] 0 (-1)
def Yv(p:Pl):Pg:=match Hp p with
 |none=>pg0
 |some l=>⟨p,Kw p l 0,[],0,[],0⟩
def yG(p:Pl):Pi:=if jJ p=false then[]else match Hp p with
 |none=>nP (IP p) (Ug p)
 |some _=>[]
def zV(p:Pl):Int:=if jJ p=false then 80 else match Hp p with
 |none=>90
 |some _=>0
def atQ{V X Y:AV}{p:Pl}{ev:List bC}{cu:List Cue}{dr:Pi}{ed ve:Int}(h1:Wk V (.sl .ro (ev.map Qe)))(h2:Wk X (.sl .ro (cu.map Qk)))(h3:Wk Y (.sl .ro (dr.map Qy))):
  Wk (.agg (Qa p++[V,X,I ed,Y,I ve])) (.agg (Qm ⟨p,ev,cu,ed,dr,ve⟩)):=by
 unfold Qm;simp only[Qa,zzae,zzai];exact jv ⟨Ps,Ps,Ps,Ps,Ps,Ps,Ps,Ps,Ps,Ps,Ps,Ps,Ps,h1,h2,Ps,h3,Ps,trivial⟩
def aam:Wk (.agg YV) (.agg (Qm pg0)):=by
 unfold YV pg0 pl0 Qm;simp only[Qa,zzae,zzai,zzcs];exact jv ⟨Ps,Ps,Ps,Ps,Wk.sl _ _,Ps,Ps,Ps,Ps,Wk.sl _ _,Wk.sl _ _,Wk.sl _ _,Wk.sl _ _,Wk.sl _ _,Wk.sl _ _,Ps,Wk.sl _ _,Ps,trivial⟩
def LQ(p:Pl)(hp:Bl p)(dD:p.ln<=1000000)(SF:∀e∈p.ens,e.ea<=9223372036854775807)(hl:∀l,Hp p=some l->l.length<=1000000/\∀s∈l,-1000000000<=s.2/\s.2<=1000000000):
  Pure Tryz.prog aD 30 [.agg (Qa p)] (.aS [.agg (Qm (Yv p)),.sl .ro ((yG p).map Qy),I (zV p)]):=by
 obtain⟨h1,h2,h3,h4,h5,h6⟩:=hp;have k60:=Q0 p ⟨zE,zE,zE,zE,zE,h6⟩ h5 zE zE SF;have k61:=pY p ⟨h1,h2,h3,h4,h5,h6⟩;by_cases hv:jJ p=false
 ·have hr:QZ p=.aS [.sl .nil [],.sl .nil [],I 80]:=by unfold QZ;rw[if_pos hv]
  have hb:Hp p=none:=by unfold Hp;rw[if_pos hv]
  have hg:Yv p=pg0:=by unfold Yv;rw[hb]
  have hc:yG p=[]:=by unfold yG;rw[if_pos hv]
  have he:zV p=80:=by unfold zV;rw[if_pos hv]
  rw[hr]at k60;rw[hg,hc,he];simp only[Qa]at k60
  have:Pure Tryz.prog aD 30 [.agg (Qa p)] (.aS [.agg YV,.sl .nil [],I 80]):=by
   refine Qp IT (fun _ f _=>if f=65 then .aS [.sl .nil [],.sl .nil [],I 80]else .junk) zd ?_;simp[abw,abx,Qa,YV];exact k60
  exact Zh this (LP ⟨aam,Wk.sl _ _,Ps,trivial⟩)
 cases hx:Uu p (Ug p) [] [] 0 (-1)with
 |none=>
  have hr:QZ p=.aS [.sl .nil [],.sl .ro ((nP (IP p) (Ug p)).map Qy),I 90]:=by unfold QZ;rw[if_neg hv,hx]
  have hb:Hp p=none:=by unfold Hp;rw[if_neg hv,hx]
  have hg:Yv p=pg0:=by unfold Yv;rw[hb]
  have hc:yG p=nP (IP p) (Ug p):=by unfold yG;rw[if_neg hv,hb]
  have he:zV p=90:=by unfold zV;rw[if_neg hv,hb]
  rw[hr]at k60;rw[hg,hc,he];simp only[Qa]at k60
  have:Pure Tryz.prog aD 30 [.agg (Qa p)] (.aS [.agg YV,.sl .ro ((nP (IP p) (Ug p)).map Qy),I 90]):=by
   refine Qp IT (fun _ f _=>if f=65 then .aS [.sl .nil [],.sl .ro ((nP (IP p) (Ug p)).map Qy),I 90]else .junk) zd ?_;simp[abw,abx,Qa,YV];exact k60
  exact Zh this (LP ⟨aam,Ps,Ps,trivial⟩)
 |some l=>
  have hr:QZ p=.aS [IQ l,.sl .nil [],I 0]:=by unfold QZ;rw[if_neg hv,hx]
  have hb:Hp p=some l:=by unfold Hp;rw[if_neg hv,hx]
  have hg:Yv p=⟨p,Kw p l 0,[],0,[],0⟩:=by unfold Yv;rw[hb]
  have hc:yG p=[]:=by unfold yG;rw[if_neg hv,hb]
  have he:zV p=0:=by unfold zV;rw[if_neg hv,hb]
  obtain⟨gJ,CN⟩:=hl l hb;rw[hr,Hu]at k60;rw[hg,hc,he];have hcx:=LJ l;have ane:=fun m d y=>hcx m d y;have Z7:=Xz (sN p l 0 h5 zE zE zE h6 dD gJ CN) (l:=[.agg (Qa p),.sl (tZ l) (l.map Qf),I 0]) ⟨Ps,Wk.sl _ _,Ps,trivial⟩;simp only[Qa]at k60 k61 Z7
  have:Pure Tryz.prog aD 30 [.agg (Qa p)] (.aS [.agg (Qa p++[.sl .ro ((Kw p l 0).map Qe),.sl .nil [],I 0,.sl .nil [],I 0]),.sl .nil [],I 0]):=by
   refine Qp IT (fun _ f x=>if f=65 then .aS [.sl (tZ l) (l.map Qf),.sl .nil [],I 0]else if f=66 then x.headD .junk else if f=67 then .sl .ro ((Kw p l 0).map Qe)else .junk) zd ?_;simp[abw,abx,Qa,ane];exact⟨k60,k61,Z7⟩
  exact Zh this (LP ⟨atQ (Ps) (Wk.sl _ _) (Wk.sl _ _),Wk.sl _ _,Ps,trivial⟩)
open Go Go.Abs
def aym(o:Int×Int):P2:=[I o.1,I 0,I o.2,I 0,I 0,I 0,I 0,I 0,I 0,I 0,I 0,I 0,.sl .nil [],I 0,I 0,I 0,I 0,I 0,I 0,I 0,I 0,I 0,I 0,I 0,I 0,.str ⟨#[]⟩]
structure Md where
 pl:List (Int×Int)
 ps:List (List Pg)
 os:List (Int×Int)
def ayn(SI:List Rt)(ps:List (List Pg)):P2:=List.zipWith (fun rt l=>AV.sl rt (l.map Qm)) SI ps
structure MdB (bx:T5) (md:Nat) (M:Md) (pid cE:Nat) (SI:List Rt) (rto:Rt) (z:P2):Prop where
 hmd:md<bx.length
 row:Qh bx md=[.mp pid,.bs cE 0 M.ps.length 1,.sl rto (M.os.map aym)]
 hpid:pid<bx.length
 map:Qh bx pid=[.aJ 0 (bG (AV.int .i64) M.pl)]
 hbid:cE<bx.length
 hps:Qh bx cE=ayn SI M.ps++z
 hrts:SI.length=M.ps.length
 ne:M.ps≠[]
 sg:∀c i,af c M.pl=some i->0<=i/\i<M.ps.length
 len:M.ps.length<=40
 los:M.os.length<=1000
 hrto:DF rto .ro\/(rto=.nil/\M.os=[])
open Go Go.Abs
structure atJ (p:Pl):Prop where
 pl:Bl p
 ln:p.ln<=1000000
 ea:∀e∈p.ens,e.ea<=9223372036854775807
 l:∀l,Hp p=some l->l.length<=1000000/\∀s∈l,-1000000000<=s.2/\s.2<=1000000000
def Hv(p:Pl):AV:=.aS [.agg (Qm (Yv p)),.sl .ro ((yG p).map Qy),I (zV p)]
def Bz(p:Pl)(h:atJ p):Pure Tryz.prog aD 30 [.agg (Qa p)] (Hv p):=LQ p h.pl h.ln h.ea h.l
open Go Go.Abs
def dZ(g:Pg):Pg:={g with ev:=g.ev.map nl0}
def lu(g:Pg):Qm (dZ g)=Qm g:=by
 unfold Qm dZ;simp only[By]
def ayZ(ls:Pa)(SI:List Rt)(ps:List (List Pg)):Prop:=
 (∀(i:Nat)(rt:Rt)(l:List Pg),SI[i]?=some rt->ps[i]?=some l->rt=.full\/∃k,rt=.own k 18/\ls[k]?=some l.length)/\∀(i j k:Nat),SI[i]?=some (.own k 18)->SI[j]?=some (.own k 18)->i=j
def ay0(ls:Pa)(SI:List Rt)(rto:Rt)(n:Nat):Prop:=(rto=.nil/\n=0)\/∃k,rto=.own k 26/\ls[k]?=some n/\∀i:Nat,SI[i]?≠some (.own k 18)
def azo(ls:Pa)(SI:List Rt)(rto:Rt)(k n:Nat):Prop:=ls[k]?=some n/\(∀i:Nat,SI[i]?≠some (.own k 18))/\rto≠.own k 26
open Go Go.Abs
open Go Go.Abs
def wu6(n:Int)(h:0<=n)(h':n<=9223372036854775807):IntKind.u64.wrap n=n:=by
 simp[IntKind.wrap,IntKind.bits,IntKind.signed];omega
def RM(e:bC)(f:Int)(h:Kz e)(hf:f<=9223372036854775807):Pure Tryz.prog aD 77 [.agg (Qe e),.ep [I f] 0] (.bool (Kr f e)):=by
 refine Qp akw (fun _ _ _=>.junk) zd ?_;obtain⟨⟨a1,a2⟩,⟨a3,a4⟩,_⟩:=h;by_cases h1:e.st<=f
 ·have w1:=wu6 e.st zE zE;have w2:=wu6 f zE zE;have w3:=wu6 (f-e.st) zE zE;have w4:=wu6 e.fr zE zE;by_cases h2:0<e.fr
  ·have:(f-e.st<e.fr)=(f<e.st+e.fr):=by apply propext;omega
   simp[abI,abJ,Qe,h1,h2,Kr,w1,w2,w3,w4,this]
  have:¬f<e.st+e.fr:=zE
  simp[abI,abJ,Qe,h1,h2,Kr,this]
 simp[abI,abJ,Qe,h1,Kr]
def Hw(L:List bC)(f:Int)(hL:L.length<=1000000000)(hs:∀e∈L,Kz e)(hf:f<=9223372036854775807):Pure Tryz.prog aD 78 [.sl .ro (L.map Qe),.fn 77 [] [.ep [I f] 0]] (I (gP f L 0)):=by
 refine Qp Tf (K9 f) zd ?_;simp[akx,abK];refine Qi rV (fun s m=>∃i:Nat,s 8=I i/\i<=L.length/\gP f (L.drop i) i=gP f L 0/\m=⟨[],[],fun _=>.gone,0⟩) (fun s m=>L.length-(numOf (s 8)).toNat) ?_ ?_
 ·exact⟨0,zd,zE,zd,rfl⟩
 rintro s m ⟨i,hi,cn,hr,rfl⟩;rcases zzaa i L.length with ai|bq
 ·obtain⟨a,ha⟩:∃a,L[i]?=some a:=⟨L[i],zzaf ai⟩;have ah:Qh (L.map Qe) i=Qe a:=Qu (by simp[ha]);have hw:=bP i zE;rw[Za ha]at hr;have hp:Pure Tryz.prog aD 77 [.agg (Qe a),.ep [I f] 0] (.bool (Kr f a)):=RM a f (hs a (zzad ha)) hf;have ho:decide (a.st<=f/\f<a.st+a.fr)=Kr f a:=rfl;by_cases h:Kr f a=true
  ·simp[gP,h]at hr;rw[h]at hp ho;simp at ho;simp[hi,ah,ai,Qe,K9,rV,ho];exact⟨hp,hr⟩
  simp at h;simp[gP,h]at hr;rw[h]at hp ho
  have cO:decide (a.st<=f)=false\/decide (f<a.st+a.fr)=false:=by
   by_cases q:a.st<=f
   ·right;simp at ho |-;omega
   left;simp[q]
  simp only[decide_eq_false_iff_not]at ho;simp[hi,ah,ai,Qe,K9,rV,ho,hw];refine⟨hp,aQ,⟨i+1,zd,zE,hr⟩,zE⟩
 rw[zzal bq]at hr;simp[hi,zzbk.2 bq,rV];exact hr
def Hy(L:List bC)(f:Int)(hL:L.length<=1000000000)(hs:∀e∈L,Kz e)(hf:f<=9223372036854775807):Pure Tryz.prog aD 34 [.sl .ro (L.map Qe),I f] (xS f (lS f L)):=by
 have Lp:=Hw L f hL hs hf;refine Qp ajV (fun _ g l=>if g=78 then I (gP f L 0)else l.headD .junk) zd ?_;cases Sr:lS f L with
 |none=>
  rw[xQ Sr]at Lp |-
  simp[ajT,ajU,xS,aja];exact Lp
 |some a=>
  obtain⟨k,h1,h2,h3⟩:=xR (i:=0) Sr;rw[h1]at Lp |-
  have ai:k<L.length:=(zza.1 h2).1;have ah:Qh (L.map Qe) k=Qe a:=Qu (by simp[h2]);obtain⟨⟨a1,a2⟩,⟨a3,a4⟩,⟨a7,a8⟩,a9⟩:=hs a (zzad h2);have hon:a.st<=f/\f<a.st+a.fr:=by simpa[Kr]using h3
  have w1:IntKind.i64.wrap (a.i+f)=a.i+f:=by rw[Ql]<;>omega
  have w2:IntKind.i64.wrap (a.i+f-a.st)=a.i+f-a.st:=by rw[Ql]<;>omega
  rw[zzbs]at Lp;have hcn:=Qcn a.al a9;simp[ajT,ajU,xS,ai,ah,Qe];refine⟨Lp,hcn,Qbm [(.junk,⟨[[I f],[I a.id,I a.it,I a.st,I a.fr,I a.i,I a.re,.sl .ro (a.al.map Qf)],[I a.id,I a.it,I a.st,I a.fr,I a.i,I a.re,.sl .ro (a.al.map Qf)]],[],fun _=>.gone,0⟩)] ?_⟩;simp[w1,w2]
open Go Go.Abs
def RN(re r:Int):Bool:=decide (re.fdiv (2 ^ (min r.toNat 64))%2=1)
def PsR(ml ls:Pa)(rt:Rt)(n:Nat):Prop:=(∃lx,ls=ml++lx)/\(rt=.full\/∃k,rt=.own k 3/\ml.length<=k/\ls[k]?=some n)
def OD{f:Int}{e:bC}:∀{L:List bC},lS f L=some e->e∈L/\e.st<=f/\f<e.st+e.fr
 |[],h=>by cases h
 |a::r,h=>by
  simp only[lS]at h;split at h
  ·rename_i ho;cases h;exact⟨zd,by simpa[Kr]using ho⟩
  have:=OD h;exact⟨by simp[this.1],this.2⟩
open Go Go.Abs Go.RowKit
def isI(a:AV):Bool:=match a with
 |.int _ _=>true
 |_=>false
def afP{a:AV}(h:isI a=true){w:World}{γ γ':G}{v:Value}(hr:aA w γ a v):v.oneCell'=true/\aA w γ' a v:=by
 cases hr<;>simp[isI]at h;exact⟨rfl,.int _ _⟩
def LR{P:Program}{W:World}{name:String}{d:DataW Unit}{rest:List (String×DataW Unit)}{g:Nat}{t:TypeId}{D:Nat}{row:P2}(h:∃ps,DataW.LaidVars P W ((name,d)::rest) ps)
  (hg:P.globalNamed name=some g)(hty:(P.globals[g]?).map (·.type)=some t)(bU:WD P D t=true)(hav:cD P D t d=row)(hi:row.all isI=true)(aO:row≠[]):aA W (G0 Fw) (.ep row 0) (.pointer (some ⟨g,0,none⟩)):=by
 obtain⟨ps,g',t',cs,aT,p,q,hg',XU,ayo,hd,_,_⟩:=h;obtain rfl:=Option.some.inj (hg.symm.trans hg');obtain rfl:=Option.some.inj (hty.symm.trans XU);obtain⟨_,hr,_,_⟩:=jh D aT t cs.toList d p hd bU;rw[hav]at hr
 have bL:∀(j:Nat)(c:AV),row[j]?=some c->W.cell? ⟨g,j,none⟩=some (cs.toList.getD j undef)/\(cs.toList.getD j undef).oneCell'=true/\aA W (G0 Fw).cT c (cs.toList.getD j undef):=by
  intro j c hj;have ai:j<row.length:=(zza.1 hj).1;have bZ:j<cs.toList.length:=by rw[<- hr.1];exact ai
  have hv:cs.toList[j]?=some (cs.toList.getD j undef):=by rw[zzax,zzaf bZ];rfl
  have hc:=World.var?_cell hg ayo j;have h1:=hr.2 j c _ hj hv;have h2:isI c=true:=zzay.1 hi c (zzad hj);obtain⟨h3,h4⟩:=afP h2 (γ':=(G0 Fw).cT) h1;refine⟨?_,h3,h4⟩;rw[hc,<- zzcd];exact hv
 have hsz:g<W.heap.size:=by
  obtain⟨a,r,rfl⟩:=List.exists_cons_of_ne_nil aO;have:=(bL 0 a rfl).1;simp only[World.cell?]at this;rcases zzaa g W.heap.size with h|h
  ·exact h
  rw[zzbo zE]at this;simp at this
 refine aA.ep (o:=0) (b:=g) (off:=0) (fun j=>cs.toList.getD j undef) hsz (fun j c hj=>?_) (fun j c hj=>(bL j c hj).2.2);obtain⟨h1,h2,_⟩:=bL j c hj;refine⟨Nm h1,trivial,h2⟩
def aan:cD Tryz.prog 5 339 (Rows.laid_onair_timecode_rates:DataW Unit)=Hz:=by
 unfold Rows.laid_onair_timecode_rates;have h3:∀n:Int,cD Tryz.prog 2 3 (.lit (.int .i64 n):DataW Unit)=[I n]:=fun n=>Ze Tryz.underlying3 _ _;have h3':∀n:Int,cD Tryz.prog 3 3 (.lit (.int .i64 n):DataW Unit)=[I n]:=fun n=>Ze Tryz.underlying3 _ _
 have h23:∀a b:Int,cD Tryz.prog 3 23 (.agg [.lit (.int .i64 a),.lit (.int .i64 b)]:DataW Unit)=[I a,I b]:=fun a b=>by
  rw[Uv Tryz.underlying23];simp[h3]
 have ayp:∀a b c d:Int,cD Tryz.prog 4 295 (.agg [.agg [.lit (.int .i64 a),.lit (.int .i64 b)],.lit (.int .i64 c),.lit (.int .i64 d)]:DataW Unit)=[I a,I b,I c,I d]:=fun a b c d=>by
  rw[Uv Tryz.underlying295];simp[h3',h23]
 rw[Ri Tryz.underlying339];simp only[zzdw,zzeh,ayp];rfl
def anf{W:World}{rest:List (String×DataW Unit)}(h:laidMet Tryz.prog (("onair/timecode.rates",Rows.laid_onair_timecode_rates)::rest) W):∀g,aA W (G0 Fw) (aD g) (.pointer (some ⟨g,0,none⟩)):=by
 intro g;obtain⟨ps,h,_⟩:=h
 match g with
 |0=>exact .junk _
 |1=>exact .junk _
 |2=>exact LR (D:=5) ⟨ps,h⟩ (g:=2) (t:=339) (by kernel_rfl) (by kernel_rfl) (by kernel_rfl) aan (by decide) (by simp[Hz])
 |g+3=>exact .junk _
def Yt{m:Int}(h:(Lit.int .i64 m).wf=true):Zf m:=by
 simp[Lit.wf,IntKind.min,IntKind.max,IntKind.bits,IntKind.signed]at h;unfold Zf;omega
def Sz{H:Type}(t:TypeId)(x:DataW H):Prop:=∀k∈x.weights Tryz.prog t,k<=reachBytes
def Sz.all{H:Type}{e:TypeId}{l:List (DataW H)}(h:∀k∈DataW.weightsAll Tryz.prog e l,k<=reachBytes):∀y∈l,Sz e y:=by
 induction l with
 |nil=>intro y hy;cases hy
 |cons a l ih=>
  intro y hy;simp only[DataW.weightsAll,zzam]at h;rcases zzap.1 hy with rfl|hy
  ·exact fun k hk=>h k (.inl hk)
  exact ih (fun k hk=>h k (.inr hk)) y hy
def Sz.slice{H:Type}{t e:TypeId}{bM spare:List (DataW H)}(hu:Tryz.prog.underlying t=some (.slice e))(h:Sz t (.slice bM spare:DataW H)):(bM.length+spare.length)*Tryz.prog.bytesOf e<=reachBytes/\∀y∈bM,Sz e y:=by
 unfold Sz at h;simp only[DataW.weights,hu]at h;refine⟨h _ zd,Sz.all fun k hk=>h k (by simp[hk])⟩
def Sz.agg{H:Type}{t:TypeId}{fs:Array Field}{parts:List (DataW H)}(hu:Tryz.prog.underlying t=some (.struct fs))(h:Sz t (.agg parts:DataW H)):∀k∈DataW.weightsEach Tryz.prog (fs.toList.map (·.type)) parts,k<=reachBytes:=by
 unfold Sz at h;simpa only[DataW.weights,hu]using h
def Wj{H:Type}{α:Type}(row:α->P2)(ok:α->Prop){t e:TypeId}(hu:Tryz.prog.underlying t=some (.slice e)){n:Nat}(iC:∀y:DataW H,Typed Tryz.prog n e y->Sz e y->∃a,ok a/\cD Tryz.prog n e y=row a)
  {x:DataW H}(h:Typed Tryz.prog (n+1) t x)(hs:Sz t x):∃(l:List α)(rt:Rt),(∀a∈l,ok a)/\l.length*Tryz.prog.bytesOf e<=reachBytes/\l.length<=maxLen/\cD Tryz.prog (n+1) t x=[.sl rt (l.map row)]:=by
 rcases GZ hu h with rfl|⟨bM,spare,rfl,hl,he⟩
 ·exact⟨[],.nil,(fun _ h=>by cases h),(by rw[zzco,zzhi];exact zzbp _),zzbp _,afi hu⟩
 obtain⟨hz,Cq⟩:=hs.slice hu
 have key:∃X:List α,(∀y∈X,ok y)/\bM.map (cD Tryz.prog n e)=X.map row:=by
  clear hl h hz hs;induction bM with
  |nil=>exact⟨[],zd,rfl⟩
  |cons y ys ih=>
   obtain⟨X,h1,h2⟩:=ih (fun z hz=>he z (by simp[hz])) (fun z hz=>Cq z (by simp[hz]));obtain⟨q,hq,hv⟩:=iC y (he y zd) (Cq y zd);refine⟨q::X,?_,by rw[zzbb,h2,hv];rfl⟩;intro z hz;rcases zzap.1 hz with rfl|hz
   ·exact hq
   exact h1 z hz
 obtain⟨X,h1,h2⟩:=key;have aH:X.length=bM.length:=by have:=congrArg List.length h2;simpa using this.symm
 refine⟨X,.nn,h1,?_,zE,by rw[amJ hu,h2]⟩;rw[aH];refine zzbd (zzbe _ (Nat.le_add_right _ _)) hz
def OF{α:Type}{l:List α}(h:l.length=2):∃a b,l=[a,b]:=by
 match l,h with
 |[a,b],_=>exact⟨a,b,rfl⟩
def OG{α:Type}{l:List α}(h:l.length=5):∃a0 a1 a2 a3 a4,l=[a0,a1,a2,a3,a4]:=by
 match l,h with
 |[a0,a1,a2,a3,a4],_=>exact⟨a0,a1,a2,a3,a4,rfl⟩
def HA{α:Type}{l:List α}(h:l.length=7):∃a0 a1 a2 a3 a4 a5 a6,l=[a0,a1,a2,a3,a4,a5,a6]:=by
 match l,h with
 |[a0,a1,a2,a3,a4,a5,a6],_=>exact⟨a0,a1,a2,a3,a4,a5,a6,rfl⟩
def aao{α:Type}{l:List α}(h:l.length=8):∃a0 a1 a2 a3 a4 a5 a6 a7,l=[a0,a1,a2,a3,a4,a5,a6,a7]:=by
 match l,h with
 |[a0,a1,a2,a3,a4,a5,a6,a7],_=>exact⟨a0,a1,a2,a3,a4,a5,a6,a7,rfl⟩
def RO{α:Type}{l:List α}(h:l.length=11):∃a0 a1 a2 a3 a4 a5 a6 a7 a8 a9 a10,l=[a0,a1,a2,a3,a4,a5,a6,a7,a8,a9,a10]:=by
 match l,h with
 |[a0,a1,a2,a3,a4,a5,a6,a7,a8,a9,a10],_=>exact⟨a0,a1,a2,a3,a4,a5,a6,a7,a8,a9,a10,rfl⟩
def HB{H:Type}{n:Nat}:∀(L:List Field)(parts:List (DataW H)),(∀f∈L,f.type=3)->(∀p∈L.zip parts,Typed Tryz.prog (n+1) p.1.type p.2)->parts.length=L.length->
  ∃l:Pi,l.length=L.length/\(∀m∈l,Zf m)/\(L.zip parts).flatMap (fun p=>cD Tryz.prog (n+1) p.1.type p.2)=l.map I
 |[],parts,_,_,_=>⟨[],rfl,(fun _ h=>by cases h),by cases parts<;>rfl⟩
 |f::L,[],_,_,h=>by simp at h
 |f::L,a::parts,bD,hp,hl=>by
  obtain⟨l,l1,l2,l3⟩:=HB L parts (fun g hg=>bD g (zzdh _ hg)) (fun p VA=>hp p (zzdh _ VA)) (Nm hl);have ha:=hp (f,a) zd;have hf:=bD f zd;rw[hf]at ha;obtain⟨m,rfl,w⟩:=Xo Tryz.underlying3 ha;refine⟨m::l,by simp[l1],?_,?_⟩
  ·intro k hk;rcases zzap.1 hk with rfl|hk
   ·exact Yt w
   exact l2 k hk
  simp only[zzde,zzdw,hf];rw[Ze Tryz.underlying3,l3];rfl
def qg{H:Type}{t:TypeId}{fs:Array Field}(hu:Tryz.prog.underlying t=some (.struct fs))(bD:∀f∈fs.toList,f.type=3){y:DataW H}{n:Nat}(h:Typed Tryz.prog (n+2) t y):
  ∃l:Pi,l.length=fs.size/\(∀m∈l,Zf m)/\cD Tryz.prog (n+2) t y=l.map I:=by
 obtain⟨parts,rfl,aH,hp⟩:=Uw hu h;rw[Uv hu];obtain⟨l,l1,l2,l3⟩:=HB fs.toList parts bD hp (Nm aH);exact⟨l,Nm l1,l2,l3⟩
def aap(s:Sp):Prop:=Zf s.1/\Zf s.2
def DM{H:Type}{t:TypeId}{f g:Field}(hu:Tryz.prog.underlying t=some (.struct #[f,g]))(hf:f.type=3)(hg:g.type=3){y:DataW H}{n:Nat}(h:Typed Tryz.prog (n+2) t y):∃s:Sp,aap s/\cD Tryz.prog (n+2) t y=Qf s:=by
 obtain⟨l,l1,l2,l3⟩:=qg hu (by simp[hf,hg]) h;obtain⟨a,b,rfl⟩:=OF (show l.length=2 from l1);exact⟨(a,b),⟨l2 a zd,l2 b zd⟩,l3⟩
def ang(x:It):Prop:=Zf x.id/\Zf x.ki/\Zf x.fr/\Zf x.sp/\Zf x.ra
def anh(x:Cl):Prop:=Zf x.ki/\Zf x.it/\Zf x.fr/\Zf x.to/\Zf x.re/\Zf x.n/\Zf x.a/\Zf x.b
def ani(x:Bk):Prop:=Zf x.id/\Zf x.it/\Zf x.re/\Zf x.fr/\Zf x.to/\Zf x.un/\Zf x.pr
def afQ(x:En):Prop:=(Zf x.id/\Zf x.it/\Zf x.fr/\Zf x.ea/\Zf x.la/\Zf x.bo)/\x.al.length<=8796093022208/\∀a∈x.al,aap a
structure atS (p:Pl):Prop where
 ch:Zf p.ch
 nu:Zf p.nu
 de:Zf p.de
 of:Zf p.of
 ep:Zf p.ep
 rg:Zf p.rg
 ln:Zf p.ln
 fi:Zf p.fi
 sh:∀s∈p.sh,aap s
 aM:∀s∈p.aM,ang s
 ens:∀s∈p.ens,afQ s
 bks:∀s∈p.bks,ani s
 cls:∀s∈p.cls,anh s
 shl:p.sh.length<=8796093022208
 itl:p.aM.length<=8796093022208
 enl:p.ens.length<=8796093022208
 bkl:p.bks.length<=8796093022208
 cll:p.cls.length<=8796093022208
def aaq{H:Type}{y:DataW H}{n:Nat}(h:Typed Tryz.prog (n+2) 59 y):∃x:It,ang x/\cD Tryz.prog (n+2) 59 y=Qj x:=by
 obtain⟨l,l1,l2,l3⟩:=qg Tryz.underlying59 zd h;obtain⟨a0,a1,a2,a3,a4,rfl⟩:=OG (show l.length=5 from l1);exact⟨⟨a0,a1,a2,a3,a4⟩,⟨l2 _ zd,l2 _ zd,l2 _ zd,l2 _ zd,l2 _ zd⟩,l3⟩
def yH{H:Type}{y:DataW H}{n:Nat}(h:Typed Tryz.prog (n+2) 49 y):∃x:Cl,anh x/\cD Tryz.prog (n+2) 49 y=Qg x:=by
 obtain⟨l,l1,l2,l3⟩:=qg Tryz.underlying49 zd h;obtain⟨a0,a1,a2,a3,a4,a5,a6,a7,rfl⟩:=aao (show l.length=8 from l1);exact⟨⟨a0,a1,a2,a3,a4,a5,a6,a7⟩,⟨l2 _ zd,l2 _ zd,l2 _ zd,l2 _ zd,l2 _ zd,l2 _ zd,l2 _ zd,l2 _ zd⟩,l3⟩
def HC{H:Type}{y:DataW H}{n:Nat}(h:Typed Tryz.prog (n+2) 130 y):∃x:Bk,ani x/\cD Tryz.prog (n+2) 130 y=Xl x:=by
 obtain⟨l,l1,l2,l3⟩:=qg Tryz.underlying130 zd h;obtain⟨a0,a1,a2,a3,a4,a5,a6,rfl⟩:=HA (show l.length=7 from l1);exact⟨⟨a0,a1,a2,a3,a4,a5,a6⟩,⟨l2 _ zd,l2 _ zd,l2 _ zd,l2 _ zd,l2 _ zd,l2 _ zd,l2 _ zd⟩,l3⟩
def LU:Tryz.prog.bytesOf 59=40:=by kernel_rfl
def afR:Tryz.prog.bytesOf 64=16:=by kernel_rfl
def afS:Tryz.prog.bytesOf 47=72:=by kernel_rfl
def aar:Tryz.prog.bytesOf 130=56:=by kernel_rfl
def aas:Tryz.prog.bytesOf 49=64:=by kernel_rfl
def aat:Tryz.prog.bytesOf 124=16:=by kernel_rfl
def yI(q:En×Rt):P2:=[I q.1.id,I q.1.it,I q.1.fr,I q.1.ea,I q.1.la,I q.1.bo,.sl q.2 (q.1.al.map Qf)]
def BA{H:Type}{y:DataW H}{n:Nat}(h:Typed Tryz.prog (n+4) 47 y)(hs:Sz 47 y):∃q:En×Rt,afQ q.1/\cD Tryz.prog (n+4) 47 y=yI q:=by
 obtain⟨parts,rfl,aH,hp⟩:=Uw Tryz.underlying47 h;obtain⟨a0,a1,a2,a3,a4,a5,a6,rfl⟩:=HA aH;have hz:=hs.agg Tryz.underlying47;have t0:=hp (⟨ "ID",3,0,false, "", "",0⟩,a0) (by simp);have t1:=hp (⟨ "Item",3,1,false, "", "",8⟩,a1) (by simp);have t2:=hp (⟨ "Frames",3,2,false, "", "",16⟩,a2) (by simp);have t3:=hp (⟨ "Earliest",3,3,false, "", "",24⟩,a3) (by simp);have t4:=hp (⟨ "Latest",3,4,false, "", "",32⟩,a4) (by simp);have t5:=hp (⟨ "Booking",3,5,false, "", "",40⟩,a5) (by simp);have t6:=hp (⟨ "Alts",45,6,false, "", "",48⟩,a6) (by simp);obtain⟨m0,rfl,w0⟩:=Xo Tryz.underlying3 t0;obtain⟨m1,rfl,w1⟩:=Xo Tryz.underlying3 t1;obtain⟨m2,rfl,w2⟩:=Xo Tryz.underlying3 t2;obtain⟨m3,rfl,w3⟩:=Xo Tryz.underlying3 t3;obtain⟨m4,rfl,w4⟩:=Xo Tryz.underlying3 t4;obtain⟨m5,rfl,w5⟩:=Xo Tryz.underlying3 t5;have hs6:Sz 45 a6:=fun k hk=>hz k (by simp[DataW.weightsEach,hk]);obtain⟨l,rt,l1,l2,l3,l4⟩:=Wj Qf aap Tryz.underlying45 (fun y hy _=>DM Tryz.underlying64 rfl rfl hy) t6 hs6;rw[afR]at l2;have hr:reachBytes=140737488351232:=rfl;refine⟨(⟨m0,m1,m2,m3,m4,m5,l⟩,rt),⟨⟨Yt w0,Yt w1,Yt w2,Yt w3,Yt w4,Yt w5⟩,by simp only;omega,l1⟩,?_⟩;rw[Uv Tryz.underlying47];simp only[zzde,zzen,zzdw,zzeh];rw[Ze Tryz.underlying3,Ze Tryz.underlying3,Ze Tryz.underlying3,Ze Tryz.underlying3,Ze Tryz.underlying3,Ze Tryz.underlying3,l4];rfl
def anj(l:List (En×Rt))(rt:Rt):Wk (.sl rt (l.map yI)) (.sl .ro ((l.map (·.1)).map Qd)):=by
 refine Wk.trans (Wk.sl _ _) ?_;rw[zzcu];refine Wk.rows l yI (Qd ∘ (·.1)) (fun _=>rfl) fun a j c' h=>?_
 match j,h with
 |0,h=>exact⟨_,rfl,by cases h;exact Ps⟩
 |1,h=>exact⟨_,rfl,by cases h;exact Ps⟩
 |2,h=>exact⟨_,rfl,by cases h;exact Ps⟩
 |3,h=>exact⟨_,rfl,by cases h;exact Ps⟩
 |4,h=>exact⟨_,rfl,by cases h;exact Ps⟩
 |5,h=>exact⟨_,rfl,by cases h;exact Ps⟩
 |6,h=>exact⟨_,rfl,by cases h;exact Wk.sl _ _⟩
 |j+7,h=>simp[Qd]at h
abbrev PlT:=Pl×List (En×Rt)×Rt×Rt×Rt×Rt×Rt
def LV(q:PlT):Pl:={q.1 with ens:=q.2.1.map (·.1)}
def ank(q:PlT):P2:=[I q.1.ch,I q.1.nu,I q.1.de,I q.1.of,.sl q.2.2.1 (q.1.sh.map Qf),I q.1.ep,I q.1.rg,I q.1.ln,I q.1.fi,.sl q.2.2.2.1 (q.1.aM.map Qj),.sl q.2.2.2.2.1 (q.2.1.map yI),.sl q.2.2.2.2.2.1 (q.1.bks.map Xl),.sl q.2.2.2.2.2.2 (q.1.cls.map Qg)]
def aau{H:Type}{x:DataW H}{n:Nat}(h:Typed Tryz.prog (n+6) 32 x)(hs:Sz 32 x):∃q:PlT,atS (LV q)/\cD Tryz.prog (n+6) 32 x=ank q:=by
 obtain⟨parts,rfl,aH,hp⟩:=Uw Tryz.underlying32 h;obtain⟨a0,a1,a2,a3,a4,a5,a6,a7,a8,a9,a10,rfl⟩:=RO aH;have hz:=hs.agg Tryz.underlying32;have t0:=hp (⟨ "Channel",3,0,false, "", "",0⟩,a0) (by simp);have t1:=hp (⟨ "Rate",23,1,false, "", "",8⟩,a1) (by simp);have t2:=hp (⟨ "Zone",26,3,false, "", "",24⟩,a2) (by simp);have t3:=hp (⟨ "Epoch",3,5,false, "", "",56⟩,a3) (by simp);have t4:=hp (⟨ "Regions",3,6,false, "", "",64⟩,a4) (by simp);have t5:=hp (⟨ "Length",3,7,false, "", "",72⟩,a5) (by simp);have t6:=hp (⟨ "Fill",3,8,false, "", "",80⟩,a6) (by simp);have t7:=hp (⟨ "Items",27,9,false, "", "",88⟩,a7) (by simp);have t8:=hp (⟨ "Entries",28,10,false, "", "",112⟩,a8) (by simp);have t9:=hp (⟨ "Bookings",29,11,false, "", "",136⟩,a9) (by simp);have t10:=hp (⟨ "Clauses",30,12,false, "", "",160⟩,a10) (by simp);obtain⟨m0,rfl,w0⟩:=Xo Tryz.underlying3 t0;obtain⟨m3,rfl,w3⟩:=Xo Tryz.underlying3 t3;obtain⟨m4,rfl,w4⟩:=Xo Tryz.underlying3 t4;obtain⟨m5,rfl,w5⟩:=Xo Tryz.underlying3 t5;obtain⟨m6,rfl,w6⟩:=Xo Tryz.underlying3 t6;obtain⟨r,⟨r1,r2⟩,atT⟩:=DM Tryz.underlying23 rfl rfl t1;obtain⟨zp,rfl,ayq,zpp⟩:=Uw Tryz.underlying26 t2;obtain⟨z0,z1,rfl⟩:=OF ayq;have u0:=zpp (⟨ "Offset",3,0,false, "", "",0⟩,z0) (by simp);have u1:=zpp (⟨ "Shifts",24,1,false, "", "",8⟩,z1) (by simp);obtain⟨mo,rfl,wo⟩:=Xo Tryz.underlying3 u0;have s1:Sz 24 z1:=fun k hk=>hz k (by simp[DataW.weightsEach,DataW.weights,Tryz.underlying26,hk]);have s7:Sz 27 a7:=fun k hk=>hz k (by simp[DataW.weightsEach,hk]);have s8:Sz 28 a8:=fun k hk=>hz k (by simp[DataW.weightsEach,hk]);have s9:Sz 29 a9:=fun k hk=>hz k (by simp[DataW.weightsEach,hk]);have s10:Sz 30 a10:=fun k hk=>hz k (by simp[DataW.weightsEach,hk]);have hr:reachBytes=140737488351232:=rfl;obtain⟨sh,rt1,sh1,sh2,_,sh4⟩:=Wj Qf aap Tryz.underlying24 (fun y hy _=>DM Tryz.underlying124 rfl rfl hy) u1 s1;obtain⟨it,rt7,it1,it2,_,it4⟩:=Wj Qj ang Tryz.underlying27 (fun y hy _=>aaq hy) t7 s7;obtain⟨en,rt8,en1,en2,_,en4⟩:=Wj yI (fun q=>afQ q.1) Tryz.underlying28 (fun y hy hz=>BA hy hz) t8 s8;obtain⟨bk,rt9,bk1,bk2,_,bk4⟩:=Wj Xl ani Tryz.underlying29 (fun y hy _=>HC hy) t9 s9;obtain⟨cl,ayr,cl1,cl2,_,cl4⟩:=Wj Qg anh Tryz.underlying30 (fun y hy _=>yH hy) t10 s10;rw[aat]at sh2;rw[LU]at it2;rw[afS]at en2;rw[aar]at bk2;rw[aas]at cl2;refine⟨(⟨m0,r.1,r.2,mo,sh,m3,m4,m5,m6,it,[],bk,cl⟩,en,rt1,rt7,rt8,rt9,ayr),⟨Yt w0,r1,r2,Yt wo,Yt w3,Yt w4,Yt w5,Yt w6,sh1,it1,?_,bk1,cl1,by simp only[LV];omega,by simp only[LV];omega,by simp only[LV,zzbv];omega,by simp only[LV];omega,by simp only[LV];omega⟩,?_⟩
 ·intro s hs;obtain⟨q,hq,rfl⟩:=zzar.1 hs;exact en1 q hq
 rw[Uv Tryz.underlying32];simp only[zzde,zzen,zzdw,zzeh];rw[Ze Tryz.underlying3,Ze Tryz.underlying3,Ze Tryz.underlying3,Ze Tryz.underlying3,Ze Tryz.underlying3,it4,en4,bk4,cl4,Uv Tryz.underlying26];simp only[zzde,zzen,zzdw,zzeh];rw[Ze Tryz.underlying3,sh4,atT];rfl
def aav{H:Type}{x:DataW H}{n:Nat}(h:Typed Tryz.prog (n+6) 32 x)(hs:Sz 32 x):∃p:Pl,atS p/\Wk (oZ Tryz.prog (n+6) 32 x) (.agg (Qa p)):=by
 have bJ:Kj Tryz.prog 32=true:=by unfold Kj;rw[Tryz.underlying32]
 obtain⟨q,h1,h2⟩:=aau h hs;refine⟨LV q,h1,?_⟩;rw[afj bJ,h2];exact jv ⟨Ps,Ps,Ps,Ps,Wk.sl _ _,Ps,Ps,Ps,Ps,Wk.sl _ _,anj _ _,Wk.sl _ _,Wk.sl _ _,trivial⟩
def afT:Tryz.prog.bytesOf 53=232:=by kernel_rfl
structure anl (o:Od):Prop where
 n:Zf o.n
 fr:Zf o.fr
 en:afQ o.nw
abbrev OdT:=Od×Rt
def DN(q:OdT):P2:=[I q.1.sq,I q.1.ch,I q.1.fr,I q.1.ki,I q.1.en,I q.1.n,I q.1.nw.id,I q.1.nw.it,I q.1.nw.fr,I q.1.nw.ea,I q.1.nw.la,I q.1.nw.bo,.sl q.2 (q.1.nw.al.map Qf),I q.1.cl.ki,I q.1.cl.it,I q.1.cl.fr,I q.1.cl.to,I q.1.cl.re,I q.1.cl.n,I q.1.cl.a,I q.1.cl.b,I q.1.cu.id,I q.1.cu.fr,I q.1.cu.to,I q.1.cu.pr,.str q.1.cu.tx]
def afU{H:Type}{x:DataW H}{n:Nat}(h:Typed Tryz.prog (n+2) 51 x):∃c:Cue,cD Tryz.prog (n+2) 51 x=Qk c:=by
 obtain⟨parts,rfl,aH,hp⟩:=Uw Tryz.underlying51 h;obtain⟨a0,a1,a2,a3,a4,rfl⟩:=OG aH;have t0:=hp (⟨ "ID",3,0,false, "", "",0⟩,a0) (by simp);have t1:=hp (⟨ "From",3,1,false, "", "",8⟩,a1) (by simp);have t2:=hp (⟨ "To",3,2,false, "", "",16⟩,a2) (by simp);have t3:=hp (⟨ "Priority",3,3,false, "", "",24⟩,a3) (by simp);have t4:=hp (⟨ "Text",9,4,false, "", "",32⟩,a4) (by simp);obtain⟨m0,rfl,w0⟩:=Xo Tryz.underlying3 t0;obtain⟨m1,rfl,w1⟩:=Xo Tryz.underlying3 t1;obtain⟨m2,rfl,w2⟩:=Xo Tryz.underlying3 t2;obtain⟨m3,rfl,w3⟩:=Xo Tryz.underlying3 t3;obtain⟨s,rfl,_⟩:=Rh Tryz.underlying9 t4;refine⟨⟨m0,m1,m2,m3,⟨s.toArray⟩⟩,?_⟩;rw[Uv Tryz.underlying51];simp only[zzde,zzen,zzdw,zzeh];rw[Ze Tryz.underlying3,Ze Tryz.underlying3,Ze Tryz.underlying3,Ze Tryz.underlying3,afh Tryz.underlying9];rfl
def afV{α:Type}{l:List α}(h:l.length=9):∃a0 a1 a2 a3 a4 a5 a6 a7 a8,l=[a0,a1,a2,a3,a4,a5,a6,a7,a8]:=by
 match l,h with
 |[a0,a1,a2,a3,a4,a5,a6,a7,a8],_=>exact⟨a0,a1,a2,a3,a4,a5,a6,a7,a8,rfl⟩
def RP{H:Type}{x:DataW H}{n:Nat}(h:Typed Tryz.prog (n+5) 53 x)(hs:Sz 53 x):∃q:OdT,anl q.1/\cD Tryz.prog (n+5) 53 x=DN q:=by
 obtain⟨parts,rfl,aH,hp⟩:=Uw Tryz.underlying53 h;obtain⟨a0,a1,a2,a3,a4,a5,a6,a7,a8,rfl⟩:=afV aH;have hz:=hs.agg Tryz.underlying53;have t0:=hp (⟨ "Seq",3,0,false, "", "",0⟩,a0) (by simp);have t1:=hp (⟨ "Channel",3,1,false, "", "",8⟩,a1) (by simp);have t2:=hp (⟨ "Frame",3,2,false, "", "",16⟩,a2) (by simp);have t3:=hp (⟨ "Kind",3,3,false, "", "",24⟩,a3) (by simp);have t4:=hp (⟨ "Entry",3,4,false, "", "",32⟩,a4) (by simp);have t5:=hp (⟨ "N",3,5,false, "", "",40⟩,a5) (by simp);have t6:=hp (⟨ "New",47,6,false, "", "",48⟩,a6) (by simp);have t7:=hp (⟨ "Clause",49,13,false, "", "",120⟩,a7) (by simp);have t8:=hp (⟨ "Cue",51,21,false, "", "",184⟩,a8) (by simp);obtain⟨m0,rfl,w0⟩:=Xo Tryz.underlying3 t0;obtain⟨m1,rfl,w1⟩:=Xo Tryz.underlying3 t1;obtain⟨m2,rfl,w2⟩:=Xo Tryz.underlying3 t2;obtain⟨m3,rfl,w3⟩:=Xo Tryz.underlying3 t3;obtain⟨m4,rfl,w4⟩:=Xo Tryz.underlying3 t4;obtain⟨m5,rfl,w5⟩:=Xo Tryz.underlying3 t5;have s6:Sz 47 a6:=fun k hk=>hz k (by simp[DataW.weightsEach,hk]);obtain⟨⟨e,rt⟩,e1,e2⟩:=BA t6 s6;obtain⟨c,c1,c2⟩:=yH t7;obtain⟨u,u2⟩:=afU t8;refine⟨(⟨m0,m1,m2,m3,m4,m5,e,c,u⟩,rt),⟨Yt w5,Yt w2,e1⟩,?_⟩;rw[Uv Tryz.underlying53];simp only[zzde,zzen,zzdw,zzeh];rw[Ze Tryz.underlying3,Ze Tryz.underlying3,Ze Tryz.underlying3,Ze Tryz.underlying3,Ze Tryz.underlying3,Ze Tryz.underlying3,e2,c2,u2];rfl
def anm(l:List OdT)(rt:Rt):Wk (.sl rt (l.map DN)) (.sl .ro ((l.map (·.1)).map Qq)):=by
 refine Wk.trans (Wk.sl _ _) ?_;rw[zzcu];refine Wk.rows l DN (Qq ∘ (·.1)) (fun _=>rfl) fun a j c' h=>?_
 match j,h with
 |0,h=>exact⟨_,rfl,by cases h;exact Ps⟩
 |1,h=>exact⟨_,rfl,by cases h;exact Ps⟩
 |2,h=>exact⟨_,rfl,by cases h;exact Ps⟩
 |3,h=>exact⟨_,rfl,by cases h;exact Ps⟩
 |4,h=>exact⟨_,rfl,by cases h;exact Ps⟩
 |5,h=>exact⟨_,rfl,by cases h;exact Ps⟩
 |6,h=>exact⟨_,rfl,by cases h;exact Ps⟩
 |7,h=>exact⟨_,rfl,by cases h;exact Ps⟩
 |8,h=>exact⟨_,rfl,by cases h;exact Ps⟩
 |9,h=>exact⟨_,rfl,by cases h;exact Ps⟩
 |10,h=>exact⟨_,rfl,by cases h;exact Ps⟩
 |11,h=>exact⟨_,rfl,by cases h;exact Ps⟩
 |12,h=>exact⟨_,rfl,by cases h;exact Wk.sl _ _⟩
 |13,h=>exact⟨_,rfl,by cases h;exact Ps⟩
 |14,h=>exact⟨_,rfl,by cases h;exact Ps⟩
 |15,h=>exact⟨_,rfl,by cases h;exact Ps⟩
 |16,h=>exact⟨_,rfl,by cases h;exact Ps⟩
 |17,h=>exact⟨_,rfl,by cases h;exact Ps⟩
 |18,h=>exact⟨_,rfl,by cases h;exact Ps⟩
 |19,h=>exact⟨_,rfl,by cases h;exact Ps⟩
 |20,h=>exact⟨_,rfl,by cases h;exact Ps⟩
 |21,h=>exact⟨_,rfl,by cases h;exact Ps⟩
 |22,h=>exact⟨_,rfl,by cases h;exact Ps⟩
 |23,h=>exact⟨_,rfl,by cases h;exact Ps⟩
 |24,h=>exact⟨_,rfl,by cases h;exact Ps⟩
 |25,h=>exact⟨_,rfl,by cases h;exact Ps⟩
 |j+26,h=>simp[Qq,Qd,Qg,Qk]at h
def LW{H:Type}{x:DataW H}{n:Nat}(h:Typed Tryz.prog (n+6) 33 x)(hs:Sz 33 x):∃l:List Od,(∀o∈l,anl o)/\l.length<=1000000000000/\Wk (oZ Tryz.prog (n+6) 33 x) (.sl .ro (l.map Qq)):=by
 have bJ:Kj Tryz.prog 33=false:=by unfold Kj;rw[Tryz.underlying33]
 obtain⟨l,rt,l1,l2,_,l4⟩:=Wj DN (fun q=>anl q.1) Tryz.underlying33 (fun y hy hz=>RP hy hz) h hs;rw[afT]at l2;have hr:reachBytes=140737488351232:=rfl;refine⟨l.map (·.1),fun p hp=>?_,by rw[zzbv];omega,by rw[afk bJ l4];exact anm l rt⟩;obtain⟨q,hq,rfl⟩:=zzar.1 hp;exact l1 q hq
open Go Go.Abs
def dI:AV->Int
 |.int _ n=>n
 |_=>0
def dR:AV->T5
 |.sl _ r=>r
 |_=>[]
def dN(l:P2)(i:Nat):AV:=l.getD i .junk
def dSp(l:P2):Sp:=(dI (dN l 0),dI (dN l 1))
def dIt(l:P2):It:=⟨dI (dN l 0),dI (dN l 1),dI (dN l 2),dI (dN l 3),dI (dN l 4)⟩
def dCl(l:P2):Cl:=⟨dI (dN l 0),dI (dN l 1),dI (dN l 2),dI (dN l 3),dI (dN l 4),dI (dN l 5),dI (dN l 6),dI (dN l 7)⟩
def dEn(l:P2):En:=⟨dI (dN l 0),dI (dN l 1),dI (dN l 2),dI (dN l 3),dI (dN l 4),dI (dN l 5),(dR (dN l 6)).map dSp⟩
def dBk(l:P2):Bk:=⟨dI (dN l 0),dI (dN l 1),dI (dN l 2),dI (dN l 3),dI (dN l 4),dI (dN l 5),dI (dN l 6)⟩
def dPl(l:P2):Pl:=⟨dI (dN l 0),dI (dN l 1),dI (dN l 2),dI (dN l 3),(dR (dN l 4)).map dSp,dI (dN l 5),dI (dN l 6),dI (dN l 7),dI (dN l 8),(dR (dN l 9)).map dIt,(dR (dN l 10)).map dEn,(dR (dN l 11)).map dBk,(dR (dN l 12)).map dCl⟩
def Qef{α:Type}{f:α->P2}{g:P2->α}(h:∀a,g (f a)=a)(l:List α):(l.map f).map g=l:=by
 rw[zzcu]
 conv=>rhs;rw[<- List.map_id l]
 exact zzcr fun a _=>h a
theorem DO(s:Sp):dSp (Qf s)=s:=rfl
def OH(e:En):dEn (Qd e)=e:=by
 show(⟨e.id,e.it,e.fr,e.ea,e.la,e.bo,(e.al.map Qf).map dSp⟩:En)=e;rw[Qef DO]
def DP(p:Pl):dPl (Qa p)=p:=by
 show(⟨p.ch,p.nu,p.de,p.of,(p.sh.map Qf).map dSp,p.ep,p.rg,p.ln,p.fi,(p.aM.map Qj).map dIt,(p.ens.map Qd).map dEn,(p.bks.map Xl).map dBk,(p.cls.map Qg).map dCl⟩:Pl)=p;rw[Qef DO,Qef (fun _=>rfl),Qef OH,Qef (fun _=>rfl),Qef (fun _=>rfl)]
def dEv(l:P2):bC:=⟨dI (dN l 0),dI (dN l 1),dI (dN l 2),dI (dN l 3),dI (dN l 4),dI (dN l 5),(dR (dN l 6)).map dSp,false⟩
def dS:AV->ByteArray
 |.str s=>s
 |_=>⟨#[]⟩
def dCu(l:P2):Cue:=⟨dI (dN l 0),dI (dN l 1),dI (dN l 2),dI (dN l 3),dS (dN l 4)⟩
def dPg(l:P2):Pg:=⟨dPl l,(dR (dN l 13)).map dEv,(dR (dN l 14)).map dCu,dI (dN l 15),(dR (dN l 16)).map fun r=>dI (dN r 0),dI (dN l 17)⟩
def afW(l:List bC):(l.map Qe).map dEv=l.map nl0:=by
 rw[zzcu];refine zzcr fun e _=>?_;show(⟨e.id,e.it,e.st,e.fr,e.i,e.re,(e.al.map Qf).map dSp,false⟩:bC)=nl0 e;rw[Qef DO];rfl
def OJ(g:Pg):dPg (Qm g)=dZ g:=by
 show(⟨dPl (Qa g.p),(g.ev.map Qe).map dEv,(g.cu.map Qk).map dCu,g.ed,(g.dr.map Qy).map (fun r=>dI (dN r 0)),g.ve⟩:Pg)=dZ g;rw[DP,afW,Qef (fun _=>rfl),Qef (fun _=>rfl)];rfl
def dOd(l:P2):Od:=⟨dI (dN l 0),dI (dN l 1),dI (dN l 2),dI (dN l 3),dI (dN l 4),dI (dN l 5),dEn (l.drop 6),dCl (l.drop 13),dCu (l.drop 21)⟩
def DQ(o:Od):dOd (Qq o)=o:=by
 show(⟨o.sq,o.ch,o.fr,o.ki,o.en,o.n,dEn (Qd o.nw),o.cl,o.cu⟩:Od)=o;rw[OH]
