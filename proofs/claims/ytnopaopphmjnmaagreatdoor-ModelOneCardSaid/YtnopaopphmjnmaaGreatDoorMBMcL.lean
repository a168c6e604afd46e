import Derived.Test.YtnopaopphmjnmaaGreatDoorMBMcH
set_option linter.all false
set_option maxRecDepth 100000
set_option maxHeartbeats 64000000
namespace Go.Proofs.YtnopaopphmjnmaaGreatDoor
open Go Go.Abs
def pP(g:Pg)(f:Int)(b:List (Int×Bool))(o:Od)(q:Pl)(d:Int):Option bE:=match Jg g f b with
 |none=>none
 |some e=>match iw g f o q d e with
  |none=>none
  |some F=>if F=0 then none else some ⟨e.id,e.it,f,F,e.i+(f-e.st),rj q f e.it F q.rg.toNat,jP q f e.id F ((Zf e.id q.ens).getD xM).al,decide (jP q f e.id F ((Zf e.id q.ens).getD xM).al=[])⟩
def RX(e:bE):bE:={e with nl:=false}
def Jz(g:Pg)(f:Int)(b:List (Int×Bool))(o:Od)(q:Pl)(d:Int):List bE:=(Ye f g.ev).map RX++(pP g f b o q d).toList
def Ki(g:Pg)(f:Int)(b:List (Int×Bool))(o:Od)(q:Pl)(d:Int):Int:=match pP g f b o q d with
 |none=>f
 |some e=>f+e.fr
def pQ(g:Pg)(f:Int)(b:List (Int×Bool))(o:Od)(q:Pl)(d:Int):List Ad:=RM (Jz g f b o q d) (Ki g f b o q d)
def sK(g:Pg)(f:Int)(b:List (Int×Bool))(o:Od)(q:Pl)(d:Int):List Bool:=Kn q (Ki g f b o q d) (pQ g f b o q d) (Jw g b q.ens)
def Yq(g:Pg)(f:Int)(b:List (Int×Bool))(o:Od)(q:Pl)(d:Int):List Sp:=(Ym q (Ki g f b o q d) (pQ g f b o q d) (Xb true (Jw g b q.ens) (sK g f b o q d))).getD []
def OA(g:Pg)(f:Int)(b:List (Int×Bool))(o:Od)(q:Pl)(d:Int):List Int:=Xb false (Jw g b q.ens) (sK g f b o q d)
def gV(g:Pg)(f:Int)(b:List (Int×Bool))(o:Od)(q:Pl)(d:Int):List bE:=jr q (Yq g f b o q d) (Ki g f b o q d)
def G9(l:List Sp):Iy l=.sl (uu l) (l.map Qe):=by
 unfold Iy uu;split
 ·rename_i h;rw[h];rfl
 rfl
def afU(l:List Int):G5 l=.sl (uu l) (l.map Xa):=by
 unfold G5 uu;split
 ·rename_i h;rw[h];rfl
 rfl
def yc(l:List bE):(l.map RX).map Zt=l.map Qf:=by
 rw[zzcs];exact zzdf fun e _=>rfl
def Bc(l:List bE):(l.map RX).map Qf=l.map Qf:=by
 rw[zzcs];exact zzdf fun e _=>rfl
def OB(g:Pg)(past:List Ad)(L:List Sp)(D:List Int)(bl:List bE):Nat->FuncId->List AV->AV:=fun dst fn l=>
 if fn=159 then .sl .ro (past.map Vi)else if fn=158 then .aV [.sl (uu L) (L.map Qe),.sl (uu D) (D.map Xa)]else if fn=62 then .sl .ro (bl.map Qf)
 else if fn=157 then(match l with|[_,.int _ id]=>.bool (decide (id∈g.dr))|_=>.junk)else if fn=999999 then(if dst=95\/dst=97 then .aK 0 []else .junk)else .gd false .junk
structure He (g:Pg) (f:Int) (b:List (Int×Bool)) (o:Od) (q:Pl) (d:Int):Prop where
 mo:lP g f
 pl:A3 q
 pk:PlK q
 d0:0<=d/\d<=1000000000
 rg:0<=q.rg/\q.rg<=8
 f0:0<=f/\f<=1000000
 ev:g.ev.length<=900
 dr:g.dr.length<=1000000
 ln:q.ln<=1000000
 cu:∀e,pP g f b o q d=some e->Ue e
 en:0<=Ki g f b o q d/\Ki g f b o q d<=1000000
 st:∀s∈Yq g f b o q d,-1000000000<=s.2/\s.2<=1000000000
def lg{g:Pg}{f:Int}{b:List (Int×Bool)}{o:Od}{q:Pl}{d:Int}(h:He g f b o q d):(Jz g f b o q d).length<=901/\∀e∈Jz g f b o q d,Ue e:=by
 have h1:=Qdc f g.ev;have h2:=nS f h.f0.2 g.ev h.mo.2.1;refine⟨?_,fun e he=>?_⟩
 ·have:=h.ev;have h3:(pP g f b o q d).toList.length<=1:=by cases pP g f b o q d<;>simp
  simp only[Jz,zzag,zzbe];omega
 rcases zzal.1 he with he|he
 ·obtain⟨x,hx,rfl⟩:=zzay.1 he;exact h2 x hx
 exact h.cu e (by cases hc:pP g f b o q d with
  |none=>rw[hc]at he;simp at he
  |some x=>rw[hc]at he;simp at he;rw[he])
def Z9{g:Pg}{f:Int}{b:List (Int×Bool)}{o:Od}{q:Pl}{d:Int}(h:He g f b o q d):(pQ g f b o q d).length<=901:=by
 have h1:=G4 (Ye (Ki g f b o q d) (Jz g f b o q d)) none [];have h2:=Qdc (Ki g f b o q d) (Jz g f b o q d);have h3:=(lg h).1;simp only[zzcf]at h1;unfold pQ RM;omega
def afV{g:Pg}{f:Int}{b:List (Int×Bool)}{o:Od}{q:Pl}{d:Int}(h:He g f b o q d)(ce:Rt):Pure Tryz.prog az 159 [.sl ce ((Jz g f b o q d).map Zt),I (Ki g f b o q d)] (.sl .ro ((pQ g f b o q d).map Vi)):=
 Zk (LJ (Jz g f b o q d) (Ki g f b o q d) (by have:=(lg h).1;omega) (lg h).2 h.en) ⟨Wk.trans (Wk.sl _ _) (KS _),Wk.refl _,trivial⟩
def afW{g:Pg}{f:Int}{b:List (Int×Bool)}{o:Od}{q:Pl}{d:Int}(h:He g f b o q d)(ci:Rt):
  Pure Tryz.prog az 158 [.agg (Qc q),.sl ci ((Jw g b q.ens).map Xa),I (Ki g f b o q d),.sl .ro ((pQ g f b o q d).map Vi)] (.aV [.sl (uu (Yq g f b o q d)) ((Yq g f b o q d).map Qe),.sl (uu (OA g f b o q d)) ((OA g f b o q d).map Xa)]):=by
 have h1:=jU g b q.ens;have h2:=h.pk.ens;have h3:=h.en;have:=Z3 h.pk (at_:=Ki g f b o q d) (by unfold amU;omega) (past:=pQ g f b o q d) (by have:=Z9 h;omega) (ids:=Jw g b q.ens) (by omega);rw[RT,G9,afU]at this;exact Zk this ⟨Wk.refl _,Wk.sl _ _,Wk.refl _,Wk.refl _,trivial⟩
def amY{g:Pg}{f:Int}{b:List (Int×Bool)}{o:Od}{q:Pl}{d:Int}(h:He g f b o q d)(hl:(Yq g f b o q d).length<=1000000)(rL:Rt):
  Pure Tryz.prog az 62 [.agg (Qc q),.sl rL ((Yq g f b o q d).map Qe),I (Ki g f b o q d)] (.sl .ro ((gV g f b o q d).map Qf)):=by
 obtain⟨q1,q2,q3,q4,q5,q6⟩:=h.pl;exact Zk (sk q (Yq g f b o q d) (Ki g f b o q d) (by omega) (by omega) (by omega) (by omega) q6 h.ln hl h.st) ⟨Wk.refl _,Wk.sl _ _,Wk.refl _,trivial⟩
open Go Go.Abs
def Di(ex dL:List (List AV))(a b c X:List AV):Qh (a::b::c::(ex++(dL++[X]))) (ex.length+(dL.length+3))=X:=by
 refine Qs ?_;have:a::b::c::(ex++(dL++[X]))=([a,b,c]++ex++dL)++[X]:=by simp
 rw[this,zzap (by simp;omega),show ex.length+(dL.length+3)-([a,b,c]++ex++dL).length=0 by simp;omega];rfl
def EvW.more{ml:List Nat}{rt:Rt}{n:Nat}(h:EvW ml rt n)(x:List Nat):EvW (ml++x) rt n:=by
 obtain h|⟨k,h1,h2⟩:=h
 ·exact .inl h
 exact .inr ⟨k,h1,by rw[zzah (zza.1 h2).1];exact h2⟩
def EvW.cv{ml:List Nat}{rt:Rt}{n:Nat}(h:EvW ml rt n):∃ce,sJ rt ce:=by
 obtain⟨rfl,_⟩|⟨k,rfl,_⟩:=h
 ·exact⟨_,sJ.nil⟩
 exact⟨_,sJ.own _ _⟩
def IdR.cv{ml ls:List Nat}{rt:Rt}{n:Nat}(h:IdR ml ls rt n):∃ci,sJ rt ci:=by
 obtain⟨rfl,_⟩|⟨rfl,_⟩:=h
 ·exact⟨_,sJ.nil⟩
 exact⟨_,sJ.own _ _⟩
def IdR.ls{ml ls:List Nat}{rt:Rt}{n:Nat}(h:IdR ml ls rt n):∃x,ls=ml++x:=by
 obtain⟨_,_,rfl⟩|⟨_,_,rfl⟩:=h
 ·exact⟨[],by simp⟩
 exact⟨_,rfl⟩
def RY(Y:YT)(m:AM)(g:Pg)(f:Int)(mid:Nat)(b:List (Int×Bool))(o:Od)(q:Pl)(d:Int)(h:He g f b o q d)(hb:fS m.boxes mid b)
  (rP:(Yq g f b o q d).length<=1000000)(iT:(gV g f b o q d).length<=10000000)(K:AV->AM->Prop)
  (
   hK:∀ex ls ke vd,gU m.boxes.length ⟨m.boxes++ex,ls,m.st,m.ln⟩ vd ((dd (Wj (g.dr++OA g f b o q d))).map Xa)->
   K (.aV [.sl (.own ke 7) ((Jz g f b o q d).map Zt++(gV g f b o q d).map Qf),vd]) ⟨m.boxes++ex,ls,m.st,m.ln⟩):
  an Tryz.prog az Y 77 [.agg (Qu g f mid),.agg (Qq o),.agg (Qc q++[I d])] m K:=by
 obtain⟨mb,ml,ms,mn⟩:=m;have hB:∀ex,fS (mb++ex) mid b:=fun ex=>⟨by have:=hb.1;simp at this |-;omega,hb.ext ex⟩;have afS:=fun ce=>afV h ce;have Z6:=fun ci=>afW h ci;have Z7:=fun rL=>amY h rP rL
 have hdl:(OA g f b o q d).length<=1000000:=by
  have h1:=pO false (Jw g b q.ens) (sK g f b o q d);have h2:=jU g b q.ens;have h3:=h.pk.ens;unfold OA;omega
 have cr:=(lg h).1;have hL:∀ev,Jz g f b o q d=ev->ev.length<=901:=fun ev he=>by rw[<- he];exact cr
 generalize hpast:pQ g f b o q d=past at*
 generalize hstart:Yq g f b o q d=L at*
 generalize hdrop:OA g f b o q d=D at*
 generalize hbld:gV g f b o q d=bl at*
 have tail:∀(E:List (Nat×AV))(X:List (List AV))(ls:List Nat)(rte:Rt)(Q:Exit->AS->Prop),Abs.look E 3=.ptr mb.length 0->Qh (mb++X) mb.length=Qu g f mid->2<X.length->
   Abs.look E 5=.ptr (mb.length+2) 0->Qh (mb++X) (mb.length+2)=Qc q++[I d]->Abs.look E 8=.sl rte ((Jz g f b o q d).map Zt)->EvW ls rte (Jz g f b o q d).length->Abs.look E 9=I (Ki g f b o q d)->
   (∀E' ex dn ke vd,Abs.look E' 6=.sl (.own ke 7) ((Jz g f b o q d).map Zt++bl.map Qf)->Abs.look E' 7=vd->gU mb.length ⟨mb++ex,dn,ms,mn⟩ vd ((dd (Wj (g.dr++D))).map Xa)->Q .ret ⟨Zi 103 E',⟨mb++ex,dn,ms,mn⟩⟩)->
   vc Tryz.prog az (OB g past L D bl) Y Oy ⟨Zi 103 E,⟨mb++X,ls,ms,mn⟩⟩ Q:=by
  intro E X ls rte Q e3 r3 hX e5 r5 e8 hw e9 hQ;refine Z8 Y _ (by simp[OB]) (by simp[OB]) E (mb++X) ls ms mn g f mid mb.length (mb.length+2) b q d Q (fun d id=>by simp[OB]) e3 (by simp;omega) r3 e5 (by simp;omega) r5 (hB X) h.dr (by have:=h.pk.ens;omega) ?_;intro E' ex rt dn hE qO aO;obtain⟨ci,hci⟩:=aO.cv;obtain⟨ce,hce⟩:=hw.cv;obtain⟨x,rfl⟩:=aO.ls
  refine Z5 Y _ (by simp[OB]) (by simp[OB]) (by simp[OB]) (fun _ _=>by simp[OB]) (fun _ _=>by simp[OB]) E' (mb++X++ex) (ls++x) ms mn g f mid mb.length (mb.length+2) q d rte ce rt ci (uu L) (uu D) (Jz g f b o q d) bl (Ki g f b o q d) (Jw g b q.ens) D L past Q
   (fun _ _=>by simp[OB]) (fun _ _=>by simp[OB]) (fun _ _=>by simp[OB]) (afS ce) (Z6 ci) (Z7 _) hce hci (LM L)
   ((hE 3 (by omega) (by omega)).trans e3) (by simp;omega) ((Ql (by simp;omega)).trans r3) ((hE 5 (by omega) (by omega)).trans e5) (by simp;omega) ((Ql (by simp;omega)).trans r5)
   ((hE 8 (by omega) (by omega)).trans e8) (hw.more x) ((hE 9 (by omega) (by omega)).trans e9) qO h.dr hdl (by omega) iT ?_
  intro E2 dL ls2 ke vd q1 q2 q3;replace q3:=q3.mono (n':=mb.length) (by simp);rw[zzbc,zzbc]at q3 |-
  exact hQ E2 _ ls2 ke vd q1 q2 q3
 obtain⟨hm,gq,EV,hd0,K0,hf0,axL,dX,dm,tM,Ip,bU⟩:=h;refine Xd akW (OB g past L D bl) (by simp) ?_;rw[afR];simp[asy,aoI,Qu,Qo,Qc,Qq,Qd,Qg,Qk,OB];refine xV Y _ g.ev f (by omega) hm.2.1 hf0 _ fun ex v ls hO=>?_;simp;have hbr:∀l:List bE,∀a∈l,(Qf a).length=7:=fun _ _ _=>rfl;have axM:(Ye f g.ev).length<=900:=by have:=Qdc f g.ev;omega
 refine afC Y _ g f mid b o q (.sl .ro (q.ens.map Qd)) .ro d (.inl ⟨.ro,rfl,C8.ro⟩) C8.ro hm (hB _) gq hd0 K0 _ (fun e F he hF qd dL ls2 v2 KR=>?_) (fun hn dL=>?_)
 ·have dw:pP g f b o q d=some ⟨e.id,e.it,f,F,e.i+(f-e.st),rj q f e.it F q.rg.toNat,jP q f e.id F ((Zf e.id q.ens).getD xM).al,decide (jP q f e.id F ((Zf e.id q.ens).getD xM).al=[])⟩:=by
   unfold pP;rw[he];simp only;rw[hF];simp only;rw[if_neg qd]
  have he1:Ki g f b o q d=f+F:=by unfold Ki;rw[dw]
  have hw:IntKind.i64.wrap (f+F)=f+F:=by rw[Qi]<;>omega
  have fc:(Jz g f b o q d).map Zt=(Ye f g.ev).map Qf++[[I e.id,I e.it,I f,I F,I (e.i+(f-e.st)),I (rj q f e.it F q.rg.toNat),.sl (if jP q f e.id F ((Zf e.id q.ens).getD xM).al=[]then .nil else .ro) ((jP q f e.id F ((Zf e.id q.ens).getD xM).al).map Qe)]]:=by
   unfold Jz;rw[dw,zzc,yc];simp[Zt]
  have amZ:(Jz g f b o q d).length=(Ye f g.ev).length+1:=by
   unfold Jz;rw[dw];simp
  rw[fc,amZ,he1]at tail;rw[fc]at hK;generalize jP q f e.id F ((Zf e.id q.ens).getD xM).al=A at*
  obtain⟨rfl,rfl,rfl⟩|⟨hA,rfl,rfl⟩:=KR
  ·obtain⟨h0,rfl,rfl⟩|⟨h0,rfl,rfl⟩:=hO
   ·rw[h0]at tail hK;simp[zzao,hw,Di ex dL];refine tail _ _ _ _ _ (by simp) (by simp[Qu,Qo,Qc]) (by simp) (by simp) (by simp[Qc]) (by simp;rfl) (.inr ⟨_,rfl,by simp⟩) (by simp) ?_;intro E' gT dn ke vd q1 q2 q3;have:=hK gT dn ke vd q3;simp[q1,q2]at this |-
    exact this
   skip
   simp[zzao,hw,Di ex dL];refine⟨⟨by rintro row (⟨a,_,rfl⟩|rfl)<;>rfl,by omega⟩,tail _ _ _ _ _ (by simp) (by simp[Qu,Qo,Qc]) (by simp) (by simp) (by simp[Qc]) (by simp;rfl) (.inr ⟨_,rfl,by simp⟩) (by simp) ?_⟩;intro E' gT dn ke vd q1 q2 q3;have:=hK gT dn ke vd q3;simp[q1,q2]at this |-
   exact this
  obtain⟨h0,rfl,rfl⟩|⟨h0,rfl,rfl⟩:=hO
  ·rw[h0]at tail hK;simp[zzao,hw,Di ex dL];refine tail _ _ _ (.own (ls.length+1) 7) _ (by simp) (by simp[Qu,Qo,Qc]) (by simp) (by simp) (by simp[Qc]) (by simp[hA]) (.inr ⟨_,rfl,by simp⟩) (by simp) ?_;intro E' gT dn ke vd q1 q2 q3;have:=hK gT dn ke vd q3;simp[q1,q2]at this |-
   exact this
  skip
  simp[zzao,hw,Di ex dL];refine⟨⟨by rintro row (⟨a,_,rfl⟩|rfl)<;>rfl,by omega⟩,tail _ _ _ (.own ml.length 7) _ (by simp) (by simp[Qu,Qo,Qc]) (by simp) (by simp) (by simp[Qc]) (by simp[hA]) (.inr ⟨_,rfl,by simp⟩) (by simp) ?_⟩;intro E' gT dn ke vd q1 q2 q3;have:=hK gT dn ke vd q3;simp[q1,q2]at this |-
  exact this
 have dw:pP g f b o q d=none:=by
  unfold pP;cases hp:Jg g f b with
  |none=>rfl
  |some e=>
   rw[hp]at hn;simp only[zzcz]at hn;obtain hn|hn:=hn
   ·simp only[hn]
   simp only[hn,if_true]
 have he1:Ki g f b o q d=f:=by unfold Ki;rw[dw]
 have fc:(Jz g f b o q d).map Zt=(Ye f g.ev).map Qf:=by
  unfold Jz;rw[dw,zzc,yc];simp
 have amZ:(Jz g f b o q d).length=(Ye f g.ev).length:=by
  unfold Jz;rw[dw];simp
 rw[fc,amZ,he1]at tail;rw[fc]at hK;obtain⟨h0,rfl,rfl⟩|⟨h0,rfl,rfl⟩:=hO
 ·rw[h0]at tail hK;simp[zzao,nN];refine tail _ _ _ .nil _ (by simp) (by simp[Qu,Qo,Qc]) (by simp) (by simp) (by simp[Qc]) (by simp) (.inl ⟨rfl,rfl⟩) (by simp) ?_;intro E' gT dn ke vd q1 q2 q3;have:=hK gT dn ke vd q3;simp[q1,q2]at this |-
  exact this
 simp[zzao,nN];refine tail _ _ _ (.own ml.length 7) _ (by simp) (by simp[Qu,Qo,Qc]) (by simp) (by simp) (by simp[Qc]) (by simp) (.inr ⟨_,rfl,by simp⟩) (by simp) ?_;intro E' gT dn ke vd q1 q2 q3;have:=hK gT dn ke vd q3;simp[q1,q2]at this |-
 exact this
open Go Go.Abs
def RZ(c:Cue)(l:List Cue):Option (List Cue):=if Wy c=true then(if 200<(gR c (!decide (c.to=0)) l).length then none else some (gR c (!decide (c.to=0)) l))else none
def aaa(c:Cue)(l:List Cue):mE c l=match RZ c l with
 |none=>.aV [.sl .nil [],I 150]
 |some x=>.aV [.sl (uu x) (x.map Qk),I 0]:=by
 unfold mE RZ uu;split
 ·split<;>rfl
 rfl
def yd(g:Pg)(o:Od)(b:List (Int×Bool))(q:Pl)(d:Int):Pg:=
 {g with p:=q,ev:=Jz g o.fr b o q d++gV g o.fr b o q d,dr:=dd (Wj (g.dr++OA g o.fr b o q d)),ve:=g.ve+1}
def Zq(g:Pg)(o:Od):Pg:=
 if Ll g o=false then{g with ve:=g.ve+1}
 else if o.ki=5 then(match RZ o.cu g.cu with
  |none=>{g with ve:=g.ve+1}
  |some x=>{g with cu:=x,ed:=o.fr,ve:=g.ve+1})
 else match Dg g o.fr (Yd o.fr g.ev []) o with
  |none=>{g with ve:=g.ve+1}
  |some (q,d)=>yd g o (Yd o.fr g.ev []) q d
structure R2 (g:Pg) (o:Od):Prop where
 pg:PgC g
 al:o.nw.al.length<=8796093022208
 ve:0<=g.ve/\g.ve<=1000000
 cu:g.cu.length<=1000000
 ch:Ll g o=true->o.ki≠5->afJ g o.fr o
 rn:Ll g o=true->o.ki≠5->∀q d,Dg g o.fr (Yd o.fr g.ev []) o=some (q,d)->He g o.fr (Yd o.fr g.ev []) o q d/\(Yq g o.fr (Yd o.fr g.ev []) o q d).length<=1000000/\(gV g o.fr (Yd o.fr g.ev []) o q d).length<=10000000
def fS.more{bx:List (List AV)}{mid:Nat}{b:List (Int×Bool)}(h:fS bx mid b)(x:List (List AV)):fS (bx++x) mid b:=⟨by have:=h.1;simp;omega,h.ext x⟩
def fS.awQ{a b c d d':List AV}{ex:List (List AV)}{mid:Nat}{bg:List (Int×Bool)}(h:fS (a::b::c::d::ex) mid bg)(hm:4<=mid)(x:List (List AV)):fS (a::b::c::d'::(ex++x)) mid bg:=by
 obtain⟨j,rfl⟩:∃j,mid=j+4:=⟨mid-4,by omega⟩;obtain⟨h1,h2⟩:=h;have hg:=Yz h1;rw[h2]at hg;simp only[zzdh]at hg;have hj:=(zza.1 hg).1;refine⟨by simp;omega,Qs ?_⟩;simp only[zzdh];rw[zzah hj,hg]
def cell_of{a:AV}(h:Qv a=true):cellsOf a=[a]:=by cases a<;>simp_all[Qv,cellsOf]
def afX{a:AV}(h:Qv a=true):bare a=true:=by cases a<;>simp_all[Qv,bare]
def am0(a b:List bE):Wk (.sl .ro (a.map Zt++b.map Qf)) (.sl .ro ((a++b).map Qf)):=by
 have h:a.map Zt++b.map Qf=(a++b.map RX).map Zt:=by rw[zzc,yc]
 have h2:(a++b).map Qf=(a++b.map RX).map Qf:=by rw[zzc,zzc,Bc]
 rw[h,h2];exact KS _
def am1(g:Pg)(o:Od)(h:R2 g o):∃re rc rd evr,Wk (.sl re evr) (.sl .ro ((Zq g o).ev.map Qf))/\
  Pure Tryz.prog az 37 [.agg (Qo g),.agg (Qq o)] (.agg (Qc (Zq g o).p++[.sl re evr,.sl rc ((Zq g o).cu.map Qk),I (Zq g o).ed,.sl rd ((Zq g o).dr.map Xa),I (Zq g o).ve])):=by
 obtain⟨hpg,ey,hve,tM,lF,oO⟩:=h;have k76:=Y6 g hpg;have k68:=GF g o ey;have CH:=RA g.cu o.cu tM;rw[aaa]at CH;simp only[Qo,Qc,Qq,Qd,Qg,Qk,zzae,zzai]at k76 k68 CH;have hw:IntKind.i64.wrap (g.ve+1)=g.ve+1:=by rw[Qi]<;>omega
 cases hc:Ll g o with
 |false=>
  have ha:Zq g o={g with ve:=g.ve+1}:=by unfold Zq;rw[if_pos hc]
  rw[ha];rw[hc]at k68;refine⟨.ro,.ro,.ro,g.ev.map Qf,Wk.refl _,Qn uA (fun _ f l=>if f=76 then l.headD .junk else if f=68 then .bool (Ll g o)else .gd false .junk) (by simp) ?_⟩;simp[Pm,Pn,Qo,Qc,Qq,Qd,Qg,Qk,hc,hw];exact⟨k76,k68⟩
 |true=>
  rw[hc]at k68;by_cases h5:o.ki=5
  ·rw[h5]at k68;cases he:RZ o.cu g.cu with
   |none=>
    have ha:Zq g o={g with ve:=g.ve+1}:=by unfold Zq;rw[if_neg (by rw[hc];decide),if_pos h5,he]
    rw[ha];rw[he]at CH;refine⟨.ro,.ro,.ro,g.ev.map Qf,Wk.refl _,Qn uA (fun _ f l=>if f=76 then l.headD .junk else if f=68 then .bool true else if f=69 then .aV [.sl .nil [],I 150]else .gd false .junk) (by simp) ?_⟩;simp[Pm,Pn,Qo,Qc,Qq,Qd,Qg,Qk,hw,h5];exact⟨k76,k68,CH⟩
   |some x=>
    have ha:Zq g o={g with cu:=x,ed:=o.fr,ve:=g.ve+1}:=by unfold Zq;rw[if_neg (by rw[hc];decide),if_pos h5,he]
    rw[ha];rw[he]at CH;have hcx:=LM x;have am2:=fun m d y=>hcx m d y;refine⟨.ro,uu x,.ro,g.ev.map Qf,Wk.refl _,Qn uA (fun _ f l=>if f=76 then l.headD .junk else if f=68 then .bool true else if f=69 then .aV [.sl (uu x) (x.map Qk),I 0]else .gd false .junk) (by simp) ?_⟩;simp[Pm,Pn,Qo,Qc,Qq,Qd,Qg,Qk,hw,h5];refine⟨k76,k68,CH,Za ?_⟩;simp[am2]
  have lF:=lF hc h5;have oO:=oO hc h5;cases hx:Dg g o.fr (Yd o.fr g.ev []) o with
  |none=>
   have ha:Zq g o={g with ve:=g.ve+1}:=by unfold Zq;rw[if_neg (by rw[hc];decide),if_neg h5,hx]
   rw[ha];refine⟨.ro,.ro,.ro,g.ev.map Qf,Wk.refl _,Qn uA (fun _ f l=>if f=76 then l.headD .junk else if f=68 then .bool true else .gd false .junk) (by simp) ?_⟩;simp[Pm,Pn,Qo,Qc,Qq,Qd,Qg,Qk,hw,h5];refine⟨k76,k68,?_⟩;refine Ba Y0 _ g o.fr (by have:=hpg.2.1;omega) _ fun ex mid hex V7 gi=>?_;simp[Qu,Qo,Qc,zzao];refine Ou Y0 _ g o.fr mid (Yd o.fr g.ev []) o lF ?_ ?_ _ ?_
   ·have:=fun x=>fS.more gi x;simp only[zzae,zzai]at this;exact this _
   ·intro c hc;simp only[zzau,zzal,zzdq,or_false]at hc;obtain rfl|rfl|rfl|rfl|hc|rfl:=hc
    ·exact jR.of (by simp) rfl
    ·exact jR.of (by simp) rfl
    ·exact jR.of (by simp) rfl
    ·exact jR.of (by simp) rfl
    ·exact hex c hc
    exact jR.mo g o.fr mid
   rw[hx];simp[afL,amR]
  |some r=>
   obtain⟨q,d⟩:=r;obtain⟨hR,rP,iT⟩:=oO q d hx;have ha:Zq g o=yd g o (Yd o.fr g.ev []) q d:=by unfold Zq;rw[if_neg (by rw[hc];decide),if_neg h5,hx]
   rw[ha];refine⟨.ro,.ro,uu ((yd g o (Yd o.fr g.ev []) q d).dr.map Xa),(Jz g o.fr (Yd o.fr g.ev []) o q d).map Zt++(gV g o.fr (Yd o.fr g.ev []) o q d).map Qf,am0 _ _,Qn uA (fun _ f l=>if f=76 then l.headD .junk else if f=68 then .bool true else .gd false .junk) (by simp) ?_⟩;simp[Pm,Pn,Qo,Qc,Qq,Qd,Qg,Qk,hw,h5];refine⟨k76,k68,?_⟩;refine Ba Y0 _ g o.fr (by have:=hpg.2.1;omega) _ fun ex mid hex V7 gi=>?_;simp[Qu,Qo,Qc,zzao];have Cd:=fun x=>fS.more gi x;simp only[zzae,zzai]at Cd
   refine Ou Y0 _ g o.fr mid (Yd o.fr g.ev []) o lF (Cd _) (by
    intro c hc;simp only[zzau,zzal,zzdq,or_false]at hc;obtain rfl|rfl|rfl|rfl|hc|rfl:=hc
    ·exact jR.of (by simp) rfl
    ·exact jR.of (by simp) rfl
    ·exact jR.of (by simp) rfl
    ·exact jR.of (by simp) rfl
    ·exact hex c hc
    exact jR.mo g o.fr mid) _ ?_
   rw[hx];simp[afL,Qc,zzao];refine RY Y0 _ g o.fr mid (Yd o.fr g.ev []) o q d hR (fS.awQ (by simpa using Cd []) (by simpa using V7) _) rP iT _ fun dL ls ke vd hv=>?_;have fh:=hv.1;have B7:=cell_of fh;have hc3:=afX fh;simp[zzao,fh,B7,hc3];refine⟨by omega,by omega,rfl,rfl,rfl,rfl,rfl,rfl,rfl,rfl,rfl,rfl,rfl,rfl,rfl,rfl,rfl,?_,?_⟩
   ·refine hv.2 _ (by simp) (fun j h1 h2=>?_) _;simp at h1;obtain⟨i,rfl⟩:∃i,j=i+4:=⟨j-4,by omega⟩;simp
   rfl
def LO(g:Pg)(o:Od)(h:R2 g o):Pure Tryz.prog az 37 [.agg (Qo g),.agg (Qq o)] (.agg (Qo (Zq g o))):=by
 obtain⟨re,rc,rd,evr,hw,hp⟩:=am1 g o h;refine Qy hp ?_;unfold Qo;simp only[Qc,zzae,zzai];refine Qdg ?_;exact⟨Wk.refl _,Wk.refl _,Wk.refl _,Wk.refl _,Wk.refl _,Wk.refl _,Wk.refl _,Wk.refl _,Wk.refl _,Wk.refl _,Wk.refl _,Wk.refl _,Wk.refl _,hw,Wk.sl _ _,Wk.refl _,Wk.sl _ _,Wk.refl _,trivial⟩
open Go Go.Abs
def LP{l l':List AV}(h:WkL l l'):Wk (.aV l) (.aV l'):=fun w γ v hr=>by
 have key:∀{l l':List AV},WkL l l'->l.length=l'.length/\∀(i:Nat)(c':AV),l'[i]?=some c'->∃c,l[i]?=some c/\Wk c c':=by
  intro l;induction l with
  |nil=>intro l' h;cases l' with
   |nil=>exact⟨rfl,fun i c' h=>by simp at h⟩
   |cons _ _=>exact h.elim
  |cons a l ih=>intro l' h;cases l' with
   |nil=>exact h.elim
   |cons b l'=>
    obtain⟨h1,h2⟩:=ih h.2;refine⟨by simp[h1],fun i c' hc=>?_⟩;cases i with
    |zero=>simp at hc;subst hc;exact⟨a,rfl,h.1⟩
    |succ i=>simpa using h2 i c' (by simpa using hc)
 obtain⟨h1,h2⟩:=key h;cases hr with
 |aV hl hc=>
  refine .aV (by omega) fun i c' v p5 hv=>?_;obtain⟨c,g1,g2⟩:=h2 i c' p5;exact g2 _ _ _ (hc i c v g1 hv)
def pl0:Pl:=⟨0,0,0,0,[],0,0,0,0,[],[],[],[]⟩
def pg0:Pg:=⟨pl0,[],[],0,[],0⟩
def IB(p:Pl):Option (List Sp):=if sy p=false then none else Jh p (Uc p) [] [] 0 (-1)
def yf(p:Pl):Pg:=match IB p with
 |none=>pg0
 |some l=>⟨p,jr p l 0,[],0,[],0⟩
def Hf(p:Pl):List Int:=if sy p=false then[]else match IB p with
 |none=>nJ (Iw p) (Uc p)
 |some _=>[]
def Be(p:Pl):Int:=if sy p=false then 80 else match IB p with
 |none=>90
 |some _=>0
def asH{V X Y:AV}{p:Pl}{ev:List bE}{cu:List Cue}{dr:List Int}{ed ve:Int}(h1:Wk V (.sl .ro (ev.map Qf)))(h2:Wk X (.sl .ro (cu.map Qk)))(h3:Wk Y (.sl .ro (dr.map Xa))):
  Wk (.agg (Qc p++[V,X,I ed,Y,I ve])) (.agg (Qo ⟨p,ev,cu,ed,dr,ve⟩)):=by
 unfold Qo;simp only[Qc,zzae,zzai];exact Qdg ⟨Wk.refl _,Wk.refl _,Wk.refl _,Wk.refl _,Wk.refl _,Wk.refl _,Wk.refl _,Wk.refl _,Wk.refl _,Wk.refl _,Wk.refl _,Wk.refl _,Wk.refl _,h1,h2,Wk.refl _,h3,Wk.refl _,trivial⟩
def aab:Wk (.agg iu) (.agg (Qo pg0)):=by
 unfold iu pg0 pl0 Qo;simp only[Qc,zzae,zzai,zzce];exact Qdg ⟨Wk.refl _,Wk.refl _,Wk.refl _,Wk.refl _,Wk.sl _ _,Wk.refl _,Wk.refl _,Wk.refl _,Wk.refl _,Wk.sl _ _,Wk.sl _ _,Wk.sl _ _,Wk.sl _ _,Wk.sl _ _,Wk.sl _ _,Wk.refl _,Wk.sl _ _,Wk.refl _,trivial⟩
def LQ(p:Pl)(hp:A3 p)(dm:p.ln<=1000000)(S5:∀e∈p.ens,e.ea<=9223372036854775807)(hl:∀l,IB p=some l->l.length<=1000000/\∀s∈l,-1000000000<=s.2/\s.2<=1000000000):
  Pure Tryz.prog az 31 [.agg (Qc p)] (.aV [.agg (Qo (yf p)),.sl .ro ((Hf p).map Xa),I (Be p)]):=by
 obtain⟨h1,h2,h3,h4,h5,h6⟩:=hp;have k60:=Rk p ⟨by omega,by omega,by omega,by omega,by omega,h6⟩ h5 (by omega) (by omega) S5;have k61:=pH p ⟨h1,h2,h3,h4,h5,h6⟩;by_cases hv:sy p=false
 ·have hr:Rj p=.aV [.sl .nil [],.sl .nil [],I 80]:=by unfold Rj;rw[if_pos hv]
  have hb:IB p=none:=by unfold IB;rw[if_pos hv]
  have hg:yf p=pg0:=by unfold yf;rw[hb]
  have hc:Hf p=[]:=by unfold Hf;rw[if_pos hv]
  have he:Be p=80:=by unfold Be;rw[if_pos hv]
  rw[hr]at k60;rw[hg,hc,he];simp only[Qc]at k60
  have:Pure Tryz.prog az 31 [.agg (Qc p)] (.aV [.agg iu,.sl .nil [],I 80]):=by
   refine Qn IE (fun _ f _=>if f=60 then .aV [.sl .nil [],.sl .nil [],I 80]else .junk) (by simp) ?_;simp[abu,abv,Qc,iu];exact k60
  exact Qy this (LP ⟨aab,Wk.sl _ _,Wk.refl _,trivial⟩)
 cases hx:Jh p (Uc p) [] [] 0 (-1)with
 |none=>
  have hr:Rj p=.aV [.sl .nil [],.sl .ro ((nJ (Iw p) (Uc p)).map Xa),I 90]:=by unfold Rj;rw[if_neg hv,hx]
  have hb:IB p=none:=by unfold IB;rw[if_neg hv,hx]
  have hg:yf p=pg0:=by unfold yf;rw[hb]
  have hc:Hf p=nJ (Iw p) (Uc p):=by unfold Hf;rw[if_neg hv,hb]
  have he:Be p=90:=by unfold Be;rw[if_neg hv,hb]
  rw[hr]at k60;rw[hg,hc,he];simp only[Qc]at k60
  have:Pure Tryz.prog az 31 [.agg (Qc p)] (.aV [.agg iu,.sl .ro ((nJ (Iw p) (Uc p)).map Xa),I 90]):=by
   refine Qn IE (fun _ f _=>if f=60 then .aV [.sl .nil [],.sl .ro ((nJ (Iw p) (Uc p)).map Xa),I 90]else .junk) (by simp) ?_;simp[abu,abv,Qc,iu];exact k60
  exact Qy this (LP ⟨aab,Wk.refl _,Wk.refl _,trivial⟩)
 |some l=>
  have hr:Rj p=.aV [Iy l,.sl .nil [],I 0]:=by unfold Rj;rw[if_neg hv,hx]
  have hb:IB p=some l:=by unfold IB;rw[if_neg hv,hx]
  have hg:yf p=⟨p,jr p l 0,[],0,[],0⟩:=by unfold yf;rw[hb]
  have hc:Hf p=[]:=by unfold Hf;rw[if_neg hv,hb]
  have he:Be p=0:=by unfold Be;rw[if_neg hv,hb]
  obtain⟨dZ,Az⟩:=hl l hb;rw[hr,G9]at k60;rw[hg,hc,he];have hcx:=LM l;have am2:=fun m d y=>hcx m d y;have Z7:=Zk (sk p l 0 h5 (by omega) (by omega) (by omega) h6 dm dZ Az) (l:=[.agg (Qc p),.sl (uu l) (l.map Qe),I 0]) ⟨Wk.refl _,Wk.sl _ _,Wk.refl _,trivial⟩;simp only[Qc]at k60 k61 Z7
  have:Pure Tryz.prog az 31 [.agg (Qc p)] (.aV [.agg (Qc p++[.sl .ro ((jr p l 0).map Qf),.sl .nil [],I 0,.sl .nil [],I 0]),.sl .nil [],I 0]):=by
   refine Qn IE (fun _ f x=>if f=60 then .aV [.sl (uu l) (l.map Qe),.sl .nil [],I 0]else if f=61 then x.headD .junk else if f=62 then .sl .ro ((jr p l 0).map Qf)else .junk) (by simp) ?_;simp[abu,abv,Qc,am2];exact⟨k60,k61,Z7⟩
  exact Qy this (LP ⟨asH (Wk.refl _) (Wk.sl _ _) (Wk.sl _ _),Wk.sl _ _,Wk.refl _,trivial⟩)
end Go.Proofs.YtnopaopphmjnmaaGreatDoor
