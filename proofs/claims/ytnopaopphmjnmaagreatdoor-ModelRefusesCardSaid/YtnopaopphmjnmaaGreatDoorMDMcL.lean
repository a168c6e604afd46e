import Derived.Test.YtnopaopphmjnmaaGreatDoorMDMcH
set_option linter.all false
set_option maxRecDepth 100000
set_option maxHeartbeats 64000000
namespace Go.Proofs.YtnopaopphmjnmaaGreatDoor
open Go Go.Abs
def pZ(g:Pg)(f:Int)(b:List (Int×Bool))(o:Od)(q:Pl)(d:Int):Option bD:=match Jh g f b with
 |none=>none
 |some e=>match iF g f o q d e with
  |none=>none
  |some F=>if F=0 then none else some ⟨e.id,e.it,f,F,e.i+(f-e.st),rH q f e.it F q.rg.toNat,jT q f e.id F ((Zf e.id q.ens).getD xZ).al,decide (jT q f e.id F ((Zf e.id q.ens).getD xZ).al=[])⟩
def Sj(e:bD):bD:={e with nl:=false}
def Jy(g:Pg)(f:Int)(b:List (Int×Bool))(o:Od)(q:Pl)(d:Int):List bD:=(Ye f g.ev).map Sj++(pZ g f b o q d).toList
def Kh(g:Pg)(f:Int)(b:List (Int×Bool))(o:Od)(q:Pl)(d:Int):Int:=match pZ g f b o q d with
 |none=>f
 |some e=>f+e.fr
def p5(g:Pg)(f:Int)(b:List (Int×Bool))(o:Od)(q:Pl)(d:Int):List Ad:=Sd (Jy g f b o q d) (Kh g f b o q d)
def sY(g:Pg)(f:Int)(b:List (Int×Bool))(o:Od)(q:Pl)(d:Int):List Bool:=Kn q (Kh g f b o q d) (p5 g f b o q d) (Jv g b q.ens)
def Yq(g:Pg)(f:Int)(b:List (Int×Bool))(o:Od)(q:Pl)(d:Int):List Sp:=(Yn q (Kh g f b o q d) (p5 g f b o q d) (Xc true (Jv g b q.ens) (sY g f b o q d))).getD []
def OY(g:Pg)(f:Int)(b:List (Int×Bool))(o:Od)(q:Pl)(d:Int):List Int:=Xc false (Jv g b q.ens) (sY g f b o q d)
def gZ(g:Pg)(f:Int)(b:List (Int×Bool))(o:Od)(q:Pl)(d:Int):List bD:=jx q (Yq g f b o q d) (Kh g f b o q d)
def Hq(l:List Sp):II l=.sl (uI l) (l.map Qe):=by
 unfold II uI;split
 ·rename_i h;rw[h];rfl
 rfl
def agE(l:List Int):Hr l=.sl (uI l) (l.map Qy):=by
 unfold Hr uI;split
 ·rename_i h;rw[h];rfl
 rfl
def yo(l:List bD):(l.map Sj).map Zq=l.map Qf:=by
 rw[zzct];exact zzdd fun e _=>rfl
def Br(l:List bD):(l.map Sj).map Qf=l.map Qf:=by
 rw[zzct];exact zzdd fun e _=>rfl
def OZ(g:Pg)(past:List Ad)(L:List Sp)(D:List Int)(bl:List bD):Nat->FuncId->List AV->AV:=fun dst fn l=>
 if fn=159 then .sl .ro (past.map Vh)else if fn=158 then .aU [.sl (uI L) (L.map Qe),.sl (uI D) (D.map Qy)]else if fn=62 then .sl .ro (bl.map Qf)
 else if fn=157 then(match l with|[_,.int _ id]=>.bool (decide (id∈g.dr))|_=>.junk)else if fn=999999 then(if dst=95\/dst=97 then .aK 0 []else .junk)else .gd false .junk
structure Hs (g:Pg) (f:Int) (b:List (Int×Bool)) (o:Od) (q:Pl) (d:Int):Prop where
 mo:lS g f
 pl:Bh q
 pk:PlK q
 d0:0<=d/\d<=1000000000
 rg:0<=q.rg/\q.rg<=8
 f0:0<=f/\f<=1000000
 ev:g.ev.length<=900
 dr:g.dr.length<=1000000
 ln:q.ln<=1000000
 cu:∀e,pZ g f b o q d=some e->Uf e
 en:0<=Kh g f b o q d/\Kh g f b o q d<=1000000
 st:∀s∈Yq g f b o q d,-1000000000<=s.2/\s.2<=1000000000
def lC{g:Pg}{f:Int}{b:List (Int×Bool)}{o:Od}{q:Pl}{d:Int}(h:Hs g f b o q d):(Jy g f b o q d).length<=901/\∀e∈Jy g f b o q d,Uf e:=by
 have h1:=Qde f g.ev;have h2:=nX f h.f0.2 g.ev h.mo.2.1;refine⟨?_,fun e he=>?_⟩
 ·have:=h.ev;have h3:(pZ g f b o q d).toList.length<=1:=by cases pZ g f b o q d<;>simp
  simp only[Jy,zzai,zzbg];omega
 rcases zzap.1 he with he|he
 ·obtain⟨x,hx,rfl⟩:=zzaw.1 he;exact h2 x hx
 exact h.cu e (by cases hc:pZ g f b o q d with
  |none=>rw[hc]at he;simp at he
  |some x=>rw[hc]at he;simp at he;rw[he])
def aaC{g:Pg}{f:Int}{b:List (Int×Bool)}{o:Od}{q:Pl}{d:Int}(h:Hs g f b o q d):(p5 g f b o q d).length<=901:=by
 have h1:=Hj (Ye (Kh g f b o q d) (Jy g f b o q d)) none [];have h2:=Qde (Kh g f b o q d) (Jy g f b o q d);have h3:=(lC h).1;simp only[zzcf]at h1;unfold p5 Sd;omega
def agF{g:Pg}{f:Int}{b:List (Int×Bool)}{o:Od}{q:Pl}{d:Int}(h:Hs g f b o q d)(ce:Rt):Pure Tryz.prog aq 159 [.sl ce ((Jy g f b o q d).map Zq),I (Kh g f b o q d)] (.sl .ro ((p5 g f b o q d).map Vh)):=
 Zj (Mb (Jy g f b o q d) (Kh g f b o q d) (by have:=(lC h).1;omega) (lC h).2 h.en) ⟨Wk.trans (Wk.sl _ _) (K8 _),Wk.refl _,trivial⟩
def agG{g:Pg}{f:Int}{b:List (Int×Bool)}{o:Od}{q:Pl}{d:Int}(h:Hs g f b o q d)(ci:Rt):
  Pure Tryz.prog aq 158 [.agg (Qc q),.sl ci ((Jv g b q.ens).map Qy),I (Kh g f b o q d),.sl .ro ((p5 g f b o q d).map Vh)] (.aU [.sl (uI (Yq g f b o q d)) ((Yq g f b o q d).map Qe),.sl (uI (OY g f b o q d)) ((OY g f b o q d).map Qy)]):=by
 have h1:=jX g b q.ens;have h2:=h.pk.ens;have h3:=h.en;have:=aaD h.pk (at_:=Kh g f b o q d) (by unfold an9;omega) (past:=p5 g f b o q d) (by have:=aaC h;omega) (ids:=Jv g b q.ens) (by omega);rw[Sk,Hq,agE]at this;exact Zj this ⟨Wk.refl _,Wk.sl _ _,Wk.refl _,Wk.refl _,trivial⟩
def aoa{g:Pg}{f:Int}{b:List (Int×Bool)}{o:Od}{q:Pl}{d:Int}(h:Hs g f b o q d)(hl:(Yq g f b o q d).length<=1000000)(rL:Rt):
  Pure Tryz.prog aq 62 [.agg (Qc q),.sl rL ((Yq g f b o q d).map Qe),I (Kh g f b o q d)] (.sl .ro ((gZ g f b o q d).map Qf)):=by
 obtain⟨q1,q2,q3,q4,q5,q6⟩:=h.pl;exact Zj (sH q (Yq g f b o q d) (Kh g f b o q d) (by omega) (by omega) (by omega) (by omega) q6 h.ln hl h.st) ⟨Wk.refl _,Wk.sl _ _,Wk.refl _,trivial⟩
open Go Go.Abs
def DA(ex eD:List (List AV))(a b c X:List AV):Qh (a::b::c::(ex++(eD++[X]))) (ex.length+(eD.length+3))=X:=by
 refine Qr ?_;have:a::b::c::(ex++(eD++[X]))=([a,b,c]++ex++eD)++[X]:=by simp
 rw[this,zzal (by simp;omega),show ex.length+(eD.length+3)-([a,b,c]++ex++eD).length=0 by simp;omega];rfl
def EvW.more{ml:List Nat}{rt:Rt}{n:Nat}(h:EvW ml rt n)(x:List Nat):EvW (ml++x) rt n:=by
 obtain h|⟨k,h1,h2⟩:=h
 ·exact .inl h
 exact .inr ⟨k,h1,by rw[zzag (zza.1 h2).1];exact h2⟩
def EvW.cv{ml:List Nat}{rt:Rt}{n:Nat}(h:EvW ml rt n):∃ce,sX rt ce:=by
 obtain⟨rfl,_⟩|⟨k,rfl,_⟩:=h
 ·exact⟨_,sX.nil⟩
 exact⟨_,sX.own _ _⟩
def IdR.cv{ml ls:List Nat}{rt:Rt}{n:Nat}(h:IdR ml ls rt n):∃ci,sX rt ci:=by
 obtain⟨rfl,_⟩|⟨rfl,_⟩:=h
 ·exact⟨_,sX.nil⟩
 exact⟨_,sX.own _ _⟩
def IdR.ls{ml ls:List Nat}{rt:Rt}{n:Nat}(h:IdR ml ls rt n):∃x,ls=ml++x:=by
 obtain⟨_,_,rfl⟩|⟨_,_,rfl⟩:=h
 ·exact⟨[],by simp⟩
 exact⟨_,rfl⟩
def Sl(Y:YT)(m:AM)(g:Pg)(f:Int)(mid:Nat)(b:List (Int×Bool))(o:Od)(q:Pl)(d:Int)(h:Hs g f b o q d)(hb:fW m.boxes mid b)
  (r8:(Yq g f b o q d).length<=1000000)(iY:(gZ g f b o q d).length<=10000000)(K:AV->AM->Prop)
  (
   hK:∀ex ls ke vd,gY m.boxes.length ⟨m.boxes++ex,ls,m.st,m.ln⟩ vd ((dd (Wl (g.dr++OY g f b o q d))).map Qy)->
   K (.aU [.sl (.own ke 7) ((Jy g f b o q d).map Zq++(gZ g f b o q d).map Qf),vd]) ⟨m.boxes++ex,ls,m.st,m.ln⟩):
  an Tryz.prog aq Y 77 [.agg (Qu g f mid),.agg (Qp o),.agg (Qc q++[I d])] m K:=by
 obtain⟨mb,ml,ms,mn⟩:=m;have hB:∀ex,fW (mb++ex) mid b:=fun ex=>⟨by have:=hb.1;simp at this |-;omega,hb.ext ex⟩;have agC:=fun ce=>agF h ce;have aaA:=fun ci=>agG h ci;have k62:=fun rL=>aoa h r8 rL
 have hdl:(OY g f b o q d).length<=1000000:=by
  have h1:=p6 false (Jv g b q.ens) (sY g f b o q d);have h2:=jX g b q.ens;have h3:=h.pk.ens;unfold OY;omega
 have cA:=(lC h).1;have hL:∀ev,Jy g f b o q d=ev->ev.length<=901:=fun ev he=>by rw[<- he];exact cA
 generalize hpast:p5 g f b o q d=past at*
 generalize hstart:Yq g f b o q d=L at*
 generalize hdrop:OY g f b o q d=D at*
 generalize hbld:gZ g f b o q d=bl at*
 have tail:∀(E:List (Nat×AV))(X:List (List AV))(ls:List Nat)(rte:Rt)(Q:Exit->AS->Prop),Abs.look E 3=.ptr mb.length 0->Qh (mb++X) mb.length=Qu g f mid->2<X.length->
   Abs.look E 5=.ptr (mb.length+2) 0->Qh (mb++X) (mb.length+2)=Qc q++[I d]->Abs.look E 8=.sl rte ((Jy g f b o q d).map Zq)->EvW ls rte (Jy g f b o q d).length->Abs.look E 9=I (Kh g f b o q d)->
   (∀E' ex dg ke vd,Abs.look E' 6=.sl (.own ke 7) ((Jy g f b o q d).map Zq++bl.map Qf)->Abs.look E' 7=vd->gY mb.length ⟨mb++ex,dg,ms,mn⟩ vd ((dd (Wl (g.dr++D))).map Qy)->Q .ret ⟨Zb 103 E',⟨mb++ex,dg,ms,mn⟩⟩)->
   vc Tryz.prog aq (OZ g past L D bl) Y OW ⟨Zb 103 E,⟨mb++X,ls,ms,mn⟩⟩ Q:=by
  intro E X ls rte Q e3 r3 hX e5 r5 e8 hw e9 hQ;refine aaB Y _ (by simp[OZ]) (by simp[OZ]) E (mb++X) ls ms mn g f mid mb.length (mb.length+2) b q d Q (fun d id=>by simp[OZ]) e3 (by simp;omega) r3 e5 (by simp;omega) r5 (hB X) h.dr (by have:=h.pk.ens;omega) ?_;intro E' ex rt dg hE qZ aO;obtain⟨ci,hci⟩:=aO.cv;obtain⟨ce,hce⟩:=hw.cv;obtain⟨x,rfl⟩:=aO.ls
  refine aaz Y _ (by simp[OZ]) (by simp[OZ]) (by simp[OZ]) (fun _ _=>by simp[OZ]) (fun _ _=>by simp[OZ]) E' (mb++X++ex) (ls++x) ms mn g f mid mb.length (mb.length+2) q d rte ce rt ci (uI L) (uI D) (Jy g f b o q d) bl (Kh g f b o q d) (Jv g b q.ens) D L past Q
   (fun _ _=>by simp[OZ]) (fun _ _=>by simp[OZ]) (fun _ _=>by simp[OZ]) (agC ce) (aaA ci) (k62 _) hce hci (Mc L)
   ((hE 3 (by omega) (by omega)).trans e3) (by simp;omega) ((Ql (by simp;omega)).trans r3) ((hE 5 (by omega) (by omega)).trans e5) (by simp;omega) ((Ql (by simp;omega)).trans r5)
   ((hE 8 (by omega) (by omega)).trans e8) (hw.more x) ((hE 9 (by omega) (by omega)).trans e9) qZ h.dr hdl (by omega) iY ?_
  intro E2 eD ls2 ke vd q1 q2 q3;replace q3:=q3.mono (n':=mb.length) (by simp);rw[zzba,zzba]at q3 |-
  exact hQ E2 _ ls2 ke vd q1 q2 q3
 obtain⟨hm,gC,Fb,hd0,Ou,hf0,azw,dZ,dx,ud,Iy,cc⟩:=h;refine Xe al9 (OZ g past L D bl) (by simp) ?_;rw[agB];simp[at4,aqb,Qu,Qo,Qc,Qp,Qd,Qg,Qj,OZ];refine yd Y _ g.ev f (by omega) hm.2.1 hf0 _ fun ex v ls hO=>?_;simp;have hbr:∀l:List bD,∀a∈l,(Qf a).length=7:=fun _ _ _=>rfl;have azx:(Ye f g.ev).length<=900:=by have:=Qde f g.ev;omega
 refine agn Y _ g f mid b o q (.sl .ro (q.ens.map Qd)) .ro d (.inl ⟨.ro,rfl,Dq.ro⟩) Dq.ro hm (hB _) gC hd0 Ou _ (fun e F he hF qq eD ls2 v2 F7=>?_) (fun hn eD=>?_)
 ·have dz:pZ g f b o q d=some ⟨e.id,e.it,f,F,e.i+(f-e.st),rH q f e.it F q.rg.toNat,jT q f e.id F ((Zf e.id q.ens).getD xZ).al,decide (jT q f e.id F ((Zf e.id q.ens).getD xZ).al=[])⟩:=by
   unfold pZ;rw[he];simp only;rw[hF];simp only;rw[if_neg qq]
  have he1:Kh g f b o q d=f+F:=by unfold Kh;rw[dz]
  have hw:IntKind.i64.wrap (f+F)=f+F:=by rw[Qk]<;>omega
  have fB:(Jy g f b o q d).map Zq=(Ye f g.ev).map Qf++[[I e.id,I e.it,I f,I F,I (e.i+(f-e.st)),I (rH q f e.it F q.rg.toNat),.sl (if jT q f e.id F ((Zf e.id q.ens).getD xZ).al=[]then .nil else .ro) ((jT q f e.id F ((Zf e.id q.ens).getD xZ).al).map Qe)]]:=by
   unfold Jy;rw[dz,zzbw,yo];simp[Zq]
  have aob:(Jy g f b o q d).length=(Ye f g.ev).length+1:=by
   unfold Jy;rw[dz];simp
  rw[fB,aob,he1]at tail;rw[fB]at hK;generalize jT q f e.id F ((Zf e.id q.ens).getD xZ).al=A at*
  obtain⟨rfl,rfl,rfl⟩|⟨hA,rfl,rfl⟩:=F7
  ·obtain⟨h0,rfl,rfl⟩|⟨h0,rfl,rfl⟩:=hO
   ·rw[h0]at tail hK;simp[zzao,hw,DA ex eD];refine tail _ _ _ _ _ (by simp) (by simp[Qu,Qo,Qc]) (by simp) (by simp) (by simp[Qc]) (by simp;rfl) (.inr ⟨_,rfl,by simp⟩) (by simp) ?_;intro E' gX dg ke vd q1 q2 q3;have:=hK gX dg ke vd q3;simp[q1,q2]at this |-
    exact this
   skip
   simp[zzao,hw,DA ex eD];refine⟨⟨by rintro row (⟨a,_,rfl⟩|rfl)<;>rfl,by omega⟩,tail _ _ _ _ _ (by simp) (by simp[Qu,Qo,Qc]) (by simp) (by simp) (by simp[Qc]) (by simp;rfl) (.inr ⟨_,rfl,by simp⟩) (by simp) ?_⟩;intro E' gX dg ke vd q1 q2 q3;have:=hK gX dg ke vd q3;simp[q1,q2]at this |-
   exact this
  obtain⟨h0,rfl,rfl⟩|⟨h0,rfl,rfl⟩:=hO
  ·rw[h0]at tail hK;simp[zzao,hw,DA ex eD];refine tail _ _ _ (.own (ls.length+1) 7) _ (by simp) (by simp[Qu,Qo,Qc]) (by simp) (by simp) (by simp[Qc]) (by simp[hA]) (.inr ⟨_,rfl,by simp⟩) (by simp) ?_;intro E' gX dg ke vd q1 q2 q3;have:=hK gX dg ke vd q3;simp[q1,q2]at this |-
   exact this
  skip
  simp[zzao,hw,DA ex eD];refine⟨⟨by rintro row (⟨a,_,rfl⟩|rfl)<;>rfl,by omega⟩,tail _ _ _ (.own ml.length 7) _ (by simp) (by simp[Qu,Qo,Qc]) (by simp) (by simp) (by simp[Qc]) (by simp[hA]) (.inr ⟨_,rfl,by simp⟩) (by simp) ?_⟩;intro E' gX dg ke vd q1 q2 q3;have:=hK gX dg ke vd q3;simp[q1,q2]at this |-
  exact this
 have dz:pZ g f b o q d=none:=by
  unfold pZ;cases hp:Jh g f b with
  |none=>rfl
  |some e=>
   rw[hp]at hn;simp only[zzch]at hn;obtain hn|hn:=hn
   ·simp only[hn]
   simp only[hn,if_true]
 have he1:Kh g f b o q d=f:=by unfold Kh;rw[dz]
 have fB:(Jy g f b o q d).map Zq=(Ye f g.ev).map Qf:=by
  unfold Jy;rw[dz,zzbw,yo];simp
 have aob:(Jy g f b o q d).length=(Ye f g.ev).length:=by
  unfold Jy;rw[dz];simp
 rw[fB,aob,he1]at tail;rw[fB]at hK;obtain⟨h0,rfl,rfl⟩|⟨h0,rfl,rfl⟩:=hO
 ·rw[h0]at tail hK;simp[zzao,nS];refine tail _ _ _ .nil _ (by simp) (by simp[Qu,Qo,Qc]) (by simp) (by simp) (by simp[Qc]) (by simp) (.inl ⟨rfl,rfl⟩) (by simp) ?_;intro E' gX dg ke vd q1 q2 q3;have:=hK gX dg ke vd q3;simp[q1,q2]at this |-
  exact this
 simp[zzao,nS];refine tail _ _ _ (.own ml.length 7) _ (by simp) (by simp[Qu,Qo,Qc]) (by simp) (by simp) (by simp[Qc]) (by simp) (.inr ⟨_,rfl,by simp⟩) (by simp) ?_;intro E' gX dg ke vd q1 q2 q3;have:=hK gX dg ke vd q3;simp[q1,q2]at this |-
 exact this
open Go Go.Abs
def Sm(c:Cue)(l:List Cue):Option (List Cue):=if sO c=true then(if 200<(gW c (!decide (c.to=0)) l).length then none else some (gW c (!decide (c.to=0)) l))else none
def aaE(c:Cue)(l:List Cue):mN c l=match Sm c l with
 |none=>.aU [.sl .nil [],I 150]
 |some x=>.aU [.sl (uI x) (x.map Qj),I 0]:=by
 unfold mN Sm uI;split
 ·split<;>rfl
 rfl
def yp(g:Pg)(o:Od)(b:List (Int×Bool))(q:Pl)(d:Int):Pg:=
 {g with p:=q,ev:=Jy g o.fr b o q d++gZ g o.fr b o q d,dr:=dd (Wl (g.dr++OY g o.fr b o q d)),ve:=g.ve+1}
def Zc(g:Pg)(o:Od):Pg:=
 if LJ g o=false then{g with ve:=g.ve+1}
 else if o.ki=5 then(match Sm o.cu g.cu with
  |none=>{g with ve:=g.ve+1}
  |some x=>{g with cu:=x,ed:=o.fr,ve:=g.ve+1})
 else match Dy g o.fr (Yd o.fr g.ev []) o with
  |none=>{g with ve:=g.ve+1}
  |some (q,d)=>yp g o (Yd o.fr g.ev []) q d
structure Sn (g:Pg) (o:Od):Prop where
 pg:PgC g
 al:o.nw.al.length<=8796093022208
 ve:0<=g.ve/\g.ve<=1000000
 cu:g.cu.length<=1000000
 ch:LJ g o=true->o.ki≠5->agu g o.fr o
 rn:LJ g o=true->o.ki≠5->∀q d,Dy g o.fr (Yd o.fr g.ev []) o=some (q,d)->Hs g o.fr (Yd o.fr g.ev []) o q d/\(Yq g o.fr (Yd o.fr g.ev []) o q d).length<=1000000/\(gZ g o.fr (Yd o.fr g.ev []) o q d).length<=10000000
def fW.more{bx:List (List AV)}{mid:Nat}{b:List (Int×Bool)}(h:fW bx mid b)(x:List (List AV)):fW (bx++x) mid b:=⟨by have:=h.1;simp;omega,h.ext x⟩
def fW.ayw{a b c d d':List AV}{ex:List (List AV)}{mid:Nat}{bg:List (Int×Bool)}(h:fW (a::b::c::d::ex) mid bg)(hm:4<=mid)(x:List (List AV)):fW (a::b::c::d'::(ex++x)) mid bg:=by
 obtain⟨j,rfl⟩:∃j,mid=j+4:=⟨mid-4,by omega⟩;obtain⟨h1,h2⟩:=h;have hg:=Yz h1;rw[h2]at hg;simp only[zzdf]at hg;have hj:=(zza.1 hg).1;refine⟨by simp;omega,Qr ?_⟩;simp only[zzdf];rw[zzag hj,hg]
def cell_of{a:AV}(h:Qv a=true):cellsOf a=[a]:=by cases a<;>simp_all[Qv,cellsOf]
def agH{a:AV}(h:Qv a=true):bare a=true:=by cases a<;>simp_all[Qv,bare]
def aoc(a b:List bD):Wk (.sl .ro (a.map Zq++b.map Qf)) (.sl .ro ((a++b).map Qf)):=by
 have h:a.map Zq++b.map Qf=(a++b.map Sj).map Zq:=by rw[zzbw,yo]
 have h2:(a++b).map Qf=(a++b.map Sj).map Qf:=by rw[zzbw,zzbw,Br]
 rw[h,h2];exact K8 _
def aod(g:Pg)(o:Od)(h:Sn g o):∃re rc rd evr,Wk (.sl re evr) (.sl .ro ((Zc g o).ev.map Qf))/\
  Pure Tryz.prog aq 37 [.agg (Qo g),.agg (Qp o)] (.agg (Qc (Zc g o).p++[.sl re evr,.sl rc ((Zc g o).cu.map Qj),I (Zc g o).ed,.sl rd ((Zc g o).dr.map Qy),I (Zc g o).ve])):=by
 obtain⟨hpg,ei,hve,ud,jg,sC⟩:=h;have k76:=Z7 g hpg;have k68:=GR g o ei;have CW:=RZ g.cu o.cu ud;rw[aaE]at CW;simp only[Qo,Qc,Qp,Qd,Qg,Qj,zzae,zzah]at k76 k68 CW;have hw:IntKind.i64.wrap (g.ve+1)=g.ve+1:=by rw[Qk]<;>omega
 cases hc:LJ g o with
 |false=>
  have ha:Zc g o={g with ve:=g.ve+1}:=by unfold Zc;rw[if_pos hc]
  rw[ha];rw[hc]at k68;refine⟨.ro,.ro,.ro,g.ev.map Qf,Wk.refl _,Qn uO (fun _ f l=>if f=76 then l.headD .junk else if f=68 then .bool (LJ g o)else .gd false .junk) (by simp) ?_⟩;simp[PL,PM,Qo,Qc,Qp,Qd,Qg,Qj,hc,hw];exact⟨k76,k68⟩
 |true=>
  rw[hc]at k68;by_cases h5:o.ki=5
  ·rw[h5]at k68;cases he:Sm o.cu g.cu with
   |none=>
    have ha:Zc g o={g with ve:=g.ve+1}:=by unfold Zc;rw[if_neg (by rw[hc];decide),if_pos h5,he]
    rw[ha];rw[he]at CW;refine⟨.ro,.ro,.ro,g.ev.map Qf,Wk.refl _,Qn uO (fun _ f l=>if f=76 then l.headD .junk else if f=68 then .bool true else if f=69 then .aU [.sl .nil [],I 150]else .gd false .junk) (by simp) ?_⟩;simp[PL,PM,Qo,Qc,Qp,Qd,Qg,Qj,hw,h5];exact⟨k76,k68,CW⟩
   |some x=>
    have ha:Zc g o={g with cu:=x,ed:=o.fr,ve:=g.ve+1}:=by unfold Zc;rw[if_neg (by rw[hc];decide),if_pos h5,he]
    rw[ha];rw[he]at CW;have hcx:=Mc x;have aoe:=fun m d y=>hcx m d y;refine⟨.ro,uI x,.ro,g.ev.map Qf,Wk.refl _,Qn uO (fun _ f l=>if f=76 then l.headD .junk else if f=68 then .bool true else if f=69 then .aU [.sl (uI x) (x.map Qj),I 0]else .gd false .junk) (by simp) ?_⟩;simp[PL,PM,Qo,Qc,Qp,Qd,Qg,Qj,hw,h5];refine⟨k76,k68,CW,Xz ?_⟩;simp[aoe]
  have jg:=jg hc h5;have sC:=sC hc h5;cases hx:Dy g o.fr (Yd o.fr g.ev []) o with
  |none=>
   have ha:Zc g o={g with ve:=g.ve+1}:=by unfold Zc;rw[if_neg (by rw[hc];decide),if_neg h5,hx]
   rw[ha];refine⟨.ro,.ro,.ro,g.ev.map Qf,Wk.refl _,Qn uO (fun _ f l=>if f=76 then l.headD .junk else if f=68 then .bool true else .gd false .junk) (by simp) ?_⟩;simp[PL,PM,Qo,Qc,Qp,Qd,Qg,Qj,hw,h5];refine⟨k76,k68,?_⟩;refine Bp Y0 _ g o.fr (by have:=hpg.2.1;omega) _ fun ex mid hex W3 gq=>?_;simp[Qu,Qo,Qc,zzao];refine OS Y0 _ g o.fr mid (Yd o.fr g.ev []) o jg ?_ ?_ _ ?_
   ·have:=fun x=>fW.more gq x;simp only[zzae,zzah]at this;exact this _
   ·intro c hc;simp only[zzau,zzap,zzdr,or_false]at hc;obtain rfl|rfl|rfl|rfl|hc|rfl:=hc
    ·exact jV.of (by simp) rfl
    ·exact jV.of (by simp) rfl
    ·exact jV.of (by simp) rfl
    ·exact jV.of (by simp) rfl
    ·exact hex c hc
    exact jV.mo g o.fr mid
   rw[hx];simp[agw,an6]
  |some r=>
   obtain⟨q,d⟩:=r;obtain⟨hR,r8,iY⟩:=sC q d hx;have ha:Zc g o=yp g o (Yd o.fr g.ev []) q d:=by unfold Zc;rw[if_neg (by rw[hc];decide),if_neg h5,hx]
   rw[ha];refine⟨.ro,.ro,uI ((yp g o (Yd o.fr g.ev []) q d).dr.map Qy),(Jy g o.fr (Yd o.fr g.ev []) o q d).map Zq++(gZ g o.fr (Yd o.fr g.ev []) o q d).map Qf,aoc _ _,Qn uO (fun _ f l=>if f=76 then l.headD .junk else if f=68 then .bool true else .gd false .junk) (by simp) ?_⟩;simp[PL,PM,Qo,Qc,Qp,Qd,Qg,Qj,hw,h5];refine⟨k76,k68,?_⟩;refine Bp Y0 _ g o.fr (by have:=hpg.2.1;omega) _ fun ex mid hex W3 gq=>?_;simp[Qu,Qo,Qc,zzao];have AA:=fun x=>fW.more gq x;simp only[zzae,zzah]at AA
   refine OS Y0 _ g o.fr mid (Yd o.fr g.ev []) o jg (AA _) (by
    intro c hc;simp only[zzau,zzap,zzdr,or_false]at hc;obtain rfl|rfl|rfl|rfl|hc|rfl:=hc
    ·exact jV.of (by simp) rfl
    ·exact jV.of (by simp) rfl
    ·exact jV.of (by simp) rfl
    ·exact jV.of (by simp) rfl
    ·exact hex c hc
    exact jV.mo g o.fr mid) _ ?_
   rw[hx];simp[agw,Qc,zzao];refine Sl Y0 _ g o.fr mid (Yd o.fr g.ev []) o q d hR (fW.ayw (by simpa using AA []) (by simpa using W3) _) r8 iY _ fun eD ls ke vd hv=>?_;have fE:=hv.1;have Cp:=cell_of fE;have hc3:=agH fE;simp[zzao,fE,Cp,hc3];refine⟨by omega,by omega,rfl,rfl,rfl,rfl,rfl,rfl,rfl,rfl,rfl,rfl,rfl,rfl,rfl,rfl,rfl,?_,?_⟩
   ·refine hv.2 _ (by simp) (fun j h1 h2=>?_) _;simp at h1;obtain⟨i,rfl⟩:∃i,j=i+4:=⟨j-4,by omega⟩;simp
   rfl
def Mf(g:Pg)(o:Od)(h:Sn g o):Pure Tryz.prog aq 37 [.agg (Qo g),.agg (Qp o)] (.agg (Qo (Zc g o))):=by
 obtain⟨re,rc,rd,evr,hw,hp⟩:=aod g o h;refine Qz hp ?_;unfold Qo;simp only[Qc,zzae,zzah];refine Qdh ?_;exact⟨Wk.refl _,Wk.refl _,Wk.refl _,Wk.refl _,Wk.refl _,Wk.refl _,Wk.refl _,Wk.refl _,Wk.refl _,Wk.refl _,Wk.refl _,Wk.refl _,Wk.refl _,hw,Wk.sl _ _,Wk.refl _,Wk.sl _ _,Wk.refl _,trivial⟩
open Go Go.Abs
def Mg{l l':List AV}(h:WkL l l'):Wk (.aU l) (.aU l'):=fun w γ v hr=>by
 have key:∀{l l':List AV},WkL l l'->l.length=l'.length/\∀(i:Nat)(c':AV),l'[i]?=some c'->∃c,l[i]?=some c/\Wk c c':=by
  intro l;induction l with
  |nil=>intro l' h;cases l' with
   |nil=>exact⟨rfl,fun i c' h=>by simp at h⟩
   |cons _ _=>exact h.elim
  |cons a l ih=>intro l' h;cases l' with
   |nil=>exact h.elim
   |cons b l'=>
    obtain⟨h1,h2⟩:=ih h.2;refine⟨by simp[h1],fun i c' hc=>?_⟩;cases i with
    |zero=>simp at hc;subst hc;exact⟨a,rfl,h.1⟩
    |succ i=>simpa using h2 i c' (by simpa using hc)
 obtain⟨h1,h2⟩:=key h;cases hr with
 |aU hl hc=>
  refine .aU (by omega) fun i c' v qi hv=>?_;obtain⟨c,g1,g2⟩:=h2 i c' qi;exact g2 _ _ _ (hc i c v g1 hv)
def pl0:Pl:=⟨0,0,0,0,[],0,0,0,0,[],[],[],[]⟩
def pg0:Pg:=⟨pl0,[],[],0,[],0⟩
def Ht(p:Pl):Option (List Sp):=if qp p=false then none else Uy p (Ud p) [] [] 0 (-1)
def yq(p:Pl):Pg:=match Ht p with
 |none=>pg0
 |some l=>⟨p,jx p l 0,[],0,[],0⟩
def Hu(p:Pl):List Int:=if qp p=false then[]else match Ht p with
 |none=>nO (IG p) (Ud p)
 |some _=>[]
def Jz(p:Pl):Int:=if qp p=false then 80 else match Ht p with
 |none=>90
 |some _=>0
def aue{V X Y:AV}{p:Pl}{ev:List bD}{cu:List Cue}{dr:List Int}{ed ve:Int}(h1:Wk V (.sl .ro (ev.map Qf)))(h2:Wk X (.sl .ro (cu.map Qj)))(h3:Wk Y (.sl .ro (dr.map Qy))):
  Wk (.agg (Qc p++[V,X,I ed,Y,I ve])) (.agg (Qo ⟨p,ev,cu,ed,dr,ve⟩)):=by
 unfold Qo;simp only[Qc,zzae,zzah];exact Qdh ⟨Wk.refl _,Wk.refl _,Wk.refl _,Wk.refl _,Wk.refl _,Wk.refl _,Wk.refl _,Wk.refl _,Wk.refl _,Wk.refl _,Wk.refl _,Wk.refl _,Wk.refl _,h1,h2,Wk.refl _,h3,Wk.refl _,trivial⟩
def aaF:Wk (.agg eP) (.agg (Qo pg0)):=by
 unfold eP pg0 pl0 Qo;simp only[Qc,zzae,zzah,zzce];exact Qdh ⟨Wk.refl _,Wk.refl _,Wk.refl _,Wk.refl _,Wk.sl _ _,Wk.refl _,Wk.refl _,Wk.refl _,Wk.refl _,Wk.sl _ _,Wk.sl _ _,Wk.sl _ _,Wk.sl _ _,Wk.sl _ _,Wk.sl _ _,Wk.refl _,Wk.sl _ _,Wk.refl _,trivial⟩
def Mh(p:Pl)(hp:Bh p)(dx:p.ln<=1000000)(Ts:∀e∈p.ens,e.ea<=9223372036854775807)(hl:∀l,Ht p=some l->l.length<=1000000/\∀s∈l,-1000000000<=s.2/\s.2<=1000000000):
  Pure Tryz.prog aq 31 [.agg (Qc p)] (.aU [.agg (Qo (yq p)),.sl .ro ((Hu p).map Qy),I (Jz p)]):=by
 obtain⟨h1,h2,h3,h4,h5,h6⟩:=hp;have k60:=RK p ⟨by omega,by omega,by omega,by omega,by omega,h6⟩ h5 (by omega) (by omega) Ts;have k61:=pQ p ⟨h1,h2,h3,h4,h5,h6⟩;by_cases hv:qp p=false
 ·have hr:RJ p=.aU [.sl .nil [],.sl .nil [],I 80]:=by unfold RJ;rw[if_pos hv]
  have hb:Ht p=none:=by unfold Ht;rw[if_pos hv]
  have hg:yq p=pg0:=by unfold yq;rw[hb]
  have hc:Hu p=[]:=by unfold Hu;rw[if_pos hv]
  have he:Jz p=80:=by unfold Jz;rw[if_pos hv]
  rw[hr]at k60;rw[hg,hc,he];simp only[Qc]at k60
  have:Pure Tryz.prog aq 31 [.agg (Qc p)] (.aU [.agg eP,.sl .nil [],I 80]):=by
   refine Qn IP (fun _ f _=>if f=60 then .aU [.sl .nil [],.sl .nil [],I 80]else .junk) (by simp) ?_;simp[ab0,ab1,Qc,eP];exact k60
  exact Qz this (Mg ⟨aaF,Wk.sl _ _,Wk.refl _,trivial⟩)
 cases hx:Uy p (Ud p) [] [] 0 (-1)with
 |none=>
  have hr:RJ p=.aU [.sl .nil [],.sl .ro ((nO (IG p) (Ud p)).map Qy),I 90]:=by unfold RJ;rw[if_neg hv,hx]
  have hb:Ht p=none:=by unfold Ht;rw[if_neg hv,hx]
  have hg:yq p=pg0:=by unfold yq;rw[hb]
  have hc:Hu p=nO (IG p) (Ud p):=by unfold Hu;rw[if_neg hv,hb]
  have he:Jz p=90:=by unfold Jz;rw[if_neg hv,hb]
  rw[hr]at k60;rw[hg,hc,he];simp only[Qc]at k60
  have:Pure Tryz.prog aq 31 [.agg (Qc p)] (.aU [.agg eP,.sl .ro ((nO (IG p) (Ud p)).map Qy),I 90]):=by
   refine Qn IP (fun _ f _=>if f=60 then .aU [.sl .nil [],.sl .ro ((nO (IG p) (Ud p)).map Qy),I 90]else .junk) (by simp) ?_;simp[ab0,ab1,Qc,eP];exact k60
  exact Qz this (Mg ⟨aaF,Wk.refl _,Wk.refl _,trivial⟩)
 |some l=>
  have hr:RJ p=.aU [II l,.sl .nil [],I 0]:=by unfold RJ;rw[if_neg hv,hx]
  have hb:Ht p=some l:=by unfold Ht;rw[if_neg hv,hx]
  have hg:yq p=⟨p,jx p l 0,[],0,[],0⟩:=by unfold yq;rw[hb]
  have hc:Hu p=[]:=by unfold Hu;rw[if_neg hv,hb]
  have he:Jz p=0:=by unfold Jz;rw[if_neg hv,hb]
  obtain⟨ef,AN⟩:=hl l hb;rw[hr,Hq]at k60;rw[hg,hc,he];have hcx:=Mc l;have aoe:=fun m d y=>hcx m d y;have k62:=Zj (sH p l 0 h5 (by omega) (by omega) (by omega) h6 dx ef AN) (l:=[.agg (Qc p),.sl (uI l) (l.map Qe),I 0]) ⟨Wk.refl _,Wk.sl _ _,Wk.refl _,trivial⟩;simp only[Qc]at k60 k61 k62
  have:Pure Tryz.prog aq 31 [.agg (Qc p)] (.aU [.agg (Qc p++[.sl .ro ((jx p l 0).map Qf),.sl .nil [],I 0,.sl .nil [],I 0]),.sl .nil [],I 0]):=by
   refine Qn IP (fun _ f x=>if f=60 then .aU [.sl (uI l) (l.map Qe),.sl .nil [],I 0]else if f=61 then x.headD .junk else if f=62 then .sl .ro ((jx p l 0).map Qf)else .junk) (by simp) ?_;simp[ab0,ab1,Qc,aoe];exact⟨k60,k61,k62⟩
  exact Qz this (Mg ⟨aue (Wk.refl _) (Wk.sl _ _) (Wk.sl _ _),Wk.sl _ _,Wk.refl _,trivial⟩)
end Go.Proofs.YtnopaopphmjnmaaGreatDoor
