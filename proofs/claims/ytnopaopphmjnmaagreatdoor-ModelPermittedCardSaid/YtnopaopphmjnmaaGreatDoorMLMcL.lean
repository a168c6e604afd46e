import Derived.Test.YtnopaopphmjnmaaGreatDoorMLMcH
set_option linter.all false
set_option maxRecDepth 100000
set_option maxHeartbeats 64000000
namespace Go.Proofs.YtnopaopphmjnmaaGreatDoor
open Go Go.Abs
def lZ(g:Pg)(f:Int)(b:List (Int×Bool))(o:Od)(q:Pl)(d:Int):Option bD:=match Jj g f b with
 |none=>none
 |some e=>match iF g f o q d e with
  |none=>none
  |some F=>if F=0 then none else some ⟨e.id,e.it,f,F,e.i+(f-e.st),qb q f e.it F q.rg.toNat,jV q f e.id F ((Ze e.id q.ens).getD yp).al,decide (jV q f e.id F ((Ze e.id q.ens).getD yp).al=[])⟩
def Sk(e:bD):bD:={e with nl:=false}
def Jp(g:Pg)(f:Int)(b:List (Int×Bool))(o:Od)(q:Pl)(d:Int):List bD:=(Yb f g.ev).map Sk++(lZ g f b o q d).toList
def Kk(g:Pg)(f:Int)(b:List (Int×Bool))(o:Od)(q:Pl)(d:Int):Int:=match lZ g f b o q d with
 |none=>f
 |some e=>f+e.fr
def qd(g:Pg)(f:Int)(b:List (Int×Bool))(o:Od)(q:Pl)(d:Int):List Ad:=Sf (Jp g f b o q d) (Kk g f b o q d)
def tc(g:Pg)(f:Int)(b:List (Int×Bool))(o:Od)(q:Pl)(d:Int):List Bool:=Kq q (Kk g f b o q d) (qd g f b o q d) (Kc g b q.ens)
def Yu(g:Pg)(f:Int)(b:List (Int×Bool))(o:Od)(q:Pl)(d:Int):List Sp:=(Yq q (Kk g f b o q d) (qd g f b o q d) (Xb true (Kc g b q.ens) (tc g f b o q d))).getD []
def OR(g:Pg)(f:Int)(b:List (Int×Bool))(o:Od)(q:Pl)(d:Int):List Int:=Xb false (Kc g b q.ens) (tc g f b o q d)
def ig(g:Pg)(f:Int)(b:List (Int×Bool))(o:Od)(q:Pl)(d:Int):List bD:=A9 q (Yu g f b o q d) (Kk g f b o q d)
def Ho(l:List Sp):IT l=.sl (uT l) (l.map Qe):=by
 unfold IT uT;split
 ·rename_i h;rw[h];rfl
 rfl
def agf(l:List Int):Hp l=.sl (uT l) (l.map Qy):=by
 unfold Hp uT;split
 ·rename_i h;rw[h];rfl
 rfl
def yE(l:List bD):(l.map Sk).map Zu=l.map Qf:=by
 rw[zzcy];exact zzd fun e _=>rfl
def By(l:List bD):(l.map Sk).map Qf=l.map Qf:=by
 rw[zzcy];exact zzd fun e _=>rfl
def OS(g:Pg)(past:List Ad)(L:List Sp)(D:List Int)(bl:List bD):Nat->FuncId->List AV->AV:=fun dst fn l=>
 if fn=159 then .sl .ro (past.map Vi)else if fn=158 then .aW [.sl (uT L) (L.map Qe),.sl (uT D) (D.map Qy)]else if fn=62 then .sl .ro (bl.map Qf)
 else if fn=157 then(match l with|[_,.int _ id]=>.bool (decide (id∈g.dr))|_=>.junk)else if fn=999999 then(if dst=95\/dst=97 then .aJ 0 []else .junk)else .gd false .junk
structure Hq (g:Pg) (f:Int) (b:List (Int×Bool)) (o:Od) (q:Pl) (d:Int):Prop where
 mo:lY g f
 pl:Bo q
 pk:PlK q
 d0:0<=d/\d<=1000000000
 rg:0<=q.rg/\q.rg<=8
 f0:0<=f/\f<=1000000
 ev:g.ev.length<=900
 dr:g.dr.length<=1000000
 ln:q.ln<=1000000
 cu:∀e,lZ g f b o q d=some e->Uh e
 en:0<=Kk g f b o q d/\Kk g f b o q d<=1000000
 st:∀s∈Yu g f b o q d,-1000000000<=s.2/\s.2<=1000000000
def lI{g:Pg}{f:Int}{b:List (Int×Bool)}{o:Od}{q:Pl}{d:Int}(h:Hq g f b o q d):(Jp g f b o q d).length<=901/\∀e∈Jp g f b o q d,Uh e:=by
 have h1:=Qdm f g.ev;have h2:=om f h.f0.2 g.ev h.mo.2.1;refine⟨?_,fun e he=>?_⟩
 ·have:=h.ev;have h3:(lZ g f b o q d).toList.length<=1:=by cases lZ g f b o q d<;>simp
  simp only[Jp,zzah,zzbg];omega
 rcases zzao.1 he with he|he
 ·obtain⟨x,hx,rfl⟩:=zzax.1 he;exact h2 x hx
 exact h.cu e (by cases hc:lZ g f b o q d with
  |none=>rw[hc]at he;simp at he
  |some x=>rw[hc]at he;simp at he;rw[he])
def aap{g:Pg}{f:Int}{b:List (Int×Bool)}{o:Od}{q:Pl}{d:Int}(h:Hq g f b o q d):(qd g f b o q d).length<=901:=by
 have h1:=Hh (Yb (Kk g f b o q d) (Jp g f b o q d)) none [];have h2:=Qdm (Kk g f b o q d) (Jp g f b o q d);have h3:=(lI h).1;simp only[zzch]at h1;unfold qd Sf;omega
def agh{g:Pg}{f:Int}{b:List (Int×Bool)}{o:Od}{q:Pl}{d:Int}(h:Hq g f b o q d)(ce:Rt):Pure Tryz.prog az 159 [.sl ce ((Jp g f b o q d).map Zu),I (Kk g f b o q d)] (.sl .ro ((qd g f b o q d).map Vi)):=
 Zt (LV (Jp g f b o q d) (Kk g f b o q d) (by have:=(lI h).1;omega) (lI h).2 h.en) ⟨Wk.trans (Wk.sl _ _) (K6 _),Wk.refl _,trivial⟩
def agi{g:Pg}{f:Int}{b:List (Int×Bool)}{o:Od}{q:Pl}{d:Int}(h:Hq g f b o q d)(ci:Rt):
  Pure Tryz.prog az 158 [.agg (Qb q),.sl ci ((Kc g b q.ens).map Qy),I (Kk g f b o q d),.sl .ro ((qd g f b o q d).map Vi)] (.aW [.sl (uT (Yu g f b o q d)) ((Yu g f b o q d).map Qe),.sl (uT (OR g f b o q d)) ((OR g f b o q d).map Qy)]):=by
 have h1:=jZ g b q.ens;have h2:=h.pk.ens;have h3:=h.en;have:=aaq h.pk (at_:=Kk g f b o q d) (by unfold anj;omega) (past:=qd g f b o q d) (by have:=aap h;omega) (ids:=Kc g b q.ens) (by omega);rw[Sl,Ho,agf]at this;exact Zt this ⟨Wk.refl _,Wk.sl _ _,Wk.refl _,Wk.refl _,trivial⟩
def ank{g:Pg}{f:Int}{b:List (Int×Bool)}{o:Od}{q:Pl}{d:Int}(h:Hq g f b o q d)(hl:(Yu g f b o q d).length<=1000000)(rL:Rt):
  Pure Tryz.prog az 62 [.agg (Qb q),.sl rL ((Yu g f b o q d).map Qe),I (Kk g f b o q d)] (.sl .ro ((ig g f b o q d).map Qf)):=by
 obtain⟨q1,q2,q3,q4,q5,q6⟩:=h.pl;exact Zt (sL q (Yu g f b o q d) (Kk g f b o q d) (by omega) (by omega) (by omega) (by omega) q6 h.ln hl h.st) ⟨Wk.refl _,Wk.sl _ _,Wk.refl _,trivial⟩
open Go Go.Abs
def DH(ex eO:List (List AV))(a b c X:List AV):Qh (a::b::c::(ex++(eO++[X]))) (ex.length+(eO.length+3))=X:=by
 refine Qs ?_;have:a::b::c::(ex++(eO++[X]))=([a,b,c]++ex++eO)++[X]:=by simp
 rw[this,zzal (by simp;omega),show ex.length+(eO.length+3)-([a,b,c]++ex++eO).length=0 by simp;omega];rfl
def EvW.more{ml:List Nat}{rt:Rt}{n:Nat}(h:EvW ml rt n)(x:List Nat):EvW (ml++x) rt n:=by
 obtain h|⟨k,h1,h2⟩:=h
 ·exact .inl h
 exact .inr ⟨k,h1,by rw[zzag (zza.1 h2).1];exact h2⟩
def EvW.cv{ml:List Nat}{rt:Rt}{n:Nat}(h:EvW ml rt n):∃ce,s5 rt ce:=by
 obtain⟨rfl,_⟩|⟨k,rfl,_⟩:=h
 ·exact⟨_,s5.nil⟩
 exact⟨_,s5.own _ _⟩
def IdR.cv{ml ls:List Nat}{rt:Rt}{n:Nat}(h:IdR ml ls rt n):∃ci,s5 rt ci:=by
 obtain⟨rfl,_⟩|⟨rfl,_⟩:=h
 ·exact⟨_,s5.nil⟩
 exact⟨_,s5.own _ _⟩
def IdR.ls{ml ls:List Nat}{rt:Rt}{n:Nat}(h:IdR ml ls rt n):∃x,ls=ml++x:=by
 obtain⟨_,_,rfl⟩|⟨_,_,rfl⟩:=h
 ·exact⟨[],by simp⟩
 exact⟨_,rfl⟩
def Sm(Y:YT)(m:AM)(g:Pg)(f:Int)(mid:Nat)(b:List (Int×Bool))(o:Od)(q:Pl)(d:Int)(h:Hq g f b o q d)(hb:gj m.boxes mid b)
  (gP:(Yu g f b o q d).length<=1000000)(ja:(ig g f b o q d).length<=10000000)(K:AV->AM->Prop)
  (
   hK:∀ex ls ke vd,ic m.boxes.length ⟨m.boxes++ex,ls,m.st,m.ln⟩ vd ((dd (Wn (g.dr++OR g f b o q d))).map Qy)->
   K (.aW [.sl (.own ke 7) ((Jp g f b o q d).map Zu++(ig g f b o q d).map Qf),vd]) ⟨m.boxes++ex,ls,m.st,m.ln⟩):
  an Tryz.prog az Y 77 [.agg (Qu g f mid),.agg (Qq o),.agg (Qb q++[I d])] m K:=by
 obtain⟨mb,ml,ms,mn⟩:=m;have hB:∀ex,gj (mb++ex) mid b:=fun ex=>⟨by have:=hb.1;simp at this |-;omega,hb.ext ex⟩;have agd:=fun ce=>agh h ce;have aan:=fun ci=>agi h ci;have YS:=fun rL=>ank h gP rL
 have hdl:(OR g f b o q d).length<=1000000:=by
  have h1:=qf false (Kc g b q.ens) (tc g f b o q d);have h2:=jZ g b q.ens;have h3:=h.pk.ens;unfold OR;omega
 have cw:=(lI h).1;have hL:∀ev,Jp g f b o q d=ev->ev.length<=901:=fun ev he=>by rw[<- he];exact cw
 generalize hpast:qd g f b o q d=past at*
 generalize hstart:Yu g f b o q d=L at*
 generalize hdrop:OR g f b o q d=D at*
 generalize hbld:ig g f b o q d=bl at*
 have tail:∀(E:List (Nat×AV))(X:List (List AV))(ls:List Nat)(rte:Rt)(Q:Exit->AS->Prop),Abs.look E 3=.ptr mb.length 0->Qh (mb++X) mb.length=Qu g f mid->2<X.length->
   Abs.look E 5=.ptr (mb.length+2) 0->Qh (mb++X) (mb.length+2)=Qb q++[I d]->Abs.look E 8=.sl rte ((Jp g f b o q d).map Zu)->EvW ls rte (Jp g f b o q d).length->Abs.look E 9=I (Kk g f b o q d)->
   (∀E' ex dx ke vd,Abs.look E' 6=.sl (.own ke 7) ((Jp g f b o q d).map Zu++bl.map Qf)->Abs.look E' 7=vd->ic mb.length ⟨mb++ex,dx,ms,mn⟩ vd ((dd (Wn (g.dr++D))).map Qy)->Q .ret ⟨Zf 103 E',⟨mb++ex,dx,ms,mn⟩⟩)->
   vc Tryz.prog az (OS g past L D bl) Y OP ⟨Zf 103 E,⟨mb++X,ls,ms,mn⟩⟩ Q:=by
  intro E X ls rte Q e3 r3 hX e5 r5 e8 hw e9 hQ;refine aao Y _ (by simp[OS]) (by simp[OS]) E (mb++X) ls ms mn g f mid mb.length (mb.length+2) b q d Q (fun d id=>by simp[OS]) e3 (by simp;omega) r3 e5 (by simp;omega) r5 (hB X) h.dr (by have:=h.pk.ens;omega) ?_;intro E' ex rt dx hE qt aN;obtain⟨ci,hci⟩:=aN.cv;obtain⟨ce,hce⟩:=hw.cv;obtain⟨x,rfl⟩:=aN.ls
  refine aam Y _ (by simp[OS]) (by simp[OS]) (by simp[OS]) (fun _ _=>by simp[OS]) (fun _ _=>by simp[OS]) E' (mb++X++ex) (ls++x) ms mn g f mid mb.length (mb.length+2) q d rte ce rt ci (uT L) (uT D) (Jp g f b o q d) bl (Kk g f b o q d) (Kc g b q.ens) D L past Q
   (fun _ _=>by simp[OS]) (fun _ _=>by simp[OS]) (fun _ _=>by simp[OS]) (agd ce) (aan ci) (YS _) hce hci (LX L)
   ((hE 3 (by omega) (by omega)).trans e3) (by simp;omega) ((Ql (by simp;omega)).trans r3) ((hE 5 (by omega) (by omega)).trans e5) (by simp;omega) ((Ql (by simp;omega)).trans r5)
   ((hE 8 (by omega) (by omega)).trans e8) (hw.more x) ((hE 9 (by omega) (by omega)).trans e9) qt h.dr hdl (by omega) ja ?_
  intro E2 eO ls2 ke vd q1 q2 q3;replace q3:=q3.mono (n':=mb.length) (by simp);rw[zzaw,zzaw]at q3 |-
  exact hQ E2 _ ls2 ke vd q1 q2 q3
 obtain⟨hm,gG,Fa,hd0,Ld,hf0,ayp,dX,dg,ue,II,cc⟩:=h;refine Xe aln (OS g past L D bl) (by simp) ?_;rw[agc];simp[as4,ao9,Qu,Qo,Qb,Qq,Qd,Qg,Qj,OS];refine yy Y _ g.ev f (by omega) hm.2.1 hf0 _ fun ex v ls hO=>?_;simp;have hbr:∀l:List bD,∀a∈l,(Qf a).length=7:=fun _ _ _=>rfl;have ayq:(Yb f g.ev).length<=900:=by have:=Qdm f g.ev;omega
 refine afV Y _ g f mid b o q (.sl .ro (q.ens.map Qd)) .ro d (.inl ⟨.ro,rfl,Dz.ro⟩) Dz.ro hm (hB _) gG hd0 Ld _ (fun e F he hF qu eO ls2 v2 K5=>?_) (fun hn eO=>?_)
 ·have dz:lZ g f b o q d=some ⟨e.id,e.it,f,F,e.i+(f-e.st),qb q f e.it F q.rg.toNat,jV q f e.id F ((Ze e.id q.ens).getD yp).al,decide (jV q f e.id F ((Ze e.id q.ens).getD yp).al=[])⟩:=by
   unfold lZ;rw[he];simp only;rw[hF];simp only;rw[if_neg qu]
  have he1:Kk g f b o q d=f+F:=by unfold Kk;rw[dz]
  have hw:IntKind.i64.wrap (f+F)=f+F:=by rw[Qk]<;>omega
  have fA:(Jp g f b o q d).map Zu=(Yb f g.ev).map Qf++[[I e.id,I e.it,I f,I F,I (e.i+(f-e.st)),I (qb q f e.it F q.rg.toNat),.sl (if jV q f e.id F ((Ze e.id q.ens).getD yp).al=[]then .nil else .ro) ((jV q f e.id F ((Ze e.id q.ens).getD yp).al).map Qe)]]:=by
   unfold Jp;rw[dz,zzc,yE];simp[Zu]
  have anl:(Jp g f b o q d).length=(Yb f g.ev).length+1:=by
   unfold Jp;rw[dz];simp
  rw[fA,anl,he1]at tail;rw[fA]at hK;generalize jV q f e.id F ((Ze e.id q.ens).getD yp).al=A at*
  obtain⟨rfl,rfl,rfl⟩|⟨hA,rfl,rfl⟩:=K5
  ·obtain⟨h0,rfl,rfl⟩|⟨h0,rfl,rfl⟩:=hO
   ·rw[h0]at tail hK;simp[zzan,hw,DH ex eO];refine tail _ _ _ _ _ (by simp) (by simp[Qu,Qo,Qb]) (by simp) (by simp) (by simp[Qb]) (by simp;rfl) (.inr ⟨_,rfl,by simp⟩) (by simp) ?_;intro E' gZ dx ke vd q1 q2 q3;have:=hK gZ dx ke vd q3;simp[q1,q2]at this |-
    exact this
   skip
   simp[zzan,hw,DH ex eO];refine⟨⟨by rintro row (⟨a,_,rfl⟩|rfl)<;>rfl,by omega⟩,tail _ _ _ _ _ (by simp) (by simp[Qu,Qo,Qb]) (by simp) (by simp) (by simp[Qb]) (by simp;rfl) (.inr ⟨_,rfl,by simp⟩) (by simp) ?_⟩;intro E' gZ dx ke vd q1 q2 q3;have:=hK gZ dx ke vd q3;simp[q1,q2]at this |-
   exact this
  obtain⟨h0,rfl,rfl⟩|⟨h0,rfl,rfl⟩:=hO
  ·rw[h0]at tail hK;simp[zzan,hw,DH ex eO];refine tail _ _ _ (.own (ls.length+1) 7) _ (by simp) (by simp[Qu,Qo,Qb]) (by simp) (by simp) (by simp[Qb]) (by simp[hA]) (.inr ⟨_,rfl,by simp⟩) (by simp) ?_;intro E' gZ dx ke vd q1 q2 q3;have:=hK gZ dx ke vd q3;simp[q1,q2]at this |-
   exact this
  skip
  simp[zzan,hw,DH ex eO];refine⟨⟨by rintro row (⟨a,_,rfl⟩|rfl)<;>rfl,by omega⟩,tail _ _ _ (.own ml.length 7) _ (by simp) (by simp[Qu,Qo,Qb]) (by simp) (by simp) (by simp[Qb]) (by simp[hA]) (.inr ⟨_,rfl,by simp⟩) (by simp) ?_⟩;intro E' gZ dx ke vd q1 q2 q3;have:=hK gZ dx ke vd q3;simp[q1,q2]at this |-
  exact this
 have dz:lZ g f b o q d=none:=by
  unfold lZ;cases hp:Jj g f b with
  |none=>rfl
  |some e=>
   rw[hp]at hn;simp only[zzcg]at hn;obtain hn|hn:=hn
   ·simp only[hn]
   simp only[hn,if_true]
 have he1:Kk g f b o q d=f:=by unfold Kk;rw[dz]
 have fA:(Jp g f b o q d).map Zu=(Yb f g.ev).map Qf:=by
  unfold Jp;rw[dz,zzc,yE];simp
 have anl:(Jp g f b o q d).length=(Yb f g.ev).length:=by
  unfold Jp;rw[dz];simp
 rw[fA,anl,he1]at tail;rw[fA]at hK;obtain⟨h0,rfl,rfl⟩|⟨h0,rfl,rfl⟩:=hO
 ·rw[h0]at tail hK;simp[zzan,oc];refine tail _ _ _ .nil _ (by simp) (by simp[Qu,Qo,Qb]) (by simp) (by simp) (by simp[Qb]) (by simp) (.inl ⟨rfl,rfl⟩) (by simp) ?_;intro E' gZ dx ke vd q1 q2 q3;have:=hK gZ dx ke vd q3;simp[q1,q2]at this |-
  exact this
 simp[zzan,oc];refine tail _ _ _ (.own ml.length 7) _ (by simp) (by simp[Qu,Qo,Qb]) (by simp) (by simp) (by simp[Qb]) (by simp) (.inr ⟨_,rfl,by simp⟩) (by simp) ?_;intro E' gZ dx ke vd q1 q2 q3;have:=hK gZ dx ke vd q3;simp[q1,q2]at this |-
 exact this
open Go Go.Abs
def LZ(c:Cue)(l:List Cue):Option (List Cue):=if sS c=true then(if 200<(gY c (!decide (c.to=0)) l).length then none else some (gY c (!decide (c.to=0)) l))else none
def aar(c:Cue)(l:List Cue):mX c l=match LZ c l with
 |none=>.aW [.sl .nil [],I 150]
 |some x=>.aW [.sl (uT x) (x.map Qj),I 0]:=by
 unfold mX LZ uT;split
 ·split<;>rfl
 rfl
def oo(g:Pg)(o:Od)(b:List (Int×Bool))(q:Pl)(d:Int):Pg:=
 {g with p:=q,ev:=Jp g o.fr b o q d++ig g o.fr b o q d,dr:=dd (Wn (g.dr++OR g o.fr b o q d)),ve:=g.ve+1}
def Xz(g:Pg)(o:Od):Pg:=
 if Lv g o=false then{g with ve:=g.ve+1}
 else if o.ki=5 then(match LZ o.cu g.cu with
  |none=>{g with ve:=g.ve+1}
  |some x=>{g with cu:=x,ed:=o.fr,ve:=g.ve+1})
 else match Bv g o.fr (Yg o.fr g.ev []) o with
  |none=>{g with ve:=g.ve+1}
  |some (q,d)=>oo g o (Yg o.fr g.ev []) q d
structure Sn (g:Pg) (o:Od):Prop where
 pg:PgC g
 al:o.nw.al.length<=8796093022208
 ve:0<=g.ve/\g.ve<=1000000
 cu:g.cu.length<=1000000
 ch:Lv g o=true->o.ki≠5->af6 g o.fr o
 rn:Lv g o=true->o.ki≠5->∀q d,Bv g o.fr (Yg o.fr g.ev []) o=some (q,d)->Hq g o.fr (Yg o.fr g.ev []) o q d/\(Yu g o.fr (Yg o.fr g.ev []) o q d).length<=1000000/\(ig g o.fr (Yg o.fr g.ev []) o q d).length<=10000000
def gj.more{bx:List (List AV)}{mid:Nat}{b:List (Int×Bool)}(h:gj bx mid b)(x:List (List AV)):gj (bx++x) mid b:=⟨by have:=h.1;simp;omega,h.ext x⟩
def gj.axr{a b c d d':List AV}{ex:List (List AV)}{mid:Nat}{bg:List (Int×Bool)}(h:gj (a::b::c::d::ex) mid bg)(hm:4<=mid)(x:List (List AV)):gj (a::b::c::d'::(ex++x)) mid bg:=by
 obtain⟨j,rfl⟩:∃j,mid=j+4:=⟨mid-4,by omega⟩;obtain⟨h1,h2⟩:=h;have hg:=Uc h1;rw[h2]at hg;simp only[zzdc]at hg;have hj:=(zza.1 hg).1;refine⟨by simp;omega,Qs ?_⟩;simp only[zzdc];rw[zzag hj,hg]
def cell_of{a:AV}(h:Qv a=true):cellsOf a=[a]:=by cases a<;>simp_all[Qv,cellsOf]
def agj{a:AV}(h:Qv a=true):bare a=true:=by cases a<;>simp_all[Qv,bare]
def anm(a b:List bD):Wk (.sl .ro (a.map Zu++b.map Qf)) (.sl .ro ((a++b).map Qf)):=by
 have h:a.map Zu++b.map Qf=(a++b.map Sk).map Zu:=by rw[zzc,yE]
 have h2:(a++b).map Qf=(a++b.map Sk).map Qf:=by rw[zzc,zzc,By]
 rw[h,h2];exact K6 _
def ann(g:Pg)(o:Od)(h:Sn g o):∃re rc rd evr,Wk (.sl re evr) (.sl .ro ((Xz g o).ev.map Qf))/\
  Pure Tryz.prog az 37 [.agg (Qo g),.agg (Qq o)] (.agg (Qb (Xz g o).p++[.sl re evr,.sl rc ((Xz g o).cu.map Qj),I (Xz g o).ed,.sl rd ((Xz g o).dr.map Qy),I (Xz g o).ve])):=by
 obtain⟨hpg,eu,hve,ue,lS,uz⟩:=h;have k76:=ZV g hpg;have k68:=GO g o eu;have C6:=R2 g.cu o.cu ue;rw[aar]at C6;simp only[Qo,Qb,Qq,Qd,Qg,Qj,zzae,zzai]at k76 k68 C6;have hw:IntKind.i64.wrap (g.ve+1)=g.ve+1:=by rw[Qk]<;>omega
 cases hc:Lv g o with
 |false=>
  have ha:Xz g o={g with ve:=g.ve+1}:=by unfold Xz;rw[if_pos hc]
  rw[ha];rw[hc]at k68;refine⟨.ro,.ro,.ro,g.ev.map Qf,Wk.refl _,Qn u5 (fun _ f l=>if f=76 then l.headD .junk else if f=68 then .bool (Lv g o)else .gd false .junk) (by simp) ?_⟩;simp[PE,PF,Qo,Qb,Qq,Qd,Qg,Qj,hc,hw];exact⟨k76,k68⟩
 |true=>
  rw[hc]at k68;by_cases h5:o.ki=5
  ·rw[h5]at k68;cases he:LZ o.cu g.cu with
   |none=>
    have ha:Xz g o={g with ve:=g.ve+1}:=by unfold Xz;rw[if_neg (by rw[hc];decide),if_pos h5,he]
    rw[ha];rw[he]at C6;refine⟨.ro,.ro,.ro,g.ev.map Qf,Wk.refl _,Qn u5 (fun _ f l=>if f=76 then l.headD .junk else if f=68 then .bool true else if f=69 then .aW [.sl .nil [],I 150]else .gd false .junk) (by simp) ?_⟩;simp[PE,PF,Qo,Qb,Qq,Qd,Qg,Qj,hw,h5];exact⟨k76,k68,C6⟩
   |some x=>
    have ha:Xz g o={g with cu:=x,ed:=o.fr,ve:=g.ve+1}:=by unfold Xz;rw[if_neg (by rw[hc];decide),if_pos h5,he]
    rw[ha];rw[he]at C6;have hcx:=LX x;have ano:=fun m d y=>hcx m d y;refine⟨.ro,uT x,.ro,g.ev.map Qf,Wk.refl _,Qn u5 (fun _ f l=>if f=76 then l.headD .junk else if f=68 then .bool true else if f=69 then .aW [.sl (uT x) (x.map Qj),I 0]else .gd false .junk) (by simp) ?_⟩;simp[PE,PF,Qo,Qb,Qq,Qd,Qg,Qj,hw,h5];refine⟨k76,k68,C6,Xu ?_⟩;simp[ano]
  have lS:=lS hc h5;have uz:=uz hc h5;cases hx:Bv g o.fr (Yg o.fr g.ev []) o with
  |none=>
   have ha:Xz g o={g with ve:=g.ve+1}:=by unfold Xz;rw[if_neg (by rw[hc];decide),if_neg h5,hx]
   rw[ha];refine⟨.ro,.ro,.ro,g.ev.map Qf,Wk.refl _,Qn u5 (fun _ f l=>if f=76 then l.headD .junk else if f=68 then .bool true else .gd false .junk) (by simp) ?_⟩;simp[PE,PF,Qo,Qb,Qq,Qd,Qg,Qj,hw,h5];refine⟨k76,k68,?_⟩;refine Bw Y0 _ g o.fr (by have:=hpg.2.1;omega) _ fun ex mid hex WQ gE=>?_;simp[Qu,Qo,Qb,zzan];refine OM Y0 _ g o.fr mid (Yg o.fr g.ev []) o lS ?_ ?_ _ ?_
   ·have:=fun x=>gj.more gE x;simp only[zzae,zzai]at this;exact this _
   ·intro c hc;simp only[zzat,zzao,zzee,or_false]at hc;obtain rfl|rfl|rfl|rfl|hc|rfl:=hc
    ·exact jX.of (by simp) rfl
    ·exact jX.of (by simp) rfl
    ·exact jX.of (by simp) rfl
    ·exact jX.of (by simp) rfl
    ·exact hex c hc
    exact jX.mo g o.fr mid
   rw[hx];simp[af8,ang]
  |some r=>
   obtain⟨q,d⟩:=r;obtain⟨hR,gP,ja⟩:=uz q d hx;have ha:Xz g o=oo g o (Yg o.fr g.ev []) q d:=by unfold Xz;rw[if_neg (by rw[hc];decide),if_neg h5,hx]
   rw[ha];refine⟨.ro,.ro,uT ((oo g o (Yg o.fr g.ev []) q d).dr.map Qy),(Jp g o.fr (Yg o.fr g.ev []) o q d).map Zu++(ig g o.fr (Yg o.fr g.ev []) o q d).map Qf,anm _ _,Qn u5 (fun _ f l=>if f=76 then l.headD .junk else if f=68 then .bool true else .gd false .junk) (by simp) ?_⟩;simp[PE,PF,Qo,Qb,Qq,Qd,Qg,Qj,hw,h5];refine⟨k76,k68,?_⟩;refine Bw Y0 _ g o.fr (by have:=hpg.2.1;omega) _ fun ex mid hex WQ gE=>?_;simp[Qu,Qo,Qb,zzan];have CB:=fun x=>gj.more gE x;simp only[zzae,zzai]at CB
   refine OM Y0 _ g o.fr mid (Yg o.fr g.ev []) o lS (CB _) (by
    intro c hc;simp only[zzat,zzao,zzee,or_false]at hc;obtain rfl|rfl|rfl|rfl|hc|rfl:=hc
    ·exact jX.of (by simp) rfl
    ·exact jX.of (by simp) rfl
    ·exact jX.of (by simp) rfl
    ·exact jX.of (by simp) rfl
    ·exact hex c hc
    exact jX.mo g o.fr mid) _ ?_
   rw[hx];simp[af8,Qb,zzan];refine Sm Y0 _ g o.fr mid (Yg o.fr g.ev []) o q d hR (gj.axr (by simpa using CB []) (by simpa using WQ) _) gP ja _ fun eO ls ke vd hv=>?_;have fE:=hv.1;have Cu:=cell_of fE;have hc3:=agj fE;simp[zzan,fE,Cu,hc3];refine⟨by omega,by omega,rfl,rfl,rfl,rfl,rfl,rfl,rfl,rfl,rfl,rfl,rfl,rfl,rfl,rfl,rfl,?_,?_⟩
   ·refine hv.2 _ (by simp) (fun j h1 h2=>?_) _;simp at h1;obtain⟨i,rfl⟩:∃i,j=i+4:=⟨j-4,by omega⟩;simp
   rfl
def L3(g:Pg)(o:Od)(h:Sn g o):Pure Tryz.prog az 37 [.agg (Qo g),.agg (Qq o)] (.agg (Qo (Xz g o))):=by
 obtain⟨re,rc,rd,evr,hw,hp⟩:=ann g o h;refine Qz hp ?_;unfold Qo;simp only[Qb,zzae,zzai];refine Qdp ?_;exact⟨Wk.refl _,Wk.refl _,Wk.refl _,Wk.refl _,Wk.refl _,Wk.refl _,Wk.refl _,Wk.refl _,Wk.refl _,Wk.refl _,Wk.refl _,Wk.refl _,Wk.refl _,hw,Wk.sl _ _,Wk.refl _,Wk.sl _ _,Wk.refl _,trivial⟩
open Go Go.Abs
def L5{l l':List AV}(h:WkL l l'):Wk (.aW l) (.aW l'):=fun w γ v hr=>by
 have key:∀{l l':List AV},WkL l l'->l.length=l'.length/\∀(i:Nat)(c':AV),l'[i]?=some c'->∃c,l[i]?=some c/\Wk c c':=by
  intro l;induction l with
  |nil=>intro l' h;cases l' with
   |nil=>exact⟨rfl,fun i c' h=>by simp at h⟩
   |cons _ _=>exact h.elim
  |cons a l ih=>intro l' h;cases l' with
   |nil=>exact h.elim
   |cons b l'=>
    obtain⟨h1,h2⟩:=ih h.2;refine⟨by simp[h1],fun i c' hc=>?_⟩;cases i with
    |zero=>simp at hc;subst hc;exact⟨a,rfl,h.1⟩
    |succ i=>simpa using h2 i c' (by simpa using hc)
 obtain⟨h1,h2⟩:=key h;cases hr with
 |aW hl hc=>
  refine .aW (by omega) fun i c' v qn hv=>?_;obtain⟨c,g1,g2⟩:=h2 i c' qn;exact g2 _ _ _ (hc i c v g1 hv)
def pl0:Pl:=⟨0,0,0,0,[],0,0,0,0,[],[],[],[]⟩
def pg0:Pg:=⟨pl0,[],[],0,[],0⟩
def IV(p:Pl):Option (List Sp):=if nU p=false then none else Jk p (Uf p) [] [] 0 (-1)
def Js(p:Pl):Pg:=match IV p with
 |none=>pg0
 |some l=>⟨p,A9 p l 0,[],0,[],0⟩
def Hr(p:Pl):List Int:=if nU p=false then[]else match IV p with
 |none=>nW (IS p) (Uf p)
 |some _=>[]
def uU(p:Pl):Int:=if nU p=false then 80 else match IV p with
 |none=>90
 |some _=>0
def atc{V X Y:AV}{p:Pl}{ev:List bD}{cu:List Cue}{dr:List Int}{ed ve:Int}(h1:Wk V (.sl .ro (ev.map Qf)))(h2:Wk X (.sl .ro (cu.map Qj)))(h3:Wk Y (.sl .ro (dr.map Qy))):
  Wk (.agg (Qb p++[V,X,I ed,Y,I ve])) (.agg (Qo ⟨p,ev,cu,ed,dr,ve⟩)):=by
 unfold Qo;simp only[Qb,zzae,zzai];exact Qdp ⟨Wk.refl _,Wk.refl _,Wk.refl _,Wk.refl _,Wk.refl _,Wk.refl _,Wk.refl _,Wk.refl _,Wk.refl _,Wk.refl _,Wk.refl _,Wk.refl _,Wk.refl _,h1,h2,Wk.refl _,h3,Wk.refl _,trivial⟩
def aas:Wk (.agg iE) (.agg (Qo pg0)):=by
 unfold iE pg0 pl0 Qo;simp only[Qb,zzae,zzai,zzcf];exact Qdp ⟨Wk.refl _,Wk.refl _,Wk.refl _,Wk.refl _,Wk.sl _ _,Wk.refl _,Wk.refl _,Wk.refl _,Wk.refl _,Wk.sl _ _,Wk.sl _ _,Wk.sl _ _,Wk.sl _ _,Wk.sl _ _,Wk.sl _ _,Wk.refl _,Wk.sl _ _,Wk.refl _,trivial⟩
def L6(p:Pl)(hp:Bo p)(dg:p.ln<=1000000)(Tw:∀e∈p.ens,e.ea<=9223372036854775807)(hl:∀l,IV p=some l->l.length<=1000000/\∀s∈l,-1000000000<=s.2/\s.2<=1000000000):
  Pure Tryz.prog az 31 [.agg (Qb p)] (.aW [.agg (Qo (Js p)),.sl .ro ((Hr p).map Qy),I (uU p)]):=by
 obtain⟨h1,h2,h3,h4,h5,h6⟩:=hp;have k60:=RL p ⟨by omega,by omega,by omega,by omega,by omega,h6⟩ h5 (by omega) (by omega) Tw;have k61:=pZ p ⟨h1,h2,h3,h4,h5,h6⟩;by_cases hv:nU p=false
 ·have hr:RK p=.aW [.sl .nil [],.sl .nil [],I 80]:=by unfold RK;rw[if_pos hv]
  have hb:IV p=none:=by unfold IV;rw[if_pos hv]
  have hg:Js p=pg0:=by unfold Js;rw[hb]
  have hc:Hr p=[]:=by unfold Hr;rw[if_pos hv]
  have he:uU p=80:=by unfold uU;rw[if_pos hv]
  rw[hr]at k60;rw[hg,hc,he];simp only[Qb]at k60
  have:Pure Tryz.prog az 31 [.agg (Qb p)] (.aW [.agg iE,.sl .nil [],I 80]):=by
   refine Qn IX (fun _ f _=>if f=60 then .aW [.sl .nil [],.sl .nil [],I 80]else .junk) (by simp) ?_;simp[abQ,abR,Qb,iE];exact k60
  exact Qz this (L5 ⟨aas,Wk.sl _ _,Wk.refl _,trivial⟩)
 cases hx:Jk p (Uf p) [] [] 0 (-1)with
 |none=>
  have hr:RK p=.aW [.sl .nil [],.sl .ro ((nW (IS p) (Uf p)).map Qy),I 90]:=by unfold RK;rw[if_neg hv,hx]
  have hb:IV p=none:=by unfold IV;rw[if_neg hv,hx]
  have hg:Js p=pg0:=by unfold Js;rw[hb]
  have hc:Hr p=nW (IS p) (Uf p):=by unfold Hr;rw[if_neg hv,hb]
  have he:uU p=90:=by unfold uU;rw[if_neg hv,hb]
  rw[hr]at k60;rw[hg,hc,he];simp only[Qb]at k60
  have:Pure Tryz.prog az 31 [.agg (Qb p)] (.aW [.agg iE,.sl .ro ((nW (IS p) (Uf p)).map Qy),I 90]):=by
   refine Qn IX (fun _ f _=>if f=60 then .aW [.sl .nil [],.sl .ro ((nW (IS p) (Uf p)).map Qy),I 90]else .junk) (by simp) ?_;simp[abQ,abR,Qb,iE];exact k60
  exact Qz this (L5 ⟨aas,Wk.refl _,Wk.refl _,trivial⟩)
 |some l=>
  have hr:RK p=.aW [IT l,.sl .nil [],I 0]:=by unfold RK;rw[if_neg hv,hx]
  have hb:IV p=some l:=by unfold IV;rw[if_neg hv,hx]
  have hg:Js p=⟨p,A9 p l 0,[],0,[],0⟩:=by unfold Js;rw[hb]
  have hc:Hr p=[]:=by unfold Hr;rw[if_neg hv,hb]
  have he:uU p=0:=by unfold uU;rw[if_neg hv,hb]
  obtain⟨dZ,AT⟩:=hl l hb;rw[hr,Ho]at k60;rw[hg,hc,he];have hcx:=LX l;have ano:=fun m d y=>hcx m d y;have YS:=Zt (sL p l 0 h5 (by omega) (by omega) (by omega) h6 dg dZ AT) (l:=[.agg (Qb p),.sl (uT l) (l.map Qe),I 0]) ⟨Wk.refl _,Wk.sl _ _,Wk.refl _,trivial⟩;simp only[Qb]at k60 k61 YS
  have:Pure Tryz.prog az 31 [.agg (Qb p)] (.aW [.agg (Qb p++[.sl .ro ((A9 p l 0).map Qf),.sl .nil [],I 0,.sl .nil [],I 0]),.sl .nil [],I 0]):=by
   refine Qn IX (fun _ f x=>if f=60 then .aW [.sl (uT l) (l.map Qe),.sl .nil [],I 0]else if f=61 then x.headD .junk else if f=62 then .sl .ro ((A9 p l 0).map Qf)else .junk) (by simp) ?_;simp[abQ,abR,Qb,ano];exact⟨k60,k61,YS⟩
  exact Qz this (L5 ⟨atc (Wk.refl _) (Wk.sl _ _) (Wk.sl _ _),Wk.sl _ _,Wk.refl _,trivial⟩)
end Go.Proofs.YtnopaopphmjnmaaGreatDoor
