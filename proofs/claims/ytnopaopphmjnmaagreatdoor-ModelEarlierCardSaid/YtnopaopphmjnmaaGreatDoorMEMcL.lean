import Derived.Test.YtnopaopphmjnmaaGreatDoorMEMcH
set_option linter.all false
set_option maxRecDepth 100000
set_option maxHeartbeats 64000000
namespace Go.Proofs.YtnopaopphmjnmaaGreatDoor
open Go Go.Abs
def qd(g:Pg)(f:Int)(b:List (Int×Bool))(o:Od)(q:Pl)(d:Int):Option bE:=match Jo g f b with
 |none=>none
 |some e=>match iI g f o q d e with
  |none=>none
  |some F=>if F=0 then none else some ⟨e.id,e.it,f,F,e.i+(f-e.st),rN q f e.it F q.rg.toNat,j8 q f e.id F ((Zf e.id q.ens).getD yu).al,decide (j8 q f e.id F ((Zf e.id q.ens).getD yu).al=[])⟩
def Sq(e:bE):bE:={e with nl:=false}
def Ki(g:Pg)(f:Int)(b:List (Int×Bool))(o:Od)(q:Pl)(d:Int):List bE:=(Ym f g.ev).map Sq++(qd g f b o q d).toList
def Kn(g:Pg)(f:Int)(b:List (Int×Bool))(o:Od)(q:Pl)(d:Int):Int:=match qd g f b o q d with
 |none=>f
 |some e=>f+e.fr
def qf(g:Pg)(f:Int)(b:List (Int×Bool))(o:Od)(q:Pl)(d:Int):List Ad:=Sj (Ki g f b o q d) (Kn g f b o q d)
def tj(g:Pg)(f:Int)(b:List (Int×Bool))(o:Od)(q:Pl)(d:Int):List Bool:=Kv q (Kn g f b o q d) (qf g f b o q d) (Kg g b q.ens)
def Yy(g:Pg)(f:Int)(b:List (Int×Bool))(o:Od)(q:Pl)(d:Int):List Sp:=(Yw q (Kn g f b o q d) (qf g f b o q d) (Xc true (Kg g b q.ens) (tj g f b o q d))).getD []
def O6(g:Pg)(f:Int)(b:List (Int×Bool))(o:Od)(q:Pl)(d:Int):List Int:=Xc false (Kg g b q.ens) (tj g f b o q d)
def iu(g:Pg)(f:Int)(b:List (Int×Bool))(o:Od)(q:Pl)(d:Int):List bE:=jQ q (Yy g f b o q d) (Kn g f b o q d)
def Hy(l:List Sp):IZ l=.sl (uY l) (l.map Qe):=by
 unfold IZ uY;split
 ·rename_i h;rw[h];rfl
 rfl
def age(l:List Int):Hz l=.sl (uY l) (l.map Qy):=by
 unfold Hz uY;split
 ·rename_i h;rw[h];rfl
 rfl
def yG(l:List bE):(l.map Sq).map Zv=l.map Qf:=by
 rw[zzcz];exact zzda fun e _=>rfl
def Bw(l:List bE):(l.map Sq).map Qf=l.map Qf:=by
 rw[zzcz];exact zzda fun e _=>rfl
def O7(g:Pg)(past:List Ad)(L:List Sp)(D:List Int)(bl:List bE):Nat->FuncId->List AV->AV:=fun dst fn l=>
 if fn=159 then .sl .ro (past.map Vj)else if fn=158 then .aW [.sl (uY L) (L.map Qe),.sl (uY D) (D.map Qy)]else if fn=62 then .sl .ro (bl.map Qf)
 else if fn=157 then(match l with|[_,.int _ id]=>.bool (decide (id∈g.dr))|_=>.junk)else if fn=999999 then(if dst=95\/dst=97 then .aJ 0 []else .junk)else .gd false .junk
structure HA (g:Pg) (f:Int) (b:List (Int×Bool)) (o:Od) (q:Pl) (d:Int):Prop where
 mo:mq g f
 pl:Bn q
 pk:PlK q
 d0:0<=d/\d<=1000000000
 rg:0<=q.rg/\q.rg<=8
 f0:0<=f/\f<=1000000
 ev:g.ev.length<=900
 dr:g.dr.length<=1000000
 ln:q.ln<=1000000
 cu:∀e,qd g f b o q d=some e->Ul e
 en:0<=Kn g f b o q d/\Kn g f b o q d<=1000000
 st:∀s∈Yy g f b o q d,-1000000000<=s.2/\s.2<=1000000000
def lP{g:Pg}{f:Int}{b:List (Int×Bool)}{o:Od}{q:Pl}{d:Int}(h:HA g f b o q d):(Ki g f b o q d).length<=901/\∀e∈Ki g f b o q d,Ul e:=by
 have h1:=Qdw f g.ev;have h2:=ou f h.f0.2 g.ev h.mo.2.1;refine⟨?_,fun e he=>?_⟩
 ·have:=h.ev;have h3:(qd g f b o q d).toList.length<=1:=by cases qd g f b o q d<;>simp
  simp only[Ki,zzah,zzbf];omega
 rcases zzao.1 he with he|he
 ·obtain⟨x,hx,rfl⟩:=zzbc.1 he;exact h2 x hx
 exact h.cu e (by cases hc:qd g f b o q d with
  |none=>rw[hc]at he;simp at he
  |some x=>rw[hc]at he;simp at he;rw[he])
def aal{g:Pg}{f:Int}{b:List (Int×Bool)}{o:Od}{q:Pl}{d:Int}(h:HA g f b o q d):(qf g f b o q d).length<=901:=by
 have h1:=Ht (Ym (Kn g f b o q d) (Ki g f b o q d)) none [];have h2:=Qdw (Kn g f b o q d) (Ki g f b o q d);have h3:=(lP h).1;simp only[zzch]at h1;unfold qf Sj;omega
def agf{g:Pg}{f:Int}{b:List (Int×Bool)}{o:Od}{q:Pl}{d:Int}(h:HA g f b o q d)(ce:Rt):Pure Tryz.prog az 159 [.sl ce ((Ki g f b o q d).map Zv),I (Kn g f b o q d)] (.sl .ro ((qf g f b o q d).map Vj)):=
 Zu (Mg (Ki g f b o q d) (Kn g f b o q d) (by have:=(lP h).1;omega) (lP h).2 h.en) ⟨Wk.trans (Wk.sl _ _) (Li _),Wk.refl _,trivial⟩
def agh{g:Pg}{f:Int}{b:List (Int×Bool)}{o:Od}{q:Pl}{d:Int}(h:HA g f b o q d)(ci:Rt):
  Pure Tryz.prog az 158 [.agg (Qc q),.sl ci ((Kg g b q.ens).map Qy),I (Kn g f b o q d),.sl .ro ((qf g f b o q d).map Vj)] (.aW [.sl (uY (Yy g f b o q d)) ((Yy g f b o q d).map Qe),.sl (uY (O6 g f b o q d)) ((O6 g f b o q d).map Qy)]):=by
 have h1:=ku g b q.ens;have h2:=h.pk.ens;have h3:=h.en;have:=aam h.pk (at_:=Kn g f b o q d) (by unfold anl;omega) (past:=qf g f b o q d) (by have:=aal h;omega) (ids:=Kg g b q.ens) (by omega);rw[Sr,Hy,age]at this;exact Zu this ⟨Wk.refl _,Wk.sl _ _,Wk.refl _,Wk.refl _,trivial⟩
def anm{g:Pg}{f:Int}{b:List (Int×Bool)}{o:Od}{q:Pl}{d:Int}(h:HA g f b o q d)(hl:(Yy g f b o q d).length<=1000000)(rL:Rt):
  Pure Tryz.prog az 62 [.agg (Qc q),.sl rL ((Yy g f b o q d).map Qe),I (Kn g f b o q d)] (.sl .ro ((iu g f b o q d).map Qf)):=by
 obtain⟨q1,q2,q3,q4,q5,q6⟩:=h.pl;exact Zu (sL q (Yy g f b o q d) (Kn g f b o q d) (by omega) (by omega) (by omega) (by omega) q6 h.ln hl h.st) ⟨Wk.refl _,Wk.sl _ _,Wk.refl _,trivial⟩
open Go Go.Abs
def DJ(ex dW:List (List AV))(a b c X:List AV):Qh (a::b::c::(ex++(dW++[X]))) (ex.length+(dW.length+3))=X:=by
 refine Qs ?_;have:a::b::c::(ex++(dW++[X]))=([a,b,c]++ex++dW)++[X]:=by simp
 rw[this,zzan (by simp;omega),show ex.length+(dW.length+3)-([a,b,c]++ex++dW).length=0 by simp;omega];rfl
def EvW.more{ml:List Nat}{rt:Rt}{n:Nat}(h:EvW ml rt n)(x:List Nat):EvW (ml++x) rt n:=by
 obtain h|⟨k,h1,h2⟩:=h
 ·exact .inl h
 exact .inr ⟨k,h1,by rw[zzag (zza.1 h2).1];exact h2⟩
def EvW.cv{ml:List Nat}{rt:Rt}{n:Nat}(h:EvW ml rt n):∃ce,th rt ce:=by
 obtain⟨rfl,_⟩|⟨k,rfl,_⟩:=h
 ·exact⟨_,th.nil⟩
 exact⟨_,th.own _ _⟩
def IdR.cv{ml ls:List Nat}{rt:Rt}{n:Nat}(h:IdR ml ls rt n):∃ci,th rt ci:=by
 obtain⟨rfl,_⟩|⟨rfl,_⟩:=h
 ·exact⟨_,th.nil⟩
 exact⟨_,th.own _ _⟩
def IdR.ls{ml ls:List Nat}{rt:Rt}{n:Nat}(h:IdR ml ls rt n):∃x,ls=ml++x:=by
 obtain⟨_,_,rfl⟩|⟨_,_,rfl⟩:=h
 ·exact⟨[],by simp⟩
 exact⟨_,rfl⟩
def Ss(Y:YT)(m:AM)(g:Pg)(f:Int)(mid:Nat)(b:List (Int×Bool))(o:Od)(q:Pl)(d:Int)(h:HA g f b o q d)(hb:gz m.boxes mid b)
  (qs:(Yy g f b o q d).length<=1000000)(iL:(iu g f b o q d).length<=10000000)(K:AV->AM->Prop)
  (
   hK:∀ex ls ke vd,ir m.boxes.length ⟨m.boxes++ex,ls,m.st,m.ln⟩ vd ((dd (Wt (g.dr++O6 g f b o q d))).map Qy)->
   K (.aW [.sl (.own ke 7) ((Ki g f b o q d).map Zv++(iu g f b o q d).map Qf),vd]) ⟨m.boxes++ex,ls,m.st,m.ln⟩):
  an Tryz.prog az Y 77 [.agg (Qu g f mid),.agg (Qq o),.agg (Qc q++[I d])] m K:=by
 obtain⟨mb,ml,ms,mn⟩:=m;have hB:∀ex,gz (mb++ex) mid b:=fun ex=>⟨by have:=hb.1;simp at this |-;omega,hb.ext ex⟩;have agc:=fun ce=>agf h ce;have aaj:=fun ci=>agh h ci;have k62:=fun rL=>anm h qs rL
 have hdl:(O6 g f b o q d).length<=1000000:=by
  have h1:=qg false (Kg g b q.ens) (tj g f b o q d);have h2:=ku g b q.ens;have h3:=h.pk.ens;unfold O6;omega
 have cw:=(lP h).1;have hL:∀ev,Ki g f b o q d=ev->ev.length<=901:=fun ev he=>by rw[<- he];exact cw
 generalize hpast:qf g f b o q d=past at*
 generalize hstart:Yy g f b o q d=L at*
 generalize hdrop:O6 g f b o q d=D at*
 generalize hbld:iu g f b o q d=bl at*
 have tail:∀(E:List (Nat×AV))(X:List (List AV))(ls:List Nat)(rte:Rt)(Q:Exit->AS->Prop),Abs.look E 3=.ptr mb.length 0->Qh (mb++X) mb.length=Qu g f mid->2<X.length->
   Abs.look E 5=.ptr (mb.length+2) 0->Qh (mb++X) (mb.length+2)=Qc q++[I d]->Abs.look E 8=.sl rte ((Ki g f b o q d).map Zv)->EvW ls rte (Ki g f b o q d).length->Abs.look E 9=I (Kn g f b o q d)->
   (∀E' ex bX ke vd,Abs.look E' 6=.sl (.own ke 7) ((Ki g f b o q d).map Zv++bl.map Qf)->Abs.look E' 7=vd->ir mb.length ⟨mb++ex,bX,ms,mn⟩ vd ((dd (Wt (g.dr++D))).map Qy)->Q .ret ⟨Ze 103 E',⟨mb++ex,bX,ms,mn⟩⟩)->
   vc Tryz.prog az (O7 g past L D bl) Y O4 ⟨Ze 103 E,⟨mb++X,ls,ms,mn⟩⟩ Q:=by
  intro E X ls rte Q e3 r3 hX e5 r5 e8 hw e9 hQ;refine aak Y _ (by simp[O7]) (by simp[O7]) E (mb++X) ls ms mn g f mid mb.length (mb.length+2) b q d Q (fun d id=>by simp[O7]) e3 (by simp;omega) r3 e5 (by simp;omega) r5 (hB X) h.dr (by have:=h.pk.ens;omega) ?_;intro E' ex rt bX hE qy aN;obtain⟨ci,hci⟩:=aN.cv;obtain⟨ce,hce⟩:=hw.cv;obtain⟨x,rfl⟩:=aN.ls
  refine aai Y _ (by simp[O7]) (by simp[O7]) (by simp[O7]) (fun _ _=>by simp[O7]) (fun _ _=>by simp[O7]) E' (mb++X++ex) (ls++x) ms mn g f mid mb.length (mb.length+2) q d rte ce rt ci (uY L) (uY D) (Ki g f b o q d) bl (Kn g f b o q d) (Kg g b q.ens) D L past Q
   (fun _ _=>by simp[O7]) (fun _ _=>by simp[O7]) (fun _ _=>by simp[O7]) (agc ce) (aaj ci) (k62 _) hce hci (Mi L)
   ((hE 3 (by omega) (by omega)).trans e3) (by simp;omega) ((Ql (by simp;omega)).trans r3) ((hE 5 (by omega) (by omega)).trans e5) (by simp;omega) ((Ql (by simp;omega)).trans r5)
   ((hE 8 (by omega) (by omega)).trans e8) (hw.more x) ((hE 9 (by omega) (by omega)).trans e9) qy h.dr hdl (by omega) iL ?_
  intro E2 dW ls2 ke vd q1 q2 q3;replace q3:=q3.mono (n':=mb.length) (by simp);rw[zzax,zzax]at q3 |-
  exact hQ E2 _ ls2 ke vd q1 q2 q3
 obtain⟨hm,gK,Fi,hd0,OB,hf0,ayr,ei,cS,uv,IN,cm⟩:=h;refine Xe aln (O7 g past L D bl) (by simp) ?_;rw[agb];simp[ata,apg,Qu,Qo,Qc,Qq,Qd,Qg,Qi,O7];refine yA Y _ g.ev f (by omega) hm.2.1 hf0 _ fun ex v ls hO=>?_;simp;have hbr:∀l:List bE,∀a∈l,(Qf a).length=7:=fun _ _ _=>rfl;have ays:(Ym f g.ev).length<=900:=by have:=Qdw f g.ev;omega
 refine afU Y _ g f mid b o q (.sl .ro (q.ens.map Qd)) .ro d (.inl ⟨.ro,rfl,Dz.ro⟩) Dz.ro hm (hB _) gK hd0 OB _ (fun e F he hF qz dW ls2 v2 Lh=>?_) (fun hn dW=>?_)
 ·have dA:qd g f b o q d=some ⟨e.id,e.it,f,F,e.i+(f-e.st),rN q f e.it F q.rg.toNat,j8 q f e.id F ((Zf e.id q.ens).getD yu).al,decide (j8 q f e.id F ((Zf e.id q.ens).getD yu).al=[])⟩:=by
   unfold qd;rw[he];simp only;rw[hF];simp only;rw[if_neg qz]
  have he1:Kn g f b o q d=f+F:=by unfold Kn;rw[dA]
  have hw:IntKind.i64.wrap (f+F)=f+F:=by rw[Qk]<;>omega
  have fG:(Ki g f b o q d).map Zv=(Ym f g.ev).map Qf++[[I e.id,I e.it,I f,I F,I (e.i+(f-e.st)),I (rN q f e.it F q.rg.toNat),.sl (if j8 q f e.id F ((Zf e.id q.ens).getD yu).al=[]then .nil else .ro) ((j8 q f e.id F ((Zf e.id q.ens).getD yu).al).map Qe)]]:=by
   unfold Ki;rw[dA,zzby,yG];simp[Zv]
  have ann:(Ki g f b o q d).length=(Ym f g.ev).length+1:=by
   unfold Ki;rw[dA];simp
  rw[fG,ann,he1]at tail;rw[fG]at hK;generalize j8 q f e.id F ((Zf e.id q.ens).getD yu).al=A at*
  obtain⟨rfl,rfl,rfl⟩|⟨hA,rfl,rfl⟩:=Lh
  ·obtain⟨h0,rfl,rfl⟩|⟨h0,rfl,rfl⟩:=hO
   ·rw[h0]at tail hK;simp[zzam,hw,DJ ex dW];refine tail _ _ _ _ _ (by simp) (by simp[Qu,Qo,Qc]) (by simp) (by simp) (by simp[Qc]) (by simp;rfl) (.inr ⟨_,rfl,by simp⟩) (by simp) ?_;intro E' iq bX ke vd q1 q2 q3;have:=hK iq bX ke vd q3;simp[q1,q2]at this |-
    exact this
   skip
   simp[zzam,hw,DJ ex dW];refine⟨⟨by rintro row (⟨a,_,rfl⟩|rfl)<;>rfl,by omega⟩,tail _ _ _ _ _ (by simp) (by simp[Qu,Qo,Qc]) (by simp) (by simp) (by simp[Qc]) (by simp;rfl) (.inr ⟨_,rfl,by simp⟩) (by simp) ?_⟩;intro E' iq bX ke vd q1 q2 q3;have:=hK iq bX ke vd q3;simp[q1,q2]at this |-
   exact this
  obtain⟨h0,rfl,rfl⟩|⟨h0,rfl,rfl⟩:=hO
  ·rw[h0]at tail hK;simp[zzam,hw,DJ ex dW];refine tail _ _ _ (.own (ls.length+1) 7) _ (by simp) (by simp[Qu,Qo,Qc]) (by simp) (by simp) (by simp[Qc]) (by simp[hA]) (.inr ⟨_,rfl,by simp⟩) (by simp) ?_;intro E' iq bX ke vd q1 q2 q3;have:=hK iq bX ke vd q3;simp[q1,q2]at this |-
   exact this
  skip
  simp[zzam,hw,DJ ex dW];refine⟨⟨by rintro row (⟨a,_,rfl⟩|rfl)<;>rfl,by omega⟩,tail _ _ _ (.own ml.length 7) _ (by simp) (by simp[Qu,Qo,Qc]) (by simp) (by simp) (by simp[Qc]) (by simp[hA]) (.inr ⟨_,rfl,by simp⟩) (by simp) ?_⟩;intro E' iq bX ke vd q1 q2 q3;have:=hK iq bX ke vd q3;simp[q1,q2]at this |-
  exact this
 have dA:qd g f b o q d=none:=by
  unfold qd;cases hp:Jo g f b with
  |none=>rfl
  |some e=>
   rw[hp]at hn;simp only[zzcu]at hn;obtain hn|hn:=hn
   ·simp only[hn]
   simp only[hn,if_true]
 have he1:Kn g f b o q d=f:=by unfold Kn;rw[dA]
 have fG:(Ki g f b o q d).map Zv=(Ym f g.ev).map Qf:=by
  unfold Ki;rw[dA,zzby,yG];simp
 have ann:(Ki g f b o q d).length=(Ym f g.ev).length:=by
  unfold Ki;rw[dA];simp
 rw[fG,ann,he1]at tail;rw[fG]at hK;obtain⟨h0,rfl,rfl⟩|⟨h0,rfl,rfl⟩:=hO
 ·rw[h0]at tail hK;simp[zzam,oh];refine tail _ _ _ .nil _ (by simp) (by simp[Qu,Qo,Qc]) (by simp) (by simp) (by simp[Qc]) (by simp) (.inl ⟨rfl,rfl⟩) (by simp) ?_;intro E' iq bX ke vd q1 q2 q3;have:=hK iq bX ke vd q3;simp[q1,q2]at this |-
  exact this
 simp[zzam,oh];refine tail _ _ _ (.own ml.length 7) _ (by simp) (by simp[Qu,Qo,Qc]) (by simp) (by simp) (by simp[Qc]) (by simp) (.inr ⟨_,rfl,by simp⟩) (by simp) ?_;intro E' iq bX ke vd q1 q2 q3;have:=hK iq bX ke vd q3;simp[q1,q2]at this |-
 exact this
open Go Go.Abs
def St(c:Cue)(l:List Cue):Option (List Cue):=if sW c=true then(if 200<(ij c (!decide (c.to=0)) l).length then none else some (ij c (!decide (c.to=0)) l))else none
def aan(c:Cue)(l:List Cue):mZ c l=match St c l with
 |none=>.aW [.sl .nil [],I 150]
 |some x=>.aW [.sl (uY x) (x.map Qi),I 0]:=by
 unfold mZ St uY;split
 ·split<;>rfl
 rfl
def yH(g:Pg)(o:Od)(b:List (Int×Bool))(q:Pl)(d:Int):Pg:=
 {g with p:=q,ev:=Ki g o.fr b o q d++iu g o.fr b o q d,dr:=dd (Wt (g.dr++O6 g o.fr b o q d)),ve:=g.ve+1}
def Zr(g:Pg)(o:Od):Pg:=
 if LM g o=false then{g with ve:=g.ve+1}
 else if o.ki=5 then(match St o.cu g.cu with
  |none=>{g with ve:=g.ve+1}
  |some x=>{g with cu:=x,ed:=o.fr,ve:=g.ve+1})
 else match DH g o.fr (Yl o.fr g.ev []) o with
  |none=>{g with ve:=g.ve+1}
  |some (q,d)=>yH g o (Yl o.fr g.ev []) q d
structure Su (g:Pg) (o:Od):Prop where
 pg:PgC g
 al:o.nw.al.length<=8796093022208
 ve:0<=g.ve/\g.ve<=1000000
 cu:g.cu.length<=1000000
 ch:LM g o=true->o.ki≠5->af5 g o.fr o
 rn:LM g o=true->o.ki≠5->∀q d,DH g o.fr (Yl o.fr g.ev []) o=some (q,d)->HA g o.fr (Yl o.fr g.ev []) o q d/\(Yy g o.fr (Yl o.fr g.ev []) o q d).length<=1000000/\(iu g o.fr (Yl o.fr g.ev []) o q d).length<=10000000
def gz.more{bx:List (List AV)}{mid:Nat}{b:List (Int×Bool)}(h:gz bx mid b)(x:List (List AV)):gz (bx++x) mid b:=⟨by have:=h.1;simp;omega,h.ext x⟩
def gz.axx{a b c d d':List AV}{ex:List (List AV)}{mid:Nat}{bg:List (Int×Bool)}(h:gz (a::b::c::d::ex) mid bg)(hm:4<=mid)(x:List (List AV)):gz (a::b::c::d'::(ex++x)) mid bg:=by
 obtain⟨j,rfl⟩:∃j,mid=j+4:=⟨mid-4,by omega⟩;obtain⟨h1,h2⟩:=h;have hg:=Ug h1;rw[h2]at hg;simp only[zzde]at hg;have hj:=(zza.1 hg).1;refine⟨by simp;omega,Qs ?_⟩;simp only[zzde];rw[zzag hj,hg]
def cell_of{a:AV}(h:Qv a=true):cellsOf a=[a]:=by cases a<;>simp_all[Qv,cellsOf]
def agi{a:AV}(h:Qv a=true):bare a=true:=by cases a<;>simp_all[Qv,bare]
def ano(a b:List bE):Wk (.sl .ro (a.map Zv++b.map Qf)) (.sl .ro ((a++b).map Qf)):=by
 have h:a.map Zv++b.map Qf=(a++b.map Sq).map Zv:=by rw[zzby,yG]
 have h2:(a++b).map Qf=(a++b.map Sq).map Qf:=by rw[zzby,zzby,Bw]
 rw[h,h2];exact Li _
def anp(g:Pg)(o:Od)(h:Su g o):∃re rc rd evr,Wk (.sl re evr) (.sl .ro ((Zr g o).ev.map Qf))/\
  Pure Tryz.prog az 37 [.agg (Qo g),.agg (Qq o)] (.agg (Qc (Zr g o).p++[.sl re evr,.sl rc ((Zr g o).cu.map Qi),I (Zr g o).ed,.sl rd ((Zr g o).dr.map Qy),I (Zr g o).ve])):=by
 obtain⟨hpg,eP,hve,uv,lX,uG⟩:=h;have k76:=ZP g hpg;have k68:=G1 g o eP;have C8:=R5 g.cu o.cu uv;rw[aan]at C8;simp only[Qo,Qc,Qq,Qd,Qg,Qi,zzae,zzaj]at k76 k68 C8;have hw:IntKind.i64.wrap (g.ve+1)=g.ve+1:=by rw[Qk]<;>omega
 cases hc:LM g o with
 |false=>
  have ha:Zr g o={g with ve:=g.ve+1}:=by unfold Zr;rw[if_pos hc]
  rw[ha];rw[hc]at k68;refine⟨.ro,.ro,.ro,g.ev.map Qf,Wk.refl _,Qn u9 (fun _ f l=>if f=76 then l.headD .junk else if f=68 then .bool (LM g o)else .gd false .junk) (by simp) ?_⟩;simp[PU,PV,Qo,Qc,Qq,Qd,Qg,Qi,hc,hw];exact⟨k76,k68⟩
 |true=>
  rw[hc]at k68;by_cases h5:o.ki=5
  ·rw[h5]at k68;cases he:St o.cu g.cu with
   |none=>
    have ha:Zr g o={g with ve:=g.ve+1}:=by unfold Zr;rw[if_neg (by rw[hc];decide),if_pos h5,he]
    rw[ha];rw[he]at C8;refine⟨.ro,.ro,.ro,g.ev.map Qf,Wk.refl _,Qn u9 (fun _ f l=>if f=76 then l.headD .junk else if f=68 then .bool true else if f=69 then .aW [.sl .nil [],I 150]else .gd false .junk) (by simp) ?_⟩;simp[PU,PV,Qo,Qc,Qq,Qd,Qg,Qi,hw,h5];exact⟨k76,k68,C8⟩
   |some x=>
    have ha:Zr g o={g with cu:=x,ed:=o.fr,ve:=g.ve+1}:=by unfold Zr;rw[if_neg (by rw[hc];decide),if_pos h5,he]
    rw[ha];rw[he]at C8;have hcx:=Mi x;have anq:=fun m d y=>hcx m d y;refine⟨.ro,uY x,.ro,g.ev.map Qf,Wk.refl _,Qn u9 (fun _ f l=>if f=76 then l.headD .junk else if f=68 then .bool true else if f=69 then .aW [.sl (uY x) (x.map Qi),I 0]else .gd false .junk) (by simp) ?_⟩;simp[PU,PV,Qo,Qc,Qq,Qd,Qg,Qi,hw,h5];refine⟨k76,k68,C8,Xy ?_⟩;simp[anq]
  have lX:=lX hc h5;have uG:=uG hc h5;cases hx:DH g o.fr (Yl o.fr g.ev []) o with
  |none=>
   have ha:Zr g o={g with ve:=g.ve+1}:=by unfold Zr;rw[if_neg (by rw[hc];decide),if_neg h5,hx]
   rw[ha];refine⟨.ro,.ro,.ro,g.ev.map Qf,Wk.refl _,Qn u9 (fun _ f l=>if f=76 then l.headD .junk else if f=68 then .bool true else .gd false .junk) (by simp) ?_⟩;simp[PU,PV,Qo,Qc,Qq,Qd,Qg,Qi,hw,h5];refine⟨k76,k68,?_⟩;refine Bu Y0 _ g o.fr (by have:=hpg.2.1;omega) _ fun ex mid hex WN eD=>?_;simp[Qu,Qo,Qc,zzam];refine O1 Y0 _ g o.fr mid (Yl o.fr g.ev []) o lX ?_ ?_ _ ?_
   ·have:=fun x=>gz.more eD x;simp only[zzae,zzaj]at this;exact this _
   ·intro c hc;simp only[zzaw,zzao,zzef,or_false]at hc;obtain rfl|rfl|rfl|rfl|hc|rfl:=hc
    ·exact kj.of (by simp) rfl
    ·exact kj.of (by simp) rfl
    ·exact kj.of (by simp) rfl
    ·exact kj.of (by simp) rfl
    ·exact hex c hc
    exact kj.mo g o.fr mid
   rw[hx];simp[af7,ani]
  |some r=>
   obtain⟨q,d⟩:=r;obtain⟨hR,qs,iL⟩:=uG q d hx;have ha:Zr g o=yH g o (Yl o.fr g.ev []) q d:=by unfold Zr;rw[if_neg (by rw[hc];decide),if_neg h5,hx]
   rw[ha];refine⟨.ro,.ro,uY ((yH g o (Yl o.fr g.ev []) q d).dr.map Qy),(Ki g o.fr (Yl o.fr g.ev []) o q d).map Zv++(iu g o.fr (Yl o.fr g.ev []) o q d).map Qf,ano _ _,Qn u9 (fun _ f l=>if f=76 then l.headD .junk else if f=68 then .bool true else .gd false .junk) (by simp) ?_⟩;simp[PU,PV,Qo,Qc,Qq,Qd,Qg,Qi,hw,h5];refine⟨k76,k68,?_⟩;refine Bu Y0 _ g o.fr (by have:=hpg.2.1;omega) _ fun ex mid hex WN eD=>?_;simp[Qu,Qo,Qc,zzam];have CF:=fun x=>gz.more eD x;simp only[zzae,zzaj]at CF
   refine O1 Y0 _ g o.fr mid (Yl o.fr g.ev []) o lX (CF _) (by
    intro c hc;simp only[zzaw,zzao,zzef,or_false]at hc;obtain rfl|rfl|rfl|rfl|hc|rfl:=hc
    ·exact kj.of (by simp) rfl
    ·exact kj.of (by simp) rfl
    ·exact kj.of (by simp) rfl
    ·exact kj.of (by simp) rfl
    ·exact hex c hc
    exact kj.mo g o.fr mid) _ ?_
   rw[hx];simp[af7,Qc,zzam];refine Ss Y0 _ g o.fr mid (Yl o.fr g.ev []) o q d hR (gz.axx (by simpa using CF []) (by simpa using WN) _) qs iL _ fun dW ls ke vd hv=>?_;have fL:=hv.1;have Cx:=cell_of fL;have hc3:=agi fL;simp[zzam,fL,Cx,hc3];refine⟨by omega,by omega,rfl,rfl,rfl,rfl,rfl,rfl,rfl,rfl,rfl,rfl,rfl,rfl,rfl,rfl,rfl,?_,?_⟩
   ·refine hv.2 _ (by simp) (fun j h1 h2=>?_) _;simp at h1;obtain⟨i,rfl⟩:∃i,j=i+4:=⟨j-4,by omega⟩;simp
   rfl
def Mk(g:Pg)(o:Od)(h:Su g o):Pure Tryz.prog az 37 [.agg (Qo g),.agg (Qq o)] (.agg (Qo (Zr g o))):=by
 obtain⟨re,rc,rd,evr,hw,hp⟩:=anp g o h;refine Xa hp ?_;unfold Qo;simp only[Qc,zzae,zzaj];refine Qcp ?_;exact⟨Wk.refl _,Wk.refl _,Wk.refl _,Wk.refl _,Wk.refl _,Wk.refl _,Wk.refl _,Wk.refl _,Wk.refl _,Wk.refl _,Wk.refl _,Wk.refl _,Wk.refl _,hw,Wk.sl _ _,Wk.refl _,Wk.sl _ _,Wk.refl _,trivial⟩
open Go Go.Abs
def Ml{l l':List AV}(h:WkL l l'):Wk (.aW l) (.aW l'):=fun w γ v hr=>by
 have key:∀{l l':List AV},WkL l l'->l.length=l'.length/\∀(i:Nat)(c':AV),l'[i]?=some c'->∃c,l[i]?=some c/\Wk c c':=by
  intro l;induction l with
  |nil=>intro l' h;cases l' with
   |nil=>exact⟨rfl,fun i c' h=>by simp at h⟩
   |cons _ _=>exact h.elim
  |cons a l ih=>intro l' h;cases l' with
   |nil=>exact h.elim
   |cons b l'=>
    obtain⟨h1,h2⟩:=ih h.2;refine⟨by simp[h1],fun i c' hc=>?_⟩;cases i with
    |zero=>simp at hc;subst hc;exact⟨a,rfl,h.1⟩
    |succ i=>simpa using h2 i c' (by simpa using hc)
 obtain⟨h1,h2⟩:=key h;cases hr with
 |aW hl hc=>
  refine .aW (by omega) fun i c' v qq hv=>?_;obtain⟨c,g1,g2⟩:=h2 i c' qq;exact g2 _ _ _ (hc i c v g1 hv)
def pl0:Pl:=⟨0,0,0,0,[],0,0,0,0,[],[],[],[]⟩
def pg0:Pg:=⟨pl0,[],[],0,[],0⟩
def I2(p:Pl):Option (List Sp):=if sR p=false then none else Jp p (Uj p) [] [] 0 (-1)
def iJ(p:Pl):Pg:=match I2 p with
 |none=>pg0
 |some l=>⟨p,jQ p l 0,[],0,[],0⟩
def HB(p:Pl):List Int:=if sR p=false then[]else match I2 p with
 |none=>nZ (IY p) (Uj p)
 |some _=>[]
def kz(p:Pl):Int:=if sR p=false then 80 else match I2 p with
 |none=>90
 |some _=>0
def ati{V X Y:AV}{p:Pl}{ev:List bE}{cu:List Cue}{dr:List Int}{ed ve:Int}(h1:Wk V (.sl .ro (ev.map Qf)))(h2:Wk X (.sl .ro (cu.map Qi)))(h3:Wk Y (.sl .ro (dr.map Qy))):
  Wk (.agg (Qc p++[V,X,I ed,Y,I ve])) (.agg (Qo ⟨p,ev,cu,ed,dr,ve⟩)):=by
 unfold Qo;simp only[Qc,zzae,zzaj];exact Qcp ⟨Wk.refl _,Wk.refl _,Wk.refl _,Wk.refl _,Wk.refl _,Wk.refl _,Wk.refl _,Wk.refl _,Wk.refl _,Wk.refl _,Wk.refl _,Wk.refl _,Wk.refl _,h1,h2,Wk.refl _,h3,Wk.refl _,trivial⟩
def aao:Wk (.agg iH) (.agg (Qo pg0)):=by
 unfold iH pg0 pl0 Qo;simp only[Qc,zzae,zzaj,zzcg];exact Qcp ⟨Wk.refl _,Wk.refl _,Wk.refl _,Wk.refl _,Wk.sl _ _,Wk.refl _,Wk.refl _,Wk.refl _,Wk.refl _,Wk.sl _ _,Wk.sl _ _,Wk.sl _ _,Wk.sl _ _,Wk.sl _ _,Wk.sl _ _,Wk.refl _,Wk.sl _ _,Wk.refl _,trivial⟩
def Mm(p:Pl)(hp:Bn p)(cS:p.ln<=1000000)(Ts:∀e∈p.ens,e.ea<=9223372036854775807)(hl:∀l,I2 p=some l->l.length<=1000000/\∀s∈l,-1000000000<=s.2/\s.2<=1000000000):
  Pure Tryz.prog az 31 [.agg (Qc p)] (.aW [.agg (Qo (iJ p)),.sl .ro ((HB p).map Qy),I (kz p)]):=by
 obtain⟨h1,h2,h3,h4,h5,h6⟩:=hp;have k60:=RO p ⟨by omega,by omega,by omega,by omega,by omega,h6⟩ h5 (by omega) (by omega) Ts;have k61:=p5 p ⟨h1,h2,h3,h4,h5,h6⟩;by_cases hv:sR p=false
 ·have hr:RN p=.aW [.sl .nil [],.sl .nil [],I 80]:=by unfold RN;rw[if_pos hv]
  have hb:I2 p=none:=by unfold I2;rw[if_pos hv]
  have hg:iJ p=pg0:=by unfold iJ;rw[hb]
  have hc:HB p=[]:=by unfold HB;rw[if_pos hv]
  have he:kz p=80:=by unfold kz;rw[if_pos hv]
  rw[hr]at k60;rw[hg,hc,he];simp only[Qc]at k60
  have:Pure Tryz.prog az 31 [.agg (Qc p)] (.aW [.agg iH,.sl .nil [],I 80]):=by
   refine Qn I6 (fun _ f _=>if f=60 then .aW [.sl .nil [],.sl .nil [],I 80]else .junk) (by simp) ?_;simp[abS,abT,Qc,iH];exact k60
  exact Xa this (Ml ⟨aao,Wk.sl _ _,Wk.refl _,trivial⟩)
 cases hx:Jp p (Uj p) [] [] 0 (-1)with
 |none=>
  have hr:RN p=.aW [.sl .nil [],.sl .ro ((nZ (IY p) (Uj p)).map Qy),I 90]:=by unfold RN;rw[if_neg hv,hx]
  have hb:I2 p=none:=by unfold I2;rw[if_neg hv,hx]
  have hg:iJ p=pg0:=by unfold iJ;rw[hb]
  have hc:HB p=nZ (IY p) (Uj p):=by unfold HB;rw[if_neg hv,hb]
  have he:kz p=90:=by unfold kz;rw[if_neg hv,hb]
  rw[hr]at k60;rw[hg,hc,he];simp only[Qc]at k60
  have:Pure Tryz.prog az 31 [.agg (Qc p)] (.aW [.agg iH,.sl .ro ((nZ (IY p) (Uj p)).map Qy),I 90]):=by
   refine Qn I6 (fun _ f _=>if f=60 then .aW [.sl .nil [],.sl .ro ((nZ (IY p) (Uj p)).map Qy),I 90]else .junk) (by simp) ?_;simp[abS,abT,Qc,iH];exact k60
  exact Xa this (Ml ⟨aao,Wk.refl _,Wk.refl _,trivial⟩)
 |some l=>
  have hr:RN p=.aW [IZ l,.sl .nil [],I 0]:=by unfold RN;rw[if_neg hv,hx]
  have hb:I2 p=some l:=by unfold I2;rw[if_neg hv,hx]
  have hg:iJ p=⟨p,jQ p l 0,[],0,[],0⟩:=by unfold iJ;rw[hb]
  have hc:HB p=[]:=by unfold HB;rw[if_neg hv,hb]
  have he:kz p=0:=by unfold kz;rw[if_neg hv,hb]
  obtain⟨ew,AW⟩:=hl l hb;rw[hr,Hy]at k60;rw[hg,hc,he];have hcx:=Mi l;have anq:=fun m d y=>hcx m d y;have k62:=Zu (sL p l 0 h5 (by omega) (by omega) (by omega) h6 cS ew AW) (l:=[.agg (Qc p),.sl (uY l) (l.map Qe),I 0]) ⟨Wk.refl _,Wk.sl _ _,Wk.refl _,trivial⟩;simp only[Qc]at k60 k61 k62
  have:Pure Tryz.prog az 31 [.agg (Qc p)] (.aW [.agg (Qc p++[.sl .ro ((jQ p l 0).map Qf),.sl .nil [],I 0,.sl .nil [],I 0]),.sl .nil [],I 0]):=by
   refine Qn I6 (fun _ f x=>if f=60 then .aW [.sl (uY l) (l.map Qe),.sl .nil [],I 0]else if f=61 then x.headD .junk else if f=62 then .sl .ro ((jQ p l 0).map Qf)else .junk) (by simp) ?_;simp[abS,abT,Qc,anq];exact⟨k60,k61,k62⟩
  exact Xa this (Ml ⟨ati (Wk.refl _) (Wk.sl _ _) (Wk.sl _ _),Wk.sl _ _,Wk.refl _,trivial⟩)
end Go.Proofs.YtnopaopphmjnmaaGreatDoor
