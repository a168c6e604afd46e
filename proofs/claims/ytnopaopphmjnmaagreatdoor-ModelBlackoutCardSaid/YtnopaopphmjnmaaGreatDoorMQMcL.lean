import Derived.Test.YtnopaopphmjnmaaGreatDoorMQMcH
set_option linter.all false
set_option maxRecDepth 100000
set_option maxHeartbeats 64000000
namespace Go.Proofs.YtnopaopphmjnmaaGreatDoor
open Go Go.Abs
def zt{a:AV}:Wk a a:=.refl a
def yi{a c:AV}(h:some a=some c):∃y,some a=some y/\Wk y c:=by cases h;exact⟨_,rfl,.refl _⟩
def mj(g:Pg)(f:Int)(b:List (Int×Bool))(o:Od)(q:Pl)(d:Int):Option bE:=match Jp g f b with
 |none=>none
 |some e=>match iM g f o q d e with
  |none=>none
  |some F=>if F=0 then none else some ⟨e.id,e.it,f,F,e.i+(f-e.st),qp q f e.it F q.rg.toNat,kj q f e.id F ((Zh e.id q.ens).getD yH).al,decide (kj q f e.id F ((Zh e.id q.ens).getD yH).al=[])⟩
def Td(e:bE):bE:={e with nl:=false}
def Jw(g:Pg)(f:Int)(b:List (Int×Bool))(o:Od)(q:Pl)(d:Int):List bE:=(Ye f g.ev).map Td++(mj g f b o q d).toList
def Ku(g:Pg)(f:Int)(b:List (Int×Bool))(o:Od)(q:Pl)(d:Int):Int:=match mj g f b o q d with
 |none=>f
 |some e=>f+e.fr
def qt(g:Pg)(f:Int)(b:List (Int×Bool))(o:Od)(q:Pl)(d:Int):List Ad:=SZ (Jw g f b o q d) (Ku g f b o q d)
def tI(g:Pg)(f:Int)(b:List (Int×Bool))(o:Od)(q:Pl)(d:Int):List Bool:=Wd q (Ku g f b o q d) (qt g f b o q d) (Kk g b q.ens)
def Yy(g:Pg)(f:Int)(b:List (Int×Bool))(o:Od)(q:Pl)(d:Int):List Sp:=(Yu q (Ku g f b o q d) (qt g f b o q d) (Xe true (Kk g b q.ens) (tI g f b o q d))).getD []
def PG(g:Pg)(f:Int)(b:List (Int×Bool))(o:Od)(q:Pl)(d:Int):List Int:=Xe false (Kk g b q.ens) (tI g f b o q d)
def iw(g:Pg)(f:Int)(b:List (Int×Bool))(o:Od)(q:Pl)(d:Int):List bE:=DC q (Yy g f b o q d) (Ku g f b o q d)
def H8(l:List Sp):JZ l=.sl (uC l) (l.map Qf):=by
 unfold JZ uC;split
 ·rename_i h;rw[h];rfl
 rfl
def agS(l:List Int):HY l=.sl (uC l) (l.map Qy):=by
 unfold HY uC;split
 ·rename_i h;rw[h];rfl
 rfl
def yU(l:List bE):(l.map Td).map Zw=l.map Qe:=by
 rw[zzcz];exact zzda fun e _=>rfl
def BS(l:List bE):(l.map Td).map Qe=l.map Qe:=by
 rw[zzcz];exact zzda fun e _=>rfl
def PI(g:Pg)(past:List Ad)(L:List Sp)(D:List Int)(bl:List bE):Nat->FuncId->List AV->AV:=fun dst fn l=>
 if fn=159 then .sl .ro (past.map Vl)else if fn=158 then .aZ [.sl (uC L) (L.map Qf),.sl (uC D) (D.map Qy)]else if fn=62 then .sl .ro (bl.map Qe)
 else if fn=157 then(match l with|[_,.int _ id]=>.bool (decide (id∈g.dr))|_=>.junk)else if fn=999999 then(if dst=95\/dst=97 then .aL 0 []else .junk)else .gd false .junk
structure H9 (g:Pg) (f:Int) (b:List (Int×Bool)) (o:Od) (q:Pl) (d:Int):Prop where
 mo:mg g f
 pl:BJ q
 pk:PlK q
 d0:0<=d/\d<=1000000000
 rg:0<=q.rg/\q.rg<=8
 f0:0<=f/\f<=1000000
 ev:g.ev.length<=900
 dr:g.dr.length<=1000000
 ln:q.ln<=1000000
 cu:∀e,mj g f b o q d=some e->Ul e
 en:0<=Ku g f b o q d/\Ku g f b o q d<=1000000
 st:∀s∈Yy g f b o q d,-1000000000<=s.2/\s.2<=1000000000
def lQ{g:Pg}{f:Int}{b:List (Int×Bool)}{o:Od}{q:Pl}{d:Int}(h:H9 g f b o q d):(Jw g f b o q d).length<=901/\∀e∈Jw g f b o q d,Ul e:=by
 have h1:=Qdu f g.ev;have h2:=ow f h.f0.2 g.ev h.mo.2.1;refine⟨?_,fun e he=>?_⟩
 ·have:=h.ev;have h3:(mj g f b o q d).toList.length<=1:=by cases mj g f b o q d<;>simp
  simp only[Jw,zzai,zzbj];omega
 rcases zzam.1 he with he|he
 ·obtain⟨x,hx,rfl⟩:=zzax.1 he;exact h2 x hx
 exact h.cu e (by cases hc:mj g f b o q d with
  |none=>rw[hc]at he;simp at he
  |some x=>rw[hc]at he;simp at he;rw[he])
def aa7{g:Pg}{f:Int}{b:List (Int×Bool)}{o:Od}{q:Pl}{d:Int}(h:H9 g f b o q d):(qt g f b o q d).length<=901:=by
 have h1:=HU (Ye (Ku g f b o q d) (Jw g f b o q d)) none [];have h2:=Qdu (Ku g f b o q d) (Jw g f b o q d);have h3:=(lQ h).1;simp only[zzcf]at h1;unfold qt SZ;omega
def agT{g:Pg}{f:Int}{b:List (Int×Bool)}{o:Od}{q:Pl}{d:Int}(h:H9 g f b o q d)(ce:Rt):Pure Tryz.prog aA 159 [.sl ce ((Jw g f b o q d).map Zw),I (Ku g f b o q d)] (.sl .ro ((qt g f b o q d).map Vl)):=
 Zo (ME (Jw g f b o q d) (Ku g f b o q d) (by have:=(lQ h).1;omega) (lQ h).2 h.en) ⟨Wk.trans (Wk.sl _ _) (LW _),zt,trivial⟩
def agU{g:Pg}{f:Int}{b:List (Int×Bool)}{o:Od}{q:Pl}{d:Int}(h:H9 g f b o q d)(ci:Rt):
  Pure Tryz.prog aA 158 [.agg (Qa q),.sl ci ((Kk g b q.ens).map Qy),I (Ku g f b o q d),.sl .ro ((qt g f b o q d).map Vl)] (.aZ [.sl (uC (Yy g f b o q d)) ((Yy g f b o q d).map Qf),.sl (uC (PG g f b o q d)) ((PG g f b o q d).map Qy)]):=by
 have h1:=kJ g b q.ens;have h2:=h.pk.ens;have h3:=h.en;have:=aa2 h.pk (at_:=Ku g f b o q d) (by unfold aob;omega) (past:=qt g f b o q d) (by have:=aa7 h;omega) (ids:=Kk g b q.ens) zE;rw[Ta,H8,agS]at this;exact Zo this ⟨zt,Wk.sl _ _,zt,zt,trivial⟩
def aof{g:Pg}{f:Int}{b:List (Int×Bool)}{o:Od}{q:Pl}{d:Int}(h:H9 g f b o q d)(hl:(Yy g f b o q d).length<=1000000)(rL:Rt):
  Pure Tryz.prog aA 62 [.agg (Qa q),.sl rL ((Yy g f b o q d).map Qf),I (Ku g f b o q d)] (.sl .ro ((iw g f b o q d).map Qe)):=by
 obtain⟨q1,q2,q3,q4,q5,q6⟩:=h.pl;exact Zo (sY q (Yy g f b o q d) (Ku g f b o q d) zE zE zE zE q6 h.ln hl h.st) ⟨zt,Wk.sl _ _,zt,trivial⟩
open Go Go.Abs
def Ea(ex eW:List (List AV))(a b c X:List AV):Qh (a::b::c::(ex++(eW++[X]))) (ex.length+(eW.length+3))=X:=by
 refine Qt ?_;have:a::b::c::(ex++(eW++[X]))=([a,b,c]++ex++eW)++[X]:=zd
 rw[this,zzal (by simp;omega),show ex.length+(eW.length+3)-([a,b,c]++ex++eW).length=0 by simp;omega];rfl
def EvW.more{ml:List Nat}{rt:Rt}{n:Nat}(h:EvW ml rt n)(x:List Nat):EvW (ml++x) rt n:=by
 obtain h|⟨k,h1,h2⟩:=h
 ·exact .inl h
 exact .inr ⟨k,h1,by rw[zzag (zza.1 h2).1];exact h2⟩
def EvW.cv{ml:List Nat}{rt:Rt}{n:Nat}(h:EvW ml rt n):∃ce,tH rt ce:=by
 obtain⟨rfl,_⟩|⟨k,rfl,_⟩:=h
 ·exact⟨_,tH.nil⟩
 exact⟨_,tH.own _ _⟩
def IdR.cv{ml ls:List Nat}{rt:Rt}{n:Nat}(h:IdR ml ls rt n):∃ci,tH rt ci:=by
 obtain⟨rfl,_⟩|⟨rfl,_⟩:=h
 ·exact⟨_,tH.nil⟩
 exact⟨_,tH.own _ _⟩
def IdR.ls{ml ls:List Nat}{rt:Rt}{n:Nat}(h:IdR ml ls rt n):∃x,ls=ml++x:=by
 obtain⟨_,_,rfl⟩|⟨_,_,rfl⟩:=h
 ·exact⟨[],zd⟩
 exact⟨_,rfl⟩
def Te(Y:YT)(m:AM)(g:Pg)(f:Int)(mid:Nat)(b:List (Int×Bool))(o:Od)(q:Pl)(d:Int)(h:H9 g f b o q d)(hb:gz m.boxes mid b)
  (qA:(Yy g f b o q d).length<=1000000)(iP:(iw g f b o q d).length<=10000000)(K:AV->AM->Prop)
  (
   hK:∀ex ls ke vd,iu m.boxes.length ⟨m.boxes++ex,ls,m.st,m.ln⟩ vd ((dd (Ww (g.dr++PG g f b o q d))).map Qy)->
   K (.aZ [.sl (.own ke 7) ((Jw g f b o q d).map Zw++(iw g f b o q d).map Qe),vd]) ⟨m.boxes++ex,ls,m.st,m.ln⟩):
  an Tryz.prog aA Y 77 [.agg (Qr g f mid),.agg (Qp o),.agg (Qa q++[I d])] m K:=by
 obtain⟨mb,ml,ms,mn⟩:=m;have hB:∀ex,gz (mb++ex) mid b:=fun ex=>⟨by have:=hb.1;simp at this |-;omega,hb.ext ex⟩;have agQ:=fun ce=>agT h ce;have aa5:=fun ci=>agU h ci;have k62:=fun rL=>aof h qA rL
 have hdl:(PG g f b o q d).length<=1000000:=by
  have h1:=qs false (Kk g b q.ens) (tI g f b o q d);have h2:=kJ g b q.ens;have h3:=h.pk.ens;unfold PG;omega
 have bT:=(lQ h).1;have hL:∀ev,Jw g f b o q d=ev->ev.length<=901:=fun ev he=>by rw[<- he];exact bT
 generalize hpast:qt g f b o q d=past at*
 generalize hstart:Yy g f b o q d=L at*
 generalize hdrop:PG g f b o q d=D at*
 generalize hbld:iw g f b o q d=bl at*
 have tail:∀(E:List (Nat×AV))(X:List (List AV))(ls:List Nat)(rte:Rt)(Q:Exit->AS->Prop),Abs.look E 3=.ptr mb.length 0->Qh (mb++X) mb.length=Qr g f mid->2<X.length->
   Abs.look E 5=.ptr (mb.length+2) 0->Qh (mb++X) (mb.length+2)=Qa q++[I d]->Abs.look E 8=.sl rte ((Jw g f b o q d).map Zw)->EvW ls rte (Jw g f b o q d).length->Abs.look E 9=I (Ku g f b o q d)->
   (∀E' ex cM ke vd,Abs.look E' 6=.sl (.own ke 7) ((Jw g f b o q d).map Zw++bl.map Qe)->Abs.look E' 7=vd->iu mb.length ⟨mb++ex,cM,ms,mn⟩ vd ((dd (Ww (g.dr++D))).map Qy)->Q .ret ⟨Xv 103 E',⟨mb++ex,cM,ms,mn⟩⟩)->
   vc Tryz.prog aA (PI g past L D bl) Y PE ⟨Xv 103 E,⟨mb++X,ls,ms,mn⟩⟩ Q:=by
  intro E X ls rte Q e3 r3 hX e5 r5 e8 hw e9 hQ;refine aa6 Y _ (by simp[PI]) (by simp[PI]) E (mb++X) ls ms mn g f mid mb.length (mb.length+2) b q d Q (fun d id=>by simp[PI]) e3 (by simp;omega) r3 e5 (by simp;omega) r5 (hB X) h.dr (by have:=h.pk.ens;omega) ?_;intro E' ex rt cM hE qG aK;obtain⟨ci,hci⟩:=aK.cv;obtain⟨ce,hce⟩:=hw.cv;obtain⟨x,rfl⟩:=aK.ls
  refine aa4 Y _ (by simp[PI]) (by simp[PI]) (by simp[PI]) (fun _ _=>by simp[PI]) (fun _ _=>by simp[PI]) E' (mb++X++ex) (ls++x) ms mn g f mid mb.length (mb.length+2) q d rte ce rt ci (uC L) (uC D) (Jw g f b o q d) bl (Ku g f b o q d) (Kk g b q.ens) D L past Q
   (fun _ _=>by simp[PI]) (fun _ _=>by simp[PI]) (fun _ _=>by simp[PI]) (agQ ce) (aa5 ci) (k62 _) hce hci (MJ L)
   ((hE 3 zE zE).trans e3) (by simp;omega) ((Ql (by simp;omega)).trans r3) ((hE 5 zE zE).trans e5) (by simp;omega) ((Ql (by simp;omega)).trans r5)
   ((hE 8 zE zE).trans e8) (hw.more x) ((hE 9 zE zE).trans e9) qG h.dr hdl zE iP ?_
  intro E2 eW ls2 ke vd q1 q2 q3;replace q3:=q3.mono (n':=mb.length) zd;rw[zzb,zzb]at q3 |-
  exact hQ E2 _ ls2 ke vd q1 q2 q3
 obtain⟨hm,gM,C8,hd0,EL,hf0,azI,ew,dy,sD,JR,ct⟩:=h;refine Xd amg (PI g past L D bl) zd ?_;rw[agP];simp[aug,ap7,Qr,Qm,Qa,Qp,Qd,Qg,Qi,PI];refine yM Y _ g.ev f zE hm.2.1 hf0 _ fun ex v ls hO=>?_;simp;have hbr:∀l:List bE,∀a∈l,(Qe a).length=7:=fun _ _ _=>rfl;have azJ:(Ye f g.ev).length<=900:=by have:=Qdu f g.ev;omega
 refine agy Y _ g f mid b o q (.sl .ro (q.ens.map Qd)) .ro d (.inl ⟨.ro,rfl,D1.ro⟩) D1.ro hm (hB _) gM hd0 EL _ (fun e F he hF qH eW ls2 v2 LV=>?_) (fun hn eW=>?_)
 ·have dH:mj g f b o q d=some ⟨e.id,e.it,f,F,e.i+(f-e.st),qp q f e.it F q.rg.toNat,kj q f e.id F ((Zh e.id q.ens).getD yH).al,decide (kj q f e.id F ((Zh e.id q.ens).getD yH).al=[])⟩:=by
   unfold mj;rw[he];simp only;rw[hF];simp only;rw[if_neg qH]
  have he1:Ku g f b o q d=f+F:=by unfold Ku;rw[dH]
  have hw:IntKind.i64.wrap (f+F)=f+F:=by rw[Qj]<;>omega
  have fK:(Jw g f b o q d).map Zw=(Ye f g.ev).map Qe++[[I e.id,I e.it,I f,I F,I (e.i+(f-e.st)),I (qp q f e.it F q.rg.toNat),.sl (if kj q f e.id F ((Zh e.id q.ens).getD yH).al=[]then .nil else .ro) ((kj q f e.id F ((Zh e.id q.ens).getD yH).al).map Qf)]]:=by
   unfold Jw;rw[dH,zzca,yU];simp[Zw]
  have aog:(Jw g f b o q d).length=(Ye f g.ev).length+1:=by
   unfold Jw;rw[dH];simp
  rw[fK,aog,he1]at tail;rw[fK]at hK;generalize kj q f e.id F ((Zh e.id q.ens).getD yH).al=A at*
  obtain⟨rfl,rfl,rfl⟩|⟨hA,rfl,rfl⟩:=LV
  ·obtain⟨h0,rfl,rfl⟩|⟨h0,rfl,rfl⟩:=hO
   ·rw[h0]at tail hK;simp[zzao,hw,Ea ex eW];refine tail _ _ _ _ _ zd (by simp[Qr,Qm,Qa]) zd zd (by simp[Qa]) (by simp;rfl) (.inr ⟨_,rfl,zd⟩) zd ?_;intro E' ir cM ke vd q1 q2 q3;have:=hK ir cM ke vd q3;simp[q1,q2]at this |-
    exact this
   skip
   simp[zzao,hw,Ea ex eW];refine⟨⟨by rintro row (⟨a,_,rfl⟩|rfl)<;>rfl,zE⟩,tail _ _ _ _ _ zd (by simp[Qr,Qm,Qa]) zd zd (by simp[Qa]) (by simp;rfl) (.inr ⟨_,rfl,zd⟩) zd ?_⟩;intro E' ir cM ke vd q1 q2 q3;have:=hK ir cM ke vd q3;simp[q1,q2]at this |-
   exact this
  obtain⟨h0,rfl,rfl⟩|⟨h0,rfl,rfl⟩:=hO
  ·rw[h0]at tail hK;simp[zzao,hw,Ea ex eW];refine tail _ _ _ (.own (ls.length+1) 7) _ zd (by simp[Qr,Qm,Qa]) zd zd (by simp[Qa]) (by simp[hA]) (.inr ⟨_,rfl,zd⟩) zd ?_;intro E' ir cM ke vd q1 q2 q3;have:=hK ir cM ke vd q3;simp[q1,q2]at this |-
   exact this
  skip
  simp[zzao,hw,Ea ex eW];refine⟨⟨by rintro row (⟨a,_,rfl⟩|rfl)<;>rfl,zE⟩,tail _ _ _ (.own ml.length 7) _ zd (by simp[Qr,Qm,Qa]) zd zd (by simp[Qa]) (by simp[hA]) (.inr ⟨_,rfl,zd⟩) zd ?_⟩;intro E' ir cM ke vd q1 q2 q3;have:=hK ir cM ke vd q3;simp[q1,q2]at this |-
  exact this
 have dH:mj g f b o q d=none:=by
  unfold mj;cases hp:Jp g f b with
  |none=>rfl
  |some e=>
   rw[hp]at hn;simp only[zzbz]at hn;obtain hn|hn:=hn
   ·simp only[hn]
   simp only[hn,if_true]
 have he1:Ku g f b o q d=f:=by unfold Ku;rw[dH]
 have fK:(Jw g f b o q d).map Zw=(Ye f g.ev).map Qe:=by
  unfold Jw;rw[dH,zzca,yU];simp
 have aog:(Jw g f b o q d).length=(Ye f g.ev).length:=by
  unfold Jw;rw[dH];simp
 rw[fK,aog,he1]at tail;rw[fK]at hK;obtain⟨h0,rfl,rfl⟩|⟨h0,rfl,rfl⟩:=hO
 ·rw[h0]at tail hK;simp[zzao,oo];refine tail _ _ _ .nil _ zd (by simp[Qr,Qm,Qa]) zd zd (by simp[Qa]) zd (.inl ⟨rfl,rfl⟩) zd ?_;intro E' ir cM ke vd q1 q2 q3;have:=hK ir cM ke vd q3;simp[q1,q2]at this |-
  exact this
 simp[zzao,oo];refine tail _ _ _ (.own ml.length 7) _ zd (by simp[Qr,Qm,Qa]) zd zd (by simp[Qa]) zd (.inr ⟨_,rfl,zd⟩) zd ?_;intro E' ir cM ke vd q1 q2 q3;have:=hK ir cM ke vd q3;simp[q1,q2]at this |-
 exact this
open Go Go.Abs
def Ia(c:Cue)(l:List Cue):Option (List Cue):=if tj c=true then(if 200<(iq c (!decide (c.to=0)) l).length then none else some (iq c (!decide (c.to=0)) l))else none
def Ib(c:Cue)(l:List Cue):ng c l=match Ia c l with
 |none=>.aZ [.sl .nil [],I 150]
 |some x=>.aZ [.sl (uC x) (x.map Qi),I 0]:=by
 unfold ng Ia uC;split
 ·split<;>rfl
 rfl
def kK(g:Pg)(o:Od)(b:List (Int×Bool))(q:Pl)(d:Int):Pg:=
 {g with p:=q,ev:=Jw g o.fr b o q d++iw g o.fr b o q d,dr:=dd (Ww (g.dr++PG g o.fr b o q d)),ve:=g.ve+1}
def Xw(g:Pg)(o:Od):Pg:=
 if Kv g o=false then{g with ve:=g.ve+1}
 else if o.ki=5 then(match Ia o.cu g.cu with
  |none=>{g with ve:=g.ve+1}
  |some x=>{g with cu:=x,ed:=o.fr,ve:=g.ve+1})
 else match yR g o.fr (Vb o.fr g.ev []) o with
  |none=>{g with ve:=g.ve+1}
  |some (q,d)=>kK g o (Vb o.fr g.ev []) q d
structure ML (g:Pg) (o:Od):Prop where
 pg:PgC g
 al:o.nw.al.length<=8796093022208
 ve:0<=g.ve/\g.ve<=1000000
 cu:g.cu.length<=1000000
 ch:Kv g o=true->o.ki≠5->aaV g o.fr o
 rn:Kv g o=true->o.ki≠5->∀q d,yR g o.fr (Vb o.fr g.ev []) o=some (q,d)->H9 g o.fr (Vb o.fr g.ev []) o q d/\(Yy g o.fr (Vb o.fr g.ev []) o q d).length<=1000000/\(iw g o.fr (Vb o.fr g.ev []) o q d).length<=10000000
def gz.more{bx:List (List AV)}{mid:Nat}{b:List (Int×Bool)}(h:gz bx mid b)(x:List (List AV)):gz (bx++x) mid b:=⟨by have:=h.1;simp;omega,h.ext x⟩
def gz.ayN{a b c d d':List AV}{ex:List (List AV)}{mid:Nat}{bg:List (Int×Bool)}(h:gz (a::b::c::d::ex) mid bg)(hm:4<=mid)(x:List (List AV)):gz (a::b::c::d'::(ex++x)) mid bg:=by
 obtain⟨j,rfl⟩:∃j,mid=j+4:=⟨mid-4,zE⟩;obtain⟨h1,h2⟩:=h;have hg:=Ug h1;rw[h2]at hg;simp only[zzdh]at hg;have hj:=(zza.1 hg).1;refine⟨by simp;omega,Qt ?_⟩;simp only[zzdh];rw[zzag hj,hg]
def cell_of{a:AV}(h:Qw a=true):cellsOf a=[a]:=by cases a<;>simp_all[Qw,cellsOf]
def agV{a:AV}(h:Qw a=true):bare a=true:=by cases a<;>simp_all[Qw,bare]
def aoh(a b:List bE):Wk (.sl .ro (a.map Zw++b.map Qe)) (.sl .ro ((a++b).map Qe)):=by
 have h:a.map Zw++b.map Qe=(a++b.map Td).map Zw:=by rw[zzca,yU]
 have h2:(a++b).map Qe=(a++b.map Td).map Qe:=by rw[zzca,zzca,BS]
 rw[h,h2];exact LW _
def aoi(g:Pg)(o:Od)(h:ML g o):∃re rc rd evr,Wk (.sl re evr) (.sl .ro ((Xw g o).ev.map Qe))/\
  Pure Tryz.prog aA 37 [.agg (Qm g),.agg (Qp o)] (.agg (Qa (Xw g o).p++[.sl re evr,.sl rc ((Xw g o).cu.map Qi),I (Xw g o).ed,.sl rd ((Xw g o).dr.map Qy),I (Xw g o).ve])):=by
 obtain⟨hpg,eD,hve,sD,fQ,uj⟩:=h;have k76:=aav g hpg;have Eb:=tw g o eD;have sV:=BP g.cu o.cu sD;rw[Ib]at sV;simp only[Qm,Qa,Qp,Qd,Qg,Qi,zzad,zzah]at k76 Eb sV;have hw:IntKind.i64.wrap (g.ve+1)=g.ve+1:=by rw[Qj]<;>omega
 cases hc:Kv g o with
 |false=>
  have ha:Xw g o={g with ve:=g.ve+1}:=by unfold Xw;rw[if_pos hc]
  rw[ha];rw[hc]at Eb;refine⟨.ro,.ro,.ro,g.ev.map Qe,zt,Qo vq (fun _ f l=>if f=76 then l.headD .junk else if f=68 then .bool (Kv g o)else .gd false .junk) zd ?_⟩;simp[QY,QZ,Qm,Qa,Qp,Qd,Qg,Qi,hc,hw];exact⟨k76,Eb⟩
 |true=>
  rw[hc]at Eb;by_cases h5:o.ki=5
  ·rw[h5]at Eb;cases he:Ia o.cu g.cu with
   |none=>
    have ha:Xw g o={g with ve:=g.ve+1}:=by unfold Xw;rw[if_neg (by rw[hc];decide),if_pos h5,he]
    rw[ha];rw[he]at sV;refine⟨.ro,.ro,.ro,g.ev.map Qe,zt,Qo vq (fun _ f l=>if f=76 then l.headD .junk else if f=68 then .bool true else if f=69 then .aZ [.sl .nil [],I 150]else .gd false .junk) zd ?_⟩;simp[QY,QZ,Qm,Qa,Qp,Qd,Qg,Qi,hw,h5];exact⟨k76,Eb,sV⟩
   |some x=>
    have ha:Xw g o={g with cu:=x,ed:=o.fr,ve:=g.ve+1}:=by unfold Xw;rw[if_neg (by rw[hc];decide),if_pos h5,he]
    rw[ha];rw[he]at sV;have hcx:=MJ x;have aoj:=fun m d y=>hcx m d y;refine⟨.ro,uC x,.ro,g.ev.map Qe,zt,Qo vq (fun _ f l=>if f=76 then l.headD .junk else if f=68 then .bool true else if f=69 then .aZ [.sl (uC x) (x.map Qi),I 0]else .gd false .junk) zd ?_⟩;simp[QY,QZ,Qm,Qa,Qp,Qd,Qg,Qi,hw,h5];refine⟨k76,Eb,sV,Ze ?_⟩;simp[aoj]
  have fQ:=fQ hc h5;have uj:=uj hc h5;cases hx:yR g o.fr (Vb o.fr g.ev []) o with
  |none=>
   have ha:Xw g o={g with ve:=g.ve+1}:=by unfold Xw;rw[if_neg (by rw[hc];decide),if_neg h5,hx]
   rw[ha];refine⟨.ro,.ro,.ro,g.ev.map Qe,zt,Qo vq (fun _ f l=>if f=76 then l.headD .junk else if f=68 then .bool true else .gd false .junk) zd ?_⟩;simp[QY,QZ,Qm,Qa,Qp,Qd,Qg,Qi,hw,h5];refine⟨k76,Eb,?_⟩;refine BR Y0 _ g o.fr (by have:=hpg.2.1;omega) _ fun ex mid hex XY fI=>?_;simp[Qr,Qm,Qa,zzao];refine PD Y0 _ g o.fr mid (Vb o.fr g.ev []) o fQ ?_ ?_ _ ?_
   ·have:=fun x=>gz.more fI x;simp only[zzad,zzah]at this;exact this _
   ·intro c hc;simp only[zzat,zzam,zzdy,or_false]at hc;obtain rfl|rfl|rfl|rfl|hc|rfl:=hc
    ·exact fe.of zd rfl
    ·exact fe.of zd rfl
    ·exact fe.of zd rfl
    ·exact fe.of zd rfl
    ·exact hex c hc
    exact fe.mo g o.fr mid
   rw[hx];simp[Am,S6]
  |some r=>
   obtain⟨q,d⟩:=r;obtain⟨hR,qA,iP⟩:=uj q d hx;have ha:Xw g o=kK g o (Vb o.fr g.ev []) q d:=by unfold Xw;rw[if_neg (by rw[hc];decide),if_neg h5,hx]
   rw[ha];refine⟨.ro,.ro,uC ((kK g o (Vb o.fr g.ev []) q d).dr.map Qy),(Jw g o.fr (Vb o.fr g.ev []) o q d).map Zw++(iw g o.fr (Vb o.fr g.ev []) o q d).map Qe,aoh _ _,Qo vq (fun _ f l=>if f=76 then l.headD .junk else if f=68 then .bool true else .gd false .junk) zd ?_⟩;simp[QY,QZ,Qm,Qa,Qp,Qd,Qg,Qi,hw,h5];refine⟨k76,Eb,?_⟩;refine BR Y0 _ g o.fr (by have:=hpg.2.1;omega) _ fun ex mid hex XY fI=>?_;simp[Qr,Qm,Qa,zzao];have zo:=fun x=>gz.more fI x;simp only[zzad,zzah]at zo
   refine PD Y0 _ g o.fr mid (Vb o.fr g.ev []) o fQ (zo _) (by
    intro c hc;simp only[zzat,zzam,zzdy,or_false]at hc;obtain rfl|rfl|rfl|rfl|hc|rfl:=hc
    ·exact fe.of zd rfl
    ·exact fe.of zd rfl
    ·exact fe.of zd rfl
    ·exact fe.of zd rfl
    ·exact hex c hc
    exact fe.mo g o.fr mid) _ ?_
   rw[hx];simp[Am,Qa,zzao];refine Te Y0 _ g o.fr mid (Vb o.fr g.ev []) o q d hR (gz.ayN (by simpa using zo []) (by simpa using XY) _) qA iP _ fun eW ls ke vd hv=>?_;have fN:=hv.1;have zJ:=cell_of fN;have hc3:=agV fN;simp[zzao,fN,zJ,hc3];refine⟨zE,zE,rfl,rfl,rfl,rfl,rfl,rfl,rfl,rfl,rfl,rfl,rfl,rfl,rfl,rfl,rfl,?_,?_⟩
   ·refine hv.2 _ zd (fun j h1 h2=>?_) _;simp at h1;obtain⟨i,rfl⟩:∃i,j=i+4:=⟨j-4,zE⟩;simp
   rfl
def MM(g:Pg)(o:Od)(h:ML g o):Pure Tryz.prog aA 37 [.agg (Qm g),.agg (Qp o)] (.agg (Qm (Xw g o))):=by
 obtain⟨re,rc,rd,evr,hw,hp⟩:=aoi g o h;refine Xa hp ?_;unfold Qm;simp only[Qa,zzad,zzah];refine Qcq ?_;exact⟨zt,zt,zt,zt,zt,zt,zt,zt,zt,zt,zt,zt,zt,hw,Wk.sl _ _,zt,Wk.sl _ _,zt,trivial⟩
open Go Go.Abs
def MN{l l':List AV}(h:WkL l l'):Wk (.aZ l) (.aZ l'):=fun w γ v hr=>by
 have key:∀{l l':List AV},WkL l l'->l.length=l'.length/\∀(i:Nat)(c':AV),l'[i]?=some c'->∃c,l[i]?=some c/\Wk c c':=by
  intro l;induction l with
  |nil=>intro l' h;cases l' with
   |nil=>exact⟨rfl,fun i c' h=>by simp at h⟩
   |cons _ _=>exact h.elim
  |cons a l ih=>intro l' h;cases l' with
   |nil=>exact h.elim
   |cons b l'=>
    obtain⟨h1,h2⟩:=ih h.2;refine⟨by simp[h1],fun i c' hc=>?_⟩;cases i with
    |zero=>simp at hc;subst hc;exact⟨a,rfl,h.1⟩
    |succ i=>simpa using h2 i c' (by simpa using hc)
 obtain⟨h1,h2⟩:=key h;cases hr with
 |aZ hl hc=>
  refine .aZ zE fun i c' v oW hv=>?_;obtain⟨c,g1,g2⟩:=h2 i c' oW;exact g2 _ _ _ (hc i c v g1 hv)
def pl0:Pl:=⟨0,0,0,0,[],0,0,0,0,[],[],[],[]⟩
def pg0:Pg:=⟨pl0,[],[],0,[],0⟩
def J2(p:Pl):Option (List Sp):=if oa p=false then none else Jq p (Uj p) [] [] 0 (-1)
def uD(p:Pl):Pg:=match J2 p with
 |none=>pg0
 |some l=>⟨p,DC p l 0,[],0,[],0⟩
def Ic(p:Pl):List Int:=if oa p=false then[]else match J2 p with
 |none=>oc (JY p) (Uj p)
 |some _=>[]
def zD(p:Pl):Int:=if oa p=false then 80 else match J2 p with
 |none=>90
 |some _=>0
def auo{V X Y:AV}{p:Pl}{ev:List bE}{cu:List Cue}{dr:List Int}{ed ve:Int}(h1:Wk V (.sl .ro (ev.map Qe)))(h2:Wk X (.sl .ro (cu.map Qi)))(h3:Wk Y (.sl .ro (dr.map Qy))):
  Wk (.agg (Qa p++[V,X,I ed,Y,I ve])) (.agg (Qm ⟨p,ev,cu,ed,dr,ve⟩)):=by
 unfold Qm;simp only[Qa,zzad,zzah];exact Qcq ⟨zt,zt,zt,zt,zt,zt,zt,zt,zt,zt,zt,zt,zt,h1,h2,zt,h3,zt,trivial⟩
def aa8:Wk (.agg iL) (.agg (Qm pg0)):=by
 unfold iL pg0 pl0 Qm;simp only[Qa,zzad,zzah,zzcc];exact Qcq ⟨zt,zt,zt,zt,Wk.sl _ _,zt,zt,zt,zt,Wk.sl _ _,Wk.sl _ _,Wk.sl _ _,Wk.sl _ _,Wk.sl _ _,Wk.sl _ _,zt,Wk.sl _ _,zt,trivial⟩
def MO(p:Pl)(hp:BJ p)(dy:p.ln<=1000000)(UD:∀e∈p.ens,e.ea<=9223372036854775807)(hl:∀l,J2 p=some l->l.length<=1000000/\∀s∈l,-1000000000<=s.2/\s.2<=1000000000):
  Pure Tryz.prog aA 31 [.agg (Qa p)] (.aZ [.agg (Qm (uD p)),.sl .ro ((Ic p).map Qy),I (zD p)]):=by
 obtain⟨h1,h2,h3,h4,h5,h6⟩:=hp;have k60:=Sx p ⟨zE,zE,zE,zE,zE,h6⟩ h5 zE zE UD;have k61:=qi p ⟨h1,h2,h3,h4,h5,h6⟩;by_cases hv:oa p=false
 ·have hr:Sw p=.aZ [.sl .nil [],.sl .nil [],I 80]:=by unfold Sw;rw[if_pos hv]
  have hb:J2 p=none:=by unfold J2;rw[if_pos hv]
  have hg:uD p=pg0:=by unfold uD;rw[hb]
  have hc:Ic p=[]:=by unfold Ic;rw[if_pos hv]
  have he:zD p=80:=by unfold zD;rw[if_pos hv]
  rw[hr]at k60;rw[hg,hc,he];simp only[Qa]at k60
  have:Pure Tryz.prog aA 31 [.agg (Qa p)] (.aZ [.agg iL,.sl .nil [],I 80]):=by
   refine Qo J7 (fun _ f _=>if f=60 then .aZ [.sl .nil [],.sl .nil [],I 80]else .junk) zd ?_;simp[acz,acA,Qa,iL];exact k60
  exact Xa this (MN ⟨aa8,Wk.sl _ _,zt,trivial⟩)
 cases hx:Jq p (Uj p) [] [] 0 (-1)with
 |none=>
  have hr:Sw p=.aZ [.sl .nil [],.sl .ro ((oc (JY p) (Uj p)).map Qy),I 90]:=by unfold Sw;rw[if_neg hv,hx]
  have hb:J2 p=none:=by unfold J2;rw[if_neg hv,hx]
  have hg:uD p=pg0:=by unfold uD;rw[hb]
  have hc:Ic p=oc (JY p) (Uj p):=by unfold Ic;rw[if_neg hv,hb]
  have he:zD p=90:=by unfold zD;rw[if_neg hv,hb]
  rw[hr]at k60;rw[hg,hc,he];simp only[Qa]at k60
  have:Pure Tryz.prog aA 31 [.agg (Qa p)] (.aZ [.agg iL,.sl .ro ((oc (JY p) (Uj p)).map Qy),I 90]):=by
   refine Qo J7 (fun _ f _=>if f=60 then .aZ [.sl .nil [],.sl .ro ((oc (JY p) (Uj p)).map Qy),I 90]else .junk) zd ?_;simp[acz,acA,Qa,iL];exact k60
  exact Xa this (MN ⟨aa8,zt,zt,trivial⟩)
 |some l=>
  have hr:Sw p=.aZ [JZ l,.sl .nil [],I 0]:=by unfold Sw;rw[if_neg hv,hx]
  have hb:J2 p=some l:=by unfold J2;rw[if_neg hv,hx]
  have hg:uD p=⟨p,DC p l 0,[],0,[],0⟩:=by unfold uD;rw[hb]
  have hc:Ic p=[]:=by unfold Ic;rw[if_neg hv,hb]
  have he:zD p=0:=by unfold zD;rw[if_neg hv,hb]
  obtain⟨ez,Bg⟩:=hl l hb;rw[hr,H8]at k60;rw[hg,hc,he];have hcx:=MJ l;have aoj:=fun m d y=>hcx m d y;have k62:=Zo (sY p l 0 h5 zE zE zE h6 dy ez Bg) (l:=[.agg (Qa p),.sl (uC l) (l.map Qf),I 0]) ⟨zt,Wk.sl _ _,zt,trivial⟩;simp only[Qa]at k60 k61 k62
  have:Pure Tryz.prog aA 31 [.agg (Qa p)] (.aZ [.agg (Qa p++[.sl .ro ((DC p l 0).map Qe),.sl .nil [],I 0,.sl .nil [],I 0]),.sl .nil [],I 0]):=by
   refine Qo J7 (fun _ f x=>if f=60 then .aZ [.sl (uC l) (l.map Qf),.sl .nil [],I 0]else if f=61 then x.headD .junk else if f=62 then .sl .ro ((DC p l 0).map Qe)else .junk) zd ?_;simp[acz,acA,Qa,aoj];exact⟨k60,k61,k62⟩
  exact Xa this (MN ⟨auo (zt) (Wk.sl _ _) (Wk.sl _ _),Wk.sl _ _,zt,trivial⟩)
