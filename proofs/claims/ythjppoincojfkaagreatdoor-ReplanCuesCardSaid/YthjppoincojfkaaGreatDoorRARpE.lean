import Derived.Test.YthjppoincojfkaaGreatDoorRASnC
set_option linter.all false
namespace Go.Proofs.YthjppoincojfkaaGreatDoor
open Go Go.Abs
def aal(g:Pg)(c:Od)(hk:c.ki=5):∃(x:List Cue)(y:Int),(y=g.ed\/y=c.fr)/\∀(p:Pl)(ev:List bC)(dr:Pi)(ve:Int),p.ch=g.p.ch->Xh ⟨p,ev,g.cu,g.ed,dr,ve⟩ c=⟨p,ev,x,y,dr,ve+1⟩:=by
 have hc:∀(p:Pl)(ev:List bC)(dr:Pi)(ve:Int),p.ch=g.p.ch->Vb ⟨p,ev,g.cu,g.ed,dr,ve⟩ c=Vb g c:=by
  intro p ev dr ve h;unfold Vb;simp only;rw[h]
 cases h1:Vb g c with
 |false=>
  refine⟨g.cu,g.ed,.inl rfl,fun p ev dr ve h=>?_⟩;unfold Xh;rw[hc p ev dr ve h,h1,if_pos rfl]
 |true=>
  cases h2:uo c.cu g.cu with
  |none=>
   refine⟨g.cu,g.ed,.inl rfl,fun p ev dr ve h=>?_⟩;unfold Xh;rw[hc p ev dr ve h,h1,if_neg (by decide),if_pos hk];simp only;rw[h2]
  |some x=>
   refine⟨x,c.fr,.inr rfl,fun p ev dr ve h=>?_⟩;unfold Xh;rw[hc p ev dr ve h,h1,if_neg (by decide),if_pos hk];simp only;rw[h2]
def HN(g:Pg)(o:Od)(hk:o.ki≠5)(x:List Cue)(y v:Int):Xh {g with cu:=x,ed:=y,ve:=v} o={Xh g o with cu:=x,ed:=y,ve:=v+1}:=by
 have hc:Vb {g with cu:=x,ed:=y,ve:=v} o=Vb g o:=rfl;have hg:Ue {g with cu:=x,ed:=y,ve:=v} o.fr (Xm o.fr g.ev []) o=Ue g o.fr (Xm o.fr g.ev []) o:=rfl
 have e1:∀h:Pg,Xh h o=if Vb h o=false then{h with ve:=h.ve+1}else match Ue h o.fr (Xm o.fr h.ev []) o with
  |none=>{h with ve:=h.ve+1}
  |some (q,d)=>j5 h o (Xm o.fr h.ev []) q d:=by
  intro h;unfold Xh;rw[if_neg hk];rfl
 rw[e1,e1,hc]
 show(if Vb g o=false then _ else match Ue {g with cu:=x,ed:=y,ve:=v} o.fr (Xm o.fr g.ev []) o with
  |none=>_
  |some (q,d)=>_)=_
 rw[hg];cases Vb g o with
 |false=>rfl
 |true=>
  cases Ue g o.fr (Xm o.fr g.ev []) o with
  |none=>rfl
  |some r=>rfl
def aam{g:Pg}(c o:Od)(hn:eN g=g)(hc:c.ki=5)(ho:o.ki≠5):Xq (Xq g c) o=Xq (Xq g o) c/\(Xq g c).ev=g.ev/\(Xq g c).p=g.p/\((Xq g c).ed=g.ed\/(Xq g c).ed=c.fr):=by
 obtain⟨x,y,hy,h⟩:=aal g c hc;have h0:=h g.p g.ev g.dr g.ve rfl;have bV:g.ev.map IG=g.ev:=congrArg Pg.ev hn
 have e1:Xq g c={g with cu:=x,ed:=y,ve:=g.ve+1}:=by
  unfold Xq;rw[show Xh g c=Xh ⟨g.p,g.ev,g.cu,g.ed,g.dr,g.ve⟩ c from rfl,h0];unfold eN;simp only;rw[bV]
 have e2:Xh g o={Xh g o with cu:=g.cu,ed:=g.ed,ve:=g.ve+1}:=HN g o ho g.cu g.ed g.ve;refine⟨?_,by rw[e1],by rw[e1],by rw[e1];exact hy⟩;rw[e1]
 have e3:Xq {g with cu:=x,ed:=y,ve:=g.ve+1} o=eN {Xh g o with cu:=x,ed:=y,ve:=g.ve+1+1}:=by
  unfold Xq;rw[HN g o ho]
 have e4:Xq g o=⟨(Xh g o).p,(Xh g o).ev.map IG,g.cu,g.ed,(Xh g o).dr,g.ve+1⟩:=by
  unfold Xq;rw[e2];rfl
 rw[e3,e4];unfold Xq;rw[h _ _ _ _ (RE (g:=g) (o:=o))];unfold eN;simp only[zzcu];rfl
