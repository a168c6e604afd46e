import Derived.Test.YtjmgelbfndnpjaaGreatDoorPPPaO
import Derived.Test.YtjmgelbfndnpjaaGreatDoorPPPaR4
set_option linter.unusedVariables false
set_option linter.unusedSimpArgs false
set_option maxRecDepth 100000
set_option maxHeartbeats 64000000
namespace Go.Proofs.YtjmgelbfndnpjaaGreatDoor.Lw
open Go Go.Abs
theorem codeN_pure (f:Int):Pure Tryz.prog gl0 28 [.sl .nil [],I f,I f] (.str (Qao 1 0 0 0)):=by
 have c1:=code_pure 1 0 0 0
 refine Qn code28 orc28 (by simp) ?_
 simp [sc28,rs28,orc28]
 exact c1
def uRow (p:Pl) (f it ix:Int) (key:Bool) (data:ByteArray) (re ga:Int) (cap:ByteArray) (o:List AV):List AV:=[I p.ch,I f,I 0,I it,I ix,.bool key,.str data,I re,I ga,.str cap]++o
def Zi (p:Pl) (f:Int):List AV:=uRow p f 0 0 true eB 255 1000 (Qao 1 0 0 0) [I 0,I 0,.sl .nil []]
theorem slate_pure (p:Pl) (f:Int):Pure Tryz.prog gl0 25 [I p.ch,I f] (.agg (Zi p f)):=by
 have h:=codeN_pure f
 refine Qn code25 (fun _ _ _=>.str (Qao 1 0 0 0)) (by simp) ?_
 simp [sc25,rs25,uRow,Zi]
 exact ⟨h,rfl⟩
def orgI (e:Ev2):Int:=if e.st - e.i < 0 then 0 else e.st - e.i
theorem origin_pure (p:Pl) (ev:List Ev2) (e:Ev2) (h:Zw e) :
  Pure Tryz.prog gl0 29 [.agg (Yn p ev),.agg (Qj e)] (I (orgI e)):=by
 refine Qn code29 (fun _ _ _=>.junk) (by simp) ?_
 obtain ⟨⟨a1,a2⟩,⟨a3,a4⟩,⟨a5,a6⟩,_⟩:=h
 have w1:IntKind.i64.wrap (e.st - e.i)=e.st - e.i:=by rw [Qe]<;>omega
 have w2:IntKind.i64.wrap (-9223372036854775808+e.i) = -9223372036854775808+e.i:=by rw [Qe]<;>omega
 have e1:¬ e.st < -9223372036854775808+e.i:=by omega
 by_cases h0:0 < e.i
 ·simp [sc29,rs29,Yn,Qc,Qj,h0,w1,w2,e1,orgI]
 ·simp [sc29,rs29,Yn,Qc,Qj,h0,w1,orgI]
def Wq (f:Int) (e:Ev2):Int:=e.i+f - e.st
def Jn (p:Pl) (ev:List Ev2) (L:List Zz) (f:Int):List AV:=match fnd2 f ev with
 | none=>Zi p f
 | some e=>match fnd e.it L with
  | none=>Zi p f
  | some a=>match a.pics[(Wq f e).toNat]? with
   | none=>Zi p f
   | some x=>uRow p f e.it (Wq f e) x.key x.data e.re (Js L (begs f ev) 1000) (capN (orgI e) f) (Qw (nextS f ev))
def Qaa (sl fe fa:AV) (g:Int) (og:Int) (cap:ByteArray) (o:Opt):Nat->FuncId->List AV->AV:=fun _ k _ =>
 if k=25 then sl else if k=26 then fe else if k=27 then fa else if k=13 then I g else if k=29 then I og else if k=28 then .str cap else .agg (Qw o)
theorem fndE_on {f:Int} {ev:List Ev2} {e:Ev2} (h:fnd2 f ev=some e):e∈ev/\Uf f e=true:=by
 obtain ⟨k,_,h2,h3⟩:=srch2_some (i:=0) h
 exact ⟨List.mem_of_getElem? h2,h3⟩
theorem unit_pure (p:Pl) (ev:List Ev2) (hl:ev.length<=1000000000) (hs:∀ e∈ev,Zw e) (L:List Zz) (hL:LibOK L) (f:Int) (hf:0<=f/\f<=900000) :
  Pure Tryz.prog gl0 9 [.agg (Yn p ev),.sl .ro (L.map Xa),I f] (.agg (Jn p ev L f)):=by
 have hsl:=slate_pure p f
 have hat:=at2_pure ev f hl hs ⟨by omega,by omega⟩
 cases hfe:fnd2 f ev with
 | none =>
  rw [hfe] at hat
  refine Qn code9 (Qaa (.agg (Zi p f)) zeroE zeroA 0 0 eB zO) (by simp) ?_
  simp [sc9,rs9,Qaa,Yn,Qc,uRow,Zi,zeroE,Jn,hfe]
  exact ⟨hsl,hat⟩
 | some e =>
  obtain ⟨hmem,hon⟩:=fndE_on hfe
  have hon':e.st<=f/\f < e.st+e.fr:=by simpa [Uf] using hon
  have hsm:=hs e hmem
  obtain ⟨⟨a1,a2⟩,⟨a3,a4⟩,⟨a5,a6⟩,a7⟩:=hsm
  have hfd:=Us L e.it hL.1
  rw [hfe] at hat
  simp only [Ur,Qj] at hat
  have e0:¬ e.i+f - e.st < 0:=by omega
  cases hfn:fnd e.it L with
  | none =>
   rw [hfn] at hfd
   refine Qn code9 (Qaa (.agg (Zi p f)) (Ur f (some e)) zeroA 0 0 eB zO) (by simp) ?_
   simp [sc9,rs9,Qaa,Yn,Qc,uRow,Zi,Ur,Qj,zeroA,Jn,hfe,hfn]
   exact ⟨hsl,hat,hfd⟩
  | some a =>
   rw [hfn] at hfd
   have hfd':Pure Tryz.prog gl0 27 [.sl .ro (L.map Xa),I e.it] (.tup [.agg [I a.item,.sl .ro (a.pics.map Vr)],.bool true]):=hfd
   cases hp:a.pics[(Wq f e).toNat]? with
   | none =>
    have hge:a.pics.length<=(Wq f e).toNat:=by
     rcases Nat.lt_or_ge (Wq f e).toNat a.pics.length with h | h
     ·rw [List.getElem?_eq_getElem h] at hp;cases hp
     ·exact h
    have e1:(a.pics.length:Int)<=e.i+f - e.st:=by unfold Wq at hge;omega
    refine Qn code9 (Qaa (.agg (Zi p f)) (Ur f (some e)) (Qay (some a)) 0 0 eB zO) (by simp) ?_
    simp [sc9,rs9,Qaa,Yn,Qc,uRow,Zi,Ur,Qj,Qay,Xa,Jn,hfe,hfn,hp,e0,e1]
    exact ⟨hsl,hat,hfd'⟩
   | some x =>
    have hlt:(Wq f e).toNat < a.pics.length:=(List.getElem?_eq_some_iff.1 hp).1
    have e1:¬ (a.pics.length:Int)<=e.i+f - e.st:=by unfold Wq at hlt;omega
    have e2:e.i+f - e.st < (a.pics.length:Int):=by omega
    have e3:(0:Int)<=e.i+f - e.st:=by omega
    have hp':a.pics[(e.i+f - e.st).toNat]? = some x:=hp
    have hrow:Qf (a.pics.map Vr) (e.i+f - e.st).toNat=Vr x:=Qv (by simp only [Wq] at hp;simp [hp])
    have hga:=gain_pure L hL ev f hl hs ⟨by omega,by omega⟩ p
    have hnx:=next30_pure ev f hl hs
    have hog:0<=orgI e/\orgI e<=1000000:=by unfold orgI;split<;>omega
    have hco:=code28_pure (orgI e) f hog.1 hog.2 (by omega) (by omega)
    refine Qn code9 (Qaa (.agg (Zi p f)) (Ur f (some e)) (Qay (some a)) (Js L (begs f ev) 1000) (orgI e) (capN (orgI e) f) (nextS f ev)) (by simp) ?_
    have hor:=origin_pure p ev e ⟨⟨a1,a2⟩,⟨a3,a4⟩,⟨a5,a6⟩,a7⟩
    simp only [Yn,Qc,List.cons_append,List.nil_append,Qj] at hga hor
    simp [sc9,rs9,Qaa,Yn,Qc,uRow,Zi,Ur,Qj,Qay,Xa,Jn,hfe,hfn,hp,e0,e1,e2,e3,hrow,Vr,Qw,Wq,hp']
    exact ⟨hsl,hat,hfd',(by omega),hga,hor,hco,hnx⟩
end Go.Proofs.YtjmgelbfndnpjaaGreatDoor.Lw
