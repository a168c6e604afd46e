import Derived.Test.YthjppoincojfkaaGreatDoorRAMM
set_option linter.all false
set_option maxRecDepth 100000
set_option maxHeartbeats 64000000
namespace Go.Proofs.YthjppoincojfkaaGreatDoor
noncomputable section
open Go Go.Abs
def pJ(p:Pl)(e:En)(fr:Int)(s:Sp):Bool:=decide (1<=s.1)&&decide (s.1<p.rg)&&Xy p s.2 s.1 fr e.fr
def evM(p:Pl)(e:En)(fr:Int):Int:=Ut (fun i=>Xy p e.it i fr e.fr) (min p.rg 8).toNat
def Iu(p:Pl)(e:En)(fr:Int)(rt:Rt)(l:List Sp):P2:=[I e.id,I e.it,I fr,I e.fr,I 0,I (evM p e fr),.sl rt (l.map Qe)]
def QG(p:Pl)(e:En)(fr:Int)(i:Nat):List Sp:=(e.al.take i).filter (pJ p e fr)
def Ga(p:Pl)(e:En)(fr:Int)(hc:p.cls.length<=1000000)(fB:p.sh.length<=1000000000)(cU:p.aN.length<=1000000000)(fR:e.al.length<=8796093022208):
  ∃rt,Pure Tryz.prog aD 123 [.agg (Qa p),.agg (Qd e),I fr] (.agg (Iu p e fr rt (e.al.filter (pJ p e fr)))):=by
 refine⟨if e.al.filter (pJ p e fr)=[]then .nil else .ro,Qo abQ (fun _ _ _=>.gd false .junk) zd ?_⟩;simp[Tu,Qa,Qd];refine sS Y0 p 179 [.ptr 4 0,.ptr 1 0] (fun i=>Xy p e.it i fr e.fr) _ _ ?_ fun bx=>?_
 ·rintro i mm _ _ ⟨bx,rfl⟩ K' h;exact XX Y0 p e i fr _ 0 2 1 4 hc fB cU (by simp[Qa]) zd (by simp[Qd]) zd K' h
 have hM:Ut (fun i=>Xy p e.it i fr e.fr) (min p.rg 8).toNat=evM p e fr:=rfl;simp[hM]
 refine Qk qy (fun f mm=>∃(i:Nat)(bx:T5)(Lm:Pa)(rt:Rt),f 27=I i/\i<=e.al.length/\mm=⟨Qa p::Qd e::[I fr]::[I 0,I 0,I 0,I 0,I 0,I 0,.sl .nil []]::[.fn 178 [] [.ptr 0 0,.ptr 2 0,.ptr 1 0]]::Iu p e fr rt (QG p e fr i)::bx,Lm,fun _=>.gone,0⟩/\
  (QG p e fr i=[]/\rt=.nil\/QG p e fr i≠[]/\∃k,rt=.own k 2/\Lm[k]?=some (QG p e fr i).length)) (fun f _=>e.al.length-(numOf (f 27)).toNat) ?_ ?_
 ·refine⟨0,bx,[],.nil,zd,zE,?_,.inl ⟨by simp[QG],rfl⟩⟩;simp[Qa,Qd,Iu,QG]
 rintro f mm ⟨i,bx,Lm,rt,h27,hi,rfl,aX⟩;rcases zzaa i e.al.length with ai|bn
 ·obtain⟨x,hx⟩:=aV ai;have ah:=Zx hx;have aa:(i:Int)<(e.al.length:Int):=zE
  have hw:=bO i zE
  have bA:QG p e fr (i+1)=QG p e fr i++if pJ p e fr x then[x]else[]:=by
   unfold QG;rw[zzax,hx,zzdi];simp only[Option.toList,zzee,List.filter_nil]
  generalize hG:QG p e fr i=G at*
  by_cases c1:1<=x.1
  ·by_cases c2:x.1<p.rg
   ·have hpm:=fun mm h1 h2 h3=>F9 Y0 p e x.2 x.1 fr mm 0 2 1 hc fB cU h1 h2 h3;simp[h27,Qa,Qd,Iu,ah,aa,ai,qy,c1,c2,hw];have hGl:G.length<=i:=by rw[<- hG];unfold QG;exact zzba (zzca _ _) (by rw[zzaq];omega)
    refine hpm _ rfl rfl rfl _ ?_;have hA:pJ p e fr x=Xy p x.2 x.1 fr e.fr:=by simp[pJ,c1,c2]
    rw[hA]at bA;cases hb:Xy p x.2 x.1 fr e.fr with
    |false=>
     rw[hb]at bA;simp only[zzbh,if_false,zzar]at bA;simp[hw];refine⟨aQ,⟨i+1,zE,zE,bx++[[I x.1,I x.2]],Lm,rt,by rw[bA];simp[Qa,Qd,Iu],by rw[bA];exact aX⟩,zE⟩
    |true=>
     rw[hb]at bA;simp only[if_true]at bA;obtain⟨h1,rfl⟩|⟨h1,k,rfl,hk⟩:=aX
     ·subst h1;simp only[zzai]at bA;simp[hw];refine⟨aQ,⟨i+1,zE,zE,bx++[[I x.1,I x.2]],Lm++[1],.own Lm.length 2,by rw[bA];simp[Qa,Qd,Iu,Qe],by rw[bA];exact .inr ⟨zd,_,rfl,zd⟩⟩,zE⟩
     simp[hw,hk];refine⟨⟨by rintro row (⟨a,b,_,rfl⟩|rfl)<;>rfl,zE⟩,ag ?_,⟨i+1,zE,zE,bx++[[I x.1,I x.2]],Lm.set k (G.length+1),.own k 2,by rw[bA];simp[Qa,Qd,Iu,Qe],by rw[bA];exact .inr ⟨zd,_,rfl,by rw[zzbf ((zza.1 hk).1)];simp⟩⟩,zE⟩;repeat(first|exact Qb _ _|refine Qc _ rfl ?_)
   have hA:pJ p e fr x=false:=by simp[pJ,c2]
   simp[h27,Qa,Qd,Iu,ah,aa,ai,qy,c1,c2,hw];rw[hA]at bA;simp only[zzbh,if_false,zzar]at bA;refine⟨aQ,⟨i+1,zE,zE,bx++[[I x.1,I x.2]],Lm,rt,by rw[bA];simp[Qa,Qd,Iu],by rw[bA];exact aX⟩,zE⟩
  have hA:pJ p e fr x=false:=by simp[pJ,c1]
  simp[h27,Qa,Qd,Iu,ah,aa,ai,qy,c1,hw];rw[hA]at bA;simp only[zzbh,if_false,zzar]at bA;refine⟨aQ,⟨i+1,zE,zE,bx++[[I x.1,I x.2]],Lm,rt,by rw[bA];simp[Qa,Qd,Iu],by rw[bA];exact aX⟩,zE⟩
 obtain rfl:i=e.al.length:=zE
 have hE:QG p e fr e.al.length=e.al.filter (pJ p e fr):=by simp[QG]
 rw[hE]at aX;generalize e.al.filter (pJ p e fr)=G at*
 obtain⟨h1,rfl⟩|⟨h1,k,rfl,hk⟩:=aX
 ·simp[h27,Qa,Qd,Iu,qy,Tv,h1,hE]
 simp[h27,Qa,Qd,Iu,qy,Tv,h1,hE]
def ael(p:Pl)(e:En)(fr:Int):AV:=.agg (Iu p e fr .ro (e.al.filter (pJ p e fr)))
def KR(p:Pl)(e:En)(fr:Int)(hc:p.cls.length<=1000000)(fB:p.sh.length<=1000000000)(cU:p.aN.length<=1000000000)(fR:e.al.length<=8796093022208):
  Pure Tryz.prog aD 123 [.agg (Qa p),.agg (Qd e),I fr] (ael p e fr):=by
 obtain⟨rt,h⟩:=Ga p e fr hc fB cU fR;exact Zl h (Qdw ⟨Ps,Ps,Ps,Ps,Ps,Ps,Wk.sl _ _,trivial⟩)
open Go Go.Abs
structure bC where
 id:Int
 it:Int
 st:Int
 fr:Int
 i:Int
 re:Int
 al:List Sp
 nl:Bool
def Zv(e:bC):P2:=[I e.id,I e.it,I e.st,I e.fr,I e.i,I e.re,.sl (if e.nl then .nil else .ro) (e.al.map Qe)]
def Vg(p:Pl)(x:Int×Int):bC:=⟨0,p.fi,x.1,x.2,0,F8 p,[],true⟩
def Gb(p:Pl)(e:En)(fr:Int):bC:=⟨e.id,e.it,fr,e.fr,0,evM p e fr,e.al.filter (pJ p e fr),false⟩
def nO(p:Pl)(m:AM)(L:List bC):Prop:=1<m.boxes.length/\Qj m.boxes 0=Qa p/\∃rt,Qj m.boxes 1=[.sl rt (L.map Zv)]/\(L=[]/\rt=.nil\/L≠[]/\∃k,rt=.own k 7/\m.lens[k]?=some L.length)
def nO.XN{p:Pl}{m m':AM}{L:List bC}{O:Nat->Prop}(h:nO p m L)(e:bW O m m')(h0:¬O 0)(h1:¬O 1):nO p m' L:=by
 obtain⟨a1,a2,rt,a3,a4⟩:=h;obtain⟨e1,e2,⟨lx,e3⟩,_⟩:=e;refine⟨zE,by rw[e2 0 zE h0];exact a2,rt,by rw[e2 1 a1 h1];exact a3,?_⟩;obtain h|⟨hn,k,hk,hl⟩:=a4
 ·exact .inl h
 exact .inr ⟨hn,k,hk,by rw[e3,zzaj (zza.1 hl).1];exact hl⟩
def asx:SC:=(⟨_,by cbv⟩:JY [1,1,1,0,1,0,0,1,1,0,0,1,1,1,0,1,0] IT).1
def al3(Y:YT)(p:Pl)(a t:Int)(hl:p.aN.length<=1000000000)(hb: -1000000000<=a/\t<=1000000000)(hf:a<=1000000000/\ -1000000000<=t)(orc:UV)(ho:∀d l,orc d 999999 l=.junk)(E:QQ)(m:AM)(L:List bC)
  (hO:nO p m L)(hL:L.length+(Va (Yh p) t a).length<=1000000000)(hg:Abs.look E 67=.fn 175 [] [.ep (Qa p) 0,.ep [I a] 0,.ep [I t] 0])(h7:Abs.look E 7=.ptr 1 0)(Q:R0)
  (hQ:∀m',nO p m' (L++(Va (Yh p) t a).map (Vg p))->m.boxes.length<=m'.boxes.length->(∀j,2<=j->j<m.boxes.length->Qj m'.boxes j=Qj m.boxes j)->Q .normal ⟨Vy 98 E,m'⟩):vc Tryz.prog aD orc Y asx ⟨Vy 98 E,m⟩ Q:=by
 have cU:=xH p a t hl hb hf;generalize hX:Va (Yh p) t a=xs at*
 unfold asx
 refine qY (xs:=xs.map (Qbb p)) (by simp[hg];try exact⟨rfl,rfl⟩) cU (by intro x hx;simp at hx;obtain⟨u,v,_,rfl⟩:=hx;rfl)
  (fun O i mm=>(∀j,O j->m.boxes.length<=j)/\nO p mm (L++(xs.take i).map (Vg p))/\m.boxes.length<=mm.boxes.length/\(∀j,2<=j->j<m.boxes.length->Qj mm.boxes j=Qj m.boxes j)) (fun _ _ _=>False) ?_ ?_ (fun _ _ _ _ h=>h.elim) ?_ ?_ (fun _ _ _ h=>h.elim)
 ·exact⟨fun _ h=>h.elim,by rw[zzhc,zzcv,zzar];exact hO,zzab _,fun _ _ _=>rfl⟩
 ·rintro O i m1 m2 ⟨h1,h2,h3,h4⟩ e;have zg:=hO.1;refine⟨?_,h2.XN e (fun h=>by have:=h1 _ h;omega) (fun h=>by have:=h1 _ h;omega),zzba h3 e.1,fun j j1 j2=>by rw[e.2.1 j zE (fun h=>by have:=h1 _ h;omega)];exact h4 j j1 j2⟩;rintro j (h|h)
  ·exact h1 j h
  omega
 ·rintro O l i mm x C0 cB WS iI ⟨h1,h2,h3,h4⟩ hx K' q1 _ _;rw[zzbm,zzby]at hx;obtain⟨x,hx,rfl⟩:=hx;have jb:=(zza.1 hx).1;have bA:L++(xs.take (i+1)).map (Vg p)=(L++(xs.take i).map (Vg p))++[Vg p x]:=by rw[zzax,hx];simp
  have hml:=hO.1;have aH:(L++(xs.take i).map (Vg p)).length<=1000000000:=by simp;omega
  obtain⟨o1,o2,rt,o3,o4⟩:=h2;simp only[Jm,NC]at o1 o2 o3 o4 h3 h4;have ic:∀y,Qj (mm.boxes++y) 1=[.sl rt ((L++(xs.take i).map (Vg p)).map Zv)]:=fun y=>by rw[Qn zE];exact o3
  have A4:∀y,Qj (mm.boxes++[y]) mm.boxes.length=y:=fun y=>by
   simp
  have fin:∀(T:P2)(v:P2)(row:P2)(ls:Pa)(st:Nat->LS)(ln:Nat),nO p ⟨(mm.boxes++[row]).set 1 v,ls,st,ln⟩ (L++(xs.take (i+1)).map (Vg p))->K' .normal ⟨T,⟨(mm.boxes++[row]).set 1 v,ls,st,ln⟩⟩:=by
   intro T v row ls st ln hv;refine q1 _ ⟨zd,fun j hj=>?_⟩ ⟨h1,hv,by simp;omega,fun j j1 j2=>?_⟩
   ·have:=(C0 j hj).2;have:=h1 j hj;show Qj ((mm.boxes++[row]).set 1 v) j=_;rw[Yc _ zE,Qn zE]
   show Qj ((mm.boxes++[row]).set 1 v) j=_;rw[Yc _ zE,Qn zE];exact h4 j j1 j2
  have Dd:∀(v row:P2),Qj ((mm.boxes++[row]).set 1 v) 0=Qa p/\Qj ((mm.boxes++[row]).set 1 v) 1=v:=fun v row=>⟨by rw[Yc _ zE,Qn zE];exact o2,Yi _ (by simp;omega)⟩;rw[bA]at fin;generalize L++(xs.take i).map (Vg p)=G at*
  have hG7:∀row∈G.map Zv,row.length=7:=by
   intro row h;obtain⟨e,_,rfl⟩:=zzbg.1 h;rfl
  obtain⟨rfl,rfl⟩|⟨aO,k,rfl,hk⟩:=o4
  ·simp[iI,Zr,Qbb,h7,ic,A4,ho];subst_vars;exact⟨zE,fin _ _ _ _ _ _ ⟨by simp;omega,(Dd _ _).1,_,(Dd _ _).2,.inr ⟨zd,_,rfl,zd⟩⟩⟩
  simp[iI,Zr,Qbb,h7,ic,A4,ho];refine⟨⟨hk,?_,zE⟩,zE,fin _ _ _ _ _ _ ⟨by simp;omega,(Dd _ _).1,_,by rw[(Dd _ _).2];simp;rfl,.inr ⟨zd,k,rfl,by simp[(zza.1 hk).1]⟩⟩⟩;rintro row (⟨e,_,rfl⟩|rfl)<;>rfl
 rintro mm' mm ⟨h1,h2,h3,h4⟩;rw[zzbt,zzbx]at h2;exact hQ _ h2 h3 h4
def asy:SC:=(⟨_,by cbv⟩:JY [1,1,1,1,0,1,0] IT).1
def al4(Y:YT)(p:Pl)(a t:Int)(hl:p.aN.length<=1000000000)(hb: -1000000000<=a/\t<=1000000000)(hf:a<=1000000000/\ -1000000000<=t)(orc:UV)(ho:∀d l,orc d 999999 l=.junk)(E:QQ)(m:AM)(L:List bC)
  (hO:nO p m L)(hL:L.length+(Va (Yh p) t a).length<=1000000000)(hg:Abs.look E 91=.fn 175 [] [.ep (Qa p) 0,.ep [I a] 0,.ep [I t] 0])(h7:Abs.look E 7=.ptr 1 0)(Q:R0)
  (hQ:∀m',nO p m' (L++(Va (Yh p) t a).map (Vg p))->m.boxes.length<=m'.boxes.length->(∀j,2<=j->j<m.boxes.length->Qj m'.boxes j=Qj m.boxes j)->Q .normal ⟨Vy 98 E,m'⟩):vc Tryz.prog aD orc Y asy ⟨Vy 98 E,m⟩ Q:=by
 have cU:=xH p a t hl hb hf;generalize hX:Va (Yh p) t a=xs at*
 unfold asy
 refine qY (xs:=xs.map (Qbb p)) (by simp[hg];try exact⟨rfl,rfl⟩) cU (by intro x hx;simp at hx;obtain⟨u,v,_,rfl⟩:=hx;rfl)
  (fun O i mm=>(∀j,O j->m.boxes.length<=j)/\nO p mm (L++(xs.take i).map (Vg p))/\m.boxes.length<=mm.boxes.length/\(∀j,2<=j->j<m.boxes.length->Qj mm.boxes j=Qj m.boxes j)) (fun _ _ _=>False) ?_ ?_ (fun _ _ _ _ h=>h.elim) ?_ ?_ (fun _ _ _ h=>h.elim)
 ·exact⟨fun _ h=>h.elim,by rw[zzhc,zzcv,zzar];exact hO,zzab _,fun _ _ _=>rfl⟩
 ·rintro O i m1 m2 ⟨h1,h2,h3,h4⟩ e;have zg:=hO.1;refine⟨?_,h2.XN e (fun h=>by have:=h1 _ h;omega) (fun h=>by have:=h1 _ h;omega),zzba h3 e.1,fun j j1 j2=>by rw[e.2.1 j zE (fun h=>by have:=h1 _ h;omega)];exact h4 j j1 j2⟩;rintro j (h|h)
  ·exact h1 j h
  omega
 ·rintro O l i mm x C0 cB WS iI ⟨h1,h2,h3,h4⟩ hx K' q1 _ _;rw[zzbm,zzby]at hx;obtain⟨x,hx,rfl⟩:=hx;have jb:=(zza.1 hx).1;have bA:L++(xs.take (i+1)).map (Vg p)=(L++(xs.take i).map (Vg p))++[Vg p x]:=by rw[zzax,hx];simp
  have hml:=hO.1;have aH:(L++(xs.take i).map (Vg p)).length<=1000000000:=by simp;omega
  obtain⟨o1,o2,rt,o3,o4⟩:=h2;simp only[Jm,NC]at o1 o2 o3 o4 h3 h4;have ic:∀y,Qj (mm.boxes++y) 1=[.sl rt ((L++(xs.take i).map (Vg p)).map Zv)]:=fun y=>by rw[Qn zE];exact o3
  have A4:∀y,Qj (mm.boxes++[y]) mm.boxes.length=y:=fun y=>by
   simp
  have fin:∀(T:P2)(v:P2)(row:P2)(ls:Pa)(st:Nat->LS)(ln:Nat),nO p ⟨(mm.boxes++[row]).set 1 v,ls,st,ln⟩ (L++(xs.take (i+1)).map (Vg p))->K' .normal ⟨T,⟨(mm.boxes++[row]).set 1 v,ls,st,ln⟩⟩:=by
   intro T v row ls st ln hv;refine q1 _ ⟨zd,fun j hj=>?_⟩ ⟨h1,hv,by simp;omega,fun j j1 j2=>?_⟩
   ·have:=(C0 j hj).2;have:=h1 j hj;show Qj ((mm.boxes++[row]).set 1 v) j=_;rw[Yc _ zE,Qn zE]
   show Qj ((mm.boxes++[row]).set 1 v) j=_;rw[Yc _ zE,Qn zE];exact h4 j j1 j2
  have Dd:∀(v row:P2),Qj ((mm.boxes++[row]).set 1 v) 0=Qa p/\Qj ((mm.boxes++[row]).set 1 v) 1=v:=fun v row=>⟨by rw[Yc _ zE,Qn zE];exact o2,Yi _ (by simp;omega)⟩;rw[bA]at fin;generalize L++(xs.take i).map (Vg p)=G at*
  have hG7:∀row∈G.map Zv,row.length=7:=by
   intro row h;obtain⟨e,_,rfl⟩:=zzbg.1 h;rfl
  obtain⟨rfl,rfl⟩|⟨aO,k,rfl,hk⟩:=o4
  ·simp[iI,Zr,Qbb,h7,ic,A4,ho];subst_vars;exact⟨zE,fin _ _ _ _ _ _ ⟨by simp;omega,(Dd _ _).1,_,(Dd _ _).2,.inr ⟨zd,_,rfl,zd⟩⟩⟩
  simp[iI,Zr,Qbb,h7,ic,A4,ho];refine⟨⟨hk,?_,zE⟩,zE,fin _ _ _ _ _ _ ⟨by simp;omega,(Dd _ _).1,_,by rw[(Dd _ _).2];simp;rfl,.inr ⟨zd,k,rfl,by simp[(zza.1 hk).1]⟩⟩⟩;rintro row (⟨e,_,rfl⟩|rfl)<;>rfl
 rintro mm' mm ⟨h1,h2,h3,h4⟩;rw[zzbt,zzbx]at h2;exact hQ _ h2 h3 h4
def Be(fr t:Int):∀(n:Nat)(a:Int),(t-a).toNat<=n->((Va fr t a).length:Int)<=max 0 (t-a):=by
 intro n;induction n with
 |zero=>intro a h;rw[Va,if_neg zE];simp only[zzco];omega
 |succ n ih=>
  intro a h;rw[Va];split
  ·rename_i ai;have hN:1<=Yg fr t a/\Yg fr t a<=t-a:=by unfold Yg;split<;>omega
   have:=ih (a+Yg fr t a) zE;simp only[zzbd];omega
  simp only[zzco];omega
def nO.app{p:Pl}{m:AM}{L:List bC}(h:nO p m L)(x:T5):nO p ⟨m.boxes++x,m.lens,m.st,m.ln⟩ L:=by
 obtain⟨a1,a2,rt,a3,a4⟩:=h;exact⟨by simp;omega,by show Qj (m.boxes++x) 0=_;rw[Qn zE];exact a2,rt,by show Qj (m.boxes++x) 1=_;rw[Qn zE];exact a3,a4⟩
open Go Go.Abs
def mz(p:Pl)(s:Sp)(at_:Int):Option En:=match Zh s.1 p.ens with
 |some e=>if s.1=0\/e.fr<1\/s.2<at_\/p.ln-s.2<e.fr then none else some e
 |none=>none
def ud(p:Pl):List Sp->Int->List bC
 |[],at_=>(Va (Yh p) p.ln at_).map (Vg p)
 |s::r,at_=>match mz p s at_ with
  |none=>ud p r at_
  |some e=>((Va (Yh p) s.2 at_).map (Vg p)++[Gb p e s.2])++ud p r (s.2+e.fr)
def Bf(p:Pl)(l:List Sp)(at_:Int):List bC:=if at_<0\/p.ln<at_ then[]else ud p l at_
def pK(p:Pl):UV:=fun d f l=>
 if f=999999 then .junk else
 if f=29 then(match l with|[_,.int _ n]=>Wz (Zh n p.ens)|_=>.junk)else
 if f=122 then(match l with|[_,.int _ a,.int _ t]=>.fn 175 [] [.ep (Qa p) 0,.ep [I a] 0,.ep [I t] 0]|_=>.junk)else
 if f=123 then(match l with|[_,.agg [.int _ a,.int _ b,.int _ c,.int _ d,.int _ e,.int _ g,.sl _ rows],.int _ fr]=>ael p ⟨a,b,c,d,e,g,rows.map ry⟩ fr|_=>.junk)else .gd false .junk
def jL{id:Int}{x:En}:∀{l:List En},Zh id l=some x->x∈l/\x.id=id
 |[],h=>by cases h
 |y::r,h=>by
  simp only[Zh]at h;split at h
  ·rename_i hy;cases h;exact⟨zd,hy⟩
  obtain⟨h1,h2⟩:=jL h;exact⟨by simp[h1],h2⟩
def KS(p:Pl)(l:List Sp)(Gd:Int)(hc:p.cls.length<=1000000)(fB:p.sh.length<=1000000000)(cU:p.aN.length<=1000000000)(Iv:p.ens.length<=1000000000)(fR:∀e∈p.ens,e.al.length<=8796093022208)
  (dG:p.ln<=1000000)(hl:l.length<=1000000)(lW:∀s∈l,-1000000000<=s.2/\s.2<=1000000000):∃rt,Pure Tryz.prog aD 67 [.agg (Qa p),.sl .ro (l.map Qe),I Gd] (.sl rt ((Bf p l Gd).map Zv)):=by
 by_cases c0:Gd<0\/p.ln<Gd
 ·refine⟨.nil,Qo S7 (pK p) zd ?_⟩;rw[Bf,if_pos c0];by_cases c1:Gd<0
  ·simp[IT,S6,Qa,c1]
  have c2:p.ln<Gd:=zE
  simp[IT,S6,Qa,c1,c2]
 refine⟨if ud p l Gd=[]then .nil else .ro,Qo S7 (pK p) zd ?_⟩;rw[Bf,if_neg c0];simp only[not_or]at c0;have c1:¬Gd<0:=c0.1;have c2:¬p.ln<Gd:=c0.2;simp[IT,Qa,c1,c2];refine Qk oA (fun f mm=>∃(i:Nat)(at_:Int)(L:List bC),f 24=I i/\f 2=I at_/\i<=l.length/\nO p mm L/\0<=at_/\at_<=p.ln/\(L.length:Int)<=at_/\L++ud p (l.drop i) at_=ud p l Gd) (fun f _=>l.length-(numOf (f 24)).toNat) ?_ ?_
 ·exact⟨0,Gd,[],zd,zd,zE,⟨zd,by simp[Qa],.nil,zd,.inl ⟨rfl,rfl⟩⟩,zE,zE,by simp;omega,zd⟩
 rintro f mm ⟨i,at_,L,h24,h2,hi,hO,a1,a2,a3,hI⟩;rcases zzaa i l.length with ai|bn
 ·obtain⟨s,hs⟩:=aV ai;have ah:=Zx hs;have hsb:=lW s (zzae hs);have aa:(i:Int)<(l.length:Int):=zE
  have hw:=bO i zE;have fW:IntKind.i64.wrap (p.ln-s.2)=p.ln-s.2:=by rw[Ql]<;>omega
  rw[Zb hs,ud]at hI;have zh:=KP p s.1 Iv fR;have hO':=hO;obtain⟨o1,o2,rt,o3,o4⟩:=hO';have r0:∀y,Qj (mm.boxes++y) 0=Qa p:=fun y=>by rw[Qn zE];exact o2
  have r1:∀y,Qj (mm.boxes++y) 1=[.sl rt (L.map Zv)]:=fun y=>by rw[Qn o1];exact o3
  simp only[Qa]at r0;cases hf:Zh s.1 p.ens with
  |none=>
   simp only[mz,hf]at hI;rw[hf]at zh;by_cases c3:s.1=0
   ·rw[c3]at hf zh;simp[h24,h2,oA,ai,aa,ah,r0,r1,pK,hf,Wz,hw,c3];refine⟨zh,aQ,⟨i+1,zd,zE,L,hO.app _,a1,a2,a3,hI⟩,zE⟩
   simp[h24,h2,oA,ai,aa,ah,r0,r1,pK,hf,Wz,hw,c3];refine⟨zh,aQ,⟨i+1,zd,zE,L,hO.app _,a1,a2,a3,hI⟩,zE⟩
  |some e=>
   rw[hf]at zh;simp only[mz,hf]at hI;by_cases c3:s.1=0
   ·rw[if_pos (.inl c3)]at hI;rw[c3]at hf zh;simp[h24,h2,oA,ai,aa,ah,r0,r1,pK,hf,Wz,Qd,hw,c3];refine⟨zh,aQ,⟨i+1,zd,zE,L,hO.app _,a1,a2,a3,hI⟩,zE⟩
   by_cases c4:e.fr<1
   ·rw[if_pos (.inr (.inl c4))]at hI;simp[h24,h2,oA,ai,aa,ah,r0,r1,pK,hf,Wz,Qd,hw,c3,c4];refine⟨zh,aQ,⟨i+1,zd,zE,L,hO.app _,a1,a2,a3,hI⟩,zE⟩
   by_cases c5:s.2<at_
   ·rw[if_pos (.inr (.inr (.inl c5)))]at hI;simp[h24,h2,oA,ai,aa,ah,r0,r1,pK,hf,Wz,Qd,hw,c3,c4,c5];refine⟨zh,aQ,⟨i+1,zd,zE,L,hO.app _,a1,a2,a3,hI⟩,zE⟩
   by_cases c6:p.ln-s.2<e.fr
   ·rw[if_pos (.inr (.inr (.inr c6)))]at hI;simp[h24,h2,oA,ai,aa,ah,r0,r1,pK,hf,Wz,Qd,hw,fW,c3,c4,c5,c6];refine⟨zh,aQ,⟨i+1,zd,zE,L,hO.app _,a1,a2,a3,hI⟩,zE⟩
   rw[if_neg zE]at hI;simp[h24,h2,oA,ai,aa,ah,r0,r1,pK,hf,Wz,Qd,hw,fW,c3,c4,c5,c6];have k31:=xG p at_ s.2;have fM:=Be (Yh p) s.2 _ at_ (zzab _);refine⟨zh,k31,?_⟩;refine al3 Y0 p at_ s.2 cU zE zE (pK p) (fun _ _=>rfl) _ _ L (hO.app _) zE zd zd _ ?_;intro m' Ge cB dZ
   have Rs:Qj m'.boxes mm.boxes.length=[I s.1,I s.2]:=by
    rw[dZ _ zE zd];simp
   have Re:Qj m'.boxes (mm.boxes.length+1)=Qd e:=by
    rw[dZ _ zE zd];simp[Qd]
   simp only[Qd]at Re;obtain⟨p1,p2,Sb,p3,p4⟩:=Ge;have p2':=p2;have b1:∀v,Qj (m'.boxes.set 1 v) 1=v:=fun v=>Yi v p1;have b0:∀v,Qj (m'.boxes.set 1 v) 0=Qa p:=fun v=>by rw[Yc v zE];exact p2
   have bs:∀v,Qj (m'.boxes.set 1 v) mm.boxes.length=[I s.1,I s.2]:=fun v=>by rw[Yc v zE];exact Rs
   have be:∀v,Qj (m'.boxes.set 1 v) (mm.boxes.length+1)=[I e.id,I e.it,I e.fr,I e.ea,I e.la,I e.bo,.sl .ro (e.al.map Qe)]:=fun v=>by rw[Yc v zE];exact Re
   simp only[Qa]at p2';have hG:((L++(Va (Yh p) s.2 at_).map (Vg p)).length:Int)<=s.2:=by simp;omega
   have hI2:(L++(Va (Yh p) s.2 at_).map (Vg p)++[Gb p e s.2])++ud p (l.drop (i+1)) (s.2+e.fr)=ud p l Gd:=by rw[<- hI];simp
   generalize L++(Va (Yh p) s.2 at_).map (Vg p)=G at*
   have k32:=KR p e s.2 hc fB cU (fR e (jL hf).1);have Sm:IntKind.i64.wrap (s.2+e.fr)=s.2+e.fr:=by rw[Ql]<;>omega
   obtain⟨g1,rfl⟩|⟨g1,k,rfl,hk⟩:=p4
   ·subst g1;simp[h24,p2',p3,Rs,Re,b1,bs,be,p1,pK,ael,Iu,hw,Sm];rw[zzai]at hI2;refine⟨k32,aQ,⟨i+1,zd,zE,[Gb p e s.2],⟨by simp;omega,b0 _,_,b1 _,.inr ⟨zd,_,rfl,zd⟩⟩,zE,zE,by simp;omega,hI2⟩,zE⟩
   simp[h24,p2',p3,Rs,Re,b1,bs,be,p1,pK,ael,Iu,hw,Sm];refine⟨k32,⟨hk,by rintro row (⟨a,_,rfl⟩|rfl)<;>rfl,zE⟩,ag ?_,⟨i+1,zd,zE,G++[Gb p e s.2],⟨by simp;omega,b0 _,_,by rw[b1];simp[Zv,Gb],.inr ⟨zd,k,rfl,by simp[(zza.1 hk).1]⟩⟩,zE,zE,by simp;omega,hI2⟩,zE⟩;repeat(first|exact Qb _ _|refine Qc _ rfl ?_)
 obtain rfl:i=l.length:=zE
 have k31:=xG p at_ p.ln;have fM:=Be (Yh p) p.ln _ at_ (zzab _);rw[zzbv,ud]at hI;obtain⟨o1,o2,rt,o3,o4⟩:=id hO;simp only[Qa]at o2;simp[h24,h2,oA,o2,pK];refine⟨k31,?_⟩;refine al4 Y0 p at_ p.ln cU zE zE (pK p) (fun _ _=>rfl) _ _ L hO zE zd zd _ ?_;intro m' Ge cB dZ;rw[hI]at Ge;obtain⟨p1,p2,Sb,p3,p4⟩:=Ge;generalize ud p l Gd=G at*
 obtain⟨g1,rfl⟩|⟨g1,k,rfl,hk⟩:=p4
 ·subst g1;simp[p3,p1,S6]
 simp[p3,p1,S6,g1]
def Qf(e:bC):P2:=[I e.id,I e.it,I e.st,I e.fr,I e.i,I e.re,.sl .ro (e.al.map Qe)]
def KT(L:List bC):Wk (.sl .ro (L.map Zv)) (.sl .ro (L.map Qf)):=by
 refine Wk.rows L Zv Qf (fun _=>rfl) fun a j c' h=>?_
 match j,h with
 |0,h=>exact⟨_,rfl,by cases h;exact Ps⟩
 |1,h=>exact⟨_,rfl,by cases h;exact Ps⟩
 |2,h=>exact⟨_,rfl,by cases h;exact Ps⟩
 |3,h=>exact⟨_,rfl,by cases h;exact Ps⟩
 |4,h=>exact⟨_,rfl,by cases h;exact Ps⟩
 |5,h=>exact⟨_,rfl,by cases h;exact Ps⟩
 |6,h=>exact⟨_,rfl,by cases h;exact Wk.sl _ _⟩
 |j+7,h=>simp[Qf]at h
def Wk.trans{a b c:AV}(h:Wk a b)(k:Wk b c):Wk a c:=fun w γ v hr=>k w γ v (h w γ v hr)
def sU(p:Pl)(l:List Sp)(Gd:Int)(hc:p.cls.length<=1000000)(fB:p.sh.length<=1000000000)(cU:p.aN.length<=1000000000)(Iv:p.ens.length<=1000000000)(fR:∀e∈p.ens,e.al.length<=8796093022208)
  (dG:p.ln<=1000000)(hl:l.length<=1000000)(lW:∀s∈l,-1000000000<=s.2/\s.2<=1000000000):Pure Tryz.prog aD 67 [.agg (Qa p),.sl .ro (l.map Qe),I Gd] (.sl .ro ((Bf p l Gd).map Qf)):=by
 obtain⟨rt,h⟩:=KS p l Gd hc fB cU Iv fR dG hl lW;exact Zl h (Wk.trans (Wk.sl _ _) (KT _))
end
