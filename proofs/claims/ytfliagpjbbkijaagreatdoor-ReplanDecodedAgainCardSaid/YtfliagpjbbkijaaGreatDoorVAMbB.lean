import Derived.Test.YtfliagpjbbkijaaGreatDoorVAScB
set_option linter.all false
set_option maxRecDepth 100000
set_option maxHeartbeats 64000000
namespace Go.Proofs.YtfliagpjbbkijaaGreatDoor
noncomputable section
open Go Go.Abs
def p6(p:Pl)(e:En)(fr:Int)(s:Sp):Bool:=decide (1<=s.1)&&decide (s.1<p.rg)&&Xx p s.2 s.1 fr e.fr
def evM(p:Pl)(e:En)(fr:Int):Int:=Uq (fun i=>Xx p e.it i fr e.fr) (min p.rg 8).toNat
def IY(p:Pl)(e:En)(fr:Int)(rt:Rt)(l:List Sp):PQ:=[I e.id,I e.it,I fr,I e.fr,I 0,I (evM p e fr),.sl rt (l.map Qe)]
def Ru(p:Pl)(e:En)(fr:Int)(i:Nat):List Sp:=(e.al.take i).filter (p6 p e fr)
def G2(p:Pl)(e:En)(fr:Int)(hc:p.cls.length<=1000000)(fP:p.sh.length<=1000000000)(cN:p.aO.length<=1000000000)(fk:e.al.length<=8796093022208):
  ∃rt,Pure Tryz.prog aD 95 [.agg (Qa p),.agg (Qd e),I fr] (.agg (IY p e fr rt (e.al.filter (p6 p e fr)))):=by
 refine⟨if e.al.filter (p6 p e fr)=[]then .nil else .ro,Qn alg (fun _ _ _=>.gd false .junk) zd ?_⟩;simp[ale,Qa,Qd];refine sY Y0 p 152 [.ptr 4 0,.ptr 1 0] (fun i=>Xx p e.it i fr e.fr) _ _ ?_ fun bx=>?_
 ·rintro i mm _ _ ⟨bx,rfl⟩ K' h;exact Ys Y0 p e i fr _ 0 2 1 4 hc fP cN (by simp[Qa]) zd (by simp[Qd]) zd K' h
 have hM:Uq (fun i=>Xx p e.it i fr e.fr) (min p.rg 8).toNat=evM p e fr:=rfl;simp[hM]
 refine Qj Aw (fun f mm=>∃(i:Nat)(bx:X2)(Lm:P1)(rt:Rt),f 27=I i/\i<=e.al.length/\mm=⟨Qa p::Qd e::[I fr]::[I 0,I 0,I 0,I 0,I 0,I 0,.sl .nil []]::[.fn 150 [] [.ptr 0 0,.ptr 2 0,.ptr 1 0]]::IY p e fr rt (Ru p e fr i)::bx,Lm,fun _=>.gone,0⟩/\
  (Ru p e fr i=[]/\rt=.nil\/Ru p e fr i≠[]/\∃k,rt=.own k 2/\Lm[k]?=some (Ru p e fr i).length)) (fun f _=>e.al.length-(numOf (f 27)).toNat) ?_ ?_
 ·refine⟨0,bx,[],.nil,zd,zE,?_,.inl ⟨by simp[Ru],rfl⟩⟩;simp[Qa,Qd,IY,Ru]
 rintro f mm ⟨i,bx,Lm,rt,h27,hi,rfl,bk⟩;rcases zzab i e.al.length with aa|bu
 ·obtain⟨x,hx⟩:=aY aa;have ai:=Zv hx;have ah:(i:Int)<(e.al.length:Int):=zE
  have hw:=bR i zE
  have bB:Ru p e fr (i+1)=Ru p e fr i++if p6 p e fr x then[x]else[]:=by
   unfold Ru;rw[zzax,hx,zzdh];simp only[Option.toList,zzei,List.filter_nil]
  generalize hG:Ru p e fr i=G at*
  by_cases c1:1<=x.1
  ·by_cases c2:x.1<p.rg
   ·have hpm:=fun mm h1 h2 h3=>GA Y0 p e x.2 x.1 fr mm 0 2 1 hc fP cN h1 h2 h3;simp[h27,Qa,Qd,IY,ai,ah,aa,Aw,c1,c2,hw];have hGl:G.length<=i:=by rw[<- hG];unfold Ru;exact zzb (zzca _ _) (by rw[zzaq];omega)
    refine hpm _ rfl rfl rfl _ ?_;have hA:p6 p e fr x=Xx p x.2 x.1 fr e.fr:=by simp[p6,c1,c2]
    rw[hA]at bB;cases hb:Xx p x.2 x.1 fr e.fr with
    |false=>
     rw[hb]at bB;simp only[zzbp,if_false,zzas]at bB;simp[hw];refine⟨aR,⟨i+1,zE,zE,bx++[[I x.1,I x.2]],Lm,rt,by rw[bB];simp[Qa,Qd,IY],by rw[bB];exact bk⟩,zE⟩
    |true=>
     rw[hb]at bB;simp only[if_true]at bB;obtain⟨h1,rfl⟩|⟨h1,k,rfl,hk⟩:=bk
     ·subst h1;simp only[zzaj]at bB;simp[hw];refine⟨aR,⟨i+1,zE,zE,bx++[[I x.1,I x.2]],Lm++[1],.own Lm.length 2,by rw[bB];simp[Qa,Qd,IY,Qe],by rw[bB];exact .inr ⟨zd,_,rfl,zd⟩⟩,zE⟩
     simp[hw,hk];refine⟨⟨by rintro row (⟨a,b,_,rfl⟩|rfl)<;>rfl,zE⟩,ag ?_,⟨i+1,zE,zE,bx++[[I x.1,I x.2]],Lm.set k (G.length+1),.own k 2,by rw[bB];simp[Qa,Qd,IY,Qe],by rw[bB];exact .inr ⟨zd,_,rfl,by rw[zzbg ((zza.1 hk).1)];simp⟩⟩,zE⟩;repeat(first|exact Qb _ _|refine Qc _ rfl ?_)
   have hA:p6 p e fr x=false:=by simp[p6,c2]
   simp[h27,Qa,Qd,IY,ai,ah,aa,Aw,c1,c2,hw];rw[hA]at bB;simp only[zzbp,if_false,zzas]at bB;refine⟨aR,⟨i+1,zE,zE,bx++[[I x.1,I x.2]],Lm,rt,by rw[bB];simp[Qa,Qd,IY],by rw[bB];exact bk⟩,zE⟩
  have hA:p6 p e fr x=false:=by simp[p6,c1]
  simp[h27,Qa,Qd,IY,ai,ah,aa,Aw,c1,hw];rw[hA]at bB;simp only[zzbp,if_false,zzas]at bB;refine⟨aR,⟨i+1,zE,zE,bx++[[I x.1,I x.2]],Lm,rt,by rw[bB];simp[Qa,Qd,IY],by rw[bB];exact bk⟩,zE⟩
 obtain rfl:i=e.al.length:=zE
 have hE:Ru p e fr e.al.length=e.al.filter (p6 p e fr):=by simp[Ru]
 rw[hE]at bk;generalize e.al.filter (p6 p e fr)=G at*
 obtain⟨h1,rfl⟩|⟨h1,k,rfl,hk⟩:=bk
 ·simp[h27,Qa,Qd,IY,Aw,alf,h1,hE]
 simp[h27,Qa,Qd,IY,Aw,alf,h1,hE]
def afg(p:Pl)(e:En)(fr:Int):AV:=.agg (IY p e fr .ro (e.al.filter (p6 p e fr)))
def LB(p:Pl)(e:En)(fr:Int)(hc:p.cls.length<=1000000)(fP:p.sh.length<=1000000000)(cN:p.aO.length<=1000000000)(fk:e.al.length<=8796093022208):
  Pure Tryz.prog aD 95 [.agg (Qa p),.agg (Qd e),I fr] (afg p e fr):=by
 obtain⟨rt,h⟩:=G2 p e fr hc fP cN fk;exact Zx h (Qch ⟨Pa,Pa,Pa,Pa,Pa,Pa,Wk.sl _ _,trivial⟩)
structure bJ where
 id:Int
 it:Int
 st:Int
 fr:Int
 i:Int
 re:Int
 al:List Sp
 nl:Bool
def Zt(e:bJ):PQ:=[I e.id,I e.it,I e.st,I e.fr,I e.i,I e.re,.sl (if e.nl then .nil else .ro) (e.al.map Qe)]
def Vh(p:Pl)(x:Int×Int):bJ:=⟨0,p.fi,x.1,x.2,0,Gz p,[],true⟩
def G3(p:Pl)(e:En)(fr:Int):bJ:=⟨e.id,e.it,fr,e.fr,0,evM p e fr,e.al.filter (p6 p e fr),false⟩
def nP(p:Pl)(m:AM)(L:List bJ):Prop:=1<m.boxes.length/\Qg m.boxes 0=Qa p/\∃rt,Qg m.boxes 1=[.sl rt (L.map Zt)]/\(L=[]/\rt=.nil\/L≠[]/\∃k,rt=.own k 7/\m.lens[k]?=some L.length)
def nP.XH{p:Pl}{m m':AM}{L:List bJ}{O:Nat->Prop}(h:nP p m L)(e:bQ O m m')(h0:¬O 0)(h1:¬O 1):nP p m' L:=by
 obtain⟨a1,a2,rt,a3,a4⟩:=h;obtain⟨e1,e2,⟨lx,e3⟩,_⟩:=e;refine⟨zE,by rw[e2 0 zE h0];exact a2,rt,by rw[e2 1 a1 h1];exact a3,?_⟩;obtain h|⟨hn,k,hk,hl⟩:=a4
 ·exact .inl h
 exact .inr ⟨hn,k,hk,by rw[e3,zzak (zza.1 hl).1];exact hl⟩
def asC:SC:=(⟨_,by cbv⟩:KM [1,1,1,0,1,0,0,1,1,0,0,1,1,1,0,1,0] JB).1
def amv(Y:YT)(p:Pl)(a t:Int)(hl:p.aO.length<=1000000000)(hb: -1000000000<=a/\t<=1000000000)(hf:a<=1000000000/\ -1000000000<=t)(orc:X1)(ho:∀d l,orc d 999999 l=.junk)(E:R0)(m:AM)(L:List bJ)
  (hO:nP p m L)(hL:L.length+(Vl (Vz p) t a).length<=1000000000)(hg:Abs.look E 67=.fn 146 [] [.ep (Qa p) 0,.ep [I a] 0,.ep [I t] 0])(h7:Abs.look E 7=.ptr 1 0)(Q:T5)
  (hQ:∀m',nP p m' (L++(Vl (Vz p) t a).map (Vh p))->m.boxes.length<=m'.boxes.length->(∀j,2<=j->j<m.boxes.length->Qg m'.boxes j=Qg m.boxes j)->Q .normal ⟨Zr 98 E,m'⟩):vc Tryz.prog aD orc Y asC ⟨Zr 98 E,m⟩ Q:=by
 have cN:=xF p a t hl hb hf;generalize hX:Vl (Vz p) t a=xs at*
 unfold asC
 refine kT (xs:=xs.map (Qas p)) (by simp[hg];try exact⟨rfl,rfl⟩) cN (by intro x hx;simp at hx;obtain⟨u,v,_,rfl⟩:=hx;rfl)
  (fun O i mm=>(∀j,O j->m.boxes.length<=j)/\nP p mm (L++(xs.take i).map (Vh p))/\m.boxes.length<=mm.boxes.length/\(∀j,2<=j->j<m.boxes.length->Qg mm.boxes j=Qg m.boxes j)) (fun _ _ _=>False) ?_ ?_ (fun _ _ _ _ h=>h.elim) ?_ ?_ (fun _ _ _ h=>h.elim)
 ·exact⟨fun _ h=>h.elim,by rw[zzgd,zzcu,zzas];exact hO,zzaa _,fun _ _ _=>rfl⟩
 ·rintro O i m1 m2 ⟨h1,h2,h3,h4⟩ e;have oy:=hO.1;refine⟨?_,h2.XH e (fun h=>by have:=h1 _ h;omega) (fun h=>by have:=h1 _ h;omega),zzb h3 e.1,fun j j1 j2=>by rw[e.2.1 j zE (fun h=>by have:=h1 _ h;omega)];exact h4 j j1 j2⟩;rintro j (h|h)
  ·exact h1 j h
  omega
 ·rintro O l i mm x zZ cR hg0 fB ⟨h1,h2,h3,h4⟩ hx K' q1 _ _;rw[zzbf,zzbd]at hx;obtain⟨x,hx,rfl⟩:=hx;have iI:=(zza.1 hx).1;have bB:L++(xs.take (i+1)).map (Vh p)=(L++(xs.take i).map (Vh p))++[Vh p x]:=by rw[zzax,hx];simp
  have hml:=hO.1;have aH:(L++(xs.take i).map (Vh p)).length<=1000000000:=by simp;omega
  obtain⟨o1,o2,rt,o3,o4⟩:=h2;simp only[Us,DK]at o1 o2 o3 o4 h3 h4;have eX:∀y,Qg (mm.boxes++y) 1=[.sl rt ((L++(xs.take i).map (Vh p)).map Zt)]:=fun y=>by rw[Qk zE];exact o3
  have Bq:∀y,Qg (mm.boxes++[y]) mm.boxes.length=y:=fun y=>by
   simp
  have fin:∀(T:PQ)(v:PQ)(row:PQ)(ls:P1)(st:Nat->LS)(ln:Nat),nP p ⟨(mm.boxes++[row]).set 1 v,ls,st,ln⟩ (L++(xs.take (i+1)).map (Vh p))->K' .normal ⟨T,⟨(mm.boxes++[row]).set 1 v,ls,st,ln⟩⟩:=by
   intro T v row ls st ln hv;refine q1 _ ⟨zd,fun j hj=>?_⟩ ⟨h1,hv,by simp;omega,fun j j1 j2=>?_⟩
   ·have:=(zZ j hj).2;have:=h1 j hj;show Qg ((mm.boxes++[row]).set 1 v) j=_;rw[Xl _ zE,Qk zE]
   show Qg ((mm.boxes++[row]).set 1 v) j=_;rw[Xl _ zE,Qk zE];exact h4 j j1 j2
  have DL:∀(v row:PQ),Qg ((mm.boxes++[row]).set 1 v) 0=Qa p/\Qg ((mm.boxes++[row]).set 1 v) 1=v:=fun v row=>⟨by rw[Xl _ zE,Qk zE];exact o2,Zg _ (by simp;omega)⟩;rw[bB]at fin;generalize L++(xs.take i).map (Vh p)=G at*
  have hG7:∀row∈G.map Zt,row.length=7:=by
   intro row h;obtain⟨e,_,rfl⟩:=zzbh.1 h;rfl
  obtain⟨rfl,rfl⟩|⟨aJ,k,rfl,hk⟩:=o4
  ·simp[fB,Zi,Qas,h7,eX,Bq,ho];subst_vars;exact⟨zE,fin _ _ _ _ _ _ ⟨by simp;omega,(DL _ _).1,_,(DL _ _).2,.inr ⟨zd,_,rfl,zd⟩⟩⟩
  simp[fB,Zi,Qas,h7,eX,Bq,ho];refine⟨⟨hk,?_,zE⟩,zE,fin _ _ _ _ _ _ ⟨by simp;omega,(DL _ _).1,_,by rw[(DL _ _).2];simp;rfl,.inr ⟨zd,k,rfl,by simp[(zza.1 hk).1]⟩⟩⟩;rintro row (⟨e,_,rfl⟩|rfl)<;>rfl
 rintro mm' mm ⟨h1,h2,h3,h4⟩;rw[zzbu,zzbs]at h2;exact hQ _ h2 h3 h4
def asD:SC:=(⟨_,by cbv⟩:KM [1,1,1,1,0,1,0] JB).1
def amw(Y:YT)(p:Pl)(a t:Int)(hl:p.aO.length<=1000000000)(hb: -1000000000<=a/\t<=1000000000)(hf:a<=1000000000/\ -1000000000<=t)(orc:X1)(ho:∀d l,orc d 999999 l=.junk)(E:R0)(m:AM)(L:List bJ)
  (hO:nP p m L)(hL:L.length+(Vl (Vz p) t a).length<=1000000000)(hg:Abs.look E 91=.fn 146 [] [.ep (Qa p) 0,.ep [I a] 0,.ep [I t] 0])(h7:Abs.look E 7=.ptr 1 0)(Q:T5)
  (hQ:∀m',nP p m' (L++(Vl (Vz p) t a).map (Vh p))->m.boxes.length<=m'.boxes.length->(∀j,2<=j->j<m.boxes.length->Qg m'.boxes j=Qg m.boxes j)->Q .normal ⟨Zr 98 E,m'⟩):vc Tryz.prog aD orc Y asD ⟨Zr 98 E,m⟩ Q:=by
 have cN:=xF p a t hl hb hf;generalize hX:Vl (Vz p) t a=xs at*
 unfold asD
 refine kT (xs:=xs.map (Qas p)) (by simp[hg];try exact⟨rfl,rfl⟩) cN (by intro x hx;simp at hx;obtain⟨u,v,_,rfl⟩:=hx;rfl)
  (fun O i mm=>(∀j,O j->m.boxes.length<=j)/\nP p mm (L++(xs.take i).map (Vh p))/\m.boxes.length<=mm.boxes.length/\(∀j,2<=j->j<m.boxes.length->Qg mm.boxes j=Qg m.boxes j)) (fun _ _ _=>False) ?_ ?_ (fun _ _ _ _ h=>h.elim) ?_ ?_ (fun _ _ _ h=>h.elim)
 ·exact⟨fun _ h=>h.elim,by rw[zzgd,zzcu,zzas];exact hO,zzaa _,fun _ _ _=>rfl⟩
 ·rintro O i m1 m2 ⟨h1,h2,h3,h4⟩ e;have oy:=hO.1;refine⟨?_,h2.XH e (fun h=>by have:=h1 _ h;omega) (fun h=>by have:=h1 _ h;omega),zzb h3 e.1,fun j j1 j2=>by rw[e.2.1 j zE (fun h=>by have:=h1 _ h;omega)];exact h4 j j1 j2⟩;rintro j (h|h)
  ·exact h1 j h
  omega
 ·rintro O l i mm x zZ cR hg0 fB ⟨h1,h2,h3,h4⟩ hx K' q1 _ _;rw[zzbf,zzbd]at hx;obtain⟨x,hx,rfl⟩:=hx;have iI:=(zza.1 hx).1;have bB:L++(xs.take (i+1)).map (Vh p)=(L++(xs.take i).map (Vh p))++[Vh p x]:=by rw[zzax,hx];simp
  have hml:=hO.1;have aH:(L++(xs.take i).map (Vh p)).length<=1000000000:=by simp;omega
  obtain⟨o1,o2,rt,o3,o4⟩:=h2;simp only[Us,DK]at o1 o2 o3 o4 h3 h4;have eX:∀y,Qg (mm.boxes++y) 1=[.sl rt ((L++(xs.take i).map (Vh p)).map Zt)]:=fun y=>by rw[Qk zE];exact o3
  have Bq:∀y,Qg (mm.boxes++[y]) mm.boxes.length=y:=fun y=>by
   simp
  have fin:∀(T:PQ)(v:PQ)(row:PQ)(ls:P1)(st:Nat->LS)(ln:Nat),nP p ⟨(mm.boxes++[row]).set 1 v,ls,st,ln⟩ (L++(xs.take (i+1)).map (Vh p))->K' .normal ⟨T,⟨(mm.boxes++[row]).set 1 v,ls,st,ln⟩⟩:=by
   intro T v row ls st ln hv;refine q1 _ ⟨zd,fun j hj=>?_⟩ ⟨h1,hv,by simp;omega,fun j j1 j2=>?_⟩
   ·have:=(zZ j hj).2;have:=h1 j hj;show Qg ((mm.boxes++[row]).set 1 v) j=_;rw[Xl _ zE,Qk zE]
   show Qg ((mm.boxes++[row]).set 1 v) j=_;rw[Xl _ zE,Qk zE];exact h4 j j1 j2
  have DL:∀(v row:PQ),Qg ((mm.boxes++[row]).set 1 v) 0=Qa p/\Qg ((mm.boxes++[row]).set 1 v) 1=v:=fun v row=>⟨by rw[Xl _ zE,Qk zE];exact o2,Zg _ (by simp;omega)⟩;rw[bB]at fin;generalize L++(xs.take i).map (Vh p)=G at*
  have hG7:∀row∈G.map Zt,row.length=7:=by
   intro row h;obtain⟨e,_,rfl⟩:=zzbh.1 h;rfl
  obtain⟨rfl,rfl⟩|⟨aJ,k,rfl,hk⟩:=o4
  ·simp[fB,Zi,Qas,h7,eX,Bq,ho];subst_vars;exact⟨zE,fin _ _ _ _ _ _ ⟨by simp;omega,(DL _ _).1,_,(DL _ _).2,.inr ⟨zd,_,rfl,zd⟩⟩⟩
  simp[fB,Zi,Qas,h7,eX,Bq,ho];refine⟨⟨hk,?_,zE⟩,zE,fin _ _ _ _ _ _ ⟨by simp;omega,(DL _ _).1,_,by rw[(DL _ _).2];simp;rfl,.inr ⟨zd,k,rfl,by simp[(zza.1 hk).1]⟩⟩⟩;rintro row (⟨e,_,rfl⟩|rfl)<;>rfl
 rintro mm' mm ⟨h1,h2,h3,h4⟩;rw[zzbu,zzbs]at h2;exact hQ _ h2 h3 h4
def BG(fr t:Int):∀(n:Nat)(a:Int),(t-a).toNat<=n->((Vl fr t a).length:Int)<=max 0 (t-a):=by
 intro n;induction n with
 |zero=>intro a h;rw[Vl,if_neg zE];simp only[zzcd];omega
 |succ n ih=>
  intro a h;rw[Vl];split
  ·rename_i aa;have hN:1<=Yz fr t a/\Yz fr t a<=t-a:=by unfold Yz;split<;>omega
   have:=ih (a+Yz fr t a) zE;simp only[zzav];omega
  simp only[zzcd];omega
def nP.app{p:Pl}{m:AM}{L:List bJ}(h:nP p m L)(x:X2):nP p ⟨m.boxes++x,m.lens,m.st,m.ln⟩ L:=by
 obtain⟨a1,a2,rt,a3,a4⟩:=h;exact⟨by simp;omega,by show Qg (m.boxes++x) 0=_;rw[Qk zE];exact a2,rt,by show Qg (m.boxes++x) 1=_;rw[Qk zE];exact a3,a4⟩
def p7(p:Pl)(s:Sp)(at_:Int):Option En:=match Zf s.1 p.ens with
 |some e=>if s.1=0\/e.fr<1\/s.2<at_\/p.ln-s.2<e.fr then none else some e
 |none=>none
def zx(p:Pl):List Sp->Int->List bJ
 |[],at_=>(Vl (Vz p) p.ln at_).map (Vh p)
 |s::r,at_=>match p7 p s at_ with
  |none=>zx p r at_
  |some e=>((Vl (Vz p) s.2 at_).map (Vh p)++[G3 p e s.2])++zx p r (s.2+e.fr)
def iG(p:Pl)(l:List Sp)(at_:Int):List bJ:=if at_<0\/p.ln<at_ then[]else zx p l at_
def p8(p:Pl):X1:=fun d f l=>
 if f=999999 then .junk else
 if f=93 then(match l with|[_,.int _ n]=>Ws (Zf n p.ens)|_=>.junk)else
 if f=94 then(match l with|[_,.int _ a,.int _ t]=>.fn 146 [] [.ep (Qa p) 0,.ep [I a] 0,.ep [I t] 0]|_=>.junk)else
 if f=95 then(match l with|[_,.agg [.int _ a,.int _ b,.int _ c,.int _ d,.int _ e,.int _ g,.sl _ rows],.int _ fr]=>afg p ⟨a,b,c,d,e,g,rows.map rF⟩ fr|_=>.junk)else .gd false .junk
def jJ{id:Int}{x:En}:∀{l:List En},Zf id l=some x->x∈l/\x.id=id
 |[],h=>by cases h
 |y::r,h=>by
  simp only[Zf]at h;split at h
  ·rename_i hy;cases h;exact⟨zd,hy⟩
  obtain⟨h1,h2⟩:=jJ h;exact⟨by simp[h1],h2⟩
def LC(p:Pl)(l:List Sp)(G4:Int)(hc:p.cls.length<=1000000)(fP:p.sh.length<=1000000000)(cN:p.aO.length<=1000000000)(IZ:p.ens.length<=1000000000)(fk:∀e∈p.ens,e.al.length<=8796093022208)
  (ei:p.ln<=1000000)(hl:l.length<=1000000)(ow:∀s∈l,-1000000000<=s.2/\s.2<=1000000000):∃rt,Pure Tryz.prog aD 51 [.agg (Qa p),.sl .ro (l.map Qe),I G4] (.sl rt ((iG p l G4).map Zt)):=by
 by_cases c0:G4<0\/p.ln<G4
 ·refine⟨.nil,Qn Th (p8 p) zd ?_⟩;rw[iG,if_pos c0];by_cases c1:G4<0
  ·simp[JB,Tg,Qa,c1]
  have c2:p.ln<G4:=zE
  simp[JB,Tg,Qa,c1,c2]
 refine⟨if zx p l G4=[]then .nil else .ro,Qn Th (p8 p) zd ?_⟩;rw[iG,if_neg c0];simp only[not_or]at c0;have c1:¬G4<0:=c0.1;have c2:¬p.ln<G4:=c0.2;simp[JB,Qa,c1,c2];refine Qj oC (fun f mm=>∃(i:Nat)(at_:Int)(L:List bJ),f 24=I i/\f 2=I at_/\i<=l.length/\nP p mm L/\0<=at_/\at_<=p.ln/\(L.length:Int)<=at_/\L++zx p (l.drop i) at_=zx p l G4) (fun f _=>l.length-(numOf (f 24)).toNat) ?_ ?_
 ·exact⟨0,G4,[],zd,zd,zE,⟨zd,by simp[Qa],.nil,zd,.inl ⟨rfl,rfl⟩⟩,zE,zE,by simp;omega,zd⟩
 rintro f mm ⟨i,at_,L,h24,h2,hi,hO,a1,a2,a3,hI⟩;rcases zzab i l.length with aa|bu
 ·obtain⟨s,hs⟩:=aY aa;have ai:=Zv hs;have hsb:=ow s (zzac hs);have ah:(i:Int)<(l.length:Int):=zE
  have hw:=bR i zE;have fE:IntKind.i64.wrap (p.ln-s.2)=p.ln-s.2:=by rw[Qi]<;>omega
  rw[Zb hs,zx]at hI;have LD:=Ln p s.1 IZ fk;have hO':=hO;obtain⟨o1,o2,rt,o3,o4⟩:=hO';have r0:∀y,Qg (mm.boxes++y) 0=Qa p:=fun y=>by rw[Qk zE];exact o2
  have r1:∀y,Qg (mm.boxes++y) 1=[.sl rt (L.map Zt)]:=fun y=>by rw[Qk o1];exact o3
  simp only[Qa]at r0;cases hf:Zf s.1 p.ens with
  |none=>
   simp only[p7,hf]at hI;rw[hf]at LD;by_cases c3:s.1=0
   ·rw[c3]at hf LD;simp[h24,h2,oC,aa,ah,ai,r0,r1,p8,hf,Ws,hw,c3];refine⟨LD,aR,⟨i+1,zd,zE,L,hO.app _,a1,a2,a3,hI⟩,zE⟩
   simp[h24,h2,oC,aa,ah,ai,r0,r1,p8,hf,Ws,hw,c3];refine⟨LD,aR,⟨i+1,zd,zE,L,hO.app _,a1,a2,a3,hI⟩,zE⟩
  |some e=>
   rw[hf]at LD;simp only[p7,hf]at hI;by_cases c3:s.1=0
   ·rw[if_pos (.inl c3)]at hI;rw[c3]at hf LD;simp[h24,h2,oC,aa,ah,ai,r0,r1,p8,hf,Ws,Qd,hw,c3];refine⟨LD,aR,⟨i+1,zd,zE,L,hO.app _,a1,a2,a3,hI⟩,zE⟩
   by_cases c4:e.fr<1
   ·rw[if_pos (.inr (.inl c4))]at hI;simp[h24,h2,oC,aa,ah,ai,r0,r1,p8,hf,Ws,Qd,hw,c3,c4];refine⟨LD,aR,⟨i+1,zd,zE,L,hO.app _,a1,a2,a3,hI⟩,zE⟩
   by_cases c5:s.2<at_
   ·rw[if_pos (.inr (.inr (.inl c5)))]at hI;simp[h24,h2,oC,aa,ah,ai,r0,r1,p8,hf,Ws,Qd,hw,c3,c4,c5];refine⟨LD,aR,⟨i+1,zd,zE,L,hO.app _,a1,a2,a3,hI⟩,zE⟩
   by_cases c6:p.ln-s.2<e.fr
   ·rw[if_pos (.inr (.inr (.inr c6)))]at hI;simp[h24,h2,oC,aa,ah,ai,r0,r1,p8,hf,Ws,Qd,hw,fE,c3,c4,c5,c6];refine⟨LD,aR,⟨i+1,zd,zE,L,hO.app _,a1,a2,a3,hI⟩,zE⟩
   rw[if_neg zE]at hI;simp[h24,h2,oC,aa,ah,ai,r0,r1,p8,hf,Ws,Qd,hw,fE,c3,c4,c5,c6];have k31:=xE p at_ s.2;have gG:=BG (Vz p) s.2 _ at_ (zzaa _);refine⟨LD,k31,?_⟩;refine amv Y0 p at_ s.2 cN zE zE (p8 p) (fun _ _=>rfl) _ _ L (hO.app _) zE zd zd _ ?_;intro m' hO2 cR ew
   have Rs:Qg m'.boxes mm.boxes.length=[I s.1,I s.2]:=by
    rw[ew _ zE zd];simp
   have Re:Qg m'.boxes (mm.boxes.length+1)=Qd e:=by
    rw[ew _ zE zd];simp[Qd]
   simp only[Qd]at Re;obtain⟨p1,p2,U5,p3,p4⟩:=hO2;have p2':=p2;have b1:∀v,Qg (m'.boxes.set 1 v) 1=v:=fun v=>Zg v p1;have b0:∀v,Qg (m'.boxes.set 1 v) 0=Qa p:=fun v=>by rw[Xl v zE];exact p2
   have bs:∀v,Qg (m'.boxes.set 1 v) mm.boxes.length=[I s.1,I s.2]:=fun v=>by rw[Xl v zE];exact Rs
   have be:∀v,Qg (m'.boxes.set 1 v) (mm.boxes.length+1)=[I e.id,I e.it,I e.fr,I e.ea,I e.la,I e.bo,.sl .ro (e.al.map Qe)]:=fun v=>by rw[Xl v zE];exact Re
   simp only[Qa]at p2';have hG:((L++(Vl (Vz p) s.2 at_).map (Vh p)).length:Int)<=s.2:=by simp;omega
   have hI2:(L++(Vl (Vz p) s.2 at_).map (Vh p)++[G3 p e s.2])++zx p (l.drop (i+1)) (s.2+e.fr)=zx p l G4:=by rw[<- hI];simp
   generalize L++(Vl (Vz p) s.2 at_).map (Vh p)=G at*
   have k32:=LB p e s.2 hc fP cN (fk e (jJ hf).1);have S0:IntKind.i64.wrap (s.2+e.fr)=s.2+e.fr:=by rw[Qi]<;>omega
   obtain⟨g1,rfl⟩|⟨g1,k,rfl,hk⟩:=p4
   ·subst g1;simp[h24,p2',p3,Rs,Re,b1,bs,be,p1,p8,afg,IY,hw,S0];rw[zzaj]at hI2;refine⟨k32,aR,⟨i+1,zd,zE,[G3 p e s.2],⟨by simp;omega,b0 _,_,b1 _,.inr ⟨zd,_,rfl,zd⟩⟩,zE,zE,by simp;omega,hI2⟩,zE⟩
   simp[h24,p2',p3,Rs,Re,b1,bs,be,p1,p8,afg,IY,hw,S0];refine⟨k32,⟨hk,by rintro row (⟨a,_,rfl⟩|rfl)<;>rfl,zE⟩,ag ?_,⟨i+1,zd,zE,G++[G3 p e s.2],⟨by simp;omega,b0 _,_,by rw[b1];simp[Zt,G3],.inr ⟨zd,k,rfl,by simp[(zza.1 hk).1]⟩⟩,zE,zE,by simp;omega,hI2⟩,zE⟩;repeat(first|exact Qb _ _|refine Qc _ rfl ?_)
 obtain rfl:i=l.length:=zE
 have k31:=xE p at_ p.ln;have gG:=BG (Vz p) p.ln _ at_ (zzaa _);rw[zzbx,zx]at hI;obtain⟨o1,o2,rt,o3,o4⟩:=id hO;simp only[Qa]at o2;simp[h24,h2,oC,o2,p8];refine⟨k31,?_⟩;refine amw Y0 p at_ p.ln cN zE zE (p8 p) (fun _ _=>rfl) _ _ L hO zE zd zd _ ?_;intro m' hO2 cR ew;rw[hI]at hO2;obtain⟨p1,p2,U5,p3,p4⟩:=hO2;generalize zx p l G4=G at*
 obtain⟨g1,rfl⟩|⟨g1,k,rfl,hk⟩:=p4
 ·subst g1;simp[p3,p1,Tg]
 simp[p3,p1,Tg,g1]
def Qf(e:bJ):PQ:=[I e.id,I e.it,I e.st,I e.fr,I e.i,I e.re,.sl .ro (e.al.map Qe)]
def LF(L:List bJ):Wk (.sl .ro (L.map Zt)) (.sl .ro (L.map Qf)):=by
 refine Wk.rows L Zt Qf (fun _=>rfl) fun a j c' h=>?_
 match j,h with
 |0,h=>exact⟨_,rfl,by cases h;exact Pa⟩
 |1,h=>exact⟨_,rfl,by cases h;exact Pa⟩
 |2,h=>exact⟨_,rfl,by cases h;exact Pa⟩
 |3,h=>exact⟨_,rfl,by cases h;exact Pa⟩
 |4,h=>exact⟨_,rfl,by cases h;exact Pa⟩
 |5,h=>exact⟨_,rfl,by cases h;exact Pa⟩
 |6,h=>exact⟨_,rfl,by cases h;exact Wk.sl _ _⟩
 |j+7,h=>simp[Qf]at h
def Wk.trans{a b c:AV}(h:Wk a b)(k:Wk b c):Wk a c:=fun w γ v hr=>k w γ v (h w γ v hr)
def tc(p:Pl)(l:List Sp)(G4:Int)(hc:p.cls.length<=1000000)(fP:p.sh.length<=1000000000)(cN:p.aO.length<=1000000000)(IZ:p.ens.length<=1000000000)(fk:∀e∈p.ens,e.al.length<=8796093022208)
  (ei:p.ln<=1000000)(hl:l.length<=1000000)(ow:∀s∈l,-1000000000<=s.2/\s.2<=1000000000):Pure Tryz.prog aD 51 [.agg (Qa p),.sl .ro (l.map Qe),I G4] (.sl .ro ((iG p l G4).map Qf)):=by
 obtain⟨rt,h⟩:=LC p l G4 hc fP cN IZ fk ei hl ow;exact Zx h (Wk.trans (Wk.sl _ _) (LF _))
def xW(f:Int)(e:bJ):Bool:=decide (e.st<=f/\f<e.st+e.fr)
def Ki(e:bJ):Prop:=(0<=e.st/\e.st<=1000000)/\(0<=e.fr/\e.fr<=1000000)/\(0<=e.i/\e.i<=1000000)/\e.al.length<=8796093022208
def iq(f:Int):List bJ->Nat->Int
 |[],_=> -1
 |e::r,i=>if xW f e=true then i else iq f r (i+1)
def DM(f:Int):List bJ->Option bJ
 |[]=>none
 |e::r=>if xW f e=true then some e else DM f r
def xX{f:Int}:∀{L:List bJ}{i:Nat},DM f L=none->iq f L i= -1
 |[],_,_=>rfl
 |a::r,i,h=>by
  simp only[DM]at h;split at h
  ·cases h
  rename_i hn;simp only[iq,if_neg hn];exact xX h
def xY{f:Int}{a:bJ}:∀{L:List bJ}{i:Nat},DM f L=some a->∃k:Nat,iq f L i=((i+k:Nat):Int)/\L[k]?=some a/\xW f a=true
 |[],_,h=>by cases h
 |b::r,i,h=>by
  simp only[DM]at h;split at h
  ·rename_i hb;cases h;exact⟨0,by simp[iq,hb],rfl,hb⟩
  rename_i hn;obtain⟨k,h1,h2,h3⟩:=xY (i:=i+1) h;exact⟨k+1,by simp only[iq,if_neg hn,h1];omega,Pi h2,h3⟩
def LG(f:Int):X1:=fun _ _ l=>match l with
 |[.agg [_,_,.int _ st,.int _ fr,_,_,_],_]=>.bool (decide (st<=f/\f<st+fr))
 |_=>.junk
def xZ(f:Int):Option bJ->AV
 |none=>ajn
 |some e=>.aQ [.agg (Qf e),I (e.i+f-e.st),.bool true]
structure Cue where
 id:Int
 fr:Int
 to:Int
 pr:Int
 tx:ByteArray
def Ql(c:Cue):PQ:=[I c.id,I c.fr,I c.to,I c.pr,.str c.tx]
structure Pg where
 p:Pl
 ev:List bJ
 cu:List Cue
 ed:Int
 dr:P2
 ve:Int
def Qo(g:Pg):PQ:=Qa g.p++[.sl .ro (g.ev.map Qf),.sl .ro (g.cu.map Ql),I g.ed,.sl .ro (g.dr.map Xa),I g.ve]
structure Od where
 sq:Int
 ch:Int
 fr:Int
 ki:Int
 en:Int
 n:Int
 nw:En
 cl:Cl
 cu:Cue
def Qu(o:Od):PQ:=[I o.sq,I o.ch,I o.fr,I o.ki,I o.en,I o.n]++(Qd o.nw++(Qh o.cl++Ql o.cu))
def G5(pre a r bs:PQ)(h:bs.length=a.length):setA (pre++(a++r)) pre.length bs=pre++(bs++r):=by
 induction bs generalizing pre a with
 |nil=>cases a with
  |nil=>rfl
  |cons _ _=>simp at h
 |cons x bs ih=>cases a with
  |nil=>simp at h
  |cons y a=>
   rw[setA];have e:(pre++(y::a++r)).set pre.length x=(pre++[x])++(a++r):=zd
   rw[e];have:=ih (pre++[x]) a (Pi h);rw[show(pre++[x]).length=pre.length+1 by simp]at this;rw[this];simp
theorem jK(l:PQ)(o:Nat):setA l o []=l:=rfl
def ya(y:AV):∀(xs l:PQ)(n:Nat),setA (y::l) (n+1) xs=y::setA l n xs
 |[],_,_=>rfl
 |x::xs,l,n=>by
  rw[setA,setA,zzdz];exact ya y xs _ _
def jL(y x:AV)(xs l:PQ):setA (y::l) 0 (x::xs)=x::setA l 0 xs:=by
 rw[setA,List.set_cons_zero,ya]
def jM{sz:Nat}:∀{rows:X2},(∀r∈rows,r.length=sz)->rows.flatten.length=rows.length*sz
 |[],_=>zd
 |a::r,h=>by
  have:=jM (rows:=r) fun x hx=>h x (by simp[hx]);rw[zzci,zzah,this,h a zd,zzav,zzho];omega
def Qbj{sz:Nat}:∀{rows:X2},(∀r∈rows,r.length=sz)->aW sz rows.length rows.flatten=rows
 |[],_=>rfl
 |a::r,h=>by
  have ha:=h a zd;have ih:=Qbj (rows:=r) fun x hx=>h x (by simp[hx]);rw[zzav,nQ,zzci,zzdu zE,zzdt zE,zzal zE,List.drop_of_length_le zE,zzaj,ih]
def BH{sz:Nat}:∀{rows:X2}{i:Nat}{row:PQ},(∀r∈rows,r.length=sz)->rows[i]?=some row->∃pre r,rows.flatten=pre++(row++r)/\pre.length=i*sz
 |[],i,row,_,h=>by simp at h
 |a::r,0,row,h,hi=>by simp at hi;subst hi;exact⟨[],r.flatten,zd,zd⟩
 |a::r,i+1,row,h,hi=>by
  obtain⟨p,q,h1,h2⟩:=BH (rows:=r) (fun x hx=>h x (by simp[hx])) (Pi hi);have ha:=h a zd;exact⟨a++p,q,by rw[zzci,h1,zzaz],by rw[zzah,h2,ha,zzho];omega⟩
def uV{sz:Nat}{rows:X2}{i:Nat}{row:PQ}(h:∀r∈rows,r.length=sz)(hi:rows[i]?=some row):(∃r,rows.flatten.drop (i*sz)=row++r)/\setA rows.flatten (i*sz) row=rows.flatten:=by
 obtain⟨p,q,h1,h2⟩:=BH h hi;refine⟨⟨q,by rw[h1,<- h2,zzeg]⟩,?_⟩;rw[h1,<- h2];exact G5 p row q row rfl
def kY{α:Type}{f:α->PQ}(h:∀a,Zl (f a)=true)(l:List α):Zl (l.map f).flatten=true:=by
 induction l with
 |nil=>rfl
 |cons a r ih=>rw[zzay,zzci];exact Rv (h a) ih
def kZ{α:Type}{f:α->PQ}{sz:Nat}(h:∀a,(f a).length=sz)(l:List α):∀r∈l.map f,r.length=sz:=by
 intro r hr;simp only[zzbh]at hr;obtain⟨a,_,rfl⟩:=hr;exact h a
def p9(l:List Sp)(h:l.length<=8796093022208):Pure Tryz.prog aD 87 [.sl .ro (l.map Qe)] (.sl .ro (l.map Qe)):=by
 refine Qn ak7 (fun _ _ _=>.junk) zd ?_;simp[apu,apv];exact⟨by rintro row a b _ rfl;rfl,zE⟩
def qb(l:List It)(h:l.length<=1000000000):Pure Tryz.prog aD 88 [.sl .ro (l.map Qm)] (.sl .ro (l.map Qm)):=by
 refine Qn ak8 (fun _ _ _=>.junk) zd ?_;simp[apw,apx];exact⟨fun _ _=>rfl,zE⟩
def qc(l:List Bk)(h:l.length<=1000000000):Pure Tryz.prog aD 91 [.sl .ro (l.map Xk)] (.sl .ro (l.map Xk)):=by
 refine Qn ala (fun _ _ _=>.junk) zd ?_;simp[apA,apB];exact⟨fun _ _=>rfl,zE⟩
def DN(l:List Cl)(h:l.length<=1000000000):Pure Tryz.prog aD 92 [.sl .ro (l.map Qh)] (.sl .ro (l.map Qh)):=by
 refine Qn Ts (fun _ _ _=>.junk) zd ?_;simp[alb,alc];exact⟨fun _ _=>rfl,zE⟩
def OD(l:List Sp)(h:l.length<=8796093022208):Pure Tryz.prog aD 97 [.sl .ro (l.map Qe)] (.sl .ro (l.map Qe)):=by
 refine Qn alj (fun _ _ _=>.junk) zd ?_;simp[apE,apF];exact⟨by rintro row a b _ rfl;rfl,zE⟩
def afh(l:List Cue)(h:l.length<=1000000000):Pure Tryz.prog aD 98 [.sl .ro (l.map Ql)] (.sl .ro (l.map Ql)):=by
 refine Qn alk (fun _ _ _=>.junk) zd ?_;simp[apG,apH];exact⟨fun _ _=>rfl,zE⟩
def afi(l:P2)(h:l.length<=1000000000):Pure Tryz.prog aD 99 [.sl .ro (l.map Xa)] (.sl .ro (l.map Xa)):=by
 refine Qn alm (fun _ _ _=>.junk) zd ?_;simp[apI,apJ];exact⟨fun _ _=>rfl,zE⟩
def Wj(e:En)(h:e.al.length<=8796093022208):Pure Tryz.prog aD 90 [.agg (Qd e)] (.agg (Qd e)):=by
 have k:=OD e.al h;refine Qn ak9 (fun _ _ l=>l.headD .junk) zd ?_;simp[apy,apz,Qd];exact k
def afj:X1:=fun _ f _=>if f=999999 then .aL 0 []else .junk
def yb(Y:YT)(rows:X2)(h:∀r∈rows,r.length=7)(hl:rows.length<=1000000000)(aJ:rows≠[])(m:AM)(K:UV)(hK:K (.bs m.boxes.length 0 rows.length 7) {m with boxes:=m.boxes++[rows.flatten]}):
  aA Tryz.prog aD Y 89 [.sl .ro rows] m K:=by
 refine Xh JF afj zd ?_;simp[abZ,ab0,afj,aJ];exact⟨⟨zE,h⟩,hK⟩
def Y9(Y:YT)(rows:X2)(h:∀r∈rows,r.length=7)(hl:rows.length<=1000000000)(aJ:rows≠[])(m:AM)(K:UV)(hK:K (.bs m.boxes.length 0 rows.length 7) {m with boxes:=m.boxes++[rows.flatten]}):
  aA Tryz.prog aD Y 96 [.sl .ro rows] m K:=by
 refine Xh Tu afj zd ?_;simp[alh,ali,afj,aJ];exact⟨⟨zE,h⟩,hK⟩
def G6:Pure Tryz.prog aD 89 [.sl .ro []] (.sl .ro []):=by
 refine Qn JF (fun _ _ _=>.junk) zd ?_;simp[abZ,ab0]
def Zs:Pure Tryz.prog aD 96 [.sl .ro []] (.sl .ro []):=by
 refine Qn Tu (fun _ _ _=>.junk) zd ?_;simp[alh,ali]
def Kb(p:Pl):X1:=fun _ f l=>if f=89 then(if p.ens=[]then .sl .ro []else .gd false .junk)else l.headD .junk
def BI(p:Pl):Prop:=p.sh.length<=1000000/\p.aO.length<=1000000/\p.ens.length<=1000000/\p.bks.length<=1000000/\p.cls.length<=1000000/\∀e∈p.ens,e.al.length<=8796093022208
def asE(p:Pl)(m0:PQ)(f:Nat->AV)(m:AM):Prop:=∃(i:Nat)(bx:X2),f 22=I i/\i<=p.ens.length/\m=⟨[I p.ch,I p.nu,I p.de,I p.of,.sl .ro (p.sh.map Qe),I p.ep,I p.rg,I p.ln,I p.fi,.sl .ro (p.aO.map Qm),.bs 2 0 p.ens.length 7,.sl .ro (p.bks.map Xk),.sl .ro (p.cls.map Qh)]::m0::(p.ens.map Qd).flatten::bx,[],fun _=>.gone,0⟩
def qd(p:Pl)(h:BI p):Pure Tryz.prog aD 50 [.agg (Qa p)] (.agg (Qa p)):=by
 obtain⟨h1,h2,h3,h4,h5,h6⟩:=h;have k1:=p9 p.sh zE;have k2:=qb p.aO zE;have k4:=qc p.bks zE;have k5:=DN p.cls zE;have hsz:=kZ (f:=Qd) (sz:=7) (fun _=>rfl) p.ens;refine Qn vi (Kb p) zd ?_;by_cases hn:p.ens=[]
 ·have k3:=G6;simp[Jx,Qa,Kb,hn];refine⟨k1,k2,k3,?_⟩;refine Qj eM (fun f m=>f 22=I 0/\m=⟨[I p.ch,I p.nu,I p.de,I p.of,.sl .ro (p.sh.map Qe),I p.ep,I p.rg,I p.ln,I p.fi,.sl .ro (p.aO.map Qm),.sl .ro [],.sl .ro (p.bks.map Xk),.sl .ro (p.cls.map Qh)]::[[I 0,I 0,I 0,I 0,.sl .nil [],I 0,I 0,I 0,I 0,.sl .nil [],.sl .nil [],.sl .nil [],.sl .nil []]],[],fun _=>.gone,0⟩) (fun f _=>0) ?_ ?_
  ·exact⟨zd,zd⟩
  rintro f m ⟨f22,rfl⟩;simp[f22,eM,JA,Kb];exact⟨k4,k5⟩
 have aJ:p.ens.map Qd≠[]:=by simpa using hn
 simp[Jx,Qa,Kb,hn];refine⟨k1,k2,yb _ _ hsz (by simpa using by omega) aJ _ _ ?_⟩;simp;obtain⟨F,hF⟩:∃F,(p.ens.map Qd).flatten=F:=⟨_,rfl⟩;have hFl:F.length=p.ens.length*7:=by rw[<- hF,jM hsz];simp
 have ck:Zl F=true:=by rw[<- hF];exact kY (fun _=>rfl) _
 have mg:aW 7 p.ens.length F=p.ens.map Qd:=by have:=Qbj hsz;rw[hF]at this;simpa using this
 have hmp:∀m,F.map (bE m 4)=F:=fun m=>Vd m 3 ck;rw[hF];refine Qj eM (asE p [I 0,I 0,I 0,I 0,.sl .nil [],I 0,I 0,I 0,I 0,.sl .nil [],.sl .nil [],.sl .nil [],.sl .nil []]) (fun f _=>p.ens.length-(numOf (f 22)).toNat) ?_ ?_
 ·exact⟨0,[],zd,zE,by rw[hF]⟩
 rintro f m ⟨i,bx,f22,hi,rfl⟩;rw[hF];rcases zzab i p.ens.length with aa|bu
 ·obtain⟨e,he⟩:=aY aa;have ah:(i:Int)<(p.ens.length:Int):=zE
  have hw:=bR i zE;obtain⟨⟨r,hd⟩,cc⟩:=uV hsz (i:=i) (row:=Qd e) (by simp[he]);rw[hF]at hd cc;simp only[Qd,zzae,zzaj]at hd cc;have G7:=Wj e (h6 e (zzac he));simp only[Qd]at G7;simp[-setA,jK,jL,f22,eM,ah,hd,cc,hFl,hw,Kb];refine⟨G7,zE,aR,⟨i+1,bx++[[I e.id,I e.it,I e.fr,I e.ea,I e.la,I e.bo,.sl .ro (e.al.map Qe)]],zd,zE,by rw[hF]⟩,zE⟩
 obtain rfl:i=p.ens.length:=zE
 simp[f22,eM,JA,Kb,hFl,hmp,mg];exact⟨k4,k5⟩
def PgC(g:Pg):Prop:=BI g.p/\g.ev.length<=1000000/\g.cu.length<=1000000/\g.dr.length<=1000000/\∀e∈g.ev,e.al.length<=8796093022208
def BJ(g:Pg):X1:=fun _ f l=>if f=96 then(if g.ev=[]then .sl .ro []else .gd false .junk)else l.headD .junk
def lg(g:Pg)(V:AV):PQ:=[I g.p.ch,I g.p.nu,I g.p.de,I g.p.of,.sl .ro (g.p.sh.map Qe),I g.p.ep,I g.p.rg,I g.p.ln,I g.p.fi,.sl .ro (g.p.aO.map Qm),.sl .ro (g.p.ens.map Qd),.sl .ro (g.p.bks.map Xk),.sl .ro (g.p.cls.map Qh),V,.sl .ro (g.cu.map Ql),I g.ed,.sl .ro (g.dr.map Xa),I g.ve]
def asF(g:Pg)(m0:PQ)(f:Nat->AV)(m:AM):Prop:=∃(i:Nat)(bx:X2),f 16=I i/\i<=g.ev.length/\m=⟨lg g (.bs 2 0 g.ev.length 7)::m0::(g.ev.map Qf).flatten::bx,[],fun _=>.gone,0⟩
def ZA:PQ:=[I 0,I 0,I 0,I 0,.sl .nil [],I 0,I 0,I 0,I 0,.sl .nil [],.sl .nil [],.sl .nil [],.sl .nil [],.sl .nil [],.sl .nil [],I 0,.sl .nil [],I 0]
def ZB(g:Pg)(h:PgC g):Pure Tryz.prog aD 52 [.agg (Qo g)] (.agg (Qo g)):=by
 obtain⟨h0,h1,h2,h3,h4⟩:=h;have k1:=qd g.p h0;have k3:=afh g.cu zE;have k4:=afi g.dr zE;have hsz:=kZ (f:=Qf) (sz:=7) (fun _=>rfl) g.ev;simp only[Qa]at k1;refine Qn akz (BJ g) zd ?_;by_cases hn:g.ev=[]
 ·have k2:=Zs;simp[abP,Qo,Qa,BJ,hn];refine⟨k1,k2,?_⟩;refine Qj EF (fun f m=>f 16=I 0/\m=⟨lg g (.sl .ro [])::[ZA],[],fun _=>.gone,0⟩) (fun f _=>0) ?_ ?_
  ·exact⟨zd,by simp[lg,ZA]⟩
  rintro f m ⟨f16,rfl⟩;simp[f16,EF,aky,lg,ZA,BJ];exact⟨k3,k4⟩
 have aJ:g.ev.map Qf≠[]:=by simpa using hn
 simp[abP,Qo,Qa,BJ,hn];refine⟨k1,Y9 _ _ hsz (by simpa using by omega) aJ _ _ ?_⟩;simp;obtain⟨F,hF⟩:∃F,(g.ev.map Qf).flatten=F:=⟨_,rfl⟩;have hFl:F.length=g.ev.length*7:=by rw[<- hF,jM hsz];simp
 have ck:Zl F=true:=by rw[<- hF];exact kY (fun _=>rfl) _
 have mg:aW 7 g.ev.length F=g.ev.map Qf:=by have:=Qbj hsz;rw[hF]at this;simpa using this
 have hmp:∀m,F.map (bE m 4)=F:=fun m=>Vd m 3 ck;rw[hF];refine Qj EF (asF g ZA) (fun f _=>g.ev.length-(numOf (f 16)).toNat) ?_ ?_
 ·exact⟨0,[],zd,zE,by rw[hF];rfl⟩
 rintro f m ⟨i,bx,f16,hi,rfl⟩;rw[hF];rcases zzab i g.ev.length with aa|bu
 ·obtain⟨e,he⟩:=aY aa;have ah:(i:Int)<(g.ev.length:Int):=zE
  have hw:=bR i zE;obtain⟨⟨r,hd⟩,cc⟩:=uV hsz (i:=i) (row:=Qf e) (by simp[he]);rw[hF]at hd cc
  have hs6:F.set (i*7+6) (.sl .ro (e.al.map Qe))=F:=by
   have h7:F[i*7+6]?=some (.sl .ro (e.al.map Qe)):=by
    have:=congrArg (fun l=>l[6]?) hd;simpa[Qf]using this
   apply zzcz;intro j;by_cases hj:i*7+6=j
   ·subst hj;rw[h7,zzbg (zza.1 h7).1]
   rw[zzbq hj]
  simp only[Qf,zzae,zzaj]at hd;have axP:=OD e.al (h4 e (zzac he));simp[f16,EF,lg,ah,hd,hs6,hFl,hw,BJ];refine⟨axP,zE,aR,⟨i+1,bx++[[I e.id,I e.it,I e.st,I e.fr,I e.i,I e.re,.sl .ro (e.al.map Qe)]],zd,zE,by rw[hF];rfl⟩,zE⟩
 obtain rfl:i=g.ev.length:=zE
 simp[f16,EF,aky,lg,ZA,BJ,hFl,hmp,mg];exact⟨k3,k4⟩
def rN(n:Int):Bool:=decide (1<=n)&&decide (n<=1000000)
def Kw(n:Int):Pure Tryz.prog aD 28 [I n] (.bool (rN n)):=by
 refine Qn akp (fun _ _ _=>.junk) zd ?_;by_cases h:1<=n
 ·simp[akn,ako,h,rN]
 simp[akn,ako,h,rN]
def eB:ByteArray:=⟨#[]⟩
def G8(tx:ByteArray):tx.toList=[]<->tx=eB:=by
 obtain⟨⟨l⟩⟩:=tx;rw[ByteArray.toList_eq];simp[eB]
def Jd(o:Od):Bool:=decide (o.en=0/\o.n=0/\o.cl=⟨0,0,0,0,0,0,0,0⟩/\(o.cu.id=0/\o.cu.fr=0/\o.cu.to=0/\o.cu.pr=0/\o.cu.tx=eB)/\o.nw.id=0/\o.nw.it=0/\o.nw.fr=0/\o.nw.ea=0/\o.nw.la=0/\o.nw.bo=0/\o.nw.al=[])
def LH(o:Od):Pure Tryz.prog aD 29 [.agg (Qu o)] (.bool (Jd o)):=by
 refine Qn akq (fun _ _ _=>.junk) zd ?_;obtain⟨sq,ch,fr,ki,en,n,⟨a1,a2,a3,a4,a5,a6,al⟩,⟨c1,c2,c3,c4,c5,c6,c7,c8⟩,⟨d1,d2,d3,d4,tx⟩⟩:=o;simp[ao8,ao9,Qu,Qd,Qh,Ql];rw[zzcs];simp[Jd,G8,and_assoc]
def yc(r:Int):List Sp->Bool
 |[]=>true
 |a::l=>if r<a.1/\a.1<=7/\rN a.2=true then yc a.1 l else false
def nR(e:En):Bool:=rN e.id&&rN e.it&&decide (1<=e.fr/\e.fr<=100000000)&&decide (0<=e.ea/\e.ea<=e.la/\e.la<=100000000)&&(decide (e.bo=0)||rN e.bo)&&yc 0 e.al
def ajo(e:En)(f:Nat->AV)(m:AM):Prop:=∃(i:Nat)(r:Int)(bx:X2),f 53=I i/\i<=e.al.length/\f 3=I r/\yc 0 e.al=yc r (e.al.drop i)/\m=⟨Qd e::bx,[],fun _=>.gone,0⟩
def Kc:X1:=fun _ f l=>match l with|[.int _ n]=>.bool (rN n)|_=>.junk
def uf(e:En)(hl:e.al.length<=8796093022208):Pure Tryz.prog aD 30 [.agg (Qd e)] (.bool (nR e)):=by
 have q1:=Kw e.id;have q2:=Kw e.it;have q3:=Kw e.bo;refine Qn akr Kc zd ?_;cases h1:rN e.id with
 |false=>rw[h1]at q1;simp[tK,iN,Qd,Kc,h1,nR];exact q1
 |true=>
  rw[h1]at q1;cases h2:rN e.it with
  |false=>rw[h2]at q2;simp[tK,iN,Qd,Kc,h1,h2,nR];exact⟨q1,q2⟩
  |true=>
   rw[h2]at q2;by_cases h3:e.fr<1
   ·have:¬1<=e.fr:=zE
    simp[tK,iN,Qd,Kc,h1,h2,h3,nR,this];exact⟨q1,q2⟩
   by_cases h4:100000000<e.fr
   ·have:¬e.fr<=100000000:=zE
    simp[tK,iN,Qd,Kc,h1,h2,h3,h4,nR,this];exact⟨q1,q2⟩
   have e34:1<=e.fr/\e.fr<=100000000:=zE
   by_cases h5:e.ea<0
   ·have:¬0<=e.ea:=zE
    simp[tK,iN,Qd,Kc,h1,h2,h3,h4,h5,nR,this];exact⟨q1,q2⟩
   by_cases h6:e.la<e.ea
   ·have:¬e.ea<=e.la:=zE
    simp[tK,iN,Qd,Kc,h1,h2,h3,h4,h5,h6,nR,this];exact⟨q1,q2⟩
   by_cases h7:100000000<e.la
   ·have:¬e.la<=100000000:=zE
    simp[tK,iN,Qd,Kc,h1,h2,h3,h4,h5,h6,h7,nR,this];exact⟨q1,q2⟩
   have axQ:0<=e.ea/\e.ea<=e.la/\e.la<=100000000:=zE
   by_cases h8:e.bo≠0/\rN e.bo=false
   ·obtain⟨h8,h9⟩:=h8;rw[h9]at q3;have h8':(e.bo !=0)=true:=by simpa using h8
    simp[tK,iN,Qd,Kc,h1,h2,h3,h4,h5,h6,h7,h8,h8',h9,nR];exact⟨q1,q2,q3⟩
   have hb:(decide (e.bo=0)||rN e.bo)=true:=by
    by_cases hb:e.bo=0
    ·simp[hb]
    cases h9:rN e.bo with
    |true=>simp
    |false=>exact absurd ⟨hb,h9⟩ h8
   have hv:nR e=yc 0 e.al:=by simp only[nR,h1,h2,e34,axQ,hb,zzea,and_self,decide_true]
   rw[hv]
   have hbo:(e.bo=0)\/(e.bo≠0/\rN e.bo=true):=by
    by_cases dG:e.bo=0
    ·exact .inl dG
    exact .inr ⟨dG,by simpa[dG]using hb⟩
   obtain dG|⟨dG,di⟩:=hbo
   ·simp[tK,Qd,Kc,h1,h2,h3,h4,h5,h6,h7,dG];refine⟨q1,q2,?_⟩;clear q1 q2 q3;refine Qj gQ (ajo e) (fun f _=>e.al.length-(numOf (f 53)).toNat) ?_ ?_
    ·exact⟨0,0,[],zd,zE,zd,zd,by simp[Qd,dG]⟩
    rintro f m ⟨i,r,bx,f53,hi,f3,hr,rfl⟩;rcases zzab i e.al.length with aa|bu
    ·obtain⟨a,ha⟩:=aY aa;have ai:=Zv ha;have ah:(i:Int)<(e.al.length:Int):=zE
     have hw:=bR i zE;have hd:e.al.drop i=a::e.al.drop (i+1):=by rw[zzaf aa,(zza.1 ha).2]
     rw[hd,yc]at hr;have qa:=Kw a.2;by_cases d1:a.1<=r
     ·rw[if_neg zE]at hr;simp[f53,f3,gQ,iN,Qd,ah,ai,d1,hr,Kc]
     by_cases d2:7<a.1
     ·rw[if_neg zE]at hr;simp[f53,f3,gQ,iN,Qd,ah,ai,d1,d2,hr,Kc]
     cases d3:rN a.2 with
     |false=>
      rw[d3]at qa;rw[if_neg (by simp[d3])]at hr;simp[f53,f3,gQ,iN,Qd,ah,ai,d1,d2,d3,hr,Kc];exact qa
     |true=>
      rw[d3]at qa;rw[if_pos ⟨zE,zE,d3⟩]at hr;simp[f53,f3,gQ,Qd,ah,ai,d1,d2,d3,hw,Kc];refine⟨qa,aR,⟨i+1,a.1,bx++[[I a.1,I a.2]],zd,zE,zd,hr,by simp[Qd]⟩,zE⟩
    obtain rfl:i=e.al.length:=zE
    simp[f53,f3,gQ,iN,hr,yc]
   rw[di]at q3;have Gs:(e.bo !=0)=true:=by simpa using dG
   simp[tK,Qd,Kc,h1,h2,h3,h4,h5,h6,h7,Gs,di];refine⟨q1,q2,q3,?_⟩;clear q1 q2 q3;refine Qj gQ (ajo e) (fun f _=>e.al.length-(numOf (f 53)).toNat) ?_ ?_
   ·exact⟨0,0,[],zd,zE,zd,zd,by simp[Qd]⟩
   rintro f m ⟨i,r,bx,f53,hi,f3,hr,rfl⟩;rcases zzab i e.al.length with aa|bu
   ·obtain⟨a,ha⟩:=aY aa;have ai:=Zv ha;have ah:(i:Int)<(e.al.length:Int):=zE
    have hw:=bR i zE;have hd:e.al.drop i=a::e.al.drop (i+1):=by rw[zzaf aa,(zza.1 ha).2]
    rw[hd,yc]at hr;have qa:=Kw a.2;by_cases d1:a.1<=r
    ·rw[if_neg zE]at hr;simp[f53,f3,gQ,iN,Qd,ah,ai,d1,hr,Kc]
    by_cases d2:7<a.1
    ·rw[if_neg zE]at hr;simp[f53,f3,gQ,iN,Qd,ah,ai,d1,d2,hr,Kc]
    cases d3:rN a.2 with
    |false=>
     rw[d3]at qa;rw[if_neg (by simp[d3])]at hr;simp[f53,f3,gQ,iN,Qd,ah,ai,d1,d2,d3,hr,Kc];exact qa
    |true=>
     rw[d3]at qa;rw[if_pos ⟨zE,zE,d3⟩]at hr;simp[f53,f3,gQ,Qd,ah,ai,d1,d2,d3,hw,Kc];refine⟨qa,aR,⟨i+1,a.1,bx++[[I a.1,I a.2]],zd,zE,zd,hr,by simp[Qd]⟩,zE⟩
   obtain rfl:i=e.al.length:=zE
   simp[f53,f3,gQ,iN,hr,yc]
def I1(s:ByteArray)(i:Nat):Nat:=(s.data.toList.getD i 0).toNat
def DO(s:ByteArray)(i:Nat)(h:i<s.size):(s.data[i]'h).toNat=I1 s i:=by
 have h':i<s.data.size:=h;simp only[I1,zzaw,zzbw,zzag h',Option.getD_some]
def ZC(s:ByteArray)(n i:Nat):Bool:=match n with
 |0=>true
 |n+1=>if I1 s i<32\/126<I1 s i then false else ZC s n (i+1)
def ZD(s:ByteArray):Bool:=ZC s s.size 0
def asG(s:ByteArray)(f:Nat->AV)(m:AM):Prop:=∃i:Nat,f 3=I i/\i<=s.size/\ZD s=ZC s (s.size-i) i/\m=⟨[],[],fun _=>.gone,0⟩
def yd(s:ByteArray)(h:s.size<=1000000):Pure Tryz.prog aD 125 [.str s] (.bool (ZD s)):=by
 refine Qn aco (fun _ _ _=>.junk) zd ?_;simp[TK];refine Qj vn (asG s) (fun f _=>s.size-(numOf (f 3)).toNat) ?_ ?_
 ·exact⟨0,zd,zE,rfl,rfl⟩
 rintro f m ⟨i,f3,hi,hr,rfl⟩;rcases zzab i s.size with aa|bu
 ·have ah:(i:Int)<(s.size:Int):=zE
  have hw:=bR i zE;obtain⟨n,hn⟩:∃n,s.size-i=n+1:=⟨s.size-i-1,zE⟩;have hb:=DO s i aa;rw[hn,ZC]at hr;by_cases h1:I1 s i<32
  ·rw[if_pos (.inl h1)]at hr;have qP:((I1 s i:Nat):Int)<32:=zE
   simp[f3,vn,M7,aa,ah,hr,hb,qP]
  have qP:¬((I1 s i:Nat):Int)<32:=zE
  by_cases h2:126<I1 s i
  ·rw[if_pos (.inr h2)]at hr;have Fm:(126:Int)<((I1 s i:Nat):Int):=zE
   simp[f3,vn,M7,aa,ah,hr,hb,qP,Fm]
  rw[if_neg zE]at hr;have Fm:¬(126:Int)<((I1 s i:Nat):Int):=zE
  simp[f3,vn,aa,ah,hw,hb,qP,Fm];refine⟨aR,⟨i+1,zd,zE,by rw[hr];congr 1;omega,rfl⟩,zE⟩
 obtain rfl:i=s.size:=zE
 rw[zzfw,ZC]at hr;simp[f3,vn,M7,hr]
def td(s:ByteArray)(i:Nat):Option Nat->List ByteArray
 |none=>[]
 |some f=>[s.extract f i]
def ZE(s:ByteArray):Nat->Nat->Option Nat->List ByteArray
 |0,i,first=>td s i first
 |n+1,i,first=>if I1 s i≠32 then ZE s n (i+1) (some (first.getD i))else td s i first++ZE s n (i+1) none
def nS(s:ByteArray):List ByteArray:=ZE s s.size 0 none
def LI(s:ByteArray)(i:Nat)(first:Option Nat):List ByteArray:=if i<=s.size then ZE s (s.size-i) i first else[]
def ZF{s:ByteArray}{i:Nat}(first:Option Nat)(h:i<s.size)(hb:I1 s i≠32):LI s i first=LI s (i+1) (some (first.getD i)):=by
 obtain⟨n,hn⟩:∃n,s.size-i=n+1:=⟨s.size-i-1,zE⟩;rw[LI,if_pos zE,LI,if_pos zE,hn,ZE,if_pos hb,show s.size-(i+1)=n by omega]
def afk{s:ByteArray}{i:Nat}(first:Option Nat)(h:i<=s.size)(hb:i<s.size->I1 s i=32):LI s i first=td s i first++LI s (i+1) none:=by
 by_cases hi:i=s.size
 ·subst hi;have:LI s (s.size+1) none=[]:=by rw[LI,if_neg zE]
  rw[this,LI,if_pos zE,zzfw,ZE,zzas]
 obtain⟨n,hn⟩:∃n,s.size-i=n+1:=⟨s.size-i-1,zE⟩;have:LI s (i+1) none=ZE s n (i+1) none:=by rw[LI,if_pos zE,show s.size-(i+1)=n by omega]
 rw[this,LI,if_pos h,hn,ZE,if_neg (by simp[hb zE])]
def OE:Option Nat->Int
 |none=> -1
 |some k=>k
def LJ(s:ByteArray):Pure Tryz.prog aD 126 [.str s] (.fn 174 [] [.ep [.str s] 0]):=by
 refine Qn acp (fun _ _ _=>.junk) zd ?_;simp[ahk,ahl]
def asH(Y:YT)(lp:Nat)(K:AM->Prop)(s:ByteArray)(f:Nat->AV)(m:AM):Prop:=∃(i:Nat)(first:Option Nat),f 4=I i/\i<=s.size+1/\f 3=I (OE first)/\(∀k,first=some k->k<=i/\i<=s.size)/\wQ (Y lp) K ((LI s i first).map fun w=>[.str w]) m
def LK(s:ByteArray)(h:s.size<=1000000):Iter Tryz.prog aD 174 [] [.ep [.str s] 0] ((nS s).map fun w=>[.str w]):=by
 intro Y lp m K hF;refine Xh ac1 (fun _ _ _=>.junk) zd ?_;simp[TZ,ahQ];refine Qj iQ (asH Y lp K s) (fun f _=>s.size+1-(numOf (f 4)).toNat) ?_ ?_
 ·exact⟨0,none,zd,zE,by simp[OE],⟨fun k(hk:none=some k)=>(by cases hk),by simpa[LI,nS]using hF⟩⟩
 rintro f m ⟨i,first,f4,hi,f3,hfi,hr⟩;rcases zzab s.size i with o6|cR
 ·have bU:¬(i:Int)<=(s.size:Int):=zE
  rw[LI,if_neg zE]at hr;simp[f4,iQ,bU];exact hr m (fN.refl m)
 have afl:(i:Int)<=(s.size:Int):=zE
 have hw:=bR i zE;by_cases hb:i<s.size/\I1 s i≠32
 ·obtain⟨aa,hb⟩:=hb;have ah:(i:Int)<(s.size:Int):=zE
  have VX:=DO s i aa;have hbI:¬((I1 s i:Nat):Int)=32:=zE
  rw[ZF first aa hb]at hr;cases first with
  |none=>
   simp[f4,f3,OE,iQ,afl,aa,ah,VX,hbI,hw];refine⟨aR,⟨i+1,some i,zd,zE,by simp[OE],⟨fun k(hk:some i=some k)=>(by cases hk;omega),hr⟩⟩,zE⟩
  |some k=>
   have Kx:¬(k:Int)<0:=zE
   obtain⟨dF,ey⟩:=hfi k rfl;simp[f4,f3,OE,iQ,afl,aa,ah,VX,hbI,hw,Kx];refine⟨aR,⟨i+1,some k,zd,zE,by simp[OE],⟨fun k'(hk:some k=some k')=>(by cases hk;omega),hr⟩⟩,zE⟩
 have cA:i<s.size->I1 s i=32:=fun h=>Classical.byContradiction fun h2=>hb ⟨h,h2⟩;rw[afk first cR cA]at hr;cases first with
 |none=>
  simp only[td,zzaj]at hr;rcases zzab i s.size with aa|bu
  ·have ah:(i:Int)<(s.size:Int):=zE
   have VX:=DO s i aa;have amx:=cA aa;simp[f4,f3,OE,iQ,afl,aa,ah,VX,amx,hw];refine⟨aR,⟨i+1,none,zd,zE,by simp[OE],⟨fun k(hk:none=some k)=>(by cases hk),hr⟩⟩,zE⟩
  obtain rfl:i=s.size:=zE
  simp[f4,f3,OE,iQ,hw];refine⟨aR,⟨s.size+1,none,zd,zE,by simp[OE],⟨fun k(hk:none=some k)=>(by cases hk),hr⟩⟩⟩
 |some k=>
  obtain⟨dF,ey⟩:=hfi k rfl;have Kx:(0:Int)<=(k:Int):=zE
  simp only[td,zzae,zzaj,zzay]at hr;rcases zzab i s.size with aa|bu
  ·have ah:(i:Int)<(s.size:Int):=zE
   have VX:=DO s i aa;have amx:=cA aa;simp[f4,f3,OE,iQ,afl,aa,ah,VX,amx,hw,Kx,dF];refine hr m (fN.refl m) _ (fun m2 h2=>?_) (fun m2 h2=>?_)
   ·simp;refine⟨aR,⟨i+1,none,zd,zE,by simp[OE],⟨fun k(hk:none=some k)=>(by cases hk),h2⟩⟩,zE⟩
   simp;exact h2 m2 (fN.refl m2)
  obtain rfl:i=s.size:=zE
  simp[f4,f3,OE,iQ,hw,Kx,dF];refine hr m (fN.refl m) _ (fun m2 h2=>?_) (fun m2 h2=>?_)
  ·simp;refine⟨aR,⟨s.size+1,none,zd,zE,by simp[OE],⟨fun k(hk:none=some k)=>(by cases hk),h2⟩⟩⟩
  simp;exact h2 m2 (fN.refl m2)
def Zc(n:Int):Prop:= -9223372036854775808<=n/\n<=9223372036854775807
def OKP(p:Pl):Prop:=∀e∈p.ens,e.al.length<=8796093022208
def ZG(p:Pl)(e:bJ):Int->List Sp->Bool
 |_,[]=>true
 |last,a::r=>match Xg a.2 p.aO with
  |none=>false
  |some y=>if a.1<=last\/p.rg<=a.1\/y.fr<IntKind.i64.wrap (e.i+e.fr)then false else if Xx p a.2 a.1 e.st e.fr=false then false else ZG p e a.1 r
def asI(p:Pl)(e:bJ):Int:=Uq (fun i=>Xx p e.it i e.st e.fr) (min p.rg 8).toNat
def G9(a:Int):Int:=IntKind.i64.wrap (((a%2 ^ IntKind.i64.bits).toNat&&& ((1:Int)%2 ^ IntKind.i64.bits).toNat:Nat):Int)
def afm(a b:Int):Int:=IntKind.i64.wrap (((a%2 ^ IntKind.i64.bits).toNat&&& (2 ^ IntKind.i64.bits-1-(b%2 ^ IntKind.i64.bits).toNat):Nat):Int)
def ZH(p:Pl)(e:bJ):Bool:=match Xg e.it p.aO with
 |none=>false
 |some x=>if e.fr<1\/e.i<0\/x.fr<e.fr\/IntKind.i64.wrap (x.fr-e.fr)<e.i then false else
  if G9 e.re=0\/afm e.re (asI p e)≠0 then false else ZG p e 0 e.al&&(decide (e.id≠0)||(decide (e.it=p.fi)&&decide (e.al=[])))
def afn(x r n:Nat)(h:r<n):((x+2 ^ n)/2 ^ r)%2=(x/2 ^ r)%2:=by
 obtain⟨k,rfl⟩:∃k,n=r+(k+1):=⟨n-r-1,zE⟩;have e:2 ^ (r+(k+1))=2 ^ r*(2*2 ^ k):=by rw[Nat.pow_add,zzdm,zzct (2 ^ k) 2]
 rw[e,Nat.add_mul_div_left _ _ (Nat.two_pow_pos r),Nat.add_mul_mod_self_left]
def yf(b:Nat->Bool):Nat->Nat
 |0=>0
 |n+1=>yf b n+if b n then 2 ^ n else 0
def DP(b:Nat->Bool):∀n,yf b n<2 ^ n
 |0=>by simp[yf]
 |n+1=>by
  have:=DP b n;rw[yf,zzdm];split<;>omega
def LM(b:Nat->Bool):∀n,Uq b n=(yf b n:Int)
 |0=>rfl
 |n+1=>by
  rw[Uq,yf,LM b n];split
  ·push_cast;rfl
  simp
def He(b:Nat->Bool)(r:Nat):∀n,(yf b n).testBit r=(decide (r<n)&&b r)
 |0=>by simp[yf]
 |n+1=>by
  have ih:=He b r n;have aa:=DP b n;rw[yf];by_cases hb:b n=true
  ·rw[if_pos hb];rcases zzeb r n with h|h|h
   ·rw[zzej,afn _ _ _ h,<- zzej,ih];simp[h,Nat.lt_succ_of_lt h]
   ·subst h
    have:(yf b r+2 ^ r)/2 ^ r=1:=by
     rw[Nat.add_div_right _ (Nat.two_pow_pos r),zzgt aa]
    rw[zzej,this];simp[hb]
   have:yf b n+2 ^ n<2 ^ r:=by
    have:2 ^ (n+1)<=2 ^ r:=zzef zE h;rw[zzdm]at this;omega
   rw[Nat.testBit_lt_two_pow this];simp;intro h2;omega
  rw[if_neg hb,zzcl,ih];by_cases h:r=n
  ·subst h;simp[hb]
  have:decide (r<n)=decide (r<n+1):=decide_eq_decide.2 zE;rw[this]
def amy(x:Int)(r:Nat):Bool:=x.toNat.testBit r
def ZI(b:Nat->Bool)(n r:Nat):amy (Uq b n) r=(decide (r<n)&&b r):=by
 unfold amy;rw[LM,Int.toNat_natCast,He]
def Hf(b:Nat->Bool)(n:Nat)(hn:n<=8):0<=Uq b n/\Uq b n<256:=by
 have:=DP b n;rw[LM];have h2:2 ^ n<=2 ^ 8:=zzef zE hn;omega
def asJ(x:Int)(h:0<=x/\x<256):(x%2 ^ IntKind.i64.bits).toNat=x.toNat:=by
 have:(2:Int) ^ IntKind.i64.bits=18446744073709551616:=by decide
 rw[this,Int.emod_eq_of_lt h.1 zE]
def ZJ(x:Int)(h:0<=x/\x<256):G9 x=x%2:=by
 unfold G9;rw[asJ x h,asJ 1 zE];have:x.toNat&&& (1:Int).toNat=x.toNat%2:=Nat.and_one_is_mod _;rw[this,Qi]<;>omega
def Rw{x:Int}(h:0<=x/\x<256):afm x x=0:=by
 have key:∀n:Nat,n<256->afm (n:Int) (n:Int)=0:=by decide+kernel
 have:=key x.toNat zE;rwa [Int.toNat_of_nonneg h.1]at this
def yg{b c:Nat->Bool}:∀(n:Nat),(∀i,i<n->b i=c i)->Uq b n=Uq c n
 |0,_=>rfl
 |n+1,h=>by rw[Uq,Uq,yg n (fun i hi=>h i zE),h n zE]
def ZK{b:Nat->Bool}{n:Nat}(hn:1<=n/\n<=8)(h0:b 0=true):G9 (Uq b n)=1:=by
 have hb:=Hf b n hn.2;rw[ZJ _ hb];have h1:=ZI b n 0;rw[h0]at h1;have h2:decide (0<n)=true:=by simp;omega
 rw[h2]at h1;simp only[amy,Nat.testBit_zero,zzgj,decide_eq_true_eq]at h1;omega
structure VP (p:Pl):Prop where
 rg:1<=p.rg/\p.rg<=8
 ln:1<=p.ln/\p.ln<=100000000
 fill:∃y,Xg p.fi p.aO=some y/\y.ki=5/\1<=y.fr/\y.fr<=100000000
 aO:∀y∈p.aO,S4 y=true
 ens:∀e∈p.ens,1<=e.id/\jy p e=true/\mB p e=true
def Hg{p:Pl}:∀{l:List En}{seen:P2},GI p seen l=true->∀e∈l,1<=e.id/\jy p e=true/\mB p e=true
 |x::r,seen,h,e,he=>by
  rw[GI,zzai]at h;rcases zzao.1 he with rfl|he
  ·have h1:=h.1;simp only[Ac,zzai,wi,decide_eq_true_eq]at h1;exact⟨h1.1.1,h1.2.2.1,h1.2.2.2.1⟩
  exact Hg h.2 e he
def LN{p:Pl}(h:rI p=true):VP p:=by
 simp only[rI,zzai]at h;obtain⟨h1,h2,h3,h4,h5⟩:=h;simp only[Ji,zzai,wi,decide_eq_true_eq]at h1;simp only[Wy,zzai,decide_eq_true_eq]at h2;simp only[xO,zzai,decide_eq_true_eq]at h4;refine⟨h1.2.2.2.2.1,h1.2.2.2.2.2,?_,pW h2.2.2.1,Hg h4.2⟩;have hf:=h2.2.2.2;unfold wN at hf;cases hx:Xg p.fi p.aO with
 |none=>rw[hx]at hf;cases hf
 |some y=>
  rw[hx]at hf;have hb:=YC (pW h2.2.2.1 y (wU hx).1);exact⟨y,rfl,Pi hf,zE,zE⟩
def LO{p:Pl}(h:VP p)(r f n:Int)(hr:0<=r/\r<8)(hn:1<=n/\n<=1000000)(hf:0<=f/\f+n-1<=100000000):Xx p p.fi r f n=true:=by
 obtain⟨y,hy,hk,_⟩:=h.fill;exact(Ls _ _ _ _ _).2 ⟨⟨zE,zE,zE,zE⟩,fun x h1 h2=>⟨y,hy,hr,zE,.inl hk⟩⟩
def Qbk{p:Pl}(h:VP p)(hl:p.ln<=1000000)(x:Int×Int)(hx:0<=x.1/\1<=x.2/\x.2<=Vz p/\x.1+x.2<=p.ln):ZH p (Vh p x)=true:=by
 obtain⟨y,hy,hk,hy1,hy2⟩:=h.fill;have hff:Vz p=y.fr:=by simp only[Vz,hy]
 rw[hff]at hx;have hre:(Vh p x).re=Gz p:=rfl
 have hm:asI p (Vh p x)=Gz p:=by
  refine yg _ fun i hi=>?_;exact LO h i x.1 x.2 zE zE zE
 have Oj:=h.rg;have h1:G9 (Gz p)=1:=ZK (n:=(min p.rg 8).toNat) zE rfl;have h2:afm (Gz p) (Gz p)=0:=Rw (Hf _ _ zE);have hw:IntKind.i64.wrap (y.fr-x.2)=y.fr-x.2:=by rw[Qi]<;>omega
 have cN:(Vh p x).it=p.fi:=rfl;have zQ:(Vh p x).fr=x.2:=rfl;have hi0:(Vh p x).i=0:=rfl;have fk:(Vh p x).al=[]:=rfl;rw[ZH,cN,hy];simp only;rw[hm,hre,zQ,hi0,fk,hw,h1,h2,if_neg zE,if_neg zE];simp[ZG]
def ZL{lo up:Int}{ks:P2}(h:Km lo up none ks=true):ks.Pairwise (·<·)/\∀k∈ks,lo<=k/\k<=up:=by
 obtain⟨h1,h2⟩:=kW h;exact⟨h1,fun k hk=>⟨(h2 k hk).1,(h2 k hk).2.1⟩⟩
end
