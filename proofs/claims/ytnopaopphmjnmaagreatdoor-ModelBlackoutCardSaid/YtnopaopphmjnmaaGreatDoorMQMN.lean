import Derived.Test.YtnopaopphmjnmaaGreatDoorMQSeB
set_option linter.all false
set_option maxRecDepth 100000
set_option maxHeartbeats 64000000
namespace Go.Proofs.YtnopaopphmjnmaaGreatDoor
noncomputable section
open Go Go.Abs
def nW(p:Pl)(e:En)(fr:Int)(s:Sp):Bool:=decide (1<=s.1)&&decide (s.1<p.rg)&&Xt p s.2 s.1 fr e.fr
def evM(p:Pl)(e:En)(fr:Int):Int:=Un (fun i=>Xt p e.it i fr e.fr) (min p.rg 8).toNat
def JQ(p:Pl)(e:En)(fr:Int)(rt:Rt)(l:List Sp):List AV:=[I e.id,I e.it,I fr,I e.fr,I 0,I (evM p e fr),.sl rt (l.map Qf)]
def R3(p:Pl)(e:En)(fr:Int)(i:Nat):List Sp:=(e.al.take i).filter (nW p e fr)
def GG(p:Pl)(e:En)(fr:Int)(hc:p.cls.length<=1000000)(gQ:p.sh.length<=1000000000)(cp:p.aN.length<=1000000000)(eD:e.al.length<=8796093022208):
  ∃rt,Pure Tryz.prog aA 132 [.agg (Qa p),.agg (Qd e),I fr] (.agg (JQ p e fr rt (e.al.filter (nW p e fr)))):=by
 refine⟨if e.al.filter (nW p e fr)=[]then .nil else .ro,Qo adi (fun _ _ _=>.gd false .junk) zd ?_⟩;simp[Vc,Qa,Qd];refine sW Y0 p 209 [.ptr 4 0,.ptr 1 0] (fun i=>Xt p e.it i fr e.fr) _ _ ?_ fun bx=>?_
 ·rintro i mm _ _ ⟨bx,rfl⟩ K' h;exact ZX Y0 p e i fr _ 0 2 1 4 hc gQ cp (by simp[Qa]) zd (by simp[Qd]) zd K' h
 have hM:Un (fun i=>Xt p e.it i fr e.fr) (min p.rg 8).toNat=evM p e fr:=rfl;simp[hM]
 refine Qk qL (fun f mm=>∃(i:Nat)(bx:List (List AV))(Lm:List Nat)(rt:Rt),f 27=I i/\i<=e.al.length/\mm=⟨Qa p::Qd e::[I fr]::[I 0,I 0,I 0,I 0,I 0,I 0,.sl .nil []]::[.fn 208 [] [.ptr 0 0,.ptr 2 0,.ptr 1 0]]::JQ p e fr rt (R3 p e fr i)::bx,Lm,fun _=>.gone,0⟩/\
  (R3 p e fr i=[]/\rt=.nil\/R3 p e fr i≠[]/\∃k,rt=.own k 2/\Lm[k]?=some (R3 p e fr i).length)) (fun f _=>e.al.length-(numOf (f 27)).toNat) ?_ ?_
 ·refine⟨0,bx,[],.nil,zd,zE,?_,.inl ⟨by simp[R3],rfl⟩⟩;simp[Qa,Qd,JQ,R3]
 rintro f mm ⟨i,bx,Lm,rt,h27,hi,rfl,aT⟩;rcases zzaa i e.al.length with ai|bz
 ·obtain⟨x,hx⟩:=aU ai;have ah:=Zf hx;have aa:(i:Int)<(e.al.length:Int):=zE
  have hw:=bM i zE
  have bC:R3 p e fr (i+1)=R3 p e fr i++if nW p e fr x then[x]else[]:=by
   unfold R3;rw[zzas,hx,zzct];simp only[Option.toList,zzei,List.filter_nil]
  generalize hG:R3 p e fr i=G at*
  by_cases c1:1<=x.1
  ·by_cases c2:x.1<p.rg
   ·have hpm:=fun mm h1 h2 h3=>GH Y0 p e x.2 x.1 fr mm 0 2 1 hc gQ cp h1 h2 h3;simp[h27,Qa,Qd,JQ,ah,aa,ai,qL,c1,c2,hw];have hGl:G.length<=i:=by rw[<- hG];unfold R3;exact zzbg (zzbs _ _) (by rw[zzaq];omega)
    refine hpm _ rfl rfl rfl _ ?_;have hA:nW p e fr x=Xt p x.2 x.1 fr e.fr:=by simp[nW,c1,c2]
    rw[hA]at bC;cases hb:Xt p x.2 x.1 fr e.fr with
    |false=>
     rw[hb]at bC;simp only[zzbp,if_false,zzau]at bC;simp[hw];refine⟨aP,⟨i+1,zE,zE,bx++[[I x.1,I x.2]],Lm,rt,by rw[bC];simp[Qa,Qd,JQ],by rw[bC];exact aT⟩,zE⟩
    |true=>
     rw[hb]at bC;simp only[if_true]at bC;obtain⟨h1,rfl⟩|⟨h1,k,rfl,hk⟩:=aT
     ·subst h1;simp only[zzah]at bC;simp[hw];refine⟨aP,⟨i+1,zE,zE,bx++[[I x.1,I x.2]],Lm++[1],.own Lm.length 2,by rw[bC];simp[Qa,Qd,JQ,Qf],by rw[bC];exact .inr ⟨zd,_,rfl,zd⟩⟩,zE⟩
     simp[hw,hk];refine⟨⟨by rintro row (⟨a,b,_,rfl⟩|rfl)<;>rfl,zE⟩,ag ?_,⟨i+1,zE,zE,bx++[[I x.1,I x.2]],Lm.set k (G.length+1),.own k 2,by rw[bC];simp[Qa,Qd,JQ,Qf],by rw[bC];exact .inr ⟨zd,_,rfl,by rw[zzba ((zza.1 hk).1)];simp⟩⟩,zE⟩;repeat(first|exact Qc _ _|refine Qb _ rfl ?_)
   have hA:nW p e fr x=false:=by simp[nW,c2]
   simp[h27,Qa,Qd,JQ,ah,aa,ai,qL,c1,c2,hw];rw[hA]at bC;simp only[zzbp,if_false,zzau]at bC;refine⟨aP,⟨i+1,zE,zE,bx++[[I x.1,I x.2]],Lm,rt,by rw[bC];simp[Qa,Qd,JQ],by rw[bC];exact aT⟩,zE⟩
  have hA:nW p e fr x=false:=by simp[nW,c1]
  simp[h27,Qa,Qd,JQ,ah,aa,ai,qL,c1,hw];rw[hA]at bC;simp only[zzbp,if_false,zzau]at bC;refine⟨aP,⟨i+1,zE,zE,bx++[[I x.1,I x.2]],Lm,rt,by rw[bC];simp[Qa,Qd,JQ],by rw[bC];exact aT⟩,zE⟩
 obtain rfl:i=e.al.length:=zE
 have hE:R3 p e fr e.al.length=e.al.filter (nW p e fr):=by simp[R3]
 rw[hE]at aT;generalize e.al.filter (nW p e fr)=G at*
 obtain⟨h1,rfl⟩|⟨h1,k,rfl,hk⟩:=aT
 ·simp[h27,Qa,Qd,JQ,qL,VA,h1,hE]
 simp[h27,Qa,Qd,JQ,qL,VA,h1,hE]
def afN(p:Pl)(e:En)(fr:Int):AV:=.agg (JQ p e fr .ro (e.al.filter (nW p e fr)))
def LP(p:Pl)(e:En)(fr:Int)(hc:p.cls.length<=1000000)(gQ:p.sh.length<=1000000000)(cp:p.aN.length<=1000000000)(eD:e.al.length<=8796093022208):
  Pure Tryz.prog aA 132 [.agg (Qa p),.agg (Qd e),I fr] (afN p e fr):=by
 obtain⟨rt,h⟩:=GG p e fr hc gQ cp eD;exact Xa h (Qcq ⟨Wk.refl _,Wk.refl _,Wk.refl _,Wk.refl _,Wk.refl _,Wk.refl _,Wk.sl _ _,trivial⟩)
open Go Go.Abs
structure bE where
 id:Int
 it:Int
 st:Int
 fr:Int
 i:Int
 re:Int
 al:List Sp
 nl:Bool
def Zw(e:bE):List AV:=[I e.id,I e.it,I e.st,I e.fr,I e.i,I e.re,.sl (if e.nl then .nil else .ro) (e.al.map Qf)]
def Vg(p:Pl)(x:Int×Int):bE:=⟨0,p.fi,x.1,x.2,0,GI p,[],true⟩
def z8(p:Pl)(e:En)(fr:Int):bE:=⟨e.id,e.it,fr,e.fr,0,evM p e fr,e.al.filter (nW p e fr),false⟩
def nX(p:Pl)(m:AM)(L:List bE):Prop:=1<m.boxes.length/\Qh m.boxes 0=Qa p/\∃rt,Qh m.boxes 1=[.sl rt (L.map Zw)]/\(L=[]/\rt=.nil\/L≠[]/\∃k,rt=.own k 7/\m.lens[k]?=some L.length)
def nX.ZS{p:Pl}{m m':AM}{L:List bE}{O:Nat->Prop}(h:nX p m L)(e:bQ O m m')(h0:¬O 0)(h1:¬O 1):nX p m' L:=by
 obtain⟨a1,a2,rt,a3,a4⟩:=h;obtain⟨e1,e2,⟨lx,e3⟩,_⟩:=e;refine⟨zE,by rw[e2 0 zE h0];exact a2,rt,by rw[e2 1 a1 h1];exact a3,?_⟩;obtain h|⟨hn,k,hk,hl⟩:=a4
 ·exact .inl h
 exact .inr ⟨hn,k,hk,by rw[e3,zzag (zza.1 hl).1];exact hl⟩
def atq:SC:=(⟨_,by cbv⟩:uf [1,1,1,0,1,0,0,1,1,0,0,1,1,1,0,1,0] Kf).1
def anF(Y:YT)(p:Pl)(a t:Int)(hl:p.aN.length<=1000000000)(hb: -1000000000<=a/\t<=1000000000)(hf:a<=1000000000/\ -1000000000<=t)(orc:Nat->FuncId->List AV->AV)(ho:∀d l,orc d 999999 l=.junk)(E:List (Nat×AV))(m:AM)(L:List bE)
  (hO:nX p m L)(hL:L.length+(Yc (Yk p) t a).length<=1000000000)(hg:Abs.look E 67=.fn 205 [] [.ep (Qa p) 0,.ep [I a] 0,.ep [I t] 0])(h7:Abs.look E 7=.ptr 1 0)(Q:Exit->AS->Prop)
  (hQ:∀m',nX p m' (L++(Yc (Yk p) t a).map (Vg p))->m.boxes.length<=m'.boxes.length->(∀j,2<=j->j<m.boxes.length->Qh m'.boxes j=Qh m.boxes j)->Q .normal ⟨Xv 98 E,m'⟩):vc Tryz.prog aA orc Y atq ⟨Xv 98 E,m⟩ Q:=by
 have cp:=xN p a t hl hb hf;generalize hX:Yc (Yk p) t a=xs at*
 unfold atq
 refine rK (xs:=xs.map (Qbe p)) (by simp[hg];try exact⟨rfl,rfl⟩) cp (by intro x hx;simp at hx;obtain⟨u,v,_,rfl⟩:=hx;rfl)
  (fun O i mm=>(∀j,O j->m.boxes.length<=j)/\nX p mm (L++(xs.take i).map (Vg p))/\m.boxes.length<=mm.boxes.length/\(∀j,2<=j->j<m.boxes.length->Qh mm.boxes j=Qh m.boxes j)) (fun _ _ _=>False) ?_ ?_ (fun _ _ _ _ h=>h.elim) ?_ ?_ (fun _ _ _ h=>h.elim)
 ·exact⟨fun _ h=>h.elim,by rw[zzhq,zzcc,zzau];exact hO,zzab _,fun _ _ _=>rfl⟩
 ·rintro O i m1 m2 ⟨h1,h2,h3,h4⟩ e;have zo:=hO.1;refine⟨?_,h2.ZS e (fun h=>by have:=h1 _ h;omega) (fun h=>by have:=h1 _ h;omega),zzbg h3 e.1,fun j j1 j2=>by rw[e.2.1 j zE (fun h=>by have:=h1 _ h;omega)];exact h4 j j1 j2⟩;rintro j (h|h)
  ·exact h1 j h
  omega
 ·rintro O l i mm x um cw hg0 fL ⟨h1,h2,h3,h4⟩ hx K' q1 _ _;rw[zzbi,zzcj]at hx;obtain⟨x,hx,rfl⟩:=hx;have fO:=(zza.1 hx).1;have bC:L++(xs.take (i+1)).map (Vg p)=(L++(xs.take i).map (Vg p))++[Vg p x]:=by rw[zzas,hx];simp
  have hml:=hO.1;have aH:(L++(xs.take i).map (Vg p)).length<=1000000000:=by simp;omega
  obtain⟨o1,o2,rt,o3,o4⟩:=h2;simp only[Ui,Dk]at o1 o2 o3 o4 h3 h4;have iE:∀y,Qh (mm.boxes++y) 1=[.sl rt ((L++(xs.take i).map (Vg p)).map Zw)]:=fun y=>by rw[Ql zE];exact o3
  have uQ:∀y,Qh (mm.boxes++[y]) mm.boxes.length=y:=fun y=>by
   simp
  have fin:∀(T:List AV)(v:List AV)(row:List AV)(ls:List Nat)(st:Nat->LS)(ln:Nat),nX p ⟨(mm.boxes++[row]).set 1 v,ls,st,ln⟩ (L++(xs.take (i+1)).map (Vg p))->K' .normal ⟨T,⟨(mm.boxes++[row]).set 1 v,ls,st,ln⟩⟩:=by
   intro T v row ls st ln hv;refine q1 _ ⟨zd,fun j hj=>?_⟩ ⟨h1,hv,by simp;omega,fun j j1 j2=>?_⟩
   ·have:=(um j hj).2;have:=h1 j hj;show Qh ((mm.boxes++[row]).set 1 v) j=_;rw[Zz _ zE,Ql zE]
   show Qh ((mm.boxes++[row]).set 1 v) j=_;rw[Zz _ zE,Ql zE];exact h4 j j1 j2
  have DB:∀(v row:List AV),Qh ((mm.boxes++[row]).set 1 v) 0=Qa p/\Qh ((mm.boxes++[row]).set 1 v) 1=v:=fun v row=>⟨by rw[Zz _ zE,Ql zE];exact o2,Vs _ (by simp;omega)⟩;rw[bC]at fin;generalize L++(xs.take i).map (Vg p)=G at*
  have hG7:∀row∈G.map Zw,row.length=7:=by
   intro row h;obtain⟨e,_,rfl⟩:=zzax.1 h;rfl
  obtain⟨rfl,rfl⟩|⟨aM,k,rfl,hk⟩:=o4
  ·simp[fL,Zn,Qbe,h7,iE,uQ,ho];subst_vars;exact⟨zE,fin _ _ _ _ _ _ ⟨by simp;omega,(DB _ _).1,_,(DB _ _).2,.inr ⟨zd,_,rfl,zd⟩⟩⟩
  simp[fL,Zn,Qbe,h7,iE,uQ,ho];refine⟨⟨hk,?_,zE⟩,zE,fin _ _ _ _ _ _ ⟨by simp;omega,(DB _ _).1,_,by rw[(DB _ _).2];simp;rfl,.inr ⟨zd,k,rfl,by simp[(zza.1 hk).1]⟩⟩⟩;rintro row (⟨e,_,rfl⟩|rfl)<;>rfl
 rintro mm' mm ⟨h1,h2,h3,h4⟩;rw[zzbj,zzbu]at h2;exact hQ _ h2 h3 h4
def atr:SC:=(⟨_,by cbv⟩:uf [1,1,1,1,0,1,0] Kf).1
def anG(Y:YT)(p:Pl)(a t:Int)(hl:p.aN.length<=1000000000)(hb: -1000000000<=a/\t<=1000000000)(hf:a<=1000000000/\ -1000000000<=t)(orc:Nat->FuncId->List AV->AV)(ho:∀d l,orc d 999999 l=.junk)(E:List (Nat×AV))(m:AM)(L:List bE)
  (hO:nX p m L)(hL:L.length+(Yc (Yk p) t a).length<=1000000000)(hg:Abs.look E 91=.fn 205 [] [.ep (Qa p) 0,.ep [I a] 0,.ep [I t] 0])(h7:Abs.look E 7=.ptr 1 0)(Q:Exit->AS->Prop)
  (hQ:∀m',nX p m' (L++(Yc (Yk p) t a).map (Vg p))->m.boxes.length<=m'.boxes.length->(∀j,2<=j->j<m.boxes.length->Qh m'.boxes j=Qh m.boxes j)->Q .normal ⟨Xv 98 E,m'⟩):vc Tryz.prog aA orc Y atr ⟨Xv 98 E,m⟩ Q:=by
 have cp:=xN p a t hl hb hf;generalize hX:Yc (Yk p) t a=xs at*
 unfold atr
 refine rK (xs:=xs.map (Qbe p)) (by simp[hg];try exact⟨rfl,rfl⟩) cp (by intro x hx;simp at hx;obtain⟨u,v,_,rfl⟩:=hx;rfl)
  (fun O i mm=>(∀j,O j->m.boxes.length<=j)/\nX p mm (L++(xs.take i).map (Vg p))/\m.boxes.length<=mm.boxes.length/\(∀j,2<=j->j<m.boxes.length->Qh mm.boxes j=Qh m.boxes j)) (fun _ _ _=>False) ?_ ?_ (fun _ _ _ _ h=>h.elim) ?_ ?_ (fun _ _ _ h=>h.elim)
 ·exact⟨fun _ h=>h.elim,by rw[zzhq,zzcc,zzau];exact hO,zzab _,fun _ _ _=>rfl⟩
 ·rintro O i m1 m2 ⟨h1,h2,h3,h4⟩ e;have zo:=hO.1;refine⟨?_,h2.ZS e (fun h=>by have:=h1 _ h;omega) (fun h=>by have:=h1 _ h;omega),zzbg h3 e.1,fun j j1 j2=>by rw[e.2.1 j zE (fun h=>by have:=h1 _ h;omega)];exact h4 j j1 j2⟩;rintro j (h|h)
  ·exact h1 j h
  omega
 ·rintro O l i mm x um cw hg0 fL ⟨h1,h2,h3,h4⟩ hx K' q1 _ _;rw[zzbi,zzcj]at hx;obtain⟨x,hx,rfl⟩:=hx;have fO:=(zza.1 hx).1;have bC:L++(xs.take (i+1)).map (Vg p)=(L++(xs.take i).map (Vg p))++[Vg p x]:=by rw[zzas,hx];simp
  have hml:=hO.1;have aH:(L++(xs.take i).map (Vg p)).length<=1000000000:=by simp;omega
  obtain⟨o1,o2,rt,o3,o4⟩:=h2;simp only[Ui,Dk]at o1 o2 o3 o4 h3 h4;have iE:∀y,Qh (mm.boxes++y) 1=[.sl rt ((L++(xs.take i).map (Vg p)).map Zw)]:=fun y=>by rw[Ql zE];exact o3
  have uQ:∀y,Qh (mm.boxes++[y]) mm.boxes.length=y:=fun y=>by
   simp
  have fin:∀(T:List AV)(v:List AV)(row:List AV)(ls:List Nat)(st:Nat->LS)(ln:Nat),nX p ⟨(mm.boxes++[row]).set 1 v,ls,st,ln⟩ (L++(xs.take (i+1)).map (Vg p))->K' .normal ⟨T,⟨(mm.boxes++[row]).set 1 v,ls,st,ln⟩⟩:=by
   intro T v row ls st ln hv;refine q1 _ ⟨zd,fun j hj=>?_⟩ ⟨h1,hv,by simp;omega,fun j j1 j2=>?_⟩
   ·have:=(um j hj).2;have:=h1 j hj;show Qh ((mm.boxes++[row]).set 1 v) j=_;rw[Zz _ zE,Ql zE]
   show Qh ((mm.boxes++[row]).set 1 v) j=_;rw[Zz _ zE,Ql zE];exact h4 j j1 j2
  have DB:∀(v row:List AV),Qh ((mm.boxes++[row]).set 1 v) 0=Qa p/\Qh ((mm.boxes++[row]).set 1 v) 1=v:=fun v row=>⟨by rw[Zz _ zE,Ql zE];exact o2,Vs _ (by simp;omega)⟩;rw[bC]at fin;generalize L++(xs.take i).map (Vg p)=G at*
  have hG7:∀row∈G.map Zw,row.length=7:=by
   intro row h;obtain⟨e,_,rfl⟩:=zzax.1 h;rfl
  obtain⟨rfl,rfl⟩|⟨aM,k,rfl,hk⟩:=o4
  ·simp[fL,Zn,Qbe,h7,iE,uQ,ho];subst_vars;exact⟨zE,fin _ _ _ _ _ _ ⟨by simp;omega,(DB _ _).1,_,(DB _ _).2,.inr ⟨zd,_,rfl,zd⟩⟩⟩
  simp[fL,Zn,Qbe,h7,iE,uQ,ho];refine⟨⟨hk,?_,zE⟩,zE,fin _ _ _ _ _ _ ⟨by simp;omega,(DB _ _).1,_,by rw[(DB _ _).2];simp;rfl,.inr ⟨zd,k,rfl,by simp[(zza.1 hk).1]⟩⟩⟩;rintro row (⟨e,_,rfl⟩|rfl)<;>rfl
 rintro mm' mm ⟨h1,h2,h3,h4⟩;rw[zzbj,zzbu]at h2;exact hQ _ h2 h3 h4
def Bu(fr t:Int):∀(n:Nat)(a:Int),(t-a).toNat<=n->((Yc fr t a).length:Int)<=max 0 (t-a):=by
 intro n;induction n with
 |zero=>intro a h;rw[Yc,if_neg zE];simp only[zzcf];omega
 |succ n ih=>
  intro a h;rw[Yc];split
  ·rename_i ai;have hN:1<=Uy fr t a/\Uy fr t a<=t-a:=by unfold Uy;split<;>omega
   have:=ih (a+Uy fr t a) zE;simp only[zzbe];omega
  simp only[zzcf];omega
def nX.app{p:Pl}{m:AM}{L:List bE}(h:nX p m L)(x:List (List AV)):nX p ⟨m.boxes++x,m.lens,m.st,m.ln⟩ L:=by
 obtain⟨a1,a2,rt,a3,a4⟩:=h;exact⟨by simp;omega,by show Qh (m.boxes++x) 0=_;rw[Ql zE];exact a2,rt,by show Qh (m.boxes++x) 1=_;rw[Ql zE];exact a3,a4⟩
open Go Go.Abs
def mU(p:Pl)(s:Sp)(at_:Int):Option En:=match Zh s.1 p.ens with
 |some e=>if s.1=0\/e.fr<1\/s.2<at_\/p.ln-s.2<e.fr then none else some e
 |none=>none
def uY(p:Pl):List Sp->Int->List bE
 |[],at_=>(Yc (Yk p) p.ln at_).map (Vg p)
 |s::r,at_=>match mU p s at_ with
  |none=>uY p r at_
  |some e=>((Yc (Yk p) s.2 at_).map (Vg p)++[z8 p e s.2])++uY p r (s.2+e.fr)
def DC(p:Pl)(l:List Sp)(at_:Int):List bE:=if at_<0\/p.ln<at_ then[]else uY p l at_
def pU(p:Pl):Nat->FuncId->List AV->AV:=fun d f l=>
 if f=999999 then .junk else
 if f=130 then(match l with|[_,.int _ n]=>sX (Zh n p.ens)|_=>.junk)else
 if f=131 then(match l with|[_,.int _ a,.int _ t]=>.fn 205 [] [.ep (Qa p) 0,.ep [I a] 0,.ep [I t] 0]|_=>.junk)else
 if f=132 then(match l with|[_,.agg [.int _ a,.int _ b,.int _ c,.int _ d,.int _ e,.int _ g,.sl _ rows],.int _ fr]=>afN p ⟨a,b,c,d,e,g,rows.map rM⟩ fr|_=>.junk)else .gd false .junk
def jT{id:Int}{x:En}:∀{l:List En},Zh id l=some x->x∈l/\x.id=id
 |[],h=>by cases h
 |y::r,h=>by
  simp only[Zh]at h;split at h
  ·rename_i hy;cases h;exact⟨zd,hy⟩
  obtain⟨h1,h2⟩:=jT h;exact⟨by simp[h1],h2⟩
def LQ(p:Pl)(l:List Sp)(GJ:Int)(hc:p.cls.length<=1000000)(gQ:p.sh.length<=1000000000)(cp:p.aN.length<=1000000000)(JR:p.ens.length<=1000000000)(eD:∀e∈p.ens,e.al.length<=8796093022208)
  (dy:p.ln<=1000000)(hl:l.length<=1000000)(gN:∀s∈l,-1000000000<=s.2/\s.2<=1000000000):∃rt,Pure Tryz.prog aA 62 [.agg (Qa p),.sl .ro (l.map Qf),I GJ] (.sl rt ((DC p l GJ).map Zw)):=by
 by_cases c0:GJ<0\/p.ln<GJ
 ·refine⟨.nil,Qo UW (pU p) zd ?_⟩;rw[DC,if_pos c0];by_cases c1:GJ<0
  ·simp[Kf,UU,Qa,c1]
  have c2:p.ln<GJ:=zE
  simp[Kf,UU,Qa,c1,c2]
 refine⟨if uY p l GJ=[]then .nil else .ro,Qo UW (pU p) zd ?_⟩;rw[DC,if_neg c0];simp only[not_or]at c0;have c1:¬GJ<0:=c0.1;have c2:¬p.ln<GJ:=c0.2;simp[Kf,Qa,c1,c2];refine Qk oJ (fun f mm=>∃(i:Nat)(at_:Int)(L:List bE),f 24=I i/\f 2=I at_/\i<=l.length/\nX p mm L/\0<=at_/\at_<=p.ln/\(L.length:Int)<=at_/\L++uY p (l.drop i) at_=uY p l GJ) (fun f _=>l.length-(numOf (f 24)).toNat) ?_ ?_
 ·exact⟨0,GJ,[],zd,zd,zE,⟨zd,by simp[Qa],.nil,zd,.inl ⟨rfl,rfl⟩⟩,zE,zE,by simp;omega,zd⟩
 rintro f mm ⟨i,at_,L,h24,h2,hi,hO,a1,a2,a3,hI⟩;rcases zzaa i l.length with ai|bz
 ·obtain⟨s,hs⟩:=aU ai;have ah:=Zf hs;have T3:=gN s (zzac hs);have aa:(i:Int)<(l.length:Int):=zE
  have hw:=bM i zE;have dP:IntKind.i64.wrap (p.ln-s.2)=p.ln-s.2:=by rw[Qj]<;>omega
  rw[Zd hs,uY]at hI;have LR:=LU p s.1 JR eD;have hO':=hO;obtain⟨o1,o2,rt,o3,o4⟩:=hO';have r0:∀y,Qh (mm.boxes++y) 0=Qa p:=fun y=>by rw[Ql zE];exact o2
  have r1:∀y,Qh (mm.boxes++y) 1=[.sl rt (L.map Zw)]:=fun y=>by rw[Ql o1];exact o3
  simp only[Qa]at r0;cases hf:Zh s.1 p.ens with
  |none=>
   simp only[mU,hf]at hI;rw[hf]at LR;by_cases c3:s.1=0
   ·rw[c3]at hf LR;simp[h24,h2,oJ,ai,aa,ah,r0,r1,pU,hf,sX,hw,c3];refine⟨LR,aP,⟨i+1,zd,zE,L,hO.app _,a1,a2,a3,hI⟩,zE⟩
   simp[h24,h2,oJ,ai,aa,ah,r0,r1,pU,hf,sX,hw,c3];refine⟨LR,aP,⟨i+1,zd,zE,L,hO.app _,a1,a2,a3,hI⟩,zE⟩
  |some e=>
   rw[hf]at LR;simp only[mU,hf]at hI;by_cases c3:s.1=0
   ·rw[if_pos (.inl c3)]at hI;rw[c3]at hf LR;simp[h24,h2,oJ,ai,aa,ah,r0,r1,pU,hf,sX,Qd,hw,c3];refine⟨LR,aP,⟨i+1,zd,zE,L,hO.app _,a1,a2,a3,hI⟩,zE⟩
   by_cases c4:e.fr<1
   ·rw[if_pos (.inr (.inl c4))]at hI;simp[h24,h2,oJ,ai,aa,ah,r0,r1,pU,hf,sX,Qd,hw,c3,c4];refine⟨LR,aP,⟨i+1,zd,zE,L,hO.app _,a1,a2,a3,hI⟩,zE⟩
   by_cases c5:s.2<at_
   ·rw[if_pos (.inr (.inr (.inl c5)))]at hI;simp[h24,h2,oJ,ai,aa,ah,r0,r1,pU,hf,sX,Qd,hw,c3,c4,c5];refine⟨LR,aP,⟨i+1,zd,zE,L,hO.app _,a1,a2,a3,hI⟩,zE⟩
   by_cases c6:p.ln-s.2<e.fr
   ·rw[if_pos (.inr (.inr (.inr c6)))]at hI;simp[h24,h2,oJ,ai,aa,ah,r0,r1,pU,hf,sX,Qd,hw,dP,c3,c4,c5,c6];refine⟨LR,aP,⟨i+1,zd,zE,L,hO.app _,a1,a2,a3,hI⟩,zE⟩
   rw[if_neg zE]at hI;simp[h24,h2,oJ,ai,aa,ah,r0,r1,pU,hf,sX,Qd,hw,dP,c3,c4,c5,c6];have R4:=xO p at_ s.2;have eG:=Bu (Yk p) s.2 _ at_ (zzab _);refine⟨LR,R4,?_⟩;refine anF Y0 p at_ s.2 cp zE zE (pU p) (fun _ _=>rfl) _ _ L (hO.app _) zE zd zd _ ?_;intro m' LV cw ey
   have Rs:Qh m'.boxes mm.boxes.length=[I s.1,I s.2]:=by
    rw[ey _ zE zd];simp
   have Re:Qh m'.boxes (mm.boxes.length+1)=Qd e:=by
    rw[ey _ zE zd];simp[Qd]
   simp only[Qd]at Re;obtain⟨p1,p2,KX,p3,p4⟩:=LV;have p2':=p2;have b1:∀v,Qh (m'.boxes.set 1 v) 1=v:=fun v=>Vs v p1;have b0:∀v,Qh (m'.boxes.set 1 v) 0=Qa p:=fun v=>by rw[Zz v zE];exact p2
   have bs:∀v,Qh (m'.boxes.set 1 v) mm.boxes.length=[I s.1,I s.2]:=fun v=>by rw[Zz v zE];exact Rs
   have be:∀v,Qh (m'.boxes.set 1 v) (mm.boxes.length+1)=[I e.id,I e.it,I e.fr,I e.ea,I e.la,I e.bo,.sl .ro (e.al.map Qf)]:=fun v=>by rw[Zz v zE];exact Re
   simp only[Qa]at p2';have hG:((L++(Yc (Yk p) s.2 at_).map (Vg p)).length:Int)<=s.2:=by simp;omega
   have hI2:(L++(Yc (Yk p) s.2 at_).map (Vg p)++[z8 p e s.2])++uY p (l.drop (i+1)) (s.2+e.fr)=uY p l GJ:=by rw[<- hI];simp
   generalize L++(Yc (Yk p) s.2 at_).map (Vg p)=G at*
   have k32:=LP p e s.2 hc gQ cp (eD e (jT hf).1);have LO:IntKind.i64.wrap (s.2+e.fr)=s.2+e.fr:=by rw[Qj]<;>omega
   obtain⟨g1,rfl⟩|⟨g1,k,rfl,hk⟩:=p4
   ·subst g1;simp[h24,p2',p3,Rs,Re,b1,bs,be,p1,pU,afN,JQ,hw,LO];rw[zzah]at hI2;refine⟨k32,aP,⟨i+1,zd,zE,[z8 p e s.2],⟨by simp;omega,b0 _,_,b1 _,.inr ⟨zd,_,rfl,zd⟩⟩,zE,zE,by simp;omega,hI2⟩,zE⟩
   simp[h24,p2',p3,Rs,Re,b1,bs,be,p1,pU,afN,JQ,hw,LO];refine⟨k32,⟨hk,by rintro row (⟨a,_,rfl⟩|rfl)<;>rfl,zE⟩,ag ?_,⟨i+1,zd,zE,G++[z8 p e s.2],⟨by simp;omega,b0 _,_,by rw[b1];simp[Zw,z8],.inr ⟨zd,k,rfl,by simp[(zza.1 hk).1]⟩⟩,zE,zE,by simp;omega,hI2⟩,zE⟩;repeat(first|exact Qc _ _|refine Qb _ rfl ?_)
 obtain rfl:i=l.length:=zE
 have R4:=xO p at_ p.ln;have eG:=Bu (Yk p) p.ln _ at_ (zzab _);rw[zzbn,uY]at hI;obtain⟨o1,o2,rt,o3,o4⟩:=id hO;simp only[Qa]at o2;simp[h24,h2,oJ,o2,pU];refine⟨R4,?_⟩;refine anG Y0 p at_ p.ln cp zE zE (pU p) (fun _ _=>rfl) _ _ L hO zE zd zd _ ?_;intro m' LV cw ey;rw[hI]at LV;obtain⟨p1,p2,KX,p3,p4⟩:=LV;generalize uY p l GJ=G at*
 obtain⟨g1,rfl⟩|⟨g1,k,rfl,hk⟩:=p4
 ·subst g1;simp[p3,p1,UU]
 simp[p3,p1,UU,g1]
def Qe(e:bE):List AV:=[I e.id,I e.it,I e.st,I e.fr,I e.i,I e.re,.sl .ro (e.al.map Qf)]
def LW(L:List bE):Wk (.sl .ro (L.map Zw)) (.sl .ro (L.map Qe)):=by
 refine Wk.rows L Zw Qe (fun _=>rfl) fun a j c' h=>?_
 match j,h with
 |0,h=>exact⟨_,rfl,by cases h;exact Wk.refl _⟩
 |1,h=>exact⟨_,rfl,by cases h;exact Wk.refl _⟩
 |2,h=>exact⟨_,rfl,by cases h;exact Wk.refl _⟩
 |3,h=>exact⟨_,rfl,by cases h;exact Wk.refl _⟩
 |4,h=>exact⟨_,rfl,by cases h;exact Wk.refl _⟩
 |5,h=>exact⟨_,rfl,by cases h;exact Wk.refl _⟩
 |6,h=>exact⟨_,rfl,by cases h;exact Wk.sl _ _⟩
 |j+7,h=>simp[Qe]at h
def Wk.trans{a b c:AV}(h:Wk a b)(k:Wk b c):Wk a c:=fun w γ v hr=>k w γ v (h w γ v hr)
def sY(p:Pl)(l:List Sp)(GJ:Int)(hc:p.cls.length<=1000000)(gQ:p.sh.length<=1000000000)(cp:p.aN.length<=1000000000)(JR:p.ens.length<=1000000000)(eD:∀e∈p.ens,e.al.length<=8796093022208)
  (dy:p.ln<=1000000)(hl:l.length<=1000000)(gN:∀s∈l,-1000000000<=s.2/\s.2<=1000000000):Pure Tryz.prog aA 62 [.agg (Qa p),.sl .ro (l.map Qf),I GJ] (.sl .ro ((DC p l GJ).map Qe)):=by
 obtain⟨rt,h⟩:=LQ p l GJ hc gQ cp JR eD dy hl gN;exact Xa h (Wk.trans (Wk.sl _ _) (LW _))
end
