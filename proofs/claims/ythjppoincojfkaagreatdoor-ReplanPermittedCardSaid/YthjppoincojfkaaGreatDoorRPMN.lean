import Derived.Test.YthjppoincojfkaaGreatDoorRPSeB
set_option linter.all false
set_option maxRecDepth 100000
set_option maxHeartbeats 64000000
namespace Go.Proofs.YthjppoincojfkaaGreatDoor
noncomputable section
open Go Go.Abs
def lQ(p:Pl)(e:En)(fr:Int)(s:Sp):Bool:=decide (1<=s.1)&&decide (s.1<p.rg)&&Xd p s.2 s.1 fr e.fr
def evM(p:Pl)(e:En)(fr:Int):Int:=Ul (fun i=>Xd p e.it i fr e.fr) (min p.rg 8).toNat
def IE(p:Pl)(e:En)(fr:Int)(rt:Rt)(l:List Sp):P2:=[I e.id,I e.it,I fr,I e.fr,I 0,I (evM p e fr),.sl rt (l.map Qf)]
def QD(p:Pl)(e:En)(fr:Int)(i:Nat):List Sp:=(e.al.take i).filter (lQ p e fr)
def F8(p:Pl)(e:En)(fr:Int)(hc:p.cls.length<=1000000)(fA:p.sh.length<=1000000000)(cM:p.aM.length<=1000000000)(fK:e.al.length<=8796093022208):
  ∃rt,Pure Tryz.prog aD 123 [.agg (Qa p),.agg (Qd e),I fr] (.agg (IE p e fr rt (e.al.filter (lQ p e fr)))):=by
 refine⟨if e.al.filter (lQ p e fr)=[]then .nil else .ro,Qp ab8 (fun _ _ _=>.gd false .junk) zd ?_⟩;simp[TB,Qa,Qd];refine sL Y0 p 179 [.ptr 4 0,.ptr 1 0] (fun i=>Xd p e.it i fr e.fr) _ _ ?_ fun bx=>?_
 ·rintro i mm _ _ ⟨bx,rfl⟩ K' h;exact XV Y0 p e i fr _ 0 2 1 4 hc fA cM (by simp[Qa]) zd (by simp[Qd]) zd K' h
 have hM:Ul (fun i=>Xd p e.it i fr e.fr) (min p.rg 8).toNat=evM p e fr:=rfl;simp[hM]
 refine Qi qy (fun f mm=>∃(i:Nat)(bx:T5)(Lm:Pa)(rt:Rt),f 27=I i/\i<=e.al.length/\mm=⟨Qa p::Qd e::[I fr]::[I 0,I 0,I 0,I 0,I 0,I 0,.sl .nil []]::[.fn 178 [] [.ptr 0 0,.ptr 2 0,.ptr 1 0]]::IE p e fr rt (QD p e fr i)::bx,Lm,fun _=>.gone,0⟩/\
  (QD p e fr i=[]/\rt=.nil\/QD p e fr i≠[]/\∃k,rt=.own k 2/\Lm[k]?=some (QD p e fr i).length)) (fun f _=>e.al.length-(numOf (f 27)).toNat) ?_ ?_
 ·refine⟨0,bx,[],.nil,zd,zE,?_,.inl ⟨by simp[QD],rfl⟩⟩;simp[Qa,Qd,IE,QD]
 rintro f mm ⟨i,bx,Lm,rt,h27,hi,rfl,aX⟩;rcases zzaa i e.al.length with ai|bq
 ·obtain⟨x,hx⟩:=aV ai;have ah:=Zv hx;have aa:(i:Int)<(e.al.length:Int):=zE
  have hw:=bP i zE
  have bA:QD p e fr (i+1)=QD p e fr i++if lQ p e fr x then[x]else[]:=by
   unfold QD;rw[zzb,hx,zzdg];simp only[Option.toList,zzea,List.filter_nil]
  generalize hG:QD p e fr i=G at*
  by_cases c1:1<=x.1
  ·by_cases c2:x.1<p.rg
   ·have hpm:=fun mm h1 h2 h3=>F9 Y0 p e x.2 x.1 fr mm 0 2 1 hc fA cM h1 h2 h3;simp[h27,Qa,Qd,IE,ah,aa,ai,qy,c1,c2,hw];have hGl:G.length<=i:=by rw[<- hG];unfold QD;exact zzbd (zzce _ _) (by rw[zzaq];omega)
    refine hpm _ rfl rfl rfl _ ?_;have hA:lQ p e fr x=Xd p x.2 x.1 fr e.fr:=by simp[lQ,c1,c2]
    rw[hA]at bA;cases hb:Xd p x.2 x.1 fr e.fr with
    |false=>
     rw[hb]at bA;simp only[zzbh,if_false,zzau]at bA;simp[hw];refine⟨aQ,⟨i+1,zE,zE,bx++[[I x.1,I x.2]],Lm,rt,by rw[bA];simp[Qa,Qd,IE],by rw[bA];exact aX⟩,zE⟩
    |true=>
     rw[hb]at bA;simp only[if_true]at bA;obtain⟨h1,rfl⟩|⟨h1,k,rfl,hk⟩:=aX
     ·subst h1;simp only[zzai]at bA;simp[hw];refine⟨aQ,⟨i+1,zE,zE,bx++[[I x.1,I x.2]],Lm++[1],.own Lm.length 2,by rw[bA];simp[Qa,Qd,IE,Qf],by rw[bA];exact .inr ⟨zd,_,rfl,zd⟩⟩,zE⟩
     simp[hw,hk];refine⟨⟨by rintro row (⟨a,b,_,rfl⟩|rfl)<;>rfl,zE⟩,ag ?_,⟨i+1,zE,zE,bx++[[I x.1,I x.2]],Lm.set k (G.length+1),.own k 2,by rw[bA];simp[Qa,Qd,IE,Qf],by rw[bA];exact .inr ⟨zd,_,rfl,by rw[zzbg ((zza.1 hk).1)];simp⟩⟩,zE⟩;repeat(first|exact Qb _ _|refine Qc _ rfl ?_)
   have hA:lQ p e fr x=false:=by simp[lQ,c2]
   simp[h27,Qa,Qd,IE,ah,aa,ai,qy,c1,c2,hw];rw[hA]at bA;simp only[zzbh,if_false,zzau]at bA;refine⟨aQ,⟨i+1,zE,zE,bx++[[I x.1,I x.2]],Lm,rt,by rw[bA];simp[Qa,Qd,IE],by rw[bA];exact aX⟩,zE⟩
  have hA:lQ p e fr x=false:=by simp[lQ,c1]
  simp[h27,Qa,Qd,IE,ah,aa,ai,qy,c1,hw];rw[hA]at bA;simp only[zzbh,if_false,zzau]at bA;refine⟨aQ,⟨i+1,zE,zE,bx++[[I x.1,I x.2]],Lm,rt,by rw[bA];simp[Qa,Qd,IE],by rw[bA];exact aX⟩,zE⟩
 obtain rfl:i=e.al.length:=zE
 have hE:QD p e fr e.al.length=e.al.filter (lQ p e fr):=by simp[QD]
 rw[hE]at aX;generalize e.al.filter (lQ p e fr)=G at*
 obtain⟨h1,rfl⟩|⟨h1,k,rfl,hk⟩:=aX
 ·simp[h27,Qa,Qd,IE,qy,TC,h1,hE]
 simp[h27,Qa,Qd,IE,qy,TC,h1,hE]
def aez(p:Pl)(e:En)(fr:Int):AV:=.agg (IE p e fr .ro (e.al.filter (lQ p e fr)))
def KT(p:Pl)(e:En)(fr:Int)(hc:p.cls.length<=1000000)(fA:p.sh.length<=1000000000)(cM:p.aM.length<=1000000000)(fK:e.al.length<=8796093022208):
  Pure Tryz.prog aD 123 [.agg (Qa p),.agg (Qd e),I fr] (aez p e fr):=by
 obtain⟨rt,h⟩:=F8 p e fr hc fA cM fK;exact Zh h (jv ⟨Ps,Ps,Ps,Ps,Ps,Ps,Wk.sl _ _,trivial⟩)
open Go Go.Abs
structure bC where
 id:Int
 it:Int
 st:Int
 fr:Int
 i:Int
 re:Int
 al:List Sp
 nl:Bool
def Zt(e:bC):P2:=[I e.id,I e.it,I e.st,I e.fr,I e.i,I e.re,.sl (if e.nl then .nil else .ro) (e.al.map Qf)]
def Zy(p:Pl)(x:Int×Int):bC:=⟨0,p.fi,x.1,x.2,0,Ga p,[],true⟩
def zM(p:Pl)(e:En)(fr:Int):bC:=⟨e.id,e.it,fr,e.fr,0,evM p e fr,e.al.filter (lQ p e fr),false⟩
def nN(p:Pl)(m:AM)(L:List bC):Prop:=1<m.boxes.length/\Qh m.boxes 0=Qa p/\∃rt,Qh m.boxes 1=[.sl rt (L.map Zt)]/\(L=[]/\rt=.nil\/L≠[]/\∃k,rt=.own k 7/\m.lens[k]?=some L.length)
def nN.XL{p:Pl}{m m':AM}{L:List bC}{O:Nat->Prop}(h:nN p m L)(e:bV O m m')(h0:¬O 0)(h1:¬O 1):nN p m' L:=by
 obtain⟨a1,a2,rt,a3,a4⟩:=h;obtain⟨e1,e2,⟨lx,e3⟩,_⟩:=e;refine⟨zE,by rw[e2 0 zE h0];exact a2,rt,by rw[e2 1 a1 h1];exact a3,?_⟩;obtain h|⟨hn,k,hk,hl⟩:=a4
 ·exact .inl h
 exact .inr ⟨hn,k,hk,by rw[e3,zzaj (zza.1 hl).1];exact hl⟩
def asT:SC:=(⟨_,by cbv⟩:J4 [1,1,1,0,1,0,0,1,1,0,0,1,1,1,0,1,0] I1).1
def aml(Y:YT)(p:Pl)(a t:Int)(hl:p.aM.length<=1000000000)(hb: -1000000000<=a/\t<=1000000000)(hf:a<=1000000000/\ -1000000000<=t)(orc:UV)(ho:∀d l,orc d 999999 l=.junk)(E:QQ)(m:AM)(L:List bC)
  (hO:nN p m L)(hL:L.length+(Vo (Yf p) t a).length<=1000000000)(hg:Abs.look E 67=.fn 175 [] [.ep (Qa p) 0,.ep [I a] 0,.ep [I t] 0])(h7:Abs.look E 7=.ptr 1 0)(Q:R0)
  (hQ:∀m',nN p m' (L++(Vo (Yf p) t a).map (Zy p))->m.boxes.length<=m'.boxes.length->(∀j,2<=j->j<m.boxes.length->Qh m'.boxes j=Qh m.boxes j)->Q .normal ⟨Vw 98 E,m'⟩):vc Tryz.prog aD orc Y asT ⟨Vw 98 E,m⟩ Q:=by
 have cM:=xm p a t hl hb hf;generalize hX:Vo (Yf p) t a=xs at*
 unfold asT
 refine ri (xs:=xs.map (Qbd p)) (by simp[hg];try exact⟨rfl,rfl⟩) cM (by intro x hx;simp at hx;obtain⟨u,v,_,rfl⟩:=hx;rfl)
  (fun O i mm=>(∀j,O j->m.boxes.length<=j)/\nN p mm (L++(xs.take i).map (Zy p))/\m.boxes.length<=mm.boxes.length/\(∀j,2<=j->j<m.boxes.length->Qh mm.boxes j=Qh m.boxes j)) (fun _ _ _=>False) ?_ ?_ (fun _ _ _ _ h=>h.elim) ?_ ?_ (fun _ _ _ h=>h.elim)
 ·exact⟨fun _ h=>h.elim,by rw[zzhd,zzcs,zzau];exact hO,zzab _,fun _ _ _=>rfl⟩
 ·rintro O i m1 m2 ⟨h1,h2,h3,h4⟩ e;have y8:=hO.1;refine⟨?_,h2.XL e (fun h=>by have:=h1 _ h;omega) (fun h=>by have:=h1 _ h;omega),zzbd h3 e.1,fun j j1 j2=>by rw[e.2.1 j zE (fun h=>by have:=h1 _ h;omega)];exact h4 j j1 j2⟩;rintro j (h|h)
  ·exact h1 j h
  omega
 ·rintro O l i mm x C5 cn WW iC ⟨h1,h2,h3,h4⟩ hx K' q1 _ _;rw[zzbm,zzcb]at hx;obtain⟨x,hx,rfl⟩:=hx;have iV:=(zza.1 hx).1;have bA:L++(xs.take (i+1)).map (Zy p)=(L++(xs.take i).map (Zy p))++[Zy p x]:=by rw[zzb,hx];simp
  have hml:=hO.1;have aH:(L++(xs.take i).map (Zy p)).length<=1000000000:=by simp;omega
  obtain⟨o1,o2,rt,o3,o4⟩:=h2;simp only[Jm,NM]at o1 o2 o3 o4 h3 h4;have gV:∀y,Qh (mm.boxes++y) 1=[.sl rt ((L++(xs.take i).map (Zy p)).map Zt)]:=fun y=>by rw[Qn zE];exact o3
  have A0:∀y,Qh (mm.boxes++[y]) mm.boxes.length=y:=fun y=>by
   simp
  have fin:∀(T:P2)(v:P2)(row:P2)(ls:Pa)(st:Nat->LS)(ln:Nat),nN p ⟨(mm.boxes++[row]).set 1 v,ls,st,ln⟩ (L++(xs.take (i+1)).map (Zy p))->K' .normal ⟨T,⟨(mm.boxes++[row]).set 1 v,ls,st,ln⟩⟩:=by
   intro T v row ls st ln hv;refine q1 _ ⟨zd,fun j hj=>?_⟩ ⟨h1,hv,by simp;omega,fun j j1 j2=>?_⟩
   ·have:=(C5 j hj).2;have:=h1 j hj;show Qh ((mm.boxes++[row]).set 1 v) j=_;rw[Ya _ zE,Qn zE]
   show Qh ((mm.boxes++[row]).set 1 v) j=_;rw[Ya _ zE,Qn zE];exact h4 j j1 j2
  have Db:∀(v row:P2),Qh ((mm.boxes++[row]).set 1 v) 0=Qa p/\Qh ((mm.boxes++[row]).set 1 v) 1=v:=fun v row=>⟨by rw[Ya _ zE,Qn zE];exact o2,Yg _ (by simp;omega)⟩;rw[bA]at fin;generalize L++(xs.take i).map (Zy p)=G at*
  have hG7:∀row∈G.map Zt,row.length=7:=by
   intro row h;obtain⟨e,_,rfl⟩:=zzar.1 h;rfl
  obtain⟨rfl,rfl⟩|⟨aO,k,rfl,hk⟩:=o4
  ·simp[iC,Zq,Qbd,h7,gV,A0,ho];subst_vars;exact⟨zE,fin _ _ _ _ _ _ ⟨by simp;omega,(Db _ _).1,_,(Db _ _).2,.inr ⟨zd,_,rfl,zd⟩⟩⟩
  simp[iC,Zq,Qbd,h7,gV,A0,ho];refine⟨⟨hk,?_,zE⟩,zE,fin _ _ _ _ _ _ ⟨by simp;omega,(Db _ _).1,_,by rw[(Db _ _).2];simp;rfl,.inr ⟨zd,k,rfl,by simp[(zza.1 hk).1]⟩⟩⟩;rintro row (⟨e,_,rfl⟩|rfl)<;>rfl
 rintro mm' mm ⟨h1,h2,h3,h4⟩;rw[zzbv,zzbz]at h2;exact hQ _ h2 h3 h4
def asU:SC:=(⟨_,by cbv⟩:J4 [1,1,1,1,0,1,0] I1).1
def amm(Y:YT)(p:Pl)(a t:Int)(hl:p.aM.length<=1000000000)(hb: -1000000000<=a/\t<=1000000000)(hf:a<=1000000000/\ -1000000000<=t)(orc:UV)(ho:∀d l,orc d 999999 l=.junk)(E:QQ)(m:AM)(L:List bC)
  (hO:nN p m L)(hL:L.length+(Vo (Yf p) t a).length<=1000000000)(hg:Abs.look E 91=.fn 175 [] [.ep (Qa p) 0,.ep [I a] 0,.ep [I t] 0])(h7:Abs.look E 7=.ptr 1 0)(Q:R0)
  (hQ:∀m',nN p m' (L++(Vo (Yf p) t a).map (Zy p))->m.boxes.length<=m'.boxes.length->(∀j,2<=j->j<m.boxes.length->Qh m'.boxes j=Qh m.boxes j)->Q .normal ⟨Vw 98 E,m'⟩):vc Tryz.prog aD orc Y asU ⟨Vw 98 E,m⟩ Q:=by
 have cM:=xm p a t hl hb hf;generalize hX:Vo (Yf p) t a=xs at*
 unfold asU
 refine ri (xs:=xs.map (Qbd p)) (by simp[hg];try exact⟨rfl,rfl⟩) cM (by intro x hx;simp at hx;obtain⟨u,v,_,rfl⟩:=hx;rfl)
  (fun O i mm=>(∀j,O j->m.boxes.length<=j)/\nN p mm (L++(xs.take i).map (Zy p))/\m.boxes.length<=mm.boxes.length/\(∀j,2<=j->j<m.boxes.length->Qh mm.boxes j=Qh m.boxes j)) (fun _ _ _=>False) ?_ ?_ (fun _ _ _ _ h=>h.elim) ?_ ?_ (fun _ _ _ h=>h.elim)
 ·exact⟨fun _ h=>h.elim,by rw[zzhd,zzcs,zzau];exact hO,zzab _,fun _ _ _=>rfl⟩
 ·rintro O i m1 m2 ⟨h1,h2,h3,h4⟩ e;have y8:=hO.1;refine⟨?_,h2.XL e (fun h=>by have:=h1 _ h;omega) (fun h=>by have:=h1 _ h;omega),zzbd h3 e.1,fun j j1 j2=>by rw[e.2.1 j zE (fun h=>by have:=h1 _ h;omega)];exact h4 j j1 j2⟩;rintro j (h|h)
  ·exact h1 j h
  omega
 ·rintro O l i mm x C5 cn WW iC ⟨h1,h2,h3,h4⟩ hx K' q1 _ _;rw[zzbm,zzcb]at hx;obtain⟨x,hx,rfl⟩:=hx;have iV:=(zza.1 hx).1;have bA:L++(xs.take (i+1)).map (Zy p)=(L++(xs.take i).map (Zy p))++[Zy p x]:=by rw[zzb,hx];simp
  have hml:=hO.1;have aH:(L++(xs.take i).map (Zy p)).length<=1000000000:=by simp;omega
  obtain⟨o1,o2,rt,o3,o4⟩:=h2;simp only[Jm,NM]at o1 o2 o3 o4 h3 h4;have gV:∀y,Qh (mm.boxes++y) 1=[.sl rt ((L++(xs.take i).map (Zy p)).map Zt)]:=fun y=>by rw[Qn zE];exact o3
  have A0:∀y,Qh (mm.boxes++[y]) mm.boxes.length=y:=fun y=>by
   simp
  have fin:∀(T:P2)(v:P2)(row:P2)(ls:Pa)(st:Nat->LS)(ln:Nat),nN p ⟨(mm.boxes++[row]).set 1 v,ls,st,ln⟩ (L++(xs.take (i+1)).map (Zy p))->K' .normal ⟨T,⟨(mm.boxes++[row]).set 1 v,ls,st,ln⟩⟩:=by
   intro T v row ls st ln hv;refine q1 _ ⟨zd,fun j hj=>?_⟩ ⟨h1,hv,by simp;omega,fun j j1 j2=>?_⟩
   ·have:=(C5 j hj).2;have:=h1 j hj;show Qh ((mm.boxes++[row]).set 1 v) j=_;rw[Ya _ zE,Qn zE]
   show Qh ((mm.boxes++[row]).set 1 v) j=_;rw[Ya _ zE,Qn zE];exact h4 j j1 j2
  have Db:∀(v row:P2),Qh ((mm.boxes++[row]).set 1 v) 0=Qa p/\Qh ((mm.boxes++[row]).set 1 v) 1=v:=fun v row=>⟨by rw[Ya _ zE,Qn zE];exact o2,Yg _ (by simp;omega)⟩;rw[bA]at fin;generalize L++(xs.take i).map (Zy p)=G at*
  have hG7:∀row∈G.map Zt,row.length=7:=by
   intro row h;obtain⟨e,_,rfl⟩:=zzar.1 h;rfl
  obtain⟨rfl,rfl⟩|⟨aO,k,rfl,hk⟩:=o4
  ·simp[iC,Zq,Qbd,h7,gV,A0,ho];subst_vars;exact⟨zE,fin _ _ _ _ _ _ ⟨by simp;omega,(Db _ _).1,_,(Db _ _).2,.inr ⟨zd,_,rfl,zd⟩⟩⟩
  simp[iC,Zq,Qbd,h7,gV,A0,ho];refine⟨⟨hk,?_,zE⟩,zE,fin _ _ _ _ _ _ ⟨by simp;omega,(Db _ _).1,_,by rw[(Db _ _).2];simp;rfl,.inr ⟨zd,k,rfl,by simp[(zza.1 hk).1]⟩⟩⟩;rintro row (⟨e,_,rfl⟩|rfl)<;>rfl
 rintro mm' mm ⟨h1,h2,h3,h4⟩;rw[zzbv,zzbz]at h2;exact hQ _ h2 h3 h4
def A8(fr t:Int):∀(n:Nat)(a:Int),(t-a).toNat<=n->((Vo fr t a).length:Int)<=max 0 (t-a):=by
 intro n;induction n with
 |zero=>intro a h;rw[Vo,if_neg zE];simp only[zzco];omega
 |succ n ih=>
  intro a h;rw[Vo];split
  ·rename_i ai;have hN:1<=Uc fr t a/\Uc fr t a<=t-a:=by unfold Uc;split<;>omega
   have:=ih (a+Uc fr t a) zE;simp only[zzaz];omega
  simp only[zzco];omega
def nN.app{p:Pl}{m:AM}{L:List bC}(h:nN p m L)(x:T5):nN p ⟨m.boxes++x,m.lens,m.st,m.ln⟩ L:=by
 obtain⟨a1,a2,rt,a3,a4⟩:=h;exact⟨by simp;omega,by show Qh (m.boxes++x) 0=_;rw[Qn zE];exact a2,rt,by show Qh (m.boxes++x) 1=_;rw[Qn zE];exact a3,a4⟩
open Go Go.Abs
def QE(p:Pl)(s:Sp)(at_:Int):Option En:=match Xb s.1 p.ens with
 |some e=>if s.1=0\/e.fr<1\/s.2<at_\/p.ln-s.2<e.fr then none else some e
 |none=>none
def Jd(p:Pl):List Sp->Int->List bC
 |[],at_=>(Vo (Yf p) p.ln at_).map (Zy p)
 |s::r,at_=>match QE p s at_ with
  |none=>Jd p r at_
  |some e=>((Vo (Yf p) s.2 at_).map (Zy p)++[zM p e s.2])++Jd p r (s.2+e.fr)
def Kw(p:Pl)(l:List Sp)(at_:Int):List bC:=if at_<0\/p.ln<at_ then[]else Jd p l at_
def pM(p:Pl):UV:=fun d f l=>
 if f=999999 then .junk else
 if f=29 then(match l with|[_,.int _ n]=>sM (Xb n p.ens)|_=>.junk)else
 if f=122 then(match l with|[_,.int _ a,.int _ t]=>.fn 175 [] [.ep (Qa p) 0,.ep [I a] 0,.ep [I t] 0]|_=>.junk)else
 if f=123 then(match l with|[_,.agg [.int _ a,.int _ b,.int _ c,.int _ d,.int _ e,.int _ g,.sl _ rows],.int _ fr]=>aez p ⟨a,b,c,d,e,g,rows.map rq⟩ fr|_=>.junk)else .gd false .junk
def Qbv{id:Int}{x:En}:∀{l:List En},Xb id l=some x->x∈l/\x.id=id
 |[],h=>by cases h
 |y::r,h=>by
  simp only[Xb]at h;split at h
  ·rename_i hy;cases h;exact⟨zd,hy⟩
  obtain⟨h1,h2⟩:=Qbv h;exact⟨by simp[h1],h2⟩
def KU(p:Pl)(l:List Sp)(Gb:Int)(hc:p.cls.length<=1000000)(fA:p.sh.length<=1000000000)(cM:p.aM.length<=1000000000)(IF:p.ens.length<=1000000000)(fK:∀e∈p.ens,e.al.length<=8796093022208)
  (dD:p.ln<=1000000)(hl:l.length<=1000000)(me:∀s∈l,-1000000000<=s.2/\s.2<=1000000000):∃rt,Pure Tryz.prog aD 67 [.agg (Qa p),.sl .ro (l.map Qf),I Gb] (.sl rt ((Kw p l Gb).map Zt)):=by
 by_cases c0:Gb<0\/p.ln<Gb
 ·refine⟨.nil,Qp Te (pM p) zd ?_⟩;rw[Kw,if_pos c0];by_cases c1:Gb<0
  ·simp[I1,Td,Qa,c1]
  have c2:p.ln<Gb:=zE
  simp[I1,Td,Qa,c1,c2]
 refine⟨if Jd p l Gb=[]then .nil else .ro,Qp Te (pM p) zd ?_⟩;rw[Kw,if_neg c0];simp only[not_or]at c0;have c1:¬Gb<0:=c0.1;have c2:¬p.ln<Gb:=c0.2;simp[I1,Qa,c1,c2];refine Qi oE (fun f mm=>∃(i:Nat)(at_:Int)(L:List bC),f 24=I i/\f 2=I at_/\i<=l.length/\nN p mm L/\0<=at_/\at_<=p.ln/\(L.length:Int)<=at_/\L++Jd p (l.drop i) at_=Jd p l Gb) (fun f _=>l.length-(numOf (f 24)).toNat) ?_ ?_
 ·exact⟨0,Gb,[],zd,zd,zE,⟨zd,by simp[Qa],.nil,zd,.inl ⟨rfl,rfl⟩⟩,zE,zE,by simp;omega,zd⟩
 rintro f mm ⟨i,at_,L,h24,h2,hi,hO,a1,a2,a3,hI⟩;rcases zzaa i l.length with ai|bq
 ·obtain⟨s,hs⟩:=aV ai;have ah:=Zv hs;have hsb:=me s (zzad hs);have aa:(i:Int)<(l.length:Int):=zE
  have hw:=bP i zE;have fQ:IntKind.i64.wrap (p.ln-s.2)=p.ln-s.2:=by rw[Ql]<;>omega
  rw[Za hs,Jd]at hI;have y9:=KV p s.1 IF fK;have hO':=hO;obtain⟨o1,o2,rt,o3,o4⟩:=hO';have r0:∀y,Qh (mm.boxes++y) 0=Qa p:=fun y=>by rw[Qn zE];exact o2
  have r1:∀y,Qh (mm.boxes++y) 1=[.sl rt (L.map Zt)]:=fun y=>by rw[Qn o1];exact o3
  simp only[Qa]at r0;cases hf:Xb s.1 p.ens with
  |none=>
   simp only[QE,hf]at hI;rw[hf]at y9;by_cases c3:s.1=0
   ·rw[c3]at hf y9;simp[h24,h2,oE,ai,aa,ah,r0,r1,pM,hf,sM,hw,c3];refine⟨y9,aQ,⟨i+1,zd,zE,L,hO.app _,a1,a2,a3,hI⟩,zE⟩
   simp[h24,h2,oE,ai,aa,ah,r0,r1,pM,hf,sM,hw,c3];refine⟨y9,aQ,⟨i+1,zd,zE,L,hO.app _,a1,a2,a3,hI⟩,zE⟩
  |some e=>
   rw[hf]at y9;simp only[QE,hf]at hI;by_cases c3:s.1=0
   ·rw[if_pos (.inl c3)]at hI;rw[c3]at hf y9;simp[h24,h2,oE,ai,aa,ah,r0,r1,pM,hf,sM,Qd,hw,c3];refine⟨y9,aQ,⟨i+1,zd,zE,L,hO.app _,a1,a2,a3,hI⟩,zE⟩
   by_cases c4:e.fr<1
   ·rw[if_pos (.inr (.inl c4))]at hI;simp[h24,h2,oE,ai,aa,ah,r0,r1,pM,hf,sM,Qd,hw,c3,c4];refine⟨y9,aQ,⟨i+1,zd,zE,L,hO.app _,a1,a2,a3,hI⟩,zE⟩
   by_cases c5:s.2<at_
   ·rw[if_pos (.inr (.inr (.inl c5)))]at hI;simp[h24,h2,oE,ai,aa,ah,r0,r1,pM,hf,sM,Qd,hw,c3,c4,c5];refine⟨y9,aQ,⟨i+1,zd,zE,L,hO.app _,a1,a2,a3,hI⟩,zE⟩
   by_cases c6:p.ln-s.2<e.fr
   ·rw[if_pos (.inr (.inr (.inr c6)))]at hI;simp[h24,h2,oE,ai,aa,ah,r0,r1,pM,hf,sM,Qd,hw,fQ,c3,c4,c5,c6];refine⟨y9,aQ,⟨i+1,zd,zE,L,hO.app _,a1,a2,a3,hI⟩,zE⟩
   rw[if_neg zE]at hI;simp[h24,h2,oE,ai,aa,ah,r0,r1,pM,hf,sM,Qd,hw,fQ,c3,c4,c5,c6];have k31:=xq p at_ s.2;have fh:=A8 (Yf p) s.2 _ at_ (zzab _);refine⟨y9,k31,?_⟩;refine aml Y0 p at_ s.2 cM zE zE (pM p) (fun _ _=>rfl) _ _ L (hO.app _) zE zd zd _ ?_;intro m' Gd cn ee
   have Rs:Qh m'.boxes mm.boxes.length=[I s.1,I s.2]:=by
    rw[ee _ zE zd];simp
   have Re:Qh m'.boxes (mm.boxes.length+1)=Qd e:=by
    rw[ee _ zE zd];simp[Qd]
   simp only[Qd]at Re;obtain⟨p1,p2,Sh,p3,p4⟩:=Gd;have p2':=p2;have b1:∀v,Qh (m'.boxes.set 1 v) 1=v:=fun v=>Yg v p1;have b0:∀v,Qh (m'.boxes.set 1 v) 0=Qa p:=fun v=>by rw[Ya v zE];exact p2
   have bs:∀v,Qh (m'.boxes.set 1 v) mm.boxes.length=[I s.1,I s.2]:=fun v=>by rw[Ya v zE];exact Rs
   have be:∀v,Qh (m'.boxes.set 1 v) (mm.boxes.length+1)=[I e.id,I e.it,I e.fr,I e.ea,I e.la,I e.bo,.sl .ro (e.al.map Qf)]:=fun v=>by rw[Ya v zE];exact Re
   simp only[Qa]at p2';have hG:((L++(Vo (Yf p) s.2 at_).map (Zy p)).length:Int)<=s.2:=by simp;omega
   have hI2:(L++(Vo (Yf p) s.2 at_).map (Zy p)++[zM p e s.2])++Jd p (l.drop (i+1)) (s.2+e.fr)=Jd p l Gb:=by rw[<- hI];simp
   generalize L++(Vo (Yf p) s.2 at_).map (Zy p)=G at*
   have k32:=KT p e s.2 hc fA cM (fK e (Qbv hf).1);have Sw:IntKind.i64.wrap (s.2+e.fr)=s.2+e.fr:=by rw[Ql]<;>omega
   obtain⟨g1,rfl⟩|⟨g1,k,rfl,hk⟩:=p4
   ·subst g1;simp[h24,p2',p3,Rs,Re,b1,bs,be,p1,pM,aez,IE,hw,Sw];rw[zzai]at hI2;refine⟨k32,aQ,⟨i+1,zd,zE,[zM p e s.2],⟨by simp;omega,b0 _,_,b1 _,.inr ⟨zd,_,rfl,zd⟩⟩,zE,zE,by simp;omega,hI2⟩,zE⟩
   simp[h24,p2',p3,Rs,Re,b1,bs,be,p1,pM,aez,IE,hw,Sw];refine⟨k32,⟨hk,by rintro row (⟨a,_,rfl⟩|rfl)<;>rfl,zE⟩,ag ?_,⟨i+1,zd,zE,G++[zM p e s.2],⟨by simp;omega,b0 _,_,by rw[b1];simp[Zt,zM],.inr ⟨zd,k,rfl,by simp[(zza.1 hk).1]⟩⟩,zE,zE,by simp;omega,hI2⟩,zE⟩;repeat(first|exact Qb _ _|refine Qc _ rfl ?_)
 obtain rfl:i=l.length:=zE
 have k31:=xq p at_ p.ln;have fh:=A8 (Yf p) p.ln _ at_ (zzab _);rw[zzbu,Jd]at hI;obtain⟨o1,o2,rt,o3,o4⟩:=id hO;simp only[Qa]at o2;simp[h24,h2,oE,o2,pM];refine⟨k31,?_⟩;refine amm Y0 p at_ p.ln cM zE zE (pM p) (fun _ _=>rfl) _ _ L hO zE zd zd _ ?_;intro m' Gd cn ee;rw[hI]at Gd;obtain⟨p1,p2,Sh,p3,p4⟩:=Gd;generalize Jd p l Gb=G at*
 obtain⟨g1,rfl⟩|⟨g1,k,rfl,hk⟩:=p4
 ·subst g1;simp[p3,p1,Td]
 simp[p3,p1,Td,g1]
def Qe(e:bC):P2:=[I e.id,I e.it,I e.st,I e.fr,I e.i,I e.re,.sl .ro (e.al.map Qf)]
def KW(L:List bC):Wk (.sl .ro (L.map Zt)) (.sl .ro (L.map Qe)):=by
 refine Wk.rows L Zt Qe (fun _=>rfl) fun a j c' h=>?_
 match j,h with
 |0,h=>exact⟨_,rfl,by cases h;exact Ps⟩
 |1,h=>exact⟨_,rfl,by cases h;exact Ps⟩
 |2,h=>exact⟨_,rfl,by cases h;exact Ps⟩
 |3,h=>exact⟨_,rfl,by cases h;exact Ps⟩
 |4,h=>exact⟨_,rfl,by cases h;exact Ps⟩
 |5,h=>exact⟨_,rfl,by cases h;exact Ps⟩
 |6,h=>exact⟨_,rfl,by cases h;exact Wk.sl _ _⟩
 |j+7,h=>simp[Qe]at h
def Wk.trans{a b c:AV}(h:Wk a b)(k:Wk b c):Wk a c:=fun w γ v hr=>k w γ v (h w γ v hr)
def sN(p:Pl)(l:List Sp)(Gb:Int)(hc:p.cls.length<=1000000)(fA:p.sh.length<=1000000000)(cM:p.aM.length<=1000000000)(IF:p.ens.length<=1000000000)(fK:∀e∈p.ens,e.al.length<=8796093022208)
  (dD:p.ln<=1000000)(hl:l.length<=1000000)(me:∀s∈l,-1000000000<=s.2/\s.2<=1000000000):Pure Tryz.prog aD 67 [.agg (Qa p),.sl .ro (l.map Qf),I Gb] (.sl .ro ((Kw p l Gb).map Qe)):=by
 obtain⟨rt,h⟩:=KU p l Gb hc fA cM IF fK dD hl me;exact Zh h (Wk.trans (Wk.sl _ _) (KW _))
end
