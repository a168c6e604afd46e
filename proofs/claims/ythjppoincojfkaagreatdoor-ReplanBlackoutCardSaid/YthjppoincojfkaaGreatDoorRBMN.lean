import Derived.Test.YthjppoincojfkaaGreatDoorRBSeB
set_option linter.all false
set_option maxRecDepth 100000
set_option maxHeartbeats 64000000
namespace Go.Proofs.YthjppoincojfkaaGreatDoor
noncomputable section
open Go Go.Abs
def nK(p:Pl)(e:En)(fr:Int)(s:Sp):Bool:=decide (1<=s.1)&&decide (s.1<p.rg)&&Xk p s.2 s.1 fr e.fr
def evM(p:Pl)(e:En)(fr:Int):Int:=Ug (fun i=>Xk p e.it i fr e.fr) (min p.rg 8).toNat
def Im(p:Pl)(e:En)(fr:Int)(rt:Rt)(l:List Sp):P2:=[I e.id,I e.it,I fr,I e.fr,I 0,I (evM p e fr),.sl rt (l.map Qf)]
def QF(p:Pl)(e:En)(fr:Int)(i:Nat):List Sp:=(e.al.take i).filter (nK p e fr)
def F0(p:Pl)(e:En)(fr:Int)(hc:p.cls.length<=1000000)(fu:p.sh.length<=1000000000)(cT:p.aM.length<=1000000000)(fP:e.al.length<=8796093022208):
  ∃rt,Pure Tryz.prog aD 123 [.agg (Qa p),.agg (Qd e),I fr] (.agg (Im p e fr rt (e.al.filter (nK p e fr)))):=by
 refine⟨if e.al.filter (nK p e fr)=[]then .nil else .ro,Qp abU (fun _ _ _=>.gd false .junk) zd ?_⟩;simp[Tu,Qa,Qd];refine sJ Y0 p 179 [.ptr 4 0,.ptr 1 0] (fun i=>Xk p e.it i fr e.fr) _ _ ?_ fun bx=>?_
 ·rintro i mm _ _ ⟨bx,rfl⟩ K' h;exact XV Y0 p e i fr _ 0 2 1 4 hc fu cT (by simp[Qa]) zd (by simp[Qd]) zd K' h
 have hM:Ug (fun i=>Xk p e.it i fr e.fr) (min p.rg 8).toNat=evM p e fr:=rfl;simp[hM]
 refine Qk qq (fun f mm=>∃(i:Nat)(bx:T5)(Lm:Pa)(rt:Rt),f 27=I i/\i<=e.al.length/\mm=⟨Qa p::Qd e::[I fr]::[I 0,I 0,I 0,I 0,I 0,I 0,.sl .nil []]::[.fn 178 [] [.ptr 0 0,.ptr 2 0,.ptr 1 0]]::Im p e fr rt (QF p e fr i)::bx,Lm,fun _=>.gone,0⟩/\
  (QF p e fr i=[]/\rt=.nil\/QF p e fr i≠[]/\∃k,rt=.own k 2/\Lm[k]?=some (QF p e fr i).length)) (fun f _=>e.al.length-(numOf (f 27)).toNat) ?_ ?_
 ·refine⟨0,bx,[],.nil,zd,zE,?_,.inl ⟨by simp[QF],rfl⟩⟩;simp[Qa,Qd,Im,QF]
 rintro f mm ⟨i,bx,Lm,rt,h27,hi,rfl,aX⟩;rcases zzaa i e.al.length with ai|bn
 ·obtain⟨x,hx⟩:=aV ai;have ah:=Zv hx;have aa:(i:Int)<(e.al.length:Int):=zE
  have hw:=bO i zE
  have bA:QF p e fr (i+1)=QF p e fr i++if nK p e fr x then[x]else[]:=by
   unfold QF;rw[zzax,hx,zzdb];simp only[Option.toList,zzeg,List.filter_nil]
  generalize hG:QF p e fr i=G at*
  by_cases c1:1<=x.1
  ·by_cases c2:x.1<p.rg
   ·have hpm:=fun mm h1 h2 h3=>F1 Y0 p e x.2 x.1 fr mm 0 2 1 hc fu cT h1 h2 h3;simp[h27,Qa,Qd,Im,ah,aa,ai,qq,c1,c2,hw];have hGl:G.length<=i:=by rw[<- hG];unfold QF;exact zzbb (zzcb _ _) (by rw[zzap];omega)
    refine hpm _ rfl rfl rfl _ ?_;have hA:nK p e fr x=Xk p x.2 x.1 fr e.fr:=by simp[nK,c1,c2]
    rw[hA]at bA;cases hb:Xk p x.2 x.1 fr e.fr with
    |false=>
     rw[hb]at bA;simp only[zzbh,if_false,zzat]at bA;simp[hw];refine⟨aQ,⟨i+1,zE,zE,bx++[[I x.1,I x.2]],Lm,rt,by rw[bA];simp[Qa,Qd,Im],by rw[bA];exact aX⟩,zE⟩
    |true=>
     rw[hb]at bA;simp only[if_true]at bA;obtain⟨h1,rfl⟩|⟨h1,k,rfl,hk⟩:=aX
     ·subst h1;simp only[zzai]at bA;simp[hw];refine⟨aQ,⟨i+1,zE,zE,bx++[[I x.1,I x.2]],Lm++[1],.own Lm.length 2,by rw[bA];simp[Qa,Qd,Im,Qf],by rw[bA];exact .inr ⟨zd,_,rfl,zd⟩⟩,zE⟩
     simp[hw,hk];refine⟨⟨by rintro row (⟨a,b,_,rfl⟩|rfl)<;>rfl,zE⟩,ag ?_,⟨i+1,zE,zE,bx++[[I x.1,I x.2]],Lm.set k (G.length+1),.own k 2,by rw[bA];simp[Qa,Qd,Im,Qf],by rw[bA];exact .inr ⟨zd,_,rfl,by rw[zzbf ((zza.1 hk).1)];simp⟩⟩,zE⟩;repeat(first|exact Qb _ _|refine Qc _ rfl ?_)
   have hA:nK p e fr x=false:=by simp[nK,c2]
   simp[h27,Qa,Qd,Im,ah,aa,ai,qq,c1,c2,hw];rw[hA]at bA;simp only[zzbh,if_false,zzat]at bA;refine⟨aQ,⟨i+1,zE,zE,bx++[[I x.1,I x.2]],Lm,rt,by rw[bA];simp[Qa,Qd,Im],by rw[bA];exact aX⟩,zE⟩
  have hA:nK p e fr x=false:=by simp[nK,c1]
  simp[h27,Qa,Qd,Im,ah,aa,ai,qq,c1,hw];rw[hA]at bA;simp only[zzbh,if_false,zzat]at bA;refine⟨aQ,⟨i+1,zE,zE,bx++[[I x.1,I x.2]],Lm,rt,by rw[bA];simp[Qa,Qd,Im],by rw[bA];exact aX⟩,zE⟩
 obtain rfl:i=e.al.length:=zE
 have hE:QF p e fr e.al.length=e.al.filter (nK p e fr):=by simp[QF]
 rw[hE]at aX;generalize e.al.filter (nK p e fr)=G at*
 obtain⟨h1,rfl⟩|⟨h1,k,rfl,hk⟩:=aX
 ·simp[h27,Qa,Qd,Im,qq,Tv,h1,hE]
 simp[h27,Qa,Qd,Im,qq,Tv,h1,hE]
def aeo(p:Pl)(e:En)(fr:Int):AV:=.agg (Im p e fr .ro (e.al.filter (nK p e fr)))
def KI(p:Pl)(e:En)(fr:Int)(hc:p.cls.length<=1000000)(fu:p.sh.length<=1000000000)(cT:p.aM.length<=1000000000)(fP:e.al.length<=8796093022208):
  Pure Tryz.prog aD 123 [.agg (Qa p),.agg (Qd e),I fr] (aeo p e fr):=by
 obtain⟨rt,h⟩:=F0 p e fr hc fu cT fP;exact Zk h (Qdv ⟨Ps,Ps,Ps,Ps,Ps,Ps,Wk.sl _ _,trivial⟩)
open Go Go.Abs
structure bF where
 id:Int
 it:Int
 st:Int
 fr:Int
 i:Int
 re:Int
 al:List Sp
 nl:Bool
def Zr(e:bF):P2:=[I e.id,I e.it,I e.st,I e.fr,I e.i,I e.re,.sl (if e.nl then .nil else .ro) (e.al.map Qf)]
def Zy(p:Pl)(x:Int×Int):bF:=⟨0,p.fi,x.1,x.2,0,F2 p,[],true⟩
def zP(p:Pl)(e:En)(fr:Int):bF:=⟨e.id,e.it,fr,e.fr,0,evM p e fr,e.al.filter (nK p e fr),false⟩
def nL(p:Pl)(m:AM)(L:List bF):Prop:=1<m.boxes.length/\Qj m.boxes 0=Qa p/\∃rt,Qj m.boxes 1=[.sl rt (L.map Zr)]/\(L=[]/\rt=.nil\/L≠[]/\∃k,rt=.own k 7/\m.lens[k]?=some L.length)
def nL.XP{p:Pl}{m m':AM}{L:List bF}{O:Nat->Prop}(h:nL p m L)(e:bV O m m')(h0:¬O 0)(h1:¬O 1):nL p m' L:=by
 obtain⟨a1,a2,rt,a3,a4⟩:=h;obtain⟨e1,e2,⟨lx,e3⟩,_⟩:=e;refine⟨zE,by rw[e2 0 zE h0];exact a2,rt,by rw[e2 1 a1 h1];exact a3,?_⟩;obtain h|⟨hn,k,hk,hl⟩:=a4
 ·exact .inl h
 exact .inr ⟨hn,k,hk,by rw[e3,zzaj (zza.1 hl).1];exact hl⟩
def asE:SC:=(⟨_,by cbv⟩:JT [1,1,1,0,1,0,0,1,1,0,0,1,1,1,0,1,0] IM).1
def al2(Y:YT)(p:Pl)(a t:Int)(hl:p.aM.length<=1000000000)(hb: -1000000000<=a/\t<=1000000000)(hf:a<=1000000000/\ -1000000000<=t)(orc:UV)(ho:∀d l,orc d 999999 l=.junk)(E:QQ)(m:AM)(L:List bF)
  (hO:nL p m L)(hL:L.length+(Vq (Yf p) t a).length<=1000000000)(hg:Abs.look E 67=.fn 175 [] [.ep (Qa p) 0,.ep [I a] 0,.ep [I t] 0])(h7:Abs.look E 7=.ptr 1 0)(Q:R0)
  (hQ:∀m',nL p m' (L++(Vq (Yf p) t a).map (Zy p))->m.boxes.length<=m'.boxes.length->(∀j,2<=j->j<m.boxes.length->Qj m'.boxes j=Qj m.boxes j)->Q .normal ⟨Vw 98 E,m'⟩):vc Tryz.prog aD orc Y asE ⟨Vw 98 E,m⟩ Q:=by
 have cT:=xw p a t hl hb hf;generalize hX:Vq (Yf p) t a=xs at*
 unfold asE
 refine qR (xs:=xs.map (Qay p)) (by simp[hg];try exact⟨rfl,rfl⟩) cT (by intro x hx;simp at hx;obtain⟨u,v,_,rfl⟩:=hx;rfl)
  (fun O i mm=>(∀j,O j->m.boxes.length<=j)/\nL p mm (L++(xs.take i).map (Zy p))/\m.boxes.length<=mm.boxes.length/\(∀j,2<=j->j<m.boxes.length->Qj mm.boxes j=Qj m.boxes j)) (fun _ _ _=>False) ?_ ?_ (fun _ _ _ _ h=>h.elim) ?_ ?_ (fun _ _ _ h=>h.elim)
 ·exact⟨fun _ h=>h.elim,by rw[zzhd,zzcr,zzat];exact hO,zzab _,fun _ _ _=>rfl⟩
 ·rintro O i m1 m2 ⟨h1,h2,h3,h4⟩ e;have y6:=hO.1;refine⟨?_,h2.XP e (fun h=>by have:=h1 _ h;omega) (fun h=>by have:=h1 _ h;omega),zzbb h3 e.1,fun j j1 j2=>by rw[e.2.1 j zE (fun h=>by have:=h1 _ h;omega)];exact h4 j j1 j2⟩;rintro j (h|h)
  ·exact h1 j h
  omega
 ·rintro O l i mm x CX cm WT iE ⟨h1,h2,h3,h4⟩ hx K' q1 _ _;rw[zzbm,zzby]at hx;obtain⟨x,hx,rfl⟩:=hx;have iZ:=(zza.1 hx).1;have bA:L++(xs.take (i+1)).map (Zy p)=(L++(xs.take i).map (Zy p))++[Zy p x]:=by rw[zzax,hx];simp
  have hml:=hO.1;have aH:(L++(xs.take i).map (Zy p)).length<=1000000000:=by simp;omega
  obtain⟨o1,o2,rt,o3,o4⟩:=h2;simp only[Jm,NC]at o1 o2 o3 o4 h3 h4;have gY:∀y,Qj (mm.boxes++y) 1=[.sl rt ((L++(xs.take i).map (Zy p)).map Zr)]:=fun y=>by rw[Qn zE];exact o3
  have A0:∀y,Qj (mm.boxes++[y]) mm.boxes.length=y:=fun y=>by
   simp
  have fin:∀(T:P2)(v:P2)(row:P2)(ls:Pa)(st:Nat->LS)(ln:Nat),nL p ⟨(mm.boxes++[row]).set 1 v,ls,st,ln⟩ (L++(xs.take (i+1)).map (Zy p))->K' .normal ⟨T,⟨(mm.boxes++[row]).set 1 v,ls,st,ln⟩⟩:=by
   intro T v row ls st ln hv;refine q1 _ ⟨zd,fun j hj=>?_⟩ ⟨h1,hv,by simp;omega,fun j j1 j2=>?_⟩
   ·have:=(CX j hj).2;have:=h1 j hj;show Qj ((mm.boxes++[row]).set 1 v) j=_;rw[Vz _ zE,Qn zE]
   show Qj ((mm.boxes++[row]).set 1 v) j=_;rw[Vz _ zE,Qn zE];exact h4 j j1 j2
  have C7:∀(v row:P2),Qj ((mm.boxes++[row]).set 1 v) 0=Qa p/\Qj ((mm.boxes++[row]).set 1 v) 1=v:=fun v row=>⟨by rw[Vz _ zE,Qn zE];exact o2,Yg _ (by simp;omega)⟩;rw[bA]at fin;generalize L++(xs.take i).map (Zy p)=G at*
  have hG7:∀row∈G.map Zr,row.length=7:=by
   intro row h;obtain⟨e,_,rfl⟩:=zzb.1 h;rfl
  obtain⟨rfl,rfl⟩|⟨aN,k,rfl,hk⟩:=o4
  ·simp[iE,Zp,Qay,h7,gY,A0,ho];subst_vars;exact⟨zE,fin _ _ _ _ _ _ ⟨by simp;omega,(C7 _ _).1,_,(C7 _ _).2,.inr ⟨zd,_,rfl,zd⟩⟩⟩
  simp[iE,Zp,Qay,h7,gY,A0,ho];refine⟨⟨hk,?_,zE⟩,zE,fin _ _ _ _ _ _ ⟨by simp;omega,(C7 _ _).1,_,by rw[(C7 _ _).2];simp;rfl,.inr ⟨zd,k,rfl,by simp[(zza.1 hk).1]⟩⟩⟩;rintro row (⟨e,_,rfl⟩|rfl)<;>rfl
 rintro mm' mm ⟨h1,h2,h3,h4⟩;rw[zzbt,zzbw]at h2;exact hQ _ h2 h3 h4
def asF:SC:=(⟨_,by cbv⟩:JT [1,1,1,1,0,1,0] IM).1
def al3(Y:YT)(p:Pl)(a t:Int)(hl:p.aM.length<=1000000000)(hb: -1000000000<=a/\t<=1000000000)(hf:a<=1000000000/\ -1000000000<=t)(orc:UV)(ho:∀d l,orc d 999999 l=.junk)(E:QQ)(m:AM)(L:List bF)
  (hO:nL p m L)(hL:L.length+(Vq (Yf p) t a).length<=1000000000)(hg:Abs.look E 91=.fn 175 [] [.ep (Qa p) 0,.ep [I a] 0,.ep [I t] 0])(h7:Abs.look E 7=.ptr 1 0)(Q:R0)
  (hQ:∀m',nL p m' (L++(Vq (Yf p) t a).map (Zy p))->m.boxes.length<=m'.boxes.length->(∀j,2<=j->j<m.boxes.length->Qj m'.boxes j=Qj m.boxes j)->Q .normal ⟨Vw 98 E,m'⟩):vc Tryz.prog aD orc Y asF ⟨Vw 98 E,m⟩ Q:=by
 have cT:=xw p a t hl hb hf;generalize hX:Vq (Yf p) t a=xs at*
 unfold asF
 refine qR (xs:=xs.map (Qay p)) (by simp[hg];try exact⟨rfl,rfl⟩) cT (by intro x hx;simp at hx;obtain⟨u,v,_,rfl⟩:=hx;rfl)
  (fun O i mm=>(∀j,O j->m.boxes.length<=j)/\nL p mm (L++(xs.take i).map (Zy p))/\m.boxes.length<=mm.boxes.length/\(∀j,2<=j->j<m.boxes.length->Qj mm.boxes j=Qj m.boxes j)) (fun _ _ _=>False) ?_ ?_ (fun _ _ _ _ h=>h.elim) ?_ ?_ (fun _ _ _ h=>h.elim)
 ·exact⟨fun _ h=>h.elim,by rw[zzhd,zzcr,zzat];exact hO,zzab _,fun _ _ _=>rfl⟩
 ·rintro O i m1 m2 ⟨h1,h2,h3,h4⟩ e;have y6:=hO.1;refine⟨?_,h2.XP e (fun h=>by have:=h1 _ h;omega) (fun h=>by have:=h1 _ h;omega),zzbb h3 e.1,fun j j1 j2=>by rw[e.2.1 j zE (fun h=>by have:=h1 _ h;omega)];exact h4 j j1 j2⟩;rintro j (h|h)
  ·exact h1 j h
  omega
 ·rintro O l i mm x CX cm WT iE ⟨h1,h2,h3,h4⟩ hx K' q1 _ _;rw[zzbm,zzby]at hx;obtain⟨x,hx,rfl⟩:=hx;have iZ:=(zza.1 hx).1;have bA:L++(xs.take (i+1)).map (Zy p)=(L++(xs.take i).map (Zy p))++[Zy p x]:=by rw[zzax,hx];simp
  have hml:=hO.1;have aH:(L++(xs.take i).map (Zy p)).length<=1000000000:=by simp;omega
  obtain⟨o1,o2,rt,o3,o4⟩:=h2;simp only[Jm,NC]at o1 o2 o3 o4 h3 h4;have gY:∀y,Qj (mm.boxes++y) 1=[.sl rt ((L++(xs.take i).map (Zy p)).map Zr)]:=fun y=>by rw[Qn zE];exact o3
  have A0:∀y,Qj (mm.boxes++[y]) mm.boxes.length=y:=fun y=>by
   simp
  have fin:∀(T:P2)(v:P2)(row:P2)(ls:Pa)(st:Nat->LS)(ln:Nat),nL p ⟨(mm.boxes++[row]).set 1 v,ls,st,ln⟩ (L++(xs.take (i+1)).map (Zy p))->K' .normal ⟨T,⟨(mm.boxes++[row]).set 1 v,ls,st,ln⟩⟩:=by
   intro T v row ls st ln hv;refine q1 _ ⟨zd,fun j hj=>?_⟩ ⟨h1,hv,by simp;omega,fun j j1 j2=>?_⟩
   ·have:=(CX j hj).2;have:=h1 j hj;show Qj ((mm.boxes++[row]).set 1 v) j=_;rw[Vz _ zE,Qn zE]
   show Qj ((mm.boxes++[row]).set 1 v) j=_;rw[Vz _ zE,Qn zE];exact h4 j j1 j2
  have C7:∀(v row:P2),Qj ((mm.boxes++[row]).set 1 v) 0=Qa p/\Qj ((mm.boxes++[row]).set 1 v) 1=v:=fun v row=>⟨by rw[Vz _ zE,Qn zE];exact o2,Yg _ (by simp;omega)⟩;rw[bA]at fin;generalize L++(xs.take i).map (Zy p)=G at*
  have hG7:∀row∈G.map Zr,row.length=7:=by
   intro row h;obtain⟨e,_,rfl⟩:=zzb.1 h;rfl
  obtain⟨rfl,rfl⟩|⟨aN,k,rfl,hk⟩:=o4
  ·simp[iE,Zp,Qay,h7,gY,A0,ho];subst_vars;exact⟨zE,fin _ _ _ _ _ _ ⟨by simp;omega,(C7 _ _).1,_,(C7 _ _).2,.inr ⟨zd,_,rfl,zd⟩⟩⟩
  simp[iE,Zp,Qay,h7,gY,A0,ho];refine⟨⟨hk,?_,zE⟩,zE,fin _ _ _ _ _ _ ⟨by simp;omega,(C7 _ _).1,_,by rw[(C7 _ _).2];simp;rfl,.inr ⟨zd,k,rfl,by simp[(zza.1 hk).1]⟩⟩⟩;rintro row (⟨e,_,rfl⟩|rfl)<;>rfl
 rintro mm' mm ⟨h1,h2,h3,h4⟩;rw[zzbt,zzbw]at h2;exact hQ _ h2 h3 h4
def A9(fr t:Int):∀(n:Nat)(a:Int),(t-a).toNat<=n->((Vq fr t a).length:Int)<=max 0 (t-a):=by
 intro n;induction n with
 |zero=>intro a h;rw[Vq,if_neg zE];simp only[zzcn];omega
 |succ n ih=>
  intro a h;rw[Vq];split
  ·rename_i ai;have hN:1<=Ub fr t a/\Ub fr t a<=t-a:=by unfold Ub;split<;>omega
   have:=ih (a+Ub fr t a) zE;simp only[zzbg];omega
  simp only[zzcn];omega
def nL.app{p:Pl}{m:AM}{L:List bF}(h:nL p m L)(x:T5):nL p ⟨m.boxes++x,m.lens,m.st,m.ln⟩ L:=by
 obtain⟨a1,a2,rt,a3,a4⟩:=h;exact⟨by simp;omega,by show Qj (m.boxes++x) 0=_;rw[Qn zE];exact a2,rt,by show Qj (m.boxes++x) 1=_;rw[Qn zE];exact a3,a4⟩
open Go Go.Abs
def jJ(p:Pl)(s:Sp)(at_:Int):Option En:=match Za s.1 p.ens with
 |some e=>if s.1=0\/e.fr<1\/s.2<at_\/p.ln-s.2<e.fr then none else some e
 |none=>none
def Kv(p:Pl):List Sp->Int->List bF
 |[],at_=>(Vq (Yf p) p.ln at_).map (Zy p)
 |s::r,at_=>match jJ p s at_ with
  |none=>Kv p r at_
  |some e=>((Vq (Yf p) s.2 at_).map (Zy p)++[zP p e s.2])++Kv p r (s.2+e.fr)
def y7(p:Pl)(l:List Sp)(at_:Int):List bF:=if at_<0\/p.ln<at_ then[]else Kv p l at_
def pH(p:Pl):UV:=fun d f l=>
 if f=999999 then .junk else
 if f=29 then(match l with|[_,.int _ n]=>Wx (Za n p.ens)|_=>.junk)else
 if f=122 then(match l with|[_,.int _ a,.int _ t]=>.fn 175 [] [.ep (Qa p) 0,.ep [I a] 0,.ep [I t] 0]|_=>.junk)else
 if f=123 then(match l with|[_,.agg [.int _ a,.int _ b,.int _ c,.int _ d,.int _ e,.int _ g,.sl _ rows],.int _ fr]=>aeo p ⟨a,b,c,d,e,g,rows.map qY⟩ fr|_=>.junk)else .gd false .junk
def jK{id:Int}{x:En}:∀{l:List En},Za id l=some x->x∈l/\x.id=id
 |[],h=>by cases h
 |y::r,h=>by
  simp only[Za]at h;split at h
  ·rename_i hy;cases h;exact⟨zd,hy⟩
  obtain⟨h1,h2⟩:=jK h;exact⟨by simp[h1],h2⟩
def KJ(p:Pl)(l:List Sp)(F3:Int)(hc:p.cls.length<=1000000)(fu:p.sh.length<=1000000000)(cT:p.aM.length<=1000000000)(Io:p.ens.length<=1000000000)(fP:∀e∈p.ens,e.al.length<=8796093022208)
  (dG:p.ln<=1000000)(hl:l.length<=1000000)(lW:∀s∈l,-1000000000<=s.2/\s.2<=1000000000):∃rt,Pure Tryz.prog aD 67 [.agg (Qa p),.sl .ro (l.map Qf),I F3] (.sl rt ((y7 p l F3).map Zr)):=by
 by_cases c0:F3<0\/p.ln<F3
 ·refine⟨.nil,Qp S7 (pH p) zd ?_⟩;rw[y7,if_pos c0];by_cases c1:F3<0
  ·simp[IM,S6,Qa,c1]
  have c2:p.ln<F3:=zE
  simp[IM,S6,Qa,c1,c2]
 refine⟨if Kv p l F3=[]then .nil else .ro,Qp S7 (pH p) zd ?_⟩;rw[y7,if_neg c0];simp only[not_or]at c0;have c1:¬F3<0:=c0.1;have c2:¬p.ln<F3:=c0.2;simp[IM,Qa,c1,c2];refine Qk ou (fun f mm=>∃(i:Nat)(at_:Int)(L:List bF),f 24=I i/\f 2=I at_/\i<=l.length/\nL p mm L/\0<=at_/\at_<=p.ln/\(L.length:Int)<=at_/\L++Kv p (l.drop i) at_=Kv p l F3) (fun f _=>l.length-(numOf (f 24)).toNat) ?_ ?_
 ·exact⟨0,F3,[],zd,zd,zE,⟨zd,by simp[Qa],.nil,zd,.inl ⟨rfl,rfl⟩⟩,zE,zE,by simp;omega,zd⟩
 rintro f mm ⟨i,at_,L,h24,h2,hi,hO,a1,a2,a3,hI⟩;rcases zzaa i l.length with ai|bn
 ·obtain⟨s,hs⟩:=aV ai;have ah:=Zv hs;have hsb:=lW s (zzad hs);have aa:(i:Int)<(l.length:Int):=zE
  have hw:=bO i zE;have fE:IntKind.i64.wrap (p.ln-s.2)=p.ln-s.2:=by rw[Ql]<;>omega
  rw[Ze hs,Kv]at hI;have y8:=KK p s.1 Io fP;have hO':=hO;obtain⟨o1,o2,rt,o3,o4⟩:=hO';have r0:∀y,Qj (mm.boxes++y) 0=Qa p:=fun y=>by rw[Qn zE];exact o2
  have r1:∀y,Qj (mm.boxes++y) 1=[.sl rt (L.map Zr)]:=fun y=>by rw[Qn o1];exact o3
  simp only[Qa]at r0;cases hf:Za s.1 p.ens with
  |none=>
   simp only[jJ,hf]at hI;rw[hf]at y8;by_cases c3:s.1=0
   ·rw[c3]at hf y8;simp[h24,h2,ou,ai,aa,ah,r0,r1,pH,hf,Wx,hw,c3];refine⟨y8,aQ,⟨i+1,zd,zE,L,hO.app _,a1,a2,a3,hI⟩,zE⟩
   simp[h24,h2,ou,ai,aa,ah,r0,r1,pH,hf,Wx,hw,c3];refine⟨y8,aQ,⟨i+1,zd,zE,L,hO.app _,a1,a2,a3,hI⟩,zE⟩
  |some e=>
   rw[hf]at y8;simp only[jJ,hf]at hI;by_cases c3:s.1=0
   ·rw[if_pos (.inl c3)]at hI;rw[c3]at hf y8;simp[h24,h2,ou,ai,aa,ah,r0,r1,pH,hf,Wx,Qd,hw,c3];refine⟨y8,aQ,⟨i+1,zd,zE,L,hO.app _,a1,a2,a3,hI⟩,zE⟩
   by_cases c4:e.fr<1
   ·rw[if_pos (.inr (.inl c4))]at hI;simp[h24,h2,ou,ai,aa,ah,r0,r1,pH,hf,Wx,Qd,hw,c3,c4];refine⟨y8,aQ,⟨i+1,zd,zE,L,hO.app _,a1,a2,a3,hI⟩,zE⟩
   by_cases c5:s.2<at_
   ·rw[if_pos (.inr (.inr (.inl c5)))]at hI;simp[h24,h2,ou,ai,aa,ah,r0,r1,pH,hf,Wx,Qd,hw,c3,c4,c5];refine⟨y8,aQ,⟨i+1,zd,zE,L,hO.app _,a1,a2,a3,hI⟩,zE⟩
   by_cases c6:p.ln-s.2<e.fr
   ·rw[if_pos (.inr (.inr (.inr c6)))]at hI;simp[h24,h2,ou,ai,aa,ah,r0,r1,pH,hf,Wx,Qd,hw,fE,c3,c4,c5,c6];refine⟨y8,aQ,⟨i+1,zd,zE,L,hO.app _,a1,a2,a3,hI⟩,zE⟩
   rw[if_neg zE]at hI;simp[h24,h2,ou,ai,aa,ah,r0,r1,pH,hf,Wx,Qd,hw,fE,c3,c4,c5,c6];have k31:=xx p at_ s.2;have fB:=A9 (Yf p) s.2 _ at_ (zzab _);refine⟨y8,k31,?_⟩;refine al2 Y0 p at_ s.2 cT zE zE (pH p) (fun _ _=>rfl) _ _ L (hO.app _) zE zd zd _ ?_;intro m' F4 cm ee
   have Rs:Qj m'.boxes mm.boxes.length=[I s.1,I s.2]:=by
    rw[ee _ zE zd];simp
   have Re:Qj m'.boxes (mm.boxes.length+1)=Qd e:=by
    rw[ee _ zE zd];simp[Qd]
   simp only[Qd]at Re;obtain⟨p1,p2,Sb,p3,p4⟩:=F4;have p2':=p2;have b1:∀v,Qj (m'.boxes.set 1 v) 1=v:=fun v=>Yg v p1;have b0:∀v,Qj (m'.boxes.set 1 v) 0=Qa p:=fun v=>by rw[Vz v zE];exact p2
   have bs:∀v,Qj (m'.boxes.set 1 v) mm.boxes.length=[I s.1,I s.2]:=fun v=>by rw[Vz v zE];exact Rs
   have be:∀v,Qj (m'.boxes.set 1 v) (mm.boxes.length+1)=[I e.id,I e.it,I e.fr,I e.ea,I e.la,I e.bo,.sl .ro (e.al.map Qf)]:=fun v=>by rw[Vz v zE];exact Re
   simp only[Qa]at p2';have hG:((L++(Vq (Yf p) s.2 at_).map (Zy p)).length:Int)<=s.2:=by simp;omega
   have hI2:(L++(Vq (Yf p) s.2 at_).map (Zy p)++[zP p e s.2])++Kv p (l.drop (i+1)) (s.2+e.fr)=Kv p l F3:=by rw[<- hI];simp
   generalize L++(Vq (Yf p) s.2 at_).map (Zy p)=G at*
   have k32:=KI p e s.2 hc fu cT (fP e (jK hf).1);have Sm:IntKind.i64.wrap (s.2+e.fr)=s.2+e.fr:=by rw[Ql]<;>omega
   obtain⟨g1,rfl⟩|⟨g1,k,rfl,hk⟩:=p4
   ·subst g1;simp[h24,p2',p3,Rs,Re,b1,bs,be,p1,pH,aeo,Im,hw,Sm];rw[zzai]at hI2;refine⟨k32,aQ,⟨i+1,zd,zE,[zP p e s.2],⟨by simp;omega,b0 _,_,b1 _,.inr ⟨zd,_,rfl,zd⟩⟩,zE,zE,by simp;omega,hI2⟩,zE⟩
   simp[h24,p2',p3,Rs,Re,b1,bs,be,p1,pH,aeo,Im,hw,Sm];refine⟨k32,⟨hk,by rintro row (⟨a,_,rfl⟩|rfl)<;>rfl,zE⟩,ag ?_,⟨i+1,zd,zE,G++[zP p e s.2],⟨by simp;omega,b0 _,_,by rw[b1];simp[Zr,zP],.inr ⟨zd,k,rfl,by simp[(zza.1 hk).1]⟩⟩,zE,zE,by simp;omega,hI2⟩,zE⟩;repeat(first|exact Qb _ _|refine Qc _ rfl ?_)
 obtain rfl:i=l.length:=zE
 have k31:=xx p at_ p.ln;have fB:=A9 (Yf p) p.ln _ at_ (zzab _);rw[zzbx,Kv]at hI;obtain⟨o1,o2,rt,o3,o4⟩:=id hO;simp only[Qa]at o2;simp[h24,h2,ou,o2,pH];refine⟨k31,?_⟩;refine al3 Y0 p at_ p.ln cT zE zE (pH p) (fun _ _=>rfl) _ _ L hO zE zd zd _ ?_;intro m' F4 cm ee;rw[hI]at F4;obtain⟨p1,p2,Sb,p3,p4⟩:=F4;generalize Kv p l F3=G at*
 obtain⟨g1,rfl⟩|⟨g1,k,rfl,hk⟩:=p4
 ·subst g1;simp[p3,p1,S6]
 simp[p3,p1,S6,g1]
def Qe(e:bF):P2:=[I e.id,I e.it,I e.st,I e.fr,I e.i,I e.re,.sl .ro (e.al.map Qf)]
def KL(L:List bF):Wk (.sl .ro (L.map Zr)) (.sl .ro (L.map Qe)):=by
 refine Wk.rows L Zr Qe (fun _=>rfl) fun a j c' h=>?_
 match j,h with
 |0,h=>exact⟨_,rfl,by cases h;exact Ps⟩
 |1,h=>exact⟨_,rfl,by cases h;exact Ps⟩
 |2,h=>exact⟨_,rfl,by cases h;exact Ps⟩
 |3,h=>exact⟨_,rfl,by cases h;exact Ps⟩
 |4,h=>exact⟨_,rfl,by cases h;exact Ps⟩
 |5,h=>exact⟨_,rfl,by cases h;exact Ps⟩
 |6,h=>exact⟨_,rfl,by cases h;exact Wk.sl _ _⟩
 |j+7,h=>simp[Qe]at h
def Wk.trans{a b c:AV}(h:Wk a b)(k:Wk b c):Wk a c:=fun w γ v hr=>k w γ v (h w γ v hr)
def sK(p:Pl)(l:List Sp)(F3:Int)(hc:p.cls.length<=1000000)(fu:p.sh.length<=1000000000)(cT:p.aM.length<=1000000000)(Io:p.ens.length<=1000000000)(fP:∀e∈p.ens,e.al.length<=8796093022208)
  (dG:p.ln<=1000000)(hl:l.length<=1000000)(lW:∀s∈l,-1000000000<=s.2/\s.2<=1000000000):Pure Tryz.prog aD 67 [.agg (Qa p),.sl .ro (l.map Qf),I F3] (.sl .ro ((y7 p l F3).map Qe)):=by
 obtain⟨rt,h⟩:=KJ p l F3 hc fu cT Io fP dG hl lW;exact Zk h (Wk.trans (Wk.sl _ _) (KL _))
end
