import Derived.Test.YthjppoincojfkaaGreatDoorRSScB
set_option linter.all false
set_option maxRecDepth 100000
set_option maxHeartbeats 64000000
namespace Go.Proofs.YthjppoincojfkaaGreatDoor
noncomputable section
open Go Go.Abs
def pO(p:Pl)(e:En)(fr:Int)(s:Sp):Bool:=decide (1<=s.1)&&decide (s.1<p.rg)&&Xt p s.2 s.1 fr e.fr
def evM(p:Pl)(e:En)(fr:Int):Int:=Uq (fun i=>Xt p e.it i fr e.fr) (min p.rg 8).toNat
def II(p:Pl)(e:En)(fr:Int)(rt:Rt)(l:List Sp):P2:=[I e.id,I e.it,I fr,I e.fr,I 0,I (evM p e fr),.sl rt (l.map Qe)]
def Q6(p:Pl)(e:En)(fr:Int)(i:Nat):List Sp:=(e.al.take i).filter (pO p e fr)
def Gx(p:Pl)(e:En)(fr:Int)(hc:p.cls.length<=1000000)(fE:p.sh.length<=1000000000)(cT:p.aN.length<=1000000000)(fO:e.al.length<=8796093022208):
  ∃rt,Pure Tryz.prog aD 123 [.agg (Qa p),.agg (Qd e),I fr] (.agg (II p e fr rt (e.al.filter (pO p e fr)))):=by
 refine⟨if e.al.filter (pO p e fr)=[]then .nil else .ro,Qp ab5 (fun _ _ _=>.gd false .junk) zd ?_⟩;simp[TN,Qa,Qd];refine sP Y0 p 179 [.ptr 4 0,.ptr 1 0] (fun i=>Xt p e.it i fr e.fr) _ _ ?_ fun bx=>?_
 ·rintro i mm _ _ ⟨bx,rfl⟩ K' h;exact XZ Y0 p e i fr _ 0 2 1 4 hc fE cT (by simp[Qa]) zd (by simp[Qd]) zd K' h
 have hM:Uq (fun i=>Xt p e.it i fr e.fr) (min p.rg 8).toNat=evM p e fr:=rfl;simp[hM]
 refine Qi qx (fun f mm=>∃(i:Nat)(bx:T5)(Lm:Pa)(rt:Rt),f 27=I i/\i<=e.al.length/\mm=⟨Qa p::Qd e::[I fr]::[I 0,I 0,I 0,I 0,I 0,I 0,.sl .nil []]::[.fn 178 [] [.ptr 0 0,.ptr 2 0,.ptr 1 0]]::II p e fr rt (Q6 p e fr i)::bx,Lm,fun _=>.gone,0⟩/\
  (Q6 p e fr i=[]/\rt=.nil\/Q6 p e fr i≠[]/\∃k,rt=.own k 2/\Lm[k]?=some (Q6 p e fr i).length)) (fun f _=>e.al.length-(numOf (f 27)).toNat) ?_ ?_
 ·refine⟨0,bx,[],.nil,zd,zE,?_,.inl ⟨by simp[Q6],rfl⟩⟩;simp[Qa,Qd,II,Q6]
 rintro f mm ⟨i,bx,Lm,rt,h27,hi,rfl,aX⟩;rcases zzaa i e.al.length with ah|bq
 ·obtain⟨x,hx⟩:=aV ah;have ai:=Zw hx;have aa:(i:Int)<(e.al.length:Int):=zE
  have hw:=bO i zE
  have bB:Q6 p e fr (i+1)=Q6 p e fr i++if pO p e fr x then[x]else[]:=by
   unfold Q6;rw[zzb,hx,zzde];simp only[Option.toList,zzcx,List.filter_nil]
  generalize hG:Q6 p e fr i=G at*
  by_cases c1:1<=x.1
  ·by_cases c2:x.1<p.rg
   ·have hpm:=fun mm h1 h2 h3=>F7 Y0 p e x.2 x.1 fr mm 0 2 1 hc fE cT h1 h2 h3;simp[h27,Qa,Qd,II,ai,aa,ah,qx,c1,c2,hw];have hGl:G.length<=i:=by rw[<- hG];unfold Q6;exact zzbc (zzcc _ _) (by rw[zzaq];omega)
    refine hpm _ rfl rfl rfl _ ?_;have hA:pO p e fr x=Xt p x.2 x.1 fr e.fr:=by simp[pO,c1,c2]
    rw[hA]at bB;cases hb:Xt p x.2 x.1 fr e.fr with
    |false=>
     rw[hb]at bB;simp only[zzbh,if_false,zzar]at bB;simp[hw];refine⟨aQ,⟨i+1,zE,zE,bx++[[I x.1,I x.2]],Lm,rt,by rw[bB];simp[Qa,Qd,II],by rw[bB];exact aX⟩,zE⟩
    |true=>
     rw[hb]at bB;simp only[if_true]at bB;obtain⟨h1,rfl⟩|⟨h1,k,rfl,hk⟩:=aX
     ·subst h1;simp only[zzai]at bB;simp[hw];refine⟨aQ,⟨i+1,zE,zE,bx++[[I x.1,I x.2]],Lm++[1],.own Lm.length 2,by rw[bB];simp[Qa,Qd,II,Qe],by rw[bB];exact .inr ⟨zd,_,rfl,zd⟩⟩,zE⟩
     simp[hw,hk];refine⟨⟨by rintro row (⟨a,b,_,rfl⟩|rfl)<;>rfl,zE⟩,ag ?_,⟨i+1,zE,zE,bx++[[I x.1,I x.2]],Lm.set k (G.length+1),.own k 2,by rw[bB];simp[Qa,Qd,II,Qe],by rw[bB];exact .inr ⟨zd,_,rfl,by rw[zzbg ((zza.1 hk).1)];simp⟩⟩,zE⟩;repeat(first|exact Qb _ _|refine Qc _ rfl ?_)
   have hA:pO p e fr x=false:=by simp[pO,c2]
   simp[h27,Qa,Qd,II,ai,aa,ah,qx,c1,c2,hw];rw[hA]at bB;simp only[zzbh,if_false,zzar]at bB;refine⟨aQ,⟨i+1,zE,zE,bx++[[I x.1,I x.2]],Lm,rt,by rw[bB];simp[Qa,Qd,II],by rw[bB];exact aX⟩,zE⟩
  have hA:pO p e fr x=false:=by simp[pO,c1]
  simp[h27,Qa,Qd,II,ai,aa,ah,qx,c1,hw];rw[hA]at bB;simp only[zzbh,if_false,zzar]at bB;refine⟨aQ,⟨i+1,zE,zE,bx++[[I x.1,I x.2]],Lm,rt,by rw[bB];simp[Qa,Qd,II],by rw[bB];exact aX⟩,zE⟩
 obtain rfl:i=e.al.length:=zE
 have hE:Q6 p e fr e.al.length=e.al.filter (pO p e fr):=by simp[Q6]
 rw[hE]at aX;generalize e.al.filter (pO p e fr)=G at*
 obtain⟨h1,rfl⟩|⟨h1,k,rfl,hk⟩:=aX
 ·simp[h27,Qa,Qd,II,qx,TO,h1,hE]
 simp[h27,Qa,Qd,II,qx,TO,h1,hE]
def aeN(p:Pl)(e:En)(fr:Int):AV:=.agg (II p e fr .ro (e.al.filter (pO p e fr)))
def K6(p:Pl)(e:En)(fr:Int)(hc:p.cls.length<=1000000)(fE:p.sh.length<=1000000000)(cT:p.aN.length<=1000000000)(fO:e.al.length<=8796093022208):
  Pure Tryz.prog aD 123 [.agg (Qa p),.agg (Qd e),I fr] (aeN p e fr):=by
 obtain⟨rt,h⟩:=Gx p e fr hc fE cT fO;exact Zh h (jN ⟨Ps,Ps,Ps,Ps,Ps,Ps,Wk.sl _ _,trivial⟩)
open Go Go.Abs
structure bn where
 id:Int
 it:Int
 st:Int
 fr:Int
 i:Int
 re:Int
 al:List Sp
 nl:Bool
def Zu(e:bn):P2:=[I e.id,I e.it,I e.st,I e.fr,I e.i,I e.re,.sl (if e.nl then .nil else .ro) (e.al.map Qe)]
def Vd(p:Pl)(x:Int×Int):bn:=⟨0,p.fi,x.1,x.2,0,F6 p,[],true⟩
def pP(p:Pl)(e:En)(fr:Int):bn:=⟨e.id,e.it,fr,e.fr,0,evM p e fr,e.al.filter (pO p e fr),false⟩
def nM(p:Pl)(m:AM)(L:List bn):Prop:=1<m.boxes.length/\Qh m.boxes 0=Qa p/\∃rt,Qh m.boxes 1=[.sl rt (L.map Zu)]/\(L=[]/\rt=.nil\/L≠[]/\∃k,rt=.own k 7/\m.lens[k]?=some L.length)
def nM.XP{p:Pl}{m m':AM}{L:List bn}{O:Nat->Prop}(h:nM p m L)(e:bU O m m')(h0:¬O 0)(h1:¬O 1):nM p m' L:=by
 obtain⟨a1,a2,rt,a3,a4⟩:=h;obtain⟨e1,e2,⟨lx,e3⟩,_⟩:=e;refine⟨zE,by rw[e2 0 zE h0];exact a2,rt,by rw[e2 1 a1 h1];exact a3,?_⟩;obtain h|⟨hn,k,hk,hl⟩:=a4
 ·exact .inl h
 exact .inr ⟨hn,k,hk,by rw[e3,zzaj (zza.1 hl).1];exact hl⟩
def asc:SC:=(⟨_,by cbv⟩:J5 [1,1,1,0,1,0,0,1,1,0,0,1,1,1,0,1,0] I1).1
def alX(Y:YT)(p:Pl)(a t:Int)(hl:p.aN.length<=1000000000)(hb: -1000000000<=a/\t<=1000000000)(hf:a<=1000000000/\ -1000000000<=t)(orc:UV)(ho:∀d l,orc d 999999 l=.junk)(E:QQ)(m:AM)(L:List bn)
  (hO:nM p m L)(hL:L.length+(Vp (Ye p) t a).length<=1000000000)(hg:Abs.look E 67=.fn 175 [] [.ep (Qa p) 0,.ep [I a] 0,.ep [I t] 0])(h7:Abs.look E 7=.ptr 1 0)(Q:R0)
  (hQ:∀m',nM p m' (L++(Vp (Ye p) t a).map (Vd p))->m.boxes.length<=m'.boxes.length->(∀j,2<=j->j<m.boxes.length->Qh m'.boxes j=Qh m.boxes j)->Q .normal ⟨Vx 98 E,m'⟩):vc Tryz.prog aD orc Y asc ⟨Vx 98 E,m⟩ Q:=by
 have cT:=xG p a t hl hb hf;generalize hX:Vp (Ye p) t a=xs at*
 unfold asc
 refine rf (xs:=xs.map (Qbc p)) (by simp[hg];try exact⟨rfl,rfl⟩) cT (by intro x hx;simp at hx;obtain⟨u,v,_,rfl⟩:=hx;rfl)
  (fun O i mm=>(∀j,O j->m.boxes.length<=j)/\nM p mm (L++(xs.take i).map (Vd p))/\m.boxes.length<=mm.boxes.length/\(∀j,2<=j->j<m.boxes.length->Qh mm.boxes j=Qh m.boxes j)) (fun _ _ _=>False) ?_ ?_ (fun _ _ _ _ h=>h.elim) ?_ ?_ (fun _ _ _ h=>h.elim)
 ·exact⟨fun _ h=>h.elim,by rw[zzha,zzcs,zzar];exact hO,zzab _,fun _ _ _=>rfl⟩
 ·rintro O i m1 m2 ⟨h1,h2,h3,h4⟩ e;have zm:=hO.1;refine⟨?_,h2.XP e (fun h=>by have:=h1 _ h;omega) (fun h=>by have:=h1 _ h;omega),zzbc h3 e.1,fun j j1 j2=>by rw[e.2.1 j zE (fun h=>by have:=h1 _ h;omega)];exact h4 j j1 j2⟩;rintro j (h|h)
  ·exact h1 j h
  omega
 ·rintro O l i mm x C7 cE WW iM ⟨h1,h2,h3,h4⟩ hx K' q1 _ _;rw[zzbm,zzc]at hx;obtain⟨x,hx,rfl⟩:=hx;have je:=(zza.1 hx).1;have bB:L++(xs.take (i+1)).map (Vd p)=(L++(xs.take i).map (Vd p))++[Vd p x]:=by rw[zzb,hx];simp
  have hml:=hO.1;have aH:(L++(xs.take i).map (Vd p)).length<=1000000000:=by simp;omega
  obtain⟨o1,o2,rt,o3,o4⟩:=h2;simp only[Jm,Oi]at o1 o2 o3 o4 h3 h4;have iq:∀y,Qh (mm.boxes++y) 1=[.sl rt ((L++(xs.take i).map (Vd p)).map Zu)]:=fun y=>by rw[Qn zE];exact o3
  have A7:∀y,Qh (mm.boxes++[y]) mm.boxes.length=y:=fun y=>by
   simp
  have fin:∀(T:P2)(v:P2)(row:P2)(ls:Pa)(st:Nat->LS)(ln:Nat),nM p ⟨(mm.boxes++[row]).set 1 v,ls,st,ln⟩ (L++(xs.take (i+1)).map (Vd p))->K' .normal ⟨T,⟨(mm.boxes++[row]).set 1 v,ls,st,ln⟩⟩:=by
   intro T v row ls st ln hv;refine q1 _ ⟨zd,fun j hj=>?_⟩ ⟨h1,hv,by simp;omega,fun j j1 j2=>?_⟩
   ·have:=(C7 j hj).2;have:=h1 j hj;show Qh ((mm.boxes++[row]).set 1 v) j=_;rw[Ya _ zE,Qn zE]
   show Qh ((mm.boxes++[row]).set 1 v) j=_;rw[Ya _ zE,Qn zE];exact h4 j j1 j2
  have Dl:∀(v row:P2),Qh ((mm.boxes++[row]).set 1 v) 0=Qa p/\Qh ((mm.boxes++[row]).set 1 v) 1=v:=fun v row=>⟨by rw[Ya _ zE,Qn zE];exact o2,Yf _ (by simp;omega)⟩;rw[bB]at fin;generalize L++(xs.take i).map (Vd p)=G at*
  have hG7:∀row∈G.map Zu,row.length=7:=by
   intro row h;obtain⟨e,_,rfl⟩:=zzav.1 h;rfl
  obtain⟨rfl,rfl⟩|⟨aO,k,rfl,hk⟩:=o4
  ·simp[iM,Zr,Qbc,h7,iq,A7,ho];subst_vars;exact⟨zE,fin _ _ _ _ _ _ ⟨by simp;omega,(Dl _ _).1,_,(Dl _ _).2,.inr ⟨zd,_,rfl,zd⟩⟩⟩
  simp[iM,Zr,Qbc,h7,iq,A7,ho];refine⟨⟨hk,?_,zE⟩,zE,fin _ _ _ _ _ _ ⟨by simp;omega,(Dl _ _).1,_,by rw[(Dl _ _).2];simp;rfl,.inr ⟨zd,k,rfl,by simp[(zza.1 hk).1]⟩⟩⟩;rintro row (⟨e,_,rfl⟩|rfl)<;>rfl
 rintro mm' mm ⟨h1,h2,h3,h4⟩;rw[zzbv,zzbu]at h2;exact hQ _ h2 h3 h4
def asd:SC:=(⟨_,by cbv⟩:J5 [1,1,1,1,0,1,0] I1).1
def alY(Y:YT)(p:Pl)(a t:Int)(hl:p.aN.length<=1000000000)(hb: -1000000000<=a/\t<=1000000000)(hf:a<=1000000000/\ -1000000000<=t)(orc:UV)(ho:∀d l,orc d 999999 l=.junk)(E:QQ)(m:AM)(L:List bn)
  (hO:nM p m L)(hL:L.length+(Vp (Ye p) t a).length<=1000000000)(hg:Abs.look E 91=.fn 175 [] [.ep (Qa p) 0,.ep [I a] 0,.ep [I t] 0])(h7:Abs.look E 7=.ptr 1 0)(Q:R0)
  (hQ:∀m',nM p m' (L++(Vp (Ye p) t a).map (Vd p))->m.boxes.length<=m'.boxes.length->(∀j,2<=j->j<m.boxes.length->Qh m'.boxes j=Qh m.boxes j)->Q .normal ⟨Vx 98 E,m'⟩):vc Tryz.prog aD orc Y asd ⟨Vx 98 E,m⟩ Q:=by
 have cT:=xG p a t hl hb hf;generalize hX:Vp (Ye p) t a=xs at*
 unfold asd
 refine rf (xs:=xs.map (Qbc p)) (by simp[hg];try exact⟨rfl,rfl⟩) cT (by intro x hx;simp at hx;obtain⟨u,v,_,rfl⟩:=hx;rfl)
  (fun O i mm=>(∀j,O j->m.boxes.length<=j)/\nM p mm (L++(xs.take i).map (Vd p))/\m.boxes.length<=mm.boxes.length/\(∀j,2<=j->j<m.boxes.length->Qh mm.boxes j=Qh m.boxes j)) (fun _ _ _=>False) ?_ ?_ (fun _ _ _ _ h=>h.elim) ?_ ?_ (fun _ _ _ h=>h.elim)
 ·exact⟨fun _ h=>h.elim,by rw[zzha,zzcs,zzar];exact hO,zzab _,fun _ _ _=>rfl⟩
 ·rintro O i m1 m2 ⟨h1,h2,h3,h4⟩ e;have zm:=hO.1;refine⟨?_,h2.XP e (fun h=>by have:=h1 _ h;omega) (fun h=>by have:=h1 _ h;omega),zzbc h3 e.1,fun j j1 j2=>by rw[e.2.1 j zE (fun h=>by have:=h1 _ h;omega)];exact h4 j j1 j2⟩;rintro j (h|h)
  ·exact h1 j h
  omega
 ·rintro O l i mm x C7 cE WW iM ⟨h1,h2,h3,h4⟩ hx K' q1 _ _;rw[zzbm,zzc]at hx;obtain⟨x,hx,rfl⟩:=hx;have je:=(zza.1 hx).1;have bB:L++(xs.take (i+1)).map (Vd p)=(L++(xs.take i).map (Vd p))++[Vd p x]:=by rw[zzb,hx];simp
  have hml:=hO.1;have aH:(L++(xs.take i).map (Vd p)).length<=1000000000:=by simp;omega
  obtain⟨o1,o2,rt,o3,o4⟩:=h2;simp only[Jm,Oi]at o1 o2 o3 o4 h3 h4;have iq:∀y,Qh (mm.boxes++y) 1=[.sl rt ((L++(xs.take i).map (Vd p)).map Zu)]:=fun y=>by rw[Qn zE];exact o3
  have A7:∀y,Qh (mm.boxes++[y]) mm.boxes.length=y:=fun y=>by
   simp
  have fin:∀(T:P2)(v:P2)(row:P2)(ls:Pa)(st:Nat->LS)(ln:Nat),nM p ⟨(mm.boxes++[row]).set 1 v,ls,st,ln⟩ (L++(xs.take (i+1)).map (Vd p))->K' .normal ⟨T,⟨(mm.boxes++[row]).set 1 v,ls,st,ln⟩⟩:=by
   intro T v row ls st ln hv;refine q1 _ ⟨zd,fun j hj=>?_⟩ ⟨h1,hv,by simp;omega,fun j j1 j2=>?_⟩
   ·have:=(C7 j hj).2;have:=h1 j hj;show Qh ((mm.boxes++[row]).set 1 v) j=_;rw[Ya _ zE,Qn zE]
   show Qh ((mm.boxes++[row]).set 1 v) j=_;rw[Ya _ zE,Qn zE];exact h4 j j1 j2
  have Dl:∀(v row:P2),Qh ((mm.boxes++[row]).set 1 v) 0=Qa p/\Qh ((mm.boxes++[row]).set 1 v) 1=v:=fun v row=>⟨by rw[Ya _ zE,Qn zE];exact o2,Yf _ (by simp;omega)⟩;rw[bB]at fin;generalize L++(xs.take i).map (Vd p)=G at*
  have hG7:∀row∈G.map Zu,row.length=7:=by
   intro row h;obtain⟨e,_,rfl⟩:=zzav.1 h;rfl
  obtain⟨rfl,rfl⟩|⟨aO,k,rfl,hk⟩:=o4
  ·simp[iM,Zr,Qbc,h7,iq,A7,ho];subst_vars;exact⟨zE,fin _ _ _ _ _ _ ⟨by simp;omega,(Dl _ _).1,_,(Dl _ _).2,.inr ⟨zd,_,rfl,zd⟩⟩⟩
  simp[iM,Zr,Qbc,h7,iq,A7,ho];refine⟨⟨hk,?_,zE⟩,zE,fin _ _ _ _ _ _ ⟨by simp;omega,(Dl _ _).1,_,by rw[(Dl _ _).2];simp;rfl,.inr ⟨zd,k,rfl,by simp[(zza.1 hk).1]⟩⟩⟩;rintro row (⟨e,_,rfl⟩|rfl)<;>rfl
 rintro mm' mm ⟨h1,h2,h3,h4⟩;rw[zzbv,zzbu]at h2;exact hQ _ h2 h3 h4
def Bp(fr t:Int):∀(n:Nat)(a:Int),(t-a).toNat<=n->((Vp fr t a).length:Int)<=max 0 (t-a):=by
 intro n;induction n with
 |zero=>intro a h;rw[Vp,if_neg zE];simp only[zzco];omega
 |succ n ih=>
  intro a h;rw[Vp];split
  ·rename_i ah;have hN:1<=Ub fr t a/\Ub fr t a<=t-a:=by unfold Ub;split<;>omega
   have:=ih (a+Ub fr t a) zE;simp only[zzaz];omega
  simp only[zzco];omega
def nM.app{p:Pl}{m:AM}{L:List bn}(h:nM p m L)(x:T5):nM p ⟨m.boxes++x,m.lens,m.st,m.ln⟩ L:=by
 obtain⟨a1,a2,rt,a3,a4⟩:=h;exact⟨by simp;omega,by show Qh (m.boxes++x) 0=_;rw[Qn zE];exact a2,rt,by show Qh (m.boxes++x) 1=_;rw[Qn zE];exact a3,a4⟩
open Go Go.Abs
def jO(p:Pl)(s:Sp)(at_:Int):Option En:=match Xw s.1 p.ens with
 |some e=>if s.1=0\/e.fr<1\/s.2<at_\/p.ln-s.2<e.fr then none else some e
 |none=>none
def Jh(p:Pl):List Sp->Int->List bn
 |[],at_=>(Vp (Ye p) p.ln at_).map (Vd p)
 |s::r,at_=>match jO p s at_ with
  |none=>Jh p r at_
  |some e=>((Vp (Ye p) s.2 at_).map (Vd p)++[pP p e s.2])++Jh p r (s.2+e.fr)
def tZ(p:Pl)(l:List Sp)(at_:Int):List bn:=if at_<0\/p.ln<at_ then[]else Jh p l at_
def pQ(p:Pl):UV:=fun d f l=>
 if f=999999 then .junk else
 if f=29 then(match l with|[_,.int _ n]=>sN (Xw n p.ens)|_=>.junk)else
 if f=122 then(match l with|[_,.int _ a,.int _ t]=>.fn 175 [] [.ep (Qa p) 0,.ep [I a] 0,.ep [I t] 0]|_=>.junk)else
 if f=123 then(match l with|[_,.agg [.int _ a,.int _ b,.int _ c,.int _ d,.int _ e,.int _ g,.sl _ rows],.int _ fr]=>aeN p ⟨a,b,c,d,e,g,rows.map rj⟩ fr|_=>.junk)else .gd false .junk
def Qdi{id:Int}{x:En}:∀{l:List En},Xw id l=some x->x∈l/\x.id=id
 |[],h=>by cases h
 |y::r,h=>by
  simp only[Xw]at h;split at h
  ·rename_i hy;cases h;exact⟨zd,hy⟩
  obtain⟨h1,h2⟩:=Qdi h;exact⟨by simp[h1],h2⟩
def K7(p:Pl)(l:List Sp)(Gy:Int)(hc:p.cls.length<=1000000)(fE:p.sh.length<=1000000000)(cT:p.aN.length<=1000000000)(IJ:p.ens.length<=1000000000)(fO:∀e∈p.ens,e.al.length<=8796093022208)
  (dA:p.ln<=1000000)(hl:l.length<=1000000)(iK:∀s∈l,-1000000000<=s.2/\s.2<=1000000000):∃rt,Pure Tryz.prog aD 67 [.agg (Qa p),.sl .ro (l.map Qe),I Gy] (.sl rt ((tZ p l Gy).map Zu)):=by
 by_cases c0:Gy<0\/p.ln<Gy
 ·refine⟨.nil,Qp Tr (pQ p) zd ?_⟩;rw[tZ,if_pos c0];by_cases c1:Gy<0
  ·simp[I1,Tq,Qa,c1]
  have c2:p.ln<Gy:=zE
  simp[I1,Tq,Qa,c1,c2]
 refine⟨if Jh p l Gy=[]then .nil else .ro,Qp Tr (pQ p) zd ?_⟩;rw[tZ,if_neg c0];simp only[not_or]at c0;have c1:¬Gy<0:=c0.1;have c2:¬p.ln<Gy:=c0.2;simp[I1,Qa,c1,c2];refine Qi oA (fun f mm=>∃(i:Nat)(at_:Int)(L:List bn),f 24=I i/\f 2=I at_/\i<=l.length/\nM p mm L/\0<=at_/\at_<=p.ln/\(L.length:Int)<=at_/\L++Jh p (l.drop i) at_=Jh p l Gy) (fun f _=>l.length-(numOf (f 24)).toNat) ?_ ?_
 ·exact⟨0,Gy,[],zd,zd,zE,⟨zd,by simp[Qa],.nil,zd,.inl ⟨rfl,rfl⟩⟩,zE,zE,by simp;omega,zd⟩
 rintro f mm ⟨i,at_,L,h24,h2,hi,hO,a1,a2,a3,hI⟩;rcases zzaa i l.length with ah|bq
 ·obtain⟨s,hs⟩:=aV ah;have ai:=Zw hs;have hsb:=iK s (zzad hs);have aa:(i:Int)<(l.length:Int):=zE
  have hw:=bO i zE;have eL:IntKind.i64.wrap (p.ln-s.2)=p.ln-s.2:=by rw[Ql]<;>omega
  rw[Za hs,Jh]at hI;have zo:=KS p s.1 IJ fO;have hO':=hO;obtain⟨o1,o2,rt,o3,o4⟩:=hO';have r0:∀y,Qh (mm.boxes++y) 0=Qa p:=fun y=>by rw[Qn zE];exact o2
  have r1:∀y,Qh (mm.boxes++y) 1=[.sl rt (L.map Zu)]:=fun y=>by rw[Qn o1];exact o3
  simp only[Qa]at r0;cases hf:Xw s.1 p.ens with
  |none=>
   simp only[jO,hf]at hI;rw[hf]at zo;by_cases c3:s.1=0
   ·rw[c3]at hf zo;simp[h24,h2,oA,ah,aa,ai,r0,r1,pQ,hf,sN,hw,c3];refine⟨zo,aQ,⟨i+1,zd,zE,L,hO.app _,a1,a2,a3,hI⟩,zE⟩
   simp[h24,h2,oA,ah,aa,ai,r0,r1,pQ,hf,sN,hw,c3];refine⟨zo,aQ,⟨i+1,zd,zE,L,hO.app _,a1,a2,a3,hI⟩,zE⟩
  |some e=>
   rw[hf]at zo;simp only[jO,hf]at hI;by_cases c3:s.1=0
   ·rw[if_pos (.inl c3)]at hI;rw[c3]at hf zo;simp[h24,h2,oA,ah,aa,ai,r0,r1,pQ,hf,sN,Qd,hw,c3];refine⟨zo,aQ,⟨i+1,zd,zE,L,hO.app _,a1,a2,a3,hI⟩,zE⟩
   by_cases c4:e.fr<1
   ·rw[if_pos (.inr (.inl c4))]at hI;simp[h24,h2,oA,ah,aa,ai,r0,r1,pQ,hf,sN,Qd,hw,c3,c4];refine⟨zo,aQ,⟨i+1,zd,zE,L,hO.app _,a1,a2,a3,hI⟩,zE⟩
   by_cases c5:s.2<at_
   ·rw[if_pos (.inr (.inr (.inl c5)))]at hI;simp[h24,h2,oA,ah,aa,ai,r0,r1,pQ,hf,sN,Qd,hw,c3,c4,c5];refine⟨zo,aQ,⟨i+1,zd,zE,L,hO.app _,a1,a2,a3,hI⟩,zE⟩
   by_cases c6:p.ln-s.2<e.fr
   ·rw[if_pos (.inr (.inr (.inr c6)))]at hI;simp[h24,h2,oA,ah,aa,ai,r0,r1,pQ,hf,sN,Qd,hw,eL,c3,c4,c5,c6];refine⟨zo,aQ,⟨i+1,zd,zE,L,hO.app _,a1,a2,a3,hI⟩,zE⟩
   rw[if_neg zE]at hI;simp[h24,h2,oA,ah,aa,ai,r0,r1,pQ,hf,sN,Qd,hw,eL,c3,c4,c5,c6];have k31:=xF p at_ s.2;have fu:=Bp (Ye p) s.2 _ at_ (zzab _);refine⟨zo,k31,?_⟩;refine alX Y0 p at_ s.2 cT zE zE (pQ p) (fun _ _=>rfl) _ _ L (hO.app _) zE zd zd _ ?_;intro m' Gz cE ee
   have Rs:Qh m'.boxes mm.boxes.length=[I s.1,I s.2]:=by
    rw[ee _ zE zd];simp
   have Re:Qh m'.boxes (mm.boxes.length+1)=Qd e:=by
    rw[ee _ zE zd];simp[Qd]
   simp only[Qd]at Re;obtain⟨p1,p2,Su,p3,p4⟩:=Gz;have p2':=p2;have b1:∀v,Qh (m'.boxes.set 1 v) 1=v:=fun v=>Yf v p1;have b0:∀v,Qh (m'.boxes.set 1 v) 0=Qa p:=fun v=>by rw[Ya v zE];exact p2
   have bs:∀v,Qh (m'.boxes.set 1 v) mm.boxes.length=[I s.1,I s.2]:=fun v=>by rw[Ya v zE];exact Rs
   have be:∀v,Qh (m'.boxes.set 1 v) (mm.boxes.length+1)=[I e.id,I e.it,I e.fr,I e.ea,I e.la,I e.bo,.sl .ro (e.al.map Qe)]:=fun v=>by rw[Ya v zE];exact Re
   simp only[Qa]at p2';have hG:((L++(Vp (Ye p) s.2 at_).map (Vd p)).length:Int)<=s.2:=by simp;omega
   have hI2:(L++(Vp (Ye p) s.2 at_).map (Vd p)++[pP p e s.2])++Jh p (l.drop (i+1)) (s.2+e.fr)=Jh p l Gy:=by rw[<- hI];simp
   generalize L++(Vp (Ye p) s.2 at_).map (Vd p)=G at*
   have k32:=K6 p e s.2 hc fE cT (fO e (Qdi hf).1);have SK:IntKind.i64.wrap (s.2+e.fr)=s.2+e.fr:=by rw[Ql]<;>omega
   obtain⟨g1,rfl⟩|⟨g1,k,rfl,hk⟩:=p4
   ·subst g1;simp[h24,p2',p3,Rs,Re,b1,bs,be,p1,pQ,aeN,II,hw,SK];rw[zzai]at hI2;refine⟨k32,aQ,⟨i+1,zd,zE,[pP p e s.2],⟨by simp;omega,b0 _,_,b1 _,.inr ⟨zd,_,rfl,zd⟩⟩,zE,zE,by simp;omega,hI2⟩,zE⟩
   simp[h24,p2',p3,Rs,Re,b1,bs,be,p1,pQ,aeN,II,hw,SK];refine⟨k32,⟨hk,by rintro row (⟨a,_,rfl⟩|rfl)<;>rfl,zE⟩,ag ?_,⟨i+1,zd,zE,G++[pP p e s.2],⟨by simp;omega,b0 _,_,by rw[b1];simp[Zu,pP],.inr ⟨zd,k,rfl,by simp[(zza.1 hk).1]⟩⟩,zE,zE,by simp;omega,hI2⟩,zE⟩;repeat(first|exact Qb _ _|refine Qc _ rfl ?_)
 obtain rfl:i=l.length:=zE
 have k31:=xF p at_ p.ln;have fu:=Bp (Ye p) p.ln _ at_ (zzab _);rw[zzbt,Jh]at hI;obtain⟨o1,o2,rt,o3,o4⟩:=id hO;simp only[Qa]at o2;simp[h24,h2,oA,o2,pQ];refine⟨k31,?_⟩;refine alY Y0 p at_ p.ln cT zE zE (pQ p) (fun _ _=>rfl) _ _ L hO zE zd zd _ ?_;intro m' Gz cE ee;rw[hI]at Gz;obtain⟨p1,p2,Su,p3,p4⟩:=Gz;generalize Jh p l Gy=G at*
 obtain⟨g1,rfl⟩|⟨g1,k,rfl,hk⟩:=p4
 ·subst g1;simp[p3,p1,Tq]
 simp[p3,p1,Tq,g1]
def Qf(e:bn):P2:=[I e.id,I e.it,I e.st,I e.fr,I e.i,I e.re,.sl .ro (e.al.map Qe)]
def K8(L:List bn):Wk (.sl .ro (L.map Zu)) (.sl .ro (L.map Qf)):=by
 refine Wk.rows L Zu Qf (fun _=>rfl) fun a j c' h=>?_
 match j,h with
 |0,h=>exact⟨_,rfl,by cases h;exact Ps⟩
 |1,h=>exact⟨_,rfl,by cases h;exact Ps⟩
 |2,h=>exact⟨_,rfl,by cases h;exact Ps⟩
 |3,h=>exact⟨_,rfl,by cases h;exact Ps⟩
 |4,h=>exact⟨_,rfl,by cases h;exact Ps⟩
 |5,h=>exact⟨_,rfl,by cases h;exact Ps⟩
 |6,h=>exact⟨_,rfl,by cases h;exact Wk.sl _ _⟩
 |j+7,h=>simp[Qf]at h
def Wk.trans{a b c:AV}(h:Wk a b)(k:Wk b c):Wk a c:=fun w γ v hr=>k w γ v (h w γ v hr)
def sY(p:Pl)(l:List Sp)(Gy:Int)(hc:p.cls.length<=1000000)(fE:p.sh.length<=1000000000)(cT:p.aN.length<=1000000000)(IJ:p.ens.length<=1000000000)(fO:∀e∈p.ens,e.al.length<=8796093022208)
  (dA:p.ln<=1000000)(hl:l.length<=1000000)(iK:∀s∈l,-1000000000<=s.2/\s.2<=1000000000):Pure Tryz.prog aD 67 [.agg (Qa p),.sl .ro (l.map Qe),I Gy] (.sl .ro ((tZ p l Gy).map Qf)):=by
 obtain⟨rt,h⟩:=K7 p l Gy hc fE cT IJ fO dA hl iK;exact Zh h (Wk.trans (Wk.sl _ _) (K8 _))
open Go Go.Abs
def ua(f:Int)(e:bn):Bool:=decide (e.st<=f/\f<e.st+e.fr)
def Jt(e:bn):Prop:=(0<=e.st/\e.st<=1000000)/\(0<=e.fr/\e.fr<=1000000)/\(0<=e.i/\e.i<=1000000)/\e.al.length<=8796093022208
def gX(f:Int):List bn->Nat->Int
 |[],_=> -1
 |e::r,i=>if ua f e=true then i else gX f r (i+1)
def Dm(f:Int):List bn->Option bn
 |[]=>none
 |e::r=>if ua f e=true then some e else Dm f r
def ya{f:Int}:∀{L:List bn}{i:Nat},Dm f L=none->gX f L i= -1
 |[],_,_=>rfl
 |a::r,i,h=>by
  simp only[Dm]at h;split at h
  ·cases h
  rename_i hn;simp only[gX,if_neg hn];exact ya h
def yb{f:Int}{a:bn}:∀{L:List bn}{i:Nat},Dm f L=some a->∃k:Nat,gX f L i=((i+k:Nat):Int)/\L[k]?=some a/\ua f a=true
 |[],_,h=>by cases h
 |b::r,i,h=>by
  simp only[Dm]at h;split at h
  ·rename_i hb;cases h;exact⟨0,by simp[gX,hb],rfl,hb⟩
  rename_i hn;obtain⟨k,h1,h2,h3⟩:=yb (i:=i+1) h;exact⟨k+1,by simp only[gX,if_neg hn,h1];omega,Nm h2,h3⟩
def K9(f:Int):UV:=fun _ _ l=>match l with
 |[.agg [_,_,.int _ st,.int _ fr,_,_,_],_]=>.bool (decide (st<=f/\f<st+fr))
 |_=>.junk
def yc(f:Int):Option bn->AV
 |none=>aiG
 |some e=>.aS [.agg (Qf e),I (e.i+f-e.st),.bool true]
open Go Go.Abs
structure Cue where
 id:Int
 fr:Int
 to:Int
 pr:Int
 tx:ByteArray
def Qk(c:Cue):P2:=[I c.id,I c.fr,I c.to,I c.pr,.str c.tx]
structure Pg where
 p:Pl
 ev:List bn
 cu:List Cue
 ed:Int
 dr:Pi
 ve:Int
def Qj(g:Pg):P2:=Qa g.p++[.sl .ro (g.ev.map Qf),.sl .ro (g.cu.map Qk),I g.ed,.sl .ro (g.dr.map Qy),I g.ve]
structure Od where
 sq:Int
 ch:Int
 fr:Int
 ki:Int
 en:Int
 n:Int
 nw:En
 cl:Cl
 cu:Cue
def Qq(o:Od):P2:=[I o.sq,I o.ch,I o.fr,I o.ki,I o.en,I o.n]++(Qd o.nw++(Qg o.cl++Qk o.cu))
def GA(pre a r bs:P2)(h:bs.length=a.length):setA (pre++(a++r)) pre.length bs=pre++(bs++r):=by
 induction bs generalizing pre a with
 |nil=>cases a with
  |nil=>rfl
  |cons _ _=>simp at h
 |cons x bs ih=>cases a with
  |nil=>simp at h
  |cons y a=>
   rw[setA];have e:(pre++(y::a++r)).set pre.length x=(pre++[x])++(a++r):=zd
   rw[e];have:=ih (pre++[x]) a (Nm h);rw[show(pre++[x]).length=pre.length+1 by simp]at this;rw[this];simp
theorem jP(l:P2)(o:Nat):setA l o []=l:=rfl
def yd(y:AV):∀(xs l:P2)(n:Nat),setA (y::l) (n+1) xs=y::setA l n xs
 |[],_,_=>rfl
 |x::xs,l,n=>by
  rw[setA,setA,zzea];exact yd y xs _ _
def jQ(y x:AV)(xs l:P2):setA (y::l) 0 (x::xs)=x::setA l 0 xs:=by
 rw[setA,List.set_cons_zero,yd]
def jR{sz:Nat}:∀{rows:T5},(∀r∈rows,r.length=sz)->rows.flatten.length=rows.length*sz
 |[],_=>zd
 |a::r,h=>by
  have:=jR (rows:=r) fun x hx=>h x (by simp[hx]);rw[zzcj,zzak,this,h a zd,zzaz,zzhg];omega
def Qbr{sz:Nat}:∀{rows:T5},(∀r∈rows,r.length=sz)->aY sz rows.length rows.flatten=rows
 |[],_=>rfl
 |a::r,h=>by
  have ha:=h a zd;have ih:=Qbr (rows:=r) fun x hx=>h x (by simp[hx]);rw[zzaz,yf,zzcj,List.take_append_of_le_length zE,zzdy zE,zzau zE,List.drop_of_length_le zE,zzai,ih]
def Bq{sz:Nat}:∀{rows:T5}{i:Nat}{row:P2},(∀r∈rows,r.length=sz)->rows[i]?=some row->∃pre r,rows.flatten=pre++(row++r)/\pre.length=i*sz
 |[],i,row,_,h=>by simp at h
 |a::r,0,row,h,hi=>by simp at hi;subst hi;exact⟨[],r.flatten,zd,zd⟩
 |a::r,i+1,row,h,hi=>by
  obtain⟨p,q,h1,h2⟩:=Bq (rows:=r) (fun x hx=>h x (by simp[hx])) (Nm hi);have ha:=h a zd;exact⟨a++p,q,by rw[zzcj,h1,zzbf],by rw[zzak,h2,ha,zzhg];omega⟩
def uV{sz:Nat}{rows:T5}{i:Nat}{row:P2}(h:∀r∈rows,r.length=sz)(hi:rows[i]?=some row):(∃r,rows.flatten.drop (i*sz)=row++r)/\setA rows.flatten (i*sz) row=rows.flatten:=by
 obtain⟨p,q,h1,h2⟩:=Bq h hi;refine⟨⟨q,by rw[h1,<- h2,zzfz]⟩,?_⟩;rw[h1,<- h2];exact GA p row q row rfl
def kW{α:Type}{f:α->P2}(h:∀a,Zl (f a)=true)(l:List α):Zl (l.map f).flatten=true:=by
 induction l with
 |nil=>rfl
 |cons a r ih=>rw[zzas,zzcj];exact Q7 (h a) ih
def kX{α:Type}{f:α->P2}{sz:Nat}(h:∀a,(f a).length=sz)(l:List α):∀r∈l.map f,r.length=sz:=by
 intro r hr;simp only[zzav]at hr;obtain⟨a,_,rfl⟩:=hr;exact h a
def pR(l:List Sp)(h:l.length<=8796093022208):Pure Tryz.prog aD 116 [.sl .ro (l.map Qe)] (.sl .ro (l.map Qe)):=by
 refine Qp ab0 (fun _ _ _=>.junk) zd ?_;simp[agz,agB];exact⟨by rintro row a b _ rfl;rfl,zE⟩
def pS(l:List It)(h:l.length<=1000000000):Pure Tryz.prog aD 117 [.sl .ro (l.map Qm)] (.sl .ro (l.map Qm)):=by
 refine Qp ab1 (fun _ _ _=>.junk) zd ?_;simp[agC,agD];exact⟨fun _ _=>rfl,zE⟩
def pT(l:List Bk)(h:l.length<=1000000000):Pure Tryz.prog aD 120 [.sl .ro (l.map Xi)] (.sl .ro (l.map Xi)):=by
 refine Qp ab3 (fun _ _ _=>.junk) zd ?_;simp[agG,agH];exact⟨fun _ _=>rfl,zE⟩
def Dn(l:List Cl)(h:l.length<=1000000000):Pure Tryz.prog aD 121 [.sl .ro (l.map Qg)] (.sl .ro (l.map Qg)):=by
 refine Qp ML (fun _ _ _=>.junk) zd ?_;simp[TL,TM];exact⟨fun _ _=>rfl,zE⟩
def Oj(l:List Sp)(h:l.length<=8796093022208):Pure Tryz.prog aD 102 [.sl .ro (l.map Qe)] (.sl .ro (l.map Qe)):=by
 refine Qp abP (fun _ _ _=>.junk) zd ?_;simp[agl,agm];exact⟨by rintro row a b _ rfl;rfl,zE⟩
def aeO(l:List Cue)(h:l.length<=1000000000):Pure Tryz.prog aD 103 [.sl .ro (l.map Qk)] (.sl .ro (l.map Qk)):=by
 refine Qp abQ (fun _ _ _=>.junk) zd ?_;simp[agn,ago];exact⟨fun _ _=>rfl,zE⟩
def aeP(l:Pi)(h:l.length<=1000000000):Pure Tryz.prog aD 104 [.sl .ro (l.map Qy)] (.sl .ro (l.map Qy)):=by
 refine Qp abR (fun _ _ _=>.junk) zd ?_;simp[agp,agq];exact⟨fun _ _=>rfl,zE⟩
def Wt(e:En)(h:e.al.length<=8796093022208):Pure Tryz.prog aD 119 [.agg (Qd e)] (.agg (Qd e)):=by
 have k:=Oj e.al h;refine Qp ab2 (fun _ _ l=>l.headD .junk) zd ?_;simp[agE,agF,Qd];exact k
def aeQ:UV:=fun _ f _=>if f=999999 then .aJ 0 []else .junk
def yg(Y:YT)(rows:T5)(h:∀r∈rows,r.length=7)(hl:rows.length<=1000000000)(aO:rows≠[])(m:AM)(K:So)(hK:K (.bs m.boxes.length 0 rows.length 7) {m with boxes:=m.boxes++[rows.flatten]}):
  aB Tryz.prog aD Y 118 [.sl .ro rows] m K:=by
 refine Xl B8 aeQ zd ?_;simp[MJ,MK,aeQ,aO];exact⟨⟨zE,h⟩,hK⟩
def YS(Y:YT)(rows:T5)(h:∀r∈rows,r.length=7)(hl:rows.length<=1000000000)(aO:rows≠[])(m:AM)(K:So)(hK:K (.bs m.boxes.length 0 rows.length 7) {m with boxes:=m.boxes++[rows.flatten]}):
  aB Tryz.prog aD Y 101 [.sl .ro rows] m K:=by
 refine Xl MF aeQ zd ?_;simp[TF,TG,aeQ,aO];exact⟨⟨zE,h⟩,hK⟩
def GB:Pure Tryz.prog aD 118 [.sl .ro []] (.sl .ro []):=by
 refine Qp B8 (fun _ _ _=>.junk) zd ?_;simp[MJ,MK]
def YU:Pure Tryz.prog aD 101 [.sl .ro []] (.sl .ro []):=by
 refine Qp MF (fun _ _ _=>.junk) zd ?_;simp[TF,TG]
open Go Go.Abs
def Km(p:Pl):UV:=fun _ f l=>if f=118 then(if p.ens=[]then .sl .ro []else .gd false .junk)else l.headD .junk
def Br(p:Pl):Prop:=p.sh.length<=1000000/\p.aN.length<=1000000/\p.ens.length<=1000000/\p.bks.length<=1000000/\p.cls.length<=1000000/\∀e∈p.ens,e.al.length<=8796093022208
def ase(p:Pl)(m0:P2)(f:Nat->AV)(m:AM):Prop:=∃(i:Nat)(bx:T5),f 22=I i/\i<=p.ens.length/\m=⟨[I p.ch,I p.nu,I p.de,I p.of,.sl .ro (p.sh.map Qe),I p.ep,I p.rg,I p.ln,I p.fi,.sl .ro (p.aN.map Qm),.bs 2 0 p.ens.length 7,.sl .ro (p.bks.map Xi),.sl .ro (p.cls.map Qg)]::m0::(p.ens.map Qd).flatten::bx,[],fun _=>.gone,0⟩
def pU(p:Pl)(h:Br p):Pure Tryz.prog aD 66 [.agg (Qa p)] (.agg (Qa p)):=by
 obtain⟨h1,h2,h3,h4,h5,h6⟩:=h;have k1:=pR p.sh zE;have k2:=pS p.aN zE;have k4:=pT p.bks zE;have k5:=Dn p.cls zE;have hsz:=kX (f:=Qd) (sz:=7) (fun _=>rfl) p.ens;refine Qp vn (Km p) zd ?_;by_cases hn:p.ens=[]
 ·have k3:=GB;simp[IY,Qa,Km,hn];refine⟨k1,k2,k3,?_⟩;refine Qi ez (fun f m=>f 22=I 0/\m=⟨[I p.ch,I p.nu,I p.de,I p.of,.sl .ro (p.sh.map Qe),I p.ep,I p.rg,I p.ln,I p.fi,.sl .ro (p.aN.map Qm),.sl .ro [],.sl .ro (p.bks.map Xi),.sl .ro (p.cls.map Qg)]::[[I 0,I 0,I 0,I 0,.sl .nil [],I 0,I 0,I 0,I 0,.sl .nil [],.sl .nil [],.sl .nil [],.sl .nil []]],[],fun _=>.gone,0⟩) (fun f _=>0) ?_ ?_
  ·exact⟨zd,zd⟩
  rintro f m ⟨f22,rfl⟩;simp[f22,ez,IZ,Km];exact⟨k4,k5⟩
 have aO:p.ens.map Qd≠[]:=by simpa using hn
 simp[IY,Qa,Km,hn];refine⟨k1,k2,yg _ _ hsz (by simpa using by omega) aO _ _ ?_⟩;simp;obtain⟨F,hF⟩:∃F,(p.ens.map Qd).flatten=F:=⟨_,rfl⟩;have hFl:F.length=p.ens.length*7:=by rw[<- hF,jR hsz];simp
 have bV:Zl F=true:=by rw[<- hF];exact kW (fun _=>rfl) _
 have iu:aY 7 p.ens.length F=p.ens.map Qd:=by have:=Qbr hsz;rw[hF]at this;simpa using this
 have hmp:∀m,F.map (bA m 4)=F:=fun m=>Va m 3 bV;rw[hF];refine Qi ez (ase p [I 0,I 0,I 0,I 0,.sl .nil [],I 0,I 0,I 0,I 0,.sl .nil [],.sl .nil [],.sl .nil [],.sl .nil []]) (fun f _=>p.ens.length-(numOf (f 22)).toNat) ?_ ?_
 ·exact⟨0,[],zd,zE,by rw[hF]⟩
 rintro f m ⟨i,bx,f22,hi,rfl⟩;rw[hF];rcases zzaa i p.ens.length with ah|bq
 ·obtain⟨e,he⟩:=aV ah;have aa:(i:Int)<(p.ens.length:Int):=zE
  have hw:=bO i zE;obtain⟨⟨r,hd⟩,bY⟩:=uV hsz (i:=i) (row:=Qd e) (by simp[he]);rw[hF]at hd bY;simp only[Qd,zzae,zzai]at hd bY;have GC:=Wt e (h6 e (zzad he));simp only[Qd]at GC;simp[-setA,jP,jQ,f22,ez,aa,hd,bY,hFl,hw,Km];refine⟨GC,zE,aQ,⟨i+1,bx++[[I e.id,I e.it,I e.fr,I e.ea,I e.la,I e.bo,.sl .ro (e.al.map Qe)]],zd,zE,by rw[hF]⟩,zE⟩
 obtain rfl:i=p.ens.length:=zE
 simp[f22,ez,IZ,Km,hFl,hmp,iu];exact⟨k4,k5⟩
def PgC(g:Pg):Prop:=Br g.p/\g.ev.length<=1000000/\g.cu.length<=1000000/\g.dr.length<=1000000/\∀e∈g.ev,e.al.length<=8796093022208
def Bs(g:Pg):UV:=fun _ f l=>if f=101 then(if g.ev=[]then .sl .ro []else .gd false .junk)else l.headD .junk
def kY(g:Pg)(V:AV):P2:=[I g.p.ch,I g.p.nu,I g.p.de,I g.p.of,.sl .ro (g.p.sh.map Qe),I g.p.ep,I g.p.rg,I g.p.ln,I g.p.fi,.sl .ro (g.p.aN.map Qm),.sl .ro (g.p.ens.map Qd),.sl .ro (g.p.bks.map Xi),.sl .ro (g.p.cls.map Qg),V,.sl .ro (g.cu.map Qk),I g.ed,.sl .ro (g.dr.map Qy),I g.ve]
def asf(g:Pg)(m0:P2)(f:Nat->AV)(m:AM):Prop:=∃(i:Nat)(bx:T5),f 16=I i/\i<=g.ev.length/\m=⟨kY g (.bs 2 0 g.ev.length 7)::m0::(g.ev.map Qf).flatten::bx,[],fun _=>.gone,0⟩
def YV:P2:=[I 0,I 0,I 0,I 0,.sl .nil [],I 0,I 0,I 0,I 0,.sl .nil [],.sl .nil [],.sl .nil [],.sl .nil [],.sl .nil [],.sl .nil [],I 0,.sl .nil [],I 0]
def YW(g:Pg)(h:PgC g):Pure Tryz.prog aD 52 [.agg (Qj g)] (.agg (Qj g)):=by
 obtain⟨h0,h1,h2,h3,h4⟩:=h;have k1:=pU g.p h0;have k3:=aeO g.cu zE;have k4:=aeP g.dr zE;have hsz:=kX (f:=Qf) (sz:=7) (fun _=>rfl) g.ev;simp only[Qa]at k1;refine Qp aj8 (Bs g) zd ?_;by_cases hn:g.ev=[]
 ·have k2:=YU;simp[abB,Qj,Qa,Bs,hn];refine⟨k1,k2,?_⟩;refine Qi Er (fun f m=>f 16=I 0/\m=⟨kY g (.sl .ro [])::[YV],[],fun _=>.gone,0⟩) (fun f _=>0) ?_ ?_
  ·exact⟨zd,by simp[kY,YV]⟩
  rintro f m ⟨f16,rfl⟩;simp[f16,Er,aj7,kY,YV,Bs];exact⟨k3,k4⟩
 have aO:g.ev.map Qf≠[]:=by simpa using hn
 simp[abB,Qj,Qa,Bs,hn];refine⟨k1,YS _ _ hsz (by simpa using by omega) aO _ _ ?_⟩;simp;obtain⟨F,hF⟩:∃F,(g.ev.map Qf).flatten=F:=⟨_,rfl⟩;have hFl:F.length=g.ev.length*7:=by rw[<- hF,jR hsz];simp
 have bV:Zl F=true:=by rw[<- hF];exact kW (fun _=>rfl) _
 have iu:aY 7 g.ev.length F=g.ev.map Qf:=by have:=Qbr hsz;rw[hF]at this;simpa using this
 have hmp:∀m,F.map (bA m 4)=F:=fun m=>Va m 3 bV;rw[hF];refine Qi Er (asf g YV) (fun f _=>g.ev.length-(numOf (f 16)).toNat) ?_ ?_
 ·exact⟨0,[],zd,zE,by rw[hF];rfl⟩
 rintro f m ⟨i,bx,f16,hi,rfl⟩;rw[hF];rcases zzaa i g.ev.length with ah|bq
 ·obtain⟨e,he⟩:=aV ah;have aa:(i:Int)<(g.ev.length:Int):=zE
  have hw:=bO i zE;obtain⟨⟨r,hd⟩,bY⟩:=uV hsz (i:=i) (row:=Qf e) (by simp[he]);rw[hF]at hd bY
  have hs6:F.set (i*7+6) (.sl .ro (e.al.map Qe))=F:=by
   have h7:F[i*7+6]?=some (.sl .ro (e.al.map Qe)):=by
    have:=congrArg (fun l=>l[6]?) hd;simpa[Qf]using this
   apply zzdb;intro j;by_cases hj:i*7+6=j
   ·subst hj;rw[h7,zzbg (zza.1 h7).1]
   rw[zzbn hj]
  simp only[Qf,zzae,zzai]at hd;have axq:=Oj e.al (h4 e (zzad he));simp[f16,Er,kY,aa,hd,hs6,hFl,hw,Bs];refine⟨axq,zE,aQ,⟨i+1,bx++[[I e.id,I e.it,I e.st,I e.fr,I e.i,I e.re,.sl .ro (e.al.map Qe)]],zd,zE,by rw[hF];rfl⟩,zE⟩
 obtain rfl:i=g.ev.length:=zE
 simp[f16,Er,aj7,kY,YV,Bs,hFl,hmp,iu];exact⟨k3,k4⟩
open Go Go.Abs
def uW(n:Int):Bool:=decide (1<=n)&&decide (n<=1000000)
def Wl(n:Int):Pure Tryz.prog aD 45 [I n] (.bool (uW n)):=by
 refine Qp Tb (fun _ _ _=>.junk) zd ?_;by_cases h:1<=n
 ·simp[aby,abz,h,uW]
 simp[aby,abz,h,uW]
def eB:ByteArray:=⟨#[]⟩
def GD(tx:ByteArray):tx.toList=[]<->tx=eB:=by
 obtain⟨⟨l⟩⟩:=tx;rw[ByteArray.toList_eq];simp[eB]
def Qcw(o:Od):Bool:=decide (o.en=0/\o.n=0/\o.cl=⟨0,0,0,0,0,0,0,0⟩/\(o.cu.id=0/\o.cu.fr=0/\o.cu.to=0/\o.cu.pr=0/\o.cu.tx=eB)/\o.nw.id=0/\o.nw.it=0/\o.nw.fr=0/\o.nw.ea=0/\o.nw.la=0/\o.nw.bo=0/\o.nw.al=[])
def La(o:Od):Pure Tryz.prog aD 46 [.agg (Qq o)] (.bool (Qcw o)):=by
 refine Qp Tc (fun _ _ _=>.junk) zd ?_;obtain⟨sq,ch,fr,ki,en,n,⟨a1,a2,a3,a4,a5,a6,al⟩,⟨c1,c2,c3,c4,c5,c6,c7,c8⟩,⟨d1,d2,d3,d4,tx⟩⟩:=o;simp[aj3,aj4,Qq,Qd,Qg,Qk];rw[zzda];simp[Qcw,GD,and_assoc]
def Dp(r:Int):List Sp->Bool
 |[]=>true
 |a::l=>if r<a.1/\a.1<=7/\uW a.2=true then Dp a.1 l else false
def pV(e:En):Bool:=uW e.id&&uW e.it&&decide (1<=e.fr/\e.fr<=100000000)&&decide (0<=e.ea/\e.ea<=e.la/\e.la<=100000000)&&(decide (e.bo=0)||uW e.bo)&&Dp 0 e.al
def aiH(e:En)(f:Nat->AV)(m:AM):Prop:=∃(i:Nat)(r:Int)(bx:T5),f 53=I i/\i<=e.al.length/\f 3=I r/\Dp 0 e.al=Dp r (e.al.drop i)/\m=⟨Qd e::bx,[],fun _=>.gone,0⟩
def Kn:UV:=fun _ f l=>match l with|[.int _ n]=>.bool (uW n)|_=>.junk
def ud(e:En)(hl:e.al.length<=8796093022208):Pure Tryz.prog aD 47 [.agg (Qd e)] (.bool (pV e)):=by
 have q1:=Wl e.id;have q2:=Wl e.it;have q3:=Wl e.bo;refine Qp Td Kn zd ?_;cases h1:uW e.id with
 |false=>rw[h1]at q1;simp[qw,ig,Qd,Kn,h1,pV];exact q1
 |true=>
  rw[h1]at q1;cases h2:uW e.it with
  |false=>rw[h2]at q2;simp[qw,ig,Qd,Kn,h1,h2,pV];exact⟨q1,q2⟩
  |true=>
   rw[h2]at q2;by_cases h3:e.fr<1
   ·have:¬1<=e.fr:=zE
    simp[qw,ig,Qd,Kn,h1,h2,h3,pV,this];exact⟨q1,q2⟩
   by_cases h4:100000000<e.fr
   ·have:¬e.fr<=100000000:=zE
    simp[qw,ig,Qd,Kn,h1,h2,h3,h4,pV,this];exact⟨q1,q2⟩
   have e34:1<=e.fr/\e.fr<=100000000:=zE
   by_cases h5:e.ea<0
   ·have:¬0<=e.ea:=zE
    simp[qw,ig,Qd,Kn,h1,h2,h3,h4,h5,pV,this];exact⟨q1,q2⟩
   by_cases h6:e.la<e.ea
   ·have:¬e.ea<=e.la:=zE
    simp[qw,ig,Qd,Kn,h1,h2,h3,h4,h5,h6,pV,this];exact⟨q1,q2⟩
   by_cases h7:100000000<e.la
   ·have:¬e.la<=100000000:=zE
    simp[qw,ig,Qd,Kn,h1,h2,h3,h4,h5,h6,h7,pV,this];exact⟨q1,q2⟩
   have axr:0<=e.ea/\e.ea<=e.la/\e.la<=100000000:=zE
   by_cases h8:e.bo≠0/\uW e.bo=false
   ·obtain⟨h8,h9⟩:=h8;rw[h9]at q3;have h8':(e.bo !=0)=true:=by simpa using h8
    simp[qw,ig,Qd,Kn,h1,h2,h3,h4,h5,h6,h7,h8,h8',h9,pV];exact⟨q1,q2,q3⟩
   have hb:(decide (e.bo=0)||uW e.bo)=true:=by
    by_cases hb:e.bo=0
    ·simp[hb]
    cases h9:uW e.bo with
    |true=>simp
    |false=>exact absurd ⟨hb,h9⟩ h8
   have hv:pV e=Dp 0 e.al:=by simp only[pV,h1,h2,e34,axr,hb,zzdo,and_self,decide_true]
   rw[hv]
   have hbo:(e.bo=0)\/(e.bo≠0/\uW e.bo=true):=by
    by_cases dZ:e.bo=0
    ·exact .inl dZ
    exact .inr ⟨dZ,by simpa[dZ]using hb⟩
   obtain dZ|⟨dZ,dz⟩:=hbo
   ·simp[qw,Qd,Kn,h1,h2,h3,h4,h5,h6,h7,dZ];refine⟨q1,q2,?_⟩;clear q1 q2 q3;refine Qi gL (aiH e) (fun f _=>e.al.length-(numOf (f 53)).toNat) ?_ ?_
    ·exact⟨0,0,[],zd,zE,zd,zd,by simp[Qd,dZ]⟩
    rintro f m ⟨i,r,bx,f53,hi,f3,hr,rfl⟩;rcases zzaa i e.al.length with ah|bq
    ·obtain⟨a,ha⟩:=aV ah;have ai:=Zw ha;have aa:(i:Int)<(e.al.length:Int):=zE
     have hw:=bO i zE;have hd:e.al.drop i=a::e.al.drop (i+1):=by rw[zzag ah,(zza.1 ha).2]
     rw[hd,Dp]at hr;have qa:=Wl a.2;by_cases d1:a.1<=r
     ·rw[if_neg zE]at hr;simp[f53,f3,gL,ig,Qd,aa,ai,d1,hr,Kn]
     by_cases d2:7<a.1
     ·rw[if_neg zE]at hr;simp[f53,f3,gL,ig,Qd,aa,ai,d1,d2,hr,Kn]
     cases d3:uW a.2 with
     |false=>
      rw[d3]at qa;rw[if_neg (by simp[d3])]at hr;simp[f53,f3,gL,ig,Qd,aa,ai,d1,d2,d3,hr,Kn];exact qa
     |true=>
      rw[d3]at qa;rw[if_pos ⟨zE,zE,d3⟩]at hr;simp[f53,f3,gL,Qd,aa,ai,d1,d2,d3,hw,Kn];refine⟨qa,aQ,⟨i+1,a.1,bx++[[I a.1,I a.2]],zd,zE,zd,hr,by simp[Qd]⟩,zE⟩
    obtain rfl:i=e.al.length:=zE
    simp[f53,f3,gL,ig,hr,Dp]
   rw[dz]at q3;have KI:(e.bo !=0)=true:=by simpa using dZ
   simp[qw,Qd,Kn,h1,h2,h3,h4,h5,h6,h7,KI,dz];refine⟨q1,q2,q3,?_⟩;clear q1 q2 q3;refine Qi gL (aiH e) (fun f _=>e.al.length-(numOf (f 53)).toNat) ?_ ?_
   ·exact⟨0,0,[],zd,zE,zd,zd,by simp[Qd]⟩
   rintro f m ⟨i,r,bx,f53,hi,f3,hr,rfl⟩;rcases zzaa i e.al.length with ah|bq
   ·obtain⟨a,ha⟩:=aV ah;have ai:=Zw ha;have aa:(i:Int)<(e.al.length:Int):=zE
    have hw:=bO i zE;have hd:e.al.drop i=a::e.al.drop (i+1):=by rw[zzag ah,(zza.1 ha).2]
    rw[hd,Dp]at hr;have qa:=Wl a.2;by_cases d1:a.1<=r
    ·rw[if_neg zE]at hr;simp[f53,f3,gL,ig,Qd,aa,ai,d1,hr,Kn]
    by_cases d2:7<a.1
    ·rw[if_neg zE]at hr;simp[f53,f3,gL,ig,Qd,aa,ai,d1,d2,hr,Kn]
    cases d3:uW a.2 with
    |false=>
     rw[d3]at qa;rw[if_neg (by simp[d3])]at hr;simp[f53,f3,gL,ig,Qd,aa,ai,d1,d2,d3,hr,Kn];exact qa
    |true=>
     rw[d3]at qa;rw[if_pos ⟨zE,zE,d3⟩]at hr;simp[f53,f3,gL,Qd,aa,ai,d1,d2,d3,hw,Kn];refine⟨qa,aQ,⟨i+1,a.1,bx++[[I a.1,I a.2]],zd,zE,zd,hr,by simp[Qd]⟩,zE⟩
   obtain rfl:i=e.al.length:=zE
   simp[f53,f3,gL,ig,hr,Dp]
open Go Go.Abs
def IK(s:ByteArray)(i:Nat):Nat:=(s.data.toList.getD i 0).toNat
def Dq(s:ByteArray)(i:Nat)(h:i<s.size):(s.data[i]'h).toNat=IK s i:=by
 have h':i<s.data.size:=h;simp only[IK,zzax,zzcb,zzah h',Option.getD_some]
def YX(s:ByteArray)(n i:Nat):Bool:=match n with
 |0=>true
 |n+1=>if IK s i<32\/126<IK s i then false else YX s n (i+1)
def YY(s:ByteArray):Bool:=YX s s.size 0
def ash(s:ByteArray)(f:Nat->AV)(m:AM):Prop:=∃i:Nat,f 3=I i/\i<=s.size/\YY s=YX s (s.size-i) i/\m=⟨[],[],fun _=>.gone,0⟩
def yh(s:ByteArray)(h:s.size<=1000000):Pure Tryz.prog aD 158 [.str s] (.bool (YY s)):=by
 refine Qp MX (fun _ _ _=>.junk) zd ?_;simp[MW];refine Qi vB (ash s) (fun f _=>s.size-(numOf (f 3)).toNat) ?_ ?_
 ·exact⟨0,zd,zE,rfl,rfl⟩
 rintro f m ⟨i,f3,hi,hr,rfl⟩;rcases zzaa i s.size with ah|bq
 ·have aa:(i:Int)<(s.size:Int):=zE
  have hw:=bO i zE;obtain⟨n,hn⟩:∃n,s.size-i=n+1:=⟨s.size-i-1,zE⟩;have hb:=Dq s i ah;rw[hn,YX]at hr;by_cases h1:IK s i<32
  ·rw[if_pos (.inl h1)]at hr;have mV:((IK s i:Nat):Int)<32:=zE
   simp[f3,vB,EC,ah,aa,hr,hb,mV]
  have mV:¬((IK s i:Nat):Int)<32:=zE
  by_cases h2:126<IK s i
  ·rw[if_pos (.inr h2)]at hr;have Nv:(126:Int)<((IK s i:Nat):Int):=zE
   simp[f3,vB,EC,ah,aa,hr,hb,mV,Nv]
  rw[if_neg zE]at hr;have Nv:¬(126:Int)<((IK s i:Nat):Int):=zE
  simp[f3,vB,ah,aa,hw,hb,mV,Nv];refine⟨aQ,⟨i+1,zd,zE,by rw[hr];congr 1;omega,rfl⟩,zE⟩
 obtain rfl:i=s.size:=zE
 rw[zzfr,YX]at hr;simp[f3,vB,EC,hr]
def sZ(s:ByteArray)(i:Nat):Option Nat->List ByteArray
 |none=>[]
 |some f=>[s.extract f i]
def YZ(s:ByteArray):Nat->Nat->Option Nat->List ByteArray
 |0,i,first=>sZ s i first
 |n+1,i,first=>if IK s i≠32 then YZ s n (i+1) (some (first.getD i))else sZ s i first++YZ s n (i+1) none
def nN(s:ByteArray):List ByteArray:=YZ s s.size 0 none
def Lb(s:ByteArray)(i:Nat)(first:Option Nat):List ByteArray:=if i<=s.size then YZ s (s.size-i) i first else[]
def Y2{s:ByteArray}{i:Nat}(first:Option Nat)(h:i<s.size)(hb:IK s i≠32):Lb s i first=Lb s (i+1) (some (first.getD i)):=by
 obtain⟨n,hn⟩:∃n,s.size-i=n+1:=⟨s.size-i-1,zE⟩;rw[Lb,if_pos zE,Lb,if_pos zE,hn,YZ,if_pos hb,show s.size-(i+1)=n by omega]
def aeR{s:ByteArray}{i:Nat}(first:Option Nat)(h:i<=s.size)(hb:i<s.size->IK s i=32):Lb s i first=sZ s i first++Lb s (i+1) none:=by
 by_cases hi:i=s.size
 ·subst hi;have:Lb s (s.size+1) none=[]:=by rw[Lb,if_neg zE]
  rw[this,Lb,if_pos zE,zzfr,YZ,zzar]
 obtain⟨n,hn⟩:∃n,s.size-i=n+1:=⟨s.size-i-1,zE⟩;have:Lb s (i+1) none=YZ s n (i+1) none:=by rw[Lb,if_pos zE,show s.size-(i+1)=n by omega]
 rw[this,Lb,if_pos h,hn,YZ,if_neg (by simp[hb zE])]
def Ol:Option Nat->Int
 |none=> -1
 |some k=>k
def Lc(s:ByteArray):Pure Tryz.prog aD 159 [.str s] (.fn 211 [] [.ep [.str s] 0]):=by
 refine Qp MY (fun _ _ _=>.junk) zd ?_;simp[T3,T4]
def asi(Y:YT)(lp:Nat)(K:AM->Prop)(s:ByteArray)(f:Nat->AV)(m:AM):Prop:=∃(i:Nat)(first:Option Nat),f 4=I i/\i<=s.size+1/\f 3=I (Ol first)/\(∀k,first=some k->k<=i/\i<=s.size)/\wY (Y lp) K ((Lb s i first).map fun w=>[.str w]) m
def Ld(s:ByteArray)(h:s.size<=1000000):Iter Tryz.prog aD 211 [] [.ep [.str s] 0] ((nN s).map fun w=>[.str w]):=by
 intro Y lp m K hF;refine Xl Ng (fun _ _ _=>.junk) zd ?_;simp[Nf,UJ];refine Qi iV (asi Y lp K s) (fun f _=>s.size+1-(numOf (f 4)).toNat) ?_ ?_
 ·exact⟨0,none,zd,zE,by simp[Ol],⟨fun k(hk:none=some k)=>(by cases hk),by simpa[Lb,nN]using hF⟩⟩
 rintro f m ⟨i,first,f4,hi,f3,hfi,hr⟩;rcases zzaa s.size i with lI|cE
 ·have bQ:¬(i:Int)<=(s.size:Int):=zE
  rw[Lb,if_neg zE]at hr;simp[f4,iV,bQ];exact hr m (fD.refl m)
 have aeS:(i:Int)<=(s.size:Int):=zE
 have hw:=bO i zE;by_cases hb:i<s.size/\IK s i≠32
 ·obtain⟨ah,hb⟩:=hb;have aa:(i:Int)<(s.size:Int):=zE
  have hbb:=Dq s i ah;have hbI:¬((IK s i:Nat):Int)=32:=zE
  rw[Y2 first ah hb]at hr;cases first with
  |none=>
   simp[f4,f3,Ol,iV,aeS,ah,aa,hbb,hbI,hw];refine⟨aQ,⟨i+1,some i,zd,zE,by simp[Ol],⟨fun k(hk:some i=some k)=>(by cases hk;omega),hr⟩⟩,zE⟩
  |some k=>
   have Ny:¬(k:Int)<0:=zE
   obtain⟨dF,ef⟩:=hfi k rfl;simp[f4,f3,Ol,iV,aeS,ah,aa,hbb,hbI,hw,Ny];refine⟨aQ,⟨i+1,some k,zd,zE,by simp[Ol],⟨fun k'(hk:some k=some k')=>(by cases hk;omega),hr⟩⟩,zE⟩
 have cM:i<s.size->IK s i=32:=fun h=>Classical.byContradiction fun h2=>hb ⟨h,h2⟩;rw[aeR first cE cM]at hr;cases first with
 |none=>
  simp only[sZ,zzai]at hr;rcases zzaa i s.size with ah|bq
  ·have aa:(i:Int)<(s.size:Int):=zE
   have hbb:=Dq s i ah;have alZ:=cM ah;simp[f4,f3,Ol,iV,aeS,ah,aa,hbb,alZ,hw];refine⟨aQ,⟨i+1,none,zd,zE,by simp[Ol],⟨fun k(hk:none=some k)=>(by cases hk),hr⟩⟩,zE⟩
  obtain rfl:i=s.size:=zE
  simp[f4,f3,Ol,iV,hw];refine⟨aQ,⟨s.size+1,none,zd,zE,by simp[Ol],⟨fun k(hk:none=some k)=>(by cases hk),hr⟩⟩⟩
 |some k=>
  obtain⟨dF,ef⟩:=hfi k rfl;have Ny:(0:Int)<=(k:Int):=zE
  simp only[sZ,zzae,zzai,zzas]at hr;rcases zzaa i s.size with ah|bq
  ·have aa:(i:Int)<(s.size:Int):=zE
   have hbb:=Dq s i ah;have alZ:=cM ah;simp[f4,f3,Ol,iV,aeS,ah,aa,hbb,alZ,hw,Ny,dF];refine hr m (fD.refl m) _ (fun m2 h2=>?_) (fun m2 h2=>?_)
   ·simp;refine⟨aQ,⟨i+1,none,zd,zE,by simp[Ol],⟨fun k(hk:none=some k)=>(by cases hk),h2⟩⟩,zE⟩
   simp;exact h2 m2 (fD.refl m2)
  obtain rfl:i=s.size:=zE
  simp[f4,f3,Ol,iV,hw,Ny,dF];refine hr m (fD.refl m) _ (fun m2 h2=>?_) (fun m2 h2=>?_)
  ·simp;refine⟨aQ,⟨s.size+1,none,zd,zE,by simp[Ol],⟨fun k(hk:none=some k)=>(by cases hk),h2⟩⟩⟩
  simp;exact h2 m2 (fD.refl m2)
open Go Go.Abs
def Zg(n:Int):Prop:= -9223372036854775808<=n/\n<=9223372036854775807
def OKP(p:Pl):Prop:=∀e∈p.ens,e.al.length<=8796093022208
open Go Go.Abs
def Y3(p:Pl)(e:bn):Int->List Sp->Bool
 |_,[]=>true
 |last,a::r=>match Xj a.2 p.aN with
  |none=>false
  |some y=>if a.1<=last\/p.rg<=a.1\/y.fr<IntKind.i64.wrap (e.i+e.fr)then false else if Xt p a.2 a.1 e.st e.fr=false then false else Y3 p e a.1 r
def asj(p:Pl)(e:bn):Int:=Uq (fun i=>Xt p e.it i e.st e.fr) (min p.rg 8).toNat
def GF(a:Int):Int:=IntKind.i64.wrap (((a%2 ^ IntKind.i64.bits).toNat&&& ((1:Int)%2 ^ IntKind.i64.bits).toNat:Nat):Int)
def aeT(a b:Int):Int:=IntKind.i64.wrap (((a%2 ^ IntKind.i64.bits).toNat&&& (2 ^ IntKind.i64.bits-1-(b%2 ^ IntKind.i64.bits).toNat):Nat):Int)
def Y4(p:Pl)(e:bn):Bool:=match Xj e.it p.aN with
 |none=>false
 |some x=>if e.fr<1\/e.i<0\/x.fr<e.fr\/IntKind.i64.wrap (x.fr-e.fr)<e.i then false else
  if GF e.re=0\/aeT e.re (asj p e)≠0 then false else Y3 p e 0 e.al&&(decide (e.id≠0)||(decide (e.it=p.fi)&&decide (e.al=[])))
open Go Go.Abs
def aeU(x r n:Nat)(h:r<n):((x+2 ^ n)/2 ^ r)%2=(x/2 ^ r)%2:=by
 obtain⟨k,rfl⟩:∃k,n=r+(k+1):=⟨n-r-1,zE⟩;have e:2 ^ (r+(k+1))=2 ^ r*(2*2 ^ k):=by rw[Nat.pow_add,zzhj,zzef (2 ^ k) 2]
 rw[e,Nat.add_mul_div_left _ _ (Nat.two_pow_pos r),Nat.add_mul_mod_self_left]
def yj(b:Nat->Bool):Nat->Nat
 |0=>0
 |n+1=>yj b n+if b n then 2 ^ n else 0
def Dr(b:Nat->Bool):∀n,yj b n<2 ^ n
 |0=>by simp[yj]
 |n+1=>by
  have:=Dr b n;rw[yj,zzhj];split<;>omega
def Le(b:Nat->Bool):∀n,Uq b n=(yj b n:Int)
 |0=>rfl
 |n+1=>by
  rw[Uq,yj,Le b n];split
  ·push_cast;rfl
  simp
def GG(b:Nat->Bool)(r:Nat):∀n,(yj b n).testBit r=(decide (r<n)&&b r)
 |0=>by simp[yj]
 |n+1=>by
  have ih:=GG b r n;have ah:=Dr b n;rw[yj];by_cases hb:b n=true
  ·rw[if_pos hb];rcases zzdw r n with h|h|h
   ·rw[zzeg,aeU _ _ _ h,<- zzeg,ih];simp[h,Nat.lt_succ_of_lt h]
   ·subst h
    have:(yj b r+2 ^ r)/2 ^ r=1:=by
     rw[Nat.add_div_right _ (Nat.two_pow_pos r),zzgl ah]
    rw[zzeg,this];simp[hb]
   have:yj b n+2 ^ n<2 ^ r:=by
    have:2 ^ (n+1)<=2 ^ r:=Nat.pow_le_pow_right zE h;rw[zzhj]at this;omega
   rw[Nat.testBit_lt_two_pow this];simp;intro h2;omega
  rw[if_neg hb,zzcn,ih];by_cases h:r=n
  ·subst h;simp[hb]
  have:decide (r<n)=decide (r<n+1):=decide_eq_decide.2 zE;rw[this]
def al0(x:Int)(r:Nat):Bool:=x.toNat.testBit r
def Y5(b:Nat->Bool)(n r:Nat):al0 (Uq b n) r=(decide (r<n)&&b r):=by
 unfold al0;rw[Le,Int.toNat_natCast,GG]
def GH(b:Nat->Bool)(n:Nat)(hn:n<=8):0<=Uq b n/\Uq b n<256:=by
 have:=Dr b n;rw[Le];have h2:2 ^ n<=2 ^ 8:=Nat.pow_le_pow_right zE hn;omega
def asl(x:Int)(h:0<=x/\x<256):(x%2 ^ IntKind.i64.bits).toNat=x.toNat:=by
 have:(2:Int) ^ IntKind.i64.bits=18446744073709551616:=by decide
 rw[this,Int.emod_eq_of_lt h.1 zE]
def Y6(x:Int)(h:0<=x/\x<256):GF x=x%2:=by
 unfold GF;rw[asl x h,asl 1 zE];have:x.toNat&&& (1:Int).toNat=x.toNat%2:=Nat.and_one_is_mod _;rw[this,Ql]<;>omega
open Go Go.Abs
def Q8{x:Int}(h:0<=x/\x<256):aeT x x=0:=by
 have key:∀n:Nat,n<256->aeT (n:Int) (n:Int)=0:=by decide+kernel
 have:=key x.toNat zE;rwa [Int.toNat_of_nonneg h.1]at this
def yl{b c:Nat->Bool}:∀(n:Nat),(∀i,i<n->b i=c i)->Uq b n=Uq c n
 |0,_=>rfl
 |n+1,h=>by rw[Uq,Uq,yl n (fun i hi=>h i zE),h n zE]
def Y7{b:Nat->Bool}{n:Nat}(hn:1<=n/\n<=8)(h0:b 0=true):GF (Uq b n)=1:=by
 have hb:=GH b n hn.2;rw[Y6 _ hb];have h1:=Y5 b n 0;rw[h0]at h1;have h2:decide (0<n)=true:=by simp;omega
 rw[h2]at h1;simp only[al0,Nat.testBit_zero,zzgd,decide_eq_true_eq]at h1;omega
structure VP (p:Pl):Prop where
 rg:1<=p.rg/\p.rg<=8
 ln:1<=p.ln/\p.ln<=100000000
 fill:∃y,Xj p.fi p.aN=some y/\y.ki=5/\1<=y.fr/\y.fr<=100000000
 aN:∀y∈p.aN,SM y=true
 ens:∀e∈p.ens,1<=e.id/\jK p e=true/\mq p e=true
def GI{p:Pl}:∀{l:List En}{seen:Pi},z7 p seen l=true->∀e∈l,1<=e.id/\jK p e=true/\mq p e=true
 |x::r,seen,h,e,he=>by
  rw[z7,zzac]at h;rcases zzam.1 he with rfl|he
  ·have h1:=h.1;simp only[xQ,zzac,wi,decide_eq_true_eq]at h1;exact⟨h1.1.1,h1.2.2.1,h1.2.2.2.1⟩
  exact GI h.2 e he
def Ds{p:Pl}(h:pJ p=true):VP p:=by
 simp only[pJ,zzac]at h;obtain⟨h1,h2,h3,h4,h5⟩:=h;simp only[Jn,zzac,wi,decide_eq_true_eq]at h1;simp only[SN,zzac,decide_eq_true_eq]at h2;simp only[sW,zzac,decide_eq_true_eq]at h4;refine⟨h1.2.2.2.2.1,h1.2.2.2.2.2,?_,pI h2.2.2.1,GI h4.2⟩;have hf:=h2.2.2.2;unfold gT at hf;cases hx:Xj p.fi p.aN with
 |none=>rw[hx]at hf;cases hf
 |some y=>
  rw[hx]at hf;have hb:=X5 (pI h2.2.2.1 y (xN hx).1);exact⟨y,rfl,Nm hf,zE,zE⟩
def Lg{p:Pl}(h:VP p)(r f n:Int)(hr:0<=r/\r<8)(hn:1<=n/\n<=1000000)(hf:0<=f/\f+n-1<=100000000):Xt p p.fi r f n=true:=by
 obtain⟨y,hy,hk,_⟩:=h.fill;exact(xU _ _ _ _ _).2 ⟨⟨zE,zE,zE,zE⟩,fun x h1 h2=>⟨y,hy,hr,zE,.inl hk⟩⟩
def Qbs{p:Pl}(h:VP p)(hl:p.ln<=1000000)(x:Int×Int)(hx:0<=x.1/\1<=x.2/\x.2<=Ye p/\x.1+x.2<=p.ln):Y4 p (Vd p x)=true:=by
 obtain⟨y,hy,hk,hy1,hy2⟩:=h.fill;have hff:Ye p=y.fr:=by simp only[Ye,hy]
 rw[hff]at hx;have hre:(Vd p x).re=F6 p:=rfl
 have hm:asj p (Vd p x)=F6 p:=by
  refine yl _ fun i hi=>?_;exact Lg h i x.1 x.2 zE zE zE
 have N1:=h.rg;have h1:GF (F6 p)=1:=Y7 (n:=(min p.rg 8).toNat) zE rfl;have h2:aeT (F6 p) (F6 p)=0:=Q8 (GH _ _ zE);have hw:IntKind.i64.wrap (y.fr-x.2)=y.fr-x.2:=by rw[Ql]<;>omega
 have cT:(Vd p x).it=p.fi:=rfl;have zL:(Vd p x).fr=x.2:=rfl;have hi0:(Vd p x).i=0:=rfl;have fO:(Vd p x).al=[]:=rfl;rw[Y4,cT,hy];simp only;rw[hm,hre,zL,hi0,fO,hw,h1,h2,if_neg zE,if_neg zE];simp[Y3]
def Y8{lo up:Int}{ks:Pi}(h:Kw lo up none ks=true):ks.Pairwise (·<·)/\∀k∈ks,lo<=k/\k<=up:=by
 obtain⟨h1,h2⟩:=kT h;exact⟨h1,fun k hk=>⟨(h2 k hk).1,(h2 k hk).2.1⟩⟩
end
