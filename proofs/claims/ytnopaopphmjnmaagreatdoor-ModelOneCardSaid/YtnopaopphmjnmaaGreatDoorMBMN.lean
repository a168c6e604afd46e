import Derived.Test.YtnopaopphmjnmaaGreatDoorMBSeB
set_option linter.all false
set_option maxRecDepth 100000
set_option maxHeartbeats 64000000
namespace Go.Proofs.YtnopaopphmjnmaaGreatDoor
noncomputable section
open Go Go.Abs
def oT(p:Pl)(e:En)(fr:Int)(s:Sp):Bool:=decide (1<=s.1)&&decide (s.1<p.rg)&&Xw p s.2 s.1 fr e.fr
def evM(p:Pl)(e:En)(fr:Int):Int:=Uo (fun i=>Xw p e.it i fr e.fr) (min p.rg 8).toNat
def jq(p:Pl)(e:En)(fr:Int)(rt:Rt)(l:List Sp):List AV:=[I e.id,I e.it,I fr,I e.fr,I 0,I (evM p e fr),.sl rt (l.map Qe)]
def QN(p:Pl)(e:En)(fr:Int)(i:Nat):List Sp:=(e.al.take i).filter (oT p e fr)
def FP(p:Pl)(e:En)(fr:Int)(hc:p.cls.length<=1000000)(gD:p.sh.length<=1000000000)(cH:p.aM.length<=1000000000)(ey:e.al.length<=8796093022208):
  ∃rt,Pure Tryz.prog az 132 [.agg (Qc p),.agg (Qd e),I fr] (.agg (jq p e fr rt (e.al.filter (oT p e fr)))):=by
 refine⟨if e.al.filter (oT p e fr)=[]then .nil else .ro,Qn ace (fun _ _ _=>.gd false .junk) (by simp) ?_⟩;simp[TB,Qc,Qd];refine sj Y0 p 209 [.ptr 4 0,.ptr 1 0] (fun i=>Xw p e.it i fr e.fr) _ _ ?_ fun bx=>?_
 ·rintro i mm _ _ ⟨bx,rfl⟩ K' h;exact X1 Y0 p e i fr _ 0 2 1 4 hc gD cH (by simp[Qc]) (by simp) (by simp[Qd]) (by simp) K' h
 have hM:Uo (fun i=>Xw p e.it i fr e.fr) (min p.rg 8).toNat=evM p e fr:=rfl;simp[hM]
 refine Qj qi (fun f mm=>∃(i:Nat)(bx:List (List AV))(Lm:List Nat)(rt:Rt),f 27=I i/\i<=e.al.length/\mm=⟨Qc p::Qd e::[I fr]::[I 0,I 0,I 0,I 0,I 0,I 0,.sl .nil []]::[.fn 208 [] [.ptr 0 0,.ptr 2 0,.ptr 1 0]]::jq p e fr rt (QN p e fr i)::bx,Lm,fun _=>.gone,0⟩/\
  (QN p e fr i=[]/\rt=.nil\/QN p e fr i≠[]/\∃k,rt=.own k 2/\Lm[k]?=some (QN p e fr i).length)) (fun f _=>e.al.length-(numOf (f 27)).toNat) ?_ ?_
 ·refine⟨0,bx,[],.nil,by simp,by omega,?_,.inl ⟨by simp[QN],rfl⟩⟩;simp[Qc,Qd,jq,QN]
 rintro f mm ⟨i,bx,Lm,rt,h27,hi,rfl,aT⟩;rcases zzaa i e.al.length with ai|bB
 ·obtain⟨x,hx⟩:=aR ai;have aa:=Zd hx;have ah:(i:Int)<(e.al.length:Int):=by omega
  have hw:=bJ i (by omega)
  have bz:QN p e fr (i+1)=QN p e fr i++if oT p e fr x then[x]else[]:=by
   unfold QN;rw[zzar,hx,zzcp];simp only[Option.toList,zzer,List.filter_nil]
  generalize hG:QN p e fr i=G at*
  by_cases c1:1<=x.1
  ·by_cases c2:x.1<p.rg
   ·have hpm:=fun mm h1 h2 h3=>FQ Y0 p e x.2 x.1 fr mm 0 2 1 hc gD cH h1 h2 h3;simp[h27,Qc,Qd,jq,aa,ah,qi,c1,c2,hw];have hGl:G.length<=i:=by rw[<- hG];unfold QN;exact zzbq (zzbn _ _) (by rw[zzaq];omega)
    refine hpm _ rfl rfl rfl _ ?_;have hA:oT p e fr x=Xw p x.2 x.1 fr e.fr:=by simp[oT,c1,c2]
    rw[hA]at bz;cases hb:Xw p x.2 x.1 fr e.fr with
    |false=>
     rw[hb]at bz;simp only[zzbs,if_false,zzat]at bz;simp;refine⟨aN,⟨i+1,by omega,by omega,bx++[[I x.1,I x.2]],Lm,rt,by rw[bz];simp,by rw[bz];exact aT⟩,by omega⟩
    |true=>
     rw[hb]at bz;simp only[if_true]at bz;obtain⟨h1,rfl⟩|⟨h1,k,rfl,hk⟩:=aT
     ·subst h1;simp only[zzai]at bz;simp;refine⟨aN,⟨i+1,by omega,by omega,bx++[[I x.1,I x.2]],Lm++[1],.own Lm.length 2,by rw[bz];simp[Qe],by rw[bz];exact .inr ⟨by simp,_,rfl,by simp⟩⟩,by omega⟩
     simp[hk];refine⟨⟨by rintro row (⟨a,b,_,rfl⟩|rfl)<;>rfl,by omega⟩,ag ?_,⟨i+1,by omega,by omega,bx++[[I x.1,I x.2]],Lm.set k (G.length+1),.own k 2,by rw[bz];simp[Qe],by rw[bz];exact .inr ⟨by simp,_,rfl,by rw[zzaz ((zza.1 hk).1)];simp⟩⟩,by omega⟩;repeat(first|exact Qa _ _|refine Qb _ rfl ?_)
   have hA:oT p e fr x=false:=by simp[oT,c2]
   simp[h27,Qc,Qd,jq,aa,ah,qi,c1,c2,hw];rw[hA]at bz;simp only[zzbs,if_false,zzat]at bz;refine⟨aN,⟨i+1,by omega,by omega,bx++[[I x.1,I x.2]],Lm,rt,by rw[bz];simp,by rw[bz];exact aT⟩,by omega⟩
  have hA:oT p e fr x=false:=by simp[oT,c1]
  simp[h27,Qc,Qd,jq,aa,ah,qi,c1,hw];rw[hA]at bz;simp only[zzbs,if_false,zzat]at bz;refine⟨aN,⟨i+1,by omega,by omega,bx++[[I x.1,I x.2]],Lm,rt,by rw[bz];simp,by rw[bz];exact aT⟩,by omega⟩
 obtain rfl:i=e.al.length:=by omega
 have hE:QN p e fr e.al.length=e.al.filter (oT p e fr):=by simp[QN]
 rw[hE]at aT;generalize e.al.filter (oT p e fr)=G at*
 obtain⟨h1,rfl⟩|⟨h1,k,rfl,hk⟩:=aT
 ·simp[h27,Qc,Qd,jq,qi,TC,h1,hE]
 simp[h27,Qc,Qd,jq,qi,TC,h1,hE]
def aeP(p:Pl)(e:En)(fr:Int):AV:=.agg (jq p e fr .ro (e.al.filter (oT p e fr)))
def KN(p:Pl)(e:En)(fr:Int)(hc:p.cls.length<=1000000)(gD:p.sh.length<=1000000000)(cH:p.aM.length<=1000000000)(ey:e.al.length<=8796093022208):
  Pure Tryz.prog az 132 [.agg (Qc p),.agg (Qd e),I fr] (aeP p e fr):=by
 obtain⟨rt,h⟩:=FP p e fr hc gD cH ey;exact Qy h (Qdg ⟨Wk.refl _,Wk.refl _,Wk.refl _,Wk.refl _,Wk.refl _,Wk.refl _,Wk.sl _ _,trivial⟩)
open Go Go.Abs
structure bE where
 id:Int
 it:Int
 st:Int
 fr:Int
 i:Int
 re:Int
 al:List Sp
 nl:Bool
def Zt(e:bE):List AV:=[I e.id,I e.it,I e.st,I e.fr,I e.i,I e.re,.sl (if e.nl then .nil else .ro) (e.al.map Qe)]
def Vh(p:Pl)(x:Int×Int):bE:=⟨0,p.fi,x.1,x.2,0,FR p,[],true⟩
def FT(p:Pl)(e:En)(fr:Int):bE:=⟨e.id,e.it,fr,e.fr,0,evM p e fr,e.al.filter (oT p e fr),false⟩
def nE(p:Pl)(m:AM)(L:List bE):Prop:=1<m.boxes.length/\Qh m.boxes 0=Qc p/\∃rt,Qh m.boxes 1=[.sl rt (L.map Zt)]/\(L=[]/\rt=.nil\/L≠[]/\∃k,rt=.own k 7/\m.lens[k]?=some L.length)
def nE.XW{p:Pl}{m m':AM}{L:List bE}{O:Nat->Prop}(h:nE p m L)(e:bM O m m')(h0:¬O 0)(h1:¬O 1):nE p m' L:=by
 obtain⟨a1,a2,rt,a3,a4⟩:=h;obtain⟨e1,e2,⟨lx,e3⟩,_⟩:=e;refine⟨by omega,by rw[e2 0 (by omega) h0];exact a2,rt,by rw[e2 1 a1 h1];exact a3,?_⟩;obtain h|⟨hn,k,hk,hl⟩:=a4
 ·exact .inl h
 exact .inr ⟨hn,k,hk,by rw[e3,zzah (zza.1 hl).1];exact hl⟩
def arJ:SC:=(⟨_,by cbv⟩:vO [1,1,1,0,1,0,0,1,1,0,0,1,1,1,0,1,0] II).1
def amk(Y:YT)(p:Pl)(a t:Int)(hl:p.aM.length<=1000000000)(hb: -1000000000<=a/\t<=1000000000)(hf:a<=1000000000/\ -1000000000<=t)(orc:Nat->FuncId->List AV->AV)(ho:∀d l,orc d 999999 l=.junk)(E:List (Nat×AV))(m:AM)(L:List bE)
  (hO:nE p m L)(hL:L.length+(Vw (Yb p) t a).length<=1000000000)(hg:Abs.look E 67=.fn 205 [] [.ep (Qc p) 0,.ep [I a] 0,.ep [I t] 0])(h7:Abs.look E 7=.ptr 1 0)(Q:Exit->AS->Prop)
  (hQ:∀m',nE p m' (L++(Vw (Yb p) t a).map (Vh p))->m.boxes.length<=m'.boxes.length->(∀j,2<=j->j<m.boxes.length->Qh m'.boxes j=Qh m.boxes j)->Q .normal ⟨Zi 98 E,m'⟩):vc Tryz.prog az orc Y arJ ⟨Zi 98 E,m⟩ Q:=by
 have cH:=wK p a t hl hb hf;generalize hX:Vw (Yb p) t a=xs at*
 unfold arJ
 refine qR (xs:=xs.map (Qau p)) (by simp[hg];try exact⟨rfl,rfl⟩) cH (by intro x hx;simp at hx;obtain⟨u,v,_,rfl⟩:=hx;rfl)
  (fun O i mm=>(∀j,O j->m.boxes.length<=j)/\nE p mm (L++(xs.take i).map (Vh p))/\m.boxes.length<=mm.boxes.length/\(∀j,2<=j->j<m.boxes.length->Qh mm.boxes j=Qh m.boxes j)) (fun _ _ _=>False) ?_ ?_ (fun _ _ _ _ h=>h.elim) ?_ ?_ (fun _ _ _ h=>h.elim)
 ·exact⟨fun _ h=>h.elim,by rw[zzhf,zzce,zzat];exact hO,zzab _,fun _ _ _=>rfl⟩
 ·rintro O i m1 m2 ⟨h1,h2,h3,h4⟩ e;have Cd:=hO.1;refine⟨?_,h2.XW e (fun h=>by have:=h1 _ h;omega) (fun h=>by have:=h1 _ h;omega),zzbq h3 e.1,fun j j1 j2=>by rw[e.2.1 j (by omega) (fun h=>by have:=h1 _ h;omega)];exact h4 j j1 j2⟩;rintro j (h|h)
  ·exact h1 j h
  omega
 ·rintro O l i mm x tj cc hg0 gC ⟨h1,h2,h3,h4⟩ hx K' q1 _ _;rw[zzbp,zzcd]at hx;obtain⟨x,hx,rfl⟩:=hx;have fR:=(zza.1 hx).1;have bz:L++(xs.take (i+1)).map (Vh p)=(L++(xs.take i).map (Vh p))++[Vh p x]:=by rw[zzar,hx];simp
  have hml:=hO.1;have aH:(L++(xs.take i).map (Vh p)).length<=1000000000:=by simp;omega
  obtain⟨o1,o2,rt,o3,o4⟩:=h2;simp only[Ub,Cs]at o1 o2 o3 o4 h3 h4;have lD:∀y,Qh (mm.boxes++y) 1=[.sl rt ((L++(xs.take i).map (Vh p)).map Zt)]:=fun y=>by rw[Ql (by omega)];exact o3
  have tV:∀y,Qh (mm.boxes++[y]) mm.boxes.length=y:=fun y=>by
   simp
  have fin:∀(T:List AV)(v:List AV)(row:List AV)(ls:List Nat)(st:Nat->LS)(ln:Nat),nE p ⟨(mm.boxes++[row]).set 1 v,ls,st,ln⟩ (L++(xs.take (i+1)).map (Vh p))->K' .normal ⟨T,⟨(mm.boxes++[row]).set 1 v,ls,st,ln⟩⟩:=by
   intro T v row ls st ln hv;refine q1 _ ⟨by simp,fun j hj=>?_⟩ ⟨h1,hv,by simp;omega,fun j j1 j2=>?_⟩
   ·have:=(tj j hj).2;have:=h1 j hj;show Qh ((mm.boxes++[row]).set 1 v) j=_;rw[Zv _ (by omega),Ql (by omega)]
   show Qh ((mm.boxes++[row]).set 1 v) j=_;rw[Zv _ (by omega),Ql (by omega)];exact h4 j j1 j2
  have CJ:∀(v row:List AV),Qh ((mm.boxes++[row]).set 1 v) 0=Qc p/\Qh ((mm.boxes++[row]).set 1 v) 1=v:=fun v row=>⟨by rw[Zv _ (by omega),Ql (by omega)];exact o2,Vp _ (by simp;omega)⟩;rw[bz]at fin;generalize L++(xs.take i).map (Vh p)=G at*
  have hG7:∀row∈G.map Zt,row.length=7:=by
   intro row h;obtain⟨e,_,rfl⟩:=zzay.1 h;rfl
  obtain⟨rfl,rfl⟩|⟨aJ,k,rfl,hk⟩:=o4
  ·simp[gC,Zj,Qau,h7,lD,tV,ho];subst_vars;exact⟨by omega,fin _ _ _ _ _ _ ⟨by simp;omega,(CJ _ _).1,_,(CJ _ _).2,.inr ⟨by simp,_,rfl,by simp⟩⟩⟩
  simp[gC,Zj,Qau,h7,lD,tV,ho];refine⟨⟨hk,?_,by omega⟩,by omega,fin _ _ _ _ _ _ ⟨by simp;omega,(CJ _ _).1,_,by rw[(CJ _ _).2];simp;rfl,.inr ⟨by simp,k,rfl,by simp[(zza.1 hk).1]⟩⟩⟩;rintro row (⟨e,_,rfl⟩|rfl)<;>rfl
 rintro mm' mm ⟨h1,h2,h3,h4⟩;rw[zzbe,zzbm]at h2;exact hQ _ h2 h3 h4
def arK:SC:=(⟨_,by cbv⟩:vO [1,1,1,1,0,1,0] II).1
def aml(Y:YT)(p:Pl)(a t:Int)(hl:p.aM.length<=1000000000)(hb: -1000000000<=a/\t<=1000000000)(hf:a<=1000000000/\ -1000000000<=t)(orc:Nat->FuncId->List AV->AV)(ho:∀d l,orc d 999999 l=.junk)(E:List (Nat×AV))(m:AM)(L:List bE)
  (hO:nE p m L)(hL:L.length+(Vw (Yb p) t a).length<=1000000000)(hg:Abs.look E 91=.fn 205 [] [.ep (Qc p) 0,.ep [I a] 0,.ep [I t] 0])(h7:Abs.look E 7=.ptr 1 0)(Q:Exit->AS->Prop)
  (hQ:∀m',nE p m' (L++(Vw (Yb p) t a).map (Vh p))->m.boxes.length<=m'.boxes.length->(∀j,2<=j->j<m.boxes.length->Qh m'.boxes j=Qh m.boxes j)->Q .normal ⟨Zi 98 E,m'⟩):vc Tryz.prog az orc Y arK ⟨Zi 98 E,m⟩ Q:=by
 have cH:=wK p a t hl hb hf;generalize hX:Vw (Yb p) t a=xs at*
 unfold arK
 refine qR (xs:=xs.map (Qau p)) (by simp[hg];try exact⟨rfl,rfl⟩) cH (by intro x hx;simp at hx;obtain⟨u,v,_,rfl⟩:=hx;rfl)
  (fun O i mm=>(∀j,O j->m.boxes.length<=j)/\nE p mm (L++(xs.take i).map (Vh p))/\m.boxes.length<=mm.boxes.length/\(∀j,2<=j->j<m.boxes.length->Qh mm.boxes j=Qh m.boxes j)) (fun _ _ _=>False) ?_ ?_ (fun _ _ _ _ h=>h.elim) ?_ ?_ (fun _ _ _ h=>h.elim)
 ·exact⟨fun _ h=>h.elim,by rw[zzhf,zzce,zzat];exact hO,zzab _,fun _ _ _=>rfl⟩
 ·rintro O i m1 m2 ⟨h1,h2,h3,h4⟩ e;have Cd:=hO.1;refine⟨?_,h2.XW e (fun h=>by have:=h1 _ h;omega) (fun h=>by have:=h1 _ h;omega),zzbq h3 e.1,fun j j1 j2=>by rw[e.2.1 j (by omega) (fun h=>by have:=h1 _ h;omega)];exact h4 j j1 j2⟩;rintro j (h|h)
  ·exact h1 j h
  omega
 ·rintro O l i mm x tj cc hg0 gC ⟨h1,h2,h3,h4⟩ hx K' q1 _ _;rw[zzbp,zzcd]at hx;obtain⟨x,hx,rfl⟩:=hx;have fR:=(zza.1 hx).1;have bz:L++(xs.take (i+1)).map (Vh p)=(L++(xs.take i).map (Vh p))++[Vh p x]:=by rw[zzar,hx];simp
  have hml:=hO.1;have aH:(L++(xs.take i).map (Vh p)).length<=1000000000:=by simp;omega
  obtain⟨o1,o2,rt,o3,o4⟩:=h2;simp only[Ub,Cs]at o1 o2 o3 o4 h3 h4;have lD:∀y,Qh (mm.boxes++y) 1=[.sl rt ((L++(xs.take i).map (Vh p)).map Zt)]:=fun y=>by rw[Ql (by omega)];exact o3
  have tV:∀y,Qh (mm.boxes++[y]) mm.boxes.length=y:=fun y=>by
   simp
  have fin:∀(T:List AV)(v:List AV)(row:List AV)(ls:List Nat)(st:Nat->LS)(ln:Nat),nE p ⟨(mm.boxes++[row]).set 1 v,ls,st,ln⟩ (L++(xs.take (i+1)).map (Vh p))->K' .normal ⟨T,⟨(mm.boxes++[row]).set 1 v,ls,st,ln⟩⟩:=by
   intro T v row ls st ln hv;refine q1 _ ⟨by simp,fun j hj=>?_⟩ ⟨h1,hv,by simp;omega,fun j j1 j2=>?_⟩
   ·have:=(tj j hj).2;have:=h1 j hj;show Qh ((mm.boxes++[row]).set 1 v) j=_;rw[Zv _ (by omega),Ql (by omega)]
   show Qh ((mm.boxes++[row]).set 1 v) j=_;rw[Zv _ (by omega),Ql (by omega)];exact h4 j j1 j2
  have CJ:∀(v row:List AV),Qh ((mm.boxes++[row]).set 1 v) 0=Qc p/\Qh ((mm.boxes++[row]).set 1 v) 1=v:=fun v row=>⟨by rw[Zv _ (by omega),Ql (by omega)];exact o2,Vp _ (by simp;omega)⟩;rw[bz]at fin;generalize L++(xs.take i).map (Vh p)=G at*
  have hG7:∀row∈G.map Zt,row.length=7:=by
   intro row h;obtain⟨e,_,rfl⟩:=zzay.1 h;rfl
  obtain⟨rfl,rfl⟩|⟨aJ,k,rfl,hk⟩:=o4
  ·simp[gC,Zj,Qau,h7,lD,tV,ho];subst_vars;exact⟨by omega,fin _ _ _ _ _ _ ⟨by simp;omega,(CJ _ _).1,_,(CJ _ _).2,.inr ⟨by simp,_,rfl,by simp⟩⟩⟩
  simp[gC,Zj,Qau,h7,lD,tV,ho];refine⟨⟨hk,?_,by omega⟩,by omega,fin _ _ _ _ _ _ ⟨by simp;omega,(CJ _ _).1,_,by rw[(CJ _ _).2];simp;rfl,.inr ⟨by simp,k,rfl,by simp[(zza.1 hk).1]⟩⟩⟩;rintro row (⟨e,_,rfl⟩|rfl)<;>rfl
 rintro mm' mm ⟨h1,h2,h3,h4⟩;rw[zzbe,zzbm]at h2;exact hQ _ h2 h3 h4
def AN(fr t:Int):∀(n:Nat)(a:Int),(t-a).toNat<=n->((Vw fr t a).length:Int)<=max 0 (t-a):=by
 intro n;induction n with
 |zero=>intro a h;rw[Vw,if_neg (by omega)];simp only[zzcf];omega
 |succ n ih=>
  intro a h;rw[Vw];split
  ·rename_i ai;have hN:1<=Ur fr t a/\Ur fr t a<=t-a:=by unfold Ur;split<;>omega
   have:=ih (a+Ur fr t a) (by omega);simp only[zzba];omega
  simp only[zzcf];omega
def nE.app{p:Pl}{m:AM}{L:List bE}(h:nE p m L)(x:List (List AV)):nE p ⟨m.boxes++x,m.lens,m.st,m.ln⟩ L:=by
 obtain⟨a1,a2,rt,a3,a4⟩:=h;exact⟨by simp;omega,by show Qh (m.boxes++x) 0=_;rw[Ql (by omega)];exact a2,rt,by show Qh (m.boxes++x) 1=_;rw[Ql (by omega)];exact a3,a4⟩
open Go Go.Abs
def oU(p:Pl)(s:Sp)(at_:Int):Option En:=match Zf s.1 p.ens with
 |some e=>if s.1=0\/e.fr<1\/s.2<at_\/p.ln-s.2<e.fr then none else some e
 |none=>none
def zi(p:Pl):List Sp->Int->List bE
 |[],at_=>(Vw (Yb p) p.ln at_).map (Vh p)
 |s::r,at_=>match oU p s at_ with
  |none=>zi p r at_
  |some e=>((Vw (Yb p) s.2 at_).map (Vh p)++[FT p e s.2])++zi p r (s.2+e.fr)
def jr(p:Pl)(l:List Sp)(at_:Int):List bE:=if at_<0\/p.ln<at_ then[]else zi p l at_
def oV(p:Pl):Nat->FuncId->List AV->AV:=fun d f l=>
 if f=999999 then .junk else
 if f=130 then(match l with|[_,.int _ n]=>Ww (Zf n p.ens)|_=>.junk)else
 if f=131 then(match l with|[_,.int _ a,.int _ t]=>.fn 205 [] [.ep (Qc p) 0,.ep [I a] 0,.ep [I t] 0]|_=>.junk)else
 if f=132 then(match l with|[_,.agg [.int _ a,.int _ b,.int _ c,.int _ d,.int _ e,.int _ g,.sl _ rows],.int _ fr]=>aeP p ⟨a,b,c,d,e,g,rows.map tC⟩ fr|_=>.junk)else .gd false .junk
def jt{id:Int}{x:En}:∀{l:List En},Zf id l=some x->x∈l/\x.id=id
 |[],h=>by cases h
 |y::r,h=>by
  simp only[Zf]at h;split at h
  ·rename_i hy;cases h;exact⟨by simp,hy⟩
  obtain⟨h1,h2⟩:=jt h;exact⟨by simp[h1],h2⟩
def KO(p:Pl)(l:List Sp)(FU:Int)(hc:p.cls.length<=1000000)(gD:p.sh.length<=1000000000)(cH:p.aM.length<=1000000000)(Ip:p.ens.length<=1000000000)(ey:∀e∈p.ens,e.al.length<=8796093022208)
  (dm:p.ln<=1000000)(hl:l.length<=1000000)(mU:∀s∈l,-1000000000<=s.2/\s.2<=1000000000):∃rt,Pure Tryz.prog az 62 [.agg (Qc p),.sl .ro (l.map Qe),I FU] (.sl rt ((jr p l FU).map Zt)):=by
 by_cases c0:FU<0\/p.ln<FU
 ·refine⟨.nil,Qn Tn (oV p) (by simp) ?_⟩;rw[jr,if_pos c0];by_cases c1:FU<0
  ·simp[II,Tm,Qc,c1]
  have c2:p.ln<FU:=by omega
  simp[II,Tm,Qc,c1,c2]
 refine⟨if zi p l FU=[]then .nil else .ro,Qn Tn (oV p) (by simp) ?_⟩;rw[jr,if_neg c0];simp only[not_or]at c0;have c1:¬FU<0:=c0.1;have c2:¬p.ln<FU:=c0.2;simp[II,Qc,c1,c2];refine Qj ob (fun f mm=>∃(i:Nat)(at_:Int)(L:List bE),f 24=I i/\f 2=I at_/\i<=l.length/\nE p mm L/\0<=at_/\at_<=p.ln/\(L.length:Int)<=at_/\L++zi p (l.drop i) at_=zi p l FU) (fun f _=>l.length-(numOf (f 24)).toNat) ?_ ?_
 ·exact⟨0,FU,[],by simp,by simp,by omega,⟨by simp,by simp[Qc],.nil,by simp,.inl ⟨rfl,rfl⟩⟩,by omega,by omega,by simp;omega,by simp⟩
 rintro f mm ⟨i,at_,L,h24,h2,hi,hO,a1,a2,a3,hI⟩;rcases zzaa i l.length with ai|bB
 ·obtain⟨s,hs⟩:=aR ai;have aa:=Zd hs;have SV:=mU s (zzac hs);have ah:(i:Int)<(l.length:Int):=by omega
  have hw:=bJ i (by omega);have ee:IntKind.i64.wrap (p.ln-s.2)=p.ln-s.2:=by rw[Qi]<;>omega
  rw[Xz hs,zi]at hI;have KP:=KQ p s.1 Ip ey;have hO':=hO;obtain⟨o1,o2,rt,o3,o4⟩:=hO';have r0:∀y,Qh (mm.boxes++y) 0=Qc p:=fun y=>by rw[Ql (by omega)];exact o2
  have r1:∀y,Qh (mm.boxes++y) 1=[.sl rt (L.map Zt)]:=fun y=>by rw[Ql o1];exact o3
  simp only[Qc]at r0;cases hf:Zf s.1 p.ens with
  |none=>
   simp only[oU,hf]at hI;rw[hf]at KP;by_cases c3:s.1=0
   ·rw[c3]at hf KP;simp[h24,h2,ob,ah,aa,r0,oV,hf,Ww,hw,c3];refine⟨KP,aN,⟨i+1,by simp,by omega,L,hO.app _,a1,a2,a3,hI⟩,by omega⟩
   simp[h24,h2,ob,ah,aa,r0,oV,hf,Ww,hw,c3];refine⟨KP,aN,⟨i+1,by simp,by omega,L,hO.app _,a1,a2,a3,hI⟩,by omega⟩
  |some e=>
   rw[hf]at KP;simp only[oU,hf]at hI;by_cases c3:s.1=0
   ·rw[if_pos (.inl c3)]at hI;rw[c3]at hf KP;simp[h24,h2,ob,ah,aa,r0,oV,hf,Ww,Qd,hw,c3];refine⟨KP,aN,⟨i+1,by simp,by omega,L,hO.app _,a1,a2,a3,hI⟩,by omega⟩
   by_cases c4:e.fr<1
   ·rw[if_pos (.inr (.inl c4))]at hI;simp[h24,h2,ob,ah,aa,r0,oV,hf,Ww,Qd,hw,c3,c4];refine⟨KP,aN,⟨i+1,by simp,by omega,L,hO.app _,a1,a2,a3,hI⟩,by omega⟩
   by_cases c5:s.2<at_
   ·rw[if_pos (.inr (.inr (.inl c5)))]at hI;simp[h24,h2,ob,ah,aa,r0,oV,hf,Ww,Qd,hw,c3,c4,c5];refine⟨KP,aN,⟨i+1,by simp,by omega,L,hO.app _,a1,a2,a3,hI⟩,by omega⟩
   by_cases c6:p.ln-s.2<e.fr
   ·rw[if_pos (.inr (.inr (.inr c6)))]at hI;simp[h24,h2,ob,ah,aa,r0,oV,hf,Ww,Qd,hw,ee,c3,c4,c5,c6];refine⟨KP,aN,⟨i+1,by simp,by omega,L,hO.app _,a1,a2,a3,hI⟩,by omega⟩
   rw[if_neg (by omega)]at hI;simp[h24,h2,ob,ah,aa,r0,oV,hf,Ww,Qd,ee,c3,c4,c5,c6];have QO:=wL p at_ s.2;have gj:=AN (Yb p) s.2 _ at_ (zzab _);refine⟨KP,QO,?_⟩;refine amk Y0 p at_ s.2 cH (by omega) (by omega) (oV p) (fun _ _=>rfl) _ _ L (hO.app _) (by omega) (by simp) (by simp) _ ?_;intro m' KR cc dY
   have Rs:Qh m'.boxes mm.boxes.length=[I s.1,I s.2]:=by
    rw[dY _ (by omega) (by simp)];simp
   have Re:Qh m'.boxes (mm.boxes.length+1)=Qd e:=by
    rw[dY _ (by omega) (by simp)];simp[Qd]
   simp only[Qd]at Re;obtain⟨p1,p2,JH,p3,p4⟩:=KR;have p2':=p2;have b1:∀v,Qh (m'.boxes.set 1 v) 1=v:=fun v=>Vp v p1;have b0:∀v,Qh (m'.boxes.set 1 v) 0=Qc p:=fun v=>by rw[Zv v (by omega)];exact p2
   have bs:∀v,Qh (m'.boxes.set 1 v) mm.boxes.length=[I s.1,I s.2]:=fun v=>by rw[Zv v (by omega)];exact Rs
   have be:∀v,Qh (m'.boxes.set 1 v) (mm.boxes.length+1)=[I e.id,I e.it,I e.fr,I e.ea,I e.la,I e.bo,.sl .ro (e.al.map Qe)]:=fun v=>by rw[Zv v (by omega)];exact Re
   simp only[Qc]at p2';have hG:((L++(Vw (Yb p) s.2 at_).map (Vh p)).length:Int)<=s.2:=by simp;omega
   have hI2:(L++(Vw (Yb p) s.2 at_).map (Vh p)++[FT p e s.2])++zi p (l.drop (i+1)) (s.2+e.fr)=zi p l FU:=by rw[<- hI];simp
   generalize L++(Vw (Yb p) s.2 at_).map (Vh p)=G at*
   have k32:=KN p e s.2 hc gD cH (ey e (jt hf).1);have CI:IntKind.i64.wrap (s.2+e.fr)=s.2+e.fr:=by rw[Qi]<;>omega
   obtain⟨g1,rfl⟩|⟨g1,k,rfl,hk⟩:=p4
   ·subst g1;simp[h24,p2',p3,Rs,Re,bs,be,p1,oV,aeP,jq,hw,CI];rw[zzai]at hI2;refine⟨k32,aN,⟨i+1,by simp,by omega,[FT p e s.2],⟨by simp;omega,b0 _,_,b1 _,.inr ⟨by simp,_,rfl,by simp⟩⟩,by omega,by omega,by simp;omega,hI2⟩,by omega⟩
   simp[h24,p2',p3,Rs,Re,bs,be,p1,oV,aeP,jq,hw,CI];refine⟨k32,⟨hk,by rintro row (⟨a,_,rfl⟩|rfl)<;>rfl,by omega⟩,ag ?_,⟨i+1,by simp,by omega,G++[FT p e s.2],⟨by simp;omega,b0 _,_,by rw[b1];simp[Zt,FT],.inr ⟨by simp,k,rfl,by simp[(zza.1 hk).1]⟩⟩,by omega,by omega,by simp;omega,hI2⟩,by omega⟩;repeat(first|exact Qa _ _|refine Qb _ rfl ?_)
 obtain rfl:i=l.length:=by omega
 have QO:=wL p at_ p.ln;have gj:=AN (Yb p) p.ln _ at_ (zzab _);rw[zzbr,zi]at hI;obtain⟨o1,o2,rt,o3,o4⟩:=id hO;simp only[Qc]at o2;simp[h24,h2,ob,o2,oV];refine⟨QO,?_⟩;refine aml Y0 p at_ p.ln cH (by omega) (by omega) (oV p) (fun _ _=>rfl) _ _ L hO (by omega) (by simp) (by simp) _ ?_;intro m' KR cc dY;rw[hI]at KR;obtain⟨p1,p2,JH,p3,p4⟩:=KR;generalize zi p l FU=G at*
 obtain⟨g1,rfl⟩|⟨g1,k,rfl,hk⟩:=p4
 ·subst g1;simp[p3,Tm]
 simp[p3,Tm,g1]
def Qf(e:bE):List AV:=[I e.id,I e.it,I e.st,I e.fr,I e.i,I e.re,.sl .ro (e.al.map Qe)]
def KS(L:List bE):Wk (.sl .ro (L.map Zt)) (.sl .ro (L.map Qf)):=by
 refine Wk.rows L Zt Qf (fun _=>rfl) fun a j c' h=>?_
 match j,h with
 |0,h=>exact⟨_,rfl,by cases h;exact Wk.refl _⟩
 |1,h=>exact⟨_,rfl,by cases h;exact Wk.refl _⟩
 |2,h=>exact⟨_,rfl,by cases h;exact Wk.refl _⟩
 |3,h=>exact⟨_,rfl,by cases h;exact Wk.refl _⟩
 |4,h=>exact⟨_,rfl,by cases h;exact Wk.refl _⟩
 |5,h=>exact⟨_,rfl,by cases h;exact Wk.refl _⟩
 |6,h=>exact⟨_,rfl,by cases h;exact Wk.sl _ _⟩
 |j+7,h=>simp[Qf]at h
def Wk.trans{a b c:AV}(h:Wk a b)(k:Wk b c):Wk a c:=fun w γ v hr=>k w γ v (h w γ v hr)
def sk(p:Pl)(l:List Sp)(FU:Int)(hc:p.cls.length<=1000000)(gD:p.sh.length<=1000000000)(cH:p.aM.length<=1000000000)(Ip:p.ens.length<=1000000000)(ey:∀e∈p.ens,e.al.length<=8796093022208)
  (dm:p.ln<=1000000)(hl:l.length<=1000000)(mU:∀s∈l,-1000000000<=s.2/\s.2<=1000000000):Pure Tryz.prog az 62 [.agg (Qc p),.sl .ro (l.map Qe),I FU] (.sl .ro ((jr p l FU).map Qf)):=by
 obtain⟨rt,h⟩:=KO p l FU hc gD cH Ip ey dm hl mU;exact Qy h (Wk.trans (Wk.sl _ _) (KS _))
end
end Go.Proofs.YtnopaopphmjnmaaGreatDoor
