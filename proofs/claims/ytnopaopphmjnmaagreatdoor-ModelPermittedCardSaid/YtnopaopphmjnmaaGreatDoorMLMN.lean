import Derived.Test.YtnopaopphmjnmaaGreatDoorMLMM
set_option linter.all false
set_option maxRecDepth 100000
set_option maxHeartbeats 64000000
namespace Go.Proofs.YtnopaopphmjnmaaGreatDoor
noncomputable section
open Go Go.Abs
def nQ(p:Pl)(e:En)(fr:Int)(s:Sp):Bool:=decide (1<=s.1)&&decide (s.1<p.rg)&&Xo p s.2 s.1 fr e.fr
def evM(p:Pl)(e:En)(fr:Int):Int:=Uk (fun i=>Xo p e.it i fr e.fr) (min p.rg 8).toNat
def IG(p:Pl)(e:En)(fr:Int)(rt:Rt)(l:List Sp):List AV:=[I e.id,I e.it,I fr,I e.fr,I 0,I (evM p e fr),.sl rt (l.map Qe)]
def Ri(p:Pl)(e:En)(fr:Int)(i:Nat):List Sp:=(e.al.take i).filter (nQ p e fr)
def F3(p:Pl)(e:En)(fr:Int)(hc:p.cls.length<=1000000)(gK:p.sh.length<=1000000000)(cm:p.aL.length<=1000000000)(eu:e.al.length<=8796093022208):
  ∃rt,Pure Tryz.prog az 132 [.agg (Qb p),.agg (Qd e),I fr] (.agg (IG p e fr rt (e.al.filter (nQ p e fr)))):=by
 refine⟨if e.al.filter (nQ p e fr)=[]then .nil else .ro,Qn acD (fun _ _ _=>.gd false .junk) (by simp) ?_⟩;simp[T1,Qb,Qd];refine sK Y0 p 209 [.ptr 4 0,.ptr 1 0] (fun i=>Xo p e.it i fr e.fr) _ _ ?_ fun bx=>?_
 ·rintro i mm _ _ ⟨bx,rfl⟩ K' h;exact YU Y0 p e i fr _ 0 2 1 4 hc gK cm (by simp[Qb]) (by simp) (by simp[Qd]) (by simp) K' h
 have hM:Uk (fun i=>Xo p e.it i fr e.fr) (min p.rg 8).toNat=evM p e fr:=rfl;simp[hM]
 refine Qi qz (fun f mm=>∃(i:Nat)(bx:List (List AV))(Lm:List Nat)(rt:Rt),f 27=I i/\i<=e.al.length/\mm=⟨Qb p::Qd e::[I fr]::[I 0,I 0,I 0,I 0,I 0,I 0,.sl .nil []]::[.fn 208 [] [.ptr 0 0,.ptr 2 0,.ptr 1 0]]::IG p e fr rt (Ri p e fr i)::bx,Lm,fun _=>.gone,0⟩/\
  (Ri p e fr i=[]/\rt=.nil\/Ri p e fr i≠[]/\∃k,rt=.own k 2/\Lm[k]?=some (Ri p e fr i).length)) (fun f _=>e.al.length-(numOf (f 27)).toNat) ?_ ?_
 ·refine⟨0,bx,[],.nil,by simp,by omega,?_,.inl ⟨by simp[Ri],rfl⟩⟩;simp[Qb,Qd,IG,Ri]
 rintro f mm ⟨i,bx,Lm,rt,h27,hi,rfl,aR⟩;rcases zzaa i e.al.length with ai|bu
 ·obtain⟨x,hx⟩:=aS ai;have ah:=Zc hx;have aa:(i:Int)<(e.al.length:Int):=by omega
  have hw:=bJ i (by omega)
  have bB:Ri p e fr (i+1)=Ri p e fr i++if nQ p e fr x then[x]else[]:=by
   unfold Ri;rw[zzas,hx,zzcu];simp only[Option.toList,zzdu,List.filter_nil]
  generalize hG:Ri p e fr i=G at*
  by_cases c1:1<=x.1
  ·by_cases c2:x.1<p.rg
   ·have hpm:=fun mm h1 h2 h3=>F1 Y0 p e x.2 x.1 fr mm 0 2 1 hc gK cm h1 h2 h3;simp[h27,Qb,Qd,IG,ah,aa,ai,qz,c1,c2,hw];have hGl:G.length<=i:=by rw[<- hG];unfold Ri;exact zzbn (zzbr _ _) (by rw[zzaq];omega)
    refine hpm _ rfl rfl rfl _ ?_;have hA:nQ p e fr x=Xo p x.2 x.1 fr e.fr:=by simp[nQ,c1,c2]
    rw[hA]at bB;cases hb:Xo p x.2 x.1 fr e.fr with
    |false=>
     rw[hb]at bB;simp only[zzbq,if_false,zzau]at bB;simp[hw];refine⟨aO,⟨i+1,by omega,by omega,bx++[[I x.1,I x.2]],Lm,rt,by rw[bB];simp[Qb,Qd,IG],by rw[bB];exact aR⟩,by omega⟩
    |true=>
     rw[hb]at bB;simp only[if_true]at bB;obtain⟨h1,rfl⟩|⟨h1,k,rfl,hk⟩:=aR
     ·subst h1;simp only[zzai]at bB;simp[hw];refine⟨aO,⟨i+1,by omega,by omega,bx++[[I x.1,I x.2]],Lm++[1],.own Lm.length 2,by rw[bB];simp[Qb,Qd,IG,Qe],by rw[bB];exact .inr ⟨by simp,_,rfl,by simp⟩⟩,by omega⟩
     simp[hw,hk];refine⟨⟨by rintro row (⟨a,b,_,rfl⟩|rfl)<;>rfl,by omega⟩,ag ?_,⟨i+1,by omega,by omega,bx++[[I x.1,I x.2]],Lm.set k (G.length+1),.own k 2,by rw[bB];simp[Qb,Qd,IG,Qe],by rw[bB];exact .inr ⟨by simp,_,rfl,by rw[zzb ((zza.1 hk).1)];simp⟩⟩,by omega⟩;repeat(first|exact Qc _ _|refine Qa _ rfl ?_)
   have hA:nQ p e fr x=false:=by simp[nQ,c2]
   simp[h27,Qb,Qd,IG,ah,aa,ai,qz,c1,c2,hw];rw[hA]at bB;simp only[zzbq,if_false,zzau]at bB;refine⟨aO,⟨i+1,by omega,by omega,bx++[[I x.1,I x.2]],Lm,rt,by rw[bB];simp[Qb,Qd,IG],by rw[bB];exact aR⟩,by omega⟩
  have hA:nQ p e fr x=false:=by simp[nQ,c1]
  simp[h27,Qb,Qd,IG,ah,aa,ai,qz,c1,hw];rw[hA]at bB;simp only[zzbq,if_false,zzau]at bB;refine⟨aO,⟨i+1,by omega,by omega,bx++[[I x.1,I x.2]],Lm,rt,by rw[bB];simp[Qb,Qd,IG],by rw[bB];exact aR⟩,by omega⟩
 obtain rfl:i=e.al.length:=by omega
 have hE:Ri p e fr e.al.length=e.al.filter (nQ p e fr):=by simp[Ri]
 rw[hE]at aR;generalize e.al.filter (nQ p e fr)=G at*
 obtain⟨h1,rfl⟩|⟨h1,k,rfl,hk⟩:=aR
 ·simp[h27,Qb,Qd,IG,qz,T2,h1,hE]
 simp[h27,Qb,Qd,IG,qz,T2,h1,hE]
def afc(p:Pl)(e:En)(fr:Int):AV:=.agg (IG p e fr .ro (e.al.filter (nQ p e fr)))
def K3(p:Pl)(e:En)(fr:Int)(hc:p.cls.length<=1000000)(gK:p.sh.length<=1000000000)(cm:p.aL.length<=1000000000)(eu:e.al.length<=8796093022208):
  Pure Tryz.prog az 132 [.agg (Qb p),.agg (Qd e),I fr] (afc p e fr):=by
 obtain⟨rt,h⟩:=F3 p e fr hc gK cm eu;exact Qz h (Qdp ⟨Wk.refl _,Wk.refl _,Wk.refl _,Wk.refl _,Wk.refl _,Wk.refl _,Wk.sl _ _,trivial⟩)
open Go Go.Abs
structure bD where
 id:Int
 it:Int
 st:Int
 fr:Int
 i:Int
 re:Int
 al:List Sp
 nl:Bool
def Zu(e:bD):List AV:=[I e.id,I e.it,I e.st,I e.fr,I e.i,I e.re,.sl (if e.nl then .nil else .ro) (e.al.map Qe)]
def Ve(p:Pl)(x:Int×Int):bD:=⟨0,p.fi,x.1,x.2,0,F0 p,[],true⟩
def zJ(p:Pl)(e:En)(fr:Int):bD:=⟨e.id,e.it,fr,e.fr,0,evM p e fr,e.al.filter (nQ p e fr),false⟩
def nR(p:Pl)(m:AM)(L:List bD):Prop:=1<m.boxes.length/\Qh m.boxes 0=Qb p/\∃rt,Qh m.boxes 1=[.sl rt (L.map Zu)]/\(L=[]/\rt=.nil\/L≠[]/\∃k,rt=.own k 7/\m.lens[k]?=some L.length)
def nR.YK{p:Pl}{m m':AM}{L:List bD}{O:Nat->Prop}(h:nR p m L)(e:bN O m m')(h0:¬O 0)(h1:¬O 1):nR p m' L:=by
 obtain⟨a1,a2,rt,a3,a4⟩:=h;obtain⟨e1,e2,⟨lx,e3⟩,_⟩:=e;refine⟨by omega,by rw[e2 0 (by omega) h0];exact a2,rt,by rw[e2 1 a1 h1];exact a3,?_⟩;obtain h|⟨hn,k,hk,hl⟩:=a4
 ·exact .inl h
 exact .inr ⟨hn,k,hk,by rw[e3,zzag (zza.1 hl).1];exact hl⟩
def asj:SC:=(⟨_,by cbv⟩:tM [1,1,1,0,1,0,0,1,1,0,0,1,1,1,0,1,0] I1).1
def amL(Y:YT)(p:Pl)(a t:Int)(hl:p.aL.length<=1000000000)(hb: -1000000000<=a/\t<=1000000000)(hf:a<=1000000000/\ -1000000000<=t)(orc:Nat->FuncId->List AV->AV)(ho:∀d l,orc d 999999 l=.junk)(E:List (Nat×AV))(m:AM)(L:List bD)
  (hO:nR p m L)(hL:L.length+(Vz (Yi p) t a).length<=1000000000)(hg:Abs.look E 67=.fn 205 [] [.ep (Qb p) 0,.ep [I a] 0,.ep [I t] 0])(h7:Abs.look E 7=.ptr 1 0)(Q:Exit->AS->Prop)
  (hQ:∀m',nR p m' (L++(Vz (Yi p) t a).map (Ve p))->m.boxes.length<=m'.boxes.length->(∀j,2<=j->j<m.boxes.length->Qh m'.boxes j=Qh m.boxes j)->Q .normal ⟨Zf 98 E,m'⟩):vc Tryz.prog az orc Y asj ⟨Zf 98 E,m⟩ Q:=by
 have cm:=xy p a t hl hb hf;generalize hX:Vz (Yi p) t a=xs at*
 unfold asj
 refine ru (xs:=xs.map (Qba p)) (by simp[hg];try exact⟨rfl,rfl⟩) cm (by intro x hx;simp at hx;obtain⟨u,v,_,rfl⟩:=hx;rfl)
  (fun O i mm=>(∀j,O j->m.boxes.length<=j)/\nR p mm (L++(xs.take i).map (Ve p))/\m.boxes.length<=mm.boxes.length/\(∀j,2<=j->j<m.boxes.length->Qh mm.boxes j=Qh m.boxes j)) (fun _ _ _=>False) ?_ ?_ (fun _ _ _ _ h=>h.elim) ?_ ?_ (fun _ _ _ h=>h.elim)
 ·exact⟨fun _ h=>h.elim,by rw[zzho,zzcf,zzau];exact hO,zzab _,fun _ _ _=>rfl⟩
 ·rintro O i m1 m2 ⟨h1,h2,h3,h4⟩ e;have CB:=hO.1;refine⟨?_,h2.YK e (fun h=>by have:=h1 _ h;omega) (fun h=>by have:=h1 _ h;omega),zzbn h3 e.1,fun j j1 j2=>by rw[e.2.1 j (by omega) (fun h=>by have:=h1 _ h;omega)];exact h4 j j1 j2⟩;rintro j (h|h)
  ·exact h1 j h
  omega
 ·rintro O l i mm x tO ck hg0 fB ⟨h1,h2,h3,h4⟩ hx K' q1 _ _;rw[zzbl,zzce]at hx;obtain⟨x,hx,rfl⟩:=hx;have eS:=(zza.1 hx).1;have bB:L++(xs.take (i+1)).map (Ve p)=(L++(xs.take i).map (Ve p))++[Ve p x]:=by rw[zzas,hx];simp
  have hml:=hO.1;have aH:(L++(xs.take i).map (Ve p)).length<=1000000000:=by simp;omega
  obtain⟨o1,o2,rt,o3,o4⟩:=h2;simp only[Ue,CQ]at o1 o2 o3 o4 h3 h4;have gI:∀y,Qh (mm.boxes++y) 1=[.sl rt ((L++(xs.take i).map (Ve p)).map Zu)]:=fun y=>by rw[Ql (by omega)];exact o3
  have uy:∀y,Qh (mm.boxes++[y]) mm.boxes.length=y:=fun y=>by
   simp
  have fin:∀(T:List AV)(v:List AV)(row:List AV)(ls:List Nat)(st:Nat->LS)(ln:Nat),nR p ⟨(mm.boxes++[row]).set 1 v,ls,st,ln⟩ (L++(xs.take (i+1)).map (Ve p))->K' .normal ⟨T,⟨(mm.boxes++[row]).set 1 v,ls,st,ln⟩⟩:=by
   intro T v row ls st ln hv;refine q1 _ ⟨by simp,fun j hj=>?_⟩ ⟨h1,hv,by simp;omega,fun j j1 j2=>?_⟩
   ·have:=(tO j hj).2;have:=h1 j hj;show Qh ((mm.boxes++[row]).set 1 v) j=_;rw[Zy _ (by omega),Ql (by omega)]
   show Qh ((mm.boxes++[row]).set 1 v) j=_;rw[Zy _ (by omega),Ql (by omega)];exact h4 j j1 j2
  have Da:∀(v row:List AV),Qh ((mm.boxes++[row]).set 1 v) 0=Qb p/\Qh ((mm.boxes++[row]).set 1 v) 1=v:=fun v row=>⟨by rw[Zy _ (by omega),Ql (by omega)];exact o2,Vp _ (by simp;omega)⟩;rw[bB]at fin;generalize L++(xs.take i).map (Ve p)=G at*
  have hG7:∀row∈G.map Zu,row.length=7:=by
   intro row h;obtain⟨e,_,rfl⟩:=zzax.1 h;rfl
  obtain⟨rfl,rfl⟩|⟨aK,k,rfl,hk⟩:=o4
  ·simp[fB,Zj,Qba,h7,gI,uy,ho];subst_vars;exact⟨by omega,fin _ _ _ _ _ _ ⟨by simp;omega,(Da _ _).1,_,(Da _ _).2,.inr ⟨by simp,_,rfl,by simp⟩⟩⟩
  simp[fB,Zj,Qba,h7,gI,uy,ho];refine⟨⟨hk,?_,by omega⟩,by omega,fin _ _ _ _ _ _ ⟨by simp;omega,(Da _ _).1,_,by rw[(Da _ _).2];simp;rfl,.inr ⟨by simp,k,rfl,by simp[(zza.1 hk).1]⟩⟩⟩;rintro row (⟨e,_,rfl⟩|rfl)<;>rfl
 rintro mm' mm ⟨h1,h2,h3,h4⟩;rw[zzbg,zzbs]at h2;exact hQ _ h2 h3 h4
def asl:SC:=(⟨_,by cbv⟩:tM [1,1,1,1,0,1,0] I1).1
def amM(Y:YT)(p:Pl)(a t:Int)(hl:p.aL.length<=1000000000)(hb: -1000000000<=a/\t<=1000000000)(hf:a<=1000000000/\ -1000000000<=t)(orc:Nat->FuncId->List AV->AV)(ho:∀d l,orc d 999999 l=.junk)(E:List (Nat×AV))(m:AM)(L:List bD)
  (hO:nR p m L)(hL:L.length+(Vz (Yi p) t a).length<=1000000000)(hg:Abs.look E 91=.fn 205 [] [.ep (Qb p) 0,.ep [I a] 0,.ep [I t] 0])(h7:Abs.look E 7=.ptr 1 0)(Q:Exit->AS->Prop)
  (hQ:∀m',nR p m' (L++(Vz (Yi p) t a).map (Ve p))->m.boxes.length<=m'.boxes.length->(∀j,2<=j->j<m.boxes.length->Qh m'.boxes j=Qh m.boxes j)->Q .normal ⟨Zf 98 E,m'⟩):vc Tryz.prog az orc Y asl ⟨Zf 98 E,m⟩ Q:=by
 have cm:=xy p a t hl hb hf;generalize hX:Vz (Yi p) t a=xs at*
 unfold asl
 refine ru (xs:=xs.map (Qba p)) (by simp[hg];try exact⟨rfl,rfl⟩) cm (by intro x hx;simp at hx;obtain⟨u,v,_,rfl⟩:=hx;rfl)
  (fun O i mm=>(∀j,O j->m.boxes.length<=j)/\nR p mm (L++(xs.take i).map (Ve p))/\m.boxes.length<=mm.boxes.length/\(∀j,2<=j->j<m.boxes.length->Qh mm.boxes j=Qh m.boxes j)) (fun _ _ _=>False) ?_ ?_ (fun _ _ _ _ h=>h.elim) ?_ ?_ (fun _ _ _ h=>h.elim)
 ·exact⟨fun _ h=>h.elim,by rw[zzho,zzcf,zzau];exact hO,zzab _,fun _ _ _=>rfl⟩
 ·rintro O i m1 m2 ⟨h1,h2,h3,h4⟩ e;have CB:=hO.1;refine⟨?_,h2.YK e (fun h=>by have:=h1 _ h;omega) (fun h=>by have:=h1 _ h;omega),zzbn h3 e.1,fun j j1 j2=>by rw[e.2.1 j (by omega) (fun h=>by have:=h1 _ h;omega)];exact h4 j j1 j2⟩;rintro j (h|h)
  ·exact h1 j h
  omega
 ·rintro O l i mm x tO ck hg0 fB ⟨h1,h2,h3,h4⟩ hx K' q1 _ _;rw[zzbl,zzce]at hx;obtain⟨x,hx,rfl⟩:=hx;have eS:=(zza.1 hx).1;have bB:L++(xs.take (i+1)).map (Ve p)=(L++(xs.take i).map (Ve p))++[Ve p x]:=by rw[zzas,hx];simp
  have hml:=hO.1;have aH:(L++(xs.take i).map (Ve p)).length<=1000000000:=by simp;omega
  obtain⟨o1,o2,rt,o3,o4⟩:=h2;simp only[Ue,CQ]at o1 o2 o3 o4 h3 h4;have gI:∀y,Qh (mm.boxes++y) 1=[.sl rt ((L++(xs.take i).map (Ve p)).map Zu)]:=fun y=>by rw[Ql (by omega)];exact o3
  have uy:∀y,Qh (mm.boxes++[y]) mm.boxes.length=y:=fun y=>by
   simp
  have fin:∀(T:List AV)(v:List AV)(row:List AV)(ls:List Nat)(st:Nat->LS)(ln:Nat),nR p ⟨(mm.boxes++[row]).set 1 v,ls,st,ln⟩ (L++(xs.take (i+1)).map (Ve p))->K' .normal ⟨T,⟨(mm.boxes++[row]).set 1 v,ls,st,ln⟩⟩:=by
   intro T v row ls st ln hv;refine q1 _ ⟨by simp,fun j hj=>?_⟩ ⟨h1,hv,by simp;omega,fun j j1 j2=>?_⟩
   ·have:=(tO j hj).2;have:=h1 j hj;show Qh ((mm.boxes++[row]).set 1 v) j=_;rw[Zy _ (by omega),Ql (by omega)]
   show Qh ((mm.boxes++[row]).set 1 v) j=_;rw[Zy _ (by omega),Ql (by omega)];exact h4 j j1 j2
  have Da:∀(v row:List AV),Qh ((mm.boxes++[row]).set 1 v) 0=Qb p/\Qh ((mm.boxes++[row]).set 1 v) 1=v:=fun v row=>⟨by rw[Zy _ (by omega),Ql (by omega)];exact o2,Vp _ (by simp;omega)⟩;rw[bB]at fin;generalize L++(xs.take i).map (Ve p)=G at*
  have hG7:∀row∈G.map Zu,row.length=7:=by
   intro row h;obtain⟨e,_,rfl⟩:=zzax.1 h;rfl
  obtain⟨rfl,rfl⟩|⟨aK,k,rfl,hk⟩:=o4
  ·simp[fB,Zj,Qba,h7,gI,uy,ho];subst_vars;exact⟨by omega,fin _ _ _ _ _ _ ⟨by simp;omega,(Da _ _).1,_,(Da _ _).2,.inr ⟨by simp,_,rfl,by simp⟩⟩⟩
  simp[fB,Zj,Qba,h7,gI,uy,ho];refine⟨⟨hk,?_,by omega⟩,by omega,fin _ _ _ _ _ _ ⟨by simp;omega,(Da _ _).1,_,by rw[(Da _ _).2];simp;rfl,.inr ⟨by simp,k,rfl,by simp[(zza.1 hk).1]⟩⟩⟩;rintro row (⟨e,_,rfl⟩|rfl)<;>rfl
 rintro mm' mm ⟨h1,h2,h3,h4⟩;rw[zzbg,zzbs]at h2;exact hQ _ h2 h3 h4
def A8(fr t:Int):∀(n:Nat)(a:Int),(t-a).toNat<=n->((Vz fr t a).length:Int)<=max 0 (t-a):=by
 intro n;induction n with
 |zero=>intro a h;rw[Vz,if_neg (by omega)];simp only[zzch];omega
 |succ n ih=>
  intro a h;rw[Vz];split
  ·rename_i ai;have hN:1<=Us fr t a/\Us fr t a<=t-a:=by unfold Us;split<;>omega
   have:=ih (a+Us fr t a) (by omega);simp only[zzbb];omega
  simp only[zzch];omega
def nR.app{p:Pl}{m:AM}{L:List bD}(h:nR p m L)(x:List (List AV)):nR p ⟨m.boxes++x,m.lens,m.st,m.ln⟩ L:=by
 obtain⟨a1,a2,rt,a3,a4⟩:=h;exact⟨by simp;omega,by show Qh (m.boxes++x) 0=_;rw[Ql (by omega)];exact a2,rt,by show Qh (m.boxes++x) 1=_;rw[Ql (by omega)];exact a3,a4⟩
open Go Go.Abs
def mP(p:Pl)(s:Sp)(at_:Int):Option En:=match Ze s.1 p.ens with
 |some e=>if s.1=0\/e.fr<1\/s.2<at_\/p.ln-s.2<e.fr then none else some e
 |none=>none
def uG(p:Pl):List Sp->Int->List bD
 |[],at_=>(Vz (Yi p) p.ln at_).map (Ve p)
 |s::r,at_=>match mP p s at_ with
  |none=>uG p r at_
  |some e=>((Vz (Yi p) s.2 at_).map (Ve p)++[zJ p e s.2])++uG p r (s.2+e.fr)
def A9(p:Pl)(l:List Sp)(at_:Int):List bD:=if at_<0\/p.ln<at_ then[]else uG p l at_
def pI(p:Pl):Nat->FuncId->List AV->AV:=fun d f l=>
 if f=999999 then .junk else
 if f=130 then(match l with|[_,.int _ n]=>Wz (Ze n p.ens)|_=>.junk)else
 if f=131 then(match l with|[_,.int _ a,.int _ t]=>.fn 205 [] [.ep (Qb p) 0,.ep [I a] 0,.ep [I t] 0]|_=>.junk)else
 if f=132 then(match l with|[_,.agg [.int _ a,.int _ b,.int _ c,.int _ d,.int _ e,.int _ g,.sl _ rows],.int _ fr]=>afc p ⟨a,b,c,d,e,g,rows.map ry⟩ fr|_=>.junk)else .gd false .junk
def jJ{id:Int}{x:En}:∀{l:List En},Ze id l=some x->x∈l/\x.id=id
 |[],h=>by cases h
 |y::r,h=>by
  simp only[Ze]at h;split at h
  ·rename_i hy;cases h;exact⟨by simp,hy⟩
  obtain⟨h1,h2⟩:=jJ h;exact⟨by simp[h1],h2⟩
def K4(p:Pl)(l:List Sp)(F4:Int)(hc:p.cls.length<=1000000)(gK:p.sh.length<=1000000000)(cm:p.aL.length<=1000000000)(II:p.ens.length<=1000000000)(eu:∀e∈p.ens,e.al.length<=8796093022208)
  (dg:p.ln<=1000000)(hl:l.length<=1000000)(lN:∀s∈l,-1000000000<=s.2/\s.2<=1000000000):∃rt,Pure Tryz.prog az 62 [.agg (Qb p),.sl .ro (l.map Qe),I F4] (.sl rt ((A9 p l F4).map Zu)):=by
 by_cases c0:F4<0\/p.ln<F4
 ·refine⟨.nil,Qn TN (pI p) (by simp) ?_⟩;rw[A9,if_pos c0];by_cases c1:F4<0
  ·simp[I1,TM,Qb,c1]
  have c2:p.ln<F4:=by omega
  simp[I1,TM,Qb,c1,c2]
 refine⟨if uG p l F4=[]then .nil else .ro,Qn TN (pI p) (by simp) ?_⟩;rw[A9,if_neg c0];simp only[not_or]at c0;have c1:¬F4<0:=c0.1;have c2:¬p.ln<F4:=c0.2;simp[I1,Qb,c1,c2];refine Qi oC (fun f mm=>∃(i:Nat)(at_:Int)(L:List bD),f 24=I i/\f 2=I at_/\i<=l.length/\nR p mm L/\0<=at_/\at_<=p.ln/\(L.length:Int)<=at_/\L++uG p (l.drop i) at_=uG p l F4) (fun f _=>l.length-(numOf (f 24)).toNat) ?_ ?_
 ·exact⟨0,F4,[],by simp,by simp,by omega,⟨by simp,by simp[Qb],.nil,by simp,.inl ⟨rfl,rfl⟩⟩,by omega,by omega,by simp;omega,by simp⟩
 rintro f mm ⟨i,at_,L,h24,h2,hi,hO,a1,a2,a3,hI⟩;rcases zzaa i l.length with ai|bu
 ·obtain⟨s,hs⟩:=aS ai;have ah:=Zc hs;have Tl:=lN s (zzad hs);have aa:(i:Int)<(l.length:Int):=by omega
  have hw:=bJ i (by omega);have ee:IntKind.i64.wrap (p.ln-s.2)=p.ln-s.2:=by rw[Qk]<;>omega
  rw[Zb hs,uG]at hI;have zK:=K1 p s.1 II eu;have hO':=hO;obtain⟨o1,o2,rt,o3,o4⟩:=hO';have r0:∀y,Qh (mm.boxes++y) 0=Qb p:=fun y=>by rw[Ql (by omega)];exact o2
  have r1:∀y,Qh (mm.boxes++y) 1=[.sl rt (L.map Zu)]:=fun y=>by rw[Ql o1];exact o3
  simp only[Qb]at r0;cases hf:Ze s.1 p.ens with
  |none=>
   simp only[mP,hf]at hI;rw[hf]at zK;by_cases c3:s.1=0
   ·rw[c3]at hf zK;simp[h24,h2,oC,ai,aa,ah,r0,r1,pI,hf,Wz,hw,c3];refine⟨zK,aO,⟨i+1,by simp,by omega,L,hO.app _,a1,a2,a3,hI⟩,by omega⟩
   simp[h24,h2,oC,ai,aa,ah,r0,r1,pI,hf,Wz,hw,c3];refine⟨zK,aO,⟨i+1,by simp,by omega,L,hO.app _,a1,a2,a3,hI⟩,by omega⟩
  |some e=>
   rw[hf]at zK;simp only[mP,hf]at hI;by_cases c3:s.1=0
   ·rw[if_pos (.inl c3)]at hI;rw[c3]at hf zK;simp[h24,h2,oC,ai,aa,ah,r0,r1,pI,hf,Wz,Qd,hw,c3];refine⟨zK,aO,⟨i+1,by simp,by omega,L,hO.app _,a1,a2,a3,hI⟩,by omega⟩
   by_cases c4:e.fr<1
   ·rw[if_pos (.inr (.inl c4))]at hI;simp[h24,h2,oC,ai,aa,ah,r0,r1,pI,hf,Wz,Qd,hw,c3,c4];refine⟨zK,aO,⟨i+1,by simp,by omega,L,hO.app _,a1,a2,a3,hI⟩,by omega⟩
   by_cases c5:s.2<at_
   ·rw[if_pos (.inr (.inr (.inl c5)))]at hI;simp[h24,h2,oC,ai,aa,ah,r0,r1,pI,hf,Wz,Qd,hw,c3,c4,c5];refine⟨zK,aO,⟨i+1,by simp,by omega,L,hO.app _,a1,a2,a3,hI⟩,by omega⟩
   by_cases c6:p.ln-s.2<e.fr
   ·rw[if_pos (.inr (.inr (.inr c6)))]at hI;simp[h24,h2,oC,ai,aa,ah,r0,r1,pI,hf,Wz,Qd,hw,ee,c3,c4,c5,c6];refine⟨zK,aO,⟨i+1,by simp,by omega,L,hO.app _,a1,a2,a3,hI⟩,by omega⟩
   rw[if_neg (by omega)]at hI;simp[h24,h2,oC,ai,aa,ah,r0,r1,pI,hf,Wz,Qd,hw,ee,c3,c4,c5,c6];have Rj:=xx p at_ s.2;have gh:=A8 (Yi p) s.2 _ at_ (zzab _);refine⟨zK,Rj,?_⟩;refine amL Y0 p at_ s.2 cm (by omega) (by omega) (pI p) (fun _ _=>rfl) _ _ L (hO.app _) (by omega) (by simp) (by simp) _ ?_;intro m' K5 ck dY
   have Rs:Qh m'.boxes mm.boxes.length=[I s.1,I s.2]:=by
    rw[dY _ (by omega) (by simp)];simp
   have Re:Qh m'.boxes (mm.boxes.length+1)=Qd e:=by
    rw[dY _ (by omega) (by simp)];simp[Qd]
   simp only[Qd]at Re;obtain⟨p1,p2,JR,p3,p4⟩:=K5;have p2':=p2;have b1:∀v,Qh (m'.boxes.set 1 v) 1=v:=fun v=>Vp v p1;have b0:∀v,Qh (m'.boxes.set 1 v) 0=Qb p:=fun v=>by rw[Zy v (by omega)];exact p2
   have bs:∀v,Qh (m'.boxes.set 1 v) mm.boxes.length=[I s.1,I s.2]:=fun v=>by rw[Zy v (by omega)];exact Rs
   have be:∀v,Qh (m'.boxes.set 1 v) (mm.boxes.length+1)=[I e.id,I e.it,I e.fr,I e.ea,I e.la,I e.bo,.sl .ro (e.al.map Qe)]:=fun v=>by rw[Zy v (by omega)];exact Re
   simp only[Qb]at p2';have hG:((L++(Vz (Yi p) s.2 at_).map (Ve p)).length:Int)<=s.2:=by simp;omega
   have hI2:(L++(Vz (Yi p) s.2 at_).map (Ve p)++[zJ p e s.2])++uG p (l.drop (i+1)) (s.2+e.fr)=uG p l F4:=by rw[<- hI];simp
   generalize L++(Vz (Yi p) s.2 at_).map (Ve p)=G at*
   have k32:=K3 p e s.2 hc gK cm (eu e (jJ hf).1);have KY:IntKind.i64.wrap (s.2+e.fr)=s.2+e.fr:=by rw[Qk]<;>omega
   obtain⟨g1,rfl⟩|⟨g1,k,rfl,hk⟩:=p4
   ·subst g1;simp[h24,p2',p3,Rs,Re,b1,bs,be,p1,pI,afc,IG,hw,KY];rw[zzai]at hI2;refine⟨k32,aO,⟨i+1,by simp,by omega,[zJ p e s.2],⟨by simp;omega,b0 _,_,b1 _,.inr ⟨by simp,_,rfl,by simp⟩⟩,by omega,by omega,by simp;omega,hI2⟩,by omega⟩
   simp[h24,p2',p3,Rs,Re,b1,bs,be,p1,pI,afc,IG,hw,KY];refine⟨k32,⟨hk,by rintro row (⟨a,_,rfl⟩|rfl)<;>rfl,by omega⟩,ag ?_,⟨i+1,by simp,by omega,G++[zJ p e s.2],⟨by simp;omega,b0 _,_,by rw[b1];simp[Zu,zJ],.inr ⟨by simp,k,rfl,by simp[(zza.1 hk).1]⟩⟩,by omega,by omega,by simp;omega,hI2⟩,by omega⟩;repeat(first|exact Qc _ _|refine Qa _ rfl ?_)
 obtain rfl:i=l.length:=by omega
 have Rj:=xx p at_ p.ln;have gh:=A8 (Yi p) p.ln _ at_ (zzab _);rw[zzbo,uG]at hI;obtain⟨o1,o2,rt,o3,o4⟩:=id hO;simp only[Qb]at o2;simp[h24,h2,oC,o2,pI];refine⟨Rj,?_⟩;refine amM Y0 p at_ p.ln cm (by omega) (by omega) (pI p) (fun _ _=>rfl) _ _ L hO (by omega) (by simp) (by simp) _ ?_;intro m' K5 ck dY;rw[hI]at K5;obtain⟨p1,p2,JR,p3,p4⟩:=K5;generalize uG p l F4=G at*
 obtain⟨g1,rfl⟩|⟨g1,k,rfl,hk⟩:=p4
 ·subst g1;simp[p3,p1,TM]
 simp[p3,p1,TM,g1]
def Qf(e:bD):List AV:=[I e.id,I e.it,I e.st,I e.fr,I e.i,I e.re,.sl .ro (e.al.map Qe)]
def K6(L:List bD):Wk (.sl .ro (L.map Zu)) (.sl .ro (L.map Qf)):=by
 refine Wk.rows L Zu Qf (fun _=>rfl) fun a j c' h=>?_
 match j,h with
 |0,h=>exact⟨_,rfl,by cases h;exact Wk.refl _⟩
 |1,h=>exact⟨_,rfl,by cases h;exact Wk.refl _⟩
 |2,h=>exact⟨_,rfl,by cases h;exact Wk.refl _⟩
 |3,h=>exact⟨_,rfl,by cases h;exact Wk.refl _⟩
 |4,h=>exact⟨_,rfl,by cases h;exact Wk.refl _⟩
 |5,h=>exact⟨_,rfl,by cases h;exact Wk.refl _⟩
 |6,h=>exact⟨_,rfl,by cases h;exact Wk.sl _ _⟩
 |j+7,h=>simp[Qf]at h
def Wk.trans{a b c:AV}(h:Wk a b)(k:Wk b c):Wk a c:=fun w γ v hr=>k w γ v (h w γ v hr)
def sL(p:Pl)(l:List Sp)(F4:Int)(hc:p.cls.length<=1000000)(gK:p.sh.length<=1000000000)(cm:p.aL.length<=1000000000)(II:p.ens.length<=1000000000)(eu:∀e∈p.ens,e.al.length<=8796093022208)
  (dg:p.ln<=1000000)(hl:l.length<=1000000)(lN:∀s∈l,-1000000000<=s.2/\s.2<=1000000000):Pure Tryz.prog az 62 [.agg (Qb p),.sl .ro (l.map Qe),I F4] (.sl .ro ((A9 p l F4).map Qf)):=by
 obtain⟨rt,h⟩:=K4 p l F4 hc gK cm II eu dg hl lN;exact Qz h (Wk.trans (Wk.sl _ _) (K6 _))
end
end Go.Proofs.YtnopaopphmjnmaaGreatDoor
