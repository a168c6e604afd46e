import Derived.Test.YtnopaopphmjnmaaGreatDoorMDSeB
set_option linter.all false
set_option maxRecDepth 100000
set_option maxHeartbeats 64000000
namespace Go.Proofs.YtnopaopphmjnmaaGreatDoor
noncomputable section
open Go Go.Abs
def o9(p:Pl)(e:En)(fr:Int)(s:Sp):Bool:=decide (1<=s.1)&&decide (s.1<p.rg)&&Xv p s.2 s.1 fr e.fr
def evM(p:Pl)(e:En)(fr:Int):Int:=Un (fun i=>Xv p e.it i fr e.fr) (min p.rg 8).toNat
def jw(p:Pl)(e:En)(fr:Int)(rt:Rt)(l:List Sp):List AV:=[I e.id,I e.it,I fr,I e.fr,I 0,I (evM p e fr),.sl rt (l.map Qe)]
def Rh(p:Pl)(e:En)(fr:Int)(i:Nat):List Sp:=(e.al.take i).filter (o9 p e fr)
def F1(p:Pl)(e:En)(fr:Int)(hc:p.cls.length<=1000000)(gH:p.sh.length<=1000000000)(cH:p.aL.length<=1000000000)(ei:e.al.length<=8796093022208):
  ∃rt,Pure Tryz.prog aq 132 [.agg (Qc p),.agg (Qd e),I fr] (.agg (jw p e fr rt (e.al.filter (o9 p e fr)))):=by
 refine⟨if e.al.filter (o9 p e fr)=[]then .nil else .ro,Qn acP (fun _ _ _=>.gd false .junk) (by simp) ?_⟩;simp[T8,Qc,Qd];refine sG Y0 p 209 [.ptr 4 0,.ptr 1 0] (fun i=>Xv p e.it i fr e.fr) _ _ ?_ fun bx=>?_
 ·rintro i mm _ _ ⟨bx,rfl⟩ K' h;exact Y1 Y0 p e i fr _ 0 2 1 4 hc gH cH (by simp[Qc]) (by simp) (by simp[Qd]) (by simp) K' h
 have hM:Un (fun i=>Xv p e.it i fr e.fr) (min p.rg 8).toNat=evM p e fr:=rfl;simp[hM]
 refine Qi qv (fun f mm=>∃(i:Nat)(bx:List (List AV))(Lm:List Nat)(rt:Rt),f 27=I i/\i<=e.al.length/\mm=⟨Qc p::Qd e::[I fr]::[I 0,I 0,I 0,I 0,I 0,I 0,.sl .nil []]::[.fn 208 [] [.ptr 0 0,.ptr 2 0,.ptr 1 0]]::jw p e fr rt (Rh p e fr i)::bx,Lm,fun _=>.gone,0⟩/\
  (Rh p e fr i=[]/\rt=.nil\/Rh p e fr i≠[]/\∃k,rt=.own k 2/\Lm[k]?=some (Rh p e fr i).length)) (fun f _=>e.al.length-(numOf (f 27)).toNat) ?_ ?_
 ·refine⟨0,bx,[],.nil,by simp,by omega,?_,.inl ⟨by simp[Rh],rfl⟩⟩;simp[Qc,Qd,jw,Rh]
 rintro f mm ⟨i,bx,Lm,rt,h27,hi,rfl,aT⟩;rcases zzaa i e.al.length with ai|bw
 ·obtain⟨x,hx⟩:=aP ai;have aa:=Zd hx;have ah:(i:Int)<(e.al.length:Int):=by omega
  have hw:=bH i (by omega)
  have bA:Rh p e fr (i+1)=Rh p e fr i++if o9 p e fr x then[x]else[]:=by
   unfold Rh;rw[zzar,hx,zzcr];simp only[Option.toList,zzgo,List.filter_nil]
  generalize hG:Rh p e fr i=G at*
  by_cases c1:1<=x.1
  ·by_cases c2:x.1<p.rg
   ·have Tl:=fun mm h1 h2 h3=>F3 Y0 p e x.2 x.1 fr mm 0 2 1 hc gH cH h1 h2 h3;simp[h27,Qc,Qd,jw,aa,ah,qv,c1,c2,hw];have hGl:G.length<=i:=by rw[<- hG];unfold Rh;exact zzbm (zzbs _ _) (by rw[zzaq];omega)
    refine Tl _ rfl rfl rfl _ ?_;have hA:o9 p e fr x=Xv p x.2 x.1 fr e.fr:=by simp[o9,c1,c2]
    rw[hA]at bA;cases hb:Xv p x.2 x.1 fr e.fr with
    |false=>
     rw[hb]at bA;simp only[zzbq,if_false,zzat]at bA;simp;refine⟨aN,⟨i+1,by omega,by omega,bx++[[I x.1,I x.2]],Lm,rt,by rw[bA];simp,by rw[bA];exact aT⟩,by omega⟩
    |true=>
     rw[hb]at bA;simp only[if_true]at bA;obtain⟨h1,rfl⟩|⟨h1,k,rfl,hk⟩:=aT
     ·subst h1;simp only[zzah]at bA;simp;refine⟨aN,⟨i+1,by omega,by omega,bx++[[I x.1,I x.2]],Lm++[1],.own Lm.length 2,by rw[bA];simp[Qe],by rw[bA];exact .inr ⟨by simp,_,rfl,by simp⟩⟩,by omega⟩
     simp[hk];refine⟨⟨by rintro row (⟨a,b,_,rfl⟩|rfl)<;>rfl,by omega⟩,ag ?_,⟨i+1,by omega,by omega,bx++[[I x.1,I x.2]],Lm.set k (G.length+1),.own k 2,by rw[bA];simp[Qe],by rw[bA];exact .inr ⟨by simp,_,rfl,by rw[zzaz ((zza.1 hk).1)];simp⟩⟩,by omega⟩;repeat(first|exact Qa _ _|refine Qb _ rfl ?_)
   have hA:o9 p e fr x=false:=by simp[o9,c2]
   simp[h27,Qc,Qd,jw,aa,ah,qv,c1,c2,hw];rw[hA]at bA;simp only[zzbq,if_false,zzat]at bA;refine⟨aN,⟨i+1,by omega,by omega,bx++[[I x.1,I x.2]],Lm,rt,by rw[bA];simp,by rw[bA];exact aT⟩,by omega⟩
  have hA:o9 p e fr x=false:=by simp[o9,c1]
  simp[h27,Qc,Qd,jw,aa,ah,qv,c1,hw];rw[hA]at bA;simp only[zzbq,if_false,zzat]at bA;refine⟨aN,⟨i+1,by omega,by omega,bx++[[I x.1,I x.2]],Lm,rt,by rw[bA];simp,by rw[bA];exact aT⟩,by omega⟩
 obtain rfl:i=e.al.length:=by omega
 have hE:Rh p e fr e.al.length=e.al.filter (o9 p e fr):=by simp[Rh]
 rw[hE]at aT;generalize e.al.filter (o9 p e fr)=G at*
 obtain⟨h1,rfl⟩|⟨h1,k,rfl,hk⟩:=aT
 ·simp[h27,Qc,Qd,jw,qv,T9,h1,hE]
 simp[h27,Qc,Qd,jw,qv,T9,h1,hE]
def afw(p:Pl)(e:En)(fr:Int):AV:=.agg (jw p e fr .ro (e.al.filter (o9 p e fr)))
def K4(p:Pl)(e:En)(fr:Int)(hc:p.cls.length<=1000000)(gH:p.sh.length<=1000000000)(cH:p.aL.length<=1000000000)(ei:e.al.length<=8796093022208):
  Pure Tryz.prog aq 132 [.agg (Qc p),.agg (Qd e),I fr] (afw p e fr):=by
 obtain⟨rt,h⟩:=F1 p e fr hc gH cH ei;exact Qz h (Qdh ⟨Wk.refl _,Wk.refl _,Wk.refl _,Wk.refl _,Wk.refl _,Wk.refl _,Wk.sl _ _,trivial⟩)
open Go Go.Abs
structure bD where
 id:Int
 it:Int
 st:Int
 fr:Int
 i:Int
 re:Int
 al:List Sp
 nl:Bool
def Zq(e:bD):List AV:=[I e.id,I e.it,I e.st,I e.fr,I e.i,I e.re,.sl (if e.nl then .nil else .ro) (e.al.map Qe)]
def Vg(p:Pl)(x:Int×Int):bD:=⟨0,p.fi,x.1,x.2,0,F4 p,[],true⟩
def F5(p:Pl)(e:En)(fr:Int):bD:=⟨e.id,e.it,fr,e.fr,0,evM p e fr,e.al.filter (o9 p e fr),false⟩
def nJ(p:Pl)(m:AM)(L:List bD):Prop:=1<m.boxes.length/\Qh m.boxes 0=Qc p/\∃rt,Qh m.boxes 1=[.sl rt (L.map Zq)]/\(L=[]/\rt=.nil\/L≠[]/\∃k,rt=.own k 7/\m.lens[k]?=some L.length)
def nJ.YV{p:Pl}{m m':AM}{L:List bD}{O:Nat->Prop}(h:nJ p m L)(e:bM O m m')(h0:¬O 0)(h1:¬O 1):nJ p m' L:=by
 obtain⟨a1,a2,rt,a3,a4⟩:=h;obtain⟨e1,e2,⟨lx,e3⟩,_⟩:=e;refine⟨by omega,by rw[e2 0 (by omega) h0];exact a2,rt,by rw[e2 1 a1 h1];exact a3,?_⟩;obtain h|⟨hn,k,hk,hl⟩:=a4
 ·exact .inl h
 exact .inr ⟨hn,k,hk,by rw[e3,zzag (zza.1 hl).1];exact hl⟩
def ate:SC:=(⟨_,by cbv⟩:tJ [1,1,1,0,1,0,0,1,1,0,0,1,1,1,0,1,0] IT).1
def anv(Y:YT)(p:Pl)(a t:Int)(hl:p.aL.length<=1000000000)(hb: -1000000000<=a/\t<=1000000000)(hf:a<=1000000000/\ -1000000000<=t)(orc:Nat->FuncId->List AV->AV)(ho:∀d l,orc d 999999 l=.junk)(E:List (Nat×AV))(m:AM)(L:List bD)
  (hO:nJ p m L)(hL:L.length+(Vw (Yb p) t a).length<=1000000000)(hg:Abs.look E 67=.fn 205 [] [.ep (Qc p) 0,.ep [I a] 0,.ep [I t] 0])(h7:Abs.look E 7=.ptr 1 0)(Q:Exit->AS->Prop)
  (hQ:∀m',nJ p m' (L++(Vw (Yb p) t a).map (Vg p))->m.boxes.length<=m'.boxes.length->(∀j,2<=j->j<m.boxes.length->Qh m'.boxes j=Qh m.boxes j)->Q .normal ⟨Zb 98 E,m'⟩):vc Tryz.prog aq orc Y ate ⟨Zb 98 E,m⟩ Q:=by
 have cH:=wY p a t hl hb hf;generalize hX:Vw (Yb p) t a=xs at*
 unfold ate
 refine rj (xs:=xs.map (Qav p)) (by simp[hg];try exact⟨rfl,rfl⟩) cH (by intro x hx;simp at hx;obtain⟨u,v,_,rfl⟩:=hx;rfl)
  (fun O i mm=>(∀j,O j->m.boxes.length<=j)/\nJ p mm (L++(xs.take i).map (Vg p))/\m.boxes.length<=mm.boxes.length/\(∀j,2<=j->j<m.boxes.length->Qh mm.boxes j=Qh m.boxes j)) (fun _ _ _=>False) ?_ ?_ (fun _ _ _ _ h=>h.elim) ?_ ?_ (fun _ _ _ h=>h.elim)
 ·exact⟨fun _ h=>h.elim,by rw[zzhg,zzce,zzat];exact hO,zzab _,fun _ _ _=>rfl⟩
 ·rintro O i m1 m2 ⟨h1,h2,h3,h4⟩ e;have AA:=hO.1;refine⟨?_,h2.YV e (fun h=>by have:=h1 _ h;omega) (fun h=>by have:=h1 _ h;omega),zzbm h3 e.1,fun j j1 j2=>by rw[e.2.1 j (by omega) (fun h=>by have:=h1 _ h;omega)];exact h4 j j1 j2⟩;rintro j (h|h)
  ·exact h1 j h
  omega
 ·rintro O l i mm x tL bX hg0 gG ⟨h1,h2,h3,h4⟩ hx K' q1 _ _;rw[zzbl,zzcd]at hx;obtain⟨x,hx,rfl⟩:=hx;have gL:=(zza.1 hx).1;have bA:L++(xs.take (i+1)).map (Vg p)=(L++(xs.take i).map (Vg p))++[Vg p x]:=by rw[zzar,hx];simp
  have hml:=hO.1;have aI:(L++(xs.take i).map (Vg p)).length<=1000000000:=by simp;omega
  obtain⟨o1,o2,rt,o3,o4⟩:=h2;simp only[Uc,CJ]at o1 o2 o3 o4 h3 h4;have lI:∀y,Qh (mm.boxes++y) 1=[.sl rt ((L++(xs.take i).map (Vg p)).map Zq)]:=fun y=>by rw[Ql (by omega)];exact o3
  have uq:∀y,Qh (mm.boxes++[y]) mm.boxes.length=y:=fun y=>by
   simp
  have fin:∀(T:List AV)(v:List AV)(row:List AV)(ls:List Nat)(st:Nat->LS)(ln:Nat),nJ p ⟨(mm.boxes++[row]).set 1 v,ls,st,ln⟩ (L++(xs.take (i+1)).map (Vg p))->K' .normal ⟨T,⟨(mm.boxes++[row]).set 1 v,ls,st,ln⟩⟩:=by
   intro T v row ls st ln hv;refine q1 _ ⟨by simp,fun j hj=>?_⟩ ⟨h1,hv,by simp;omega,fun j j1 j2=>?_⟩
   ·have:=(tL j hj).2;have:=h1 j hj;show Qh ((mm.boxes++[row]).set 1 v) j=_;rw[Zu _ (by omega),Ql (by omega)]
   show Qh ((mm.boxes++[row]).set 1 v) j=_;rw[Zu _ (by omega),Ql (by omega)];exact h4 j j1 j2
  have CX:∀(v row:List AV),Qh ((mm.boxes++[row]).set 1 v) 0=Qc p/\Qh ((mm.boxes++[row]).set 1 v) 1=v:=fun v row=>⟨by rw[Zu _ (by omega),Ql (by omega)];exact o2,Vn _ (by simp;omega)⟩;rw[bA]at fin;generalize L++(xs.take i).map (Vg p)=G at*
  have hG7:∀row∈G.map Zq,row.length=7:=by
   intro row h;obtain⟨e,_,rfl⟩:=zzaw.1 h;rfl
  obtain⟨rfl,rfl⟩|⟨aJ,k,rfl,hk⟩:=o4
  ·simp[gG,Zi,Qav,h7,lI,uq,ho];subst_vars;exact⟨by omega,fin _ _ _ _ _ _ ⟨by simp;omega,(CX _ _).1,_,(CX _ _).2,.inr ⟨by simp,_,rfl,by simp⟩⟩⟩
  simp[gG,Zi,Qav,h7,lI,uq,ho];refine⟨⟨hk,?_,by omega⟩,by omega,fin _ _ _ _ _ _ ⟨by simp;omega,(CX _ _).1,_,by rw[(CX _ _).2];simp;rfl,.inr ⟨by simp,k,rfl,by simp[(zza.1 hk).1]⟩⟩⟩;rintro row (⟨e,_,rfl⟩|rfl)<;>rfl
 rintro mm' mm ⟨h1,h2,h3,h4⟩;rw[zzbg,zzbn]at h2;exact hQ _ h2 h3 h4
def atf:SC:=(⟨_,by cbv⟩:tJ [1,1,1,1,0,1,0] IT).1
def anw(Y:YT)(p:Pl)(a t:Int)(hl:p.aL.length<=1000000000)(hb: -1000000000<=a/\t<=1000000000)(hf:a<=1000000000/\ -1000000000<=t)(orc:Nat->FuncId->List AV->AV)(ho:∀d l,orc d 999999 l=.junk)(E:List (Nat×AV))(m:AM)(L:List bD)
  (hO:nJ p m L)(hL:L.length+(Vw (Yb p) t a).length<=1000000000)(hg:Abs.look E 91=.fn 205 [] [.ep (Qc p) 0,.ep [I a] 0,.ep [I t] 0])(h7:Abs.look E 7=.ptr 1 0)(Q:Exit->AS->Prop)
  (hQ:∀m',nJ p m' (L++(Vw (Yb p) t a).map (Vg p))->m.boxes.length<=m'.boxes.length->(∀j,2<=j->j<m.boxes.length->Qh m'.boxes j=Qh m.boxes j)->Q .normal ⟨Zb 98 E,m'⟩):vc Tryz.prog aq orc Y atf ⟨Zb 98 E,m⟩ Q:=by
 have cH:=wY p a t hl hb hf;generalize hX:Vw (Yb p) t a=xs at*
 unfold atf
 refine rj (xs:=xs.map (Qav p)) (by simp[hg];try exact⟨rfl,rfl⟩) cH (by intro x hx;simp at hx;obtain⟨u,v,_,rfl⟩:=hx;rfl)
  (fun O i mm=>(∀j,O j->m.boxes.length<=j)/\nJ p mm (L++(xs.take i).map (Vg p))/\m.boxes.length<=mm.boxes.length/\(∀j,2<=j->j<m.boxes.length->Qh mm.boxes j=Qh m.boxes j)) (fun _ _ _=>False) ?_ ?_ (fun _ _ _ _ h=>h.elim) ?_ ?_ (fun _ _ _ h=>h.elim)
 ·exact⟨fun _ h=>h.elim,by rw[zzhg,zzce,zzat];exact hO,zzab _,fun _ _ _=>rfl⟩
 ·rintro O i m1 m2 ⟨h1,h2,h3,h4⟩ e;have AA:=hO.1;refine⟨?_,h2.YV e (fun h=>by have:=h1 _ h;omega) (fun h=>by have:=h1 _ h;omega),zzbm h3 e.1,fun j j1 j2=>by rw[e.2.1 j (by omega) (fun h=>by have:=h1 _ h;omega)];exact h4 j j1 j2⟩;rintro j (h|h)
  ·exact h1 j h
  omega
 ·rintro O l i mm x tL bX hg0 gG ⟨h1,h2,h3,h4⟩ hx K' q1 _ _;rw[zzbl,zzcd]at hx;obtain⟨x,hx,rfl⟩:=hx;have gL:=(zza.1 hx).1;have bA:L++(xs.take (i+1)).map (Vg p)=(L++(xs.take i).map (Vg p))++[Vg p x]:=by rw[zzar,hx];simp
  have hml:=hO.1;have aI:(L++(xs.take i).map (Vg p)).length<=1000000000:=by simp;omega
  obtain⟨o1,o2,rt,o3,o4⟩:=h2;simp only[Uc,CJ]at o1 o2 o3 o4 h3 h4;have lI:∀y,Qh (mm.boxes++y) 1=[.sl rt ((L++(xs.take i).map (Vg p)).map Zq)]:=fun y=>by rw[Ql (by omega)];exact o3
  have uq:∀y,Qh (mm.boxes++[y]) mm.boxes.length=y:=fun y=>by
   simp
  have fin:∀(T:List AV)(v:List AV)(row:List AV)(ls:List Nat)(st:Nat->LS)(ln:Nat),nJ p ⟨(mm.boxes++[row]).set 1 v,ls,st,ln⟩ (L++(xs.take (i+1)).map (Vg p))->K' .normal ⟨T,⟨(mm.boxes++[row]).set 1 v,ls,st,ln⟩⟩:=by
   intro T v row ls st ln hv;refine q1 _ ⟨by simp,fun j hj=>?_⟩ ⟨h1,hv,by simp;omega,fun j j1 j2=>?_⟩
   ·have:=(tL j hj).2;have:=h1 j hj;show Qh ((mm.boxes++[row]).set 1 v) j=_;rw[Zu _ (by omega),Ql (by omega)]
   show Qh ((mm.boxes++[row]).set 1 v) j=_;rw[Zu _ (by omega),Ql (by omega)];exact h4 j j1 j2
  have CX:∀(v row:List AV),Qh ((mm.boxes++[row]).set 1 v) 0=Qc p/\Qh ((mm.boxes++[row]).set 1 v) 1=v:=fun v row=>⟨by rw[Zu _ (by omega),Ql (by omega)];exact o2,Vn _ (by simp;omega)⟩;rw[bA]at fin;generalize L++(xs.take i).map (Vg p)=G at*
  have hG7:∀row∈G.map Zq,row.length=7:=by
   intro row h;obtain⟨e,_,rfl⟩:=zzaw.1 h;rfl
  obtain⟨rfl,rfl⟩|⟨aJ,k,rfl,hk⟩:=o4
  ·simp[gG,Zi,Qav,h7,lI,uq,ho];subst_vars;exact⟨by omega,fin _ _ _ _ _ _ ⟨by simp;omega,(CX _ _).1,_,(CX _ _).2,.inr ⟨by simp,_,rfl,by simp⟩⟩⟩
  simp[gG,Zi,Qav,h7,lI,uq,ho];refine⟨⟨hk,?_,by omega⟩,by omega,fin _ _ _ _ _ _ ⟨by simp;omega,(CX _ _).1,_,by rw[(CX _ _).2];simp;rfl,.inr ⟨by simp,k,rfl,by simp[(zza.1 hk).1]⟩⟩⟩;rintro row (⟨e,_,rfl⟩|rfl)<;>rfl
 rintro mm' mm ⟨h1,h2,h3,h4⟩;rw[zzbg,zzbn]at h2;exact hQ _ h2 h3 h4
def A1(fr t:Int):∀(n:Nat)(a:Int),(t-a).toNat<=n->((Vw fr t a).length:Int)<=max 0 (t-a):=by
 intro n;induction n with
 |zero=>intro a h;rw[Vw,if_neg (by omega)];simp only[zzcf];omega
 |succ n ih=>
  intro a h;rw[Vw];split
  ·rename_i ai;have hN:1<=Uq fr t a/\Uq fr t a<=t-a:=by unfold Uq;split<;>omega
   have:=ih (a+Uq fr t a) (by omega);simp only[zzbd];omega
  simp only[zzcf];omega
def nJ.app{p:Pl}{m:AM}{L:List bD}(h:nJ p m L)(x:List (List AV)):nJ p ⟨m.boxes++x,m.lens,m.st,m.ln⟩ L:=by
 obtain⟨a1,a2,rt,a3,a4⟩:=h;exact⟨by simp;omega,by show Qh (m.boxes++x) 0=_;rw[Ql (by omega)];exact a2,rt,by show Qh (m.boxes++x) 1=_;rw[Ql (by omega)];exact a3,a4⟩
open Go Go.Abs
def pe(p:Pl)(s:Sp)(at_:Int):Option En:=match Zf s.1 p.ens with
 |some e=>if s.1=0\/e.fr<1\/s.2<at_\/p.ln-s.2<e.fr then none else some e
 |none=>none
def zA(p:Pl):List Sp->Int->List bD
 |[],at_=>(Vw (Yb p) p.ln at_).map (Vg p)
 |s::r,at_=>match pe p s at_ with
  |none=>zA p r at_
  |some e=>((Vw (Yb p) s.2 at_).map (Vg p)++[F5 p e s.2])++zA p r (s.2+e.fr)
def jx(p:Pl)(l:List Sp)(at_:Int):List bD:=if at_<0\/p.ln<at_ then[]else zA p l at_
def pn(p:Pl):Nat->FuncId->List AV->AV:=fun d f l=>
 if f=999999 then .junk else
 if f=130 then(match l with|[_,.int _ n]=>Wy (Zf n p.ens)|_=>.junk)else
 if f=131 then(match l with|[_,.int _ a,.int _ t]=>.fn 205 [] [.ep (Qc p) 0,.ep [I a] 0,.ep [I t] 0]|_=>.junk)else
 if f=132 then(match l with|[_,.agg [.int _ a,.int _ b,.int _ c,.int _ d,.int _ e,.int _ g,.sl _ rows],.int _ fr]=>afw p ⟨a,b,c,d,e,g,rows.map tP⟩ fr|_=>.junk)else .gd false .junk
def jy{id:Int}{x:En}:∀{l:List En},Zf id l=some x->x∈l/\x.id=id
 |[],h=>by cases h
 |y::r,h=>by
  simp only[Zf]at h;split at h
  ·rename_i hy;cases h;exact⟨by simp,hy⟩
  obtain⟨h1,h2⟩:=jy h;exact⟨by simp[h1],h2⟩
def K5(p:Pl)(l:List Sp)(F6:Int)(hc:p.cls.length<=1000000)(gH:p.sh.length<=1000000000)(cH:p.aL.length<=1000000000)(Iy:p.ens.length<=1000000000)(ei:∀e∈p.ens,e.al.length<=8796093022208)
  (dx:p.ln<=1000000)(hl:l.length<=1000000)(nc:∀s∈l,-1000000000<=s.2/\s.2<=1000000000):∃rt,Pure Tryz.prog aq 62 [.agg (Qc p),.sl .ro (l.map Qe),I F6] (.sl rt ((jx p l F6).map Zq)):=by
 by_cases c0:F6<0\/p.ln<F6
 ·refine⟨.nil,Qn TR (pn p) (by simp) ?_⟩;rw[jx,if_pos c0];by_cases c1:F6<0
  ·simp[IT,TQ,Qc,c1]
  have c2:p.ln<F6:=by omega
  simp[IT,TQ,Qc,c1,c2]
 refine⟨if zA p l F6=[]then .nil else .ro,Qn TR (pn p) (by simp) ?_⟩;rw[jx,if_neg c0];simp only[not_or]at c0;have c1:¬F6<0:=c0.1;have c2:¬p.ln<F6:=c0.2;simp[IT,Qc,c1,c2];refine Qi oq (fun f mm=>∃(i:Nat)(at_:Int)(L:List bD),f 24=I i/\f 2=I at_/\i<=l.length/\nJ p mm L/\0<=at_/\at_<=p.ln/\(L.length:Int)<=at_/\L++zA p (l.drop i) at_=zA p l F6) (fun f _=>l.length-(numOf (f 24)).toNat) ?_ ?_
 ·exact⟨0,F6,[],by simp,by simp,by omega,⟨by simp,by simp[Qc],.nil,by simp,.inl ⟨rfl,rfl⟩⟩,by omega,by omega,by simp;omega,by simp⟩
 rintro f mm ⟨i,at_,L,h24,h2,hi,hO,a1,a2,a3,hI⟩;rcases zzaa i l.length with ai|bw
 ·obtain⟨s,hs⟩:=aP ai;have aa:=Zd hs;have Th:=nc s (zzac hs);have ah:(i:Int)<(l.length:Int):=by omega
  have hw:=bH i (by omega);have eC:IntKind.i64.wrap (p.ln-s.2)=p.ln-s.2:=by rw[Qk]<;>omega
  rw[Xy hs,zA]at hI;have K6:=K7 p s.1 Iy ei;have hO':=hO;obtain⟨o1,o2,rt,o3,o4⟩:=hO';have r0:∀y,Qh (mm.boxes++y) 0=Qc p:=fun y=>by rw[Ql (by omega)];exact o2
  have r1:∀y,Qh (mm.boxes++y) 1=[.sl rt (L.map Zq)]:=fun y=>by rw[Ql o1];exact o3
  simp only[Qc]at r0;cases hf:Zf s.1 p.ens with
  |none=>
   simp only[pe,hf]at hI;rw[hf]at K6;by_cases c3:s.1=0
   ·rw[c3]at hf K6;simp[h24,h2,oq,ah,aa,r0,pn,hf,Wy,hw,c3];refine⟨K6,aN,⟨i+1,by simp,by omega,L,hO.app _,a1,a2,a3,hI⟩,by omega⟩
   simp[h24,h2,oq,ah,aa,r0,pn,hf,Wy,hw,c3];refine⟨K6,aN,⟨i+1,by simp,by omega,L,hO.app _,a1,a2,a3,hI⟩,by omega⟩
  |some e=>
   rw[hf]at K6;simp only[pe,hf]at hI;by_cases c3:s.1=0
   ·rw[if_pos (.inl c3)]at hI;rw[c3]at hf K6;simp[h24,h2,oq,ah,aa,r0,pn,hf,Wy,Qd,hw,c3];refine⟨K6,aN,⟨i+1,by simp,by omega,L,hO.app _,a1,a2,a3,hI⟩,by omega⟩
   by_cases c4:e.fr<1
   ·rw[if_pos (.inr (.inl c4))]at hI;simp[h24,h2,oq,ah,aa,r0,pn,hf,Wy,Qd,hw,c3,c4];refine⟨K6,aN,⟨i+1,by simp,by omega,L,hO.app _,a1,a2,a3,hI⟩,by omega⟩
   by_cases c5:s.2<at_
   ·rw[if_pos (.inr (.inr (.inl c5)))]at hI;simp[h24,h2,oq,ah,aa,r0,pn,hf,Wy,Qd,hw,c3,c4,c5];refine⟨K6,aN,⟨i+1,by simp,by omega,L,hO.app _,a1,a2,a3,hI⟩,by omega⟩
   by_cases c6:p.ln-s.2<e.fr
   ·rw[if_pos (.inr (.inr (.inr c6)))]at hI;simp[h24,h2,oq,ah,aa,r0,pn,hf,Wy,Qd,hw,eC,c3,c4,c5,c6];refine⟨K6,aN,⟨i+1,by simp,by omega,L,hO.app _,a1,a2,a3,hI⟩,by omega⟩
   rw[if_neg (by omega)]at hI;simp[h24,h2,oq,ah,aa,r0,pn,hf,Wy,Qd,eC,c3,c4,c5,c6];have CY:=wZ p at_ s.2;have gr:=A1 (Yb p) s.2 _ at_ (zzab _);refine⟨K6,CY,?_⟩;refine anv Y0 p at_ s.2 cH (by omega) (by omega) (pn p) (fun _ _=>rfl) _ _ L (hO.app _) (by omega) (by simp) (by simp) _ ?_;intro m' F7 bX ee
   have Rs:Qh m'.boxes mm.boxes.length=[I s.1,I s.2]:=by
    rw[ee _ (by omega) (by simp)];simp
   have Re:Qh m'.boxes (mm.boxes.length+1)=Qd e:=by
    rw[ee _ (by omega) (by simp)];simp[Qd]
   simp only[Qd]at Re;obtain⟨p1,p2,JX,p3,p4⟩:=F7;have p2':=p2;have b1:∀v,Qh (m'.boxes.set 1 v) 1=v:=fun v=>Vn v p1;have b0:∀v,Qh (m'.boxes.set 1 v) 0=Qc p:=fun v=>by rw[Zu v (by omega)];exact p2
   have bs:∀v,Qh (m'.boxes.set 1 v) mm.boxes.length=[I s.1,I s.2]:=fun v=>by rw[Zu v (by omega)];exact Rs
   have be:∀v,Qh (m'.boxes.set 1 v) (mm.boxes.length+1)=[I e.id,I e.it,I e.fr,I e.ea,I e.la,I e.bo,.sl .ro (e.al.map Qe)]:=fun v=>by rw[Zu v (by omega)];exact Re
   simp only[Qc]at p2';have hG:((L++(Vw (Yb p) s.2 at_).map (Vg p)).length:Int)<=s.2:=by simp;omega
   have hI2:(L++(Vw (Yb p) s.2 at_).map (Vg p)++[F5 p e s.2])++zA p (l.drop (i+1)) (s.2+e.fr)=zA p l F6:=by rw[<- hI];simp
   generalize L++(Vw (Yb p) s.2 at_).map (Vg p)=G at*
   have k32:=K4 p e s.2 hc gH cH (ei e (jy hf).1);have K3:IntKind.i64.wrap (s.2+e.fr)=s.2+e.fr:=by rw[Qk]<;>omega
   obtain⟨g1,rfl⟩|⟨g1,k,rfl,hk⟩:=p4
   ·subst g1;simp[h24,p2',p3,Rs,Re,bs,be,p1,pn,afw,jw,hw,K3];rw[zzah]at hI2;refine⟨k32,aN,⟨i+1,by simp,by omega,[F5 p e s.2],⟨by simp;omega,b0 _,_,b1 _,.inr ⟨by simp,_,rfl,by simp⟩⟩,by omega,by omega,by simp;omega,hI2⟩,by omega⟩
   simp[h24,p2',p3,Rs,Re,bs,be,p1,pn,afw,jw,hw,K3];refine⟨k32,⟨hk,by rintro row (⟨a,_,rfl⟩|rfl)<;>rfl,by omega⟩,ag ?_,⟨i+1,by simp,by omega,G++[F5 p e s.2],⟨by simp;omega,b0 _,_,by rw[b1];simp[Zq,F5],.inr ⟨by simp,k,rfl,by simp[(zza.1 hk).1]⟩⟩,by omega,by omega,by simp;omega,hI2⟩,by omega⟩;repeat(first|exact Qa _ _|refine Qb _ rfl ?_)
 obtain rfl:i=l.length:=by omega
 have CY:=wZ p at_ p.ln;have gr:=A1 (Yb p) p.ln _ at_ (zzab _);rw[zzbo,zA]at hI;obtain⟨o1,o2,rt,o3,o4⟩:=id hO;simp only[Qc]at o2;simp[h24,h2,oq,o2,pn];refine⟨CY,?_⟩;refine anw Y0 p at_ p.ln cH (by omega) (by omega) (pn p) (fun _ _=>rfl) _ _ L hO (by omega) (by simp) (by simp) _ ?_;intro m' F7 bX ee;rw[hI]at F7;obtain⟨p1,p2,JX,p3,p4⟩:=F7;generalize zA p l F6=G at*
 obtain⟨g1,rfl⟩|⟨g1,k,rfl,hk⟩:=p4
 ·subst g1;simp[p3,TQ]
 simp[p3,TQ,g1]
def Qf(e:bD):List AV:=[I e.id,I e.it,I e.st,I e.fr,I e.i,I e.re,.sl .ro (e.al.map Qe)]
def K8(L:List bD):Wk (.sl .ro (L.map Zq)) (.sl .ro (L.map Qf)):=by
 refine Wk.rows L Zq Qf (fun _=>rfl) fun a j c' h=>?_
 match j,h with
 |0,h=>exact⟨_,rfl,by cases h;exact Wk.refl _⟩
 |1,h=>exact⟨_,rfl,by cases h;exact Wk.refl _⟩
 |2,h=>exact⟨_,rfl,by cases h;exact Wk.refl _⟩
 |3,h=>exact⟨_,rfl,by cases h;exact Wk.refl _⟩
 |4,h=>exact⟨_,rfl,by cases h;exact Wk.refl _⟩
 |5,h=>exact⟨_,rfl,by cases h;exact Wk.refl _⟩
 |6,h=>exact⟨_,rfl,by cases h;exact Wk.sl _ _⟩
 |j+7,h=>simp[Qf]at h
def Wk.trans{a b c:AV}(h:Wk a b)(k:Wk b c):Wk a c:=fun w γ v hr=>k w γ v (h w γ v hr)
def sH(p:Pl)(l:List Sp)(F6:Int)(hc:p.cls.length<=1000000)(gH:p.sh.length<=1000000000)(cH:p.aL.length<=1000000000)(Iy:p.ens.length<=1000000000)(ei:∀e∈p.ens,e.al.length<=8796093022208)
  (dx:p.ln<=1000000)(hl:l.length<=1000000)(nc:∀s∈l,-1000000000<=s.2/\s.2<=1000000000):Pure Tryz.prog aq 62 [.agg (Qc p),.sl .ro (l.map Qe),I F6] (.sl .ro ((jx p l F6).map Qf)):=by
 obtain⟨rt,h⟩:=K5 p l F6 hc gH cH Iy ei dx hl nc;exact Qz h (Wk.trans (Wk.sl _ _) (K8 _))
end
end Go.Proofs.YtnopaopphmjnmaaGreatDoor
