import Derived.Test.YtnopaopphmjnmaaGreatDoorMESeB
set_option linter.all false
set_option maxRecDepth 100000
set_option maxHeartbeats 64000000
namespace Go.Proofs.YtnopaopphmjnmaaGreatDoor
noncomputable section
open Go Go.Abs
def pI(p:Pl)(e:En)(fr:Int)(s:Sp):Bool:=decide (1<=s.1)&&decide (s.1<p.rg)&&Xz p s.2 s.1 fr e.fr
def evM(p:Pl)(e:En)(fr:Int):Int:=Uw (fun i=>Xz p e.it i fr e.fr) (min p.rg 8).toNat
def IM(p:Pl)(e:En)(fr:Int)(rt:Rt)(l:List Sp):List AV:=[I e.id,I e.it,I fr,I e.fr,I 0,I (evM p e fr),.sl rt (l.map Qe)]
def Rl(p:Pl)(e:En)(fr:Int)(i:Nat):List Sp:=(e.al.take i).filter (pI p e fr)
def F8(p:Pl)(e:En)(fr:Int)(hc:p.cls.length<=1000000)(gO:p.sh.length<=1000000000)(cI:p.aM.length<=1000000000)(eP:e.al.length<=8796093022208):
  ∃rt,Pure Tryz.prog az 132 [.agg (Qc p),.agg (Qd e),I fr] (.agg (IM p e fr rt (e.al.filter (pI p e fr)))):=by
 refine⟨if e.al.filter (pI p e fr)=[]then .nil else .ro,Qn acF (fun _ _ _=>.gd false .junk) (by simp) ?_⟩;simp[TY,Qc,Qd];refine sJ Y0 p 209 [.ptr 4 0,.ptr 1 0] (fun i=>Xz p e.it i fr e.fr) _ _ ?_ fun bx=>?_
 ·rintro i mm _ _ ⟨bx,rfl⟩ K' h;exact YN Y0 p e i fr _ 0 2 1 4 hc gO cI (by simp[Qc]) (by simp) (by simp[Qd]) (by simp) K' h
 have hM:Uw (fun i=>Xz p e.it i fr e.fr) (min p.rg 8).toNat=evM p e fr:=rfl;simp[hM]
 refine Qj qD (fun f mm=>∃(i:Nat)(bx:List (List AV))(Lm:List Nat)(rt:Rt),f 27=I i/\i<=e.al.length/\mm=⟨Qc p::Qd e::[I fr]::[I 0,I 0,I 0,I 0,I 0,I 0,.sl .nil []]::[.fn 208 [] [.ptr 0 0,.ptr 2 0,.ptr 1 0]]::IM p e fr rt (Rl p e fr i)::bx,Lm,fun _=>.gone,0⟩/\
  (Rl p e fr i=[]/\rt=.nil\/Rl p e fr i≠[]/\∃k,rt=.own k 2/\Lm[k]?=some (Rl p e fr i).length)) (fun f _=>e.al.length-(numOf (f 27)).toNat) ?_ ?_
 ·refine⟨0,bx,[],.nil,by simp,by omega,?_,.inl ⟨by simp[Rl],rfl⟩⟩;simp[Qc,Qd,IM,Rl]
 rintro f mm ⟨i,bx,Lm,rt,h27,hi,rfl,aS⟩;rcases zzaa i e.al.length with ai|bu
 ·obtain⟨x,hx⟩:=aR ai;have ah:=Zc hx;have aa:(i:Int)<(e.al.length:Int):=by omega
  have hw:=bK i (by omega)
  have bB:Rl p e fr (i+1)=Rl p e fr i++if pI p e fr x then[x]else[]:=by
   unfold Rl;rw[zzas,hx,zzcr];simp only[Option.toList,zzdw,List.filter_nil]
  generalize hG:Rl p e fr i=G at*
  by_cases c1:1<=x.1
  ·by_cases c2:x.1<p.rg
   ·have hpm:=fun mm h1 h2 h3=>F9 Y0 p e x.2 x.1 fr mm 0 2 1 hc gO cI h1 h2 h3;simp[h27,Qc,Qd,IM,ah,aa,ai,qD,c1,c2,hw];have hGl:G.length<=i:=by rw[<- hG];unfold Rl;exact zzbn (zzbr _ _) (by rw[zzaq];omega)
    refine hpm _ rfl rfl rfl _ ?_;have hA:pI p e fr x=Xz p x.2 x.1 fr e.fr:=by simp[pI,c1,c2]
    rw[hA]at bB;cases hb:Xz p x.2 x.1 fr e.fr with
    |false=>
     rw[hb]at bB;simp only[zzbq,if_false,zzat]at bB;simp[hw];refine⟨aO,⟨i+1,by omega,by omega,bx++[[I x.1,I x.2]],Lm,rt,by rw[bB];simp[Qc,Qd,IM],by rw[bB];exact aS⟩,by omega⟩
    |true=>
     rw[hb]at bB;simp only[if_true]at bB;obtain⟨h1,rfl⟩|⟨h1,k,rfl,hk⟩:=aS
     ·subst h1;simp only[zzaj]at bB;simp[hw];refine⟨aO,⟨i+1,by omega,by omega,bx++[[I x.1,I x.2]],Lm++[1],.own Lm.length 2,by rw[bB];simp[Qc,Qd,IM,Qe],by rw[bB];exact .inr ⟨by simp,_,rfl,by simp⟩⟩,by omega⟩
     simp[hw,hk];refine⟨⟨by rintro row (⟨a,b,_,rfl⟩|rfl)<;>rfl,by omega⟩,ag ?_,⟨i+1,by omega,by omega,bx++[[I x.1,I x.2]],Lm.set k (G.length+1),.own k 2,by rw[bB];simp[Qc,Qd,IM,Qe],by rw[bB];exact .inr ⟨by simp,_,rfl,by rw[zzaz ((zza.1 hk).1)];simp⟩⟩,by omega⟩;repeat(first|exact Qb _ _|refine Qa _ rfl ?_)
   have hA:pI p e fr x=false:=by simp[pI,c2]
   simp[h27,Qc,Qd,IM,ah,aa,ai,qD,c1,c2,hw];rw[hA]at bB;simp only[zzbq,if_false,zzat]at bB;refine⟨aO,⟨i+1,by omega,by omega,bx++[[I x.1,I x.2]],Lm,rt,by rw[bB];simp[Qc,Qd,IM],by rw[bB];exact aS⟩,by omega⟩
  have hA:pI p e fr x=false:=by simp[pI,c1]
  simp[h27,Qc,Qd,IM,ah,aa,ai,qD,c1,hw];rw[hA]at bB;simp only[zzbq,if_false,zzat]at bB;refine⟨aO,⟨i+1,by omega,by omega,bx++[[I x.1,I x.2]],Lm,rt,by rw[bB];simp[Qc,Qd,IM],by rw[bB];exact aS⟩,by omega⟩
 obtain rfl:i=e.al.length:=by omega
 have hE:Rl p e fr e.al.length=e.al.filter (pI p e fr):=by simp[Rl]
 rw[hE]at aS;generalize e.al.filter (pI p e fr)=G at*
 obtain⟨h1,rfl⟩|⟨h1,k,rfl,hk⟩:=aS
 ·simp[h27,Qc,Qd,IM,qD,TZ,h1,hE]
 simp[h27,Qc,Qd,IM,qD,TZ,h1,hE]
def afc(p:Pl)(e:En)(fr:Int):AV:=.agg (IM p e fr .ro (e.al.filter (pI p e fr)))
def Lc(p:Pl)(e:En)(fr:Int)(hc:p.cls.length<=1000000)(gO:p.sh.length<=1000000000)(cI:p.aM.length<=1000000000)(eP:e.al.length<=8796093022208):
  Pure Tryz.prog az 132 [.agg (Qc p),.agg (Qd e),I fr] (afc p e fr):=by
 obtain⟨rt,h⟩:=F8 p e fr hc gO cI eP;exact Xa h (Qcp ⟨Wk.refl _,Wk.refl _,Wk.refl _,Wk.refl _,Wk.refl _,Wk.refl _,Wk.sl _ _,trivial⟩)
open Go Go.Abs
structure bE where
 id:Int
 it:Int
 st:Int
 fr:Int
 i:Int
 re:Int
 al:List Sp
 nl:Bool
def Zv(e:bE):List AV:=[I e.id,I e.it,I e.st,I e.fr,I e.i,I e.re,.sl (if e.nl then .nil else .ro) (e.al.map Qe)]
def Vi(p:Pl)(x:Int×Int):bE:=⟨0,p.fi,x.1,x.2,0,Ga p,[],true⟩
def Gb(p:Pl)(e:En)(fr:Int):bE:=⟨e.id,e.it,fr,e.fr,0,evM p e fr,e.al.filter (pI p e fr),false⟩
def nV(p:Pl)(m:AM)(L:List bE):Prop:=1<m.boxes.length/\Qh m.boxes 0=Qc p/\∃rt,Qh m.boxes 1=[.sl rt (L.map Zv)]/\(L=[]/\rt=.nil\/L≠[]/\∃k,rt=.own k 7/\m.lens[k]?=some L.length)
def nV.YI{p:Pl}{m m':AM}{L:List bE}{O:Nat->Prop}(h:nV p m L)(e:bO O m m')(h0:¬O 0)(h1:¬O 1):nV p m' L:=by
 obtain⟨a1,a2,rt,a3,a4⟩:=h;obtain⟨e1,e2,⟨lx,e3⟩,_⟩:=e;refine⟨by omega,by rw[e2 0 (by omega) h0];exact a2,rt,by rw[e2 1 a1 h1];exact a3,?_⟩;obtain h|⟨hn,k,hk,hl⟩:=a4
 ·exact .inl h
 exact .inr ⟨hn,k,hk,by rw[e3,zzag (zza.1 hl).1];exact hl⟩
def asq:SC:=(⟨_,by cbv⟩:tW [1,1,1,0,1,0,0,1,1,0,0,1,1,1,0,1,0] I9).1
def amO(Y:YT)(p:Pl)(a t:Int)(hl:p.aM.length<=1000000000)(hb: -1000000000<=a/\t<=1000000000)(hf:a<=1000000000/\ -1000000000<=t)(orc:Nat->FuncId->List AV->AV)(ho:∀d l,orc d 999999 l=.junk)(E:List (Nat×AV))(m:AM)(L:List bE)
  (hO:nV p m L)(hL:L.length+(Yd (Yj p) t a).length<=1000000000)(hg:Abs.look E 67=.fn 205 [] [.ep (Qc p) 0,.ep [I a] 0,.ep [I t] 0])(h7:Abs.look E 7=.ptr 1 0)(Q:Exit->AS->Prop)
  (hQ:∀m',nV p m' (L++(Yd (Yj p) t a).map (Vi p))->m.boxes.length<=m'.boxes.length->(∀j,2<=j->j<m.boxes.length->Qh m'.boxes j=Qh m.boxes j)->Q .normal ⟨Ze 98 E,m'⟩):vc Tryz.prog az orc Y asq ⟨Ze 98 E,m⟩ Q:=by
 have cI:=xB p a t hl hb hf;generalize hX:Yd (Yj p) t a=xs at*
 unfold asq
 refine ry (xs:=xs.map (Qbg p)) (by simp[hg];try exact⟨rfl,rfl⟩) cI (by intro x hx;simp at hx;obtain⟨u,v,_,rfl⟩:=hx;rfl)
  (fun O i mm=>(∀j,O j->m.boxes.length<=j)/\nV p mm (L++(xs.take i).map (Vi p))/\m.boxes.length<=mm.boxes.length/\(∀j,2<=j->j<m.boxes.length->Qh mm.boxes j=Qh m.boxes j)) (fun _ _ _=>False) ?_ ?_ (fun _ _ _ _ h=>h.elim) ?_ ?_ (fun _ _ _ h=>h.elim)
 ·exact⟨fun _ h=>h.elim,by rw[zzhj,zzcg,zzat];exact hO,zzab _,fun _ _ _=>rfl⟩
 ·rintro O i m1 m2 ⟨h1,h2,h3,h4⟩ e;have CF:=hO.1;refine⟨?_,h2.YI e (fun h=>by have:=h1 _ h;omega) (fun h=>by have:=h1 _ h;omega),zzbn h3 e.1,fun j j1 j2=>by rw[e.2.1 j (by omega) (fun h=>by have:=h1 _ h;omega)];exact h4 j j1 j2⟩;rintro j (h|h)
  ·exact h1 j h
  omega
 ·rintro O l i mm x tY bZ hg0 fI ⟨h1,h2,h3,h4⟩ hx K' q1 _ _;rw[zzbm,zzcf]at hx;obtain⟨x,hx,rfl⟩:=hx;have gr:=(zza.1 hx).1;have bB:L++(xs.take (i+1)).map (Vi p)=(L++(xs.take i).map (Vi p))++[Vi p x]:=by rw[zzas,hx];simp
  have hml:=hO.1;have aH:(L++(xs.take i).map (Vi p)).length<=1000000000:=by simp;omega
  obtain⟨o1,o2,rt,o3,o4⟩:=h2;simp only[Ui,CS]at o1 o2 o3 o4 h3 h4;have fq:∀y,Qh (mm.boxes++y) 1=[.sl rt ((L++(xs.take i).map (Vi p)).map Zv)]:=fun y=>by rw[Ql (by omega)];exact o3
  have nP:∀y,Qh (mm.boxes++[y]) mm.boxes.length=y:=fun y=>by
   simp
  have fin:∀(T:List AV)(v:List AV)(row:List AV)(ls:List Nat)(st:Nat->LS)(ln:Nat),nV p ⟨(mm.boxes++[row]).set 1 v,ls,st,ln⟩ (L++(xs.take (i+1)).map (Vi p))->K' .normal ⟨T,⟨(mm.boxes++[row]).set 1 v,ls,st,ln⟩⟩:=by
   intro T v row ls st ln hv;refine q1 _ ⟨by simp,fun j hj=>?_⟩ ⟨h1,hv,by simp;omega,fun j j1 j2=>?_⟩
   ·have:=(tY j hj).2;have:=h1 j hj;show Qh ((mm.boxes++[row]).set 1 v) j=_;rw[Zy _ (by omega),Ql (by omega)]
   show Qh ((mm.boxes++[row]).set 1 v) j=_;rw[Zy _ (by omega),Ql (by omega)];exact h4 j j1 j2
  have C9:∀(v row:List AV),Qh ((mm.boxes++[row]).set 1 v) 0=Qc p/\Qh ((mm.boxes++[row]).set 1 v) 1=v:=fun v row=>⟨by rw[Zy _ (by omega),Ql (by omega)];exact o2,Vr _ (by simp;omega)⟩;rw[bB]at fin;generalize L++(xs.take i).map (Vi p)=G at*
  have hG7:∀row∈G.map Zv,row.length=7:=by
   intro row h;obtain⟨e,_,rfl⟩:=zzbc.1 h;rfl
  obtain⟨rfl,rfl⟩|⟨aK,k,rfl,hk⟩:=o4
  ·simp[fI,Zl,Qbg,h7,fq,nP,ho];subst_vars;exact⟨by omega,fin _ _ _ _ _ _ ⟨by simp;omega,(C9 _ _).1,_,(C9 _ _).2,.inr ⟨by simp,_,rfl,by simp⟩⟩⟩
  simp[fI,Zl,Qbg,h7,fq,nP,ho];refine⟨⟨hk,?_,by omega⟩,by omega,fin _ _ _ _ _ _ ⟨by simp;omega,(C9 _ _).1,_,by rw[(C9 _ _).2];simp;rfl,.inr ⟨by simp,k,rfl,by simp[(zza.1 hk).1]⟩⟩⟩;rintro row (⟨e,_,rfl⟩|rfl)<;>rfl
 rintro mm' mm ⟨h1,h2,h3,h4⟩;rw[zzbf,zzbs]at h2;exact hQ _ h2 h3 h4
def asr:SC:=(⟨_,by cbv⟩:tW [1,1,1,1,0,1,0] I9).1
def amP(Y:YT)(p:Pl)(a t:Int)(hl:p.aM.length<=1000000000)(hb: -1000000000<=a/\t<=1000000000)(hf:a<=1000000000/\ -1000000000<=t)(orc:Nat->FuncId->List AV->AV)(ho:∀d l,orc d 999999 l=.junk)(E:List (Nat×AV))(m:AM)(L:List bE)
  (hO:nV p m L)(hL:L.length+(Yd (Yj p) t a).length<=1000000000)(hg:Abs.look E 91=.fn 205 [] [.ep (Qc p) 0,.ep [I a] 0,.ep [I t] 0])(h7:Abs.look E 7=.ptr 1 0)(Q:Exit->AS->Prop)
  (hQ:∀m',nV p m' (L++(Yd (Yj p) t a).map (Vi p))->m.boxes.length<=m'.boxes.length->(∀j,2<=j->j<m.boxes.length->Qh m'.boxes j=Qh m.boxes j)->Q .normal ⟨Ze 98 E,m'⟩):vc Tryz.prog az orc Y asr ⟨Ze 98 E,m⟩ Q:=by
 have cI:=xB p a t hl hb hf;generalize hX:Yd (Yj p) t a=xs at*
 unfold asr
 refine ry (xs:=xs.map (Qbg p)) (by simp[hg];try exact⟨rfl,rfl⟩) cI (by intro x hx;simp at hx;obtain⟨u,v,_,rfl⟩:=hx;rfl)
  (fun O i mm=>(∀j,O j->m.boxes.length<=j)/\nV p mm (L++(xs.take i).map (Vi p))/\m.boxes.length<=mm.boxes.length/\(∀j,2<=j->j<m.boxes.length->Qh mm.boxes j=Qh m.boxes j)) (fun _ _ _=>False) ?_ ?_ (fun _ _ _ _ h=>h.elim) ?_ ?_ (fun _ _ _ h=>h.elim)
 ·exact⟨fun _ h=>h.elim,by rw[zzhj,zzcg,zzat];exact hO,zzab _,fun _ _ _=>rfl⟩
 ·rintro O i m1 m2 ⟨h1,h2,h3,h4⟩ e;have CF:=hO.1;refine⟨?_,h2.YI e (fun h=>by have:=h1 _ h;omega) (fun h=>by have:=h1 _ h;omega),zzbn h3 e.1,fun j j1 j2=>by rw[e.2.1 j (by omega) (fun h=>by have:=h1 _ h;omega)];exact h4 j j1 j2⟩;rintro j (h|h)
  ·exact h1 j h
  omega
 ·rintro O l i mm x tY bZ hg0 fI ⟨h1,h2,h3,h4⟩ hx K' q1 _ _;rw[zzbm,zzcf]at hx;obtain⟨x,hx,rfl⟩:=hx;have gr:=(zza.1 hx).1;have bB:L++(xs.take (i+1)).map (Vi p)=(L++(xs.take i).map (Vi p))++[Vi p x]:=by rw[zzas,hx];simp
  have hml:=hO.1;have aH:(L++(xs.take i).map (Vi p)).length<=1000000000:=by simp;omega
  obtain⟨o1,o2,rt,o3,o4⟩:=h2;simp only[Ui,CS]at o1 o2 o3 o4 h3 h4;have fq:∀y,Qh (mm.boxes++y) 1=[.sl rt ((L++(xs.take i).map (Vi p)).map Zv)]:=fun y=>by rw[Ql (by omega)];exact o3
  have nP:∀y,Qh (mm.boxes++[y]) mm.boxes.length=y:=fun y=>by
   simp
  have fin:∀(T:List AV)(v:List AV)(row:List AV)(ls:List Nat)(st:Nat->LS)(ln:Nat),nV p ⟨(mm.boxes++[row]).set 1 v,ls,st,ln⟩ (L++(xs.take (i+1)).map (Vi p))->K' .normal ⟨T,⟨(mm.boxes++[row]).set 1 v,ls,st,ln⟩⟩:=by
   intro T v row ls st ln hv;refine q1 _ ⟨by simp,fun j hj=>?_⟩ ⟨h1,hv,by simp;omega,fun j j1 j2=>?_⟩
   ·have:=(tY j hj).2;have:=h1 j hj;show Qh ((mm.boxes++[row]).set 1 v) j=_;rw[Zy _ (by omega),Ql (by omega)]
   show Qh ((mm.boxes++[row]).set 1 v) j=_;rw[Zy _ (by omega),Ql (by omega)];exact h4 j j1 j2
  have C9:∀(v row:List AV),Qh ((mm.boxes++[row]).set 1 v) 0=Qc p/\Qh ((mm.boxes++[row]).set 1 v) 1=v:=fun v row=>⟨by rw[Zy _ (by omega),Ql (by omega)];exact o2,Vr _ (by simp;omega)⟩;rw[bB]at fin;generalize L++(xs.take i).map (Vi p)=G at*
  have hG7:∀row∈G.map Zv,row.length=7:=by
   intro row h;obtain⟨e,_,rfl⟩:=zzbc.1 h;rfl
  obtain⟨rfl,rfl⟩|⟨aK,k,rfl,hk⟩:=o4
  ·simp[fI,Zl,Qbg,h7,fq,nP,ho];subst_vars;exact⟨by omega,fin _ _ _ _ _ _ ⟨by simp;omega,(C9 _ _).1,_,(C9 _ _).2,.inr ⟨by simp,_,rfl,by simp⟩⟩⟩
  simp[fI,Zl,Qbg,h7,fq,nP,ho];refine⟨⟨hk,?_,by omega⟩,by omega,fin _ _ _ _ _ _ ⟨by simp;omega,(C9 _ _).1,_,by rw[(C9 _ _).2];simp;rfl,.inr ⟨by simp,k,rfl,by simp[(zza.1 hk).1]⟩⟩⟩;rintro row (⟨e,_,rfl⟩|rfl)<;>rfl
 rintro mm' mm ⟨h1,h2,h3,h4⟩;rw[zzbf,zzbs]at h2;exact hQ _ h2 h3 h4
def A8(fr t:Int):∀(n:Nat)(a:Int),(t-a).toNat<=n->((Yd fr t a).length:Int)<=max 0 (t-a):=by
 intro n;induction n with
 |zero=>intro a h;rw[Yd,if_neg (by omega)];simp only[zzch];omega
 |succ n ih=>
  intro a h;rw[Yd];split
  ·rename_i ai;have hN:1<=Uy fr t a/\Uy fr t a<=t-a:=by unfold Uy;split<;>omega
   have:=ih (a+Uy fr t a) (by omega);simp only[zzba];omega
  simp only[zzch];omega
def nV.app{p:Pl}{m:AM}{L:List bE}(h:nV p m L)(x:List (List AV)):nV p ⟨m.boxes++x,m.lens,m.st,m.ln⟩ L:=by
 obtain⟨a1,a2,rt,a3,a4⟩:=h;exact⟨by simp;omega,by show Qh (m.boxes++x) 0=_;rw[Ql (by omega)];exact a2,rt,by show Qh (m.boxes++x) 1=_;rw[Ql (by omega)];exact a3,a4⟩
open Go Go.Abs
def pJ(p:Pl)(s:Sp)(at_:Int):Option En:=match Zf s.1 p.ens with
 |some e=>if s.1=0\/e.fr<1\/s.2<at_\/p.ln-s.2<e.fr then none else some e
 |none=>none
def zM(p:Pl):List Sp->Int->List bE
 |[],at_=>(Yd (Yj p) p.ln at_).map (Vi p)
 |s::r,at_=>match pJ p s at_ with
  |none=>zM p r at_
  |some e=>((Yd (Yj p) s.2 at_).map (Vi p)++[Gb p e s.2])++zM p r (s.2+e.fr)
def jQ(p:Pl)(l:List Sp)(at_:Int):List bE:=if at_<0\/p.ln<at_ then[]else zM p l at_
def pK(p:Pl):Nat->FuncId->List AV->AV:=fun d f l=>
 if f=999999 then .junk else
 if f=130 then(match l with|[_,.int _ n]=>sK (Zf n p.ens)|_=>.junk)else
 if f=131 then(match l with|[_,.int _ a,.int _ t]=>.fn 205 [] [.ep (Qc p) 0,.ep [I a] 0,.ep [I t] 0]|_=>.junk)else
 if f=132 then(match l with|[_,.agg [.int _ a,.int _ b,.int _ c,.int _ d,.int _ e,.int _ g,.sl _ rows],.int _ fr]=>afc p ⟨a,b,c,d,e,g,rows.map rz⟩ fr|_=>.junk)else .gd false .junk
def jR{id:Int}{x:En}:∀{l:List En},Zf id l=some x->x∈l/\x.id=id
 |[],h=>by cases h
 |y::r,h=>by
  simp only[Zf]at h;split at h
  ·rename_i hy;cases h;exact⟨by simp,hy⟩
  obtain⟨h1,h2⟩:=jR h;exact⟨by simp[h1],h2⟩
def Ld(p:Pl)(l:List Sp)(Gd:Int)(hc:p.cls.length<=1000000)(gO:p.sh.length<=1000000000)(cI:p.aM.length<=1000000000)(IN:p.ens.length<=1000000000)(eP:∀e∈p.ens,e.al.length<=8796093022208)
  (cS:p.ln<=1000000)(hl:l.length<=1000000)(lU:∀s∈l,-1000000000<=s.2/\s.2<=1000000000):∃rt,Pure Tryz.prog az 62 [.agg (Qc p),.sl .ro (l.map Qe),I Gd] (.sl rt ((jQ p l Gd).map Zv)):=by
 by_cases c0:Gd<0\/p.ln<Gd
 ·refine⟨.nil,Qn TL (pK p) (by simp) ?_⟩;rw[jQ,if_pos c0];by_cases c1:Gd<0
  ·simp[I9,TK,Qc,c1]
  have c2:p.ln<Gd:=by omega
  simp[I9,TK,Qc,c1,c2]
 refine⟨if zM p l Gd=[]then .nil else .ro,Qn TL (pK p) (by simp) ?_⟩;rw[jQ,if_neg c0];simp only[not_or]at c0;have c1:¬Gd<0:=c0.1;have c2:¬p.ln<Gd:=c0.2;simp[I9,Qc,c1,c2];refine Qj oE (fun f mm=>∃(i:Nat)(at_:Int)(L:List bE),f 24=I i/\f 2=I at_/\i<=l.length/\nV p mm L/\0<=at_/\at_<=p.ln/\(L.length:Int)<=at_/\L++zM p (l.drop i) at_=zM p l Gd) (fun f _=>l.length-(numOf (f 24)).toNat) ?_ ?_
 ·exact⟨0,Gd,[],by simp,by simp,by omega,⟨by simp,by simp[Qc],.nil,by simp,.inl ⟨rfl,rfl⟩⟩,by omega,by omega,by simp;omega,by simp⟩
 rintro f mm ⟨i,at_,L,h24,h2,hi,hO,a1,a2,a3,hI⟩;rcases zzaa i l.length with ai|bu
 ·obtain⟨s,hs⟩:=aR ai;have ah:=Zc hs;have Tg:=lU s (zzac hs);have aa:(i:Int)<(l.length:Int):=by omega
  have hw:=bK i (by omega);have dG:IntKind.i64.wrap (p.ln-s.2)=p.ln-s.2:=by rw[Qk]<;>omega
  rw[Zb hs,zM]at hI;have Le:=Lg p s.1 IN eP;have hO':=hO;obtain⟨o1,o2,rt,o3,o4⟩:=hO';have r0:∀y,Qh (mm.boxes++y) 0=Qc p:=fun y=>by rw[Ql (by omega)];exact o2
  have r1:∀y,Qh (mm.boxes++y) 1=[.sl rt (L.map Zv)]:=fun y=>by rw[Ql o1];exact o3
  simp only[Qc]at r0;cases hf:Zf s.1 p.ens with
  |none=>
   simp only[pJ,hf]at hI;rw[hf]at Le;by_cases c3:s.1=0
   ·rw[c3]at hf Le;simp[h24,h2,oE,ai,aa,ah,r0,r1,pK,hf,sK,hw,c3];refine⟨Le,aO,⟨i+1,by simp,by omega,L,hO.app _,a1,a2,a3,hI⟩,by omega⟩
   simp[h24,h2,oE,ai,aa,ah,r0,r1,pK,hf,sK,hw,c3];refine⟨Le,aO,⟨i+1,by simp,by omega,L,hO.app _,a1,a2,a3,hI⟩,by omega⟩
  |some e=>
   rw[hf]at Le;simp only[pJ,hf]at hI;by_cases c3:s.1=0
   ·rw[if_pos (.inl c3)]at hI;rw[c3]at hf Le;simp[h24,h2,oE,ai,aa,ah,r0,r1,pK,hf,sK,Qd,hw,c3];refine⟨Le,aO,⟨i+1,by simp,by omega,L,hO.app _,a1,a2,a3,hI⟩,by omega⟩
   by_cases c4:e.fr<1
   ·rw[if_pos (.inr (.inl c4))]at hI;simp[h24,h2,oE,ai,aa,ah,r0,r1,pK,hf,sK,Qd,hw,c3,c4];refine⟨Le,aO,⟨i+1,by simp,by omega,L,hO.app _,a1,a2,a3,hI⟩,by omega⟩
   by_cases c5:s.2<at_
   ·rw[if_pos (.inr (.inr (.inl c5)))]at hI;simp[h24,h2,oE,ai,aa,ah,r0,r1,pK,hf,sK,Qd,hw,c3,c4,c5];refine⟨Le,aO,⟨i+1,by simp,by omega,L,hO.app _,a1,a2,a3,hI⟩,by omega⟩
   by_cases c6:p.ln-s.2<e.fr
   ·rw[if_pos (.inr (.inr (.inr c6)))]at hI;simp[h24,h2,oE,ai,aa,ah,r0,r1,pK,hf,sK,Qd,hw,dG,c3,c4,c5,c6];refine⟨Le,aO,⟨i+1,by simp,by omega,L,hO.app _,a1,a2,a3,hI⟩,by omega⟩
   rw[if_neg (by omega)]at hI;simp[h24,h2,oE,ai,aa,ah,r0,r1,pK,hf,sK,Qd,hw,dG,c3,c4,c5,c6];have Rm:=xC p at_ s.2;have fK:=A8 (Yj p) s.2 _ at_ (zzab _);refine⟨Le,Rm,?_⟩;refine amO Y0 p at_ s.2 cI (by omega) (by omega) (pK p) (fun _ _=>rfl) _ _ L (hO.app _) (by omega) (by simp) (by simp) _ ?_;intro m' Lh bZ eu
   have Rs:Qh m'.boxes mm.boxes.length=[I s.1,I s.2]:=by
    rw[eu _ (by omega) (by simp)];simp
   have Re:Qh m'.boxes (mm.boxes.length+1)=Qd e:=by
    rw[eu _ (by omega) (by simp)];simp[Qd]
   simp only[Qd]at Re;obtain⟨p1,p2,JZ,p3,p4⟩:=Lh;have p2':=p2;have b1:∀v,Qh (m'.boxes.set 1 v) 1=v:=fun v=>Vr v p1;have b0:∀v,Qh (m'.boxes.set 1 v) 0=Qc p:=fun v=>by rw[Zy v (by omega)];exact p2
   have bs:∀v,Qh (m'.boxes.set 1 v) mm.boxes.length=[I s.1,I s.2]:=fun v=>by rw[Zy v (by omega)];exact Rs
   have be:∀v,Qh (m'.boxes.set 1 v) (mm.boxes.length+1)=[I e.id,I e.it,I e.fr,I e.ea,I e.la,I e.bo,.sl .ro (e.al.map Qe)]:=fun v=>by rw[Zy v (by omega)];exact Re
   simp only[Qc]at p2';have hG:((L++(Yd (Yj p) s.2 at_).map (Vi p)).length:Int)<=s.2:=by simp;omega
   have hI2:(L++(Yd (Yj p) s.2 at_).map (Vi p)++[Gb p e s.2])++zM p (l.drop (i+1)) (s.2+e.fr)=zM p l Gd:=by rw[<- hI];simp
   generalize L++(Yd (Yj p) s.2 at_).map (Vi p)=G at*
   have k32:=Lc p e s.2 hc gO cI (eP e (jR hf).1);have Lb:IntKind.i64.wrap (s.2+e.fr)=s.2+e.fr:=by rw[Qk]<;>omega
   obtain⟨g1,rfl⟩|⟨g1,k,rfl,hk⟩:=p4
   ·subst g1;simp[h24,p2',p3,Rs,Re,b1,bs,be,p1,pK,afc,IM,hw,Lb];rw[zzaj]at hI2;refine⟨k32,aO,⟨i+1,by simp,by omega,[Gb p e s.2],⟨by simp;omega,b0 _,_,b1 _,.inr ⟨by simp,_,rfl,by simp⟩⟩,by omega,by omega,by simp;omega,hI2⟩,by omega⟩
   simp[h24,p2',p3,Rs,Re,b1,bs,be,p1,pK,afc,IM,hw,Lb];refine⟨k32,⟨hk,by rintro row (⟨a,_,rfl⟩|rfl)<;>rfl,by omega⟩,ag ?_,⟨i+1,by simp,by omega,G++[Gb p e s.2],⟨by simp;omega,b0 _,_,by rw[b1];simp[Zv,Gb],.inr ⟨by simp,k,rfl,by simp[(zza.1 hk).1]⟩⟩,by omega,by omega,by simp;omega,hI2⟩,by omega⟩;repeat(first|exact Qb _ _|refine Qa _ rfl ?_)
 obtain rfl:i=l.length:=by omega
 have Rm:=xC p at_ p.ln;have fK:=A8 (Yj p) p.ln _ at_ (zzab _);rw[zzbo,zM]at hI;obtain⟨o1,o2,rt,o3,o4⟩:=id hO;simp only[Qc]at o2;simp[h24,h2,oE,o2,pK];refine⟨Rm,?_⟩;refine amP Y0 p at_ p.ln cI (by omega) (by omega) (pK p) (fun _ _=>rfl) _ _ L hO (by omega) (by simp) (by simp) _ ?_;intro m' Lh bZ eu;rw[hI]at Lh;obtain⟨p1,p2,JZ,p3,p4⟩:=Lh;generalize zM p l Gd=G at*
 obtain⟨g1,rfl⟩|⟨g1,k,rfl,hk⟩:=p4
 ·subst g1;simp[p3,p1,TK]
 simp[p3,p1,TK,g1]
def Qf(e:bE):List AV:=[I e.id,I e.it,I e.st,I e.fr,I e.i,I e.re,.sl .ro (e.al.map Qe)]
def Li(L:List bE):Wk (.sl .ro (L.map Zv)) (.sl .ro (L.map Qf)):=by
 refine Wk.rows L Zv Qf (fun _=>rfl) fun a j c' h=>?_
 match j,h with
 |0,h=>exact⟨_,rfl,by cases h;exact Wk.refl _⟩
 |1,h=>exact⟨_,rfl,by cases h;exact Wk.refl _⟩
 |2,h=>exact⟨_,rfl,by cases h;exact Wk.refl _⟩
 |3,h=>exact⟨_,rfl,by cases h;exact Wk.refl _⟩
 |4,h=>exact⟨_,rfl,by cases h;exact Wk.refl _⟩
 |5,h=>exact⟨_,rfl,by cases h;exact Wk.refl _⟩
 |6,h=>exact⟨_,rfl,by cases h;exact Wk.sl _ _⟩
 |j+7,h=>simp[Qf]at h
def Wk.trans{a b c:AV}(h:Wk a b)(k:Wk b c):Wk a c:=fun w γ v hr=>k w γ v (h w γ v hr)
def sL(p:Pl)(l:List Sp)(Gd:Int)(hc:p.cls.length<=1000000)(gO:p.sh.length<=1000000000)(cI:p.aM.length<=1000000000)(IN:p.ens.length<=1000000000)(eP:∀e∈p.ens,e.al.length<=8796093022208)
  (cS:p.ln<=1000000)(hl:l.length<=1000000)(lU:∀s∈l,-1000000000<=s.2/\s.2<=1000000000):Pure Tryz.prog az 62 [.agg (Qc p),.sl .ro (l.map Qe),I Gd] (.sl .ro ((jQ p l Gd).map Qf)):=by
 obtain⟨rt,h⟩:=Ld p l Gd hc gO cI IN eP cS hl lU;exact Xa h (Wk.trans (Wk.sl _ _) (Li _))
end
end Go.Proofs.YtnopaopphmjnmaaGreatDoor
