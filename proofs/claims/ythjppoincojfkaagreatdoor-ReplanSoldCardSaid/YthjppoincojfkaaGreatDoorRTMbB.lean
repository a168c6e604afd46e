import Derived.Test.YthjppoincojfkaaGreatDoorRTScB
set_option linter.all false
set_option maxRecDepth 100000
set_option maxHeartbeats 64000000
namespace Go.Proofs.YthjppoincojfkaaGreatDoor
noncomputable section
open Go Go.Abs
def pG(p:Pl)(e:En)(fr:Int)(s:Sp):Bool:=decide (1<=s.1)&&decide (s.1<p.rg)&&Xv p s.2 s.1 fr e.fr
def evM(p:Pl)(e:En)(fr:Int):Int:=Ut (fun i=>Xv p e.it i fr e.fr) (min p.rg 8).toNat
def IJ(p:Pl)(e:En)(fr:Int)(rt:Rt)(l:List Sp):P2:=[I e.id,I e.it,I fr,I e.fr,I 0,I (evM p e fr),.sl rt (l.map Qe)]
def Rh(p:Pl)(e:En)(fr:Int)(i:Nat):List Sp:=(e.al.take i).filter (pG p e fr)
def Gw(p:Pl)(e:En)(fr:Int)(hc:p.cls.length<=1000000)(fC:p.sh.length<=1000000000)(cR:p.aM.length<=1000000000)(fM:e.al.length<=8796093022208):
  ∃rt,Pure Tryz.prog aD 123 [.agg (Qa p),.agg (Qd e),I fr] (.agg (IJ p e fr rt (e.al.filter (pG p e fr)))):=by
 refine⟨if e.al.filter (pG p e fr)=[]then .nil else .ro,Qp acr (fun _ _ _=>.gd false .junk) zd ?_⟩;simp[TS,Qa,Qd];refine sK Y0 p 179 [.ptr 4 0,.ptr 1 0] (fun i=>Xv p e.it i fr e.fr) _ _ ?_ fun bx=>?_
 ·rintro i mm _ _ ⟨bx,rfl⟩ K' h;exact X9 Y0 p e i fr _ 0 2 1 4 hc fC cR (by simp[Qa]) zd (by simp[Qd]) zd K' h
 have hM:Ut (fun i=>Xv p e.it i fr e.fr) (min p.rg 8).toNat=evM p e fr:=rfl;simp[hM]
 refine Qj qq (fun f mm=>∃(i:Nat)(bx:T5)(Lm:Pa)(rt:Rt),f 27=I i/\i<=e.al.length/\mm=⟨Qa p::Qd e::[I fr]::[I 0,I 0,I 0,I 0,I 0,I 0,.sl .nil []]::[.fn 178 [] [.ptr 0 0,.ptr 2 0,.ptr 1 0]]::IJ p e fr rt (Rh p e fr i)::bx,Lm,fun _=>.gone,0⟩/\
  (Rh p e fr i=[]/\rt=.nil\/Rh p e fr i≠[]/\∃k,rt=.own k 2/\Lm[k]?=some (Rh p e fr i).length)) (fun f _=>e.al.length-(numOf (f 27)).toNat) ?_ ?_
 ·refine⟨0,bx,[],.nil,zd,zE,?_,.inl ⟨by simp[Rh],rfl⟩⟩;simp[Qa,Qd,IJ,Rh]
 rintro f mm ⟨i,bx,Lm,rt,h27,hi,rfl,aY⟩;rcases zzaa i e.al.length with ah|bu
 ·obtain⟨x,hx⟩:=aV ah;have ai:=Zy hx;have aa:(i:Int)<(e.al.length:Int):=zE
  have hw:=bO i zE
  have bz:Rh p e fr (i+1)=Rh p e fr i++if pG p e fr x then[x]else[]:=by
   unfold Rh;rw[zzay,hx,zzdb];simp only[Option.toList,zzdp,List.filter_nil]
  generalize hG:Rh p e fr i=G at*
  by_cases c1:1<=x.1
  ·by_cases c2:x.1<p.rg
   ·have hpm:=fun mm h1 h2 h3=>F7 Y0 p e x.2 x.1 fr mm 0 2 1 hc fC cR h1 h2 h3;simp[h27,Qa,Qd,IJ,ai,aa,ah,qq,c1,c2,hw];have hGl:G.length<=i:=by rw[<- hG];unfold Rh;exact zzbb (zzcf _ _) (by rw[zzas];omega)
    refine hpm _ rfl rfl rfl _ ?_;have hA:pG p e fr x=Xv p x.2 x.1 fr e.fr:=by simp[pG,c1,c2]
    rw[hA]at bz;cases hb:Xv p x.2 x.1 fr e.fr with
    |false=>
     rw[hb]at bz;simp only[zzbi,if_false,zzat]at bz;simp[hw];refine⟨aQ,⟨i+1,zE,zE,bx++[[I x.1,I x.2]],Lm,rt,by rw[bz];simp[Qa,Qd,IJ],by rw[bz];exact aY⟩,zE⟩
    |true=>
     rw[hb]at bz;simp only[if_true]at bz;obtain⟨h1,rfl⟩|⟨h1,k,rfl,hk⟩:=aY
     ·subst h1;simp only[zzag]at bz;simp[hw];refine⟨aQ,⟨i+1,zE,zE,bx++[[I x.1,I x.2]],Lm++[1],.own Lm.length 2,by rw[bz];simp[Qa,Qd,IJ,Qe],by rw[bz];exact .inr ⟨zd,_,rfl,zd⟩⟩,zE⟩
     simp[hw,hk];refine⟨⟨by rintro row (⟨a,b,_,rfl⟩|rfl)<;>rfl,zE⟩,ag ?_,⟨i+1,zE,zE,bx++[[I x.1,I x.2]],Lm.set k (G.length+1),.own k 2,by rw[bz];simp[Qa,Qd,IJ,Qe],by rw[bz];exact .inr ⟨zd,_,rfl,by rw[zzbh ((zza.1 hk).1)];simp⟩⟩,zE⟩;repeat(first|exact Qb _ _|refine Qc _ rfl ?_)
   have hA:pG p e fr x=false:=by simp[pG,c2]
   simp[h27,Qa,Qd,IJ,ai,aa,ah,qq,c1,c2,hw];rw[hA]at bz;simp only[zzbi,if_false,zzat]at bz;refine⟨aQ,⟨i+1,zE,zE,bx++[[I x.1,I x.2]],Lm,rt,by rw[bz];simp[Qa,Qd,IJ],by rw[bz];exact aY⟩,zE⟩
  have hA:pG p e fr x=false:=by simp[pG,c1]
  simp[h27,Qa,Qd,IJ,ai,aa,ah,qq,c1,hw];rw[hA]at bz;simp only[zzbi,if_false,zzat]at bz;refine⟨aQ,⟨i+1,zE,zE,bx++[[I x.1,I x.2]],Lm,rt,by rw[bz];simp[Qa,Qd,IJ],by rw[bz];exact aY⟩,zE⟩
 obtain rfl:i=e.al.length:=zE
 have hE:Rh p e fr e.al.length=e.al.filter (pG p e fr):=by simp[Rh]
 rw[hE]at aY;generalize e.al.filter (pG p e fr)=G at*
 obtain⟨h1,rfl⟩|⟨h1,k,rfl,hk⟩:=aY
 ·simp[h27,Qa,Qd,IJ,qq,TT,h1,hE]
 simp[h27,Qa,Qd,IJ,qq,TT,h1,hE]
def ae5(p:Pl)(e:En)(fr:Int):AV:=.agg (IJ p e fr .ro (e.al.filter (pG p e fr)))
def K3(p:Pl)(e:En)(fr:Int)(hc:p.cls.length<=1000000)(fC:p.sh.length<=1000000000)(cR:p.aM.length<=1000000000)(fM:e.al.length<=8796093022208):
  Pure Tryz.prog aD 123 [.agg (Qa p),.agg (Qd e),I fr] (ae5 p e fr):=by
 obtain⟨rt,h⟩:=Gw p e fr hc fC cR fM;exact Zk h (Qdq ⟨Ps,Ps,Ps,Ps,Ps,Ps,Wk.sl _ _,trivial⟩)
structure aW where
 id:Int
 it:Int
 st:Int
 fr:Int
 i:Int
 re:Int
 al:List Sp
 nl:Bool
def Zv(e:aW):P2:=[I e.id,I e.it,I e.st,I e.fr,I e.i,I e.re,.sl (if e.nl then .nil else .ro) (e.al.map Qe)]
def Zq(p:Pl)(x:Int×Int):aW:=⟨0,p.fi,x.1,x.2,0,F6 p,[],true⟩
def tP(p:Pl)(e:En)(fr:Int):aW:=⟨e.id,e.it,fr,e.fr,0,evM p e fr,e.al.filter (pG p e fr),false⟩
def nE(p:Pl)(m:AM)(L:List aW):Prop:=1<m.boxes.length/\Qi m.boxes 0=Qa p/\∃rt,Qi m.boxes 1=[.sl rt (L.map Zv)]/\(L=[]/\rt=.nil\/L≠[]/\∃k,rt=.own k 7/\m.lens[k]?=some L.length)
def nE.XW{p:Pl}{m m':AM}{L:List aW}{O:Nat->Prop}(h:nE p m L)(e:bW O m m')(h0:¬O 0)(h1:¬O 1):nE p m' L:=by
 obtain⟨a1,a2,rt,a3,a4⟩:=h;obtain⟨e1,e2,⟨lx,e3⟩,_⟩:=e;refine⟨zE,by rw[e2 0 zE h0];exact a2,rt,by rw[e2 1 a1 h1];exact a3,?_⟩;obtain h|⟨hn,k,hk,hl⟩:=a4
 ·exact .inl h
 exact .inr ⟨hn,k,hk,by rw[e3,zzak (zza.1 hl).1];exact hl⟩
def asw:SC:=(⟨_,by cbv⟩:J3 [1,1,1,0,1,0,0,1,1,0,0,1,1,1,0,1,0] I1).1
def amf(Y:YT)(p:Pl)(a t:Int)(hl:p.aM.length<=1000000000)(hb: -1000000000<=a/\t<=1000000000)(hf:a<=1000000000/\ -1000000000<=t)(orc:UV)(ho:∀d l,orc d 999999 l=.junk)(E:QQ)(m:AM)(L:List aW)
  (hO:nE p m L)(hL:L.length+(Vg (Vv p) t a).length<=1000000000)(hg:Abs.look E 67=.fn 175 [] [.ep (Qa p) 0,.ep [I a] 0,.ep [I t] 0])(h7:Abs.look E 7=.ptr 1 0)(Q:R0)
  (hQ:∀m',nE p m' (L++(Vg (Vv p) t a).map (Zq p))->m.boxes.length<=m'.boxes.length->(∀j,2<=j->j<m.boxes.length->Qi m'.boxes j=Qi m.boxes j)->Q .normal ⟨Vw 98 E,m'⟩):vc Tryz.prog aD orc Y asw ⟨Vw 98 E,m⟩ Q:=by
 have cR:=xu p a t hl hb hf;generalize hX:Vg (Vv p) t a=xs at*
 unfold asw
 refine qW (xs:=xs.map (Qav p)) (by simp[hg];try exact⟨rfl,rfl⟩) cR (by intro x hx;simp at hx;obtain⟨u,v,_,rfl⟩:=hx;rfl)
  (fun O i mm=>(∀j,O j->m.boxes.length<=j)/\nE p mm (L++(xs.take i).map (Zq p))/\m.boxes.length<=mm.boxes.length/\(∀j,2<=j->j<m.boxes.length->Qi mm.boxes j=Qi m.boxes j)) (fun _ _ _=>False) ?_ ?_ (fun _ _ _ _ h=>h.elim) ?_ ?_ (fun _ _ _ h=>h.elim)
 ·exact⟨fun _ h=>h.elim,by rw[zzhh,zzct,zzat];exact hO,zzab _,fun _ _ _=>rfl⟩
 ·rintro O i m1 m2 ⟨h1,h2,h3,h4⟩ e;have y9:=hO.1;refine⟨?_,h2.XW e (fun h=>by have:=h1 _ h;omega) (fun h=>by have:=h1 _ h;omega),zzbb h3 e.1,fun j j1 j2=>by rw[e.2.1 j zE (fun h=>by have:=h1 _ h;omega)];exact h4 j j1 j2⟩;rintro j (h|h)
  ·exact h1 j h
  omega
 ·rintro O l i mm x C3 cw W7 iC ⟨h1,h2,h3,h4⟩ hx K' q1 _ _;rw[zzbn,zzca]at hx;obtain⟨x,hx,rfl⟩:=hx;have iT:=(zza.1 hx).1;have bz:L++(xs.take (i+1)).map (Zq p)=(L++(xs.take i).map (Zq p))++[Zq p x]:=by rw[zzay,hx];simp
  have hml:=hO.1;have aH:(L++(xs.take i).map (Zq p)).length<=1000000000:=by simp;omega
  obtain⟨o1,o2,rt,o3,o4⟩:=h2;simp only[Jp,Ol]at o1 o2 o3 o4 h3 h4;have gX:∀y,Qi (mm.boxes++y) 1=[.sl rt ((L++(xs.take i).map (Zq p)).map Zv)]:=fun y=>by rw[Qn zE];exact o3
  have A0:∀y,Qi (mm.boxes++[y]) mm.boxes.length=y:=fun y=>by
   simp
  have fin:∀(T:P2)(v:P2)(row:P2)(ls:Pa)(st:Nat->LS)(ln:Nat),nE p ⟨(mm.boxes++[row]).set 1 v,ls,st,ln⟩ (L++(xs.take (i+1)).map (Zq p))->K' .normal ⟨T,⟨(mm.boxes++[row]).set 1 v,ls,st,ln⟩⟩:=by
   intro T v row ls st ln hv;refine q1 _ ⟨zd,fun j hj=>?_⟩ ⟨h1,hv,by simp;omega,fun j j1 j2=>?_⟩
   ·have:=(C3 j hj).2;have:=h1 j hj;show Qi ((mm.boxes++[row]).set 1 v) j=_;rw[Ya _ zE,Qn zE]
   show Qi ((mm.boxes++[row]).set 1 v) j=_;rw[Ya _ zE,Qn zE];exact h4 j j1 j2
  have Dh:∀(v row:P2),Qi ((mm.boxes++[row]).set 1 v) 0=Qa p/\Qi ((mm.boxes++[row]).set 1 v) 1=v:=fun v row=>⟨by rw[Ya _ zE,Qn zE];exact o2,Yi _ (by simp;omega)⟩;rw[bz]at fin;generalize L++(xs.take i).map (Zq p)=G at*
  have hG7:∀row∈G.map Zv,row.length=7:=by
   intro row h;obtain⟨e,_,rfl⟩:=zzan.1 h;rfl
  obtain⟨rfl,rfl⟩|⟨aO,k,rfl,hk⟩:=o4
  ·simp[iC,Zt,Qav,h7,gX,A0,ho];subst_vars;exact⟨zE,fin _ _ _ _ _ _ ⟨by simp;omega,(Dh _ _).1,_,(Dh _ _).2,.inr ⟨zd,_,rfl,zd⟩⟩⟩
  simp[iC,Zt,Qav,h7,gX,A0,ho];refine⟨⟨hk,?_,zE⟩,zE,fin _ _ _ _ _ _ ⟨by simp;omega,(Dh _ _).1,_,by rw[(Dh _ _).2];simp;rfl,.inr ⟨zd,k,rfl,by simp[(zza.1 hk).1]⟩⟩⟩;rintro row (⟨e,_,rfl⟩|rfl)<;>rfl
 rintro mm' mm ⟨h1,h2,h3,h4⟩;rw[zzbw,zzbu]at h2;exact hQ _ h2 h3 h4
def asx:SC:=(⟨_,by cbv⟩:J3 [1,1,1,1,0,1,0] I1).1
def amg(Y:YT)(p:Pl)(a t:Int)(hl:p.aM.length<=1000000000)(hb: -1000000000<=a/\t<=1000000000)(hf:a<=1000000000/\ -1000000000<=t)(orc:UV)(ho:∀d l,orc d 999999 l=.junk)(E:QQ)(m:AM)(L:List aW)
  (hO:nE p m L)(hL:L.length+(Vg (Vv p) t a).length<=1000000000)(hg:Abs.look E 91=.fn 175 [] [.ep (Qa p) 0,.ep [I a] 0,.ep [I t] 0])(h7:Abs.look E 7=.ptr 1 0)(Q:R0)
  (hQ:∀m',nE p m' (L++(Vg (Vv p) t a).map (Zq p))->m.boxes.length<=m'.boxes.length->(∀j,2<=j->j<m.boxes.length->Qi m'.boxes j=Qi m.boxes j)->Q .normal ⟨Vw 98 E,m'⟩):vc Tryz.prog aD orc Y asx ⟨Vw 98 E,m⟩ Q:=by
 have cR:=xu p a t hl hb hf;generalize hX:Vg (Vv p) t a=xs at*
 unfold asx
 refine qW (xs:=xs.map (Qav p)) (by simp[hg];try exact⟨rfl,rfl⟩) cR (by intro x hx;simp at hx;obtain⟨u,v,_,rfl⟩:=hx;rfl)
  (fun O i mm=>(∀j,O j->m.boxes.length<=j)/\nE p mm (L++(xs.take i).map (Zq p))/\m.boxes.length<=mm.boxes.length/\(∀j,2<=j->j<m.boxes.length->Qi mm.boxes j=Qi m.boxes j)) (fun _ _ _=>False) ?_ ?_ (fun _ _ _ _ h=>h.elim) ?_ ?_ (fun _ _ _ h=>h.elim)
 ·exact⟨fun _ h=>h.elim,by rw[zzhh,zzct,zzat];exact hO,zzab _,fun _ _ _=>rfl⟩
 ·rintro O i m1 m2 ⟨h1,h2,h3,h4⟩ e;have y9:=hO.1;refine⟨?_,h2.XW e (fun h=>by have:=h1 _ h;omega) (fun h=>by have:=h1 _ h;omega),zzbb h3 e.1,fun j j1 j2=>by rw[e.2.1 j zE (fun h=>by have:=h1 _ h;omega)];exact h4 j j1 j2⟩;rintro j (h|h)
  ·exact h1 j h
  omega
 ·rintro O l i mm x C3 cw W7 iC ⟨h1,h2,h3,h4⟩ hx K' q1 _ _;rw[zzbn,zzca]at hx;obtain⟨x,hx,rfl⟩:=hx;have iT:=(zza.1 hx).1;have bz:L++(xs.take (i+1)).map (Zq p)=(L++(xs.take i).map (Zq p))++[Zq p x]:=by rw[zzay,hx];simp
  have hml:=hO.1;have aH:(L++(xs.take i).map (Zq p)).length<=1000000000:=by simp;omega
  obtain⟨o1,o2,rt,o3,o4⟩:=h2;simp only[Jp,Ol]at o1 o2 o3 o4 h3 h4;have gX:∀y,Qi (mm.boxes++y) 1=[.sl rt ((L++(xs.take i).map (Zq p)).map Zv)]:=fun y=>by rw[Qn zE];exact o3
  have A0:∀y,Qi (mm.boxes++[y]) mm.boxes.length=y:=fun y=>by
   simp
  have fin:∀(T:P2)(v:P2)(row:P2)(ls:Pa)(st:Nat->LS)(ln:Nat),nE p ⟨(mm.boxes++[row]).set 1 v,ls,st,ln⟩ (L++(xs.take (i+1)).map (Zq p))->K' .normal ⟨T,⟨(mm.boxes++[row]).set 1 v,ls,st,ln⟩⟩:=by
   intro T v row ls st ln hv;refine q1 _ ⟨zd,fun j hj=>?_⟩ ⟨h1,hv,by simp;omega,fun j j1 j2=>?_⟩
   ·have:=(C3 j hj).2;have:=h1 j hj;show Qi ((mm.boxes++[row]).set 1 v) j=_;rw[Ya _ zE,Qn zE]
   show Qi ((mm.boxes++[row]).set 1 v) j=_;rw[Ya _ zE,Qn zE];exact h4 j j1 j2
  have Dh:∀(v row:P2),Qi ((mm.boxes++[row]).set 1 v) 0=Qa p/\Qi ((mm.boxes++[row]).set 1 v) 1=v:=fun v row=>⟨by rw[Ya _ zE,Qn zE];exact o2,Yi _ (by simp;omega)⟩;rw[bz]at fin;generalize L++(xs.take i).map (Zq p)=G at*
  have hG7:∀row∈G.map Zv,row.length=7:=by
   intro row h;obtain⟨e,_,rfl⟩:=zzan.1 h;rfl
  obtain⟨rfl,rfl⟩|⟨aO,k,rfl,hk⟩:=o4
  ·simp[iC,Zt,Qav,h7,gX,A0,ho];subst_vars;exact⟨zE,fin _ _ _ _ _ _ ⟨by simp;omega,(Dh _ _).1,_,(Dh _ _).2,.inr ⟨zd,_,rfl,zd⟩⟩⟩
  simp[iC,Zt,Qav,h7,gX,A0,ho];refine⟨⟨hk,?_,zE⟩,zE,fin _ _ _ _ _ _ ⟨by simp;omega,(Dh _ _).1,_,by rw[(Dh _ _).2];simp;rfl,.inr ⟨zd,k,rfl,by simp[(zza.1 hk).1]⟩⟩⟩;rintro row (⟨e,_,rfl⟩|rfl)<;>rfl
 rintro mm' mm ⟨h1,h2,h3,h4⟩;rw[zzbw,zzbu]at h2;exact hQ _ h2 h3 h4
def Bj(fr t:Int):∀(n:Nat)(a:Int),(t-a).toNat<=n->((Vg fr t a).length:Int)<=max 0 (t-a):=by
 intro n;induction n with
 |zero=>intro a h;rw[Vg,ab zE];simp only[zzcn];omega
 |succ n ih=>
  intro a h;rw[Vg];split
  ·rename_i ah;have hN:1<=Uf fr t a/\Uf fr t a<=t-a:=by unfold Uf;split<;>omega
   have:=ih (a+Uf fr t a) zE;simp only[zzbf];omega
  simp only[zzcn];omega
def nE.app{p:Pl}{m:AM}{L:List aW}(h:nE p m L)(x:T5):nE p ⟨m.boxes++x,m.lens,m.st,m.ln⟩ L:=by
 obtain⟨a1,a2,rt,a3,a4⟩:=h;exact⟨by simp;omega,by show Qi (m.boxes++x) 0=_;rw[Qn zE];exact a2,rt,by show Qi (m.boxes++x) 1=_;rw[Qn zE];exact a3,a4⟩
def jo(p:Pl)(s:Sp)(at_:Int):Option En:=match Xn s.1 p.ens with
 |some e=>if s.1=0\/e.fr<1\/s.2<at_\/p.ln-s.2<e.fr then none else some e
 |none=>none
def Je(p:Pl):List Sp->Int->List aW
 |[],at_=>(Vg (Vv p) p.ln at_).map (Zq p)
 |s::r,at_=>match jo p s at_ with
  |none=>Je p r at_
  |some e=>((Vg (Vv p) s.2 at_).map (Zq p)++[tP p e s.2])++Je p r (s.2+e.fr)
def zf(p:Pl)(l:List Sp)(at_:Int):List aW:=if at_<0\/p.ln<at_ then[]else Je p l at_
def pH(p:Pl):UV:=fun d f l=>
 if f=999999 then .junk else
 if f=29 then(match l with|[_,.int _ n]=>Jo (Xn n p.ens)|_=>.junk)else
 if f=122 then(match l with|[_,.int _ a,.int _ t]=>.fn 175 [] [.ep (Qa p) 0,.ep [I a] 0,.ep [I t] 0]|_=>.junk)else
 if f=123 then(match l with|[_,.agg [.int _ a,.int _ b,.int _ c,.int _ d,.int _ e,.int _ g,.sl _ rows],.int _ fr]=>ae5 p ⟨a,b,c,d,e,g,rows.map qY⟩ fr|_=>.junk)else .gd false .junk
def Qbi{id:Int}{x:En}:∀{l:List En},Xn id l=some x->x∈l/\x.id=id
 |[],h=>by cases h
 |y::r,h=>by
  simp only[Xn]at h;split at h
  ·rename_i hy;cases h;exact⟨zd,hy⟩
  obtain⟨h1,h2⟩:=Qbi h;exact⟨by simp[h1],h2⟩
def K4(p:Pl)(l:List Sp)(Gx:Int)(hc:p.cls.length<=1000000)(fC:p.sh.length<=1000000000)(cR:p.aM.length<=1000000000)(IK:p.ens.length<=1000000000)(fM:∀e∈p.ens,e.al.length<=8796093022208)
  (dQ:p.ln<=1000000)(hl:l.length<=1000000)(lJ:∀s∈l,-1000000000<=s.2/\s.2<=1000000000):∃rt,Pure Tryz.prog aD 67 [.agg (Qa p),.sl .ro (l.map Qe),I Gx] (.sl rt ((zf p l Gx).map Zv)):=by
 by_cases c0:Gx<0\/p.ln<Gx
 ·refine⟨.nil,Qp Tw (pH p) zd ?_⟩;rw[zf,ac c0];by_cases c1:Gx<0
  ·simp[I1,Tv,Qa,c1]
  have c2:p.ln<Gx:=zE
  simp[I1,Tv,Qa,c1,c2]
 refine⟨if Je p l Gx=[]then .nil else .ro,Qp Tw (pH p) zd ?_⟩;rw[zf,ab c0];simp only[not_or]at c0;have c1:¬Gx<0:=c0.1;have c2:¬p.ln<Gx:=c0.2;simp[I1,Qa,c1,c2];refine Qj nZ (fun f mm=>∃(i:Nat)(at_:Int)(L:List aW),f 24=I i/\f 2=I at_/\i<=l.length/\nE p mm L/\0<=at_/\at_<=p.ln/\(L.length:Int)<=at_/\L++Je p (l.drop i) at_=Je p l Gx) (fun f _=>l.length-(numOf (f 24)).toNat) ?_ ?_
 ·exact⟨0,Gx,[],zd,zd,zE,⟨zd,by simp[Qa],.nil,zd,.inl ⟨rfl,rfl⟩⟩,zE,zE,by simp;omega,zd⟩
 rintro f mm ⟨i,at_,L,h24,h2,hi,hO,a1,a2,a3,hI⟩;rcases zzaa i l.length with ah|bu
 ·obtain⟨s,hs⟩:=aV ah;have ai:=Zy hs;have hsb:=lJ s (zzad hs);have aa:(i:Int)<(l.length:Int):=zE
  have hw:=bO i zE;have fV:IntKind.i64.wrap (p.ln-s.2)=p.ln-s.2:=by rw[Ql]<;>omega
  rw[Zc hs,Je]at hI;have zg:=xk p s.1 IK fM;have hO':=hO;obtain⟨o1,o2,rt,o3,o4⟩:=hO';have r0:∀y,Qi (mm.boxes++y) 0=Qa p:=fun y=>by rw[Qn zE];exact o2
  have r1:∀y,Qi (mm.boxes++y) 1=[.sl rt (L.map Zv)]:=fun y=>by rw[Qn o1];exact o3
  simp only[Qa]at r0;cases hf:Xn s.1 p.ens with
  |none=>
   simp only[jo,hf]at hI;rw[hf]at zg;by_cases c3:s.1=0
   ·rw[c3]at hf zg;simp[h24,h2,nZ,ah,aa,ai,r0,r1,pH,hf,Jo,hw,c3];refine⟨zg,aQ,⟨i+1,zd,zE,L,hO.app _,a1,a2,a3,hI⟩,zE⟩
   simp[h24,h2,nZ,ah,aa,ai,r0,r1,pH,hf,Jo,hw,c3];refine⟨zg,aQ,⟨i+1,zd,zE,L,hO.app _,a1,a2,a3,hI⟩,zE⟩
  |some e=>
   rw[hf]at zg;simp only[jo,hf]at hI;by_cases c3:s.1=0
   ·rw[ac (.inl c3)]at hI;rw[c3]at hf zg;simp[h24,h2,nZ,ah,aa,ai,r0,r1,pH,hf,Jo,Qd,hw,c3];refine⟨zg,aQ,⟨i+1,zd,zE,L,hO.app _,a1,a2,a3,hI⟩,zE⟩
   by_cases c4:e.fr<1
   ·rw[ac (.inr (.inl c4))]at hI;simp[h24,h2,nZ,ah,aa,ai,r0,r1,pH,hf,Jo,Qd,hw,c3,c4];refine⟨zg,aQ,⟨i+1,zd,zE,L,hO.app _,a1,a2,a3,hI⟩,zE⟩
   by_cases c5:s.2<at_
   ·rw[ac (.inr (.inr (.inl c5)))]at hI;simp[h24,h2,nZ,ah,aa,ai,r0,r1,pH,hf,Jo,Qd,hw,c3,c4,c5];refine⟨zg,aQ,⟨i+1,zd,zE,L,hO.app _,a1,a2,a3,hI⟩,zE⟩
   by_cases c6:p.ln-s.2<e.fr
   ·rw[ac (.inr (.inr (.inr c6)))]at hI;simp[h24,h2,nZ,ah,aa,ai,r0,r1,pH,hf,Jo,Qd,hw,fV,c3,c4,c5,c6];refine⟨zg,aQ,⟨i+1,zd,zE,L,hO.app _,a1,a2,a3,hI⟩,zE⟩
   rw[ab zE]at hI;simp[h24,h2,nZ,ah,aa,ai,r0,r1,pH,hf,Jo,Qd,hw,fV,c3,c4,c5,c6];have k31:=xq p at_ s.2;have eZ:=Bj (Vv p) s.2 _ at_ (zzab _);refine⟨zg,k31,?_⟩;refine amf Y0 p at_ s.2 cR zE zE (pH p) (fun _ _=>rfl) _ _ L (hO.app _) zE zd zd _ ?_;intro m' Gy cw ee
   have Rs:Qi m'.boxes mm.boxes.length=[I s.1,I s.2]:=by
    rw[ee _ zE zd];simp
   have Re:Qi m'.boxes (mm.boxes.length+1)=Qd e:=by
    rw[ee _ zE zd];simp[Qd]
   simp only[Qd]at Re;obtain⟨p1,p2,Su,p3,p4⟩:=Gy;have p2':=p2;have b1:∀v,Qi (m'.boxes.set 1 v) 1=v:=fun v=>Yi v p1;have b0:∀v,Qi (m'.boxes.set 1 v) 0=Qa p:=fun v=>by rw[Ya v zE];exact p2
   have bs:∀v,Qi (m'.boxes.set 1 v) mm.boxes.length=[I s.1,I s.2]:=fun v=>by rw[Ya v zE];exact Rs
   have be:∀v,Qi (m'.boxes.set 1 v) (mm.boxes.length+1)=[I e.id,I e.it,I e.fr,I e.ea,I e.la,I e.bo,.sl .ro (e.al.map Qe)]:=fun v=>by rw[Ya v zE];exact Re
   simp only[Qa]at p2';have hG:((L++(Vg (Vv p) s.2 at_).map (Zq p)).length:Int)<=s.2:=by simp;omega
   have hI2:(L++(Vg (Vv p) s.2 at_).map (Zq p)++[tP p e s.2])++Je p (l.drop (i+1)) (s.2+e.fr)=Je p l Gx:=by rw[<- hI];simp
   generalize L++(Vg (Vv p) s.2 at_).map (Zq p)=G at*
   have k32:=K3 p e s.2 hc fC cR (fM e (Qbi hf).1);have SK:IntKind.i64.wrap (s.2+e.fr)=s.2+e.fr:=by rw[Ql]<;>omega
   obtain⟨g1,rfl⟩|⟨g1,k,rfl,hk⟩:=p4
   ·subst g1;simp[h24,p2',p3,Rs,Re,b1,bs,be,p1,pH,ae5,IJ,hw,SK];rw[zzag]at hI2;refine⟨k32,aQ,⟨i+1,zd,zE,[tP p e s.2],⟨by simp;omega,b0 _,_,b1 _,.inr ⟨zd,_,rfl,zd⟩⟩,zE,zE,by simp;omega,hI2⟩,zE⟩
   simp[h24,p2',p3,Rs,Re,b1,bs,be,p1,pH,ae5,IJ,hw,SK];refine⟨k32,⟨hk,by rintro row (⟨a,_,rfl⟩|rfl)<;>rfl,zE⟩,ag ?_,⟨i+1,zd,zE,G++[tP p e s.2],⟨by simp;omega,b0 _,_,by rw[b1];simp[Zv,tP],.inr ⟨zd,k,rfl,by simp[(zza.1 hk).1]⟩⟩,zE,zE,by simp;omega,hI2⟩,zE⟩;repeat(first|exact Qb _ _|refine Qc _ rfl ?_)
 obtain rfl:i=l.length:=zE
 have k31:=xq p at_ p.ln;have eZ:=Bj (Vv p) p.ln _ at_ (zzab _);rw[zzc,Je]at hI;obtain⟨o1,o2,rt,o3,o4⟩:=id hO;simp only[Qa]at o2;simp[h24,h2,nZ,o2,pH];refine⟨k31,?_⟩;refine amg Y0 p at_ p.ln cR zE zE (pH p) (fun _ _=>rfl) _ _ L hO zE zd zd _ ?_;intro m' Gy cw ee;rw[hI]at Gy;obtain⟨p1,p2,Su,p3,p4⟩:=Gy;generalize Je p l Gx=G at*
 obtain⟨g1,rfl⟩|⟨g1,k,rfl,hk⟩:=p4
 ·subst g1;simp[p3,p1,Tv]
 simp[p3,p1,Tv,g1]
def Qf(e:aW):P2:=[I e.id,I e.it,I e.st,I e.fr,I e.i,I e.re,.sl .ro (e.al.map Qe)]
def K5(L:List aW):Wk (.sl .ro (L.map Zv)) (.sl .ro (L.map Qf)):=by
 refine Wk.rows L Zv Qf (fun _=>rfl) fun a j c' h=>?_
 match j,h with
 |0,h=>exact⟨_,rfl,by cases h;exact Ps⟩
 |1,h=>exact⟨_,rfl,by cases h;exact Ps⟩
 |2,h=>exact⟨_,rfl,by cases h;exact Ps⟩
 |3,h=>exact⟨_,rfl,by cases h;exact Ps⟩
 |4,h=>exact⟨_,rfl,by cases h;exact Ps⟩
 |5,h=>exact⟨_,rfl,by cases h;exact Ps⟩
 |6,h=>exact⟨_,rfl,by cases h;exact Wk.sl _ _⟩
 |j+7,h=>simp[Qf]at h
def Wk.trans{a b c:AV}(h:Wk a b)(k:Wk b c):Wk a c:=fun w γ v hr=>k w γ v (h w γ v hr)
def sR(p:Pl)(l:List Sp)(Gx:Int)(hc:p.cls.length<=1000000)(fC:p.sh.length<=1000000000)(cR:p.aM.length<=1000000000)(IK:p.ens.length<=1000000000)(fM:∀e∈p.ens,e.al.length<=8796093022208)
  (dQ:p.ln<=1000000)(hl:l.length<=1000000)(lJ:∀s∈l,-1000000000<=s.2/\s.2<=1000000000):Pure Tryz.prog aD 67 [.agg (Qa p),.sl .ro (l.map Qe),I Gx] (.sl .ro ((zf p l Gx).map Qf)):=by
 obtain⟨rt,h⟩:=K4 p l Gx hc fC cR IK fM dQ hl lJ;exact Zk h (Wk.trans (Wk.sl _ _) (K5 _))
def Wd(f:Int)(e:aW):Bool:=decide (e.st<=f/\f<e.st+e.fr)
def Kq(e:aW):Prop:=(0<=e.st/\e.st<=1000000)/\(0<=e.fr/\e.fr<=1000000)/\(0<=e.i/\e.i<=1000000)/\e.al.length<=8796093022208
def gP(f:Int):List aW->Nat->Int
 |[],_=> -1
 |e::r,i=>if Wd f e=true then i else gP f r (i+1)
def Di(f:Int):List aW->Option aW
 |[]=>none
 |e::r=>if Wd f e=true then some e else Di f r
def xP{f:Int}:∀{L:List aW}{i:Nat},Di f L=none->gP f L i= -1
 |[],_,_=>rfl
 |a::r,i,h=>by
  simp only[Di]at h;split at h
  ·cases h
  rename_i hn;simp only[gP,ab hn];exact xP h
def xQ{f:Int}{a:aW}:∀{L:List aW}{i:Nat},Di f L=some a->∃k:Nat,gP f L i=((i+k:Nat):Int)/\L[k]?=some a/\Wd f a=true
 |[],_,h=>by cases h
 |b::r,i,h=>by
  simp only[Di]at h;split at h
  ·rename_i hb;cases h;exact⟨0,by simp[gP,hb],rfl,hb⟩
  rename_i hn;obtain⟨k,h1,h2,h3⟩:=xQ (i:=i+1) h;exact⟨k+1,by simp only[gP,ab hn,h1];omega,Nm h2,h3⟩
def K6(f:Int):UV:=fun _ _ l=>match l with
 |[.agg [_,_,.int _ st,.int _ fr,_,_,_],_]=>.bool (decide (st<=f/\f<st+fr))
 |_=>.junk
def xR(f:Int):Option aW->AV
 |none=>ai2
 |some e=>.aS [.agg (Qf e),I (e.i+f-e.st),.bool true]
structure Cue where
 id:Int
 fr:Int
 to:Int
 pr:Int
 tx:ByteArray
def Qh(c:Cue):P2:=[I c.id,I c.fr,I c.to,I c.pr,.str c.tx]
structure Pg where
 p:Pl
 ev:List aW
 cu:List Cue
 ed:Int
 dr:Pi
 ve:Int
def Qk(g:Pg):P2:=Qa g.p++[.sl .ro (g.ev.map Qf),.sl .ro (g.cu.map Qh),I g.ed,.sl .ro (g.dr.map Qz),I g.ve]
structure Od where
 sq:Int
 ch:Int
 fr:Int
 ki:Int
 en:Int
 n:Int
 nw:En
 cl:Cl
 cu:Cue
def Qq(o:Od):P2:=[I o.sq,I o.ch,I o.fr,I o.ki,I o.en,I o.n]++(Qd o.nw++(Qg o.cl++Qh o.cu))
def Gz(pre a r bs:P2)(h:bs.length=a.length):setA (pre++(a++r)) pre.length bs=pre++(bs++r):=by
 induction bs generalizing pre a with
 |nil=>cases a with
  |nil=>rfl
  |cons _ _=>simp at h
 |cons x bs ih=>cases a with
  |nil=>simp at h
  |cons y a=>
   rw[setA];have e:(pre++(y::a++r)).set pre.length x=(pre++[x])++(a++r):=zd
   rw[e];have:=ih (pre++[x]) a (Nm h);rw[show(pre++[x]).length=pre.length+1 by simp]at this;rw[this];simp
theorem jq(l:P2)(o:Nat):setA l o []=l:=rfl
def xS(y:AV):∀(xs l:P2)(n:Nat),setA (y::l) (n+1) xs=y::setA l n xs
 |[],_,_=>rfl
 |x::xs,l,n=>by
  rw[setA,setA,zzec];exact xS y xs _ _
def jr(y x:AV)(xs l:P2):setA (y::l) 0 (x::xs)=x::setA l 0 xs:=by
 rw[setA,List.set_cons_zero,xS]
def jt{sz:Nat}:∀{rows:T5},(∀r∈rows,r.length=sz)->rows.flatten.length=rows.length*sz
 |[],_=>zd
 |a::r,h=>by
  have:=jt (rows:=r) fun x hx=>h x (by simp[hx]);rw[zzch,zzal,this,h a zd,zzbf,zzhl];omega
def Qbj{sz:Nat}:∀{rows:T5},(∀r∈rows,r.length=sz)->aZ sz rows.length rows.flatten=rows
 |[],_=>rfl
 |a::r,h=>by
  have ha:=h a zd;have ih:=Qbj (rows:=r) fun x hx=>h x (by simp[hx]);rw[zzbf,xU,zzch,List.take_append_of_le_length zE,zzdz zE,zzau zE,List.drop_of_length_le zE,zzag,ih]
def Bl{sz:Nat}:∀{rows:T5}{i:Nat}{row:P2},(∀r∈rows,r.length=sz)->rows[i]?=some row->∃pre r,rows.flatten=pre++(row++r)/\pre.length=i*sz
 |[],i,row,_,h=>by simp at h
 |a::r,0,row,h,hi=>by simp at hi;subst hi;exact⟨[],r.flatten,zd,zd⟩
 |a::r,i+1,row,h,hi=>by
  obtain⟨p,q,h1,h2⟩:=Bl (rows:=r) (fun x hx=>h x (by simp[hx])) (Nm hi);have ha:=h a zd;exact⟨a++p,q,by rw[zzch,h1,zzbg],by rw[zzal,h2,ha,zzhl];omega⟩
def uO{sz:Nat}{rows:T5}{i:Nat}{row:P2}(h:∀r∈rows,r.length=sz)(hi:rows[i]?=some row):(∃r,rows.flatten.drop (i*sz)=row++r)/\setA rows.flatten (i*sz) row=rows.flatten:=by
 obtain⟨p,q,h1,h2⟩:=Bl h hi;refine⟨⟨q,by rw[h1,<- h2,zzgi]⟩,?_⟩;rw[h1,<- h2];exact Gz p row q row rfl
def kK{α:Type}{f:α->P2}(h:∀a,Zl (f a)=true)(l:List α):Zl (l.map f).flatten=true:=by
 induction l with
 |nil=>rfl
 |cons a r ih=>rw[zzar,zzch];exact Ri (h a) ih
def kL{α:Type}{f:α->P2}{sz:Nat}(h:∀a,(f a).length=sz)(l:List α):∀r∈l.map f,r.length=sz:=by
 intro r hr;simp only[zzan]at hr;obtain⟨a,_,rfl⟩:=hr;exact h a
def pI(l:List Sp)(h:l.length<=8796093022208):Pure Tryz.prog aD 116 [.sl .ro (l.map Qe)] (.sl .ro (l.map Qe)):=by
 refine Qp acm (fun _ _ _=>.junk) zd ?_;simp[agV,agW];exact⟨by rintro row a b _ rfl;rfl,zE⟩
def pJ(l:List It)(h:l.length<=1000000000):Pure Tryz.prog aD 117 [.sl .ro (l.map Qm)] (.sl .ro (l.map Qm)):=by
 refine Qp acn (fun _ _ _=>.junk) zd ?_;simp[agX,agY];exact⟨fun _ _=>rfl,zE⟩
def pK(l:List Bk)(h:l.length<=1000000000):Pure Tryz.prog aD 120 [.sl .ro (l.map Xi)] (.sl .ro (l.map Xi)):=by
 refine Qp acp (fun _ _ _=>.junk) zd ?_;simp[ag1,ag2];exact⟨fun _ _=>rfl,zE⟩
def Dj(l:List Cl)(h:l.length<=1000000000):Pure Tryz.prog aD 121 [.sl .ro (l.map Qg)] (.sl .ro (l.map Qg)):=by
 refine Qp MN (fun _ _ _=>.junk) zd ?_;simp[TQ,TR];exact⟨fun _ _=>rfl,zE⟩
def Om(l:List Sp)(h:l.length<=8796093022208):Pure Tryz.prog aD 102 [.sl .ro (l.map Qe)] (.sl .ro (l.map Qe)):=by
 refine Qp ab7 (fun _ _ _=>.junk) zd ?_;simp[agI,agJ];exact⟨by rintro row a b _ rfl;rfl,zE⟩
def ae6(l:List Cue)(h:l.length<=1000000000):Pure Tryz.prog aD 103 [.sl .ro (l.map Qh)] (.sl .ro (l.map Qh)):=by
 refine Qp ab8 (fun _ _ _=>.junk) zd ?_;simp[agK,agL];exact⟨fun _ _=>rfl,zE⟩
def ae7(l:Pi)(h:l.length<=1000000000):Pure Tryz.prog aD 104 [.sl .ro (l.map Qz)] (.sl .ro (l.map Qz)):=by
 refine Qp ab9 (fun _ _ _=>.junk) zd ?_;simp[agM,agN];exact⟨fun _ _=>rfl,zE⟩
def Wp(e:En)(h:e.al.length<=8796093022208):Pure Tryz.prog aD 119 [.agg (Qd e)] (.agg (Qd e)):=by
 have k:=Om e.al h;refine Qp aco (fun _ _ l=>l.headD .junk) zd ?_;simp[agZ,ag0,Qd];exact k
def ae8:UV:=fun _ f _=>if f=999999 then .aJ 0 []else .junk
def xV(Y:YT)(rows:T5)(h:∀r∈rows,r.length=7)(hl:rows.length<=1000000000)(aO:rows≠[])(m:AM)(K:So)(hK:K (.bs m.boxes.length 0 rows.length 7) {m with boxes:=m.boxes++[rows.flatten]}):
  aB Tryz.prog aD Y 118 [.sl .ro rows] m K:=by
 refine Xo BY ae8 zd ?_;simp[ML,MM,ae8,aO];exact⟨⟨zE,h⟩,hK⟩
def Y2(Y:YT)(rows:T5)(h:∀r∈rows,r.length=7)(hl:rows.length<=1000000000)(aO:rows≠[])(m:AM)(K:So)(hK:K (.bs m.boxes.length 0 rows.length 7) {m with boxes:=m.boxes++[rows.flatten]}):
  aB Tryz.prog aD Y 101 [.sl .ro rows] m K:=by
 refine Xo MH ae8 zd ?_;simp[TK,TL,ae8,aO];exact⟨⟨zE,h⟩,hK⟩
def GA:Pure Tryz.prog aD 118 [.sl .ro []] (.sl .ro []):=by
 refine Qp BY (fun _ _ _=>.junk) zd ?_;simp[ML,MM]
def Y3:Pure Tryz.prog aD 101 [.sl .ro []] (.sl .ro []):=by
 refine Qp MH (fun _ _ _=>.junk) zd ?_;simp[TK,TL]
def Kk(p:Pl):UV:=fun _ f l=>if f=118 then(if p.ens=[]then .sl .ro []else .gd false .junk)else l.headD .junk
def Bm(p:Pl):Prop:=p.sh.length<=1000000/\p.aM.length<=1000000/\p.ens.length<=1000000/\p.bks.length<=1000000/\p.cls.length<=1000000/\∀e∈p.ens,e.al.length<=8796093022208
def asy(p:Pl)(m0:P2)(f:Nat->AV)(m:AM):Prop:=∃(i:Nat)(bx:T5),f 22=I i/\i<=p.ens.length/\m=⟨[I p.ch,I p.nu,I p.de,I p.of,.sl .ro (p.sh.map Qe),I p.ep,I p.rg,I p.ln,I p.fi,.sl .ro (p.aM.map Qm),.bs 2 0 p.ens.length 7,.sl .ro (p.bks.map Xi),.sl .ro (p.cls.map Qg)]::m0::(p.ens.map Qd).flatten::bx,[],fun _=>.gone,0⟩
def pL(p:Pl)(h:Bm p):Pure Tryz.prog aD 66 [.agg (Qa p)] (.agg (Qa p)):=by
 obtain⟨h1,h2,h3,h4,h5,h6⟩:=h;have k1:=pI p.sh zE;have k2:=pJ p.aM zE;have k4:=pK p.bks zE;have k5:=Dj p.cls zE;have hsz:=kL (f:=Qd) (sz:=7) (fun _=>rfl) p.ens;refine Qp u9 (Kk p) zd ?_;by_cases hn:p.ens=[]
 ·have k3:=GA;simp[IY,Qa,Kk,hn];refine⟨k1,k2,k3,?_⟩;refine Qj eu (fun f m=>f 22=I 0/\m=⟨[I p.ch,I p.nu,I p.de,I p.of,.sl .ro (p.sh.map Qe),I p.ep,I p.rg,I p.ln,I p.fi,.sl .ro (p.aM.map Qm),.sl .ro [],.sl .ro (p.bks.map Xi),.sl .ro (p.cls.map Qg)]::[[I 0,I 0,I 0,I 0,.sl .nil [],I 0,I 0,I 0,I 0,.sl .nil [],.sl .nil [],.sl .nil [],.sl .nil []]],[],fun _=>.gone,0⟩) (fun f _=>0) ?_ ?_
  ·exact⟨zd,zd⟩
  rintro f m ⟨f22,rfl⟩;simp[f22,eu,IZ,Kk];exact⟨k4,k5⟩
 have aO:p.ens.map Qd≠[]:=by simpa using hn
 simp[IY,Qa,Kk,hn];refine⟨k1,k2,xV _ _ hsz (by simpa using by omega) aO _ _ ?_⟩;simp;obtain⟨F,hF⟩:∃F,(p.ens.map Qd).flatten=F:=⟨_,rfl⟩;have hFl:F.length=p.ens.length*7:=by rw[<- hF,jt hsz];simp
 have bV:Zl F=true:=by rw[<- hF];exact kK (fun _=>rfl) _
 have gY:aZ 7 p.ens.length F=p.ens.map Qd:=by have:=Qbj hsz;rw[hF]at this;simpa using this
 have hmp:∀m,F.map (bB m 4)=F:=fun m=>Ve m 3 bV;rw[hF];refine Qj eu (asy p [I 0,I 0,I 0,I 0,.sl .nil [],I 0,I 0,I 0,I 0,.sl .nil [],.sl .nil [],.sl .nil [],.sl .nil []]) (fun f _=>p.ens.length-(numOf (f 22)).toNat) ?_ ?_
 ·exact⟨0,[],zd,zE,by rw[hF]⟩
 rintro f m ⟨i,bx,f22,hi,rfl⟩;rw[hF];rcases zzaa i p.ens.length with ah|bu
 ·obtain⟨e,he⟩:=aV ah;have aa:(i:Int)<(p.ens.length:Int):=zE
  have hw:=bO i zE;obtain⟨⟨r,hd⟩,bM⟩:=uO hsz (i:=i) (row:=Qd e) (by simp[he]);rw[hF]at hd bM;simp only[Qd,zzae,zzag]at hd bM;have GB:=Wp e (h6 e (zzad he));simp only[Qd]at GB;simp[-setA,jq,jr,f22,eu,aa,hd,bM,hFl,hw,Kk];refine⟨GB,zE,aQ,⟨i+1,bx++[[I e.id,I e.it,I e.fr,I e.ea,I e.la,I e.bo,.sl .ro (e.al.map Qe)]],zd,zE,by rw[hF]⟩,zE⟩
 obtain rfl:i=p.ens.length:=zE
 simp[f22,eu,IZ,Kk,hFl,hmp,gY];exact⟨k4,k5⟩
def PgC(g:Pg):Prop:=Bm g.p/\g.ev.length<=1000000/\g.cu.length<=1000000/\g.dr.length<=1000000/\∀e∈g.ev,e.al.length<=8796093022208
def Bn(g:Pg):UV:=fun _ f l=>if f=101 then(if g.ev=[]then .sl .ro []else .gd false .junk)else l.headD .junk
def kM(g:Pg)(V:AV):P2:=[I g.p.ch,I g.p.nu,I g.p.de,I g.p.of,.sl .ro (g.p.sh.map Qe),I g.p.ep,I g.p.rg,I g.p.ln,I g.p.fi,.sl .ro (g.p.aM.map Qm),.sl .ro (g.p.ens.map Qd),.sl .ro (g.p.bks.map Xi),.sl .ro (g.p.cls.map Qg),V,.sl .ro (g.cu.map Qh),I g.ed,.sl .ro (g.dr.map Qz),I g.ve]
def asz(g:Pg)(m0:P2)(f:Nat->AV)(m:AM):Prop:=∃(i:Nat)(bx:T5),f 16=I i/\i<=g.ev.length/\m=⟨kM g (.bs 2 0 g.ev.length 7)::m0::(g.ev.map Qf).flatten::bx,[],fun _=>.gone,0⟩
def Y4:P2:=[I 0,I 0,I 0,I 0,.sl .nil [],I 0,I 0,I 0,I 0,.sl .nil [],.sl .nil [],.sl .nil [],.sl .nil [],.sl .nil [],.sl .nil [],I 0,.sl .nil [],I 0]
def Y5(g:Pg)(h:PgC g):Pure Tryz.prog aD 52 [.agg (Qk g)] (.agg (Qk g)):=by
 obtain⟨h0,h1,h2,h3,h4⟩:=h;have k1:=pL g.p h0;have k3:=ae6 g.cu zE;have k4:=ae7 g.dr zE;have hsz:=kL (f:=Qf) (sz:=7) (fun _=>rfl) g.ev;simp only[Qa]at k1;refine Qp akp (Bn g) zd ?_;by_cases hn:g.ev=[]
 ·have k2:=Y3;simp[abT,Qk,Qa,Bn,hn];refine⟨k1,k2,?_⟩;refine Qj Eu (fun f m=>f 16=I 0/\m=⟨kM g (.sl .ro [])::[Y4],[],fun _=>.gone,0⟩) (fun f _=>0) ?_ ?_
  ·exact⟨zd,by simp[kM,Y4]⟩
  rintro f m ⟨f16,rfl⟩;simp[f16,Eu,ako,kM,Y4,Bn];exact⟨k3,k4⟩
 have aO:g.ev.map Qf≠[]:=by simpa using hn
 simp[abT,Qk,Qa,Bn,hn];refine⟨k1,Y2 _ _ hsz (by simpa using by omega) aO _ _ ?_⟩;simp;obtain⟨F,hF⟩:∃F,(g.ev.map Qf).flatten=F:=⟨_,rfl⟩;have hFl:F.length=g.ev.length*7:=by rw[<- hF,jt hsz];simp
 have bV:Zl F=true:=by rw[<- hF];exact kK (fun _=>rfl) _
 have gY:aZ 7 g.ev.length F=g.ev.map Qf:=by have:=Qbj hsz;rw[hF]at this;simpa using this
 have hmp:∀m,F.map (bB m 4)=F:=fun m=>Ve m 3 bV;rw[hF];refine Qj Eu (asz g Y4) (fun f _=>g.ev.length-(numOf (f 16)).toNat) ?_ ?_
 ·exact⟨0,[],zd,zE,by rw[hF];rfl⟩
 rintro f m ⟨i,bx,f16,hi,rfl⟩;rw[hF];rcases zzaa i g.ev.length with ah|bu
 ·obtain⟨e,he⟩:=aV ah;have aa:(i:Int)<(g.ev.length:Int):=zE
  have hw:=bO i zE;obtain⟨⟨r,hd⟩,bM⟩:=uO hsz (i:=i) (row:=Qf e) (by simp[he]);rw[hF]at hd bM
  have hs6:F.set (i*7+6) (.sl .ro (e.al.map Qe))=F:=by
   have h7:F[i*7+6]?=some (.sl .ro (e.al.map Qe)):=by
    have:=congrArg (fun l=>l[6]?) hd;simpa[Qf]using this
   apply zzdc;intro j;by_cases hj:i*7+6=j
   ·subst hj;rw[h7,zzbh (zza.1 h7).1]
   rw[zzbo hj]
  simp only[Qf,zzae,zzag]at hd;have axF:=Om e.al (h4 e (zzad he));simp[f16,Eu,kM,aa,hd,hs6,hFl,hw,Bn];refine⟨axF,zE,aQ,⟨i+1,bx++[[I e.id,I e.it,I e.st,I e.fr,I e.i,I e.re,.sl .ro (e.al.map Qe)]],zd,zE,by rw[hF];rfl⟩,zE⟩
 obtain rfl:i=g.ev.length:=zE
 simp[f16,Eu,ako,kM,Y4,Bn,hFl,hmp,gY];exact⟨k3,k4⟩
def uP(n:Int):Bool:=decide (1<=n)&&decide (n<=1000000)
def We(n:Int):Pure Tryz.prog aD 45 [I n] (.bool (uP n)):=by
 refine Qp Tg (fun _ _ _=>.junk) zd ?_;by_cases h:1<=n
 ·simp[abQ,abR,h,uP]
 simp[abQ,abR,h,uP]
def eB:ByteArray:=⟨#[]⟩
def GC(tx:ByteArray):tx.toList=[]<->tx=eB:=by
 obtain⟨⟨l⟩⟩:=tx;rw[ByteArray.toList_eq];simp[eB]
def Qcr(o:Od):Bool:=decide (o.en=0/\o.n=0/\o.cl=⟨0,0,0,0,0,0,0,0⟩/\(o.cu.id=0/\o.cu.fr=0/\o.cu.to=0/\o.cu.pr=0/\o.cu.tx=eB)/\o.nw.id=0/\o.nw.it=0/\o.nw.fr=0/\o.nw.ea=0/\o.nw.la=0/\o.nw.bo=0/\o.nw.al=[])
def K7(o:Od):Pure Tryz.prog aD 46 [.agg (Qq o)] (.bool (Qcr o)):=by
 refine Qp Th (fun _ _ _=>.junk) zd ?_;obtain⟨sq,ch,fr,ki,en,n,⟨a1,a2,a3,a4,a5,a6,al⟩,⟨c1,c2,c3,c4,c5,c6,c7,c8⟩,⟨d1,d2,d3,d4,tx⟩⟩:=o;simp[akk,akl,Qq,Qd,Qg,Qh];rw[zzcr];simp[Qcr,GC,and_assoc]
def Dk(r:Int):List Sp->Bool
 |[]=>true
 |a::l=>if r<a.1/\a.1<=7/\uP a.2=true then Dk a.1 l else false
def pM(e:En):Bool:=uP e.id&&uP e.it&&decide (1<=e.fr/\e.fr<=100000000)&&decide (0<=e.ea/\e.ea<=e.la/\e.la<=100000000)&&(decide (e.bo=0)||uP e.bo)&&Dk 0 e.al
def ai3(e:En)(f:Nat->AV)(m:AM):Prop:=∃(i:Nat)(r:Int)(bx:T5),f 53=I i/\i<=e.al.length/\f 3=I r/\Dk 0 e.al=Dk r (e.al.drop i)/\m=⟨Qd e::bx,[],fun _=>.gone,0⟩
def Kl:UV:=fun _ f l=>match l with|[.int _ n]=>.bool (uP n)|_=>.junk
def tQ(e:En)(hl:e.al.length<=8796093022208):Pure Tryz.prog aD 47 [.agg (Qd e)] (.bool (pM e)):=by
 have q1:=We e.id;have q2:=We e.it;have q3:=We e.bo;refine Qp Ti Kl zd ?_;cases h1:uP e.id with
 |false=>rw[h1]at q1;simp[qp,gW,Qd,Kl,h1,pM];exact q1
 |true=>
  rw[h1]at q1;cases h2:uP e.it with
  |false=>rw[h2]at q2;simp[qp,gW,Qd,Kl,h1,h2,pM];exact⟨q1,q2⟩
  |true=>
   rw[h2]at q2;by_cases h3:e.fr<1
   ·have:¬1<=e.fr:=zE
    simp[qp,gW,Qd,Kl,h1,h2,h3,pM,this];exact⟨q1,q2⟩
   by_cases h4:100000000<e.fr
   ·have:¬e.fr<=100000000:=zE
    simp[qp,gW,Qd,Kl,h1,h2,h3,h4,pM,this];exact⟨q1,q2⟩
   have e34:1<=e.fr/\e.fr<=100000000:=zE
   by_cases h5:e.ea<0
   ·have:¬0<=e.ea:=zE
    simp[qp,gW,Qd,Kl,h1,h2,h3,h4,h5,pM,this];exact⟨q1,q2⟩
   by_cases h6:e.la<e.ea
   ·have:¬e.ea<=e.la:=zE
    simp[qp,gW,Qd,Kl,h1,h2,h3,h4,h5,h6,pM,this];exact⟨q1,q2⟩
   by_cases h7:100000000<e.la
   ·have:¬e.la<=100000000:=zE
    simp[qp,gW,Qd,Kl,h1,h2,h3,h4,h5,h6,h7,pM,this];exact⟨q1,q2⟩
   have axG:0<=e.ea/\e.ea<=e.la/\e.la<=100000000:=zE
   by_cases h8:e.bo≠0/\uP e.bo=false
   ·obtain⟨h8,h9⟩:=h8;rw[h9]at q3;have h8':(e.bo !=0)=true:=by simpa using h8
    simp[qp,gW,Qd,Kl,h1,h2,h3,h4,h5,h6,h7,h8,h8',h9,pM];exact⟨q1,q2,q3⟩
   have hb:(decide (e.bo=0)||uP e.bo)=true:=by
    by_cases hb:e.bo=0
    ·simp[hb]
    cases h9:uP e.bo with
    |true=>simp
    |false=>exact absurd ⟨hb,h9⟩ h8
   have hv:pM e=Dk 0 e.al:=by simp only[pM,h1,h2,e34,axG,hb,zzdy,and_self,decide_true]
   rw[hv]
   have hbo:(e.bo=0)\/(e.bo≠0/\uP e.bo=true):=by
    by_cases dZ:e.bo=0
    ·exact .inl dZ
    exact .inr ⟨dZ,by simpa[dZ]using hb⟩
   obtain dZ|⟨dZ,dx⟩:=hbo
   ·simp[qp,Qd,Kl,h1,h2,h3,h4,h5,h6,h7,dZ];refine⟨q1,q2,?_⟩;clear q1 q2 q3;refine Qj gG (ai3 e) (fun f _=>e.al.length-(numOf (f 53)).toNat) ?_ ?_
    ·exact⟨0,0,[],zd,zE,zd,zd,by simp[Qd,dZ]⟩
    rintro f m ⟨i,r,bx,f53,hi,f3,hr,rfl⟩;rcases zzaa i e.al.length with ah|bu
    ·obtain⟨a,ha⟩:=aV ah;have ai:=Zy ha;have aa:(i:Int)<(e.al.length:Int):=zE
     have hw:=bO i zE;have hd:e.al.drop i=a::e.al.drop (i+1):=by rw[zzai ah,(zza.1 ha).2]
     rw[hd,Dk]at hr;have qa:=We a.2;by_cases d1:a.1<=r
     ·rw[ab zE]at hr;simp[f53,f3,gG,gW,Qd,aa,ai,d1,hr,Kl]
     by_cases d2:7<a.1
     ·rw[ab zE]at hr;simp[f53,f3,gG,gW,Qd,aa,ai,d1,d2,hr,Kl]
     cases d3:uP a.2 with
     |false=>
      rw[d3]at qa;rw[ab (by simp[d3])]at hr;simp[f53,f3,gG,gW,Qd,aa,ai,d1,d2,d3,hr,Kl];exact qa
     |true=>
      rw[d3]at qa;rw[ac ⟨zE,zE,d3⟩]at hr;simp[f53,f3,gG,Qd,aa,ai,d1,d2,d3,hw,Kl];refine⟨qa,aQ,⟨i+1,a.1,bx++[[I a.1,I a.2]],zd,zE,zd,hr,by simp[Qd]⟩,zE⟩
    obtain rfl:i=e.al.length:=zE
    simp[f53,f3,gG,gW,hr,Dk]
   rw[dx]at q3;have KG:(e.bo !=0)=true:=by simpa using dZ
   simp[qp,Qd,Kl,h1,h2,h3,h4,h5,h6,h7,KG,dx];refine⟨q1,q2,q3,?_⟩;clear q1 q2 q3;refine Qj gG (ai3 e) (fun f _=>e.al.length-(numOf (f 53)).toNat) ?_ ?_
   ·exact⟨0,0,[],zd,zE,zd,zd,by simp[Qd]⟩
   rintro f m ⟨i,r,bx,f53,hi,f3,hr,rfl⟩;rcases zzaa i e.al.length with ah|bu
   ·obtain⟨a,ha⟩:=aV ah;have ai:=Zy ha;have aa:(i:Int)<(e.al.length:Int):=zE
    have hw:=bO i zE;have hd:e.al.drop i=a::e.al.drop (i+1):=by rw[zzai ah,(zza.1 ha).2]
    rw[hd,Dk]at hr;have qa:=We a.2;by_cases d1:a.1<=r
    ·rw[ab zE]at hr;simp[f53,f3,gG,gW,Qd,aa,ai,d1,hr,Kl]
    by_cases d2:7<a.1
    ·rw[ab zE]at hr;simp[f53,f3,gG,gW,Qd,aa,ai,d1,d2,hr,Kl]
    cases d3:uP a.2 with
    |false=>
     rw[d3]at qa;rw[ab (by simp[d3])]at hr;simp[f53,f3,gG,gW,Qd,aa,ai,d1,d2,d3,hr,Kl];exact qa
    |true=>
     rw[d3]at qa;rw[ac ⟨zE,zE,d3⟩]at hr;simp[f53,f3,gG,Qd,aa,ai,d1,d2,d3,hw,Kl];refine⟨qa,aQ,⟨i+1,a.1,bx++[[I a.1,I a.2]],zd,zE,zd,hr,by simp[Qd]⟩,zE⟩
   obtain rfl:i=e.al.length:=zE
   simp[f53,f3,gG,gW,hr,Dk]
def IL(s:ByteArray)(i:Nat):Nat:=(s.data.toList.getD i 0).toNat
def Dl(s:ByteArray)(i:Nat)(h:i<s.size):(s.data[i]'h).toNat=IL s i:=by
 have h':i<s.data.size:=h;simp only[IL,zzaw,zzce,zzah h',Option.getD_some]
def Y6(s:ByteArray)(n i:Nat):Bool:=match n with
 |0=>true
 |n+1=>if IL s i<32\/126<IL s i then false else Y6 s n (i+1)
def Y7(s:ByteArray):Bool:=Y6 s s.size 0
def asA(s:ByteArray)(f:Nat->AV)(m:AM):Prop:=∃i:Nat,f 3=I i/\i<=s.size/\Y7 s=Y6 s (s.size-i) i/\m=⟨[],[],fun _=>.gone,0⟩
def xW(s:ByteArray)(h:s.size<=1000000):Pure Tryz.prog aD 158 [.str s] (.bool (Y7 s)):=by
 refine Qp MZ (fun _ _ _=>.junk) zd ?_;simp[MY];refine Qj vm (asA s) (fun f _=>s.size-(numOf (f 3)).toNat) ?_ ?_
 ·exact⟨0,zd,zE,rfl,rfl⟩
 rintro f m ⟨i,f3,hi,hr,rfl⟩;rcases zzaa i s.size with ah|bu
 ·have aa:(i:Int)<(s.size:Int):=zE
  have hw:=bO i zE;obtain⟨n,hn⟩:∃n,s.size-i=n+1:=⟨s.size-i-1,zE⟩;have hb:=Dl s i ah;rw[hn,Y6]at hr;by_cases h1:IL s i<32
  ·rw[ac (.inl h1)]at hr;have mJ:((IL s i:Nat):Int)<32:=zE
   simp[f3,vm,EF,ah,aa,hr,hb,mJ]
  have mJ:¬((IL s i:Nat):Int)<32:=zE
  by_cases h2:126<IL s i
  ·rw[ac (.inr h2)]at hr;have Nw:(126:Int)<((IL s i:Nat):Int):=zE
   simp[f3,vm,EF,ah,aa,hr,hb,mJ,Nw]
  rw[ab zE]at hr;have Nw:¬(126:Int)<((IL s i:Nat):Int):=zE
  simp[f3,vm,ah,aa,hw,hb,mJ,Nw];refine⟨aQ,⟨i+1,zd,zE,by rw[hr];congr 1;omega,rfl⟩,zE⟩
 obtain rfl:i=s.size:=zE
 rw[zzg,Y6]at hr;simp[f3,vm,EF,hr]
def sS(s:ByteArray)(i:Nat):Option Nat->List ByteArray
 |none=>[]
 |some f=>[s.extract f i]
def Y8(s:ByteArray):Nat->Nat->Option Nat->List ByteArray
 |0,i,first=>sS s i first
 |n+1,i,first=>if IL s i≠32 then Y8 s n (i+1) (some (first.getD i))else sS s i first++Y8 s n (i+1) none
def nF(s:ByteArray):List ByteArray:=Y8 s s.size 0 none
def K8(s:ByteArray)(i:Nat)(first:Option Nat):List ByteArray:=if i<=s.size then Y8 s (s.size-i) i first else[]
def Y9{s:ByteArray}{i:Nat}(first:Option Nat)(h:i<s.size)(hb:IL s i≠32):K8 s i first=K8 s (i+1) (some (first.getD i)):=by
 obtain⟨n,hn⟩:∃n,s.size-i=n+1:=⟨s.size-i-1,zE⟩;rw[K8,ac zE,K8,ac zE,hn,Y8,ac hb,show s.size-(i+1)=n by omega]
def ae9{s:ByteArray}{i:Nat}(first:Option Nat)(h:i<=s.size)(hb:i<s.size->IL s i=32):K8 s i first=sS s i first++K8 s (i+1) none:=by
 by_cases hi:i=s.size
 ·subst hi;have:K8 s (s.size+1) none=[]:=by rw[K8,ab zE]
  rw[this,K8,ac zE,zzg,Y8,zzat]
 obtain⟨n,hn⟩:∃n,s.size-i=n+1:=⟨s.size-i-1,zE⟩;have:K8 s (i+1) none=Y8 s n (i+1) none:=by rw[K8,ac zE,show s.size-(i+1)=n by omega]
 rw[this,K8,ac h,hn,Y8,ab (by simp[hb zE])]
def On:Option Nat->Int
 |none=> -1
 |some k=>k
def K9(s:ByteArray):Pure Tryz.prog aD 159 [.str s] (.fn 211 [] [.ep [.str s] 0]):=by
 refine Qp M0 (fun _ _ _=>.junk) zd ?_;simp[T9,Up]
def asC(Y:YT)(lp:Nat)(K:AM->Prop)(s:ByteArray)(f:Nat->AV)(m:AM):Prop:=∃(i:Nat)(first:Option Nat),f 4=I i/\i<=s.size+1/\f 3=I (On first)/\(∀k,first=some k->k<=i/\i<=s.size)/\wL (Y lp) K ((K8 s i first).map fun w=>[.str w]) m
def La(s:ByteArray)(h:s.size<=1000000):Iter Tryz.prog aD 211 [] [.ep [.str s] 0] ((nF s).map fun w=>[.str w]):=by
 intro Y lp m K hF;refine Xo Ni (fun _ _ _=>.junk) zd ?_;simp[Nh,UO];refine Qj iK (asC Y lp K s) (fun f _=>s.size+1-(numOf (f 4)).toNat) ?_ ?_
 ·exact⟨0,none,zd,zE,by simp[On],⟨fun k(hk:none=some k)=>(by cases hk),by simpa[K8,nF]using hF⟩⟩
 rintro f m ⟨i,first,f4,hi,f3,hfi,hr⟩;rcases zzaa s.size i with kY|cw
 ·have bP:¬(i:Int)<=(s.size:Int):=zE
  rw[K8,ab zE]at hr;simp[f4,iK,bP];exact hr m (fB.refl m)
 have afa:(i:Int)<=(s.size:Int):=zE
 have hw:=bO i zE;by_cases hb:i<s.size/\IL s i≠32
 ·obtain⟨ah,hb⟩:=hb;have aa:(i:Int)<(s.size:Int):=zE
  have hbb:=Dl s i ah;have hbI:¬((IL s i:Nat):Int)=32:=zE
  rw[Y9 first ah hb]at hr;cases first with
  |none=>
   simp[f4,f3,On,iK,afa,ah,aa,hbb,hbI,hw];refine⟨aQ,⟨i+1,some i,zd,zE,by simp[On],⟨fun k(hk:some i=some k)=>(by cases hk;omega),hr⟩⟩,zE⟩
  |some k=>
   have Ny:¬(k:Int)<0:=zE
   obtain⟨dK,eE⟩:=hfi k rfl;simp[f4,f3,On,iK,afa,ah,aa,hbb,hbI,hw,Ny];refine⟨aQ,⟨i+1,some k,zd,zE,by simp[On],⟨fun k'(hk:some k=some k')=>(by cases hk;omega),hr⟩⟩,zE⟩
 have cK:i<s.size->IL s i=32:=fun h=>Classical.byContradiction fun h2=>hb ⟨h,h2⟩;rw[ae9 first cw cK]at hr;cases first with
 |none=>
  simp only[sS,zzag]at hr;rcases zzaa i s.size with ah|bu
  ·have aa:(i:Int)<(s.size:Int):=zE
   have hbb:=Dl s i ah;have amh:=cK ah;simp[f4,f3,On,iK,afa,ah,aa,hbb,amh,hw];refine⟨aQ,⟨i+1,none,zd,zE,by simp[On],⟨fun k(hk:none=some k)=>(by cases hk),hr⟩⟩,zE⟩
  obtain rfl:i=s.size:=zE
  simp[f4,f3,On,iK,hw];refine⟨aQ,⟨s.size+1,none,zd,zE,by simp[On],⟨fun k(hk:none=some k)=>(by cases hk),hr⟩⟩⟩
 |some k=>
  obtain⟨dK,eE⟩:=hfi k rfl;have Ny:(0:Int)<=(k:Int):=zE
  simp only[sS,zzae,zzag,zzar]at hr;rcases zzaa i s.size with ah|bu
  ·have aa:(i:Int)<(s.size:Int):=zE
   have hbb:=Dl s i ah;have amh:=cK ah;simp[f4,f3,On,iK,afa,ah,aa,hbb,amh,hw,Ny,dK];refine hr m (fB.refl m) _ (fun m2 h2=>?_) (fun m2 h2=>?_)
   ·simp;refine⟨aQ,⟨i+1,none,zd,zE,by simp[On],⟨fun k(hk:none=some k)=>(by cases hk),h2⟩⟩,zE⟩
   simp;exact h2 m2 (fB.refl m2)
  obtain rfl:i=s.size:=zE
  simp[f4,f3,On,iK,hw,Ny,dK];refine hr m (fB.refl m) _ (fun m2 h2=>?_) (fun m2 h2=>?_)
  ·simp;refine⟨aQ,⟨s.size+1,none,zd,zE,by simp[On],⟨fun k(hk:none=some k)=>(by cases hk),h2⟩⟩⟩
  simp;exact h2 m2 (fB.refl m2)
def Zg(n:Int):Prop:= -9223372036854775808<=n/\n<=9223372036854775807
def OKP(p:Pl):Prop:=∀e∈p.ens,e.al.length<=8796093022208
def Zs(p:Pl)(e:aW):Int->List Sp->Bool
 |_,[]=>true
 |last,a::r=>match Xk a.2 p.aM with
  |none=>false
  |some y=>if a.1<=last\/p.rg<=a.1\/y.fr<IntKind.i64.wrap (e.i+e.fr)then false else if Xv p a.2 a.1 e.st e.fr=false then false else Zs p e a.1 r
def asD(p:Pl)(e:aW):Int:=Ut (fun i=>Xv p e.it i e.st e.fr) (min p.rg 8).toNat
def GD(a:Int):Int:=IntKind.i64.wrap (((a%2 ^ IntKind.i64.bits).toNat&&& ((1:Int)%2 ^ IntKind.i64.bits).toNat:Nat):Int)
def afb(a b:Int):Int:=IntKind.i64.wrap (((a%2 ^ IntKind.i64.bits).toNat&&& (2 ^ IntKind.i64.bits-1-(b%2 ^ IntKind.i64.bits).toNat):Nat):Int)
def ZA(p:Pl)(e:aW):Bool:=match Xk e.it p.aM with
 |none=>false
 |some x=>if e.fr<1\/e.i<0\/x.fr<e.fr\/IntKind.i64.wrap (x.fr-e.fr)<e.i then false else
  if GD e.re=0\/afb e.re (asD p e)≠0 then false else Zs p e 0 e.al&&(decide (e.id≠0)||(decide (e.it=p.fi)&&decide (e.al=[])))
def afc(x r n:Nat)(h:r<n):((x+2 ^ n)/2 ^ r)%2=(x/2 ^ r)%2:=by
 obtain⟨k,rfl⟩:∃k,n=r+(k+1):=⟨n-r-1,zE⟩;have e:2 ^ (r+(k+1))=2 ^ r*(2*2 ^ k):=by rw[Nat.pow_add,zzhn,zzek (2 ^ k) 2]
 rw[e,Nat.add_mul_div_left _ _ (Nat.two_pow_pos r),Nat.add_mul_mod_self_left]
def xX(b:Nat->Bool):Nat->Nat
 |0=>0
 |n+1=>xX b n+if b n then 2 ^ n else 0
def Dm(b:Nat->Bool):∀n,xX b n<2 ^ n
 |0=>by simp[xX]
 |n+1=>by
  have:=Dm b n;rw[xX,zzhn];split<;>omega
def Lb(b:Nat->Bool):∀n,Ut b n=(xX b n:Int)
 |0=>rfl
 |n+1=>by
  rw[Ut,xX,Lb b n];split
  ·push_cast;rfl
  simp
def GF(b:Nat->Bool)(r:Nat):∀n,(xX b n).testBit r=(decide (r<n)&&b r)
 |0=>by simp[xX]
 |n+1=>by
  have ih:=GF b r n;have ah:=Dm b n;rw[xX];by_cases hb:b n=true
  ·rw[ac hb];rcases zzeg r n with h|h|h
   ·rw[zzen,afc _ _ _ h,<- zzen,ih];simp[h,Nat.lt_succ_of_lt h]
   ·subst h
    have:(xX b r+2 ^ r)/2 ^ r=1:=by
     rw[Nat.add_div_right _ (Nat.two_pow_pos r),zzgv ah]
    rw[zzen,this];simp[hb]
   have:xX b n+2 ^ n<2 ^ r:=by
    have:2 ^ (n+1)<=2 ^ r:=Nat.pow_le_pow_right zE h;rw[zzhn]at this;omega
   rw[Nat.testBit_lt_two_pow this];simp;intro h2;omega
  rw[ab hb,zzcm,ih];by_cases h:r=n
  ·subst h;simp[hb]
  have:decide (r<n)=decide (r<n+1):=decide_eq_decide.2 zE;rw[this]
def ami(x:Int)(r:Nat):Bool:=x.toNat.testBit r
def ZB(b:Nat->Bool)(n r:Nat):ami (Ut b n) r=(decide (r<n)&&b r):=by
 unfold ami;rw[Lb,Int.toNat_natCast,GF]
def GG(b:Nat->Bool)(n:Nat)(hn:n<=8):0<=Ut b n/\Ut b n<256:=by
 have:=Dm b n;rw[Lb];have h2:2 ^ n<=2 ^ 8:=Nat.pow_le_pow_right zE hn;omega
def asE(x:Int)(h:0<=x/\x<256):(x%2 ^ IntKind.i64.bits).toNat=x.toNat:=by
 have:(2:Int) ^ IntKind.i64.bits=18446744073709551616:=by decide
 rw[this,Int.emod_eq_of_lt h.1 zE]
def ZC(x:Int)(h:0<=x/\x<256):GD x=x%2:=by
 unfold GD;rw[asE x h,asE 1 zE];have:x.toNat&&& (1:Int).toNat=x.toNat%2:=Nat.and_one_is_mod _;rw[this,Ql]<;>omega
def Rj{x:Int}(h:0<=x/\x<256):afb x x=0:=by
 have key:∀n:Nat,n<256->afb (n:Int) (n:Int)=0:=by decide+kernel
 have:=key x.toNat zE;rwa [Int.toNat_of_nonneg h.1]at this
def xY{b c:Nat->Bool}:∀(n:Nat),(∀i,i<n->b i=c i)->Ut b n=Ut c n
 |0,_=>rfl
 |n+1,h=>by rw[Ut,Ut,xY n (fun i hi=>h i zE),h n zE]
def ZD{b:Nat->Bool}{n:Nat}(hn:1<=n/\n<=8)(h0:b 0=true):GD (Ut b n)=1:=by
 have hb:=GG b n hn.2;rw[ZC _ hb];have h1:=ZB b n 0;rw[h0]at h1;have h2:decide (0<n)=true:=by simp;omega
 rw[h2]at h1;simp only[ami,Nat.testBit_zero,zzgn,am]at h1;omega
structure VP (p:Pl):Prop where
 rg:1<=p.rg/\p.rg<=8
 ln:1<=p.ln/\p.ln<=100000000
 fill:∃y,Xk p.fi p.aM=some y/\y.ki=5/\1<=y.fr/\y.fr<=100000000
 aM:∀y∈p.aM,SM y=true
 ens:∀e∈p.ens,1<=e.id/\jj p e=true/\lV p e=true
def GH{p:Pl}:∀{l:List En}{seen:Pi},zT p seen l=true->∀e∈l,1<=e.id/\jj p e=true/\lV p e=true
 |x::r,seen,h,e,he=>by
  rw[zT,zzac]at h;rcases zzao.1 he with rfl|he
  ·have h1:=h.1;simp only[xH,zzac,wi,am]at h1;exact⟨h1.1.1,h1.2.2.1,h1.2.2.2.1⟩
  exact GH h.2 e he
def Dn{p:Pl}(h:pe p=true):VP p:=by
 simp only[pe,zzac]at h;obtain⟨h1,h2,h3,h4,h5⟩:=h;simp only[Jr,zzac,wi,am]at h1;simp only[SN,zzac,am]at h2;simp only[sP,zzac,am]at h4;refine⟨h1.2.2.2.2.1,h1.2.2.2.2.2,?_,o9 h2.2.2.1,GH h4.2⟩;have hf:=h2.2.2.2;unfold gM at hf;cases hx:Xk p.fi p.aM with
 |none=>rw[hx]at hf;cases hf
 |some y=>
  rw[hx]at hf;have hb:=YB (o9 h2.2.2.1 y (xE hx).1);exact⟨y,rfl,Nm hf,zE,zE⟩
def Lc{p:Pl}(h:VP p)(r f n:Int)(hr:0<=r/\r<8)(hn:1<=n/\n<=1000000)(hf:0<=f/\f+n-1<=100000000):Xv p p.fi r f n=true:=by
 obtain⟨y,hy,hk,_⟩:=h.fill;exact(xK _ _ _ _ _).2 ⟨⟨zE,zE,zE,zE⟩,fun x h1 h2=>⟨y,hy,hr,zE,.inl hk⟩⟩
def Qbk{p:Pl}(h:VP p)(hl:p.ln<=1000000)(x:Int×Int)(hx:0<=x.1/\1<=x.2/\x.2<=Vv p/\x.1+x.2<=p.ln):ZA p (Zq p x)=true:=by
 obtain⟨y,hy,hk,hy1,hy2⟩:=h.fill;have hff:Vv p=y.fr:=by simp only[Vv,hy]
 rw[hff]at hx;have hre:(Zq p x).re=F6 p:=rfl
 have hm:asD p (Zq p x)=F6 p:=by
  refine xY _ fun i hi=>?_;exact Lc h i x.1 x.2 zE zE zE
 have N5:=h.rg;have h1:GD (F6 p)=1:=ZD (n:=(min p.rg 8).toNat) zE rfl;have h2:afb (F6 p) (F6 p)=0:=Rj (GG _ _ zE);have hw:IntKind.i64.wrap (y.fr-x.2)=y.fr-x.2:=by rw[Ql]<;>omega
 have cR:(Zq p x).it=p.fi:=rfl;have zF:(Zq p x).fr=x.2:=rfl;have hi0:(Zq p x).i=0:=rfl;have fM:(Zq p x).al=[]:=rfl;rw[ZA,cR,hy];simp only;rw[hm,hre,zF,hi0,fM,hw,h1,h2,ab zE,ab zE];simp[Zs]
def ZE{lo up:Int}{ks:Pi}(h:Kt lo up none ks=true):ks.Pairwise (·<·)/\∀k∈ks,lo<=k/\k<=up:=by
 obtain⟨h1,h2⟩:=kH h;exact⟨h1,fun k hk=>⟨(h2 k hk).1,(h2 k hk).2.1⟩⟩
end
