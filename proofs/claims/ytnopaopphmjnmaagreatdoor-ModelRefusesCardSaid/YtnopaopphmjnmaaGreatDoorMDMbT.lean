import Derived.Test.YtnopaopphmjnmaaGreatDoorMDMbJ
set_option linter.all false
set_option maxRecDepth 100000
set_option maxHeartbeats 64000000
namespace Go.Proofs.YtnopaopphmjnmaaGreatDoor
open Go Go.Abs
def aZ.form{id:Nat}{B B':List (List AV)}(h:aZ (·=id) B B')(aO:id<B.length):B'=B.set id (Qh B' id)++B'.drop B.length:=by
 have hl:=h.1;apply zzcj;intro j;rcases zzaa j B.length with hj|hj
 ·rw[zzag (by simpa using hj),Yz (B:=B') (by omega)];by_cases Aj:j=id
  ·subst Aj;rw[zzaz aO]
  rw[zzbe (by omega),Yz hj,h.2 j hj Aj]
 rw[zzal (by simpa using hj),zzcg,zzbk];congr 1;omega
def RU(Y:YT)(l:List En)(hl:l.length<=1000000000)(B:List (List AV))(L:List Nat)(st:Nat->LS)(n id:Nat)(aO:id<B.length)(aJ:l≠[])(hB:Qh B id=eM l)
  (kk:Nat)(a0 a1 a2 a3:AV)(x:Int)(r:List AV)(hkk:kk<B.length)(eT:kk≠id)(hk:Qh B kk=a0::a1::a2::a3::I x::r)(bT:Zg (a0::a1::a2::a3::I x::r)=true)(K:AV->AM->Prop)
  (hK:∀(ex:List (List AV))(z:List AV),Zg z=true->K (.bs id 0 (l.filter fun e=>!mJ x e).length 7) ⟨B.set id (eM (l.filter fun e=>!mJ x e)++z)++ex,L,st,n⟩):
  an Tryz.prog aq Y 216 [.bs id 0 l.length 7,.fn 217 [] [.ptr kk 0]] ⟨B,L,st,n⟩ K:=
 aah Y l hl B L st n id aO aJ hB kk a0 a1 a2 a3 x r hkk eT hk bT K fun B' z h1 h2 _ h4=>by
  have:=aZ.form h1 aO;rw[h2]at this;rw[this];exact hK _ z h4
def xX(g:Pg)(o:Od):Option Pl:=if Jb g o.en<0 then none else some {g.p with ens:=g.p.ens.filter fun e=>!mJ o.en e}
def aai(Y:YT)(m:AM)(g:Pg)(f:Int)(mid:Nat)(o:Od)(h:lS g f)(hp:Bh g.p)(K:AV->AM->Prop)
  (h0:xX g o=none->∀ex,K (.aU [.agg uF,.bool false]) {m with boxes:=m.boxes++ex})
  (h1:∀q,xX g o=some q->∀ex k z,m.boxes.length<=k->k<(m.boxes++ex).length->Qh (m.boxes++ex) k=eM q.ens++z->Zg z=true->K (.aU [.agg (Xo q (.bs k 0 q.ens.length 7) (.sl .ro (q.cls.map Qg)) 0),.bool true]) {m with boxes:=m.boxes++ex}):
  an Tryz.prog aq Y 139 [.agg (Qu g f mid),.agg (Qp o)] m K:=by
 obtain⟨mb,ml,ms,mn⟩:=m;have kp:=fun ex K hK=>LM Y ⟨mb++ex,ml,ms,mn⟩ g f mid o.en h K hK;simp only[Qu,Qo,Qc,zzae,zzah]at kp;by_cases Cx:Jb g o.en<0
 ·have hx:xX g o=none:=by unfold xX;rw[if_pos Cx]
  refine Xe Nc (fun _ _ _=>.gd false .junk) (by simp) ?_;simp[UD,UE,Qu,Qo,Qc,Qp,Qd,Qg,Qj];refine kp _ _ ?_;simp[Cx];have:=h0 hx;simp[uF]at this;exact this _
 have hx:xX g o=some {g.p with ens:=g.p.ens.filter fun e=>!mJ o.en e}:=by unfold xX;rw[if_neg Cx]
 have aJ:g.p.ens≠[]:=by
  intro e;unfold Jb at Cx;rw[e]at Cx;simp[Uo]at Cx
 have h1:=h1 _ hx;have kO:=fun ex K hK=>xU Y ⟨mb++ex,ml,ms,mn⟩ g.p hp aJ K hK;simp only[Qc]at kO;have kD:=fun B id aO hB kk a0 a1 a2 a3 r hkk eT hk bT=>RU Y g.p.ens h.2.2.2 B ml ms mn id aO aJ hB kk a0 a1 a2 a3 o.en r hkk eT hk bT;refine Xe Nc (fun _ _ _=>.gd false .junk) (by simp) ?_;simp[UD,UE,Qu,Qo,Qc,Qp,Qd,Qg,Qj];refine kp _ _ ?_;simp[Cx];refine kO _ _ fun c0 c1 bx=>?_;simp[Ul,zzao];refine kD _ _ (by simp) ?_ (mb.length+1) (I o.sq) (I o.ch) (I o.fr) (I o.ki) _ (by simp) (by omega) (by simp;rfl) ?_ _ ?_
 ·simp[eM]
 ·simp[Zg,Fx]
 intro ex z hz;simp[zzao];refine⟨by omega,?_⟩;exact h1 _ (mb.length+5) z (by simp) (by simp) (by simp) hz
open Go Go.Abs
def GZ(Y:YT)(l:List Cl)(h:l.length<=1000000000)(m:AM)(K:AV->AM->Prop)(hK:K (.sl (.own m.lens.length 8) (l.map Qg)) {m with lens:=m.lens++[l.length]}):an Tryz.prog aq Y 129 [.sl .ro (l.map Qg)] m K:=by
 refine Xe M6 (fun _ _ _=>.junk) (by simp) ?_;simp[T6,T7];exact⟨⟨fun _ _=>rfl,by omega⟩,hK⟩
def Jc(p:Pl)(V W:AV):List AV:=[I p.ch,I p.nu,I p.de,I p.of,.sl .ro (p.sh.map Qe),I p.ep,I p.rg,I p.ln,I p.fi,.sl .ro (p.aL.map Qm),V,.sl .ro (p.bks.map Xa),W]
def xY(p:Pl):Nat->FuncId->List AV->AV:=fun d f l=>if f=129 then .gd false .junk else Kc p d f l
def aaj(Y:YT)(m:AM)(p:Pl)(h:Bh p)(hn:p.ens≠[])(K:AV->AM->Prop)
  (hK:∀c0 c1 bx,K (.agg (Jc p (.bs (m.boxes.length+2) 0 p.ens.length 7) (.sl (.own m.lens.length 8) (p.cls.map Qg)))) {m with boxes:=m.boxes++(c0::c1::(p.ens.map Qd).flatten::bx),lens:=m.lens++[p.cls.length]}):an Tryz.prog aq Y 61 [.agg (Qc p)] m K:=by
 obtain⟨mb,ml,ms,mn⟩:=m;obtain⟨h1,h2,h3,h4,h5,h6⟩:=h;have k1:=pN p.sh (by omega);have k2:=pO p.aL (by omega);have k4:=pP p.bks (by omega);have hsz:=Qar (f:=Qd) (sz:=7) (fun _=>rfl) p.ens;refine Xe uQ (xY p) (by simp) ?_;have aJ:p.ens.map Qd≠[]:=by simpa using hn
 simp[IQ,Qc,xY,Kc,hn];refine⟨k1,k2,xM _ _ hsz (by simpa using by omega) aJ _ _ ?_⟩;simp;obtain⟨F,hF⟩:∃F,(p.ens.map Qd).flatten=F:=⟨_,rfl⟩;have IJ:F.length=p.ens.length*7:=by rw[<- hF,Ww hsz];simp
 have bT:Zg F=true:=by rw[<- hF];exact fh (fun _=>rfl) _
 have zK:∀m,F.map (bF m 4)=F:=fun m=>Zk m 3 bT;rw[hF]at hK |-
 refine Qi eE (akG p mb ml ms mn [I 0,I 0,I 0,I 0,.sl .nil [],I 0,I 0,I 0,I 0,.sl .nil [],.sl .nil [],.sl .nil [],.sl .nil []]) (fun f _=>p.ens.length-(numOf (f 22)).toNat) ?_ ?_
 ·exact⟨0,[],by simp,by omega,by rw[hF];simp[Ul]⟩
 rintro f m ⟨i,bx,f22,hi,rfl⟩;rw[hF];rcases zzaa i p.ens.length with ai|bw
 ·obtain⟨e,he⟩:=aP ai;have ah:(i:Int)<(p.ens.length:Int):=by omega
  have hw:=bH i (by omega);obtain⟨⟨r,hd⟩,cc⟩:=kZ hsz (i:=i) (row:=Qd e) (by simp[he]);rw[hF]at hd cc;simp only[Qd,zzae,zzah]at hd cc;have GH:=Wj e (h6 e (zzac he));simp only[Qd]at GH;simp[-setA,jN,jO,f22,eE,ah,hd,cc,IJ,hw,xY,Kc,Ul];refine⟨GH,by omega,aN,⟨i+1,bx++[[I e.id,I e.it,I e.fr,I e.ea,I e.la,I e.bo,.sl .ro (e.al.map Qe)]],by simp,by omega,by rw[hF];simp[Ul]⟩,by omega⟩
 obtain rfl:i=p.ens.length:=by omega
 simp[f22,eE,IS,xY,Kc,Ul];simp[Jc]at hK;refine⟨k4,GZ _ _ (by omega) _ _ ?_⟩;simp;exact hK _ _ _
def RW(Y:YT)(m:AM)(p:Pl)(h:Bh p)(hn:p.ens=[])(K:AV->AM->Prop)
  (hK:∀c0 c1,K (.agg (Jc p (.sl .ro []) (.sl (.own m.lens.length 8) (p.cls.map Qg)))) {m with boxes:=m.boxes++[c0,c1],lens:=m.lens++[p.cls.length]}):an Tryz.prog aq Y 61 [.agg (Qc p)] m K:=by
 obtain⟨mb,ml,ms,mn⟩:=m;obtain⟨h1,h2,h3,h4,h5,h6⟩:=h;have k1:=pN p.sh (by omega);have k2:=pO p.aL (by omega);have k4:=pP p.bks (by omega);have k3:=GG;refine Xe uQ (xY p) (by simp) ?_;simp[IQ,Qc,xY,Kc,hn];refine⟨k1,k2,k3,?_⟩;refine Qi eE (fun f m=>f 22=I 0/\m=⟨mb++[[I p.ch,I p.nu,I p.de,I p.of,.sl .ro (p.sh.map Qe),I p.ep,I p.rg,I p.ln,I p.fi,.sl .ro (p.aL.map Qm),.sl .ro [],.sl .ro (p.bks.map Xa),.sl .ro (p.cls.map Qg)],[I 0,I 0,I 0,I 0,.sl .nil [],I 0,I 0,I 0,I 0,.sl .nil [],.sl .nil [],.sl .nil [],.sl .nil []]],ml,ms,mn⟩) (fun f _=>0) ?_ ?_
 ·exact⟨by simp,by simp⟩
 rintro f m ⟨f22,rfl⟩;simp[f22,eE,IS,xY,Kc];refine⟨k4,GZ _ _ (by omega) _ _ ?_⟩;simp;simp[Jc]at hK;exact hK _ _
def Dq(rt:Rt):Prop:=∀m d x,bF m (d+1) (.sl rt x)=.sl .ro x
def Dq.ro:Dq .ro:=fun _ _ _=>rfl
def Dq.own(k s:Nat):Dq (.own k s):=fun _ _ _=>rfl
def mM(bx:List (List AV))(V:AV)(l:List En):Prop:=(∃rt,V=.sl rt (l.map Qd)/\Dq rt)\/∃k z,V=.bs k 0 l.length 7/\k<bx.length/\Qh bx k=eM l++z/\Zg z=true
def G1(n:Nat)(V:AV):Prop:=∀k o l s,V=.bs k o l s->n<=k
def G1.sl(n:Nat)(rt:Rt)(rows:List (List AV)):G1 n (.sl rt rows):=fun _ _ _ _ h=>by cases h
def G1.bs{n k o l s:Nat}(h:n<=k):G1 n (.bs k o l s):=fun _ _ _ _ e=>by cases e;exact h
def Dr(g:Pg)(o:Od):Pl:={g.p with cls:=g.p.cls++[o.cl]}
def aak(Y:YT)(m:AM)(g:Pg)(f:Int)(mid:Nat)(o:Od)(hp:Bh g.p)(K:AV->AM->Prop)
  (h1:∀ex V,mM (m.boxes++ex) V g.p.ens->G1 m.boxes.length V->K (.aU [.agg (Xo (Dr g o) V (.sl (.own m.lens.length 8) ((Dr g o).cls.map Qg)) 0),.bool true]) {m with boxes:=m.boxes++ex,lens:=m.lens++[g.p.cls.length+1]}):
  an Tryz.prog aq Y 135 [.agg (Qu g f mid),.agg (Qp o)] m K:=by
 obtain⟨mb,ml,ms,mn⟩:=m;have hc:=hp.2.2.2.2.1
 have aa:∀row:List AV,((∃a,a∈g.p.cls/\Qg a=row)\/row=Qg o.cl)->row.length=8:=by
  rintro row (⟨a,_,rfl⟩|rfl)<;>rfl
 simp only[Dr,Xo,zzbw,zzay,zzce]at h1;by_cases aJ:g.p.ens=[]
 ·have kO:=fun ex K hK=>RW Y ⟨mb++ex,ml,ms,mn⟩ g.p hp aJ K hK;simp only[Qc]at kO;refine Xe Na (fun _ _ l=>.gd false .junk) (by simp) ?_;simp[Up,UA,Qu,Qo,Qc,Qp,Qd,Qg,Qj];refine kO _ _ fun c0 c1=>?_;simp[Jc];refine⟨⟨aa,by omega⟩,?_⟩;exact h1 _ _ (.inl ⟨.ro,by rw[aJ];rfl,Dq.ro⟩) (G1.sl _ _ _)
 have kO:=fun ex K hK=>aaj Y ⟨mb++ex,ml,ms,mn⟩ g.p hp aJ K hK;simp only[Qc]at kO;refine Xe Na (fun _ _ l=>.gd false .junk) (by simp) ?_;simp[Up,UA,Qu,Qo,Qc,Qp,Qd,Qg,Qj];refine kO _ _ fun c0 c1 bx=>?_;simp[Jc,zzao];refine⟨⟨aa,by omega⟩,?_⟩;exact h1 _ _ (.inr ⟨mb.length+5,[],rfl,by simp,by simp[eM],rfl⟩) (G1.bs (by simp))
open Go Go.Abs
def mM.ext{bx:List (List AV)}{V:AV}{l:List En}(h:mM bx V l)(ex:List (List AV)):mM (bx++ex) V l:=by
 obtain h|⟨k,z,h1,h2,h3,h4⟩:=h
 ·exact .inl h
 exact .inr ⟨k,z,h1,by simp;omega,by rw[Ql h2,h3],h4⟩
def RX(Y:YT)(m:AM)(V:AV)(L:List En)(id:Int)(hV:mM m.boxes V L)(hl:L.length<=1000000000):an Tryz.prog aq Y 203 [V,I id,.fn 204 [] []] m (fun r m'=>m'=m/\r=Wy (Zf id L)):=by
 obtain⟨mb,ml,ms,mn⟩:=m;refine an.read ?_;obtain⟨rt,rfl,aT⟩|⟨k,z,rfl,hk,hB,hz⟩:=hV
 ·refine Xe BY (fun _ f l=>if f=204 then(match l with|[.agg (c::_)]=>c|_=>.junk)else .junk) (by simp) ?_;simp[Nv];refine Qi dW (fun f m=>∃(i:Nat)(bx:List (List AV)),f 13=I i/\i<=L.length/\Zf id (L.drop i)=Zf id L/\m=⟨mb++([I 0,I 0,I 0,I 0,I 0,I 0,.sl .nil []]::bx),ml,ms,mn⟩) (fun f _=>L.length-(numOf (f 13)).toNat) ?_ ?_
  ·exact⟨0,[],by simp,by omega,rfl,rfl⟩
  rintro f m ⟨i,bx,eW,hi,hf,rfl⟩;rcases zzaa i L.length with ai|bw
  ·obtain⟨x,hx⟩:=aP ai;have aa:Qh (L.map Qd) i=Qd x:=Qr (by simp[hx]);have ah:(i:Int)<(L.length:Int):=by omega
   have hw:=bH i (by omega);have hd:L.drop i=x::L.drop (i+1):=by rw[zzaf ai,(zza.1 hx).2]
   have y9:=nT x;rw[hd,Zf]at hf;by_cases aO:x.id=id
   ·rw[if_pos aO]at hf;simp[eW,ah,aa,Qd,aO,dW,vi,<- hf,Wy];refine⟨by simpa[Qd,aO]using y9,lq⟩
   rw[if_neg aO]at hf;simp[eW,ah,aa,Qd,aO,dW,hw];refine⟨y9,aN,⟨i+1,by simp,by omega,hf⟩,by omega⟩
  rw[zzan bw]at hf;have bJ:¬(i:Int)<(L.length:Int):=by omega
  simp[eW,bJ,dW,vi,<- hf,Wy,Zf];exact lq
 have hR:∀ex,Qh (mb++ex) k=eM L++z:=fun ex=>by rw[Ql hk];exact hB
 refine Xe BY (fun _ f l=>if f=204 then(match l with|[.agg (c::_)]=>c|_=>.junk)else .junk) (by simp) ?_;simp[Nv];refine Qi dW (fun f m=>∃(i:Nat)(bx:List (List AV)),f 13=I i/\i<=L.length/\Zf id (L.drop i)=Zf id L/\m=⟨mb++([I 0,I 0,I 0,I 0,I 0,I 0,.sl .nil []]::bx),ml,ms,mn⟩) (fun f _=>L.length-(numOf (f 13)).toNat) ?_ ?_
 ·exact⟨0,[],by simp,by omega,rfl,rfl⟩
 rintro f m ⟨i,bx,eW,hi,hf,rfl⟩;rcases zzaa i L.length with ai|bw
 ·obtain⟨x,hx⟩:=aP ai;have hg:=Dp hx
  have aa:∀ex,(Qh (mb++ex) k).drop (i*7)=I x.id::I x.it::I x.fr::I x.ea::I x.la::I x.bo::.sl .ro (x.al.map Qe)::(eM (L.drop (i+1))++z):=fun ex=>by
   rw[hR,zzdm (by rw[Ux];omega),hg];rfl
  have ah:(i:Int)<(L.length:Int):=by omega
  have hw:=bH i (by omega);have hd:L.drop i=x::L.drop (i+1):=by rw[zzaf ai,(zza.1 hx).2]
  have y9:=nT x;rw[hd,Zf]at hf;by_cases aO:x.id=id
  ·rw[if_pos aO]at hf;simp[eW,ah,aa,Qd,aO,dW,vi,<- hf,Wy];refine⟨by simpa[Qd,aO]using y9,lq⟩
  rw[if_neg aO]at hf;simp[eW,ah,aa,aO,dW,hw];refine⟨y9,aN,⟨i+1,by simp,by omega,hf⟩,by omega⟩
 rw[zzan bw]at hf;have bJ:¬(i:Int)<(L.length:Int):=by omega
 simp[eW,bJ,dW,vi,<- hf,Wy,Zf];exact lq
def anY(Y:YT)(m:AM)(V:AV)(L:List En)(id:Int)(hV:mM m.boxes V L)(hl:L.length<=1000000000)(K:AV->AM->Prop)(hK:K (Wy (Zf id L)) m):an Tryz.prog aq Y 203 [V,I id,.fn 204 [] []] m K:=
 an.mono (RX Y m V L id hV hl) (by rintro r m' ⟨rfl,rfl⟩;exact hK)
open Go Go.Abs
def nU:∀(l:List En)(z:List AV),aV 7 l.length (eM l++z)=l.map Qd
 |[],z=>rfl
 |e::r,z=>by
  have:=nU r z;simp[Qd,this]
def mM.bF{bx:List (List AV)}{V:AV}{l:List En}(h:mM bx V l)(ex:List (List AV))(ml:List Nat)(ms:Nat->LS)(mn:Nat)(d:Nat):Abs.bF ⟨bx++ex,ml,ms,mn⟩ (d+2) V=.sl .ro (l.map Qd):=by
 obtain⟨rt,rfl,aT⟩|⟨k,z,rfl,hk,hB,hz⟩:=h
 ·exact aT _ _ _
 have bT:Zg (eM l++z)=true:=by have:=LO l;unfold Zg at this hz |-;rw[zzdy,this,hz];rfl
 rw[XU,Vl,Ql hk,hB,Zk _ _ bT,if_pos (by rw[zzai,Ux];omega),zzdb,nU]
def mM.cell{bx:List (List AV)}{V:AV}{l:List En}(h:mM bx V l):Qv V=true:=by
 rcases h with⟨rt,rfl,aT⟩|⟨k,z,rfl,hk,hB,hz⟩<;>rfl
def LQ(Y:YT)(m:AM)(q:Pl)(V:AV)(rt:Rt)(id:Int)(hV:mM m.boxes V q.ens)(hl:q.ens.length<=1000000000)(ha:∀e∈q.ens,e.al.length<=8796093022208):
  an Tryz.prog aq Y 130 [.agg (Jc q V (.sl rt (q.cls.map Qg))),I id] m (fun r m'=>m'=m/\r=Wy (Zf id q.ens)):=by
 obtain⟨mb,ml,ms,mn⟩:=m;have hc:=hV.cell;have kf:=fun ex K hK=>anY Y ⟨mb++ex,ml,ms,mn⟩ V q.ens id (hV.ext ex) hl K hK;refine an.read (Xe M9 (fun _ f l=>if f=203 then .gd false .junk else l.headD .junk) (by simp) ?_);simp[M7,M8,Jc,hc];refine kf _ _ ?_;cases hf:Zf id q.ens with
 |none=>
  simp[Wy];exact⟨jR,lq⟩
 |some x=>
  have hx:x∈q.ens:=by
   have:∀l:List En,Zf id l=some x->x∈l:=by
    intro l;induction l with
    |nil=>intro h;cases h
    |cons y r ih=>
     intro h;simp only[Zf]at h;split at h
     ·cases h;simp
     simp[ih h]
   exact this _ hf
  have qj:=Ur x.al (ha x hx);simp[Wy,Qd];exact⟨qj,lq⟩
def OP(Y:YT)(m:AM)(q:Pl)(V:AV)(rt:Rt)(id:Int)(hV:mM m.boxes V q.ens)(hl:q.ens.length<=1000000000)(ha:∀e∈q.ens,e.al.length<=8796093022208)(K:AV->AM->Prop)(hK:K (Wy (Zf id q.ens)) m):
  an Tryz.prog aq Y 130 [.agg (Jc q V (.sl rt (q.cls.map Qg))),I id] m K:=
 an.mono (LQ Y m q V rt id hV hl ha) (by rintro r m' ⟨rfl,rfl⟩;exact hK)
def LR(Y:YT)(m:AM)(g:Pg)(f:Int)(mid:Nat)(o:Od)(q:Pl)(V:AV)(rt:Rt)(d:Int)(hV:mM m.boxes V q.ens):
  an Tryz.prog aq Y 136 [.agg (Qu g f mid),.agg (Qp o),.agg (Xo q V (.sl rt (q.cls.map Qg)) d)] m (fun r m'=>m'=m/\r=.bool true):=by
 obtain⟨mb,ml,ms,mn⟩:=m;have hc:=hV.cell;refine an.read (Xe acS (fun _ _ _=>.junk) (by simp) ?_);simp[ahY,ahZ,Qu,Qo,Qc,Qp,Qd,Qg,Qj,Xo,hc];exact lq
def G2(Y:YT)(m:AM)(g:Pg)(f:Int)(mid:Nat)(b:List (Int×Bool))(o:Od)(q:Pl)(V:AV)(rt:Rt)(d:Int)(hV:mM m.boxes V q.ens)(h:lS g f)(hb:fW m.boxes mid b):
  an Tryz.prog aq Y 140 [.agg (Qu g f mid),.agg (Qp o),.agg (Xo q V (.sl rt (q.cls.map Qg)) d)] m (fun r m'=>m'=m/\r=.bool !(Dm g f b o.en)):=by
 obtain⟨mb,ml,ms,mn⟩:=m;have hc:=hV.cell;have hB:∀ex,fW (mb++ex) mid b:=fun ex=>⟨by have:=hb.1;simp at this |-;omega,hb.ext ex⟩;have k:=fun ex K hK=>atK Y ⟨mb++ex,ml,ms,mn⟩ g f mid b o.en h (hB ex) K hK;simp only[Qu,Qo,Qc,zzae,zzah]at k;refine an.read (Xe acU (fun _ _ _=>.gd false .junk) (by simp) ?_);simp[ah0,ah1,Qu,Qo,Qc,Qp,Qd,Qg,Qj,Xo,hc];refine k _ _ ?_;simp;exact lq
open Go Go.Abs
def zL(x:Int):List Int->Nat->Int
 |[],_=> -1
 |a::r,i=>if x=a then i else zL x r (i+1)
def G3(x:Int):∀(L:List Int)(i:Nat),(0<=zL x L i)=(x∈L)
 |[],i=>by simp[zL]
 |a::r,i=>by
  unfold zL;by_cases h:x=a
  ·rw[if_pos h];simp[h]
  rw[if_neg h,G3 x r (i+1)];simp[h]
def aal(L:List Int)(x:Int)(hl:L.length<=1000000000):Pure Tryz.prog aq 226 [.sl .ro (L.map Qy),I x] (I (zL x L 0)):=by
 refine Qn adY (fun _ _ _=>.junk) (by simp) ?_;simp[aiX];refine Qi Cb (fun f m=>∃i:Nat,f 8=I i/\i<=L.length/\zL x (L.drop i) i=zL x L 0/\m=⟨[],[],fun _=>.gone,0⟩) (fun f _=>L.length-(numOf (f 8)).toNat) ?_ ?_
 ·exact⟨0,by simp,by omega,by simp,rfl⟩
 rintro f m ⟨i,f8,hi,hr,rfl⟩;rcases zzaa i L.length with ai|bw
 ·obtain⟨a,ha⟩:=aP ai;have aa:Qh (L.map Qy) i=[I a]:=Qr (by simp[ha,Qy]);have ah:(i:Int)<(L.length:Int):=by omega
  have hw:=bH i (by omega);have hd:L.drop i=a::L.drop (i+1):=by rw[zzaf ai,(zza.1 ha).2]
  rw[hd,zL]at hr;by_cases hP:x=a
  ·rw[if_pos hP]at hr;simp[f8,Cb,VB,ah,aa,hP];rw[<- hP];exact hr
  rw[if_neg hP]at hr;simp[f8,Cb,ah,aa,hP,hw];refine⟨aN,⟨i+1,by simp,by omega,hr⟩,by omega⟩
 obtain rfl:i=L.length:=by omega
 rw[zzbo,zL]at hr;simp[f8,Cb,VB];exact hr
def jS(L:List Int)(x:Int)(hl:L.length<=1000000000):Pure Tryz.prog aq 157 [.sl .ro (L.map Qy),I x] (.bool (decide (x∈L))):=by
 have k:=aal L x hl;refine Qn ac8 (fun _ _ _=>I (zL x L 0)) (by simp) ?_;simp[aio,aip];refine⟨k,?_⟩;simp[<- G3 x L 0]
def Ds(e:bD)(id:Int):Pure Tryz.prog aq 222 [.agg (Qf e),.ep [I id] 0] (.bool (decide (e.id=id))):=by
 refine Qn adV (fun _ _ _=>.junk) (by simp) ?_;simp[aiR,aiS,Qf];rw[zzbh];simp
def LU(g:Pg)(id:Int):Bool:=(g.ev.find? (fun e=>decide (e.id=id))).isSome
def Dt(L:List bD)(id:Int)(hl:L.length<=1000000000):Pure Tryz.prog aq 221 [.sl .ro (L.map Qf),.fn 222 [] [.ep [I id] 0]] (.bool (L.find? (fun e=>decide (e.id=id))).isSome):=by
 have k:=xS L (fun e=>decide (e.id=id)) 222 [] [.ep [I id] 0] hl (fun _=>rfl) (fun _=>by simp) (fun e _=>Ds e id) (fun _ _ xs=>match xs with|.agg (.int _ n::_)::_=>.bool (decide (n=id))|_=>.junk) (fun _ e _=>rfl);refine Qn adU (fun _ _ _=>I (Uo (fun e=>decide (e.id=id)) L 0)) (by simp) ?_;cases hf:L.find? (fun e=>decide (e.id=id))with
 |none=>
  rw[Qcu hf]at k |-
  simp[Vc,VA];exact k
 |some e=>
  obtain⟨n,g1,_,_⟩:=Kw (i:=0) hf;rw[g1,zzbt]at k |-
  simp[Vc,VA];exact k
def pV(g:Pg)(o:Od):Bool:=!LU g o.nw.id&&(decide (Jb g o.nw.id<0)&&!decide (o.nw.id∈g.dr))
def LV(Y:YT)(m:AM)(g:Pg)(f:Int)(mid:Nat)(o:Od)(q:Pl)(V:AV)(rt:Rt)(d:Int)(hV:mM m.boxes V q.ens)(h:lS g f)(hd:g.dr.length<=1000000000):
  an Tryz.prog aq Y 142 [.agg (Qu g f mid),.agg (Qp o),.agg (Xo q V (.sl rt (q.cls.map Qg)) d)] m (fun r m'=>m'=m/\r=.bool (pV g o)):=by
 obtain⟨mb,ml,ms,mn⟩:=m;have hc:=hV.cell;have k:=fun ex K hK=>LM Y ⟨mb++ex,ml,ms,mn⟩ g f mid o.nw.id h K hK;simp only[Qu,Qo,Qc,zzae,zzah]at k;have k1:=Dt g.ev o.nw.id h.1;have k2:=jS g.dr o.nw.id hd;refine an.read (Xe acV (fun _ f _=>if f=221 then .bool (LU g o.nw.id)else if f=157 then .bool (decide (o.nw.id∈g.dr))else .gd false .junk) (by simp) ?_);cases hh:LU g o.nw.id with
 |true=>
  unfold LU at hh;rw[hh]at k1;simp[UH,UI,Qu,Qo,Qc,Qp,Qd,Qg,Qj,Xo,hc,pV,LU,hh];exact⟨k1,lq⟩
 |false=>
  unfold LU at hh;rw[hh]at k1;simp[UH,UI,Qu,Qo,Qc,Qp,Qd,Qg,Qj,Xo,hc,pV,LU,hh];refine⟨k1,k _ _ ?_⟩;by_cases hp:Jb g o.nw.id<0
  ·simp[hp];exact⟨k2,lq⟩
  simp[hp];exact lq
open Go Go.Abs
def xZ:En:=⟨0,0,0,0,0,0,[]⟩
def Qbq(g:Pg)(f:Int)(b:List (Int×Bool))(o:Od)(q:Pl)(d:Int):Bool:=
 if Dm g f b o.en=true then false
 else if o.en∈g.dr then false
 else if d<1 then false
 else match Xg ((Zf o.en q.ens).getD xZ).it q.aL with
  |none=>false
  |some x=>if x.ki≠4 then false
   else match Bl g f b o.en with
    |none=>true
    |some st=>if q.ln-d<st then false else if st+d-f=0 then true else Xv q ((Zf o.en q.ens).getD xZ).it 0 f (st+d-f)
def G4(g:Pg)(F:Int)(b:List (Int×Bool))(o:Od)(q:Pl)(d:Int):Nat->FuncId->List AV->AV:=fun _ f _=>if f=157 then .bool (decide (o.en∈g.dr))else if f=30 then .bool (Xv q ((Zf o.en q.ens).getD xZ).it 0 F ((Bl g F b o.en).getD 0+d-F))else .gd false .junk
def RY(Y:YT)(m:AM)(q:Pl)(V:AV)(rt:Rt)(id:Int)(hc:Qv V=true)(hl:q.aL.length<=1000000000):
  an Tryz.prog aq Y 29 [.agg (Jc q V (.sl rt (q.cls.map Qg))),I id] m (fun r m'=>m'=m/\r=Zo (Xg id q.aL)):=by
 obtain⟨mb,ml,ms,mn⟩:=m;have h:=x9 q.aL id hl;refine an.read (Xe TJ (fun _ f l=>if f=55 then Zo (Xg id q.aL)else .junk) (by simp) ?_);cases hf:Xg id q.aL with
 |none=>
  rw[hf]at h;simp[TH,TI,Jc,hc,Zo];exact⟨h,lq⟩
 |some x=>
  rw[hf]at h;simp[TH,TI,Jc,hc,Zo,Qm];exact⟨h,lq⟩
def anZ(Y:YT)(m:AM)(q:Pl)(V:AV)(rt:Rt)(id:Int)(hc:Qv V=true)(hl:q.aL.length<=1000000000)(K:AV->AM->Prop)(hK:K (Zo (Xg id q.aL)) m):
  an Tryz.prog aq Y 29 [.agg (Jc q V (.sl rt (q.cls.map Qg))),I id] m K:=
 an.mono (RY Y m q V rt id hc hl) (by rintro r m' ⟨rfl,rfl⟩;exact hK)
def rtE:Option En->Rt
 |none=>.nil
 |some _=>.ro
def G5(o:Option En):Wy o=.aU [.agg [I (o.getD xZ).id,I (o.getD xZ).it,I (o.getD xZ).fr,I (o.getD xZ).ea,I (o.getD xZ).la,I (o.getD xZ).bo,.sl (rtE o) ((o.getD xZ).al.map Qe)],.bool o.isSome]:=by
 cases o<;>rfl
def LW(Y:YT)(m:AM)(g:Pg)(f:Int)(mid:Nat)(b:List (Int×Bool))(o:Od)(q:Pl)(V:AV)(rt:Rt)(d:Int)(hV:mM m.boxes V q.ens)(aT:Dq rt)(h:lS g f)(hb:fW m.boxes mid b)(dZ:g.dr.length<=1000000000)(hq:Bh q)(dx:0<=q.ln/\q.ln<=1000000)(hd:sR d):
  an Tryz.prog aq Y 138 [.agg (Qu g f mid),.agg (Qp o),.agg (Xo q V (.sl rt (q.cls.map Qg)) d)] m (fun r m'=>m'=m/\r=.bool (Qbq g f b o q d)):=by
 obtain⟨mb,ml,ms,mn⟩:=m;obtain⟨q1,q2,q3,q4,q5,q6⟩:=hq;have hc:=hV.cell;have hB:∀ex,fW (mb++ex) mid b:=fun ex=>⟨by have:=hb.1;simp at this |-;omega,hb.ext ex⟩;have ke:=fun ex K hK=>atK Y ⟨mb++ex,ml,ms,mn⟩ g f mid b o.en h (hB ex) K hK;have ki:=fun ex K hK=>anX Y ⟨mb++ex,ml,ms,mn⟩ g f mid b o.en h (hB ex) K hK;have kn:=fun ex K hK=>OP Y ⟨mb++ex,ml,ms,mn⟩ q V rt o.en (hV.ext ex) (by omega) q6 K hK;simp only[Qu,Qo,Qc,Jc,zzae,zzah]at ke ki kn;have k2:=jS g.dr o.en dZ;have fG:=fun ex d=>hV.bF ex ml ms mn d;refine an.read (Xe acT (G4 g f b o q d) (by simp) ?_);cases he:Dm g f b o.en with
 |true=>
  simp[Eu,Ew,Qu,Qo,Qc,Qp,Qd,Qg,Qj,Xo,hc,Qbq,he,G4];refine ke _ _ ?_;simp[he];exact lq
 |false=>
  by_cases hm:o.en∈g.dr
  ·simp[Eu,Ew,Qu,Qo,Qc,Qp,Qd,Qg,Qj,Xo,hc,Qbq,he,hm,G4];refine ke _ _ ?_;simp[he,hm]at k2 |-
   exact⟨k2,lq⟩
  by_cases hd1:d<1
  ·simp[Eu,Ew,Qu,Qo,Qc,Qp,Qd,Qg,Qj,Xo,hc,Qbq,he,hm,hd1,G4];refine ke _ _ ?_;simp[he,hm,hd1]at k2 |-
   exact⟨k2,lq⟩
  simp[Eu,Ew,Qu,Qo,Qc,Qp,Qd,Qg,Qj,Xo,hc,Qbq,he,hm,hd1,G4];refine ke _ _ ?_;simp[he,hm,hd1]at k2 |-
  refine⟨k2,kn _ _ ?_⟩;obtain⟨e,hE⟩:∃e,(Zf o.en q.ens).getD xZ=e:=⟨_,rfl⟩;have kt:=fun ex K hK=>anZ Y ⟨mb++ex,ml,ms,mn⟩ q V rt e.it hc (by omega) K hK;simp only[Jc]at kt;rw[G5];generalize rtE (Zf o.en q.ens)=r7;generalize(Zf o.en q.ens).isSome=b7;rw[hE];obtain⟨X,hX⟩:∃X,Xg e.it q.aL=X:=⟨_,rfl⟩;have w0:IntKind.i64.wrap 0=0:=by decide
  simp;refine kt _ _ ?_;cases X with
  |none=>
   simp[hX,Zo];exact .bool _
  |some x=>
   by_cases eT:x.ki=4
   ·have K6:=Qdy q e.it 0 f ((Bl g f b o.en).getD 0+d-f) q5 (by omega) (by omega);simp only[Qc]at K6
    have sB:∀st,Bl g f b o.en=some st->0<=st/\st<=1000000:=fun st hh=>by
     unfold Bl at hh;split at hh
     ·cases hh
     split at hh
     ·cases hh;exact Dn h _
     cases hh
    have hfs:=h.2.2.1;unfold nR at hfs;unfold sR at hd;simp[hX,Zo,Qm,eT];refine ki _ _ ?_;cases hi:Bl g f b o.en with
    |none=>
     simp[RQ];exact .bool _
    |some st=>
     have og:=sB st hi;have w1:IntKind.i64.wrap (q.ln-d)=q.ln-d:=by rw[Qk]<;>omega
     rw[hi]at K6;by_cases sj:q.ln-d<st
     ·simp[RQ,w1,sj];exact .bool _
     have w2:IntKind.i64.wrap (st+d)=st+d:=by rw[Qk]<;>omega
     have w3:IntKind.i64.wrap (st+d-f)=st+d-f:=by rw[Qk]<;>omega
     by_cases hz:st+d-f=0
     ·simp[RQ,w1,sj,w2,hz,w0];exact .bool _
     simp[RQ,w1,sj,w2,w3,hz,fG,aT _ _ _];exact⟨by simpa using K6,.bool _⟩
   simp[hX,Zo,Qm,eT];exact .bool _
open Go Go.Abs
def Yd(f:Int):List bD->List (Int×Bool)->List (Int×Bool)
 |[],b=>b
 |e::r,b=>Yd f r (if e.st<f then Zt e.id true b else b)
def moZ:List AV:=[I 0,I 0,I 0,I 0,.sl .nil [],I 0,I 0,I 0,I 0,.sl .nil [],.sl .nil [],.sl .nil [],.sl .nil [],.sl .nil [],.sl .nil [],I 0,.sl .nil [],I 0,I 0,.nilv false]
def Bo(k:Int)(v:Bool):∀l:List (Int×Bool),(Zt k v l).length<=l.length+1
 |[]=>by simp[Zt]
 |x::r=>by
  unfold Zt;split
  ·simp
  have:=Bo k v r;simp;omega
open Go Go.Abs
def gW(c:Cue):Bool->List Cue->List Cue
 |p,[]=>if p=true then[c]else[]
 |p,x::r=>if x.id=c.id then gW c p r else if p=true/\c.id<x.id then c::x::gW c false r else x::gW c p r
def aye(o:List Cue)(v:AV)(ls:List Nat):Prop:=(o=[]/\v=.sl .nil []/\ls=[])\/(o≠[]/\v=.sl (.own 0 5) (o.map Qj)/\ls=[o.length])
def mN(c:Cue)(l:List Cue):AV:=
 if sO c=true then
  (if 200<(gW c (!decide (c.to=0)) l).length then .aU [.sl .nil [],I 150]
  else .aU [.sl (if gW c (!decide (c.to=0)) l=[]then .nil else .ro) ((gW c (!decide (c.to=0)) l).map Qj),I 0])
 else .aU [.sl .nil [],I 150]
def atP(c:Cue)(l:List Cue)(f:Nat->AV)(m:AM):Prop:=
 ∃(i:Nat)(p:Bool)(o:List Cue)(bx:List (List AV))(ls:List Nat),f 18=I i/\f 7=.bool p/\i<=l.length/\o++gW c p (l.drop i)=gW c (!decide (c.to=0)) l/\aye o (f 6) ls/\o.length<=2*i/\
  m=⟨Qj c::bx,ls,fun _=>.gone,0⟩
def RZ(l:List Cue)(c:Cue)(hl:l.length<=1000000):Pure Tryz.prog aq 69 [.sl .ro (l.map Qj),.agg (Qj c)] (mN c l):=by
 have cv:=sP c;refine Qn al1 (fun _ f _=>if f=84 then .bool (sO c)else .junk) (by simp) ?_;cases hc:sO c with
 |false=>
  rw[hc]at cv;simp[ab6,El,Qj,mN,hc];exact cv
 |true=>
  rw[hc]at cv;simp[ab6,Qj];refine⟨cv,?_⟩;refine Qi eY (atP c l) (fun f _=>l.length-(numOf (f 18)).toNat) ?_ ?_
  ·refine⟨0,!decide (c.to=0),[],[],[],by simp,?_,by omega,by simp,.inl ⟨rfl,by simp,rfl⟩,by simp,by simp[Qj]⟩;simp;try(rw[zzbh];simp)
  rintro f m ⟨i,p,o,bx,ls,h18,h7,hi,hR,hO,Iv,rfl⟩;rcases zzaa i l.length with ai|bw
  ·obtain⟨x,hx⟩:=aP ai;have aa:Qh (l.map Qj) i=Qj x:=Qr (by simp[hx]);have ah:(i:Int)<(l.length:Int):=by omega
   have hw:=bH i (by omega);have hd:l.drop i=x::l.drop (i+1):=by rw[zzaf ai,(zza.1 hx).2]
   rw[hd,gW]at hR;by_cases aO:x.id=c.id
   ·rw[if_pos aO]at hR;simp[h18,h7,eY,ah,aa,hw,Qj,aO];refine⟨aN,⟨i+1,p,o,bx++[Qj x],ls,by simp,by simp,by omega,hR,by simpa using hO,by omega,by simp[Qj,aO]⟩,by omega⟩
   rw[if_neg aO]at hR
   have Om:∀(z:List Cue)(row:List AV),((∃a,a∈z/\Qj a=row)\/row=Qj c\/row=Qj x)->row.length=5:=by
    rintro z row (⟨a,_,rfl⟩|rfl|rfl)<;>rfl
   by_cases hp:p=true/\c.id<x.id
   ·rw[if_pos hp]at hR;obtain⟨rfl,hp⟩:=hp;obtain⟨rfl,h6,rfl⟩|⟨ho,h6,rfl⟩:=hO
    ·simp[h18,h7,h6,eY,ah,aa,hw,Qj,aO,hp];refine⟨aN,⟨i+1,false,[c,x],bx++[Qj x],[2],by simp,by simp,by omega,by simpa using hR,.inr ⟨by simp,by simp[Qj],rfl⟩,by simp;omega,by simp[Qj]⟩,by omega⟩
    simp[h18,h7,h6,eY,ah,aa,hw,Qj,aO,hp];refine⟨⟨by rintro row (⟨a,_,rfl⟩|rfl)<;>rfl,by omega⟩,⟨by rintro row (⟨a,_,rfl⟩|rfl|rfl)<;>rfl,by omega⟩,ag ?_,⟨i+1,false,o++[c,x],bx++[Qj x],[o.length+2],by simp,by simp,by omega,by simpa using hR,.inr ⟨by simp,by simp[Qj],by simp⟩,by simp;omega,by simp[Qj]⟩,by omega⟩;repeat(first|exact Qa _ _|refine Qb _ rfl ?_)
   rw[if_neg hp]at hR;obtain⟨rfl,h6,rfl⟩|⟨ho,h6,rfl⟩:=hO
   ·cases p with
    |false=>
     simp[h18,h7,h6,eY,ah,aa,hw,Qj,aO];refine⟨aN,⟨i+1,false,[x],bx++[Qj x],[1],by simp,by simp,by omega,by simpa using hR,.inr ⟨by simp,by simp[Qj],rfl⟩,by simp;omega,by simp[Qj]⟩,by omega⟩
    |true=>
     have WV:¬c.id<x.id:=fun h=>hp ⟨rfl,h⟩;simp[h18,h7,h6,eY,ah,aa,hw,Qj,aO,WV];refine⟨aN,⟨i+1,true,[x],bx++[Qj x],[1],by simp,by simp,by omega,by simpa using hR,.inr ⟨by simp,by simp[Qj],rfl⟩,by simp;omega,by simp[Qj]⟩,by omega⟩
   cases p with
   |false=>
    simp[h18,h7,h6,eY,ah,aa,hw,Qj,aO];refine⟨⟨by rintro row (⟨a,_,rfl⟩|rfl)<;>rfl,by omega⟩,ag ?_,⟨i+1,false,o++[x],bx++[Qj x],[o.length+1],by simp,by simp,by omega,by simpa using hR,.inr ⟨by simp,by simp[Qj],by simp⟩,by simp;omega,by simp[Qj]⟩,by omega⟩;repeat(first|exact Qa _ _|refine Qb _ rfl ?_)
   |true=>
    have WV:¬c.id<x.id:=fun h=>hp ⟨rfl,h⟩;simp[h18,h7,h6,eY,ah,aa,hw,Qj,aO,WV];refine⟨⟨by rintro row (⟨a,_,rfl⟩|rfl)<;>rfl,by omega⟩,ag ?_,⟨i+1,true,o++[x],bx++[Qj x],[o.length+1],by simp,by simp,by omega,by simpa using hR,.inr ⟨by simp,by simp[Qj],by simp⟩,by simp;omega,by simp[Qj]⟩,by omega⟩;repeat(first|exact Qa _ _|refine Qb _ rfl ?_)
  obtain rfl:i=l.length:=by omega
  rw[zzbo,gW]at hR;obtain⟨rfl,h6,rfl⟩|⟨ho,h6,rfl⟩:=hO
  ·cases p with
   |false=>
    simp at hR;simp[h18,h7,h6,eY,El,Qj,mN,hc,hR]
   |true=>
    simp at hR;simp[h18,h7,h6,eY,El,Qj,mN,hc,<- hR]
  cases p with
  |false=>
   simp at hR;by_cases hb:200<o.length
   ·have cK:(200:Int)<(o.length:Int):=by omega
    simp[h18,h7,h6,eY,El,Qj,mN,hc,<- hR,hb,cK]
   have cK:¬(200:Int)<(o.length:Int):=by omega
   simp[h18,h7,h6,eY,El,Qj,mN,hc,<- hR,hb,cK,ho]
  |true=>
   simp at hR;have aI:(o++[c]).length=o.length+1:=by simp
   by_cases hb:200<o.length+1
   ·have cK:(200:Int)<(o.length:Int)+1:=by omega
    simp[h18,h7,h6,eY,El,Qj,mN,hc,<- hR,hb,cK];exact⟨by rintro row (⟨a,_,rfl⟩|rfl)<;>rfl,by omega⟩
   have cK:¬(200:Int)<(o.length:Int)+1:=by omega
   simp[h18,h7,h6,eY,El,Qj,mN,hc,<- hR,hb,cK,ho];exact⟨by rintro row (⟨a,_,rfl⟩|rfl)<;>rfl,by omega⟩
open Go Go.Abs
def OQ(p:Pl):Pl:={p with sh:=p.sh.take 10,aL:=p.aL.take 20,bks:=p.bks.take 8,cls:=p.cls.take 20,ens:=p.ens.take 10,ln:=if 600<p.ln then 600 else p.ln}
def Qdi{α:Type}(l:List α)(n:Nat):l.take (if(n:Int)<(l.length:Int)then(n:Int)else(l.length:Int)).toNat=l.take n:=by
 split
 ·simp
 rw[zzam (by simp),zzam (by omega)]
def pW{a:Nat}(n:Nat):(if(n:Int)<(a:Int)then(n:Int)else(a:Int))<=a:=by split<;>omega
def pX{a:Nat}(n:Nat):0<=(if(n:Int)<(a:Int)then(n:Int)else(a:Int)):=by split<;>omega
def LX(p:Pl):Pure Tryz.prog aq 28 [.agg (Qc p)] (.agg (Qc (OQ p))):=by
 have t1:=Qdi (p.sh.map Qe) 10;have t2:=Qdi (p.aL.map Qm) 20;have t3:=Qdi (p.bks.map Xa) 8;have t4:=Qdi (p.cls.map Qg) 20;have t5:=Qdi (p.ens.map Qd) 10;simp only[zzbg]at t1 t2 t3 t4 t5;have a1:=pW (a:=p.sh.length) 10;have a2:=pW (a:=p.aL.length) 20;have a3:=pW (a:=p.bks.length) 8;have a4:=pW (a:=p.cls.length) 20;have a5:=pW (a:=p.ens.length) 10;have b1:=pX (a:=p.sh.length) 10;have b2:=pX (a:=p.aL.length) 20;have b3:=pX (a:=p.bks.length) 8;have b4:=pX (a:=p.cls.length) 20;have b5:=pX (a:=p.ens.length) 10;simp at a1 a2 a3 a4 a5 b1 b2 b3 b4 b5 t1 t2 t3 t4 t5;refine Qn alo (fun _ _ _=>.junk) (by simp) ?_;simp[apK,apL,Qc,OQ,t1,t2,t3,t4,t5,a1,a2,a3,a4,a5,b1,b2,b3,b4,b5];exact⟨by rintro row a b _ rfl;rfl,fun _ _=>rfl,fun _ _=>rfl,fun _ _=>rfl,fun _ _=>rfl⟩
open Go Go.Abs
def y4(p:Pl):List AV:=Qc (OQ p)
def an0:List AV->AV
 |[.agg [a0,a1,a2,a3,.sl _ sh,a5,a6,.int _ ln,a8,.sl _ aL,.sl _ ens,.sl _ bks,.sl _ cls]]=>.agg [a0,a1,a2,a3,.sl .ro (sh.take 10),a5,a6,I (if 600<ln then 600 else ln),a8,.sl .ro (aL.take 20),.sl .ro (ens.take 10),.sl .ro (bks.take 8),.sl .ro (cls.take 20)]
 |_=>.junk
def agh(p:Pl):an0 [.agg (Qc p)]=.agg (y4 p):=by simp[an0,Qc,y4,OQ,zzhk]
def ayf(ps:List Pl)(i:Nat)(v:AV)(ls:List Nat):Prop:=(i=0/\v=.sl .nil []/\ls=[])\/(0<i/\v=.sl (.own 0 13) ((ps.take i).map y4)/\ls=[i])
def atQ(ps:List Pl)(f:Nat->AV)(m:AM):Prop:=
 ∃(i:Nat)(ls:List Nat),f 4=I i/\i<=ps.length/\i<=3/\ayf ps i (f 3) ls/\m=⟨[],ls,fun _=>.gone,0⟩
def sS(ps:List Pl):Pure Tryz.prog aq 12 [.sl .ro (ps.map Qc)] (.sl (if ps=[]then .nil else .ro) ((ps.take 3).map y4)):=by
 refine Qn alf (fun _ f l=>if f=28 then an0 l else .junk) (by simp) ?_;simp[ale];refine Qi zU (atQ ps) (fun f _=>ps.length-(numOf (f 4)).toNat) ?_ ?_
 ·exact⟨0,[],by simp,by omega,by omega,.inl ⟨rfl,by simp,rfl⟩,rfl⟩
 rintro f m ⟨i,ls,h4,hi,h3,hO,rfl⟩;by_cases hgo:i<ps.length/\i<3
 ·obtain⟨ai,hi3⟩:=hgo;obtain⟨p,hp⟩:=aP ai;have aa:Qh (ps.map Qc) i=Qc p:=Qr (by simp[hp]);have ah:(i:Int)<(ps.length:Int):=by omega
  have ayg:(i:Int)<3:=by omega
  have hw:=bH i (by omega);have k:=LX p;have hc:=agh p;have bA:(ps.take (i+1)).map y4=(ps.take i).map y4++[y4 p]:=by rw[zzar,hp];simp
  have aI:((ps.take i).map y4).length=i:=by simp;omega
  rw[show(.agg (Qc (OQ p)):AV)=.agg (y4 p)from rfl]at k;have eW:(y4 p).length=13:=rfl;have Y3:(y4 p).all Qv=true:=rfl;simp only[y4,Qc]at k hc;have w1:IntKind.i64.wrap 1=1:=by decide
  have Om:∀row:List AV,row∈List.take i (List.map y4 ps)\/row=y4 p->row.length=13:=by
   rintro row (hm|rfl)
   ·obtain⟨a,_,rfl⟩:=zzaw.1 (zzbv hm);rfl
   rfl
  have azq:List.take (i+1) (List.map y4 ps)=List.take i (List.map y4 ps)++[y4 p]:=by simpa using bA
  obtain⟨rfl,h3v,rfl⟩|⟨h0,h3v,rfl⟩:=hO
  ·simp[h4,h3v,zU,ai,aa,Qc,hc,w1];refine⟨k,aN,⟨1,[1],by simp,by omega,by omega,.inr ⟨by omega,?_,rfl⟩,rfl⟩,by omega⟩
   ·rw[bA];simp[y4,Qc]
  simp[h4,h3v,zU,ah,ayg,aa,hw,Qc,hc];refine⟨k,⟨by omega,Om,by omega⟩,aN,⟨i+1,[i+1],by simp,by omega,by omega,.inr ⟨by omega,?_,by simp⟩,?_⟩,by omega⟩
  ·rw[bA];simp[y4,Qc]
  simp;try omega
 have an1:(i:Int)<(ps.length:Int)->¬(i:Int)<3:=fun h h'=>hgo ⟨by omega,by omega⟩
 have hR:(ps.take i).map y4=(ps.take 3).map y4:=by
  rcases zzaa i 3 with h|h
  ·have:ps.length<=i:=by omega
   rw[zzam this,zzam (by omega)]
  rw[show i=3 by omega]
 have hnil:i=0<->ps=[]:=by
  constructor
  ·rintro rfl;cases ps with
   |nil=>rfl
   |cons _ _=>exact absurd ⟨by simp,by omega⟩ hgo
  rintro rfl;simp at hi;exact hi
 by_cases ai:(i:Int)<(ps.length:Int)
 ·have S9:=an1 ai;obtain⟨rfl,h3v,rfl⟩|⟨h0,h3v,rfl⟩:=hO
  ·exact absurd (by omega) S9
  have aJ:ps≠[]:=fun h=>by have:=hnil.2 h;omega
  simp[h4,h3v,zU,abW,ai,S9,aJ];simpa using hR
 obtain⟨rfl,h3v,rfl⟩|⟨h0,h3v,rfl⟩:=hO
 ·have aJ:=hnil.1 rfl;simp[h4,h3v,zU,abW,aJ]
 have aJ:ps≠[]:=fun h=>by have:=hnil.2 h;omega
 simp[h4,h3v,zU,abW,ai,aJ];simpa using hR
end Go.Proofs.YtnopaopphmjnmaaGreatDoor
