import Derived.Test.YtnopaopphmjnmaaGreatDoorMBMbJ
set_option linter.all false
set_option maxRecDepth 100000
set_option maxHeartbeats 64000000
namespace Go.Proofs.YtnopaopphmjnmaaGreatDoor
open Go Go.Abs
def aZ.form{id:Nat}{B B':List (List AV)}(h:aZ (·=id) B B')(aO:id<B.length):B'=B.set id (Qh B' id)++B'.drop B.length:=by
 have hl:=h.1;apply zzci;intro j;rcases zzaa j B.length with hj|hj
 ·rw[zzah (by simpa using hj),Yz (B:=B') (by omega)];by_cases z6:j=id
  ·subst z6;rw[zzaz aO]
  rw[zzbd (by omega),Yz hj,h.2 j hj z6]
 rw[zzap (by simpa using hj),zzcg,zzbj];congr 1;omega
def Rw(Y:YT)(l:List En)(hl:l.length<=1000000000)(B:List (List AV))(L:List Nat)(st:Nat->LS)(n id:Nat)(aO:id<B.length)(aJ:l≠[])(hB:Qh B id=eG l)
  (kk:Nat)(a0 a1 a2 a3:AV)(x:Int)(r:List AV)(hkk:kk<B.length)(fL:kk≠id)(hk:Qh B kk=a0::a1::a2::a3::I x::r)(bT:Zg (a0::a1::a2::a3::I x::r)=true)(K:AV->AM->Prop)
  (hK:∀(ex:List (List AV))(z:List AV),Zg z=true->K (.bs id 0 (l.filter fun e=>!mC x e).length 7) ⟨B.set id (eG (l.filter fun e=>!mC x e)++z)++ex,L,st,n⟩):
  an Tryz.prog az Y 216 [.bs id 0 l.length 7,.fn 217 [] [.ptr kk 0]] ⟨B,L,st,n⟩ K:=
 ZG Y l hl B L st n id aO aJ hB kk a0 a1 a2 a3 x r hkk fL hk bT K fun B' z h1 h2 _ h4=>by
  have:=aZ.form h1 aO;rw[h2]at this;rw[this];exact hK _ z h4
def xK(g:Pg)(o:Od):Option Pl:=if Uz g o.en<0 then none else some {g.p with ens:=g.p.ens.filter fun e=>!mC o.en e}
def ZH(Y:YT)(m:AM)(g:Pg)(f:Int)(mid:Nat)(o:Od)(h:lP g f)(hp:A3 g.p)(K:AV->AM->Prop)
  (h0:xK g o=none->∀ex,K (.aV [.agg um,.bool false]) {m with boxes:=m.boxes++ex})
  (h1:∀q,xK g o=some q->∀ex k z,m.boxes.length<=k->k<(m.boxes++ex).length->Qh (m.boxes++ex) k=eG q.ens++z->Zg z=true->K (.aV [.agg (Xp q (.bs k 0 q.ens.length 7) (.sl .ro (q.cls.map Qg)) 0),.bool true]) {m with boxes:=m.boxes++ex}):
  an Tryz.prog az Y 139 [.agg (Qu g f mid),.agg (Qq o)] m K:=by
 obtain⟨mb,ml,ms,mn⟩:=m;have kp:=fun ex K hK=>Lo Y ⟨mb++ex,ml,ms,mn⟩ g f mid o.en h K hK;simp only[Qu,Qo,Qc,zzae,zzai]at kp;by_cases Cg:Uz g o.en<0
 ·have hx:xK g o=none:=by unfold xK;rw[if_pos Cg]
  refine Xd MO (fun _ _ _=>.gd false .junk) (by simp) ?_;simp[TH,TI,Qu,Qo,Qc,Qq,Qd,Qg,Qk];refine kp _ _ ?_;simp[Cg];have:=h0 hx;simp[um]at this;exact this _
 have hx:xK g o=some {g.p with ens:=g.p.ens.filter fun e=>!mC o.en e}:=by unfold xK;rw[if_neg Cg]
 have aJ:g.p.ens≠[]:=by
  intro e;unfold Uz at Cg;rw[e]at Cg;simp[Uq]at Cg
 have h1:=h1 _ hx;have kO:=fun ex K hK=>xH Y ⟨mb++ex,ml,ms,mn⟩ g.p hp aJ K hK;simp only[Qc]at kO;have kD:=fun B id aO hB kk a0 a1 a2 a3 r hkk fL hk bT=>Rw Y g.p.ens h.2.2.2 B ml ms mn id aO aJ hB kk a0 a1 a2 a3 o.en r hkk fL hk bT;refine Xd MO (fun _ _ _=>.gd false .junk) (by simp) ?_;simp[TH,TI,Qu,Qo,Qc,Qq,Qd,Qg,Qk];refine kp _ _ ?_;simp[Cg];refine kO _ _ fun c0 c1 bx=>?_;simp[Um,zzao];refine kD _ _ (by simp) ?_ (mb.length+1) (I o.sq) (I o.ch) (I o.fr) (I o.ki) _ (by simp) (by omega) (by simp;rfl) ?_ _ ?_
 ·simp[eG]
 ·simp[Zg,Fj]
 intro ex z hz;simp[zzao];refine⟨by omega,?_⟩;exact h1 _ (mb.length+5) z (by simp) (by simp) (by simp) hz
open Go Go.Abs
def GL(Y:YT)(l:List Cl)(h:l.length<=1000000000)(m:AM)(K:AV->AM->Prop)(hK:K (.sl (.own m.lens.length 8) (l.map Qg)) {m with lens:=m.lens++[l.length]}):an Tryz.prog az Y 129 [.sl .ro (l.map Qg)] m K:=by
 refine Xd MI (fun _ _ _=>.junk) (by simp) ?_;simp[Tz,TA];exact⟨⟨fun _ _=>rfl,by omega⟩,hK⟩
def Ja(p:Pl)(V W:AV):List AV:=[I p.ch,I p.nu,I p.de,I p.of,.sl .ro (p.sh.map Qe),I p.ep,I p.rg,I p.ln,I p.fi,.sl .ro (p.aM.map Qm),V,.sl .ro (p.bks.map Xf),W]
def xL(p:Pl):Nat->FuncId->List AV->AV:=fun d f l=>if f=129 then .gd false .junk else Kc p d f l
def ZI(Y:YT)(m:AM)(p:Pl)(h:A3 p)(hn:p.ens≠[])(K:AV->AM->Prop)
  (hK:∀c0 c1 bx,K (.agg (Ja p (.bs (m.boxes.length+2) 0 p.ens.length 7) (.sl (.own m.lens.length 8) (p.cls.map Qg)))) {m with boxes:=m.boxes++(c0::c1::(p.ens.map Qd).flatten::bx),lens:=m.lens++[p.cls.length]}):an Tryz.prog az Y 61 [.agg (Qc p)] m K:=by
 obtain⟨mb,ml,ms,mn⟩:=m;obtain⟨h1,h2,h3,h4,h5,h6⟩:=h;have k1:=pE p.sh (by omega);have k2:=pF p.aM (by omega);have k4:=pG p.bks (by omega);have hsz:=Qap (f:=Qd) (sz:=7) (fun _=>rfl) p.ens;refine Xd uC (xL p) (by simp) ?_;have aJ:p.ens.map Qd≠[]:=by simpa using hn
 simp[IF,Qc,xL,Kc,hn];refine⟨k1,k2,xA _ _ hsz (by simpa using by omega) aJ _ _ ?_⟩;simp;obtain⟨F,hF⟩:∃F,(p.ens.map Qd).flatten=F:=⟨_,rfl⟩;have Iz:F.length=p.ens.length*7:=by rw[<- hF,Wv hsz];simp
 have bT:Zg F=true:=by rw[<- hF];exact eV (fun _=>rfl) _
 have zu:∀m,F.map (bF m 4)=F:=fun m=>Zl m 3 bT;rw[hF]at hK |-
 refine Qj ez (ajC p mb ml ms mn [I 0,I 0,I 0,I 0,.sl .nil [],I 0,I 0,I 0,I 0,.sl .nil [],.sl .nil [],.sl .nil [],.sl .nil []]) (fun f _=>p.ens.length-(numOf (f 22)).toNat) ?_ ?_
 ·exact⟨0,[],by simp,by omega,by rw[hF];simp[Um]⟩
 rintro f m ⟨i,bx,f22,hi,rfl⟩;rw[hF];rcases zzaa i p.ens.length with ai|bB
 ·obtain⟨e,he⟩:=aR ai;have ah:(i:Int)<(p.ens.length:Int):=by omega
  have hw:=bJ i (by omega);obtain⟨⟨r,hd⟩,bU⟩:=kT hsz (i:=i) (row:=Qd e) (by simp[he]);rw[hF]at hd bU;simp only[Qd,zzae,zzai]at hd bU;have Gu:=Wi e (h6 e (zzac he));simp only[Qd]at Gu;simp[-setA,jJ,jK,f22,ez,ah,hd,bU,Iz,hw,xL,Kc,Um];refine⟨Gu,by omega,aN,⟨i+1,bx++[[I e.id,I e.it,I e.fr,I e.ea,I e.la,I e.bo,.sl .ro (e.al.map Qe)]],by simp,by omega,by rw[hF];simp[Um]⟩,by omega⟩
 obtain rfl:i=p.ens.length:=by omega
 simp[f22,ez,IG,xL,Kc,Um];simp[Ja]at hK;refine⟨k4,GL _ _ (by omega) _ _ ?_⟩;simp;exact hK _ _ _
def Rx(Y:YT)(m:AM)(p:Pl)(h:A3 p)(hn:p.ens=[])(K:AV->AM->Prop)
  (hK:∀c0 c1,K (.agg (Ja p (.sl .ro []) (.sl (.own m.lens.length 8) (p.cls.map Qg)))) {m with boxes:=m.boxes++[c0,c1],lens:=m.lens++[p.cls.length]}):an Tryz.prog az Y 61 [.agg (Qc p)] m K:=by
 obtain⟨mb,ml,ms,mn⟩:=m;obtain⟨h1,h2,h3,h4,h5,h6⟩:=h;have k1:=pE p.sh (by omega);have k2:=pF p.aM (by omega);have k4:=pG p.bks (by omega);have k3:=Gt;refine Xd uC (xL p) (by simp) ?_;simp[IF,Qc,xL,Kc,hn];refine⟨k1,k2,k3,?_⟩;refine Qj ez (fun f m=>f 22=I 0/\m=⟨mb++[[I p.ch,I p.nu,I p.de,I p.of,.sl .ro (p.sh.map Qe),I p.ep,I p.rg,I p.ln,I p.fi,.sl .ro (p.aM.map Qm),.sl .ro [],.sl .ro (p.bks.map Xf),.sl .ro (p.cls.map Qg)],[I 0,I 0,I 0,I 0,.sl .nil [],I 0,I 0,I 0,I 0,.sl .nil [],.sl .nil [],.sl .nil [],.sl .nil []]],ml,ms,mn⟩) (fun f _=>0) ?_ ?_
 ·exact⟨by simp,by simp⟩
 rintro f m ⟨f22,rfl⟩;simp[f22,ez,IG,xL,Kc];refine⟨k4,GL _ _ (by omega) _ _ ?_⟩;simp;simp[Ja]at hK;exact hK _ _
def C8(rt:Rt):Prop:=∀m d x,bF m (d+1) (.sl rt x)=.sl .ro x
def C8.ro:C8 .ro:=fun _ _ _=>rfl
def C8.own(k s:Nat):C8 (.own k s):=fun _ _ _=>rfl
def mD(bx:List (List AV))(V:AV)(l:List En):Prop:=(∃rt,V=.sl rt (l.map Qd)/\C8 rt)\/∃k z,V=.bs k 0 l.length 7/\k<bx.length/\Qh bx k=eG l++z/\Zg z=true
def GM(n:Nat)(V:AV):Prop:=∀k o l s,V=.bs k o l s->n<=k
def GM.sl(n:Nat)(rt:Rt)(rows:List (List AV)):GM n (.sl rt rows):=fun _ _ _ _ h=>by cases h
def GM.bs{n k o l s:Nat}(h:n<=k):GM n (.bs k o l s):=fun _ _ _ _ e=>by cases e;exact h
def C9(g:Pg)(o:Od):Pl:={g.p with cls:=g.p.cls++[o.cl]}
def ZJ(Y:YT)(m:AM)(g:Pg)(f:Int)(mid:Nat)(o:Od)(hp:A3 g.p)(K:AV->AM->Prop)
  (h1:∀ex V,mD (m.boxes++ex) V g.p.ens->GM m.boxes.length V->K (.aV [.agg (Xp (C9 g o) V (.sl (.own m.lens.length 8) ((C9 g o).cls.map Qg)) 0),.bool true]) {m with boxes:=m.boxes++ex,lens:=m.lens++[g.p.cls.length+1]}):
  an Tryz.prog az Y 135 [.agg (Qu g f mid),.agg (Qq o)] m K:=by
 obtain⟨mb,ml,ms,mn⟩:=m;have hc:=hp.2.2.2.2.1
 have aa:∀row:List AV,((∃a,a∈g.p.cls/\Qg a=row)\/row=Qg o.cl)->row.length=8:=by
  rintro row (⟨a,_,rfl⟩|rfl)<;>rfl
 simp only[C9,Xp,zzc,zzaw,zzce]at h1;by_cases aJ:g.p.ens=[]
 ·have kO:=fun ex K hK=>Rx Y ⟨mb++ex,ml,ms,mn⟩ g.p hp aJ K hK;simp only[Qc]at kO;refine Xd MM (fun _ _ l=>.gd false .junk) (by simp) ?_;simp[TD,TE,Qu,Qo,Qc,Qq,Qd,Qg,Qk];refine kO _ _ fun c0 c1=>?_;simp[Ja];refine⟨⟨aa,by omega⟩,?_⟩;exact h1 _ _ (.inl ⟨.ro,by rw[aJ];rfl,C8.ro⟩) (GM.sl _ _ _)
 have kO:=fun ex K hK=>ZI Y ⟨mb++ex,ml,ms,mn⟩ g.p hp aJ K hK;simp only[Qc]at kO;refine Xd MM (fun _ _ l=>.gd false .junk) (by simp) ?_;simp[TD,TE,Qu,Qo,Qc,Qq,Qd,Qg,Qk];refine kO _ _ fun c0 c1 bx=>?_;simp[Ja,zzao];refine⟨⟨aa,by omega⟩,?_⟩;exact h1 _ _ (.inr ⟨mb.length+5,[],rfl,by simp,by simp[eG],rfl⟩) (GM.bs (by simp))
open Go Go.Abs
def mD.ext{bx:List (List AV)}{V:AV}{l:List En}(h:mD bx V l)(ex:List (List AV)):mD (bx++ex) V l:=by
 obtain h|⟨k,z,h1,h2,h3,h4⟩:=h
 ·exact .inl h
 exact .inr ⟨k,z,h1,by simp;omega,by rw[Ql h2,h3],h4⟩
def Ry(Y:YT)(m:AM)(V:AV)(L:List En)(id:Int)(hV:mD m.boxes V L)(hl:L.length<=1000000000):an Tryz.prog az Y 203 [V,I id,.fn 204 [] []] m (fun r m'=>m'=m/\r=Ww (Zf id L)):=by
 obtain⟨mb,ml,ms,mn⟩:=m;refine an.read ?_;obtain⟨rt,rfl,aT⟩|⟨k,z,rfl,hk,hB,hz⟩:=hV
 ·refine Xd BH (fun _ f l=>if f=204 then(match l with|[.agg (c::_)]=>c|_=>.junk)else .junk) (by simp) ?_;simp[M6];refine Qj dU (fun f m=>∃(i:Nat)(bx:List (List AV)),f 13=I i/\i<=L.length/\Zf id (L.drop i)=Zf id L/\m=⟨mb++([I 0,I 0,I 0,I 0,I 0,I 0,.sl .nil []]::bx),ml,ms,mn⟩) (fun f _=>L.length-(numOf (f 13)).toNat) ?_ ?_
  ·exact⟨0,[],by simp,by omega,rfl,rfl⟩
  rintro f m ⟨i,bx,jk,hi,hf,rfl⟩;rcases zzaa i L.length with ai|bB
  ·obtain⟨x,hx⟩:=aR ai;have aa:Qh (L.map Qd) i=Qd x:=Qs (by simp[hx]);have ah:(i:Int)<(L.length:Int):=by omega
   have hw:=bJ i (by omega);have hd:L.drop i=x::L.drop (i+1):=by rw[zzaf ai,(zza.1 hx).2]
   have yU:=nO x;rw[hd,Zf]at hf;by_cases aO:x.id=id
   ·rw[if_pos aO]at hf;simp[jk,ah,aa,Qd,aO,dU,uU,<- hf,Ww];refine⟨by simpa[Qd,aO]using yU,kX⟩
   rw[if_neg aO]at hf;simp[jk,ah,aa,Qd,aO,dU,hw];refine⟨yU,aN,⟨i+1,by simp,by omega,hf⟩,by omega⟩
  rw[zzan bB]at hf;have bI:¬(i:Int)<(L.length:Int):=by omega
  simp[jk,bI,dU,uU,<- hf,Ww,Zf];exact kX
 have hR:∀ex,Qh (mb++ex) k=eG L++z:=fun ex=>by rw[Ql hk];exact hB
 refine Xd BH (fun _ f l=>if f=204 then(match l with|[.agg (c::_)]=>c|_=>.junk)else .junk) (by simp) ?_;simp[M6];refine Qj dU (fun f m=>∃(i:Nat)(bx:List (List AV)),f 13=I i/\i<=L.length/\Zf id (L.drop i)=Zf id L/\m=⟨mb++([I 0,I 0,I 0,I 0,I 0,I 0,.sl .nil []]::bx),ml,ms,mn⟩) (fun f _=>L.length-(numOf (f 13)).toNat) ?_ ?_
 ·exact⟨0,[],by simp,by omega,rfl,rfl⟩
 rintro f m ⟨i,bx,jk,hi,hf,rfl⟩;rcases zzaa i L.length with ai|bB
 ·obtain⟨x,hx⟩:=aR ai;have hg:=C7 hx
  have aa:∀ex,(Qh (mb++ex) k).drop (i*7)=I x.id::I x.it::I x.fr::I x.ea::I x.la::I x.bo::.sl .ro (x.al.map Qe)::(eG (L.drop (i+1))++z):=fun ex=>by
   rw[hR,zzdl (by rw[Ux];omega),hg];rfl
  have ah:(i:Int)<(L.length:Int):=by omega
  have hw:=bJ i (by omega);have hd:L.drop i=x::L.drop (i+1):=by rw[zzaf ai,(zza.1 hx).2]
  have yU:=nO x;rw[hd,Zf]at hf;by_cases aO:x.id=id
  ·rw[if_pos aO]at hf;simp[jk,ah,aa,Qd,aO,dU,uU,<- hf,Ww];refine⟨by simpa[Qd,aO]using yU,kX⟩
  rw[if_neg aO]at hf;simp[jk,ah,aa,aO,dU,hw];refine⟨yU,aN,⟨i+1,by simp,by omega,hf⟩,by omega⟩
 rw[zzan bB]at hf;have bI:¬(i:Int)<(L.length:Int):=by omega
 simp[jk,bI,dU,uU,<- hf,Ww,Zf];exact kX
def amJ(Y:YT)(m:AM)(V:AV)(L:List En)(id:Int)(hV:mD m.boxes V L)(hl:L.length<=1000000000)(K:AV->AM->Prop)(hK:K (Ww (Zf id L)) m):an Tryz.prog az Y 203 [V,I id,.fn 204 [] []] m K:=
 an.mono (Ry Y m V L id hV hl) (by rintro r m' ⟨rfl,rfl⟩;exact hK)
open Go Go.Abs
def nP:∀(l:List En)(z:List AV),aU 7 l.length (eG l++z)=l.map Qd
 |[],z=>rfl
 |e::r,z=>by
  have:=nP r z;simp[Qd,this]
def mD.bF{bx:List (List AV)}{V:AV}{l:List En}(h:mD bx V l)(ex:List (List AV))(ml:List Nat)(ms:Nat->LS)(mn:Nat)(d:Nat):Abs.bF ⟨bx++ex,ml,ms,mn⟩ (d+2) V=.sl .ro (l.map Qd):=by
 obtain⟨rt,rfl,aT⟩|⟨k,z,rfl,hk,hB,hz⟩:=h
 ·exact aT _ _ _
 have bT:Zg (eG l++z)=true:=by have:=Lq l;unfold Zg at this hz |-;rw[zzez,this,hz];rfl
 rw[WV,Vn,Ql hk,hB,Zl _ _ bT,if_pos (by rw[zzag,Ux];omega),zzde,nP]
def mD.cell{bx:List (List AV)}{V:AV}{l:List En}(h:mD bx V l):Qv V=true:=by
 rcases h with⟨rt,rfl,aT⟩|⟨k,z,rfl,hk,hB,hz⟩<;>rfl
def Ls(Y:YT)(m:AM)(q:Pl)(V:AV)(rt:Rt)(id:Int)(hV:mD m.boxes V q.ens)(hl:q.ens.length<=1000000000)(ha:∀e∈q.ens,e.al.length<=8796093022208):
  an Tryz.prog az Y 130 [.agg (Ja q V (.sl rt (q.cls.map Qg))),I id] m (fun r m'=>m'=m/\r=Ww (Zf id q.ens)):=by
 obtain⟨mb,ml,ms,mn⟩:=m;have hc:=hV.cell;have kf:=fun ex K hK=>amJ Y ⟨mb++ex,ml,ms,mn⟩ V q.ens id (hV.ext ex) hl K hK;refine an.read (Xd ML (fun _ f l=>if f=203 then .gd false .junk else l.headD .junk) (by simp) ?_);simp[MJ,MK,Ja,hc];refine kf _ _ ?_;cases hf:Zf id q.ens with
 |none=>
  simp[Ww];exact⟨jN,kX⟩
 |some x=>
  have hx:x∈q.ens:=by
   have:∀l:List En,Zf id l=some x->x∈l:=by
    intro l;induction l with
    |nil=>intro h;cases h
    |cons y r ih=>
     intro h;simp only[Zf]at h;split at h
     ·cases h;simp
     simp[ih h]
   exact this _ hf
  have p6:=Us x.al (ha x hx);simp[Ww,Qd];exact⟨p6,kX⟩
def Oo(Y:YT)(m:AM)(q:Pl)(V:AV)(rt:Rt)(id:Int)(hV:mD m.boxes V q.ens)(hl:q.ens.length<=1000000000)(ha:∀e∈q.ens,e.al.length<=8796093022208)(K:AV->AM->Prop)(hK:K (Ww (Zf id q.ens)) m):
  an Tryz.prog az Y 130 [.agg (Ja q V (.sl rt (q.cls.map Qg))),I id] m K:=
 an.mono (Ls Y m q V rt id hV hl ha) (by rintro r m' ⟨rfl,rfl⟩;exact hK)
def Lt(Y:YT)(m:AM)(g:Pg)(f:Int)(mid:Nat)(o:Od)(q:Pl)(V:AV)(rt:Rt)(d:Int)(hV:mD m.boxes V q.ens):
  an Tryz.prog az Y 136 [.agg (Qu g f mid),.agg (Qq o),.agg (Xp q V (.sl rt (q.cls.map Qg)) d)] m (fun r m'=>m'=m/\r=.bool true):=by
 obtain⟨mb,ml,ms,mn⟩:=m;have hc:=hV.cell;refine an.read (Xd ach (fun _ _ _=>.junk) (by simp) ?_);simp[ahd,ahe,Qu,Qo,Qc,Qq,Qd,Qg,Qk,Xp,hc];exact kX
def GN(Y:YT)(m:AM)(g:Pg)(f:Int)(mid:Nat)(b:List (Int×Bool))(o:Od)(q:Pl)(V:AV)(rt:Rt)(d:Int)(hV:mD m.boxes V q.ens)(h:lP g f)(hb:fS m.boxes mid b):
  an Tryz.prog az Y 140 [.agg (Qu g f mid),.agg (Qq o),.agg (Xp q V (.sl rt (q.cls.map Qg)) d)] m (fun r m'=>m'=m/\r=.bool !(C5 g f b o.en)):=by
 obtain⟨mb,ml,ms,mn⟩:=m;have hc:=hV.cell;have hB:∀ex,fS (mb++ex) mid b:=fun ex=>⟨by have:=hb.1;simp at this |-;omega,hb.ext ex⟩;have k:=fun ex K hK=>asd Y ⟨mb++ex,ml,ms,mn⟩ g f mid b o.en h (hB ex) K hK;simp only[Qu,Qo,Qc,zzae,zzai]at k;refine an.read (Xd acj (fun _ _ _=>.gd false .junk) (by simp) ?_);simp[ahf,ahg,Qu,Qo,Qc,Qq,Qd,Qg,Qk,Xp,hc];refine k _ _ ?_;simp;exact kX
open Go Go.Abs
def zx(x:Int):List Int->Nat->Int
 |[],_=> -1
 |a::r,i=>if x=a then i else zx x r (i+1)
def GO(x:Int):∀(L:List Int)(i:Nat),(0<=zx x L i)=(x∈L)
 |[],i=>by simp[zx]
 |a::r,i=>by
  unfold zx;by_cases h:x=a
  ·rw[if_pos h];simp[h]
  rw[if_neg h,GO x r (i+1)];simp[h]
def ZK(L:List Int)(x:Int)(hl:L.length<=1000000000):Pure Tryz.prog az 226 [.sl .ro (L.map Xa),I x] (I (zx x L 0)):=by
 refine Qn adf (fun _ _ _=>.junk) (by simp) ?_;simp[ahV];refine Qj BM (fun f m=>∃i:Nat,f 8=I i/\i<=L.length/\zx x (L.drop i) i=zx x L 0/\m=⟨[],[],fun _=>.gone,0⟩) (fun f _=>L.length-(numOf (f 8)).toNat) ?_ ?_
 ·exact⟨0,by simp,by omega,by simp,rfl⟩
 rintro f m ⟨i,f8,hi,hr,rfl⟩;rcases zzaa i L.length with ai|bB
 ·obtain⟨a,ha⟩:=aR ai;have aa:Qh (L.map Xa) i=[I a]:=Qs (by simp[ha,Xa]);have ah:(i:Int)<(L.length:Int):=by omega
  have hw:=bJ i (by omega);have hd:L.drop i=a::L.drop (i+1):=by rw[zzaf ai,(zza.1 ha).2]
  rw[hd,zx]at hr;by_cases hP:x=a
  ·rw[if_pos hP]at hr;simp[f8,BM,UE,ah,aa,hP];rw[<- hP];exact hr
  rw[if_neg hP]at hr;simp[f8,BM,ah,aa,hP,hw];refine⟨aN,⟨i+1,by simp,by omega,hr⟩,by omega⟩
 obtain rfl:i=L.length:=by omega
 rw[zzbr,zx]at hr;simp[f8,BM,UE];exact hr
def jO(L:List Int)(x:Int)(hl:L.length<=1000000000):Pure Tryz.prog az 157 [.sl .ro (L.map Xa),I x] (.bool (decide (x∈L))):=by
 have k:=ZK L x hl;refine Qn acq (fun _ _ _=>I (zx x L 0)) (by simp) ?_;simp[aho,ahp];refine⟨k,?_⟩;simp[<- GO x L 0]
def Da(e:bE)(id:Int):Pure Tryz.prog az 222 [.agg (Qf e),.ep [I id] 0] (.bool (decide (e.id=id))):=by
 refine Qn adb (fun _ _ _=>.junk) (by simp) ?_;simp[ahR,ahS,Qf];rw[zzbl];simp
def Lu(g:Pg)(id:Int):Bool:=(g.ev.find? (fun e=>decide (e.id=id))).isSome
def Db(L:List bE)(id:Int)(hl:L.length<=1000000000):Pure Tryz.prog az 221 [.sl .ro (L.map Qf),.fn 222 [] [.ep [I id] 0]] (.bool (L.find? (fun e=>decide (e.id=id))).isSome):=by
 have k:=xG L (fun e=>decide (e.id=id)) 222 [] [.ep [I id] 0] hl (fun _=>rfl) (fun _=>by simp) (fun e _=>Da e id) (fun _ _ xs=>match xs with|.agg (.int _ n::_)::_=>.bool (decide (n=id))|_=>.junk) (fun _ e _=>rfl);refine Qn ada (fun _ _ _=>I (Uq (fun e=>decide (e.id=id)) L 0)) (by simp) ?_;cases hf:L.find? (fun e=>decide (e.id=id))with
 |none=>
  rw[Qcr hf]at k |-
  simp[UC,UD];exact k
 |some e=>
  obtain⟨n,g1,_,_⟩:=Kv (i:=0) hf;rw[g1,zzbt]at k |-
  simp[UC,UD];exact k
def pM(g:Pg)(o:Od):Bool:=!Lu g o.nw.id&&(decide (Uz g o.nw.id<0)&&!decide (o.nw.id∈g.dr))
def Lv(Y:YT)(m:AM)(g:Pg)(f:Int)(mid:Nat)(o:Od)(q:Pl)(V:AV)(rt:Rt)(d:Int)(hV:mD m.boxes V q.ens)(h:lP g f)(hd:g.dr.length<=1000000000):
  an Tryz.prog az Y 142 [.agg (Qu g f mid),.agg (Qq o),.agg (Xp q V (.sl rt (q.cls.map Qg)) d)] m (fun r m'=>m'=m/\r=.bool (pM g o)):=by
 obtain⟨mb,ml,ms,mn⟩:=m;have hc:=hV.cell;have k:=fun ex K hK=>Lo Y ⟨mb++ex,ml,ms,mn⟩ g f mid o.nw.id h K hK;simp only[Qu,Qo,Qc,zzae,zzai]at k;have k1:=Db g.ev o.nw.id h.1;have k2:=jO g.dr o.nw.id hd;refine an.read (Xd ack (fun _ f _=>if f=221 then .bool (Lu g o.nw.id)else if f=157 then .bool (decide (o.nw.id∈g.dr))else .gd false .junk) (by simp) ?_);cases hh:Lu g o.nw.id with
 |true=>
  unfold Lu at hh;rw[hh]at k1;simp[TL,TM,Qu,Qo,Qc,Qq,Qd,Qg,Qk,Xp,hc,pM,Lu,hh];exact⟨k1,kX⟩
 |false=>
  unfold Lu at hh;rw[hh]at k1;simp[TL,TM,Qu,Qo,Qc,Qq,Qd,Qg,Qk,Xp,hc,pM,Lu,hh];refine⟨k1,k _ _ ?_⟩;by_cases hp:Uz g o.nw.id<0
  ·simp[hp];exact⟨k2,kX⟩
  simp[hp];exact kX
open Go Go.Abs
def xM:En:=⟨0,0,0,0,0,0,[]⟩
def Qbr(g:Pg)(f:Int)(b:List (Int×Bool))(o:Od)(q:Pl)(d:Int):Bool:=
 if C5 g f b o.en=true then false
 else if o.en∈g.dr then false
 else if d<1 then false
 else match Xh ((Zf o.en q.ens).getD xM).it q.aM with
  |none=>false
  |some x=>if x.ki≠4 then false
   else match A6 g f b o.en with
    |none=>true
    |some st=>if q.ln-d<st then false else if st+d-f=0 then true else Xw q ((Zf o.en q.ens).getD xM).it 0 f (st+d-f)
def GP(g:Pg)(F:Int)(b:List (Int×Bool))(o:Od)(q:Pl)(d:Int):Nat->FuncId->List AV->AV:=fun _ f _=>if f=157 then .bool (decide (o.en∈g.dr))else if f=30 then .bool (Xw q ((Zf o.en q.ens).getD xM).it 0 F ((A6 g F b o.en).getD 0+d-F))else .gd false .junk
def Rz(Y:YT)(m:AM)(q:Pl)(V:AV)(rt:Rt)(id:Int)(hc:Qv V=true)(hl:q.aM.length<=1000000000):
  an Tryz.prog az Y 29 [.agg (Ja q V (.sl rt (q.cls.map Qg))),I id] m (fun r m'=>m'=m/\r=Zp (Xh id q.aM)):=by
 obtain⟨mb,ml,ms,mn⟩:=m;have h:=xN q.aM id hl;refine an.read (Xd Th (fun _ f l=>if f=55 then Zp (Xh id q.aM)else .junk) (by simp) ?_);cases hf:Xh id q.aM with
 |none=>
  rw[hf]at h;simp[Tf,Tg,Ja,hc,Zp];exact⟨h,kX⟩
 |some x=>
  rw[hf]at h;simp[Tf,Tg,Ja,hc,Zp,Qm];exact⟨h,kX⟩
def amK(Y:YT)(m:AM)(q:Pl)(V:AV)(rt:Rt)(id:Int)(hc:Qv V=true)(hl:q.aM.length<=1000000000)(K:AV->AM->Prop)(hK:K (Zp (Xh id q.aM)) m):
  an Tryz.prog az Y 29 [.agg (Ja q V (.sl rt (q.cls.map Qg))),I id] m K:=
 an.mono (Rz Y m q V rt id hc hl) (by rintro r m' ⟨rfl,rfl⟩;exact hK)
def rtE:Option En->Rt
 |none=>.nil
 |some _=>.ro
def GQ(o:Option En):Ww o=.aV [.agg [I (o.getD xM).id,I (o.getD xM).it,I (o.getD xM).fr,I (o.getD xM).ea,I (o.getD xM).la,I (o.getD xM).bo,.sl (rtE o) ((o.getD xM).al.map Qe)],.bool o.isSome]:=by
 cases o<;>rfl
def Lw(Y:YT)(m:AM)(g:Pg)(f:Int)(mid:Nat)(b:List (Int×Bool))(o:Od)(q:Pl)(V:AV)(rt:Rt)(d:Int)(hV:mD m.boxes V q.ens)(aT:C8 rt)(h:lP g f)(hb:fS m.boxes mid b)(dX:g.dr.length<=1000000000)(hq:A3 q)(dm:0<=q.ln/\q.ln<=1000000)(hd:sF d):
  an Tryz.prog az Y 138 [.agg (Qu g f mid),.agg (Qq o),.agg (Xp q V (.sl rt (q.cls.map Qg)) d)] m (fun r m'=>m'=m/\r=.bool (Qbr g f b o q d)):=by
 obtain⟨mb,ml,ms,mn⟩:=m;obtain⟨q1,q2,q3,q4,q5,q6⟩:=hq;have hc:=hV.cell;have hB:∀ex,fS (mb++ex) mid b:=fun ex=>⟨by have:=hb.1;simp at this |-;omega,hb.ext ex⟩;have ke:=fun ex K hK=>asd Y ⟨mb++ex,ml,ms,mn⟩ g f mid b o.en h (hB ex) K hK;have ki:=fun ex K hK=>amI Y ⟨mb++ex,ml,ms,mn⟩ g f mid b o.en h (hB ex) K hK;have kn:=fun ex K hK=>Oo Y ⟨mb++ex,ml,ms,mn⟩ q V rt o.en (hV.ext ex) (by omega) q6 K hK;simp only[Qu,Qo,Qc,Ja,zzae,zzai]at ke ki kn;have k2:=jO g.dr o.en dX;have fu:=fun ex d=>hV.bF ex ml ms mn d;refine an.read (Xd aci (GP g f b o q d) (by simp) ?_);cases he:C5 g f b o.en with
 |true=>
  simp[Ee,Ef,Qu,Qo,Qc,Qq,Qd,Qg,Qk,Xp,hc,Qbr,he,GP];refine ke _ _ ?_;simp[he];exact kX
 |false=>
  by_cases hm:o.en∈g.dr
  ·simp[Ee,Ef,Qu,Qo,Qc,Qq,Qd,Qg,Qk,Xp,hc,Qbr,he,hm,GP];refine ke _ _ ?_;simp[he,hm]at k2 |-
   exact⟨k2,kX⟩
  by_cases hd1:d<1
  ·simp[Ee,Ef,Qu,Qo,Qc,Qq,Qd,Qg,Qk,Xp,hc,Qbr,he,hm,hd1,GP];refine ke _ _ ?_;simp[he,hm,hd1]at k2 |-
   exact⟨k2,kX⟩
  simp[Ee,Ef,Qu,Qo,Qc,Qq,Qd,Qg,Qk,Xp,hc,Qbr,he,hm,hd1,GP];refine ke _ _ ?_;simp[he,hm,hd1]at k2 |-
  refine⟨k2,kn _ _ ?_⟩;obtain⟨e,hE⟩:∃e,(Zf o.en q.ens).getD xM=e:=⟨_,rfl⟩;have kt:=fun ex K hK=>amK Y ⟨mb++ex,ml,ms,mn⟩ q V rt e.it hc (by omega) K hK;simp only[Ja]at kt;rw[GQ];generalize rtE (Zf o.en q.ens)=r7;generalize(Zf o.en q.ens).isSome=b7;rw[hE];obtain⟨X,hX⟩:∃X,Xh e.it q.aM=X:=⟨_,rfl⟩;have w0:IntKind.i64.wrap 0=0:=by decide
  simp;refine kt _ _ ?_;cases X with
  |none=>
   simp[hX,Zp];exact .bool _
  |some x=>
   by_cases fL:x.ki=4
   ·have KP:=Qdw q e.it 0 f ((A6 g f b o.en).getD 0+d-f) q5 (by omega) (by omega);simp only[Qc]at KP
    have sd:∀st,A6 g f b o.en=some st->0<=st/\st<=1000000:=fun st hh=>by
     unfold A6 at hh;split at hh
     ·cases hh
     split at hh
     ·cases hh;exact C6 h _
     cases hh
    have hfs:=h.2.2.1;unfold nM at hfs;unfold sF at hd;simp[hX,Zp,Qm,fL];refine ki _ _ ?_;cases hi:A6 g f b o.en with
    |none=>
     simp[Rq];exact .bool _
    |some st=>
     have lK:=sd st hi;have w1:IntKind.i64.wrap (q.ln-d)=q.ln-d:=by rw[Qi]<;>omega
     rw[hi]at KP;by_cases tc:q.ln-d<st
     ·simp[Rq,w1,tc];exact .bool _
     have w2:IntKind.i64.wrap (st+d)=st+d:=by rw[Qi]<;>omega
     have w3:IntKind.i64.wrap (st+d-f)=st+d-f:=by rw[Qi]<;>omega
     by_cases hz:st+d-f=0
     ·simp[Rq,w1,tc,w2,hz,w0];exact .bool _
     simp[Rq,w1,tc,w2,w3,hz,fu,aT _ _ _];exact⟨by simpa using KP,.bool _⟩
   simp[hX,Zp,Qm,fL];exact .bool _
open Go Go.Abs
def Yd(f:Int):List bE->List (Int×Bool)->List (Int×Bool)
 |[],b=>b
 |e::r,b=>Yd f r (if e.st<f then Zx e.id true b else b)
def moZ:List AV:=[I 0,I 0,I 0,I 0,.sl .nil [],I 0,I 0,I 0,I 0,.sl .nil [],.sl .nil [],.sl .nil [],.sl .nil [],.sl .nil [],.sl .nil [],I 0,.sl .nil [],I 0,I 0,.nilv false]
def A9(k:Int)(v:Bool):∀l:List (Int×Bool),(Zx k v l).length<=l.length+1
 |[]=>by simp[Zx]
 |x::r=>by
  unfold Zx;split
  ·simp
  have:=A9 k v r;simp;omega
open Go Go.Abs
def gR(c:Cue):Bool->List Cue->List Cue
 |p,[]=>if p=true then[c]else[]
 |p,x::r=>if x.id=c.id then gR c p r else if p=true/\c.id<x.id then c::x::gR c false r else x::gR c p r
def aww(o:List Cue)(v:AV)(ls:List Nat):Prop:=(o=[]/\v=.sl .nil []/\ls=[])\/(o≠[]/\v=.sl (.own 0 5) (o.map Qk)/\ls=[o.length])
def mE(c:Cue)(l:List Cue):AV:=
 if Wy c=true then
  (if 200<(gR c (!decide (c.to=0)) l).length then .aV [.sl .nil [],I 150]
  else .aV [.sl (if gR c (!decide (c.to=0)) l=[]then .nil else .ro) ((gR c (!decide (c.to=0)) l).map Qk),I 0])
 else .aV [.sl .nil [],I 150]
def asi(c:Cue)(l:List Cue)(f:Nat->AV)(m:AM):Prop:=
 ∃(i:Nat)(p:Bool)(o:List Cue)(bx:List (List AV))(ls:List Nat),f 18=I i/\f 7=.bool p/\i<=l.length/\o++gR c p (l.drop i)=gR c (!decide (c.to=0)) l/\aww o (f 6) ls/\o.length<=2*i/\
  m=⟨Qk c::bx,ls,fun _=>.gone,0⟩
def RA(l:List Cue)(c:Cue)(hl:l.length<=1000000):Pure Tryz.prog az 69 [.sl .ro (l.map Qk),.agg (Qk c)] (mE c l):=by
 have cv:=sD c;refine Qn akS (fun _ f _=>if f=84 then .bool (Wy c)else .junk) (by simp) ?_;cases hc:Wy c with
 |false=>
  rw[hc]at cv;simp[aby,D6,Qk,mE,hc];exact cv
 |true=>
  rw[hc]at cv;simp[aby,Qk];refine⟨cv,?_⟩;refine Qj eR (asi c l) (fun f _=>l.length-(numOf (f 18)).toNat) ?_ ?_
  ·refine⟨0,!decide (c.to=0),[],[],[],by simp,?_,by omega,by simp,.inl ⟨rfl,by simp,rfl⟩,by simp,by simp[Qk]⟩;simp;try(rw[zzbl];simp)
  rintro f m ⟨i,p,o,bx,ls,h18,h7,hi,hR,hO,Fv,rfl⟩;rcases zzaa i l.length with ai|bB
  ·obtain⟨x,hx⟩:=aR ai;have aa:Qh (l.map Qk) i=Qk x:=Qs (by simp[hx]);have ah:(i:Int)<(l.length:Int):=by omega
   have hw:=bJ i (by omega);have hd:l.drop i=x::l.drop (i+1):=by rw[zzaf ai,(zza.1 hx).2]
   rw[hd,gR]at hR;by_cases aO:x.id=c.id
   ·rw[if_pos aO]at hR;simp[h18,h7,eR,ah,aa,hw,Qk,aO];refine⟨aN,⟨i+1,p,o,bx++[Qk x],ls,by simp,by simp,by omega,hR,by simpa using hO,by omega,by simp[Qk,aO]⟩,by omega⟩
   rw[if_neg aO]at hR
   have NX:∀(z:List Cue)(row:List AV),((∃a,a∈z/\Qk a=row)\/row=Qk c\/row=Qk x)->row.length=5:=by
    rintro z row (⟨a,_,rfl⟩|rfl|rfl)<;>rfl
   by_cases hp:p=true/\c.id<x.id
   ·rw[if_pos hp]at hR;obtain⟨rfl,hp⟩:=hp;obtain⟨rfl,h6,rfl⟩|⟨ho,h6,rfl⟩:=hO
    ·simp[h18,h7,h6,eR,ah,aa,hw,Qk,aO,hp];refine⟨aN,⟨i+1,false,[c,x],bx++[Qk x],[2],by simp,by simp,by omega,by simpa using hR,.inr ⟨by simp,by simp[Qk],rfl⟩,by simp;omega,by simp[Qk]⟩,by omega⟩
    simp[h18,h7,h6,eR,ah,aa,hw,Qk,aO,hp];refine⟨⟨by rintro row (⟨a,_,rfl⟩|rfl)<;>rfl,by omega⟩,⟨by rintro row (⟨a,_,rfl⟩|rfl|rfl)<;>rfl,by omega⟩,ag ?_,⟨i+1,false,o++[c,x],bx++[Qk x],[o.length+2],by simp,by simp,by omega,by simpa using hR,.inr ⟨by simp,by simp[Qk],by simp⟩,by simp;omega,by simp[Qk]⟩,by omega⟩;repeat(first|exact Qa _ _|refine Qb _ rfl ?_)
   rw[if_neg hp]at hR;obtain⟨rfl,h6,rfl⟩|⟨ho,h6,rfl⟩:=hO
   ·cases p with
    |false=>
     simp[h18,h7,h6,eR,ah,aa,hw,Qk,aO];refine⟨aN,⟨i+1,false,[x],bx++[Qk x],[1],by simp,by simp,by omega,by simpa using hR,.inr ⟨by simp,by simp[Qk],rfl⟩,by simp;omega,by simp[Qk]⟩,by omega⟩
    |true=>
     have V0:¬c.id<x.id:=fun h=>hp ⟨rfl,h⟩;simp[h18,h7,h6,eR,ah,aa,hw,Qk,aO,V0];refine⟨aN,⟨i+1,true,[x],bx++[Qk x],[1],by simp,by simp,by omega,by simpa using hR,.inr ⟨by simp,by simp[Qk],rfl⟩,by simp;omega,by simp[Qk]⟩,by omega⟩
   cases p with
   |false=>
    simp[h18,h7,h6,eR,ah,aa,hw,Qk,aO];refine⟨⟨by rintro row (⟨a,_,rfl⟩|rfl)<;>rfl,by omega⟩,ag ?_,⟨i+1,false,o++[x],bx++[Qk x],[o.length+1],by simp,by simp,by omega,by simpa using hR,.inr ⟨by simp,by simp[Qk],by simp⟩,by simp;omega,by simp[Qk]⟩,by omega⟩;repeat(first|exact Qa _ _|refine Qb _ rfl ?_)
   |true=>
    have V0:¬c.id<x.id:=fun h=>hp ⟨rfl,h⟩;simp[h18,h7,h6,eR,ah,aa,hw,Qk,aO,V0];refine⟨⟨by rintro row (⟨a,_,rfl⟩|rfl)<;>rfl,by omega⟩,ag ?_,⟨i+1,true,o++[x],bx++[Qk x],[o.length+1],by simp,by simp,by omega,by simpa using hR,.inr ⟨by simp,by simp[Qk],by simp⟩,by simp;omega,by simp[Qk]⟩,by omega⟩;repeat(first|exact Qa _ _|refine Qb _ rfl ?_)
  obtain rfl:i=l.length:=by omega
  rw[zzbr,gR]at hR;obtain⟨rfl,h6,rfl⟩|⟨ho,h6,rfl⟩:=hO
  ·cases p with
   |false=>
    simp at hR;simp[h18,h7,h6,eR,D6,Qk,mE,hc,hR]
   |true=>
    simp at hR;simp[h18,h7,h6,eR,D6,Qk,mE,hc,<- hR]
  cases p with
  |false=>
   simp at hR;by_cases hb:200<o.length
   ·have cK:(200:Int)<(o.length:Int):=by omega
    simp[h18,h7,h6,eR,D6,Qk,mE,hc,<- hR,hb,cK]
   have cK:¬(200:Int)<(o.length:Int):=by omega
   simp[h18,h7,h6,eR,D6,Qk,mE,hc,<- hR,hb,cK,ho]
  |true=>
   simp at hR;have aH:(o++[c]).length=o.length+1:=by simp
   by_cases hb:200<o.length+1
   ·have cK:(200:Int)<(o.length:Int)+1:=by omega
    simp[h18,h7,h6,eR,D6,Qk,mE,hc,<- hR,hb,cK];exact⟨by rintro row (⟨a,_,rfl⟩|rfl)<;>rfl,by omega⟩
   have cK:¬(200:Int)<(o.length:Int)+1:=by omega
   simp[h18,h7,h6,eR,D6,Qk,mE,hc,<- hR,hb,cK,ho];exact⟨by rintro row (⟨a,_,rfl⟩|rfl)<;>rfl,by omega⟩
open Go Go.Abs
def IA(p:Pl):Pl:={p with sh:=p.sh.take 10,aM:=p.aM.take 20,bks:=p.bks.take 8,cls:=p.cls.take 20,ens:=p.ens.take 10,ln:=if 600<p.ln then 600 else p.ln}
def kY{α:Type}(l:List α)(n:Nat):l.take (if(n:Int)<(l.length:Int)then(n:Int)else(l.length:Int)).toNat=l.take n:=by
 split
 ·simp
 rw[zzam (by simp),zzam (by omega)]
def xO{a:Nat}(n:Nat):(if(n:Int)<(a:Int)then(n:Int)else(a:Int))<=a:=by split<;>omega
def xP{a:Nat}(n:Nat):0<=(if(n:Int)<(a:Int)then(n:Int)else(a:Int)):=by split<;>omega
def xQ(p:Pl):Pure Tryz.prog az 28 [.agg (Qc p)] (.agg (Qc (IA p))):=by
 have t1:=kY (p.sh.map Qe) 10;have t2:=kY (p.aM.map Qm) 20;have t3:=kY (p.bks.map Xf) 8;have t4:=kY (p.cls.map Qg) 20;have t5:=kY (p.ens.map Qd) 10;simp only[zzbe]at t1 t2 t3 t4 t5;have a1:=xO (a:=p.sh.length) 10;have a2:=xO (a:=p.aM.length) 20;have a3:=xO (a:=p.bks.length) 8;have a4:=xO (a:=p.cls.length) 20;have a5:=xO (a:=p.ens.length) 10;have b1:=xP (a:=p.sh.length) 10;have b2:=xP (a:=p.aM.length) 20;have b3:=xP (a:=p.bks.length) 8;have b4:=xP (a:=p.cls.length) 20;have b5:=xP (a:=p.ens.length) 10;simp at a1 a2 a3 a4 a5 b1 b2 b3 b4 b5 t1 t2 t3 t4 t5;refine Qn akk (fun _ _ _=>.junk) (by simp) ?_;simp[aop,aoq,Qc,IA,t1,t2,t3,t4,t5,a1,a2,a3,a4,a5,b1,b2,b3,b4,b5];exact⟨by rintro row a b _ rfl;rfl,fun _ _=>rfl,fun _ _=>rfl,fun _ _=>rfl,fun _ _=>rfl⟩
open Go Go.Abs
def yQ(p:Pl):List AV:=Qc (IA p)
def amL:List AV->AV
 |[.agg [a0,a1,a2,a3,.sl _ sh,a5,a6,.int _ ln,a8,.sl _ aM,.sl _ ens,.sl _ bks,.sl _ cls]]=>.agg [a0,a1,a2,a3,.sl .ro (sh.take 10),a5,a6,I (if 600<ln then 600 else ln),a8,.sl .ro (aM.take 20),.sl .ro (ens.take 10),.sl .ro (bks.take 8),.sl .ro (cls.take 20)]
 |_=>.junk
def afw(p:Pl):amL [.agg (Qc p)]=.agg (yQ p):=by simp[amL,Qc,yQ,IA,List.map_take]
def awx(ps:List Pl)(i:Nat)(v:AV)(ls:List Nat):Prop:=(i=0/\v=.sl .nil []/\ls=[])\/(0<i/\v=.sl (.own 0 13) ((ps.take i).map yQ)/\ls=[i])
def asj(ps:List Pl)(f:Nat->AV)(m:AM):Prop:=
 ∃(i:Nat)(ls:List Nat),f 4=I i/\i<=ps.length/\i<=3/\awx ps i (f 3) ls/\m=⟨[],ls,fun _=>.gone,0⟩
def GR(ps:List Pl):Pure Tryz.prog az 12 [.sl .ro (ps.map Qc)] (.sl (if ps=[]then .nil else .ro) ((ps.take 3).map yQ)):=by
 refine Qn aka (fun _ f l=>if f=28 then amL l else .junk) (by simp) ?_;simp[aj9];refine Qj zJ (asj ps) (fun f _=>ps.length-(numOf (f 4)).toNat) ?_ ?_
 ·exact⟨0,[],by simp,by omega,by omega,.inl ⟨rfl,by simp,rfl⟩,rfl⟩
 rintro f m ⟨i,ls,h4,hi,h3,hO,rfl⟩;by_cases hgo:i<ps.length/\i<3
 ·obtain⟨ai,hi3⟩:=hgo;obtain⟨p,hp⟩:=aR ai;have aa:Qh (ps.map Qc) i=Qc p:=Qs (by simp[hp]);have ah:(i:Int)<(ps.length:Int):=by omega
  have awy:(i:Int)<3:=by omega
  have hw:=bJ i (by omega);have k:=xQ p;have hc:=afw p;have bz:(ps.take (i+1)).map yQ=(ps.take i).map yQ++[yQ p]:=by rw[zzar,hp];simp
  have aH:((ps.take i).map yQ).length=i:=by simp;omega
  rw[show(.agg (Qc (IA p)):AV)=.agg (yQ p)from rfl]at k;have jk:(yQ p).length=13:=rfl;have ZL:(yQ p).all Qv=true:=rfl;simp only[yQ,Qc]at k hc;have w1:IntKind.i64.wrap 1=1:=by decide
  have NX:∀row:List AV,row∈List.take i (List.map yQ ps)\/row=yQ p->row.length=13:=by
   rintro row (hm|rfl)
   ·obtain⟨a,_,rfl⟩:=zzay.1 (zzbx hm);rfl
   rfl
  have axE:List.take (i+1) (List.map yQ ps)=List.take i (List.map yQ ps)++[yQ p]:=by simpa using bz
  obtain⟨rfl,h3v,rfl⟩|⟨h0,h3v,rfl⟩:=hO
  ·simp[h4,h3v,zJ,ai,aa,Qc,hc,w1];refine⟨k,aN,⟨1,[1],by simp,by omega,by omega,.inr ⟨by omega,?_,rfl⟩,rfl⟩,by omega⟩
   ·rw[bz];simp[yQ,Qc]
  simp[h4,h3v,zJ,ah,awy,aa,hw,Qc,hc];refine⟨k,⟨by omega,NX,by omega⟩,aN,⟨i+1,[i+1],by simp,by omega,by omega,.inr ⟨by omega,?_,by simp⟩,?_⟩,by omega⟩
  ·rw[bz];simp[yQ,Qc]
  simp;try omega
 have amM:(i:Int)<(ps.length:Int)->¬(i:Int)<3:=fun h h'=>hgo ⟨by omega,by omega⟩
 have hR:(ps.take i).map yQ=(ps.take 3).map yQ:=by
  rcases zzaa i 3 with h|h
  ·have:ps.length<=i:=by omega
   rw[zzam this,zzam (by omega)]
  rw[show i=3 by omega]
 have hnil:i=0<->ps=[]:=by
  constructor
  ·rintro rfl;cases ps with
   |nil=>rfl
   |cons _ _=>exact absurd ⟨by simp,by omega⟩ hgo
  rintro rfl;simp at hi;exact hi
 by_cases ai:(i:Int)<(ps.length:Int)
 ·have SM:=amM ai;obtain⟨rfl,h3v,rfl⟩|⟨h0,h3v,rfl⟩:=hO
  ·exact absurd (by omega) SM
  have aJ:ps≠[]:=fun h=>by have:=hnil.2 h;omega
  simp[h4,h3v,zJ,abp,ai,SM,aJ];simpa using hR
 obtain⟨rfl,h3v,rfl⟩|⟨h0,h3v,rfl⟩:=hO
 ·have aJ:=hnil.1 rfl;simp[h4,h3v,zJ,abp,aJ]
 have aJ:ps≠[]:=fun h=>by have:=hnil.2 h;omega
 simp[h4,h3v,zJ,abp,ai,aJ];simpa using hR
end Go.Proofs.YtnopaopphmjnmaaGreatDoor
