import Derived.Test.YtnopaopphmjnmaaGreatDoorMEMbJ
set_option linter.all false
set_option maxRecDepth 100000
set_option maxHeartbeats 64000000
namespace Go.Proofs.YtnopaopphmjnmaaGreatDoor
open Go Go.Abs
def bh.form{id:Nat}{B B':List (List AV)}(h:bh (·=id) B B')(aN:id<B.length):B'=B.set id (Qh B' id)++B'.drop B.length:=by
 have hl:=h.1;apply zzck;intro j;rcases zzaa j B.length with hj|hj
 ·rw[zzag (by simpa using hj),Ug (B:=B') (by omega)];by_cases Au:j=id
  ·subst Au;rw[zzaz aN]
  rw[zzbe (by omega),Ug hj,h.2 j hj Au]
 rw[zzan (by simpa using hj),zzca,zzbk];congr 1;omega
def RZ(Y:YT)(l:List En)(hl:l.length<=1000000000)(B:List (List AV))(L:List Nat)(st:Nat->LS)(n id:Nat)(aN:id<B.length)(aK:l≠[])(hB:Qh B id=eT l)
  (kk:Nat)(a0 a1 a2 a3:AV)(x:Int)(r:List AV)(hkk:kk<B.length)(fH:kk≠id)(hk:Qh B kk=a0::a1::a2::a3::I x::r)(bV:Zg (a0::a1::a2::a3::I x::r)=true)(K:AV->AM->Prop)
  (hK:∀(ex:List (List AV))(z:List AV),Zg z=true->K (.bs id 0 (l.filter fun e=>!mX x e).length 7) ⟨B.set id (eT (l.filter fun e=>!mX x e)++z)++ex,L,st,n⟩):
  an Tryz.prog az Y 216 [.bs id 0 l.length 7,.fn 217 [] [.ptr kk 0]] ⟨B,L,st,n⟩ K:=
 ZZ Y l hl B L st n id aN aK hB kk a0 a1 a2 a3 x r hkk fH hk bV K fun B' z h1 h2 _ h4=>by
  have:=bh.form h1 aN;rw[h2]at this;rw[this];exact hK _ z h4
def yq(g:Pg)(o:Od):Option Pl:=if Ji g o.en<0 then none else some {g.p with ens:=g.p.ens.filter fun e=>!mX o.en e}
def Z0(Y:YT)(m:AM)(g:Pg)(f:Int)(mid:Nat)(o:Od)(h:mq g f)(hp:Bn g.p)(K:AV->AM->Prop)
  (h0:yq g o=none->∀ex,K (.aW [.agg uV,.bool false]) {m with boxes:=m.boxes++ex})
  (h1:∀q,yq g o=some q->∀ex k z,m.boxes.length<=k->k<(m.boxes++ex).length->Qh (m.boxes++ex) k=eT q.ens++z->Zg z=true->K (.aW [.agg (Xp q (.bs k 0 q.ens.length 7) (.sl .ro (q.cls.map Qg)) 0),.bool true]) {m with boxes:=m.boxes++ex}):
  an Tryz.prog az Y 139 [.agg (Qu g f mid),.agg (Qq o)] m K:=by
 obtain⟨mb,ml,ms,mn⟩:=m;have kp:=fun ex K hK=>LO Y ⟨mb++ex,ml,ms,mn⟩ g f mid o.en h K hK;simp only[Qu,Qo,Qc,zzae,zzaj]at kp;by_cases CI:Ji g o.en<0
 ·have hx:yq g o=none:=by unfold yq;rw[if_pos CI]
  refine Xe Nk (fun _ _ _=>.gd false .junk) (by simp) ?_;simp[T6,T7,Qu,Qo,Qc,Qq,Qd,Qg,Qi];refine kp _ _ ?_;simp[CI];have:=h0 hx;simp[uV]at this;exact this _
 have hx:yq g o=some {g.p with ens:=g.p.ens.filter fun e=>!mX o.en e}:=by unfold yq;rw[if_neg CI]
 have aK:g.p.ens≠[]:=by
  intro e;unfold Ji at CI;rw[e]at CI;simp[Ux]at CI
 have h1:=h1 _ hx;have kO:=fun ex K hK=>ym Y ⟨mb++ex,ml,ms,mn⟩ g.p hp aK K hK;simp only[Qc]at kO;have kD:=fun B id aN hB kk a0 a1 a2 a3 r hkk fH hk bV=>RZ Y g.p.ens h.2.2.2 B ml ms mn id aN aK hB kk a0 a1 a2 a3 o.en r hkk fH hk bV;refine Xe Nk (fun _ _ _=>.gd false .junk) (by simp) ?_;simp[T6,T7,Qu,Qo,Qc,Qq,Qd,Qg,Qi];refine kp _ _ ?_;simp[CI];refine kO _ _ fun c0 c1 bx=>?_;simp[Uu,zzam];refine kD _ _ (by simp) ?_ (mb.length+1) (I o.sq) (I o.ch) (I o.fr) (I o.ki) _ (by simp) (by omega) (by simp;rfl) ?_ _ ?_
 ·simp[eT]
 ·simp[Zg,FD]
 intro ex z hz;simp[zzam];refine⟨by omega,?_⟩;exact h1 _ (mb.length+5) z (by simp) (by simp) (by simp) hz
open Go Go.Abs
def G7(Y:YT)(l:List Cl)(h:l.length<=1000000000)(m:AM)(K:AV->AM->Prop)(hK:K (.sl (.own m.lens.length 8) (l.map Qg)) {m with lens:=m.lens++[l.length]}):an Tryz.prog az Y 129 [.sl .ro (l.map Qg)] m K:=by
 refine Xe Nd (fun _ _ _=>.junk) (by simp) ?_;simp[TW,TX];exact⟨⟨fun _ _=>rfl,by omega⟩,hK⟩
def Jj(p:Pl)(V W:AV):List AV:=[I p.ch,I p.nu,I p.de,I p.of,.sl .ro (p.sh.map Qe),I p.ep,I p.rg,I p.ln,I p.fi,.sl .ro (p.aM.map Qm),V,.sl .ro (p.bks.map Xh),W]
def yt(p:Pl):Nat->FuncId->List AV->AV:=fun d f l=>if f=129 then .gd false .junk else Kl p d f l
def Z1(Y:YT)(m:AM)(p:Pl)(h:Bn p)(hn:p.ens≠[])(K:AV->AM->Prop)
  (hK:∀c0 c1 bx,K (.agg (Jj p (.bs (m.boxes.length+2) 0 p.ens.length 7) (.sl (.own m.lens.length 8) (p.cls.map Qg)))) {m with boxes:=m.boxes++(c0::c1::(p.ens.map Qd).flatten::bx),lens:=m.lens++[p.cls.length]}):an Tryz.prog az Y 61 [.agg (Qc p)] m K:=by
 obtain⟨mb,ml,ms,mn⟩:=m;obtain⟨h1,h2,h3,h4,h5,h6⟩:=h;have k1:=pX p.sh (by omega);have k2:=pY p.aM (by omega);have k4:=pZ p.bks (by omega);have hsz:=Qbb (f:=Qd) (sz:=7) (fun _=>rfl) p.ens;refine Xe vf (yt p) (by simp) ?_;have aK:p.ens.map Qd≠[]:=by simpa using hn
 simp[I7,Qc,yt,Kl,hn];refine⟨k1,k2,yc _ _ hsz (by simpa using by omega) aK _ _ ?_⟩;simp;obtain⟨F,hF⟩:∃F,(p.ens.map Qd).flatten=F:=⟨_,rfl⟩;have I1:F.length=p.ens.length*7:=by rw[<- hF,Qad hsz];simp
 have bV:Zg F=true:=by rw[<- hF];exact fu (fun _=>rfl) _
 have zW:∀m,F.map (bF m 4)=F:=fun m=>Zm m 3 bV;rw[hF]at hK |-
 refine Qj eH (aj1 p mb ml ms mn [I 0,I 0,I 0,I 0,.sl .nil [],I 0,I 0,I 0,I 0,.sl .nil [],.sl .nil [],.sl .nil [],.sl .nil []]) (fun f _=>p.ens.length-(numOf (f 22)).toNat) ?_ ?_
 ·exact⟨0,[],by simp,by omega,by rw[hF];simp[Uu]⟩
 rintro f m ⟨i,bx,f22,hi,rfl⟩;rw[hF];rcases zzaa i p.ens.length with ai|bu
 ·obtain⟨e,he⟩:=aR ai;have aa:(i:Int)<(p.ens.length:Int):=by omega
  have hw:=bK i (by omega);obtain⟨⟨r,hd⟩,cm⟩:=lF hsz (i:=i) (row:=Qd e) (by simp[he]);rw[hF]at hd cm;simp only[Qd,zzae,zzaj]at hd cm;have GO:=Wq e (h6 e (zzac he));simp only[Qd]at GO;simp[-setA,jY,jZ,f22,eH,aa,hd,cm,I1,hw,yt,Kl,Uu];refine⟨GO,by omega,aO,⟨i+1,bx++[[I e.id,I e.it,I e.fr,I e.ea,I e.la,I e.bo,.sl .ro (e.al.map Qe)]],by simp,by omega,by rw[hF];simp[Uu]⟩,by omega⟩
 obtain rfl:i=p.ens.length:=by omega
 simp[f22,eH,I8,yt,Kl,Uu];simp[Jj]at hK;refine⟨k4,G7 _ _ (by omega) _ _ ?_⟩;simp;exact hK _ _ _
def R2(Y:YT)(m:AM)(p:Pl)(h:Bn p)(hn:p.ens=[])(K:AV->AM->Prop)
  (hK:∀c0 c1,K (.agg (Jj p (.sl .ro []) (.sl (.own m.lens.length 8) (p.cls.map Qg)))) {m with boxes:=m.boxes++[c0,c1],lens:=m.lens++[p.cls.length]}):an Tryz.prog az Y 61 [.agg (Qc p)] m K:=by
 obtain⟨mb,ml,ms,mn⟩:=m;obtain⟨h1,h2,h3,h4,h5,h6⟩:=h;have k1:=pX p.sh (by omega);have k2:=pY p.aM (by omega);have k4:=pZ p.bks (by omega);have k3:=GN;refine Xe vf (yt p) (by simp) ?_;simp[I7,Qc,yt,Kl,hn];refine⟨k1,k2,k3,?_⟩;refine Qj eH (fun f m=>f 22=I 0/\m=⟨mb++[[I p.ch,I p.nu,I p.de,I p.of,.sl .ro (p.sh.map Qe),I p.ep,I p.rg,I p.ln,I p.fi,.sl .ro (p.aM.map Qm),.sl .ro [],.sl .ro (p.bks.map Xh),.sl .ro (p.cls.map Qg)],[I 0,I 0,I 0,I 0,.sl .nil [],I 0,I 0,I 0,I 0,.sl .nil [],.sl .nil [],.sl .nil [],.sl .nil []]],ml,ms,mn⟩) (fun f _=>0) ?_ ?_
 ·exact⟨by simp,by simp⟩
 rintro f m ⟨f22,rfl⟩;simp[f22,eH,I8,yt,Kl];refine⟨k4,G7 _ _ (by omega) _ _ ?_⟩;simp;simp[Jj]at hK;exact hK _ _
def Dz(rt:Rt):Prop:=∀m d x,bF m (d+1) (.sl rt x)=.sl .ro x
def Dz.ro:Dz .ro:=fun _ _ _=>rfl
def Dz.own(k s:Nat):Dz (.own k s):=fun _ _ _=>rfl
def mY(bx:List (List AV))(V:AV)(l:List En):Prop:=(∃rt,V=.sl rt (l.map Qd)/\Dz rt)\/∃k z,V=.bs k 0 l.length 7/\k<bx.length/\Qh bx k=eT l++z/\Zg z=true
def G8(n:Nat)(V:AV):Prop:=∀k o l s,V=.bs k o l s->n<=k
def G8.sl(n:Nat)(rt:Rt)(rows:List (List AV)):G8 n (.sl rt rows):=fun _ _ _ _ h=>by cases h
def G8.bs{n k o l s:Nat}(h:n<=k):G8 n (.bs k o l s):=fun _ _ _ _ e=>by cases e;exact h
def DA(g:Pg)(o:Od):Pl:={g.p with cls:=g.p.cls++[o.cl]}
def Z2(Y:YT)(m:AM)(g:Pg)(f:Int)(mid:Nat)(o:Od)(hp:Bn g.p)(K:AV->AM->Prop)
  (h1:∀ex V,mY (m.boxes++ex) V g.p.ens->G8 m.boxes.length V->K (.aW [.agg (Xp (DA g o) V (.sl (.own m.lens.length 8) ((DA g o).cls.map Qg)) 0),.bool true]) {m with boxes:=m.boxes++ex,lens:=m.lens++[g.p.cls.length+1]}):
  an Tryz.prog az Y 135 [.agg (Qu g f mid),.agg (Qq o)] m K:=by
 obtain⟨mb,ml,ms,mn⟩:=m;have hc:=hp.2.2.2.2.1
 have ah:∀row:List AV,((∃a,a∈g.p.cls/\Qg a=row)\/row=Qg o.cl)->row.length=8:=by
  rintro row (⟨a,_,rfl⟩|rfl)<;>rfl
 simp only[DA,Xp,zzby,zzay,zzcg]at h1;by_cases aK:g.p.ens=[]
 ·have kO:=fun ex K hK=>R2 Y ⟨mb++ex,ml,ms,mn⟩ g.p hp aK K hK;simp only[Qc]at kO;refine Xe Ni (fun _ _ l=>.gd false .junk) (by simp) ?_;simp[T1,T2,Qu,Qo,Qc,Qq,Qd,Qg,Qi];refine kO _ _ fun c0 c1=>?_;simp[Jj];refine⟨⟨ah,by omega⟩,?_⟩;exact h1 _ _ (.inl ⟨.ro,by rw[aK];rfl,Dz.ro⟩) (G8.sl _ _ _)
 have kO:=fun ex K hK=>Z1 Y ⟨mb++ex,ml,ms,mn⟩ g.p hp aK K hK;simp only[Qc]at kO;refine Xe Ni (fun _ _ l=>.gd false .junk) (by simp) ?_;simp[T1,T2,Qu,Qo,Qc,Qq,Qd,Qg,Qi];refine kO _ _ fun c0 c1 bx=>?_;simp[Jj,zzam];refine⟨⟨ah,by omega⟩,?_⟩;exact h1 _ _ (.inr ⟨mb.length+5,[],rfl,by simp,by simp[eT],rfl⟩) (G8.bs (by simp))
open Go Go.Abs
def mY.ext{bx:List (List AV)}{V:AV}{l:List En}(h:mY bx V l)(ex:List (List AV)):mY (bx++ex) V l:=by
 obtain h|⟨k,z,h1,h2,h3,h4⟩:=h
 ·exact .inl h
 exact .inr ⟨k,z,h1,by simp;omega,by rw[Ql h2,h3],h4⟩
def R3(Y:YT)(m:AM)(V:AV)(L:List En)(id:Int)(hV:mY m.boxes V L)(hl:L.length<=1000000000):an Tryz.prog az Y 203 [V,I id,.fn 204 [] []] m (fun r m'=>m'=m/\r=sK (Zf id L)):=by
 obtain⟨mb,ml,ms,mn⟩:=m;refine an.read ?_;obtain⟨rt,rfl,aS⟩|⟨k,z,rfl,hk,hB,hz⟩:=hV
 ·refine Xe Cc (fun _ f l=>if f=204 then(match l with|[.agg (c::_)]=>c|_=>.junk)else .junk) (by simp) ?_;simp[NC];refine Qj dZ (fun f m=>∃(i:Nat)(bx:List (List AV)),f 13=I i/\i<=L.length/\Zf id (L.drop i)=Zf id L/\m=⟨mb++([I 0,I 0,I 0,I 0,I 0,I 0,.sl .nil []]::bx),ml,ms,mn⟩) (fun f _=>L.length-(numOf (f 13)).toNat) ?_ ?_
  ·exact⟨0,[],by simp,by omega,rfl,rfl⟩
  rintro f m ⟨i,bx,xu,hi,hf,rfl⟩;rcases zzaa i L.length with ai|bu
  ·obtain⟨x,hx⟩:=aR ai;have ah:Qh (L.map Qd) i=Qd x:=Qs (by simp[hx]);have aa:(i:Int)<(L.length:Int):=by omega
   have hw:=bK i (by omega);have hd:L.drop i=x::L.drop (i+1):=by rw[zzaf ai,(zza.1 hx).2]
   have zn:=om x;rw[hd,Zf]at hf;by_cases aN:x.id=id
   ·rw[if_pos aN]at hf;simp[xu,aa,ah,Qd,aN,dZ,vA,<- hf,sK];refine⟨by simpa[Qd,aN]using zn,lJ⟩
   rw[if_neg aN]at hf;simp[xu,aa,ah,Qd,aN,dZ,hw];refine⟨zn,aO,⟨i+1,by simp,by omega,hf⟩,by omega⟩
  rw[zzal bu]at hf;have bJ:¬(i:Int)<(L.length:Int):=by omega
  simp[xu,bJ,dZ,vA,<- hf,sK,Zf];exact lJ
 have hR:∀ex,Qh (mb++ex) k=eT L++z:=fun ex=>by rw[Ql hk];exact hB
 refine Xe Cc (fun _ f l=>if f=204 then(match l with|[.agg (c::_)]=>c|_=>.junk)else .junk) (by simp) ?_;simp[NC];refine Qj dZ (fun f m=>∃(i:Nat)(bx:List (List AV)),f 13=I i/\i<=L.length/\Zf id (L.drop i)=Zf id L/\m=⟨mb++([I 0,I 0,I 0,I 0,I 0,I 0,.sl .nil []]::bx),ml,ms,mn⟩) (fun f _=>L.length-(numOf (f 13)).toNat) ?_ ?_
 ·exact⟨0,[],by simp,by omega,rfl,rfl⟩
 rintro f m ⟨i,bx,xu,hi,hf,rfl⟩;rcases zzaa i L.length with ai|bu
 ·obtain⟨x,hx⟩:=aR ai;have hg:=Dy hx
  have ah:∀ex,(Qh (mb++ex) k).drop (i*7)=I x.id::I x.it::I x.fr::I x.ea::I x.la::I x.bo::.sl .ro (x.al.map Qe)::(eT (L.drop (i+1))++z):=fun ex=>by
   rw[hR,zzdr (by rw[Jg];omega),hg];rfl
  have aa:(i:Int)<(L.length:Int):=by omega
  have hw:=bK i (by omega);have hd:L.drop i=x::L.drop (i+1):=by rw[zzaf ai,(zza.1 hx).2]
  have zn:=om x;rw[hd,Zf]at hf;by_cases aN:x.id=id
  ·rw[if_pos aN]at hf;simp[xu,aa,ah,Qd,aN,dZ,vA,<- hf,sK];refine⟨by simpa[Qd,aN]using zn,lJ⟩
  rw[if_neg aN]at hf;simp[xu,aa,ah,aN,dZ,hw];refine⟨zn,aO,⟨i+1,by simp,by omega,hf⟩,by omega⟩
 rw[zzal bu]at hf;have bJ:¬(i:Int)<(L.length:Int):=by omega
 simp[xu,bJ,dZ,vA,<- hf,sK,Zf];exact lJ
def anc(Y:YT)(m:AM)(V:AV)(L:List En)(id:Int)(hV:mY m.boxes V L)(hl:L.length<=1000000000)(K:AV->AM->Prop)(hK:K (sK (Zf id L)) m):an Tryz.prog az Y 203 [V,I id,.fn 204 [] []] m K:=
 an.mono (R3 Y m V L id hV hl) (by rintro r m' ⟨rfl,rfl⟩;exact hK)
open Go Go.Abs
def oo:∀(l:List En)(z:List AV),aV 7 l.length (eT l++z)=l.map Qd
 |[],z=>rfl
 |e::r,z=>by
  have:=oo r z;simp[Qd,this]
def mY.bF{bx:List (List AV)}{V:AV}{l:List En}(h:mY bx V l)(ex:List (List AV))(ml:List Nat)(ms:Nat->LS)(mn:Nat)(d:Nat):Abs.bF ⟨bx++ex,ml,ms,mn⟩ (d+2) V=.sl .ro (l.map Qd):=by
 obtain⟨rt,rfl,aS⟩|⟨k,z,rfl,hk,hB,hz⟩:=h
 ·exact aS _ _ _
 have bV:Zg (eT l++z)=true:=by have:=LQ l;unfold Zg at this hz |-;rw[zzfd,this,hz];rfl
 rw[XI,Vp,Ql hk,hB,Zm _ _ bV,if_pos (by rw[zzah,Jg];omega),zzdb,oo]
def mY.cell{bx:List (List AV)}{V:AV}{l:List En}(h:mY bx V l):Qv V=true:=by
 rcases h with⟨rt,rfl,aS⟩|⟨k,z,rfl,hk,hB,hz⟩<;>rfl
def LU(Y:YT)(m:AM)(q:Pl)(V:AV)(rt:Rt)(id:Int)(hV:mY m.boxes V q.ens)(hl:q.ens.length<=1000000000)(ha:∀e∈q.ens,e.al.length<=8796093022208):
  an Tryz.prog az Y 130 [.agg (Jj q V (.sl rt (q.cls.map Qg))),I id] m (fun r m'=>m'=m/\r=sK (Zf id q.ens)):=by
 obtain⟨mb,ml,ms,mn⟩:=m;have hc:=hV.cell;have kf:=fun ex K hK=>anc Y ⟨mb++ex,ml,ms,mn⟩ V q.ens id (hV.ext ex) hl K hK;refine an.read (Xe Nh (fun _ f l=>if f=203 then .gd false .junk else l.headD .junk) (by simp) ?_);simp[Nf,Ng,Jj,hc];refine kf _ _ ?_;cases hf:Zf id q.ens with
 |none=>
  simp[sK];exact⟨j6,lJ⟩
 |some x=>
  have hx:x∈q.ens:=by
   have:∀l:List En,Zf id l=some x->x∈l:=by
    intro l;induction l with
    |nil=>intro h;cases h
    |cons y r ih=>
     intro h;simp only[Zf]at h;split at h
     ·cases h;simp
     simp[ih h]
   exact this _ hf
  have qt:=Ja x.al (ha x hx);simp[sK,Qd];exact⟨qt,lJ⟩
def OY(Y:YT)(m:AM)(q:Pl)(V:AV)(rt:Rt)(id:Int)(hV:mY m.boxes V q.ens)(hl:q.ens.length<=1000000000)(ha:∀e∈q.ens,e.al.length<=8796093022208)(K:AV->AM->Prop)(hK:K (sK (Zf id q.ens)) m):
  an Tryz.prog az Y 130 [.agg (Jj q V (.sl rt (q.cls.map Qg))),I id] m K:=
 an.mono (LU Y m q V rt id hV hl ha) (by rintro r m' ⟨rfl,rfl⟩;exact hK)
def LV(Y:YT)(m:AM)(g:Pg)(f:Int)(mid:Nat)(o:Od)(q:Pl)(V:AV)(rt:Rt)(d:Int)(hV:mY m.boxes V q.ens):
  an Tryz.prog az Y 136 [.agg (Qu g f mid),.agg (Qq o),.agg (Xp q V (.sl rt (q.cls.map Qg)) d)] m (fun r m'=>m'=m/\r=.bool true):=by
 obtain⟨mb,ml,ms,mn⟩:=m;have hc:=hV.cell;refine an.read (Xe acI (fun _ _ _=>.junk) (by simp) ?_);simp[ahC,ahD,Qu,Qo,Qc,Qq,Qd,Qg,Qi,Xp,hc];exact lJ
def G9(Y:YT)(m:AM)(g:Pg)(f:Int)(mid:Nat)(b:List (Int×Bool))(o:Od)(q:Pl)(V:AV)(rt:Rt)(d:Int)(hV:mY m.boxes V q.ens)(h:mq g f)(hb:gz m.boxes mid b):
  an Tryz.prog az Y 140 [.agg (Qu g f mid),.agg (Qq o),.agg (Xp q V (.sl rt (q.cls.map Qg)) d)] m (fun r m'=>m'=m/\r=.bool !(Dw g f b o.en)):=by
 obtain⟨mb,ml,ms,mn⟩:=m;have hc:=hV.cell;have hB:∀ex,gz (mb++ex) mid b:=fun ex=>⟨by have:=hb.1;simp at this |-;omega,hb.ext ex⟩;have k:=fun ex K hK=>asU Y ⟨mb++ex,ml,ms,mn⟩ g f mid b o.en h (hB ex) K hK;simp only[Qu,Qo,Qc,zzae,zzaj]at k;refine an.read (Xe acK (fun _ _ _=>.gd false .junk) (by simp) ?_);simp[ahE,ahF,Qu,Qo,Qc,Qq,Qd,Qg,Qi,Xp,hc];refine k _ _ ?_;simp;exact lJ
end Go.Proofs.YtnopaopphmjnmaaGreatDoor
