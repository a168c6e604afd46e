import Derived.Test.YthjppoincojfkaaGreatDoorRTSnC
set_option linter.all false
namespace Go.Proofs.YthjppoincojfkaaGreatDoor
open Go Go.Abs
def gE{p:Pl}{F:Int}{l:List (Int×Int)}:(∀e∈l.map (Zq p),e.id=0)/\∀e∈l.map (Zq p),¬qo F e:=by
 have h:∀e∈l.map (Zq p),e.id=0:=fun e he=>by obtain⟨x,_,rfl⟩:=zzan.1 he;rfl
 exact⟨h,fun e he hs=>hs.1 (h e he)⟩
def OR{p:Pl}{s:Sp}{a:Int}{e:En}(h:Xn s.1 p.ens=some e)(h0:s.1≠0)(h1:1<=e.fr)(h2:a<=s.2)(h3:s.2+e.fr<=p.ln):jo p s a=some e:=by
 unfold jo;rw[h];simp only;rw[ab zE]
def DU{q:Pl}{F:Int}:∀{ids:Pi}{l:List Sp}{A:List aW}{us en:List (Int×Int)}{a last:Int},Yt q ids us en a last=some l->LeU (uU (jR A)) us->z7 (uE q (jR A)) en->(∀x∈A,HF x)->(∀s∈ids,s≠0)->pV q F A (Je q l a)
 |[],l,A,us,en,a,last,h,hu,he,hA,h0=>by
  cases h;exact pV.no gE.2
 |id::r,l,A,us,en,a,last,h,hu,he,hA,h0=>by
  rw[Yt]at h;cases hk:Wy id q.ens 0 with
  |none=>rw[hk]at h;cases h
  |some k=>
   rw[hk]at h;simp only at h;split at h
   ·cases h
   obtain⟨_,e,g1,g2,g3⟩:=Qdb hk;rw[zzel]at g1;rw[g1]at h;simp only at h;split at h
   ·cases h
   rename_i hr;cases hs:Vm q e (Vr en (Ub q e.it) (max e.ea a))with
   |none=>rw[hs]at h;cases h
   |some s=>
    rw[hs]at h;simp only at h;cases hg:Yt q r (Zx us e.it) (Xz q en e.it (s+e.fr)) (s+e.fr) k with
    |none=>rw[hg]at h;cases h
    |some l'=>
     rw[hg]at h;cases h;obtain⟨a1,a2,a3,a4,a5,a6,a7⟩:=Uh hs;have eZ:=pz en (Ub q e.it) (max e.ea a);have hi0:=h0 id zd;rw[Je,OR (s:=(id,s)) g3 hi0 a1.1 (by show a<=s;omega) a5];simp only;rw[zzbg];have hz:jR (A++(Vg (Vv q) s a).map (Zq q))=jR A:=BF _ A (gE (F:=0)).1
     have hp:∀x∈A++(Vg (Vv q) s a).map (Zq q),HF x:=fun x hx=>by
      rcases zzaj.1 hx with hx|hx
      ·exact hA x hx
      refine⟨((aar q _ _ _ a (zzab _) zE).mem x hx).2.1,?_⟩;obtain⟨y,_,rfl⟩:=zzan.1 hx;exact zzbd _
     have aK:(tP q e s).id≠0:=by show e.id≠0;rw[g2];exact hi0
     have qK:=OS (e:=tP q e s) aK rfl hp;rw[hz]at qK;refine pV.app (pV.no gE.2) (pV.app ⟨fun _=>?_,trivial⟩ (DU hg ?_ ?_ ?_ fun t ht=>h0 t (by simp[ht])))
     ·rw[hz];have hue:=hu e.it;have hfm:=Qee he (Ub q e.it) (show e.ea<=max e.ea a by omega);exact⟨e,by show Xn e.id q.ens=_;rw[g2];exact g3,rfl,rfl,a1,a4,a3,a6,a5,a7,fun hh=>hr ⟨hh.1,by have:=hh.2;show Jf q e.it<=_;exact zzem this hue⟩,by show Vr _ (Ub q e.it) e.ea<=s;omega⟩
     ·rw[qK,yI];exact hu.note e.it
     ·rw[qK,yJ];exact he.note e.it (zzbd _) (by show 0<=s+e.fr;omega) rfl
     intro x hx;rcases zzaj.1 hx with hx|hx
     ·exact hp x hx
     rw[zzbx]at hx;subst hx;exact⟨a1.1,zzbd _⟩
def DV{q:Pl}{F:Int}:∀{l:List Sp}{a:Int},aaK q l a->F<=a->(∀s∈l,s.1≠0)->z8 F (Je q l a)=l.map (·.1)/\∀e∈Je q l a,e.id=0\/((e.id,e.st)∈l/\e.i=0/\F<=e.st)
 |[],a,h,hF,h0=>by
  rw[Je];exact⟨L5 gE.2,fun e he=>.inl ((gE (F:=0)).1 e he)⟩
 |s::l,a,h,hF,h0=>by
  obtain⟨e,h1,h2,h3,h4,h5,h6,h7,h8,h9,ij⟩:=h;have he:e.id=s.1:=(Qbi h1).2;have Ee:=h0 s zd;obtain⟨i1,i2⟩:=DV ij (show F<=s.2+e.fr by omega) fun t ht=>h0 t (by simp[ht]);rw[Je,OR h1 Ee h2.1 h3 h8];simp only;have bM:qo F (tP q e s.2):=⟨by show e.id≠0;rw[he];exact Ee,rfl,by show F<=s.2;omega⟩;refine⟨?_,fun x hx=>?_⟩
  ·rw[DW,DW,L5 gE.2,i1]
   have e1:z8 F [tP q e s.2]=[s.1]:=by
    unfold z8;rw[zzd (by rw[am];exact bM),<- he];rfl
   rw[e1];rfl
  rcases zzaj.1 hx with hx|hx
  ·rcases zzaj.1 hx with hx|hx
   ·exact .inl ((gE (F:=0)).1 x hx)
   rw[zzbx]at hx;subst hx;refine .inr ⟨?_,rfl,bM.2.2⟩;show(e.id,s.2)∈_;rw[he];simp
  rcases i2 x hx with h|⟨h,h'⟩
  ·exact .inl h
  exact .inr ⟨by simp[h],h'⟩
def agd{up:Int}:∀{L:List aW},(∀e∈L,e.st<up/\e.st+e.fr<=up)->Zm up L=L
 |[],_=>rfl
 |e::r,h=>by
  have he:=h e zd;rw[Zm,ab zE,agd fun x hx=>h x (by simp[hx])];unfold DF;rw[ab zE]
def HG{g:Pg}{f E:Int}{L:List aW}(h:dB 0 E L)(hE:E<=100000000)(p:Pl):Wt (zY L E) []=uU (jR L)/\Wu p (zY L E) []=uE p (jR L)/\L6 E (jR L):=by
 have hk:L6 E (jR L):=HH h (zzbd _) (out:=[]) (fun a ha=>by cases ha)
 have e1:zY L E=jR L:=by
  unfold zY;rw[agd fun e he=>by have:=h.mem e he;omega];rfl
 rw[e1]
 have:=OT (p:=p) (l:=jR L) (u:=[]) (en:=[]) fun a ha=>by
  have:=hk a ha;unfold nC;rw[am];omega
 exact⟨this.1,this.2,hk⟩
def HI{l:List Sp}(h:(l.map (·.1)).Nodup){id a b:Int}(ha:(id,a)∈l)(hb:(id,b)∈l):a=b:=by
 induction l with
 |nil=>cases ha
 |cons s l ih=>
  rw[zzar,zzed]at h;rcases zzao.1 ha with ha|ha
  ·rcases zzao.1 hb with hb|hb
   ·rw[<- ha]at hb;cases hb;rfl
   exact(h.1 (zzan.2 ⟨_,hb,by rw[<- ha]⟩)).elim
  rcases zzao.1 hb with hb|hb
  ·exact(h.1 (zzan.2 ⟨_,ha,by rw[<- hb]⟩)).elim
  exact ih h.2 ha hb
def ant{p:Pl}(h:DP p=0):OV (Wl p) 0:=by
 obtain⟨hv,l,hl⟩:=Hz h;have hg:Wl p=⟨p,zf p l 0,[],0,[],0⟩:=by unfold Wl;rw[hl]
 have dQ:=(Dn hv).ln;unfold Hu at hl;rw[ab (by rw[hv];decide)]at hl;obtain⟨e1,hsc⟩:=DX hl
 have HJ:∀s∈Ue p,s≠0:=fun s hs=>by
  obtain⟨x,hx,hxi⟩:=zzan.1 hs;have:=(gU hv x hx).1;omega
 have h0:∀s∈l,s.1≠0:=fun s hs=>HJ _ (by rw[<- e1];exact zzan.2 ⟨s,hs,rfl⟩);obtain⟨b1,b2⟩:=DV hsc (zzbd 0) h0;have hb:zf p l 0=Je p l 0:=by unfold zf;rw[ab zE]
 rw[hg,hb]
 have hs:∀x∈p.ens,∃e∈Je p l 0,e.id=x.id:=fun x hx=>by
  have:x.id∈z8 0 (Je p l 0):=by rw[b1,e1];exact zzan.2 ⟨x,hx,rfl⟩
  obtain⟨e,e2,e3⟩:=zzan.1 this;exact⟨e,(zzbp.1 e2).1,e3⟩
 refine⟨DU hl (fun _=>zzbd _) (z7.refl _) (fun x hx=>by cases hx) HJ,?_,fun e he h1=>⟨e,he,rfl,((b2 e he).resolve_left h1).2.1⟩,fun a ha x hx h1 h2 h3=>?_,fun x hx _=>hs x hx⟩
 ·show(z8 0 (Je p l 0)).Sublist _;rw[b1,e1];exact List.Sublist.refl _
 have ha2:=((b2 a ha).resolve_left (by rw[h1];exact h2)).1;have N2:=((b2 x hx).resolve_left h2).1;rw[h1]at ha2;have:=HI (by rw[e1];exact OW hv) ha2 N2;omega
def yK{f:Int}:∀{L:List aW}{y:aW},y∈Zm f L->∃x∈L,y=DF f x/\x.st<f
 |[],y,h=>by cases h
 |a::r,y,h=>by
  rw[Zm]at h;split at h
  ·obtain⟨x,x1,x2⟩:=yK h;exact⟨x,by simp[x1],x2⟩
  rcases zzao.1 h with rfl|h
  ·exact⟨a,zd,rfl,zE⟩
  obtain⟨x,x1,x2⟩:=yK h;exact⟨x,by simp[x1],x2⟩
def yL{f:Int}:∀{L:List aW}{x:aW},x∈L->x.st<f->DF f x∈Zm f L
 |a::r,x,h,hx=>by
  rw[Zm];rcases zzao.1 h with rfl|h
  ·rw[ab zE];simp
  split
  ·exact yL h hx
  exact zzcu _ (yL h hx)
def cO.pos{k:Nat}{g:Pg}(h:cO k g){x:aW}(hx:x∈g.ev):HF x:=⟨(h.ch.mem x hx).2.1,(h.ep x hx).1⟩
def aaL{k:Nat}{g:Pg}{o:Od}{q:Pl}{d:Int}{F:Int}(h:cO k g)(hk:k<=900)(hS:OV g F)(hv:Zz o=true)(hc:Jk g o.fr (Xd o.fr g.ev []) o=some (q,d)):OV (Qdx g o (Xd o.fr g.ev []) q d) o.fr:=by
 obtain⟨v1,v2,v3,v4⟩:=Qba hv;obtain⟨c1,c2,c3,c4⟩:=Qdl hc;obtain⟨n1,n2,n3,n4⟩:=DR h hk v1.1 hc;have iN:=h.ln;have hqe:=(Qbn c2).1;have nX:=OW c3;have hbg:∀id,fO (Xd o.fr g.ev []) id=true<->∃e∈g.ev,e.id=id/\e.st<o.fr:=fun id=>OX o.fr id g.ev;show OV ⟨q,Vz g o.fr (Xd o.fr g.ev []) o q d++Ku g o.fr (Xd o.fr g.ev []) o q d,g.cu,g.ed,dd (Uk (g.dr++Kg g o.fr (Xd o.fr g.ev []) o q d)),g.ve+1⟩ o.fr;generalize hf:o.fr=f at*
 generalize hb:Xd f g.ev []=b at*
 obtain⟨p1,p2,_⟩:=HG (g:=g) (f:=f) n3 zE q;obtain⟨ka,kb,_⟩:=yA q (Yc g f b o q d) (LO g f b o q d) (Yg g b q.ens);obtain⟨l,hl⟩:=zzby.1 kb;have bM:Vs g f b o q d=l:=by unfold Vs jQ;rw[hl];rfl
 obtain⟨e1,hsc⟩:=DX hl
 have aua:∀id,id∈Yg g b q.ens<->∃x∈q.ens,x.id=id/\fO b id=false/\id ∉ g.dr:=fun id=>by
  unfold Yg;rw[zzan];constructor
  ·rintro⟨x,hx,rfl⟩;obtain⟨x1,x2⟩:=zzbp.1 hx;unfold OG at x2;rw[zzac,zzcz,zzcz,decide_eq_false_iff_not]at x2;exact⟨x,x1,rfl,x2⟩
  rintro⟨x,hx,rfl,h1,h2⟩;refine⟨x,zzbp.2 ⟨hx,?_⟩,rfl⟩;unfold OG;rw[zzac,zzcz,zzcz,decide_eq_false_iff_not];exact⟨h1,h2⟩
 have hss:=Qcs true (Yg g b q.ens) (Kc q (Yc g f b o q d) (LO g f b o q d) (Yg g b q.ens))
 have fU:(l.map (·.1)).Sublist (q.ens.map (·.id)):=by
  rw[e1];refine hss.trans ?_;unfold Yg;exact List.Sublist.map _ zzeb
 have IA:∀id,id∈l.map (·.1)->fO b id=false:=fun id aK=>by
  rw[e1]at aK;obtain⟨x,_,_,x3,_⟩:=(aua id).1 (hss.subset aK);exact x3
 have HJ:∀s∈l.map (·.1),s≠0:=fun s hs=>by
  obtain⟨x,hx,hxi⟩:=zzan.1 (fU.subset hs);have:=(gU c3 x hx).1;omega
 obtain⟨b1,b2⟩:=DV hsc n1 fun s hs=>HJ _ (zzan.2 ⟨s,hs,rfl⟩)
 have hB:Ku g f b o q d=Je q l (Yc g f b o q d):=by
  unfold Ku zf;rw[ab (by have:=v1.1;omega),bM]
 rw[hB]
 have eC:∀e∈Vz g f b o q d,e.st<=f/\(∃x∈g.ev,x.id=e.id/\x.st<f\/e.id=0)/\(e.st=f->1<=e.i)/\(e.st<f->∃x∈g.ev,x.id=e.id/\x.st=e.st/\x.i=e.i):=by
  intro e he;unfold Vz at he;rcases zzaj.1 he with he|he
  ·obtain⟨y,hy,rfl⟩:=zzan.1 he;obtain⟨x,x1,rfl,x3⟩:=yK hy;exact⟨by show x.st<=f;omega,⟨x,x1,.inl ⟨rfl,x3⟩⟩,fun h=>by have:x.st=f:=h;omega,fun _=>⟨x,x1,rfl,rfl,rfl⟩⟩
  have qc:z6 g f b o q d=some e:=by simpa using he
  obtain⟨x,x1,x2,x3,x4,x5,x6,x7,x8,x9⟩:=aaM qc;obtain⟨z,z1,z2,z3⟩:=(hbg x.id).1 x5;refine⟨zE,⟨z,z1,.inl ⟨by rw[z2,x6],z3⟩⟩,fun _=>?_,fun h=>zE⟩;have hx:=(h.pos x1).2;rcases zzdw x.st f with hc|hc
  ·omega
  have:=hS.f2 z z1 x x1 z2 x4 zE;omega
 have eX:∀e∈Vz g f b o q d,¬qo f e:=fun e he hs=>by
  obtain⟨h1,_,h3,_⟩:=eC e he;have:=hs.2.2;have:=h3 zE;have:=hs.2.1;omega
 have ajD:∀id,id≠0->(∃x∈g.ev,x.id=id/\x.st<f)->∃a∈Vz g f b o q d,a.id=id/\a.i=0:=by
  rintro id aK ⟨x,x1,x2,x3⟩;obtain⟨a,a1,a2,a3⟩:=hS.f1 x x1 (by rw[x2];exact aK)
  have ha:a.st<f:=by
   rcases zzdw a.st f with hc|hc
   ·exact hc
   have:=hS.f2 x x1 a a1 a2.symm (by rw[a2,x2];exact aK) zE;omega
  refine⟨zk (DF f a),?_,by show a.id=id;rw[a2,x2],a3⟩;unfold Vz;exact zzff _ (zzan.2 ⟨_,yL a1 ha,rfl⟩)
 refine⟨?_,?_,fun e he h1=>?_,fun a ha x hx h1 h2 h3=>?_,fun x hx hd=>?_⟩
 ·refine pV.app (pV.no eX) (DU hl ?_ ?_ (fun x hx=>⟨(n3.mem x (Nm hx)).2.1,(n4 x (Nm hx)).1⟩) (by rw[<- e1];exact HJ))
  ·rw[zzag,<- p1];exact fun _=>zzbd _
  rw[zzag,<- p2];exact z7.refl _
 ·show(z8 f (_++_)).Sublist _;rw[DW,L5 eX,b1];exact fU
 ·rcases zzaj.1 he with he|he
  ·obtain⟨_,⟨x,x1,x2⟩,_⟩:=eC e he;obtain⟨a,a1,a2,a3⟩:=ajD e.id h1 ⟨x,x1,x2.resolve_right h1⟩;exact⟨a,zzff _ a1,a2,a3⟩
  exact⟨e,zzez _ he,rfl,((b2 e he).resolve_left h1).2.1⟩
 ·have dU:∀y∈Vz g f b o q d,∀z∈Je q l (Yc g f b o q d),y.id=z.id->z.id≠0->False:=fun y hy z hz e0 e3=>by
   obtain⟨_,⟨w,w1,w2⟩,_⟩:=eC y hy;have:=IA z.id (zzan.2 ⟨_,((b2 z hz).resolve_left e3).1,rfl⟩);have hw:=w2.resolve_right (by rw[e0];exact e3);rw[(hbg z.id).2 ⟨w,w1,by rw[hw.1,e0],hw.2⟩]at this;cases this
  rcases zzaj.1 ha with ha|ha
  ·rcases zzaj.1 hx with hx|hx
   ·obtain⟨x1,_,x3,x4⟩:=eC x hx;obtain⟨a1,_,_,a4⟩:=eC a ha;rcases zzdw x.st f with hc|hc
    ·obtain⟨y,y1,y2,y3,y4⟩:=x4 hc;obtain⟨z,z1,z2,z3,z4⟩:=a4 zE;have:=hS.f2 z z1 y y1 (by rw[z2,y2,h1]) (by rw[y2];exact h2) zE;omega
    exact x3 zE
   exact(dU a ha x hx h1 h2).elim
  rcases zzaj.1 hx with hx|hx
  ·exact(dU x hx a ha h1.symm (by rw[h1];exact h2)).elim
  have ha2:=((b2 a ha).resolve_left (by rw[h1];exact h2)).1;have N2:=((b2 x hx).resolve_left h2).1;rw[h1]at ha2;have:=HI (fU.nodup nX) ha2 N2;omega
 have hx:x∈q.ens:=hx;have hd:x.id ∉ dd (Uk (g.dr++Kg g f b o q d)):=hd;rw[wK,(HK _).2,zzaj,not_or]at hd;cases dw:fO b x.id with
 |true=>
  obtain⟨a,a1,a2,_⟩:=ajD x.id (by have:=(gU c3 x hx).1;omega) ((hbg x.id).1 dw);exact⟨a,zzff _ a1,a2⟩
 |false=>
  have hi:=(OY ka x.id ((aua _).2 ⟨x,hx,rfl,dw,hd.1⟩)).resolve_right hd.2;rw[<- e1,<- b1]at hi;obtain⟨e,e2,e3⟩:=zzan.1 hi;exact⟨e,zzez _ (zzbp.1 e2).1,e3⟩
def aaN{k:Nat}{g:Pg}{o:Od}{F:Int}(h:cO k g)(hk:k<=900)(hS:OV g F):OV (Zi g o) F\/(OV (Zi g o) o.fr/\o.fr<=100000000):=by
 unfold Zi;split
 ·exact .inl ⟨hS.ok,hS.sr,hS.f1,hS.f2,hS.sh⟩
 rename_i hc;split
 ·cases DN o.cu g.cu<;>exact .inl ⟨hS.ok,hS.sr,hS.f1,hS.f2,hS.sh⟩
 cases hx:Jk g o.fr (Xd o.fr g.ev []) o with
 |none=>exact .inl ⟨hS.ok,hS.sr,hS.f1,hS.f2,hS.sh⟩
 |some r=>
  have hv:Zz o=true:=by
   have hc:Ug g o=true:=by simpa using hc
   unfold Ug at hc;rw[zzac]at hc;exact hc.1
  exact .inr ⟨aaL h hk hS hv hx,(Qba hv).1.2⟩
def OZ:∀{L:List En}{k i:Nat}{x:En},(L.map (·.id)).Nodup->L[k]?=some x->Wy x.id L i=some (i+k)
 |[],k,i,x,_,h=>by simp at h
 |y::r,0,i,x,hn,h=>by
  simp at h;subst h;rw[Wy,ac rfl];rfl
 |y::r,k+1,i,x,hn,h=>by
  rw[zzar,zzed]at hn;rw[zzcl]at h;have hx:=zzad h;rw[Wy,ab (fun hc=>hn.1 (zzan.2 ⟨x,hx,hc.symm⟩)),OZ hn.2 h];congr 1;omega
def BG:∀{L:List En}{id:Int}{r:Pi},(id::r).Sublist (L.map (·.id))->∃j x,L[j]?=some x/\x.id=id/\r.Sublist ((L.drop (j+1)).map (·.id))
 |[],id,r,h=>by cases h
 |y::L,id,r,h=>by
  rw[zzar]at h;cases h with
  |cons _ h=>
   obtain⟨j,x,h1,h2,h3⟩:=BG h;exact⟨j+1,x,by rw[zzcl];exact h1,h2,by rw[List.drop_succ_cons];exact h3⟩
  |cons_cons _ h=>exact⟨0,y,rfl,rfl,h⟩
def rP{en:List (Int×Int)}{g t:Int}(hg:g<=t):∀(l:List Sp){f:Int},Vr en l f<=t->Vr en l (max f g)<=t
 |[],f,h=>by have h:f<=t:=h;show max f g<=t;omega
 |r::l,f,h=>by
  rw[Vr]at h |-
  cases hr:af r.1 en with
  |none=>rw[hr]at h;exact rP hg l h
  |some e=>
   rw[hr]at h;simp only at h |-
   rw[show max (max f g) (e+r.2)=max (max f (e+r.2)) g by omega];exact rP hg l h
def L7{p q:Pl}{F f:Int}{B:Pi}(hF:F<=f)(hn:(q.ens.map (·.id)).Nodup)(qa:∀it y,II p it 0 y->II q it 0 y)(qr:∀it,Jf q it=Jf p it)(qg:∀it,Ub q it=Ub p it)(qi:q.aM=p.aM)(ql:q.ln=p.ln):
  ∀(R A:List aW)(us en:List (Int×Int))(free last a:Int)(k0:Nat),pV p F A R->dB a p.ln R->L6 a (jR A)->LeU us (uU (jR A))->z7 en (uE p (jR A))->(∀x∈A,HF x)->(∀x∈R,0<=x.i)->(∀e∈R,qo f e->e.id∈B->free<=e.st/\Xn e.id q.ens=Xn e.id p.ens)->0<=a->
   ((R.filter fun e=>decide (qo f e/\e.id∈B)).map (·.id)).Sublist ((q.ens.drop k0).map (·.id))->last<k0->∃l,Yt q ((R.filter fun e=>decide (qo f e/\e.id∈B)).map (·.id)) us en free last=some l
 |[],A,us,en,free,last,a,k0,h,ht,hk,hu,he,hA,hi,hq,ha,hs,hl=>⟨[],rfl⟩
 |e::R,A,us,en,free,last,a,k0,h,ht,hk,hu,he,hA,hi,hq,ha,hs,hl=>by
  obtain⟨t1,t2,t4⟩:=ht
  have yf:L6 (e.st+e.fr) (jR (A++[e])):=by
   rw[show jR (A++[e])=Jl A.getLast? [e] (jR A) by rw[Yr];rfl];exact HH (lo:=a) ⟨t1,t2,zzbd _⟩ ha hk
  have hpe:HF e:=⟨t2,hi e zd⟩
  have hA':∀x∈A++[e],HF x:=fun x hx=>by
   rcases zzaj.1 hx with hx|hx
   ·exact hA x hx
   rw[zzbx]at hx;subst hx;exact hpe
  by_cases hP:qo f e/\e.id∈B
  ·rw[zzd (by rw[am];exact hP)]at hs |-
   have bM:qo F e:=⟨hP.1.1,hP.1.2.1,by have:=hP.1.2.2;omega⟩;obtain⟨x,h1,h2,h3,h4,h5,h6,h7,h8,h9,ij,nq⟩:=h.1 bM;obtain⟨q1,q2⟩:=hq e zd hP.1 hP.2;have qK:=OS hP.1.1 hP.1.2.1 hA;obtain⟨j,z,j1,j2,j3⟩:=BG hs;rw[zzbl]at j1;have hz:=O0 hn (zzad j1);rw[j2,q2,h1]at hz;cases hz;have El:=OZ (i:=0) hn j1;rw[j2,zzbs]at El;rw[zzdr]at j3;have hue:=hu e.it;obtain⟨s',dz,cw⟩:=pW (p:=q) (from_:=Vr en (Ub p e.it) (max x.ea free)) (t:=e.st) (by rw[h3];exact h4) (rP q1 _ (zzem (Qee he (Ub p e.it) (zzbd _)) nq)) h6 ⟨h5,by rw[h3,ql];exact h8,h7⟩ (fun y y1 y2=>qa _ _ (by rw[h2];exact h9 y y1 (by rw[h3]at y2;exact y2)));have Ee:=(Uh dz).2.2.1
   obtain⟨l,eH⟩:=L7 hF hn qa qr qg qi ql R (A++[e]) (Zx us x.it) (Xz q en x.it (s'+x.fr)) (s'+x.fr) (k0+j:Nat) (e.st+e.fr) (k0+(j+1)) h.2 t4 yf
    (by rw[qK,yI,h2];exact hu.note e.it) (by rw[qK,yJ,h2];exact he.note e.it (by show s'+x.fr<=e.st+e.fr;omega) zE (by rw[qi])) hA' (fun y hy=>hi y (by simp[hy]))
    (fun y hy g1 g2=>⟨by have:=(t4.mem y hy).1;omega,(hq y (by simp[hy]) g1 g2).2⟩) zE j3 zE
   refine⟨(e.id,s')::l,?_⟩;rw[zzar,Yt,El];simp only;rw[ab zE,j1];simp only;rw[qr,qg,h2,ab (fun hh=>ij ⟨hh.1,zE⟩),dz];simp only;rw[<- h2,eH]
  rw[zzea (by rw[am];exact hP)]at hs |-
  have bM:=aaO (p:=p) (x:=A.getLast?) (e:=e) hk zE;rw[<- Yr]at bM
  exact L7 hF hn qa qr qg qi ql R (A++[e]) us en free last (e.st+e.fr) k0 h.2 t4 yf (fun i=>zzem (hu i) (bM.1 i)) (fun i v hv=>by obtain⟨w,w1,w2⟩:=he i v hv;obtain⟨w',w3,w4⟩:=bM.2 i w w1;exact⟨w',w3,zE⟩) hA' (fun y hy=>hi y (by simp[hy]))
   (fun y hy=>hq y (by simp[hy])) zE hs hl
def aaP{p:Pl}{k:Int}{y:Option aW}{x' x c:aW}{out:List Ad}(hk:L6 k out)(hs:0<=x.st)(hf:0<=x'.fr/\0<=c.fr)(h0:x.id≠0)(h1:x'.id=x.id)(h2:x'.it=x.it)(h3:x'.st=x.st)(h4:x'.i=x.i)(c1:c.id=x.id)(c2:c.st=x'.st+x'.fr)(c3:c.i=x'.i+x'.fr)(c4:x'.fr+c.fr<=x.fr):
  Aa p (Xj (some x') c (Xj y x' out)) (Xj y x out):=by
 have e1:Xj (some x') c (Xj y x' out)=iy c.fr (Xj y x' out):=by
  conv=>lhs;unfold Xj
  rw[ab (by rw[c1];exact h0)];simp only;rw[ac ⟨by rw[h1,c1],c2,c3⟩];rfl
 have e2:iy c.fr (Xj y x' out)=Xj y {x' with fr:=x'.fr+c.fr} out:=by
  unfold Xj;rw[ab (by rw[h1];exact h0),ab (by show¬x'.id=0;rw[h1];exact h0)];have hp:iy c.fr (out++[DG x'])=out++[DG {x' with fr:=x'.fr+c.fr}]:=jN _ _ _;cases y with
  |none=>exact hp
  |some y=>
   have hj:gR y {x' with fr:=x'.fr+c.fr}<->gR y x':=Iff.rfl;simp only[hj];split
   ·rcases age (n:=0) out with⟨rfl,_⟩|⟨O,z,rfl,h⟩
    ·rfl
    rw[h,jN,h];simp only[Int.add_assoc]
   exact hp
 rw[e1,e2];exact DY hk (by show 0<=x'.st;omega) (by show 0<=x'.fr+c.fr;omega) h1 h2 h3 h4 c4
def dB.inv{up:Int}{R:List aW}:∀{A:List aW}{lo:Int},dB lo up (A++R)->∃m,dB lo m A/\dB m up R
 |[],lo,h=>⟨lo,zzbd lo,h⟩
 |e::r,lo,h=>by
  obtain⟨h1,h2,h3⟩:=h;obtain⟨m,m1,m2⟩:=dB.inv (A:=r) h3;exact⟨m,⟨h1,h2,m1⟩,m2⟩
def dB.split(f:Int){up:Int}:∀{L:List aW}{lo:Int},dB lo up L->∃A R,L=A++R/\(∀e∈A,e.st<f)/\∀e∈R,f<=e.st
 |[],lo,h=>⟨[],[],rfl,(fun e he=>by cases he),(fun e he=>by cases he)⟩
 |e::r,lo,h=>by
  by_cases hf:e.st<f
  ·obtain⟨A,R,h1,h2,h3⟩:=dB.split f h.2.2;exact⟨e::A,R,by rw[h1];rfl,zzga.2 ⟨hf,h2⟩,h3⟩
  exact⟨[],e::r,rfl,(fun x hx=>by cases hx),zzga.2 ⟨zE,fun x hx=>by have:=(h.2.2.mem x hx).1;have:=h.2.1;omega⟩⟩
def RZ{g:Pg}{f:Int}{b:QR}{o:Od}{q:Pl}{d:Int}{c:aW}(dP:o.ki=2\/o.ki=3)(he:z6 g f b o q d=some c):
  ∃x∈g.ev,x.st<=f/\f<x.st+x.fr/\x.id≠0/\fO b x.id=true/\c.id=x.id/\c.st=f/\c.i=x.i+(f-x.st)/\c.it=x.it/\c.fr=x.fr-(f-x.st):=by
 unfold z6 at he;cases hp:Uc g f b with
 |none=>rw[hp]at he;cases he
 |some x=>
  rw[hp]at he;simp only at he;cases hF:zX g f o q d x with
  |none=>rw[hF]at he;cases he
  |some F=>
   rw[hF]at he;simp only at he
   have hFx:F=x.fr-(f-x.st):=by
    unfold zX at hF;rw[ab zE]at hF;split at hF
    ·cases hF
    rw[ab zE]at hF;cases hF;rfl
   split at he
   ·cases he
   cases he;unfold Uc at hp;cases hfd:g.ev.find? (Wd f)with
   |none=>rw[hfd]at hp;cases hp
   |some y=>
    rw[hfd]at hp;simp only at hp;split at hp
    ·cases hp
    split at hp
    ·cases hp;rename_i h1 h2;have h3:=zzfl hfd;simp only[Wd,am]at h3;exact⟨x,zzdg hfd,h3.1,h3.2,h1,h2,rfl,rfl,rfl,rfl,hFx⟩
    cases hp
def anu{g:Pg}{f:Int}{b:QR}{o:Od}{q:Pl}{d:Int}{k:Nat}(ht:cO k g)(dP:o.ki=2\/o.ki=3):
  ∃A R,g.ev=A++R/\Aa g.p (jR (Vz g f b o q d)) (jR A)/\(∀e∈A,qo f e->fO b e.id=true)/\∀e∈R,qo f e->Yc g f b o q d<=e.st:=by
 obtain⟨A,R,S0,hA,hR⟩:=dB.split f ht.ch;have hT:dB 0 g.p.ln (A++R):=by rw[<- S0];exact ht.ch
 obtain⟨m,S1,hTR⟩:=hT.inv;have hbf:Zm f g.ev=Zm f A:=by rw[S0,jM,HL hR,zzat]
 have hk:∀{X:List aW}{n:Int},dB 0 n X->L6 n (jR X):=fun h=>HH h (zzbd _) (fun a ha=>by cases ha);have eX:∀e∈A,qo f e->fO b e.id=true:=fun e he hs=>by have:=hA e he;have:=hs.2.2;omega
 have aub:∀A1 x,A=A1++[x]->Zm f A=A1++[DF f x]:=fun A1 x h=>by
  rw[h]at S1 hA;obtain⟨m1,k1,k2⟩:=S1.inv;have hx:=hA x zd;have hxs:m1<=x.st:=k2.1;have h1:Zm f A1=A1:=agd fun e he=>⟨hA e (by simp[he]),by have:=(k1.mem e he).2.2;omega⟩;rw[h,jM,h1];congr 1;rw[Zm,ab zE];rfl
 have eZ:∀x:aW,(DF f x).fr<=x.fr:=fun x=>by simp only[DF];split<;>omega
 cases hc:z6 g f b o q d with
 |none=>
  have hE:Yc g f b o q d=f:=by unfold Yc;rw[hc]
  refine⟨A,R,S0,?_,eX,fun e he _=>by rw[hE];exact hR e he⟩;unfold Vz;rw[hc,hbf];simp only[Option.toList_none,zzat];rw[L8];rcases zzfc A with hA0|⟨A1,x,hA1⟩
  ·rw[hA0];exact Aa.refl _
  rw[zzef]at hA1;rw[aub A1 x hA1,hA1,Yr,Yr];rw[hA1]at S1 hA;obtain⟨m1,k1,k2⟩:=S1.inv;have hx:=hA x zd;have QC:=k1.le.1;have JF:=k2.1;exact DY (hk k1) (by show 0<=x.st;omega) (by have:=k2.2.1;simp only[DF];split<;>omega) rfl rfl rfl rfl (eZ x)
 |some c=>
  obtain⟨x,x1,x2,x3,x4,x5,c1,c2,c3,c4,c5⟩:=RZ dP hc;have hE:Yc g f b o q d=x.st+x.fr:=by unfold Yc;rw[hc];simp only;omega
  have bU:jR (Vz g f b o q d)=jR (Zm f A++[c]):=by
   unfold Vz;rw[hc,hbf];rw[<- L8 (Zm f A++[c]),zzcb];show jR (_++[c])=jR (_++[zk c]);rw[Yr,Yr];cases((Zm f A).map zk).getLast?<;> rfl
  rw[S0]at x1;rcases zzaj.1 x1 with hx|hx
  ·obtain⟨A1,A2,agf⟩:=List.append_of_mem hx;rw[agf]at S1;obtain⟨m1,k1,k2⟩:=S1.inv
   have hA2:A2=[]:=by
    cases A2 with
    |nil=>rfl
    |cons e r=>
     have:=(k2.2.2.mem e zd).1;have:=hA e (by rw[agf];simp);omega
   subst hA2;have hm:x.st+x.fr<=m:=k2.2.2;have QC:=k1.le.1;have JF:=k2.1;refine⟨A,R,S0,?_,eX,fun e he _=>by have:=(hTR.mem e he).1;omega⟩;have hbe:(DF f x).fr=f-x.st:=by simp only[DF];rw[ac zE]
   rw[bU,aub A1 x agf,Yr,agf,Yr,Yr];have hl:(A1++[DF f x]).getLast?=some (DF f x):=zd
   rw[hl];exact aaP (hk k1) zE (by rw[hbe];omega) x4 rfl rfl rfl rfl c1 (by rw[hbe];show c.st=x.st+_;omega) (by rw[hbe];exact c3) (by rw[hbe];omega)
  have hxs:x.st=f:=by have:=hR x hx;omega
  obtain⟨R1,R2,anv⟩:=List.append_of_mem hx;rw[anv]at hTR;obtain⟨m1,k1,k2⟩:=hTR.inv;have sv:m1<=x.st:=k2.1
  have hR1:R1=[]:=by
   cases R1 with
   |nil=>rfl
   |cons e r=>
    have h1:=k1.mem e zd;have h2:=hR e (by rw[anv];simp);omega
  subst hR1;have hm:m<=m1:=k1;have QC:=S1.le.1;have aK:Zm f A=A:=agd fun e he=>⟨hA e he,by have:=(S1.mem e he).2.2;omega⟩;refine⟨A++[x],R2,by rw[S0,anv];simp,?_,fun e he hs=>?_,fun e he _=>by have:=(k2.2.2.mem e he).1;omega⟩
  ·rw[bU,aK,Yr,Yr];exact DY (hk S1) zE zE c1 c4 zE zE zE
  rcases zzaj.1 he with he|he
  ·exact eX e he hs
  rw[zzbx]at he;subst he;exact x5
def O1:∀{S L:Pi},S.Sublist L->L.Nodup->S=L.filter fun x=>decide (x∈S):=by
 intro S L h;induction h with
 |slnil=>intro _;rfl
 |@cons S L a h ih=>
  intro hn;rw[zzed]at hn;rw[zzea (by rw[am];exact fun hc=>hn.1 (h.subset hc))];exact ih hn.2
 |@cons_cons S L a h ih=>
  intro hn;rw[zzed]at hn;rw[zzd zd]
  have e:L.filter (fun x=>decide (x∈a::S))=L.filter fun x=>decide (x∈S):=zzfr fun x hx=>by
   have:x≠a:=fun hc=>hn.1 (by rw[<- hc];exact hx);simp[this]
  rw[e,<- ih hn.2]
def aaQ{S T L:Pi}(h1:S.Sublist L)(h2:T.Sublist L)(hn:L.Nodup)(h:∀x,x∈S<->x∈T):S=T:=by
 rw[O1 h1 hn,O1 h2 hn];exact zzfr fun x _=>by rw[decide_eq_decide];exact h x
def aaR{p:Pl}{id:Int}(h:zi p id=0):∃e,Xn id p.ens=some e/\e.bo≠0:=by
 unfold zi at h;cases hf:Xn id p.ens with
 |none=>rw[hf]at h;cases h
 |some e=>
  rw[hf]at h;simp only at h;split at h
  ·rename_i hb;exact⟨e,rfl,hb⟩
  exfalso
  revert h
  cases Xk e.it p.aM with
  |none=>simp
  |some x=>simp only;split<;>simp
def anw{p:Pl}{id:Int}{e:En}(h:Xn id p.ens=some e)(hb:e.bo≠0):zi p id=0:=by
 unfold zi;rw[h];simp only;rw[ac hb]
def agh{g:Pg}{o:Od}{q:Pl}{d:Int}(dP:o.ki=2\/o.ki=3)(hb:o.nw.bo=0)(h:Ki g o.fr (Xd o.fr g.ev []) o=some (q,d)):
  ∃X,q={g.p with ens:=X}/\(X.Sublist g.p.ens\/g.p.ens.Sublist X)/\∀x∈X,x.bo≠0->x∈g.p.ens:=by
 unfold Ki at h;rw[ab zE]at h;split at h
 ·unfold tU at h;split at h
  ·cases h
  cases h;exact⟨_,rfl,.inl zzeb,fun x hx _=>(zzbp.1 hx).1⟩
 rw[ac zE]at h;cases h;refine⟨_,rfl,.inr ?_,fun x hx QC=>?_⟩
 ·conv=>lhs;rw[<- zzdt (LD g (Xd o.fr g.ev [])) g.p.ens]
  exact(List.Sublist.refl _).append (List.sublist_cons_self _ _)
 rcases zzaj.1 hx with hx|hx
 ·exact zzcc hx
 rcases zzao.1 hx with rfl|hx
 ·exact(QC hb).elim
 exact zzdk hx
def aaS{F f:Int}(h:F<=f)(L:List aW):(z8 f L).Sublist (z8 F L):=by
 unfold z8;refine List.Sublist.map _ ?_
 rw[show(L.filter fun e=>decide (qo f e))=(L.filter fun e=>decide (qo F e)).filter fun e=>decide (qo f e) by
  rw[List.filter_filter];refine zzfr fun e _=>?_;rw[zzcr,zzac,am,am];exact⟨fun hh=>⟨hh,hh.1,hh.2.1,by have:=hh.2.2;omega⟩,fun hh=>hh.1⟩]
 exact zzeb
def HM{k:Nat}{g:Pg}{o:Od}{q:Pl}{d:Int}{F:Int}(h:cO k g)(hk:k<=900)(hS:OV g F)(hF:F<=o.fr)(hv:Zz o=true)(dP:o.ki=2\/o.ki=3)(hb:o.nw.bo=0)(hc:Jk g o.fr (Xd o.fr g.ev []) o=some (q,d)):
  (Ye q (Yc g o.fr (Xd o.fr g.ev []) o q d) (LO g o.fr (Xd o.fr g.ev []) o q d) ((Yg g (Xd o.fr g.ev []) q.ens).filter fun id=>decide (zi q id=0))).isSome=true:=by
 obtain⟨v1,v2,v3,v4⟩:=Qba hv;obtain⟨c1,c2,c3,c4⟩:=Qdl hc;obtain⟨n1,n2,n3,n4⟩:=DR h hk v1.1 hc;have iN:=h.ln;have hqe:=(Qbn c2).1;obtain⟨p1,p2,_⟩:=HG (g:=g) (f:=o.fr) n3 zE q;obtain⟨A,R,S0,hsA,hA,hR⟩:=anu (f:=o.fr) (b:=Xd o.fr g.ev []) (q:=q) (d:=d) h dP;obtain⟨X,hqX,hXs,hXb⟩:=agh dP hb c2;have hnq:=OW c3;have hng:=OW h.v;have hbg:∀id,fO (Xd o.fr g.ev []) id=true<->∃e∈g.ev,e.id=id/\e.st<o.fr:=fun id=>OX o.fr id g.ev;generalize hf:o.fr=f at*
 generalize hbb:Xd f g.ev []=b at*
 generalize aaT:(Yg g b q.ens).filter (fun id=>decide (zi q id=0))=B
 have aaU:B.Sublist (q.ens.map (·.id)):=by
  rw[<- aaT];refine zzeb.trans ?_;unfold Yg;exact List.Sublist.map _ zzeb
 have hB:∀id∈B,∃x,Xn id q.ens=some x/\Xn id g.p.ens=some x/\x.id=id/\x∈g.p.ens/\fO b id=false/\id ∉ g.dr:=by
  intro id aK;rw[<- aaT]at aK;obtain⟨h1,h2⟩:=zzbp.1 aK;rw[am]at h2;obtain⟨x,x1,x2⟩:=aaR h2;obtain⟨m1,m2⟩:=Qbi x1;have hxg:x∈g.p.ens:=hXb x (by rw[hqX]at m1;exact m1) x2;have hfg:=O0 hng hxg;rw[m2]at hfg;unfold Yg at h1;obtain⟨y,y1,y2⟩:=zzan.1 h1;have y3:=(zzbp.1 y1).2;unfold OG at y3;rw[zzac,zzcz,zzcz,decide_eq_false_iff_not,y2]at y3;exact⟨x,x1,hfg,m2,hxg,y3.1,y3.2⟩
 have bM:∀id∈B,∃e∈R,qo f e/\e.id=id:=by
  intro id aK;obtain⟨x,x1,x2,x3,x4,x5,x6⟩:=hB id aK;have HJ:id≠0:=by have:=(gU h.v x x4).1;omega
  obtain⟨e0,e3,e4⟩:=hS.sh x x4 (by rw[x3];exact x6);obtain⟨e,e1,e2,e5⟩:=hS.f1 e0 e3 (by rw[e4,x3];exact HJ);rw[e4,x3]at e2
  have hfe:f<=e.st:=by
   rcases zzdw e.st f with ah|cw
   ·have:=(hbg id).2 ⟨e,e1,e2,ah⟩;rw[x5]at this;cases this
   exact cw
  have hs:qo f e:=⟨by rw[e2];exact HJ,e5,hfe⟩;rw[S0]at e1;rcases zzaj.1 e1 with e1|e1
  ·have:=hA e e1 hs;rw[e2,x5]at this;cases this
  exact⟨e,e1,hs,e2⟩
 have hTT:dB 0 g.p.ln (A++R):=by rw[<- S0];exact h.ch
 obtain⟨m,S1,hTR⟩:=hTT.inv
 have bV:pV g.p F A R:=by
  have:=hS.ok;rw[S0]at this;have:=pV.drop this;rw[zzag]at this;exact this
 have hqf:∀id∈B,Xn id q.ens=Xn id g.p.ens:=fun id aK=>by
  obtain⟨x,x1,x2,_⟩:=hB id aK;rw[x1,x2]
 have ajE:(R.filter fun e=>decide (qo f e/\e.id∈B)).map (·.id)=B:=by
  have hs1:((R.filter fun e=>decide (qo f e/\e.id∈B)).map (·.id)).Sublist (g.p.ens.map (·.id)):=by
   refine List.Sublist.trans ?_ ((aaS hF g.ev).trans hS.sr);unfold z8;refine List.Sublist.map _ ?_
   have e1:(R.filter fun e=>decide (qo f e/\e.id∈B))=(R.filter fun e=>decide (qo f e)).filter fun e=>decide (e.id∈B):=by
    rw[List.filter_filter];refine zzfr fun e _=>?_;rw[zzcr,zzac,am,am,am];exact And.comm
   rw[e1];refine zzeb.trans ?_;rw[S0,zzdb];exact List.sublist_append_right _ _
  have dJ:∀x,x∈(R.filter fun e=>decide (qo f e/\e.id∈B)).map (·.id)<->x∈B:=by
   intro x;constructor
   ·intro hx;obtain⟨e,he,rfl⟩:=zzan.1 hx;have:=(zzbp.1 he).2;rw[am]at this;exact this.2
   intro hx;obtain⟨e,e1,e2,e3⟩:=bM x hx;exact zzan.2 ⟨e,zzbp.2 ⟨e1,by rw[am];exact⟨e2,by rw[e3];exact hx⟩⟩,e3⟩
  obtain hX|hX:=hXs
  ·refine aaQ hs1 (aaU.trans ?_) hng dJ;rw[hqX];exact hX.map _
  refine aaQ (hs1.trans ?_) aaU hnq dJ;rw[hqX];exact hX.map _
 have hpo:∀x∈A++R,HF x:=fun x hx=>h.pos (by rw[S0];exact hx)
 have eC:=L7 (p:=g.p) (q:=q) (B:=B) hF hnq (fun it y=>by rw[hqX];exact id) (fun it=>by rw[hqX];rfl) (fun it=>by rw[hqX];rfl) (by rw[hqX]) (by rw[hqX]) R A (uU (jR (Vz g f b o q d))) (uE q (jR (Vz g f b o q d))) (Yc g f b o q d) (-1) m 0 bV hTR (HH S1 (zzbd _) (fun a ha=>by cases ha)) hsA.1 (by
  have e9:∀L,uE q L=uE g.p L:=fun L=>by rw[hqX];rfl
  rw[e9];exact hsA.2) (fun x hx=>hpo x (by simp[hx])) (fun x hx=>(hpo x (by simp[hx])).2) (fun e he hs hi=>⟨hR e he hs,hqf e.id hi⟩) S1.le.1 (by rw[ajE,zzdd];exact aaU) zE
 rw[ajE,<- p1,<- p2]at eC;exact zzby.2 eC
def aaV{k:Nat}{g:Pg}{o:Od}{F:Int}(h:cO k g)(hk:k<=900)(hS:OV g F)(hF:F<=o.fr)(dP:o.ki=2\/o.ki=3)(hb:o.nw.bo=0)(hf:rN g o=true):
  ∀id∈(Zi g o).dr,∀x,Xn id (Zi g o).p.ens=some x->x.bo≠0->id∈g.dr:=by
 have hc:Ug g o=true:=by unfold rN at hf;rw[zzac]at hf;exact hf.1
 have hv:Zz o=true:=by unfold Ug at hc;rw[zzac]at hc;exact hc.1
 have hx:(Jk g o.fr (Xd o.fr g.ev []) o).isSome=true:=by
  unfold rN at hf;rw[hc,ab zE,zzdy]at hf;exact hf
 obtain⟨⟨q,d⟩,hqd⟩:=zzby.1 hx
 have hap:Zi g o=Qdx g o (Xd o.fr g.ev []) q d:=by
  unfold Zi;rw[hc,ab (by decide),ab zE,hqd]
 rw[hap];have hke:=HM h hk hS hF hv dP hb hqd;intro id aK x hx QC;have aK:id∈dd (Uk (g.dr++Kg g o.fr (Xd o.fr g.ev []) o q d)):=aK;rw[wK,(HK _).2,zzaj]at aK;obtain aK|aK:=aK
 ·exact aK
 exfalso;have hx:Xn id q.ens=some x:=hx;have hr:=anw hx QC;have uv:=anx (mw (fR q (Yc g o.fr (Xd o.fr g.ev []) o q d) (LO g o.fr (Xd o.fr g.ev []) o q d))) (zi q) (Yg g (Xd o.fr g.ev []) q.ens);have bD:=(Bz q (Yc g o.fr (Xd o.fr g.ev []) o q d) (LO g o.fr (Xd o.fr g.ev []) o q d) _ hke).2;unfold Kc at bD;rw[bD]at uv
 have:id∈(Xe false (Yg g (Xd o.fr g.ev []) q.ens) (Jd (mw (fR q (Yc g o.fr (Xd o.fr g.ev []) o q d) (LO g o.fr (Xd o.fr g.ev []) o q d))) (zi q) (Yg g (Xd o.fr g.ev []) q.ens))).filter fun id=>decide (zi q id=0):=
  zzbp.2 ⟨aK,by rw[am];exact hr⟩
 rw[uv]at this;cases this
def DZ{M:Int}(hM:0<=M):∀{l:List Od}{g:Pg}{k:Nat}{F:Int},ChP k g->OV g F->F<=M->(∀x∈l,x.fr<=100000000->x.fr<=M)->k+l.length<=900->∀(i:Nat)(h:Pg),(g::O2 g l)[i]?=some h->∃F',OV h F'/\F'<=M
 |[],g,k,F,hg,hS,hF,hl,hk,0,h,e=>by simp at e;subst e;exact⟨F,hS,hF⟩
 |[],g,k,F,hg,hS,hF,hl,hk,i+1,h,e=>by simp[O2]at e
 |o::r,g,k,F,hg,hS,hF,hl,hk,0,h,e=>by simp at e;subst e;exact⟨F,hS,hF⟩
 |o::r,g,k,F,hg,hS,hF,hl,hk,i+1,h,e=>by
  rw[O2,zzcl]at e;simp only[zzbf]at hk;have ze:∀x∈r,x.fr<=100000000->x.fr<=M:=fun x hx=>hl x (by simp[hx]);rcases aaN (o:=o) hg.ok zE hS with h1|⟨h1,h2⟩
  ·exact DZ hM (hg.step (o:=o) zE) h1.fS hF ze zE i h e
  exact DZ hM (hg.step (o:=o) zE) h1.fS (hl o zd h2) ze zE i h e
def anr{p:Pl}(hp:LU p){l:List Od}(hl:l.length<=8)(i:Nat)(g:Pg)(h:(zm p l)[i]?=some g){o:Od}(ho:∀x∈l,x.fr<=100000000->x.fr<=o.fr)(dP:o.ki=2\/o.ki=3)(hb:o.nw.bo=0)(hf:rN g o=true):
  ∀id∈(OQ g o).dr,∀x,Xn id (OQ g o).p.ens=some x->x.bo≠0->id∈g.dr:=by
 have h0:=(Qba (R3 hf).1).1.1;have hg:=L3 hp hl i g h;unfold zm at h;split at h
 ·rename_i fh;have aH:=(zza.1 h).1;rw[zzbf,rQ]at aH;obtain⟨F,h1,h2⟩:=DZ h0 (l:=l) (k:=0) ⟨(uX hp fh).fS,uY _⟩ (ant fh).fS h0 ho zE i g h;exact aaV hg.ok zE h1 h2 dP hb hf
 simp at h
