import Derived.Test.YthjppoincojfkaaGreatDoorRSRpC
set_option linter.all false
namespace Go.Proofs.YthjppoincojfkaaGreatDoor
open Go Go.Abs
def gJ:bn->List bn->Prop
 |_,[]=>True
 |a,e::r=>e.st=a.st+a.fr/\e.i=a.i+a.fr/\e.it=a.it/\gJ e r
def uj:List bn->Prop
 |[]=>True
 |e::r=>e.i=0/\gJ e r
def dm(id:Int)(L:List bn):List bn:=L.filter fun e=>decide (e.id=id)
def vg(id:Int)(a b:List bn):dm id (a++b)=dm id a++dm id b:=zzde ..
def yS(id:Int):∀L:List bn,dm id (L.map zx)=(dm id L).map zx
 |[]=>rfl
 |e::r=>by
  have ih:=yS id r;unfold dm at ih |-
  rw[zzas,zzcx,zzcx];show(if decide (e.id=id)=true then _ else _)=_;split
  ·rw[zzas,ih]
  exact ih
def OO(id f:Int):∀L:List bn,dm id (Zd f L)=Zd f (dm id L)
 |[]=>rfl
 |e::r=>by
  have ih:=OO id f r;by_cases hf:f<=e.st
  ·rw[Zd,if_pos hf,ih];unfold dm;rw[zzcx];split
   ·rw[Zd,if_pos hf]
   rfl
  rw[Zd,if_neg hf];unfold dm at ih |-
  rw[zzcx,zzcx];show(if decide (e.id=id)=true then _ else _)=_;split
  ·rw[Zd,if_neg hf,ih]
  exact ih
def gJ.nl:∀{L:List bn}{a:bn},gJ a L->gJ (zx a) (L.map zx)
 |[],_,_=>trivial
 |e::r,a,h=>⟨h.1,h.2.1,h.2.2.1,gJ.nl h.2.2.2⟩
def uj.nl:∀{L:List bn},uj L->uj (L.map zx)
 |[],_=>trivial
 |e::r,h=>⟨h.1,h.2.nl⟩
def gJ.nlA:∀{A:List bn}{a:bn}{B:List bn},gJ a (A++B)->gJ (zx a) (A.map zx++B)
 |[],a,[],_=>trivial
 |[],a,e::r,h=>h
 |x::A,a,B,h=>⟨h.1,h.2.1,h.2.2.1,gJ.nlA h.2.2.2⟩
def uj.nlA{A B:List bn}(h:uj (A++B)):uj (A.map zx++B):=by
 cases A with
 |nil=>exact h
 |cons x A=>exact⟨h.1,h.2.nlA⟩
def gJ.ge:∀{R:List bn}{a:bn},gJ a R->(∀e∈a::R,1<=e.fr)->∀x∈R,a.st+a.fr<=x.st
 |[],_,_,_,x,hx=>by cases hx
 |b::r,a,h,hp,x,hx=>by
  have hb:=hp b zd;rcases zzam.1 hx with rfl|hx
  ·have:=h.1;omega
  have:=gJ.ge h.2.2.2 (fun e he=>hp e (by simp at he |-;exact .inr he)) x hx;have h1:=h.1;omega
def yT{f:Int}:∀{R:List bn},(∀x∈R,f<=x.st)->Zd f R=[]
 |[],_=>rfl
 |b::r,h=>by rw[Zd,if_pos (h b zd),yT fun x hx=>h x (by simp[hx])]
def OP{f:Int}{a:bn}(h:a.fr<=f-a.st):DK f a=a:=by
 unfold DK;rw[if_neg zE]
def OQ{f:Int}:∀{R:List bn}{a:bn},gJ a R->(∀e∈a::R,1<=e.fr)->a.st<f->
  gJ (DK f a) (Zd f R)/\∀x∈a::R,x.st<=f->f<x.st+x.fr->∀c:bn,c.st=f->c.i=x.i+(f-x.st)->c.it=x.it->gJ (DK f a) (Zd f R++[c])
 |[],a,h,hp,ha=>by
  refine⟨trivial,fun x hx h1 h2 c c1 c2 c3=>?_⟩;rw[zzcg]at hx;subst hx;refine⟨?_,?_,c3,trivial⟩
  ·simp only[DK,if_pos (show f-x.st<x.fr by omega)];omega
  simp only[DK,if_pos (show f-x.st<x.fr by omega)];omega
 |b::R,a,h,hp,ha=>by
  obtain⟨b1,b2,b3,b4⟩:=h;have hpb:∀e∈b::R,1<=e.fr:=fun e he=>hp e (by simp at he |-;exact .inr he);have bq:=gJ.ge b4 hpb;have hb:=hp b zd;by_cases hf:f<=b.st
  ·have e0:Zd f (b::R)=[]:=yT fun x hx=>by
    rcases zzam.1 hx with rfl|hx
    ·exact hf
    have:=bq x hx;omega
   rw[e0];refine⟨trivial,fun x hx h1 h2 c c1 c2 c3=>?_⟩;rcases zzam.1 hx with rfl|hx
   ·refine⟨?_,?_,c3,trivial⟩
    ·simp only[DK,if_pos (show f-x.st<x.fr by omega)];omega
    simp only[DK,if_pos (show f-x.st<x.fr by omega)];omega
   rcases zzam.1 hx with rfl|hx
   ·rw[OP (f:=f) (a:=a) zE];exact⟨zE,zE,by rw[c3,b3],trivial⟩
   have:=bq x hx;omega
  obtain⟨i1,i2⟩:=OQ (f:=f) b4 hpb zE;have e0:Zd f (b::R)=DK f b::Zd f R:=by rw[Zd,if_neg hf]
  rw[e0,OP (f:=f) (a:=a) zE];refine⟨⟨b1,b2,b3,i1⟩,fun x hx h1 h2 c c1 c2 c3=>?_⟩;rcases zzam.1 hx with rfl|hx
  ·omega
  exact⟨b1,b2,b3,i2 x hx h1 h2 c c1 c2 c3⟩
def HG(p:Pl){id:Int}(aL:id≠0)(l:List (Int×Int)):dm id (l.map (Vd p))=[]:=by
 unfold dm;rw[zzfj];intro e he;obtain⟨x,_,rfl⟩:=zzav.1 he;show¬decide ((0:Int)=id)=true;rw[decide_eq_true_eq];exact fun h=>aL h.symm
def Qcl{p:Pl}{id:Int}(aL:id≠0):∀{l:List Sp}{a:Int},OR p l a->(∀s∈l,s.1≠0)->
  (dm id (Jh p l a)=[]/\id ∉ l.map (·.1))\/(∃s∈l,s.1=id/\∃r,dm id (Jh p l a)=pP p ((Xw s.1 p.ens).getD u7) s.2::r/\((l.map (·.1)).Nodup->r=[]))
 |[],a,h,hs=>by
  rw[Jh];exact .inl ⟨HG p aL _,zd⟩
 |s::l,a,h,hs=>by
  obtain⟨e,h1,h2,h3,h4,h5,h6,h7,h8,h9,iC⟩:=h
  have hsk:jO p s a=some e:=by
   unfold jO;rw[h1];simp only;rw[if_neg (by have:=hs s zd;omega)]
  have he:e.id=s.1:=(Qdi h1).2;rw[Jh,hsk];simp only;rw[vg,vg,HG p aL,zzai];have ih:=Qcl aL iC (fun t ht=>hs t (by simp[ht]));by_cases hx:s.1=id
  ·have e1:dm id [pP p e s.2]=[pP p e s.2]:=by
    unfold dm;rw[zzcy (by simp[pP,he,hx])];rfl
   rw[e1];refine .inr ⟨s,zd,hx,dm id (Jh p l (s.2+e.fr)),by rw[h1];rfl,fun hn=>?_⟩;rw[zzas,zzen]at hn;obtain⟨i1,_⟩|⟨t,t1,t2,_⟩:=ih
   ·exact i1
   exact(hn.1 (zzav.2 ⟨t,t1,by rw[t2,hx]⟩)).elim
  have e1:dm id [pP p e s.2]=[]:=by
   unfold dm;rw[zzdf (by simp[pP,he,hx])];rfl
  rw[e1,zzai];obtain⟨i1,i2⟩|⟨t,t1,t2,r,t3,t4⟩:=ih
  ·exact .inl ⟨i1,by simp;exact⟨fun h=>hx h.symm,Nm i2⟩⟩
  exact .inr ⟨t,by simp[t1],t2,r,t3,fun hn=>t4 (by rw[zzas,zzen]at hn;exact hn.2)⟩
def rQ{p:Pl}:∀{l:List Sp}{a:Int},OR p l a->∀s∈l,∃e,Xw s.1 p.ens=some e/\e.ea<=s.2/\s.2<=e.la/\a<=s.2
 |[],a,h,s,hs=>by cases hs
 |y::r,a,h,s,hs=>by
  obtain⟨e,h1,h2,h3,h4,h5,h6,h7,h8,h9,iC⟩:=h;rcases zzam.1 hs with rfl|hs
  ·exact⟨e,h1,h6,h7,h3⟩
  obtain⟨x,x1,x2,x3,x4⟩:=rQ iC s hs;exact⟨x,x1,x2,x3,zE⟩
def OS{L:List En}(hn:(L.map (·.id)).Nodup){x:En}(hx:x∈L):Xw x.id L=some x:=by
 induction L with
 |nil=>cases hx
 |cons y r ih=>
  rw[zzas,zzen]at hn;rw[Xw];rcases zzam.1 hx with rfl|hx
  ·rw[if_pos rfl]
  rw[if_neg (fun h=>hn.1 (zzav.2 ⟨x,hx,h.symm⟩))];exact ih hn.2 hx
structure j8 (g:Pg) (F:Int):Prop where
 run:∀id,id≠0->uj (dm id g.ev)
 sh:∀x∈g.p.ens,dm x.id g.ev=[]->x.id∈g.dr
 win:∀x∈g.p.ens,∀e r,dm x.id g.ev=e::r->F<=e.st->x.id ∉ g.dr/\x.ea<=e.st/\e.st<=x.la
def j8.eN{g:Pg}{F:Int}(h:j8 g F):j8 (eN g) F:=by
 refine⟨fun id aL=>?_,fun x hx he=>?_,fun x hx e r he hF=>?_⟩
 ·show uj (dm id (g.ev.map zx));rw[yS];exact(h.run id aL).nl
 ·have he:dm x.id (g.ev.map zx)=[]:=he;rw[yS,List.map_eq_nil_iff]at he;exact h.sh x hx he
 have he:dm x.id (g.ev.map zx)=e::r:=he;rw[yS]at he;cases hv:dm x.id g.ev with
 |nil=>rw[hv]at he;cases he
 |cons a b=>
  rw[hv,zzas,List.cons.injEq]at he;obtain⟨rfl,_⟩:=he;exact h.win x hx a b hv hF
def aaw{p:Pl}(h:DS p=0):j8 (Jl p) 0:=by
 obtain⟨hv,l,hl⟩:=HB h;have hg:Jl p=⟨p,tZ p l 0,[],0,[],0⟩:=by unfold Jl;rw[hl]
 have dA:=(Ds hv).ln;unfold Hw at hl;rw[if_neg (by rw[hv];decide)]at hl;obtain⟨e1,SH⟩:=DY hl;have iL:(l.map (·.1)).Nodup:=by rw[e1];exact aax hv
 have h0:∀s∈l,s.1≠0:=fun s hs=>by
  have:s.1∈Yz p:=by rw[<- e1];exact zzav.2 ⟨s,hs,rfl⟩
  obtain⟨x,hx,hxi⟩:=zzav.1 this;have:=(OG hv x hx).1;omega
 have gD:tZ p l 0=Jh p l 0:=by unfold tZ;rw[if_neg zE]
 rw[hg];refine⟨fun id aL=>?_,fun x hx he=>?_,fun x hx e r he _=>?_⟩
 ·show uj (dm id (tZ p l 0));rw[gD];rcases Qcl aL SH h0 with⟨i1,_⟩|⟨s,s1,s2,r,s3,s4⟩
  ·rw[i1];trivial
  rw[s3,s4 iL];exact⟨rfl,trivial⟩
 ·have he:dm x.id (tZ p l 0)=[]:=he;rw[gD]at he;have yU:x.id≠0:=by have:=(OG hv x hx).1;omega
  rcases Qcl yU SH h0 with⟨_,i2⟩|⟨s,s1,s2,r,s3,s4⟩
  ·exact(i2 (by rw[e1];exact zzav.2 ⟨x,hx,rfl⟩)).elim
  rw[s3]at he;cases he
 have he:dm x.id (tZ p l 0)=e::r:=he;rw[gD]at he;have yU:x.id≠0:=by have:=(OG hv x hx).1;omega
 rcases Qcl yU SH h0 with⟨i1,_⟩|⟨s,s1,s2,r',s3,s4⟩
 ·rw[i1]at he;cases he
 rw[s3,List.cons.injEq]at he;obtain⟨rfl,_⟩:=he;obtain⟨z,z1,z2,z3,z4⟩:=rQ SH s s1;have hz:=OS (aax hv) hx;rw[s2,hz]at z1;cases z1;exact⟨zd,z2,z3⟩
def OT:∀{ids:Pi}{K:List Bool},K.length=ids.length->∀id∈ids,id∈Xb true ids K\/id∈Xb false ids K
 |[],_,_,id,h=>by cases h
 |x::r,[],h,_,_=>by simp at h
 |x::r,k::K,h,id,hi=>by
  rw[Xb,Xb];rcases zzam.1 hi with rfl|hi
  ·cases k<;>simp
  rcases OT (Nm h) id hi with h1|h1
  ·left;split
   ·exact zzd _ h1
   exact h1
  right;split
  ·exact zzd _ h1
  exact h1
def HH:∀{ids:Pi}{K:List Bool},ids.Nodup->∀id,id∈Xb true ids K->id ∉ Xb false ids K
 |[],K,_,id,h=>by simp[Xb]at h
 |x::r,[],_,id,h=>by simp[Xb]at h
 |x::r,k::K,hn,id,h=>by
  rw[zzen]at hn;have ih:=HH (K:=K) hn.2 id;have hs1:=(Kk true r K).subset;have J7:=(Kk false r K).subset;rw[Xb]at h |-
  cases k with
  |true=>
   simp at h |-
   obtain rfl|h:=h
   ·exact fun hc=>hn.1 (J7 hc)
   exact ih h
  |false=>
   simp at h |-
   exact⟨fun hc=>hn.1 (by rw[<- hc];exact hs1 h),ih h⟩
def afR(f id:Int)(L:List bn):gG (Xn f L []) id=true<->∃e∈L,e.id=id/\e.st<f:=by
 rw[afS];unfold R2;rw[zzbq];constructor
 ·rintro⟨e,he,h⟩;rw[zzac,decide_eq_true_eq,decide_eq_true_eq]at h;exact⟨e,he,h⟩
 rintro⟨e,he,h1,h2⟩;exact⟨e,he,by rw[zzac,decide_eq_true_eq,decide_eq_true_eq];exact⟨h1,h2⟩⟩
def vh{id:Int}{e:bn}{L:List bn}:e∈dm id L<->e∈L/\e.id=id:=by
 unfold dm;rw[zzca,decide_eq_true_eq]
def HI{g:Pg}{f:Int}{b:QR}{o:Od}{q:Pl}{d:Int}{c:bn}(he:zw g f b o q d=some c):
  ∃x∈g.ev,x.st<=f/\f<x.st+x.fr/\x.id≠0/\gG b x.id=true/\c.id=x.id/\c.st=f/\c.i=x.i+(f-x.st)/\c.it=x.it:=by
 unfold zw at he;cases hp:Ul g f b with
 |none=>rw[hp]at he;cases he
 |some x=>
  rw[hp]at he;simp only at he;cases hF:DI g f o q d x with
  |none=>rw[hF]at he;cases he
  |some F=>
   rw[hF]at he;simp only at he;split at he
   ·cases he
   cases he;unfold Ul at hp;cases hfd:g.ev.find? (ua f)with
   |none=>rw[hfd]at hp;cases hp
   |some y=>
    rw[hfd]at hp;simp only at hp;split at hp
    ·cases hp
    split at hp
    ·cases hp;rename_i h1 h2;have h3:=zzfp hfd;simp only[ua,decide_eq_true_eq]at h3;exact⟨x,zzdt hfd,h3.1,h3.2,h1,h2,rfl,rfl,rfl,rfl⟩
    cases hp
def L5{k:Nat}{g:Pg}{o:Od}{q:Pl}{d:Int}{F:Int}(h:dJ k g)(hk:k<=900)(hO:j8 g F)(hv:Vq o=true)(hc:Jk g o.fr (Xn o.fr g.ev []) o=some (q,d)):j8 (SV g o (Xn o.fr g.ev []) q d) o.fr:=by
 obtain⟨v1,v2,v3,v4⟩:=qb hv;obtain⟨c1,c2,c3,c4⟩:=j6 hc;obtain⟨n1,n2,n3,n4⟩:=LW h hk v1.1 hc;generalize hf:o.fr=f at*
 generalize hb:Xn f g.ev []=b at*
 have hbg:∀id,gG b id=true<->∃e∈g.ev,e.id=id/\e.st<f:=fun id=>by rw[<- hb];exact afR f id g.ev
 have iL:=aax c3;obtain⟨ka,kb,_⟩:=yN q (Uc g f b o q d) (mG g f b o q d) (Yp g b q.ens);obtain⟨l,hl⟩:=zzbz.1 kb;have bY:Vt g f b o q d=l:=by unfold Vt RS;rw[hl];rfl
 obtain⟨e1,SH⟩:=DY hl;have hE:Uc g f b o q d<=q.ln:=n2
 have afT:∀id,id∈Yp g b q.ens<->∃x∈q.ens,x.id=id/\gG b id=false/\id ∉ g.dr:=fun id=>by
  unfold Yp;rw[zzav];constructor
  ·rintro⟨x,hx,rfl⟩;obtain⟨x1,x2⟩:=zzca.1 hx;unfold RQ at x2;rw[zzac,zzdg,zzdg,decide_eq_false_iff_not]at x2;exact⟨x,x1,rfl,x2⟩
  rintro⟨x,hx,rfl,h1,h2⟩;refine⟨x,zzca.2 ⟨hx,?_⟩,rfl⟩;unfold RQ;rw[zzac,zzdg,zzdg,decide_eq_false_iff_not];exact⟨h1,h2⟩
 have atK:(Yp g b q.ens).Nodup:=by
  unfold Yp;exact List.Sublist.nodup (List.Sublist.map _ (List.filter_sublist)) iL
 have JW:∀id,id∈l.map (·.1)<->id∈Xb true (Yp g b q.ens) (RS g f b o q d):=fun id=>by rw[e1];rfl
 have dA:(l.map (·.1)).Nodup:=by rw[e1];exact(Kk true _ _).nodup atK
 have iK:∀id∈l.map (·.1),id∈Yp g b q.ens:=fun id aL=>(Kk true _ _).subset ((JW id).1 aL)
 have h0:∀s∈l,s.1≠0:=fun s hs=>by
  obtain⟨x,hx,hxi,_⟩:=(afT s.1).1 (iK s.1 (zzav.2 ⟨s,hs,rfl⟩));have:=(OG c3 x hx).1;omega
 have hB:Wd g f b o q d=Jh q l (Uc g f b o q d):=by
  unfold Wd tZ;rw[if_neg zE,bY]
 have bP:∀id,dm id (SV g o b q d).ev=(Zd f (dm id g.ev)).map zx++(dm id (zw g f b o q d).toList++dm id (Jh q l (Uc g f b o q d))):=fun id=>by
  show dm id (Us g o.fr b o q d++Wd g o.fr b o q d)=_;rw[hf,hB];unfold Us;rw[vg,vg,yS,OO,zzbf]
 have ij:∀id,∀e∈dm id g.ev,1<=e.fr:=fun id e he=>(h.ch.mem e (vh.1 he).1).2.1
 have begun:∀id,id≠0->gG b id=true->∃a R,dm id g.ev=a::R/\a.st<f/\dm id (Jh q l (Uc g f b o q d))=[]/\Zd f (dm id g.ev)=DK f a::Zd f R/\uj (Zd f (dm id g.ev)++dm id (zw g f b o q d).toList):=by
  intro id aL cz;obtain⟨e,he,hei,hes⟩:=(hbg id).1 cz;have hr:=hO.run id aL;have hp:=ij id;have hem:e∈dm id g.ev:=vh.2 ⟨he,hei⟩;cases hR:dm id g.ev with
  |nil=>rw[hR]at hem;cases hem
  |cons a R=>
   rw[hR]at hr hp hem
   have ha:a.st<f:=by
    rcases zzam.1 hem with rfl|hem
    ·exact hes
    have:=gJ.ge hr.2 hp e hem;have:=hp a zd;omega
   have hbn:dm id (Jh q l (Uc g f b o q d))=[]:=by
    rcases Qcl aL SH h0 with⟨i1,_⟩|⟨s,s1,s2,_⟩
    ·exact i1
    obtain⟨x,hx,hxi,QK,_⟩:=(afT id).1 (iK id (zzav.2 ⟨s,s1,s2⟩));rw[cz]at QK;cases QK
   have hbf:Zd f (a::R)=DK f a::Zd f R:=by rw[Zd,if_neg zE]
   refine⟨a,R,rfl,ha,hbn,hbf,?_⟩;obtain⟨r1,r2⟩:=OQ hr.2 hp ha;rw[hbf];cases oo:zw g f b o q d with
   |none=>
    show uj ((DK f a::Zd f R)++[]);rw[zzar];exact⟨hr.1,r1⟩
   |some c=>
    obtain⟨x,x1,x2,x3,x4,x5,x6,x7,x8,x9⟩:=HI oo;by_cases hci:c.id=id
    ·have e2:dm id (some c).toList=[c]:=by
      show List.filter _ [c]=[c];rw[zzcy (Nm hci)];rfl
     rw[e2];have hxm:x∈a::R:=by rw[<- hR];exact vh.2 ⟨x1,by rw[<- x6];exact hci⟩
     exact⟨hr.1,r2 x hxm x2 x3 c x7 x8 x9⟩
    have e2:dm id (some c).toList=[]:=by
     show List.filter _ [c]=[];rw[zzdf (Nm hci)];rfl
    rw[e2,zzar];exact⟨hr.1,r1⟩
 have fresh:∀id,gG b id=false->dm id (SV g o b q d).ev=dm id (Jh q l (Uc g f b o q d)):=by
  intro id cz;rw[bP id]
  have h1:Zd f (dm id g.ev)=[]:=yT fun x hx=>by
   obtain⟨x1,x2⟩:=vh.1 hx;rcases zzex x.st f with hc|hc
   ·have:=(hbg id).2 ⟨x,x1,x2,hc⟩;rw[cz]at this;cases this
   exact hc
  have h2:dm id (zw g f b o q d).toList=[]:=by
   cases oo:zw g f b o q d with
   |none=>rfl
   |some c=>
    obtain⟨x,x1,x2,x3,x4,x5,x6,x7,x8,x9⟩:=HI oo;show List.filter _ [c]=[]
    rw[zzdf (by
     simp only[decide_eq_true_eq];intro hci;rw[<- x6,hci,cz]at x5;cases x5)]
    rfl
  rw[h1,h2];rfl
 have ei:∀id,id∈(SV g o b q d).dr<->id∈g.dr\/id∈Xb false (Yp g b q.ens) (RS g f b o q d):=fun id=>by
  show id∈dd (Jc (g.dr++Kz g o.fr b o q d))<->_;rw[C1,(aay _).2,zzao,hf];rfl
 refine⟨fun id aL=>?_,fun x hx he=>?_,fun x hx e r he hF=>?_⟩
 ·cases cz:gG b id with
  |true=>
   obtain⟨a,R,a1,a2,a3,a4,a5⟩:=begun id aL cz;rw[bP id,a3,zzar];exact a5.nlA
  |false=>
   rw[fresh id cz];rcases Qcl aL SH h0 with⟨i1,_⟩|⟨s,s1,s2,r,s3,s4⟩
   ·rw[i1];trivial
   rw[s3,s4 dA];exact⟨rfl,trivial⟩
 ·have hx:x∈q.ens:=hx;have yU:x.id≠0:=by have:=(OG c3 x hx).1;omega
  rw[ei];cases cz:gG b x.id with
  |true=>
   obtain⟨a,R,a1,a2,a3,a4,a5⟩:=begun x.id yU cz;rw[bP,a4]at he;simp at he
  |false=>
   by_cases hd:x.id∈g.dr
   ·exact .inl hd
   right;have hi:x.id∈Yp g b q.ens:=(afT _).2 ⟨x,hx,rfl,cz,hd⟩;rcases OT ka x.id hi with hs|hs
   ·rw[fresh _ cz]at he;rcases Qcl yU SH h0 with⟨_,i2⟩|⟨s,s1,s2,r,s3,s4⟩
    ·exact(i2 ((JW _).2 hs)).elim
    rw[s3]at he;cases he
   exact hs
 have hx:x∈q.ens:=hx;have yU:x.id≠0:=by have:=(OG c3 x hx).1;omega
 cases cz:gG b x.id with
 |true=>
  obtain⟨a,R,a1,a2,a3,a4,a5⟩:=begun x.id yU cz;rw[bP,a4,zzas,zzae,List.cons.injEq]at he;obtain⟨rfl,_⟩:=he;have:f<=a.st:=hF;omega
 |false=>
  rw[fresh _ cz]at he;rcases Qcl yU SH h0 with⟨i1,_⟩|⟨s,s1,s2,r',s3,s4⟩
  ·rw[i1]at he;cases he
  rw[s3,List.cons.injEq]at he;obtain⟨rfl,_⟩:=he;obtain⟨z,z1,z2,z3,z4⟩:=rQ SH s s1;have hz:=OS iL hx;rw[s2,hz]at z1;cases z1;refine⟨?_,z2,z3⟩;have hm:x.id∈l.map (·.1):=zzav.2 ⟨s,s1,s2⟩;obtain⟨_,_,_,_,ayg⟩:=(afT x.id).1 (iK _ hm);rw[ei];rintro(hc|hc)
  ·exact ayg hc
  exact HH atK _ ((JW _).1 hm) hc
def L6{k:Nat}{g:Pg}{o:Od}{F:Int}(h:dJ k g)(hk:k<=900)(hO:j8 g F):j8 (Zn g o) (iH g o F):=by
 cases hf:nY g o with
 |false=>
  have e:iH g o F=F:=by unfold iH;rw[if_neg (by rw[hf];simp)]
  rw[e,atM hf];exact⟨hO.run,hO.sh,hO.win⟩
 |true=>
  have hc:Uu g o=true:=by unfold nY at hf;rw[zzac]at hf;exact hf.1
  have hv:Vq o=true:=by unfold Uu at hc;rw[zzac]at hc;exact hc.1
  by_cases h5:o.ki=5
  ·have e:iH g o F=F:=by unfold iH;rw[if_neg (by simp[h5])]
   rw[e];unfold Zn;rw[hc,if_neg (by decide),if_pos h5];cases Ae o.cu g.cu<;>exact⟨hO.run,hO.sh,hO.win⟩
  have e:iH g o F=o.fr:=by unfold iH;rw[if_pos ⟨h5,hf⟩]
  rw[e]
  have hx:(Jk g o.fr (Xn o.fr g.ev []) o).isSome=true:=by
   unfold nY at hf;rw[hc,if_neg h5,zzdo]at hf;exact hf
  obtain⟨⟨q,d⟩,hqd⟩:=zzbz.1 hx
  have hap:Zn g o=SV g o (Xn o.fr g.ev []) q d:=by
   unfold Zn;rw[hc,if_neg (by decide),if_neg h5,hqd]
  rw[hap];exact L5 h hk hO hv hqd
