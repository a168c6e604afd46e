import Derived.Test.YthjppoincojfkaaGreatDoorRAMfR
set_option linter.all false
set_option maxRecDepth 100000
set_option maxHeartbeats 64000000
namespace Go.Proofs.YthjppoincojfkaaGreatDoor
open Go Go.Abs
def j7(o:Od):Od:={o with nw:={o.nw with al:=o.nw.al.take 9},cu:={o.cu with tx:=o.cu.tx.extract 0 (if 300<o.cu.tx.size then 300 else o.cu.tx.size)}}
def mxJ(a b:Int):Int:=if a<b then b else a
def afT(o:Od)(last:Int):Od:={j7 o with fr:=mxJ o.fr last}
def RW(o:Od)(last:Int):Int:=if mxJ o.fr last<=100000000 then mxJ o.fr last else last
def oh:Nat->List Od->Int->List Od
 |0,_,_=>[]
 |_+1,[],_=>[]
 |n+1,o::r,last=>afT o last::oh n r (RW o last)
def yR(l:List Od):List Od:=oh 8 l 0
def afU(o:Od)(last:Int):last<=RW o last:=by unfold RW mxJ;split<;>split<;>omega
def H6:∀(n:Nat)(l:List Od)(last:Int),(oh n l last).length<=n
 |0,_,_=>by simp[oh]
 |n+1,[],_=>by simp[oh]
 |n+1,o::r,last=>by have:=H6 n r (RW o last);simp[oh];omega
def OM:∀(n:Nat)(l:List Od)(last:Int),∀o∈oh n l last,qf o/\last<=o.fr
 |0,_,_,_,h=>by simp[oh]at h
 |n+1,[],_,_,h=>by simp[oh]at h
 |n+1,a::r,last,o,h=>by
  rw[oh]at h;rcases zzao.1 h with rfl|h
  ·refine⟨by simp[qf,afT,j7];omega,?_⟩;show last<=mxJ a.fr last;unfold mxJ;split<;>omega
  have h1:=OM n r _ o h;have h2:=afU a last;exact⟨h1.1,zE⟩
def qi(l:List Od):(yR l).length<=8:=H6 8 l 0
def va(l:List Od):∀o∈yR l,qf o/\0<=o.fr:=OM 8 l 0
def Xq(g:Pg)(o:Od):Pg:=eN (Xh g o)
def Kv:Pg->List Od->List Pg
 |_,[]=>[]
 |g,o::r=>Xq g o::Kv (Xq g o) r
def u9(p:Pl)(l:List Od):List Pg:=if DO p=0 then eN (tw p)::Kv (eN (tw p)) l else[]
def BN:∀(g:Pg)(l:List Od),(Kv g l).length=l.length
 |_,[]=>rfl
 |g,o::r=>by rw[Kv,zzbd,zzbd,BN]
def vh(g:Pg):eN (eN g)=eN g:=by
 unfold eN;simp only[zzcu];congr 1
def Qef(g:Pg)(o:Od):Qh (Xq g o)=Qh (Xh g o):=lu _
structure ChP (k:Nat) (g:Pg):Prop where
 ok:dy k g
 nn:eN g=g
def ChP.step{k:Nat}{g:Pg}{o:Od}(h:ChP k g)(hk:k<=900):ChP (k+1) (Xq g o):=⟨(rT h.ok hk).eN,vh _⟩
def ON:∀{l:List Od}{g:Pg}{k:Nat},ChP k g->k+l.length<=900->∀(i:Nat)(h:Pg),(g::Kv g l)[i]?=some h->ChP (k+i) h
 |[],g,k,hg,hk,0,h,e=>by simp at e;subst e;exact hg
 |[],g,k,hg,hk,i+1,h,e=>by simp[Kv]at e
 |o::r,g,k,hg,hk,0,h,e=>by simp at e;subst e;exact hg
 |o::r,g,k,hg,hk,i+1,h,e=>by
  rw[Kv,zzcm]at e;simp only[zzbd]at hk;have:=ON (hg.step (o:=o) zE) zE i h e;rw[show k+(i+1)=k+1+i by omega];exact this
def BO:∀{l:List Od}{g:Pg}(i:Nat)(h:Pg)(o:Od),l[i]?=some o->(g::Kv g l)[i]?=some h->(g::Kv g l)[i+1]?=some (Xq h o)
 |[],g,i,h,o,hl,e=>by simp at hl
 |a::r,g,0,h,o,hl,e=>by simp at hl e;subst hl;subst e;simp[Kv]
 |a::r,g,i+1,h,o,hl,e=>by
  rw[Kv,zzcm]at e |-
  exact BO i h o (Nm hl) e
def yS{p:Pl}(hp:LQ p){l:List Od}(hl:l.length<=8)(i:Nat)(g:Pg)(h:(u9 p l)[i]?=some g):ChP i g:=by
 unfold u9 at h;split at h
 ·rename_i hb;have:=ON (l:=l) (g:=eN (tw p)) (k:=0) ⟨(u6 hp hb).eN,vh _⟩ zE i g h;rw[zzbs]at this;exact this
 simp at h
def HP{p:Pl}{l:List Od}{i:Nat}{g:Pg}{o:Od}(ho:l[i]?=some o)(h:(u9 p l)[i]?=some g):(u9 p l)[i+1]?=some (Xq g o):=by
 unfold u9 at h |-
 split at h
 ·rename_i hb;rw[if_pos hb];exact BO i g o ho h
 simp at h
def vf(p:Pl)(l:List Od):(u9 p l).length=if DO p=0 then l.length+1 else 0:=by
 unfold u9;split
 ·rw[zzbd,BN]
 rfl
def RL{g:Pg}{o:Od}(h:rU g o=true):Vi o=true/\(o.ch= -1\/o.ch=g.p.ch):=by
 unfold rU at h;rw[zzac]at h;have h1:=h.1;unfold Vb at h1;rw[zzac,zzfl,decide_eq_true_eq,decide_eq_true_eq]at h1;exact h1
def atU{g:Pg}{o:Od}(h:rU g o=false):Xh g o={g with ve:=g.ve+1}:=by
 unfold rU at h;unfold Xh;cases hc:Vb g o with
 |false=>simp
 |true=>
  rw[hc,zzds]at h;rw[if_neg (by decide)];by_cases hk:o.ki=5
  ·rw[if_pos hk]at h |-
   cases he:uo o.cu g.cu with
   |none=>rfl
   |some x=>rw[he]at h;cases h
  rw[if_neg hk]at h |-
  cases he:Ue g o.fr (Xm o.fr g.ev []) o with
  |none=>rfl
  |some x=>rw[he]at h;cases h
def L5{k:Nat}{g:Pg}{o:Od}(hg:ChP k g)(h:rU g o=false):{Xq g o with ve:=g.ve}=g:=by
 unfold Xq;rw[atU h];have:=hg.nn;unfold eN at this |-
 simpa using this
def iL(lo up:Int):List bC->Prop
 |[]=>lo=up
 |e::r=>e.st=lo/\1<=e.fr/\0<=e.i/\iL (e.st+e.fr) up r
def iL.app{m up:Int}{B:List bC}(hB:iL m up B):∀{A:List bC}{lo:Int},iL lo m A->iL lo up (A++B)
 |[],lo,h=>by rw[iL]at h;subst h;exact hB
 |e::r,lo,h=>⟨h.1,h.2.1,h.2.2.1,iL.app hB h.2.2.2⟩
def iL.nl{up:Int}:∀{L:List bC}{lo:Int},iL lo up L->iL lo up (L.map IG)
 |[],lo,h=>h
 |e::r,lo,h=>⟨h.1,h.2.1,h.2.2.1,iL.nl h.2.2.2⟩
def iL.le{up:Int}:∀{L:List bC}{lo:Int},iL lo up L->lo<=up
 |[],lo,h=>by rw[iL]at h;omega
 |e::r,lo,h=>by obtain⟨h1,h2,h3,h4⟩:=h;have:=iL.le h4;omega
def iL.LP{up f:Int}:∀{L:List bC}{lo:Int},iL lo up L->f<=lo->Vu f L=[]
 |[],lo,h,hf=>rfl
 |e::r,lo,h,hf=>by
  obtain⟨h1,h2,h3,h4⟩:=h;rw[Vu,if_pos zE];exact iL.LP h4 zE
def iL.bef{up f:Int}:∀{L:List bC}{lo:Int},iL lo up L->lo<=f->f<=up->iL lo f (Vu f L)
 |[],lo,h,hf,hu=>by rw[iL]at h;show lo=f;omega
 |e::r,lo,h,hf,hu=>by
  obtain⟨h1,h2,h3,h4⟩:=h;rw[Vu];by_cases hs:f<=e.st
  ·rw[if_pos hs,iL.LP h4 zE];show lo=f;omega
  rw[if_neg hs];by_cases hl:f-e.st<e.fr
  ·rw[iL.LP h4 zE];refine⟨h1,?_,h3,?_⟩
   ·simp only[nZ,if_pos hl];omega
   show(nZ f e).st+(nZ f e).fr=f;simp only[nZ,if_pos hl];omega
  have:=iL.bef h4 (f:=f) zE hu;refine⟨h1,?_,h3,?_⟩
  ·simp only[nZ,if_neg hl];exact h2
  simp only[nZ,if_neg hl];exact this
def ai6(p:Pl)(fr t:Int):∀(n:Nat)(a:Int),(t-a).toNat<=n->a<=t->iL a t ((Va fr t a).map (Vg p)):=by
 intro n;induction n with
 |zero=>intro a h ha;rw[Va,if_neg zE];show a=t;omega
 |succ n ih=>
  intro a h ha;rw[Va];split
  ·have hN:1<=Yg fr t a/\Yg fr t a<=t-a:=by unfold Yg;split<;>omega
   have:=ih (a+Yg fr t a) zE zE;exact⟨rfl,hN.1,zzbu _,this⟩
  show a=t;omega
def aaJ(p:Pl):∀(l:List Sp)(a:Int),a<=p.ln->iL a p.ln (ud p l a)
 |[],a,ha=>by rw[ud];exact ai6 p _ _ _ a (zzab _) ha
 |s::r,a,ha=>by
  rw[ud];cases hs:mz p s a with
  |none=>exact aaJ p r a ha
  |some e=>
   obtain⟨h1,h2,h3,h4⟩:=yJ hs;simp only[zzbe];refine iL.app ?_ (ai6 p _ _ _ a (zzab _) h3);exact⟨rfl,h2,zzbu _,aaJ p r _ h4⟩
def ai7(p:Pl)(l:List Sp)(a:Int)(h0:0<=a)(h1:a<=p.ln):iL a p.ln (Bf p l a):=by
 unfold Bf;rw[if_neg zE];exact aaJ p l a h1
def atV{k:Nat}{g:Pg}{f:Int}{b:QR}{o:Od}{q:Pl}{d:Int}(h:dy k g)(ht:iL 0 g.p.ln g.ev)(hk:k<=900)(hf:0<=f)(hc:Ue g f b o=some (q,d)):
  iL 0 (Jh g f b o q d) (Uj g f b o q d):=by
 obtain⟨c1,c2,c3,c4⟩:=Qdp hc;have hb:=(ht.bef (f:=f) hf zE).nl;unfold Jh Uj;cases cE:iD g f b o q d with
 |none=>
  simp only[Option.toList_none,zzar];exact hb
 |some e=>
  obtain⟨e1,e2,e3,e4⟩:=DR h hk hf hc cE;simp only[zzg];refine iL.app ?_ hb;exact⟨e1,e2,e4.1,by show e.st+e.fr=f+e.fr;rw[e1]⟩
def D1(g:Pg):Prop:=iL 0 g.p.ln g.ev
def D1.eN{g:Pg}(h:D1 g):D1 (eN g):=iL.nl h
def aaK{k:Nat}{g:Pg}{o:Od}(h:dy k g)(hk:k<=900)(ht:D1 g):D1 (Xh g o):=by
 unfold Xh;split
 ·exact ht
 rename_i hc;split
 ·cases he:uo o.cu g.cu with
  |none=>exact ht
  |some x=>exact ht
 cases hx:Ue g o.fr (Xm o.fr g.ev []) o with
 |none=>exact ht
 |some r=>
  obtain⟨q,d⟩:=r
  have hv:Vi o=true:=by
   have hc:Vb g o=true:=by simpa using hc
   unfold Vb at hc;rw[zzac]at hc;exact hc.1
  obtain⟨v1,v2,v3,v4⟩:=j6 hv;obtain⟨n1,n2,n3,n4⟩:=DS h hk v1.1 hx;have eR:=ai7 q (Vv g o.fr (Xm o.fr g.ev []) o q d) _ zE n2;exact iL.app eR (atV h ht hk v1.1 hx)
def atW{p:Pl}(h:DO p=0):D1 (tw p):=by
 obtain⟨hv,l,hl⟩:=HA h;unfold tw;rw[hl];have QB:=Dx hv;exact ai7 p l 0 (zzbu _) (by have:=QB.ln;omega)
def aaL:∀{l:List Od}{g:Pg}{k:Nat},ChP k g->D1 g->k+l.length<=900->∀(i:Nat)(h:Pg),(g::Kv g l)[i]?=some h->D1 h
 |[],g,k,hg,ht,hk,0,h,e=>by simp at e;subst e;exact ht
 |[],g,k,hg,ht,hk,i+1,h,e=>by simp[Kv]at e
 |o::r,g,k,hg,ht,hk,0,h,e=>by simp at e;subst e;exact ht
 |o::r,g,k,hg,ht,hk,i+1,h,e=>by
  rw[Kv,zzcm]at e;simp only[zzbd]at hk;exact aaL (hg.step (o:=o) zE) (aaK hg.ok zE ht).eN zE i h e
def atF{p:Pl}(hp:LQ p){l:List Od}(hl:l.length<=8)(i:Nat)(g:Pg)(h:(u9 p l)[i]?=some g):D1 g:=by
 unfold u9 at h;split at h
 ·rename_i hb;exact aaL (l:=l) (k:=0) ⟨(u6 hp hb).eN,vh _⟩ (atW hb).eN zE i g h
 simp at h
def shw(x:Int)(e:Option bC):Option (List Sp×Int×Int×Int×Int):=e.map fun e=>(e.al,e.i+x-e.st,e.id,e.it,e.re)
def D2{f x:Int}(hx:x<f):∀L:List bC,shw x (Yt x (Vu f L))=shw x (Yt x L)
 |[]=>rfl
 |e::r=>by
  rw[Vu];by_cases hs:f<=e.st
  ·rw[if_pos hs,Yt];have:Uc x e=false:=by unfold Uc;rw[decide_eq_false_iff_not];omega
   rw[this,if_neg (by decide)];exact D2 hx r
  rw[if_neg hs,Yt,Yt]
  have:Uc x (nZ f e)=Uc x e:=by
   unfold Uc nZ;rw[decide_eq_decide];simp only;split<;>omega
  rw[this];cases Uc x e with
  |true=>rfl
  |false=>exact D2 hx r
def Mb(x:Int):∀L:List bC,shw x (Yt x (L.map IG))=shw x (Yt x L)
 |[]=>rfl
 |e::r=>by
  rw[zzaz,Yt,Yt];have:Uc x (IG e)=Uc x e:=rfl;rw[this];cases Uc x e with
  |true=>rfl
  |false=>exact Mb x r
def yZ(x:Int):∀A B:List bC,Yt x (A++B)=(Yt x A).or (Yt x B)
 |[],B=>rfl
 |e::r,B=>by
  rw[zzad,Yt,Yt];cases Uc x e with
  |true=>rfl
  |false=>exact yZ x r B
def eV.atX{up x:Int}:∀{L:List bC}{lo:Int},eV lo up L->x<lo->Yt x L=none
 |[],lo,h,hx=>rfl
 |e::r,lo,h,hx=>by
  obtain⟨h1,h2,h3⟩:=h;have:Uc x e=false:=by unfold Uc;rw[decide_eq_false_iff_not];omega
  rw[Yt,this,if_neg (by decide)];exact eV.atX h3 zE
def afM{k:Nat}{g:Pg}{o:Od}{x:Int}(h:dy k g)(hk:k<=900)(hx:x<o.fr):shw x (Yt x (Xq g o).ev)=shw x (Yt x g.ev):=by
 show shw x (Yt x ((Xh g o).ev.map IG))=_;rw[Mb];unfold Xh;split
 ·rfl
 rename_i hc;split
 ·cases he:uo o.cu g.cu with
  |none=>rfl
  |some y=>rfl
 cases zb:Ue g o.fr (Xm o.fr g.ev []) o with
 |none=>rfl
 |some r=>
  obtain⟨q,d⟩:=r
  have hv:Vi o=true:=by
   have hc:Vb g o=true:=by simpa using hc
   unfold Vb at hc;rw[zzac]at hc;exact hc.1
  obtain⟨v1,v2,v3,v4⟩:=j6 hv;obtain⟨n1,n2,n3,n4⟩:=DS h hk v1.1 zb;have eR:=Oy q (Vv g o.fr (Xm o.fr g.ev []) o q d) _ zE n2;show shw x (Yt x (Uj g o.fr (Xm o.fr g.ev []) o q d++Hr g o.fr (Xm o.fr g.ev []) o q d))=_;have h2:Yt x (Hr g o.fr (Xm o.fr g.ev []) o q d)=none:=eV.atX eR zE;rw[yZ,h2,Option.or_none];unfold Uj
  have h3:Yt x (iD g o.fr (Xm o.fr g.ev []) o q d).toList=none:=by
   cases cE:iD g o.fr (Xm o.fr g.ev []) o q d with
   |none=>rfl
   |some e=>
    obtain⟨e1,e2,e3,e4⟩:=DR h hk v1.1 zb cE;have:Uc x e=false:=by unfold Uc;rw[decide_eq_false_iff_not];omega
    show(if Uc x e=true then some e else none)=none;rw[this,if_neg (by decide)]
  rw[yZ,h3,Option.or_none,Mb,D2 hx]
structure PlL (p:Pl):Prop where
 sh:LQ p
 al:∀e∈p.ens,e.al.length<=8796093022208
 ea:∀e∈p.ens,e.ea<=9223372036854775807
open Go Go.Abs
theorem Mc(o:Od)(last:Int):Qq (afT o last)=[I o.sq,I o.ch,I (mxJ o.fr last),I o.ki,I o.en,I o.n,I o.nw.id,I o.nw.it,I o.nw.fr,I o.nw.ea,I o.nw.la,I o.nw.bo,.sl .ro (List.map Qe (List.take 9 o.nw.al)),
  I o.cl.ki,I o.cl.it,I o.cl.fr,I o.cl.to,I o.cl.re,I o.cl.n,I o.cl.a,I o.cl.b,I o.cu.id,I o.cu.fr,I o.cu.to,I o.cu.pr,.str (o.cu.tx.extract 0 (if 300<o.cu.tx.size then 300 else o.cu.tx.size))]:=rfl
def aan(o:Od):Pure Tryz.prog aD 24 [.agg (Qq o)] (.agg (Qq (j7 o))):=by
 have t1:List.take (if(9:Int)<(o.nw.al.length:Int)then(9:Int)else(o.nw.al.length:Int)).toNat (o.nw.al.map Qe)=List.take 9 (o.nw.al.map Qe):=by
  have:=Qdy (o.nw.al.map Qe) 9;rw[zzbt]at this;exact this
 have a1:=th (a:=o.nw.al.length) 9;have b1:=tj (a:=o.nw.al.length) 9;have a2:=th (a:=o.cu.tx.size) 300;have b2:=tj (a:=o.cu.tx.size) 300
 have e2:(if(300:Int)<(o.cu.tx.size:Int)then(300:Int)else(o.cu.tx.size:Int)).toNat=if 300<o.cu.tx.size then 300 else o.cu.tx.size:=by
  by_cases h:300<o.cu.tx.size
  ·rw[if_pos h,if_pos zE];rfl
  rw[if_neg h,if_neg zE];omega
 simp at a1 b1 a2 b2;refine Qo ajs (fun _ _ _=>.junk) zd ?_;simp[aoi,aoj,Qq,Qd,Qg,Qi,j7,t1,a1,b1,a2,b2,e2];rintro row a b _ rfl;rfl
def ayf(o:List Od)(rt:Rt)(ls:Pa):Prop:=(o=[]/\rt=.nil/\ls=[])\/(o≠[]/\rt=.own 0 26/\ls=[o.length])
def atY(l:List Od)(f:Nat->AV)(m:AM):Prop:=
 ∃(i:Nat)(out:List Od)(last:Int)(rt:Rt)(ls:Pa)(bx:T5),f 5=I i/\i<=l.length/\i<=8/\f 3=.sl rt (out.map Qq)/\f 4=I last/\ayf out rt ls/\out.length=i/\out++oh (8-i) (l.drop i) last=yR l/\m=⟨bx,ls,fun _=>.gone,0⟩
def ql:UV:=fun _ f l=>if f=24 then(match l with
 |[.agg cs]=>.agg (Qq (j7 (dOd cs)))
 |_=>.junk)else .junk
def RX(l:List Od)(hl:l.length<=1000000000000):∃rt,Pure Tryz.prog aD 12 [.sl .ro (l.map Qq)] (.sl rt ((yR l).map Qq)):=by
 refine⟨if yR l=[]then .nil else .ro,Qo ajl ql zd ?_⟩;simp[ajk];refine Qk r6 (atY l) (fun f _=>l.length-(numOf (f 5)).toNat) ?_ ?_
 ·exact⟨0,[],0,.nil,[],[],zd,zE,zE,zd,zd,.inl ⟨rfl,rfl,rfl⟩,rfl,rfl,rfl⟩
 rintro f m ⟨i,out,last,rt,ls,bx,f5,hi,h8,f3,f4,hO,FP,hr,rfl⟩;rcases zzaa i l.length with ai|bn
 ·have aa:(i:Int)<(l.length:Int):=zE
  rcases zzaa i 8 with hl8|hg8
  ·have hi8:(i:Int)<8:=zE
   obtain⟨o,ho⟩:=aV ai;have ah:Qj (l.map Qq) i=Qq o:=Qu (by simp[ho]);have hw:=bO i zE;have hd:l.drop i=o::l.drop (i+1):=by rw[zzag ai,(zza.1 ho).2]
   rw[hd,show 8-i=(8-(i+1))+1 by omega,oh]at hr;have k24:=aan o;have sD:=Qep o;have Ge:=Mc o last;have hx:mxJ o.fr last=if o.fr<last then last else o.fr:=rfl;have hN:RW o last=if mxJ o.fr last<=100000000 then mxJ o.fr last else last:=rfl;rw[hx]at Ge hN;generalize hM:(if o.fr<last then last else o.fr)=M at*
   generalize hC:afT o last=C at*
   simp only[Qq,Qd,Qg,Qi,j7,zzad,zzai,zzgf]at ah k24 sD;simp only[zzgf]at Ge;have zB:(out++[C])++oh (8-(i+1)) (l.drop (i+1)) (RW o last)=yR l:=by rw[<- hr];simp
   by_cases hm:M<=100000000
   ·rw[if_pos hm]at hN;rw[hN]at zB;obtain⟨rfl,rfl,rfl⟩|⟨h0,rfl,rfl⟩:=hO
    ·simp[f5,f3,f4,r6,aa,hi8,hw,ah,ql,sD,hM,hm,j7,Qq,Qd,Qg,Qi];refine⟨k24,ag ?_,⟨i+1,[]++[C],M,.own 0 26,[1],_,zd,zE,zE,by simp[Ge],zd,.inr ⟨zd,rfl,zd⟩,by simp at FP |-;omega,zB,rfl⟩,zE⟩;repeat(first|exact Qb _ _|refine Qc _ rfl ?_)
    simp[f5,f3,f4,r6,aa,hi8,hw,ah,ql,sD,hM,hm,j7,Qq,Qd,Qg,Qi];refine⟨k24,⟨?_,zE⟩,aQ,⟨i+1,out++[C],M,.own 0 26,[out.length+1],_,zd,zE,zE,by simp[Ge],zd,.inr ⟨zd,rfl,zd⟩,by simp;omega,zB,rfl⟩,zE⟩
    ·rintro row (⟨a,_,rfl⟩|rfl)<;>rfl
   rw[if_neg hm]at hN;rw[hN]at zB;obtain⟨rfl,rfl,rfl⟩|⟨h0,rfl,rfl⟩:=hO
   ·simp[f5,f3,f4,r6,aa,hi8,hw,ah,ql,sD,hM,hm,j7,Qq,Qd,Qg,Qi];refine⟨k24,ag ?_,⟨i+1,[]++[C],last,.own 0 26,[1],_,zd,zE,zE,by simp[Ge],by simp[f4],.inr ⟨zd,rfl,zd⟩,by simp at FP |-;omega,zB,rfl⟩,zE⟩;repeat(first|exact Qb _ _|refine Qc _ rfl ?_)
   simp[f5,f3,f4,r6,aa,hi8,hw,ah,ql,sD,hM,hm,j7,Qq,Qd,Qg,Qi];refine⟨k24,⟨?_,zE⟩,aQ,⟨i+1,out++[C],last,.own 0 26,[out.length+1],_,zd,zE,zE,by simp[Ge],by simp[f4],.inr ⟨zd,rfl,zd⟩,by simp;omega,zB,rfl⟩,zE⟩
   ·rintro row (⟨a,_,rfl⟩|rfl)<;>rfl
  obtain rfl:i=8:=zE
  rw[zzfn,oh,zzar]at hr;rw[<- hr];obtain⟨rfl,rfl,rfl⟩|⟨h0,rfl,rfl⟩:=hO
  ·simp at FP
  simp[f5,f3,r6,aa,aa6,h0]
 obtain rfl:i=l.length:=zE
 have e0:oh (8-l.length) (l.drop l.length) last=[]:=by rw[zzbv];cases 8-l.length<;>rfl
 rw[e0,zzar]at hr;rw[<- hr];obtain⟨rfl,rfl,rfl⟩|⟨h0,rfl,rfl⟩:=hO
 ·simp[f5,f3,r6,aa6]
 simp[f5,f3,r6,aa6,h0]
def Qeg(l:List Od)(hl:l.length<=1000000000000):Pure Tryz.prog aD 12 [.sl .ro (l.map Qq)] (.sl .ro ((yR l).map Qq)):=by
 obtain⟨rt,h⟩:=RX l hl;exact Zl h (Wk.sl _ _)
open Go Go.Abs
def atZ(o:List Pg)(rt:Rt)(ls:Pa):Prop:=(rt=.full/\ls=[]/\o.length=1)\/(rt=.own 0 18/\ls=[o.length]/\2<=o.length)
def at1(p:Pl)(l:List Od)(f:Nat->AV)(m:AM):Prop:=
 ∃(i:Nat)(g:Pg)(out:List Pg)(rt:Rt)(ls:Pa),f 9=I i/\i<=l.length/\f 8=.sl rt (out.map Qh)/\atZ out rt ls/\out.length=i+1/\out++Kv g (l.drop i)=u9 p l/\ChP i g/\m=⟨[Qa p,Qh g],ls,fun _=>.gone,0⟩
def H7:UV:=fun _ f l=>if f=30 then(match l with
 |[.agg cs]=>Hw (dPl cs)
 |_=>.junk)else if f=25 then(match l with
 |[.agg cs,.agg ds]=>.agg (Qh (Xq (dPg cs) (dOd ds)))
 |_=>.junk)else .junk
def afV(p:Pl)(l:List Od)(hp:PlL p)(hl:l.length<=8)(ho:∀o∈l,qf o):∃rt,Pure Tryz.prog aD 13 [.agg (Qa p),.sl .ro (l.map Qq)] (.sl rt ((u9 p l).map Qh)):=by
 refine⟨if DO p=0 then(if l=[]then .full else .ro)else .nil,Qo ajm H7 zd ?_⟩;have zh:=BC p (aiY hp.sh hp.al hp.ea);have hdp:=Ox p;unfold Hw at zh;by_cases hb:DO p=0
 ·have WS:ChP 0 (eN (tw p)):=⟨(u6 hp.sh hb).eN,vh _⟩;have fE:u9 p l=eN (tw p)::Kv (eN (tw p)) l:=by unfold u9;rw[if_pos hb]
  rw[<- lu,hb]at zh;rw[if_pos hb];have hR:Hw p=.aS [.agg (Qh (eN (tw p))),.sl .ro ((yI p).map Xa),I 0]:=by unfold Hw;rw[lu,hb]
  have hc:=(yS (l:=l) hp.sh hl 0 (eN (tw p)) (by rw[fE];rfl));generalize eN (tw p)=g0 at*
  simp only[Qa,Qh,zzad,zzai]at zh hdp hR;simp[aa7,Qa,Qh,H7,hdp,hR];refine⟨zh,?_⟩;refine Qk Eg (at1 p l) (fun f _=>l.length-(numOf (f 9)).toNat) ?_ ?_
  ·exact⟨0,g0,[g0],.full,[],zd,zE,by simp[Qh,Qa],.inl ⟨rfl,rfl,rfl⟩,rfl,by rw[fE];simp,hc,by simp[Qh,Qa]⟩
  rintro f m ⟨i,g,out,rt,ls,f9,hi,f8,hO,FP,hr,hg,rfl⟩;rcases zzaa i l.length with ai|bn
  ·obtain⟨o,cQ⟩:∃o,l[i]?=some o:=⟨_,zzaf ai⟩;have aa:(i:Int)<(l.length:Int):=zE
   have ah:Qj (l.map Qq) i=Qq o:=Qu (by simp[cQ]);have hw:=bO i zE;have hd:l.drop i=o::l.drop (i+1):=by rw[zzag ai,(zza.1 cQ).2]
   rw[hd,Kv]at hr;have k25:=Jv g o (mO hg.ok zE (ho o (zzae cQ)));rw[<- Qef]at k25;have hg':=hg.step (o:=o) zE;have RK:dPg (Qh g)=g:=by rw[qd,hg.nn]
   have sD:=Qep o;generalize hG:Xq g o=h at*
   simp only[Qa,Qh,Qq,Qd,Qg,Qi,zzad,zzai]at k25 RK sD ah;obtain⟨rfl,rfl,h1⟩|⟨rfl,rfl,h1⟩:=hO
   ·simp[f9,f8,Eg,aa,hw,ah,H7,RK,sD,hG,Qa,Qh];refine⟨k25,⟨?_,zE⟩,aQ,⟨i+1,h,out++[h],.own 0 18,[out.length+1],zd,zE,by simp[Qh,Qa],.inr ⟨rfl,zd,by simp;omega⟩,by simp;omega,by rw[<- hr];simp,hg',by simp[Qh,Qa]⟩,zE⟩
    ·rintro row (⟨a,_,rfl⟩|rfl)<;>rfl
   simp[f9,f8,Eg,aa,hw,ah,H7,RK,sD,hG,Qa,Qh];refine⟨k25,⟨?_,zE⟩,aQ,⟨i+1,h,out++[h],.own 0 18,[out.length+1],zd,zE,by simp[Qh,Qa],.inr ⟨rfl,zd,by simp;omega⟩,by simp;omega,by rw[<- hr];simp,hg',by simp[Qh,Qa]⟩,zE⟩
   ·rintro row (⟨a,_,rfl⟩|rfl)<;>rfl
  obtain rfl:i=l.length:=zE
  rw[zzbv,Kv,zzar]at hr;rw[<- hr];obtain⟨rfl,rfl,h1⟩|⟨rfl,rfl,h1⟩:=hO
  ·have h0:l=[]:=zzbz.1 zE;simp[f9,f8,Eg,aa8,h0]
  have h0:l≠[]:=fun h=>by rw[h]at FP;simp at FP;omega
  simp[f9,f8,Eg,aa8,h0]
 have fE:u9 p l=[]:=by unfold u9;rw[if_neg hb]
 rw[if_neg hb,fE];have hR:Hw p=.aS [.agg (Qh (tw p)),.sl .ro ((yI p).map Xa),I (DO p)]:=rfl;generalize tw p=g0 at*
 simp only[Qa,Qh,zzad,zzai]at zh hdp hR;simp[aa7,aa8,Qa,Qh,H7,hdp,hR,hb];exact zh
def qj(p:Pl)(l:List Od)(hp:PlL p)(hl:l.length<=8)(ho:∀o∈l,qf o):Pure Tryz.prog aD 13 [.agg (Qa p),.sl .ro (l.map Qq)] (.sl .ro ((u9 p l).map Qh)):=by
 obtain⟨rt,h⟩:=afV p l hp hl ho;exact Zl h (Wk.sl _ _)
open Go Go.Abs
def uq:Pl:=⟨0,25,1,0,[],0,1,200,1,[⟨1,5,50,0,0⟩,⟨2,2,20,0,0⟩,⟨3,4,100,0,0⟩],[⟨1,2,20,0,0,0,[]⟩,⟨2,3,40,20,50,0,[]⟩],[],[⟨1,2,0,1000,255,0,0,0⟩,⟨1,3,0,1000,255,0,0,0⟩]⟩
def zn:Pl:={uq with ens:=[⟨1,2,20,0,0,0,[]⟩,⟨2,3,50,20,50,0,[]⟩]}
def zo:Pl:={uq with ens:=[⟨1,2,20,0,0,0,[]⟩]}
def fiE(a n:Int):bC:=⟨0,1,a,n,0,1,[],false⟩
def bJ:Pg:=⟨uq,[⟨1,2,0,20,0,1,[],false⟩,⟨2,3,20,40,0,1,[],false⟩,fiE 60 50,fiE 110 50,fiE 160 40],[],0,[],0⟩
def SB:Pg:=⟨zn,[⟨1,2,0,20,0,1,[],false⟩,⟨2,3,20,10,0,1,[],false⟩,⟨2,3,30,40,10,1,[],false⟩,fiE 70 50,fiE 120 50,fiE 170 30],[],0,[],1⟩
def exK:Pg:=⟨zo,[⟨1,2,0,20,0,1,[],false⟩,fiE 20 50,fiE 70 50,fiE 120 50,fiE 170 30],[],0,[],1⟩
def oL:Od:=⟨1,-1,30,1,2,10,Sx,ZF,ZG⟩
def oD:Od:=⟨1,0,20,2,2,0,Sx,ZF,ZG⟩
def oX:Od:=⟨1,0,20,2,1,0,Sx,ZF,ZG⟩
def anc(fr a:Int):Va fr a a=[]:=by rw[Va,if_neg zE]
def ane{fr t a:Int}(h:a<t)(h2:t-a<=fr):Va fr t a=[(a,t-a)]:=by
 have hN:Yg fr t a=t-a:=by unfold Yg;rw[if_pos zE];omega
 rw[Va,if_pos h,hN,show a+(t-a)=t by omega,anc]
def Me{fr t a:Int}(h:a<t)(h1:1<=fr)(h2:fr<t-a):Va fr t a=(a,fr)::Va fr t (a+fr):=by
 have hN:Yg fr t a=fr:=by unfold Yg;split<;>omega
 rw[Va,if_pos h,hN]
def aaM:rE uq=true:=by cbv
def at2:rE zn=true:=by cbv
def at3:rE zo=true:=by cbv
def at4:Jl uq [1,2] [] [] 0 (-1)=some [(1,0),(2,20)]:=by rw[<- OK];cbv
def aaN:II uq=some [(1,0),(2,20)]:=by unfold II;rw[if_neg (by rw[aaM];decide)];exact at4
def at5:Gb uq ⟨1,2,20,0,0,0,[]⟩ 0=⟨1,2,0,20,0,1,[],false⟩:=by cbv
def at6:Gb uq ⟨2,3,40,20,50,0,[]⟩ 20=⟨2,3,20,40,0,1,[],false⟩:=by cbv
def at7:(Bf uq [(1,0),(2,20)] 0).map IG=bJ.ev:=by
 have h1:mz uq (1,0) 0=some ⟨1,2,20,0,0,0,[]⟩:=by cbv
 have h2:mz uq (2,20) 20=some ⟨2,3,40,20,50,0,[]⟩:=by cbv
 have hf:Yh uq=50:=by cbv
 have hl:uq.ln=200:=rfl;rw[Bf,if_neg (by rw[hl];omega),ud,h1];simp only[hf,anc,zzcv,zzai];rw[show(0:Int)+20=20 from rfl,ud,h2];simp only[hf,anc,zzcv,zzai];rw[show(20:Int)+40=60 from rfl,ud,hf,hl,Me zE zE zE,Me zE zE zE,ane zE zE,at5,at6];rfl
def ai8:DO uq=0:=by unfold DO;rw[if_neg (by rw[aaM];decide),aaN]
def ai9:eN (tw uq)=bJ:=by
 unfold tw eN;rw[aaN];simp only;rw[at7];rfl
def ayg:Vi oL=true:=by
 unfold Vi;rw[if_neg (by simp[oL]),if_neg (by simp[oL]),if_neg (by simp[oL]),if_neg (by simp[oL])];simp[oL,okB,Kb,Qcw,uW,Sx,ZF,ZG,eB]
def aua:Vi oD=true:=by
 unfold Vi;rw[if_neg (by simp[oD]),if_neg (by simp[oD]),if_neg (by simp[oD]),if_neg (by simp[oD])];simp[oD,okB,Kb,Qcw,uW,Sx,ZF,ZG,eB]
def sD0:Kj ([]:Pi)=[]:=by unfold Kj;simp
def anf:Ue bJ 30 (Xm 30 bJ.ev []) oL=some (zn,50):=by
 unfold Ue;rw[if_neg (by simp[bJ,uq])];have hb:Kt bJ 30 (Xm 30 bJ.ev []) oL=some (zn,50):=by cbv
 have hm:zk bJ 30 (Xm 30 bJ.ev []) oL zn 50=true:=by cbv
 rw[hb];simp only;rw[if_pos (by rw[at2,hm];rfl)]
def aaO:Ue bJ 20 (Xm 20 bJ.ev []) oD=some (zo,0):=by
 unfold Ue;rw[if_neg (by simp[bJ,uq])];have hb:Kt bJ 20 (Xm 20 bJ.ev []) oD=some (zo,0):=by cbv
 have hm:zk bJ 20 (Xm 20 bJ.ev []) oD zo 0=true:=by cbv
 rw[hb];simp only;rw[if_pos (by rw[at3,hm];rfl)]
def ang:Ue bJ 20 (Xm 20 bJ.ev []) oX=none:=by
 unfold Ue;rw[if_neg (by simp[bJ,uq])];cases hb:Kt bJ 20 (Xm 20 bJ.ev []) oX with
 |none=>rfl
 |some r=>
  obtain⟨q,d⟩:=r
  have hm:zk bJ 20 (Xm 20 bJ.ev []) oX q d=false:=by
   unfold zk;rw[if_neg (by simp[oX]),if_pos (by rfl)];cbv
  simp only;rw[hm,zzhd,if_neg (by decide)]
def ayh:Vb bJ oL=true:=by unfold Vb;rw[ayg];rfl
def aub:Vb bJ oD=true:=by unfold Vb;rw[aua];rfl
def anh:rU bJ oD=true:=by
 unfold rU;rw[aub,if_neg (by simp[oD])];show(true&&(Ue bJ 20 (Xm 20 bJ.ev []) oD).isSome)=true;rw[aaO];rfl
def ani:rU bJ oX=false:=by
 unfold rU;rw[if_neg (by simp[oX])];show(Vb bJ oX&&(Ue bJ 20 (Xm 20 bJ.ev []) oX).isSome)=false;rw[ang,Option.isSome_none,zzhd]
def aja:Xq bJ oL=SB:=by
 have cE:iD bJ 30 (Xm 30 bJ.ev []) oL zn 50=some ⟨2,3,30,40,10,1,[],true⟩:=by cbv
 have he:Jh bJ 30 (Xm 30 bJ.ev []) oL zn 50=70:=by unfold Jh;rw[cE];rfl
 have h1:Uj bJ 30 (Xm 30 bJ.ev []) oL zn 50=[⟨1,2,0,20,0,1,[],false⟩,⟨2,3,20,10,0,1,[],false⟩,⟨2,3,30,40,10,1,[],true⟩]:=by unfold Uj;rw[cE];cbv
 have hi:Js bJ (Xm 30 bJ.ev []) zn.ens=[]:=by cbv
 have hk:mN bJ 30 (Xm 30 bJ.ev []) oL zn 50=[]:=by unfold mN;rw[hi];rfl
 have hs:Vv bJ 30 (Xm 30 bJ.ev []) oL zn 50=[]:=by unfold Vv;rw[hi,hk];rfl
 have hd:Hq bJ 30 (Xm 30 bJ.ev []) oL zn 50=[]:=by unfold Hq;rw[hi,hk];rfl
 have hf:Yh zn=50:=by cbv
 have hl:zn.ln=200:=rfl
 have hb:Hr bJ 30 (Xm 30 bJ.ev []) oL zn 50=[⟨0,1,70,50,0,1,[],true⟩,⟨0,1,120,50,0,1,[],true⟩,⟨0,1,170,30,0,1,[],true⟩]:=by
  unfold Hr;rw[hs,he,Bf,if_neg (by rw[hl];omega),ud,hf,hl,Me zE zE zE,Me zE zE zE,ane zE zE];rfl
 unfold Xq Xh;rw[if_neg (by rw[ayh];decide),if_neg (by simp[oL])];have hx:Ue bJ oL.fr (Xm oL.fr bJ.ev []) oL=some (zn,50):=anf;rw[hx];show eN (j5 bJ oL (Xm 30 bJ.ev []) zn 50)=SB;unfold j5;show eN ({bJ with p:=zn,ev:=Uj bJ 30 _ _ zn 50++Hr bJ 30 _ _ zn 50,dr:=dd (Kj (bJ.dr++Hq bJ 30 _ _ zn 50)),ve:=bJ.ve+1}:Pg)=SB;rw[h1,hb,hd];show eN ({bJ with p:=zn,ev:=_,dr:=dd (Kj []),ve:=_}:Pg)=SB;rw[sD0];rfl
def ajb:Xq bJ oD=exK:=by
 have cE:iD bJ 20 (Xm 20 bJ.ev []) oD zo 0=none:=by cbv
 have he:Jh bJ 20 (Xm 20 bJ.ev []) oD zo 0=20:=by unfold Jh;rw[cE]
 have h1:Uj bJ 20 (Xm 20 bJ.ev []) oD zo 0=[⟨1,2,0,20,0,1,[],false⟩]:=by unfold Uj;rw[cE];cbv
 have hi:Js bJ (Xm 20 bJ.ev []) zo.ens=[]:=by cbv
 have hk:mN bJ 20 (Xm 20 bJ.ev []) oD zo 0=[]:=by unfold mN;rw[hi];rfl
 have hs:Vv bJ 20 (Xm 20 bJ.ev []) oD zo 0=[]:=by unfold Vv;rw[hi,hk];rfl
 have hd:Hq bJ 20 (Xm 20 bJ.ev []) oD zo 0=[]:=by unfold Hq;rw[hi,hk];rfl
 have hf:Yh zo=50:=by cbv
 have hl:zo.ln=200:=rfl
 have hb:Hr bJ 20 (Xm 20 bJ.ev []) oD zo 0=[⟨0,1,20,50,0,1,[],true⟩,⟨0,1,70,50,0,1,[],true⟩,⟨0,1,120,50,0,1,[],true⟩,⟨0,1,170,30,0,1,[],true⟩]:=by
  unfold Hr;rw[hs,he,Bf,if_neg (by rw[hl];omega),ud,hf,hl,Me zE zE zE,Me zE zE zE,Me zE zE zE,ane zE zE];rfl
 unfold Xq Xh;rw[if_neg (by rw[aub];decide),if_neg (by simp[oD])];have hx:Ue bJ oD.fr (Xm oD.fr bJ.ev []) oD=some (zo,0):=aaO;rw[hx];show eN (j5 bJ oD (Xm 20 bJ.ev []) zo 0)=exK;unfold j5;show eN ({bJ with p:=zo,ev:=Uj bJ 20 _ _ zo 0++Hr bJ 20 _ _ zo 0,dr:=dd (Kj (bJ.dr++Hq bJ 20 _ _ zo 0)),ve:=bJ.ve+1}:Pg)=exK;rw[h1,hb,hd];show eN ({bJ with p:=zo,ev:=_,dr:=dd (Kj []),ve:=_}:Pg)=exK;rw[sD0];rfl
open Go Go.Abs
def aaP(e:En×Rt):P2:=[I e.1.id,I e.1.it,I e.1.fr,I e.1.ea,I e.1.la,I e.1.bo,.sl e.2 (e.1.al.map Qe)]
def anj(l:List (En×Rt))(rt:Rt):Wk (.sl rt (l.map aaP)) (.sl .ro ((l.map (·.1)).map Qd)):=by
 refine Wk.trans (Wk.sl _ _) ?_;rw[zzcu];refine Wk.rows l aaP (Qd ∘ (·.1)) (fun _=>rfl) fun a j c' h=>?_
 match j,h with
 |0,h=>exact⟨_,rfl,by cases h;exact Ps⟩
 |1,h=>exact⟨_,rfl,by cases h;exact Ps⟩
 |2,h=>exact⟨_,rfl,by cases h;exact Ps⟩
 |3,h=>exact⟨_,rfl,by cases h;exact Ps⟩
 |4,h=>exact⟨_,rfl,by cases h;exact Ps⟩
 |5,h=>exact⟨_,rfl,by cases h;exact Ps⟩
 |6,h=>exact⟨_,rfl,by cases h;exact Wk.sl _ _⟩
 |j+7,h=>simp[Qd]at h
def aaQ:P2:=[I 0,I 25,I 1,I 0,.sl .nil [],I 0,I 1,I 200,I 1,.sl .full [[I 1,I 5,I 50,I 0,I 0],[I 2,I 2,I 20,I 0,I 0],[I 3,I 4,I 100,I 0,I 0]],
 .sl .full [[I 1,I 2,I 20,I 0,I 0,I 0,.sl .nil []],[I 2,I 3,I 40,I 20,I 50,I 0,.sl .nil []]],.sl .nil [],
 .sl .full [[I 1,I 2,I 0,I 1000,I 255,I 0,I 0,I 0],[I 1,I 3,I 0,I 1000,I 255,I 0,I 0,I 0]]]
def Mf:Pure Tryz.prog aD 31 [] (.agg aaQ):=by
 refine Qo ajv (fun _ _ _=>.junk) zd ?_;simp[aoo,aop,aaQ]
def RY:Pure Tryz.prog aD 31 [] (.agg (Qa uq)):=
 Zl Mf (Qdw ⟨Ps,Ps,Ps,Ps,Wk.sl _ _,Ps,Ps,Ps,Ps,Wk.sl _ _,anj [(⟨1,2,20,0,0,0,[]⟩,.nil),(⟨2,3,40,20,50,0,[]⟩,.nil)] .full,Wk.sl _ _,Wk.sl _ _,trivial⟩)
def Mg:LQ uq:=⟨by decide,by decide,by decide,by decide,by decide,by decide⟩
def aaR:PlL uq:=⟨Mg,by decide,by decide⟩
def om:dy 0 bJ:=by rw[<- ai9];exact(u6 Mg ai8).eN
def ank:dy 1 SB:=by rw[<- aja];exact(rT om zE).eN
def anl:dy 1 exK:=by rw[<- ajb];exact(rT om zE).eN
def afW:Pure Tryz.prog aD 30 [.agg (Qa uq)] (.aS [.agg (Qh bJ),.sl .ro [],I 0]):=by
 have k:=BC uq (aiY Mg aaR.al aaR.ea)
 have e:Hw uq=.aS [.agg (Qh bJ),.sl .ro [],I 0]:=by
  unfold Hw yI;rw[ai8,aaN,aaM,<- lu,ai9];rfl
 rw[e]at k;exact k
def qm(q c f k e n:Int):P2:=[I q,I c,I f,I k,I e,I n,I 0,I 0,I 0,I 0,I 0,I 0,.sl .nil [],I 0,I 0,I 0,I 0,I 0,I 0,I 0,I 0,I 0,I 0,I 0,I 0,.str ⟨#[]⟩]
def H8(q c f k e n:Int):Wk (.agg (qm q c f k e n)) (.agg (Qq ⟨q,c,f,k,e,n,Sx,ZF,ZG⟩)):=
 Qdw ⟨Ps,Ps,Ps,Ps,Ps,Ps,Ps,Ps,Ps,Ps,Ps,Ps,Wk.sl _ _,Ps,Ps,Ps,Ps,Ps,Ps,Ps,Ps,Ps,Ps,Ps,Ps,Ps,trivial⟩
def OO(q c f k e n:Int):qf ⟨q,c,f,k,e,n,Sx,ZF,ZG⟩:=by simp[qf,Sx]
def anm:Pure Tryz.prog aD 25 [.agg (Qh bJ),.agg (qm 1 (-1) 30 1 2 10)] (.agg (Qh SB)):=by
 have k:=Jv bJ oL (mO om zE (OO _ _ _ _ _ _));rw[<- Qef,aja]at k;exact Xp k ⟨Ps,H8 _ _ _ _ _ _,trivial⟩
def ann:Pure Tryz.prog aD 25 [.agg (Qh bJ),.agg (qm 1 0 20 2 2 0)] (.agg (Qh exK)):=by
 have k:=Jv bJ oD (mO om zE (OO _ _ _ _ _ _));rw[<- Qef,ajb]at k;exact Xp k ⟨Ps,H8 _ _ _ _ _ _,trivial⟩
def ayi:Pure Tryz.prog aD 21 [.agg (Qh bJ),.agg (qm 1 0 20 2 2 0)] (.bool true):=by
 have k:=rV bJ oD (mO om zE (OO _ _ _ _ _ _));rw[anh]at k;exact Xp k ⟨Ps,H8 _ _ _ _ _ _,trivial⟩
def ayj:Pure Tryz.prog aD 21 [.agg (Qh bJ),.agg (qm 1 0 20 2 1 0)] (.bool false):=by
 have k:=rV bJ oX (mO om zE (OO _ _ _ _ _ _));rw[ani]at k;exact Xp k ⟨Ps,H8 _ _ _ _ _ _,trivial⟩
def ayk:Pure Tryz.prog aD 22 [.agg (qm 1 0 20 2 2 0)] (.bool true):=by
 have k:=jW oD (by decide);rw[aua]at k;exact Xp k ⟨H8 _ _ _ _ _ _,trivial⟩
def afX:Pure Tryz.prog aD 23 [.agg (Qh bJ),.agg (Qh bJ)] (.bool true):=LR bJ (om.sm zE)
def afY(g h:Pg)(hv:g.ve≠h.ve):Pure Tryz.prog aD 23 [.agg (Qh g),.agg (Qh h)] (.bool false):=by
 refine Qo SI (fun _ _ _=>.bool true) zd ?_;by_cases he:g.ed=h.ed
 ·simp[aa9,aba,Qh,Qa,he,hv]
 simp[aa9,aba,Qh,Qa,he,hv]
def ayl:Pure Tryz.prog aD 34 [.sl .ro (SB.ev.map Qf),I 69] (.aS [.agg [I 2,I 3,I 30,I 40,I 10,I 1,.sl .ro []],I 49,.bool true]):=by
 have k:=qc SB.ev 69 (by decide) ank.small.2 zE;have e:YW 69 (Yt 69 SB.ev)=.aS [.agg [I 2,I 3,I 30,I 40,I 10,I 1,.sl .ro []],I 49,.bool true]:=by cbv
 rw[e]at k;exact k
def aym:Pure Tryz.prog aD 34 [.sl .ro (exK.ev.map Qf),I 30] (.aS [.agg [I 0,I 1,I 20,I 50,I 0,I 1,.sl .ro []],I 10,.bool true]):=by
 have k:=qc exK.ev 30 (by decide) anl.small.2 zE;have e:YW 30 (Yt 30 exK.ev)=.aS [.agg [I 0,I 1,I 20,I 50,I 0,I 1,.sl .ro []],I 10,.bool true]:=by cbv
 rw[e]at k;exact k
def aaS:UV:=fun d f _=>if f=31 then .agg (Qa uq)else if f=30 then .aS [.agg (Qh bJ),.sl .ro [],I 0]else if f=25 then(if d=29 then .agg (Qh SB)else .agg (Qh exK))
 else if f=32 then .aS [.str ⟨#[2,1,60,2,4,20]⟩,I 0]else if f=33 then .aS [.agg (qm 1 (-1) 30 1 2 10),I 0]
 else if f=34 then(if d=46 then .aS [.agg [I 2,I 3,I 30,I 40,I 10,I 1,.sl .ro []],I 49,.bool true]else .aS [.agg [I 0,I 1,I 20,I 50,I 0,I 1,.sl .ro []],I 10,.bool true])
 else if f=21 then .bool (decide (d≠59))else if f=22 then .bool true else if f=23 then .bool (decide (d=130))else .junk
def DX:Pure Tryz.prog aD 11 [] (.bool true):=by
 have h1:Qj (bJ.ev.map Qf) 1=[I 2,I 3,I 20,I 40,I 0,I 1,.sl .ro []]:=rfl;have h2:bJ.ev.length=5:=rfl;have h3:SB.ve=1:=rfl;have k1:=RY;have k2:=afW;have k3:=anm;have k4:=ann;have k5:=HY (gl:=aD);have k6:=HZ (gl:=aD);have k7:=ayl;have k8:=aym;have k9:=ayj;have k10:=ayk;have OH:=ayi;have IJ:=afX;have Ef:=afY bJ SB (by decide);simp only[Qh,Qa,qm,oSL,zzad,zzai]at k1 k2 k3 k4 k5 k6 k7 k8 k9 k10 OH IJ Ef;refine Qo ajj aaS zd ?_;simp[aoe,aof,aaS,Qh,Qa,qm,h1,h2,h3];exact⟨k1,k2,k3,k4,k5,k6,k7,k8,k9,k10,OH,IJ,Ef⟩
def DY{p:Pl}(hp:(∀e∈p.ens,e.al.length<=8796093022208)/\∀e∈p.ens,e.ea<=9223372036854775807):PlL (zj p):=
 ⟨amH p,fun e he=>hp.1 e (zzcc he),fun e he=>hp.2 e (zzcc he)⟩
