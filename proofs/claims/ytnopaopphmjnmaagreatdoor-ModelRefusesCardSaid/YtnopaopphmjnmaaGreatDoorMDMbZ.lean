import Derived.Test.YtnopaopphmjnmaaGreatDoorMDMbT
import Derived.Test.YtnopaopphmjnmaaGreatDoorMDMbW
set_option linter.all false
set_option maxRecDepth 100000
set_option maxHeartbeats 64000000
namespace Go.Proofs.YtnopaopphmjnmaaGreatDoor
noncomputable section
open Go Go.Abs
def G8(g:Pg)(f:Int)(q:Pl)(d:Int)(er:List AV):List AV:=[.ep (Qc q++[I d]) 0,.ep (Qo g++[I f,.junk]) 0,.ep er 0]
def Qda(g:Pg)(f:Int)(q:Pl)(d:Int)(a0 a1 a2:AV)(fr:Int)(r:List AV)(item region:Int)(h1:q.cls.length<=1000000)(h2:q.sh.length<=1000000000)(h3:q.aL.length<=1000000000):
  Pure Tryz.prog aq 225 ([I item,I region]++G8 g f q d (a0::a1::a2::I fr::r)) (.bool (Xv q item region f fr)):=by
 have k:=Qdy q item region f fr h1 h2 h3;simp only[Qc]at k;refine Qn adX (fun _ _ _=>.bool (Xv q item region f fr)) (by simp[G8]) ?_;simp[aiV,aiW,G8,Qc,Qo];exact k
def iF(g:Pg)(f:Int)(o:Od)(q:Pl)(d:Int)(e:bD):Option Int:=
 if o.ki=1/\o.en=e.id then some (rE g e.id+d-f)
 else if o.ki=2/\o.en=e.id then none
 else if o.ki=4/\Xv q e.it 0 f (uE f e).fr=false then none
 else some (uE f e).fr
def sU(q:Pl)(f:Int):Nat->FuncId->List AV->AV:=fun _ k l=>if k=225 then(match l with
 |[.int _ it,.int _ re,_,_,.ep (_::_::_::.int _ F::_) 0]=>.bool (Xv q it re f F)
 |_=>.junk)else .gd false .junk
def jT(q:Pl)(f:Int)(id F:Int)(l:List Sp):List Sp:=l.filter fun a=>Xv q a.2 a.1 f F
def an2(ml:List Nat)(o:List Sp)(v:AV)(ls:List Nat):Prop:=(o=[]/\v=.sl .nil []/\ls=ml)\/(o≠[]/\v=.sl (.own ml.length 2) (o.map Qe)/\ls=ml++[o.length])
def atV(mb:List (List AV))(ml:List Nat)(ms:Nat->LS)(mn:Nat)(r0 r1 r2 pre:List AV)(al:List Sp)(A:List Sp->List Sp)(s:Nat->AV)(m:AM):Prop:=
 ∃(j:Nat)(bx:List (List AV))(ls:List Nat)(v:AV),s 106=I j/\j<=al.length/\an2 ml (A (al.take j)) v ls/\m=⟨mb++(r0::r1::r2::nS::(pre++[v])::bx),ls,ms,mn⟩
def rH(q:Pl)(f:Int)(it F:Int)(n:Nat):Int:=Un (fun r=>Xv q it r f F) n
def agm(b:Nat->Bool)(i:Nat)(h:i<8):IntKind.i64.wrap ((((Un b i%2 ^ IntKind.i64.bits).toNat|||(IntKind.i64.wrap (2 ^ min i IntKind.i64.bits)%2 ^ IntKind.i64.bits).toNat:Nat)):Int)=Un b i+2 ^ i:=by
 have gq:=Dv b i;obtain⟨x,hx⟩:∃x:Nat,Un b i=(x:Int):=⟨(Un b i).toNat,by omega⟩
 have hx2:x<2 ^ i:=by
  have h2:=gq.2;rw[hx]at h2
  exact_mod_cast h2
 rw[hx];exact aan i h x hx2
def L3:SC:=(⟨_,by cbv⟩:tJ [1,1,1,1,1,1] zX).1
def aao:SC:=(⟨_,fun _=>by cbv⟩:Kt [1,1,1,1,1,1] zX).1 L3
theorem G9:zX=aao:=rfl
def yb(Y:YT)(mb:List (List AV))(ml:List Nat)(ms:Nat->LS)(mn:Nat)(g:Pg)(f:Int)(mid:Nat)(R1:List AV)(q:Pl)(V:AV)(rt:Rt)(d:Int)(e:bD)(F:Int)(E0:List (Nat×AV))(x5 x6:AV)(hV:mM mb V q.ens)(aT:Dq rt)(hq:Bh q)(Ou:0<=q.rg/\q.rg<=8)(K:AV->AM->Prop)
  (h3:Abs.look E0 3=.ptr mb.length 0)(h5:Abs.look E0 5=.ptr (mb.length+2) 0)(h6:Abs.look E0 6=.ptr (mb.length+3) 0)(h8:Abs.look E0 8=.ptr (mb.length+4) 0)(iz:Abs.look E0 11=.fn 225 [] [.ptr (mb.length+2) 0,.ptr mb.length 0,.ptr (mb.length+4) 0])
  (h1:∀ex ls v,an2 ml (jT q f e.id F ((Zf e.id q.ens).getD xZ).al) v ls->K (.aU [.agg [I e.id,I e.it,I f,I F,I (e.i+(f-e.st)),I (rH q f e.it F q.rg.toNat),v],.bool true]) ⟨mb++ex,ls,ms,mn⟩):
  vc Tryz.prog aq (sU q f) Y L3 ⟨Zb 124 E0,⟨mb++[Qu g f mid,R1,Xo q V (.sl rt (q.cls.map Qg)) d,nS,[I e.id,I e.it,I f,I F,I (e.i+(f-e.st)),x5,x6]],ml,ms,mn⟩⟩ (we Tryz.prog aq (sU q f) Ex K):=by
 obtain⟨q1,q2,q3,q4,q5,q6⟩:=hq;have hc:=hV.cell;have fG:=fun ex ml d=>hV.bF ex ml ms mn d;simp[L3,h5,h8,Qu,Qo,Qc,Xo,nS];refine Qi JF (fun s m=>∃i:Nat,s 80=I i/\(i:Int)<=q.rg/\m=⟨mb++[Qu g f mid,R1,Xo q V (.sl rt (q.cls.map Qg)) d,nS,[I e.id,I e.it,I f,I F,I (e.i+(f-e.st)),I (rH q f e.it F i),.sl .nil []]],ml,ms,mn⟩) (fun s _=>(q.rg-numOf (s 80)).toNat) ?_ ?_
 ·exact⟨0,by simp,by simp;omega,by simp[Qu,Qo,Qc,Xo,nS,rH,Un]⟩
 rintro s m ⟨i,h80,hi,rfl⟩;by_cases ai:(i:Int)<q.rg
 ·have hw:=bH i (by omega);have kc:=Qda g f q d (I e.id) (I e.it) (I f) F [I (e.i+(f-e.st)),I (rH q f e.it F i),.sl .nil []] e.it i q5 (by omega) (by omega);simp only[G8,Qc,Qo,zzae,zzah]at kc;simp[h8,iz,h80,JF,ai,hw,Qu,Qo,Qc,Xo,nS,sU,fG,aT _ _ _];have hor:=agm (fun r=>Xv q e.it r f F) i (by omega);refine⟨kc,?_⟩;have dL:rH q f e.it F (i+1)=rH q f e.it F i+if Xv q e.it (i:Int) f F=true then 2 ^ i else 0:=rfl;split
  ·rename_i ha;rw[if_pos ha]at dL;refine⟨aN,⟨i+1,by simp,by omega,by rw[dL];exact hor⟩,by omega⟩
  rename_i ha;rw[if_neg ha]at dL;refine⟨aN,⟨i+1,by simp,by omega,by rw[dL];simp⟩,by omega⟩
 have kn:=fun ex K hK=>OP Y ⟨mb++ex,ml,ms,mn⟩ q V rt e.id (hV.ext ex) (by omega) q6 K hK;simp only[Jc]at kn;simp[h5,h8,h80,JF,ai,Qu,Qo,Qc,Xo,nS,sU];refine kn _ _ ?_;rw[G5];generalize rtE (Zf e.id q.ens)=r7;generalize(Zf e.id q.ens).isSome=b7;obtain⟨E,hE⟩:∃E,(Zf e.id q.ens).getD xZ=E:=⟨_,rfl⟩;rw[hE]
 have hEl:E.al.length<=8796093022208:=by
  rw[<- hE];cases hf:Zf e.id q.ens with
  |none=>simp[xZ]
  |some x=>exact q6 x (jy hf).1
 have hiq:i=q.rg.toNat:=by omega
 rw[hE]at h1;simp[Ex];refine Qi BS (atV mb ml ms mn (Qu g f mid) R1 (Xo q V (.sl rt (q.cls.map Qg)) d) [I e.id,I e.it,I f,I F,I (e.i+(f-e.st)),I (rH q f e.it F i)] E.al (jT q f e.id F)) (fun s _=>E.al.length-(numOf (s 106)).toNat) ?_ ?_
 ·exact⟨0,_,ml,.sl .nil [],by simp,by omega,.inl ⟨by simp[jT],rfl,rfl⟩,by simp[Qu,Qo,Qc,Xo,nS];rfl⟩
 rintro s2 m ⟨j,bx,ls,v,h106,hj,hO,rfl⟩;rcases zzaa j E.al.length with Tc|hgj
 ·obtain⟨a,ha⟩:=aP Tc;have aa:=Zd ha;have atW:(j:Int)<(E.al.length:Int):=by omega
  have hw:=bH j (by omega)
  have bA:jT q f e.id F (E.al.take (j+1))=jT q f e.id F (E.al.take j)++if Xv q a.2 a.1 f F=true then[a]else[]:=by
   unfold jT;rw[zzar,ha,zzcr];congr 1;by_cases hh:Xv q a.2 a.1 f F=true<;>simp[hh]
  have Iv:(jT q f e.id F (E.al.take j)).length<=j:=by
   refine zzbm (zzbs _ _) ?_;simp;omega
  generalize jT q f e.id F (E.al.take j)=oL at hO bA Iv;obtain⟨rfl,rfl,rfl⟩|⟨ho,rfl,rfl⟩:=hO
  ·have kc:=Qda g f q d (I e.id) (I e.it) (I f) F [I (e.i+(f-e.st)),I (rH q f e.it F i),.sl .nil []] a.2 a.1 q5 (by omega) (by omega);simp only[G8,Qc,Qo,zzae,zzah]at kc;simp[h8,iz,h106,BS,atW,aa,hw,Qu,Qo,Qc,Xo,nS,sU,fG,aT _ _ _];refine⟨kc,?_⟩;split
   ·rename_i hh;rw[if_pos hh]at bA;refine⟨aN,⟨j+1,bx++[[I a.1,I a.2]],ls++[1],.sl (.own ls.length 2) [Qe a],by simp,by omega,.inr ⟨by rw[bA];simp,by rw[bA];rfl,by rw[bA];rfl⟩,by simp[nS,Qe]⟩,by omega⟩
   rename_i hh;rw[if_neg hh]at bA;refine⟨aN,⟨j+1,bx++[[I a.1,I a.2]],ls,.sl .nil [],by simp,by omega,.inl ⟨by rw[bA];rfl,rfl,rfl⟩,by simp[nS]⟩,by omega⟩
  have kc:=Qda g f q d (I e.id) (I e.it) (I f) F [I (e.i+(f-e.st)),I (rH q f e.it F i),.sl .ro (oL.map Qe)] a.2 a.1 q5 (by omega) (by omega);simp only[G8,Qc,Qo,zzae,zzah]at kc;simp[h8,iz,h106,BS,atW,aa,hw,Qu,Qo,Qc,Xo,nS,sU,fG,aT _ _ _];refine⟨kc,?_⟩
  have Om:∀row:List AV,((∃x y,(x,y)∈oL/\Qe (x,y)=row)\/row=Qe a)->row.length=2:=by
   rintro row (⟨x,y,_,rfl⟩|rfl)<;>rfl
  split
  ·rename_i hh;rw[if_pos hh]at bA;refine⟨⟨Om,by omega⟩,aN,⟨j+1,bx++[[I a.1,I a.2]],ml++[oL.length+1],.sl (.own ml.length 2) ((oL++[a]).map Qe),by simp,by omega,.inr ⟨by rw[bA];simp,by rw[bA],by rw[bA];simp⟩,by simp[nS,Qe]⟩,by omega⟩
  rename_i hh;rw[if_neg hh,zzat]at bA;refine⟨aN,⟨j+1,bx++[[I a.1,I a.2]],ml++[oL.length],.sl (.own ml.length 2) (oL.map Qe),by simp,by omega,.inr ⟨by rw[bA];exact ho,by rw[bA],by rw[bA]⟩,by simp[nS]⟩,by omega⟩
 obtain rfl:j=E.al.length:=by omega
 rw[zzbn]at hO;have bK:Qv v=true:=by rcases hO with⟨_,rfl,_⟩|⟨_,rfl,_⟩<;>rfl
 have h1:=fun ex=>h1 ex ls v hO;rw[<- hiq]at h1;simp[h6,h8,h106,BS,Qu,Qo,Qc,Xo,nS,bK];exact h1 _
def agn(Y:YT)(m:AM)(g:Pg)(f:Int)(mid:Nat)(b:List (Int×Bool))(o:Od)(q:Pl)(V:AV)(rt:Rt)(d:Int)(hV:mM m.boxes V q.ens)(aT:Dq rt)(h:lS g f)(hb:fW m.boxes mid b)(hq:Bh q)(hd:0<=d/\d<=1000000000)(Ou:0<=q.rg/\q.rg<=8)(K:AV->AM->Prop)
  (h1:∀e F,Jh g f b=some e->iF g f o q d e=some F->F≠0->∀ex ls v,an2 m.lens (jT q f e.id F ((Zf e.id q.ens).getD xZ).al) v ls->K (.aU [.agg [I e.id,I e.it,I f,I F,I (e.i+(f-e.st)),I (rH q f e.it F q.rg.toNat),v],.bool true]) {m with boxes:=m.boxes++ex,lens:=ls})
  (h0:(Jh g f b).bind (iF g f o q d)=none\/(Jh g f b).bind (iF g f o q d)=some 0->∀ex,K (.aU [.agg nS,.bool false]) {m with boxes:=m.boxes++ex}):
  an Tryz.prog aq Y 156 [.agg (Qu g f mid),.agg (Qp o),.agg (Xo q V (.sl rt (q.cls.map Qg)) d)] m K:=by
 obtain⟨mb,ml,ms,mn⟩:=m;obtain⟨q1,q2,q3,q4,q5,q6⟩:=hq;have hc:=hV.cell;have hB:∀ex,fW (mb++ex) mid b:=fun ex=>⟨by have:=hb.1;simp at this |-;omega,hb.ext ex⟩;have kp:=fun ex K hK=>akH Y ⟨mb++ex,ml,ms,mn⟩ g f mid b h (hB ex) K hK;simp only[Qu,Qo,Qc,zzae,zzah]at kp;have fG:=fun ex ml d=>hV.bF ex ml ms mn d;cases hp:Jh g f b with
 |none=>
  have h0:=h0 (by rw[hp];exact .inl rfl);refine Xe Ng (fun _ f _=>.gd false .junk) (by simp) ?_;simp[G9,aao,Ex,Qu,Qo,Qc,Qp,Qd,Qg,Qj,Xo,hc];refine kp _ _ ?_;simp[Uk,hp];simp[nS]at h0;exact h0 _
 |some e=>
  refine Xe Ng (sU q f) (by simp) ?_;simp[G9,aao,Ex,Qu,Qo,Qc,Qp,Qd,Qg,Qj,Xo,hc,sU];refine kp _ _ ?_;have IA:=Dn h e.id;have hfs:=h.2.2.1;unfold nR at hfs;by_cases cZ:o.ki=1
  ·by_cases aO:o.en=e.id
   ·have w1:IntKind.i64.wrap (rE g e.id+d)=rE g e.id+d:=by rw[Qk]<;>omega
    have w2:IntKind.i64.wrap (rE g e.id+d-f)=rE g e.id+d-f:=by rw[Qk]<;>omega
    obtain⟨F,hF⟩:∃F,rE g e.id+d-f=F:=⟨_,rfl⟩;have wF:IntKind.i64.wrap F=F:=by rw[<- hF];exact w2
    have w0:IntKind.i64.wrap 0=0:=by decide
    have ud:(Jh g f b).bind (iF g f o q d)=some F:=by rw[hp];simp[iF,cZ,aO,hF]
    by_cases qq:F=0
    ·have h0:=h0 (by rw[ud,qq];exact .inr rfl);simp[Uk,hp,Qf,uE,cZ,aO,w1,w0,hF,qq];simp[nS]at h0;exact h0 _
    simp[Uk,hp,Qf,uE,cZ,aO,w1,wF,hF,qq];refine yb Y mb ml ms mn g f mid _ q V rt d e F _ _ _ hV aT ⟨q1,q2,q3,q4,q5,q6⟩ Ou K ?_ ?_ ?_ ?_ ?_ (h1 e F hp (by simpa[hp]using ud) qq)<;>simp
   have w0:True:=trivial;obtain⟨F,hF⟩:∃F,e.fr-(f-e.st)=F:=⟨_,rfl⟩;have ud:(Jh g f b).bind (iF g f o q d)=some F:=by rw[hp];simp[iF,uE,hF,cZ,aO]
   by_cases qq:F=0
   ·have h0:=h0 (by rw[ud,qq];exact .inr rfl);simp[Uk,hp,Qf,uE,cZ,aO,hF,qq];simp[nS]at h0;exact h0 _
   simp[Uk,hp,Qf,uE,cZ,aO,hF,qq];refine yb Y mb ml ms mn g f mid _ q V rt d e F _ _ _ hV aT ⟨q1,q2,q3,q4,q5,q6⟩ Ou K ?_ ?_ ?_ ?_ ?_ (h1 e F hp (by simpa[hp]using ud) qq)<;>simp
  by_cases dw:o.ki=2
  ·by_cases aO:o.en=e.id
   ·have w0:True:=trivial;have h0:=h0 (by rw[hp];simp[iF,dw,aO]);simp[Uk,hp,Qf,uE,dw,aO];simp[nS]at h0;exact h0 _
   have w0:True:=trivial;obtain⟨F,hF⟩:∃F,e.fr-(f-e.st)=F:=⟨_,rfl⟩;have ud:(Jh g f b).bind (iF g f o q d)=some F:=by rw[hp];simp[iF,uE,hF,dw,aO]
   by_cases qq:F=0
   ·have h0:=h0 (by rw[ud,qq];exact .inr rfl);simp[Uk,hp,Qf,uE,dw,aO,hF,qq];simp[nS]at h0;exact h0 _
   simp[Uk,hp,Qf,uE,dw,aO,hF,qq];refine yb Y mb ml ms mn g f mid _ q V rt d e F _ _ _ hV aT ⟨q1,q2,q3,q4,q5,q6⟩ Ou K ?_ ?_ ?_ ?_ ?_ (h1 e F hp (by simpa[hp]using ud) qq)<;>simp
  by_cases Ol:o.ki=4
  ·cases ha0:Xv q e.it 0 f (e.fr-(f-e.st))with
   |false=>
    have h0:=h0 (by rw[hp];simp[iF,uE,Ol,ha0]);have kc0:=Qda g f q d (I e.id) (I e.it) (I f) (e.fr-(f-e.st)) [I (e.i+(f-e.st)),I e.re,.sl .ro (e.al.map Qe)] e.it 0 q5 (by omega) (by omega);simp only[G8,Qc,Qo,zzae,zzah]at kc0;rw[ha0]at kc0;simp[Uk,hp,Qf,uE,Ol,fG,aT _ _ _,ha0];simp[nS]at h0;exact⟨kc0,h0 _⟩
   |true=>
    obtain⟨F,hF⟩:∃F,e.fr-(f-e.st)=F:=⟨_,rfl⟩;rw[hF]at ha0;have ud:(Jh g f b).bind (iF g f o q d)=some F:=by rw[hp];simp[iF,uE,hF,Ol,ha0]
    have kc0:=Qda g f q d (I e.id) (I e.it) (I f) F [I (e.i+(f-e.st)),I e.re,.sl .ro (e.al.map Qe)] e.it 0 q5 (by omega) (by omega);simp only[G8,Qc,Qo,zzae,zzah]at kc0;rw[ha0]at kc0;by_cases qq:F=0
    ·have h0:=h0 (by rw[ud,qq];exact .inr rfl);rw[qq]at ha0 kc0;simp[Uk,hp,Qf,uE,Ol,fG,aT _ _ _,hF,ha0,qq];simp[nS]at h0;exact⟨kc0,h0 _⟩
    simp[Uk,hp,Qf,uE,Ol,fG,aT _ _ _,hF,ha0,qq];refine⟨kc0,?_⟩;refine yb Y mb ml ms mn g f mid _ q V rt d e F _ _ _ hV aT ⟨q1,q2,q3,q4,q5,q6⟩ Ou K ?_ ?_ ?_ ?_ ?_ (h1 e F hp (by simpa[hp]using ud) qq)<;>simp
  have w0:True:=trivial;obtain⟨F,hF⟩:∃F,e.fr-(f-e.st)=F:=⟨_,rfl⟩;have ud:(Jh g f b).bind (iF g f o q d)=some F:=by rw[hp];simp[iF,uE,hF,cZ,dw,Ol]
  by_cases qq:F=0
  ·have h0:=h0 (by rw[ud,qq];exact .inr rfl);simp[Uk,hp,Qf,uE,cZ,dw,Ol,hF,qq];simp[nS]at h0;exact h0 _
  simp[Uk,hp,Qf,uE,cZ,dw,Ol,hF,qq];refine yb Y mb ml ms mn g f mid _ q V rt d e F _ _ _ hV aT ⟨q1,q2,q3,q4,q5,q6⟩ Ou K ?_ ?_ ?_ ?_ ?_ (h1 e F hp (by simpa[hp]using ud) qq)<;>simp
open Go Go.Abs
def aap(Y:YT)(m:AM)(g:Pg)(f:Int)(mid kk:Nat)(b:List (Int×Bool))(e:En)(hk:kk<m.boxes.length)(hr:Qh m.boxes kk=Qu g f mid)(hb:fW m.boxes mid b):
  an Tryz.prog aq Y 219 [.agg (Qd e),.ptr kk 0] m (fun r m'=>m'=m/\r=.bool !(yZ b e.id)):=by
 obtain⟨mb,ml,ms,mn⟩:=m;have hR:∀ex,Qh (mb++ex) mid=[.aK 0 (bI .bool b)]:=hb.ext;have hM:∀ex,Qh (mb++ex) kk=Qu g f mid:=fun ex=>by rw[Ql hk];exact hr
 simp only[Qu,Qo,Qc,zzae,zzah]at hM;refine an.read (Xe adT (fun _ _ _=>.junk) (by simp) ?_);rcases Xp AV.bool e.id b 0 with⟨b1,b2,_⟩|⟨u,u',b1,b2,_⟩
 ·simp[U6,U7,Qd,hM,hR,yZ,b1,b2];exact lq
 cases u<;>simp[U6,U7,Qd,hM,hR,yZ,b1,b2]<;>exact lq
def atX(Y:YT)(m:AM)(g:Pg)(f:Int)(mid kk:Nat)(b:List (Int×Bool))(e:En)(hk:kk<m.boxes.length)(hr:Qh m.boxes kk=Qu g f mid)(hb:fW m.boxes mid b)(K:AV->AM->Prop)(hK:K (.bool !(yZ b e.id)) m):
  an Tryz.prog aq Y 219 [.agg (Qd e),.ptr kk 0] m K:=
 an.mono (aap Y m g f mid kk b e hk hr hb) (by rintro r m' ⟨rfl,rfl⟩;exact hK)
def L5(Y:YT)(m:AM)(g:Pg)(f:Int)(mid kk:Nat)(b:List (Int×Bool))(k:Nat)(L:List En)(z:List AV)(hl:L.length<=1000000000)(hk:kk<m.boxes.length)(hr:Qh m.boxes kk=Qu g f mid)(hb:fW m.boxes mid b)(hV:k<m.boxes.length)(hrV:Qh m.boxes k=eM L++z):
  an Tryz.prog aq Y 218 [.bs k 0 L.length 7,.fn 219 [] [.ptr kk 0]] m (fun r m'=>m'=m/\r=I (Uo (fun e:En=>!(yZ b e.id)) L 0)):=by
 obtain⟨mb,ml,ms,mn⟩:=m;have aI:=Ux L;have k1:=fun e K hK=>atX Y ⟨mb,ml,ms,mn⟩ g f mid kk b e hk hr hb K hK;refine an.read (Xe B8 (fun _ _ _=>.gd false .junk) (by simp) ?_);simp[Ny];refine Qi fk (fun s m=>∃i:Nat,s 8=I i/\i<=L.length/\Uo (fun e:En=>!(yZ b e.id)) (L.drop i) i=Uo (fun e:En=>!(yZ b e.id)) L 0/\m=⟨mb,ml,ms,mn⟩) (fun s _=>L.length-(numOf (s 8)).toNat) ?_ ?_
 ·exact⟨0,by simp,by omega,by simp,rfl⟩
 rintro s m ⟨i,f8,hi,hidx,rfl⟩;rcases zzaa i L.length with ai|bw
 ·obtain⟨x,hx⟩:=aP ai;have hg:=Dp hx;simp only at hrV
  have aa:(Qh mb k).drop (i*7)=I x.id::I x.it::I x.fr::I x.ea::I x.la::I x.bo::.sl .ro (x.al.map Qe)::(eM (L.drop (i+1))++z):=by
   rw[hrV,zzdm (by rw[Ux];omega),hg];rfl
  have ah:(i:Int)<(L.length:Int):=by omega
  have hw:=bH i (by omega);have hd:L.drop i=x::L.drop (i+1):=by rw[zzaf ai,(zza.1 hx).2]
  have kx:=k1 x;simp only[Qd]at kx;rw[hd,Uo]at hidx;cases hP:yZ b x.id with
  |false=>
   rw[if_pos (by simp[hP])]at hidx;simp[f8,fk,ah,aa];refine kx _ ?_;simp[hP,Ae,hidx];exact lq
  |true=>
   rw[if_neg (by simp[hP])]at hidx;simp[f8,fk,ah,aa];refine kx _ ?_;simp[hP,hw];refine⟨aN,⟨i+1,by simp,by omega,hidx⟩,by omega⟩
 obtain rfl:i=L.length:=by omega
 rw[zzbo,Uo]at hidx;simp[f8,fk,Ae,<- hidx];exact lq
open Go Go.Abs Go.RowKit
def He:bC Tryz.prog 220:=by
 first|exact B9.bC|(unfold bC;decide)|kernel_rfl
def R7(Y:YT)(m:AM)(id gK i n:Nat)(A C V:List AV)(aO:m.boxes[id]?=some (A++C))(fQ:m.boxes[gK]?=some V)(aJ:gK≠id)(hV:V.length=7)(hA:A.length=i*7)(hC:C.length=(n-i)*7)
  (hi:i<n)(hn:n+1<=1000000000)(K:AV->AM->Prop)(hK:K (.bs m.boxes.length 0 (n+1) 7) {m with boxes:=m.boxes.set id []++[A++(V++C)]}):an Tryz.prog aq Y 220 [.bs id 0 n 7,I i,.bs gK 0 1 7] m K:=by
 refine an.fU He fun N w0 au γ w vs hm hl hr=>?_
 obtain⟨v1,r1,rfl,g1,yS⟩:∃v1 r1,vs=v1::r1/\aB w γ (.bs id 0 n 7) v1/\ak w γ [I i,.bs gK 0 1 7] r1:=by
  cases vs with
  |nil=>have:=hr.1;simp at this
  |cons v r=>exact⟨v,r,rfl,hr.2 0 _ _ rfl rfl,⟨by have:=hr.1;simp at this |-;omega,fun k c u h1 h2=>hr.2 (k+1) c u (by simpa using h1) (by simpa using h2)⟩⟩
 obtain⟨v2,r2,rfl,g2,iw⟩:∃v2 r2,r1=v2::r2/\aB w γ (I i) v2/\ak w γ [.bs gK 0 1 7] r2:=by
  cases r1 with
  |nil=>have:=yS.1;simp at this
  |cons v r=>exact⟨v,r,rfl,yS.2 0 _ _ rfl rfl,⟨by have:=yS.1;simp at this |-;omega,fun k c u h1 h2=>yS.2 (k+1) c u (by simpa using h1) (by simpa using h2)⟩⟩
 obtain⟨v3,rfl,g3⟩:=Ua iw;cases g2;obtain⟨b,cap,arr,te,hβ,rfl,ef,hh,hs⟩:=g1.cL;obtain⟨vb,atY,uG,tv,hβv,rfl,hlv,hhv,hsv⟩:=g3.cL;have hB:m.B id=some (A++C):=aO;have oZ:m.B gK=some V:=fQ
 have akK:A++C≠[]:=by
  intro h;have:=congrArg List.length h;simp only[zzai,hA,hC,zzcf]at this;omega
 have atZ:V≠[]:=by rintro rfl;simp at hV
 have hvb:vb≠b:=by
  rintro rfl;rcases hm.inj _ _ _ hβ hβv with h|h|h
  ·rw[hB]at h;exact akK (Option.some.inj h)
  ·rw[oZ]at h;exact atZ (Option.some.inj h)
  exact aJ h.symm
 obtain⟨bR,J1,q2,q3,q4⟩:=hm.box id _ b hB hβ;rw[hh]at q2;cases q2;obtain⟨azu,tv',p2,p3,p4⟩:=hm.box gK _ vb oZ hβv;rw[hhv]at p2;cases p2;have hvl:=p3.1;simp only[zzbi,hV]at hvl
 have hVr:ak w γ V (uG.toList.take 7):=by
  refine⟨by simp only[zzaq,zzbi,hV];omega,fun k c v g1 g2=>?_⟩;have hk:=(zza.1 g1).1;rw[zzbj,if_pos (by omega)]at g2;exact p3.2 k c v g1 g2
 have hvo:∀v∈uG.toList.take 7,v.oneCell'=true:=fun v hv=>p4 v (zzbv hv);have hi7:(i+1)*7=A.length+V.length:=by rw[hA,hV];omega
 simp only[zzbt]at hs;by_cases ct:n+1<=cap
 ·have fV:=R4 b n cap i vb atY arr uG te tv w hi ct hn hvb hh hhv hs hvl q4 p4;have PZ:(n+1)*7<=cap*7:=zzb _ ct;rw[hi7,<- hA,<- hC]at fV;obtain⟨e1,m1⟩:=R5 hm aO akK hβ hh hVr hvo (by rw[hA,hC,hV];omega);refine fV.mono ?_;rintro e w' ⟨rfl,rfl⟩;have hh':w.drew.heap[b]?=some (.cells arr te (0,0)):=hh;refine⟨_,_,.bs m.boxes.length 0 (n+1) 7,_,rfl,e1.dD,m1,hl.mono' e1 rfl,.bs (by simp[G.box]) ct (Xb b _ _ _ _ te _ (Xb b _ _ _ arr te _ hh')) (by rw[Zy,Zy];omega),hK⟩
 have fV:=aam b n cap i vb atY arr uG te tv w hi ef (by omega) hn hvb hh hhv hs hvl q4 p4;refine fV.mono ?_;rintro e w' ⟨Gc,nV,zs,hG,rfl,hR,hz,hGR,hzo,rfl⟩;rw[<- hA]at hR;obtain⟨e1,m1⟩:=agl (te2:=36) hm aO hβ hh hVr hvo hR (by rw[hC,hV];omega) hzo (by simp[atZ]);rw[hi7,<- hA,<- hC];refine⟨_,_,.bs m.boxes.length 0 (n+1) 7,_,rfl,e1.dD,m1,hl.mono' e1 rfl,.bs (by simp[G.box]) hG (Xb _ _ _ _ _ 36 _ (Xb _ _ _ (w.drew.alloc (.cells nV 36)) nV 36 _ (Ya w _))) (by rw[Zy,Zy];omega),hK⟩
open Go Go.Abs
def Jt{B:List (List AV)}{id:Nat}{c:List AV}(h:id<B.length)(hr:Qh B id=c):B[id]?=some c:=by
 rw[Yz h,hr]
def ago(Y:YT)(m:AM)(id gK n:Nat)(A V:List AV)(aO:m.boxes[id]?=some A)(fQ:m.boxes[gK]?=some V)(hA:A.length=n*7)(hn:0<n)(hn9:n<=1000000000)(hV:V.length=7)(okV:Zg V=true)
  (K:AV->AM->Prop)(hK:K (.bs m.boxes.length 0 (n+1) 7) {m with boxes:=m.boxes.set id []++[A++V]}):an Tryz.prog aq Y 220 [.bs id 0 n 7,I n,.bs gK 0 1 7] m K:=by
 obtain⟨mb,ml,ms,mn⟩:=m;have r1:=Qr aO;have r2:=Qr fQ;have l1:=(zza.1 aO).1;have l2:=(zza.1 fQ).1;simp only at r1 r2 l1 l2 hK;have aJ:¬A=[]:=by rintro rfl;simp at hA;omega
 refine Xe B9 (fun _ _ _=>.junk) (by simp) ?_;simp[U8,U9,r1,r2,l1,l2,hA,hV,aJ];refine⟨by omega,?_⟩;rw[zzam (by omega),zzam (by omega)];exact hK
def agp(Y:YT)(m:AM)(k:Nat)(row:List AV)(aa:row.length=7)(hk:m.lens[k]?=some 0)(K:AV->AM->Prop)(hK:K (.sl (.own k 7) [row]) {m with lens:=m.lens.set k 1}):
  an Tryz.prog aq Y 220 [.sl (.own k 7) [],I 0,.sl .full [row]] m K:=by
 obtain⟨mb,ml,ms,mn⟩:=m;refine Xe B9 (fun _ _ _=>.junk) (by simp) ?_;simp[U8,U9,aa];exact⟨hk,hK⟩
def aaq(Y:YT)(m:AM)(K:AV->AM->Prop)(hK:K (.sl (.own m.lens.length 7) []) {m with lens:=m.lens++[0]}):an Tryz.prog aq Y 126 [.sl .ro []] m K:=by
 refine Xe BR (fun _ _ _=>.junk) (by simp) ?_;simp[M4,M5];exact hK
def aar(p:Pl):Nat->FuncId->List AV->AV:=fun d f l=>if f=126 then .gd false .junk else Kc p d f l
def aas(Y:YT)(m:AM)(p:Pl)(h:Bh p)(hn:p.ens=[])(K:AV->AM->Prop)
  (hK:∀c0 c1,K (.agg (Ul p (.sl (.own m.lens.length 7) []))) {m with boxes:=m.boxes++[c0,c1],lens:=m.lens++[0]}):an Tryz.prog aq Y 61 [.agg (Qc p)] m K:=by
 obtain⟨mb,ml,ms,mn⟩:=m;obtain⟨h1,h2,h3,h4,h5,h6⟩:=h;have k1:=pN p.sh (by omega);have k2:=pO p.aL (by omega);have k4:=pP p.bks (by omega);have k5:=Di p.cls (by omega);refine Xe uQ (aar p) (by simp) ?_;simp[IQ,Qc,aar,Kc,hn];refine⟨k1,k2,aaq _ _ _ ?_⟩;simp;refine Qi eE (fun f m=>f 22=I 0/\m=⟨mb++[[I p.ch,I p.nu,I p.de,I p.of,.sl .ro (p.sh.map Qe),I p.ep,I p.rg,I p.ln,I p.fi,.sl .ro (p.aL.map Qm),.sl (.own ml.length 7) [],.sl .ro (p.bks.map Xa),.sl .ro (p.cls.map Qg)],[I 0,I 0,I 0,I 0,.sl .nil [],I 0,I 0,I 0,I 0,.sl .nil [],.sl .nil [],.sl .nil [],.sl .nil []]],ml++[0],ms,mn⟩) (fun f _=>0) ?_ ?_
 ·exact⟨by simp,by simp⟩
 rintro f m ⟨f22,rfl⟩;simp[f22,eE,IS,aar,Kc];refine⟨k4,k5,?_⟩;simp[Ul]at hK;exact hK _ _
def Dw(f:Int)(o:Od):En:={o.nw with ea:=if o.nw.ea<f then f else o.nw.ea}
def agq(g:Pg)(b:List (Int×Bool)):Int:=Uo (fun e:En=>!(yZ b e.id)) g.p.ens 0
def R8(g:Pg)(b:List (Int×Bool)):Nat:=if agq g b<0 then g.p.ens.length else(agq g b).toNat
def nW(g:Pg)(f:Int)(b:List (Int×Bool))(o:Od):Pl:={g.p with ens:=g.p.ens.take (R8 g b)++Dw f o::g.p.ens.drop (R8 g b)}
def agr{α:Type}(P:α->Bool)(L:List α)(i:Nat):Uo P L i= -1\/∃k:Nat,k<L.length/\Uo P L i=((i+k:Nat):Int):=by
 cases h:L.find? P with
 |none=>exact .inl (Qcu h)
 |some a=>
  obtain⟨k,h1,h2,_⟩:=Kw (i:=i) h;exact .inr ⟨k,(zza.1 h2).1,h1⟩
def ags(Y:YT)(m:AM)(rt:Rt)(kk:Nat)(K:AV->AM->Prop)(hK:K (I (-1)) m):an Tryz.prog aq Y 218 [.sl rt [],.fn 219 [] [.ptr kk 0]] m K:=by
 obtain⟨mb,ml,ms,mn⟩:=m;refine an.mono (an.read (K:=fun r=>r=I (-1)) (Xe B8 (fun _ _ _=>.gd false .junk) (by simp) ?_)) (by rintro r m' ⟨rfl,rfl⟩;exact hK);simp[Ny];refine Qi fk (fun s m=>s 8=I 0/\m=⟨mb,ml,ms,mn⟩) (fun s _=>0) ?_ ?_
 ·exact⟨by simp,rfl⟩
 rintro s m ⟨f8,rfl⟩;simp[f8,fk,Ae];exact lq
def akL:Nat->FuncId->List AV->AV:=fun _ f l=>if f=127 then l.headD .junk else if f=999999 then .aK 0 []else .gd false .junk
def aat:Nat->FuncId->List AV->AV:=fun _ f l=>if f=127 then l.headD .junk else if f=999999 then .junk else .gd false .junk
def L6(Y:YT)(m:AM)(g:Pg)(f:Int)(mid:Nat)(b:List (Int×Bool))(o:Od)(hp:Bh g.p)(hb:fW m.boxes mid b)(ho:o.nw.al.length<=8796093022208)(K:AV->AM->Prop)
  (hK:∀ex V ls,mM (m.boxes++ex) V (nW g f b o).ens->G1 m.boxes.length V->K (.aU [.agg (Xo (nW g f b o) V (.sl .ro (g.p.cls.map Qg)) 0),.bool true]) {m with boxes:=m.boxes++ex,lens:=m.lens++ls}):
  an Tryz.prog aq Y 141 [.agg (Qu g f mid),.agg (Qp o)] m K:=by
 obtain⟨mb,ml,ms,mn⟩:=m;have hoe:=Wj o.nw ho;simp only[Qd]at hoe;have hB:∀ex,fW (mb++ex) mid b:=fun ex=>⟨by have:=hb.1;simp at this |-;omega,hb.ext ex⟩;by_cases aJ:g.p.ens=[]
 ·have kO:=fun ex K hK=>aas Y ⟨mb++ex,ml,ms,mn⟩ g.p hp aJ K hK;simp only[Qc]at kO;have hx:(nW g f b o).ens=[Dw f o]:=by simp[nW,aJ]
  refine Xe Nd aat (by simp) ?_;simp[UF,UG,Qu,Qo,Qc,Qp,Qd,Qg,Qj,aat];refine kO _ _ fun c0 c1=>?_;simp[Ul];refine ags _ _ _ _ _ ?_;simp;refine⟨hoe,agp _ _ ml.length _ rfl (by simp) _ ?_⟩;simp;exact hK _ (.sl (.own ml.length 7) [Qd (Dw f o)]) [1] (.inl ⟨_,by rw[hx];rfl,Dq.own _ _⟩) (G1.sl _ _ _)
 have kO:=fun ex K hK=>xU Y ⟨mb++ex,ml,ms,mn⟩ g.p hp aJ K hK;simp only[Qc]at kO;refine Xe Nd akL (by simp) ?_;simp[UF,UG,Qu,Qo,Qc,Qp,Qd,Qg,Qj,akL];refine kO _ _ fun c0 c1 bx=>?_;simp[Ul,zzao];have hl9:g.p.ens.length<=1000000:=hp.2.2.1;refine an.mono (L5 _ _ g f mid mb.length b (mb.length+5) g.p.ens [] (by omega) (by simp) (by simp[Qu,Qo,Qc]) (hB _) (by simp) (by simp[eM])) ?_;rintro r m' ⟨rfl,rfl⟩;have eS:0<g.p.ens.length:=zzcu.2 aJ;rcases agr (fun e:En=>!(yZ b e.id)) g.p.ens 0 with hI|⟨k,hk,hI⟩
 ·have hJ:R8 g b=g.p.ens.length:=by unfold R8 agq;rw[hI,if_pos (by omega)]
  have hP:(nW g f b o).ens=g.p.ens++[Dw f o]:=by simp[nW,hJ]
  rw[hI];simp[zzao];refine⟨hoe,ago _ _ _ _ _ (eM g.p.ens) (Qd (Dw f o)) (Jt (by simp) (by simp[eM])) (Jt (by simp) (by simp[Dw,Qd])) (Ux _) eS (by omega) rfl rfl _ ?_⟩;simp[zzao];have h3:=fun ex k h1 h2 h4=>hK ex (.bs k 0 (g.p.ens.length+1) 7) [] (.inr ⟨k,[],by rw[hP];simp,h1,h2,rfl⟩) (G1.bs h4);simp only[zzat]at h3;exact h3 _ (mb.length+(bx.length+9)) (by simp) (by simp[hP,pU,Qd]) (by simp)
 have hJ:R8 g b=k:=by unfold R8 agq;rw[hI,if_neg (by omega)];omega
 have zg:Uo (fun e:En=>!(yZ b e.id)) g.p.ens 0=(k:Int):=by rw[hI];omega
 have D3:¬(k:Int)<0:=by omega
 have hP:(nW g f b o).ens=g.p.ens.take k++Dw f o::g.p.ens.drop k:=by simp[nW,hJ]
 rw[zg];simp[zzao,D3];refine⟨hoe,R7 _ _ _ _ _ _ (eM (g.p.ens.take k)) (eM (g.p.ens.drop k)) (Qd (Dw f o)) (Jt (by simp) (by rw[<- pU,zzd];simp[eM])) (Jt (by simp) (by simp[Dw,Qd])) (by omega) rfl (by rw[Ux,zzaq];omega) (by rw[Ux,zzco]) hk (by omega) _ ?_⟩;simp[zzao];have h3:=fun ex k h1 h2 h4=>hK ex (.bs k 0 (g.p.ens.length+1) 7) [] (.inr ⟨k,[],by rw[hP];simp;omega,h1,h2,rfl⟩) (G1.bs h4);simp only[zzat]at h3;exact h3 _ (mb.length+(bx.length+9)) (by simp) (by simp[hP,pU,Qd]) (by simp)
open Go Go.Abs
def L7(f:Int)(e:bD):bD:={e with fr:=if f-e.st<e.fr then f-e.st else e.fr}
def Ye(f:Int):List bD->List bD
 |[]=>[]
 |e::r=>if f<=e.st then Ye f r else L7 f e::Ye f r
def yc(f:Int):∀(l r:List bD),Ye f (l++r)=Ye f l++Ye f r
 |[],_=>rfl
 |e::l,r=>by
  simp only[zzae,Ye,yc f l r];split<;>rfl
def Qde(f:Int):∀(l:List bD),(Ye f l).length<=l.length
 |[]=>zzab _
 |e::l=>by
  have:=Qde f l;simp only[Ye];split<;>simp<;>omega
def akM(ml:List Nat)(o:List bD)(v:AV)(ls:List Nat):Prop:=(o=[]/\v=.sl .nil []/\ls=ml)\/(o≠[]/\v=.sl (.own ml.length 7) (o.map Qf)/\ls=ml++[o.length])
def at1(l:List bD)(F:Int)(mb:List (List AV))(ml:List Nat)(ms:Nat->LS)(mn:Nat)(g:Nat->AV)(m:AM):Prop:=
 ∃(i:Nat)(bx:List (List AV))(ls:List Nat),i<=l.length/\g 11=I i/\m=⟨mb++bx,ls,ms,mn⟩/\akM ml (Ye F (l.take i)) (g 5) ls
def aau:Nat->FuncId->List AV->AV:=fun _ g l=>if g=88 then l.headD .junk else .junk
def yd(Y:YT)(m:AM)(l:List bD)(f:Int)(hl:l.length<=1000000)(hs:∀e∈l,Uf e)(hf:0<=f/\f<=1000000)(K:AV->AM->Prop)
  (hK:∀ex v ls,akM m.lens (Ye f l) v ls->K v {m with boxes:=m.boxes++ex,lens:=ls}):an Tryz.prog aq Y 155 [.sl .ro (l.map Qf),I f] m K:=by
 obtain⟨mb,ml,ms,mn⟩:=m;refine Xe ac7 aau (by simp) ?_;simp[UN,ain];refine Qi uW (at1 l f mb ml ms mn) (fun g _=>l.length-(numOf (g 11)).toNat) ?_ ?_
 ·exact⟨0,[],ml,by omega,by simp,by simp,.inl ⟨by simp[Ye],by simp,rfl⟩⟩
 rintro g m ⟨i,bx,ls,hi,iz,rfl,aT⟩;rcases zzaa i l.length with ai|bw
 ·obtain⟨a,ha⟩:=aP ai;have aa:Qh (l.map Qf) i=Qf a:=Qr (by simp[ha]);have hw:=bH i (by omega);have bA:l.take (i+1)=l.take i++[a]:=by rw[zzar,ha];rfl
  have ah:(i:Int)<(l.length:Int):=by omega
  obtain⟨⟨a1,a2⟩,⟨a3,a4⟩,a5,a6⟩:=hs a (zzac ha);have iY:=Qde f (l.take i);have azv:(Ye f (l.take i)).length<=1000000:=by simp at iY;omega
  by_cases h1:f<=a.st
  ·have hb:Ye f (l.take (i+1))=Ye f (l.take i):=by rw[bA,yc];simp[Ye,h1]
   simp[iz,aa,ai,Qf,h1,hw,uW];refine⟨aN,⟨i+1,_,ls,by omega,by simp,rfl,?_⟩,by omega⟩
   ·rw[hb];exact aT
  have hb:Ye f (l.take (i+1))=Ye f (l.take i)++[L7 f a]:=by rw[bA,yc];simp[Ye,h1]
  have wf1:=wu f (by omega) (by omega);have wf2:=wu a.st (by omega) (by omega);have wf3:=wu a.fr (by omega) (by omega);have wf4:=wu (f-a.st) (by omega) (by omega);have wf5:IntKind.i64.wrap (f-a.st)=f-a.st:=by rw[Qk]<;>omega
  have qj:=Ur a.al a6;obtain⟨fr',an3⟩:∃fr',fr'=if f-a.st<a.fr then f-a.st else a.fr:=⟨_,rfl⟩;have Om:Qf (L7 f a)=[I a.id,I a.it,I a.st,I fr',I a.i,I a.re,.sl .ro (a.al.map Qe)]:=by rw[an3];rfl
  have ud:(0<a.fr/\f-a.st<a.fr/\fr'=f-a.st)\/(0<a.fr/\¬f-a.st<a.fr/\fr'=a.fr)\/(¬0<a.fr/\fr'=a.fr):=by
   rw[an3];by_cases h0:0<a.fr
   ·by_cases hc:f-a.st<a.fr
    ·exact .inl ⟨h0,hc,by simp[hc]⟩
    exact .inr (.inl ⟨h0,hc,by simp[hc]⟩)
   exact .inr (.inr ⟨h0,by rw[if_neg (by omega)]⟩)
  have si:(Ye f (l.take (i+1))).length=(Ye f (l.take i)).length+1:=by rw[hb];simp
  have R6:Ye f (l.take (i+1))≠[]:=by rw[hb];simp
  have fin:(Ye f (l.take (i+1))).map Qf=(Ye f (l.take i)).map Qf++[[I a.id,I a.it,I a.st,I fr',I a.i,I a.re,.sl .ro (a.al.map Qe)]]:=by rw[hb,zzbw,<- Om];rfl
  clear an3 Om;have F0:=aT;clear aT;obtain⟨e0,h5,rfl⟩|⟨e0,h5,rfl⟩:=F0
  ·rw[e0]at fin si;obtain⟨h0,hc,rfl⟩|⟨h0,hc,rfl⟩|⟨h0,rfl⟩:=ud
   all_goals
    simp[Qf,aau,uW, *];refine⟨aN,⟨i+1,_,_,by omega,by simp,rfl,.inr ⟨R6,?_,?_⟩⟩,by omega⟩
    ·simp[fin]
    rw[si];rfl
  obtain⟨h0,hc,rfl⟩|⟨h0,hc,rfl⟩|⟨h0,rfl⟩:=ud
  all_goals
   simp[Qf,aau,uW, *];refine⟨⟨by rintro row (⟨x,_,rfl⟩|rfl)<;>rfl,by omega⟩,ag ?_,⟨i+1,_,_,by omega,by simp,rfl,.inr ⟨R6,?_,?_⟩⟩,by omega⟩
   ·repeat(first|exact Qa _ _|refine Qb _ rfl ?_)
   ·simp[fin]
   rw[si]
 have hbf:l.take i=l:=zzam bw;rw[hbf]at aT;simp[iz,zzdt.2 bw,uW];exact hK _ _ _ aT
end
end Go.Proofs.YtnopaopphmjnmaaGreatDoor
