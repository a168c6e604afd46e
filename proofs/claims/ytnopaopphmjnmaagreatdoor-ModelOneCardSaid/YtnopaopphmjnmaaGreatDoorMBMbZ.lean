import Derived.Test.YtnopaopphmjnmaaGreatDoorMBMbT
import Derived.Test.YtnopaopphmjnmaaGreatDoorMBMbW
set_option linter.all false
set_option maxRecDepth 100000
set_option maxHeartbeats 64000000
namespace Go.Proofs.YtnopaopphmjnmaaGreatDoor
noncomputable section
open Go Go.Abs
def GW(g:Pg)(f:Int)(q:Pl)(d:Int)(er:List AV):List AV:=[.ep (Qc q++[I d]) 0,.ep (Qo g++[I f,.junk]) 0,.ep er 0]
def Qcx(g:Pg)(f:Int)(q:Pl)(d:Int)(a0 a1 a2:AV)(fr:Int)(r:List AV)(item region:Int)(h1:q.cls.length<=1000000)(h2:q.sh.length<=1000000000)(h3:q.aM.length<=1000000000):
  Pure Tryz.prog az 225 ([I item,I region]++GW g f q d (a0::a1::a2::I fr::r)) (.bool (Xw q item region f fr)):=by
 have k:=Qdw q item region f fr h1 h2 h3;simp only[Qc]at k;refine Qn ade (fun _ _ _=>.bool (Xw q item region f fr)) (by simp[GW]) ?_;simp[ahT,ahU,GW,Qc,Qo];exact k
def iw(g:Pg)(f:Int)(o:Od)(q:Pl)(d:Int)(e:bE):Option Int:=
 if o.ki=1/\o.en=e.id then some (qZ g e.id+d-f)
 else if o.ki=2/\o.en=e.id then none
 else if o.ki=4/\Xw q e.it 0 f (uk f e).fr=false then none
 else some (uk f e).fr
def sG(q:Pl)(f:Int):Nat->FuncId->List AV->AV:=fun _ k l=>if k=225 then(match l with
 |[.int _ it,.int _ re,_,_,.ep (_::_::_::.int _ F::_) 0]=>.bool (Xw q it re f F)
 |_=>.junk)else .gd false .junk
def jP(q:Pl)(f:Int)(id F:Int)(l:List Sp):List Sp:=l.filter fun a=>Xw q a.2 a.1 f F
def amN(ml:List Nat)(o:List Sp)(v:AV)(ls:List Nat):Prop:=(o=[]/\v=.sl .nil []/\ls=ml)\/(o≠[]/\v=.sl (.own ml.length 2) (o.map Qe)/\ls=ml++[o.length])
def aso(mb:List (List AV))(ml:List Nat)(ms:Nat->LS)(mn:Nat)(r0 r1 r2 pre:List AV)(al:List Sp)(A:List Sp->List Sp)(s:Nat->AV)(m:AM):Prop:=
 ∃(j:Nat)(bx:List (List AV))(ls:List Nat)(v:AV),s 106=I j/\j<=al.length/\amN ml (A (al.take j)) v ls/\m=⟨mb++(r0::r1::r2::nN::(pre++[v])::bx),ls,ms,mn⟩
def rj(q:Pl)(f:Int)(it F:Int)(n:Nat):Int:=Uo (fun r=>Xw q it r f F) n
def afB(b:Nat->Bool)(i:Nat)(h:i<8):IntKind.i64.wrap ((((Uo b i%2 ^ IntKind.i64.bits).toNat|||(IntKind.i64.wrap (2 ^ min i IntKind.i64.bits)%2 ^ IntKind.i64.bits).toNat:Nat)):Int)=Uo b i+2 ^ i:=by
 have gi:=Dd b i;obtain⟨x,hx⟩:∃x:Nat,Uo b i=(x:Int):=⟨(Uo b i).toNat,by omega⟩
 have hx2:x<2 ^ i:=by
  have h2:=gi.2;rw[hx]at h2
  exact_mod_cast h2
 rw[hx];exact ZN i h x hx2
def LB:SC:=(⟨_,by cbv⟩:vO [1,1,1,1,1,1] zM).1
def ZO:SC:=(⟨_,fun _=>by cbv⟩:vP [1,1,1,1,1,1] zM).1 LB
theorem GX:zM=ZO:=rfl
def xS(Y:YT)(mb:List (List AV))(ml:List Nat)(ms:Nat->LS)(mn:Nat)(g:Pg)(f:Int)(mid:Nat)(R1:List AV)(q:Pl)(V:AV)(rt:Rt)(d:Int)(e:bE)(F:Int)(E0:List (Nat×AV))(x5 x6:AV)(hV:mD mb V q.ens)(aT:C8 rt)(hq:A3 q)(K0:0<=q.rg/\q.rg<=8)(K:AV->AM->Prop)
  (h3:Abs.look E0 3=.ptr mb.length 0)(h5:Abs.look E0 5=.ptr (mb.length+2) 0)(h6:Abs.look E0 6=.ptr (mb.length+3) 0)(h8:Abs.look E0 8=.ptr (mb.length+4) 0)(qN:Abs.look E0 11=.fn 225 [] [.ptr (mb.length+2) 0,.ptr mb.length 0,.ptr (mb.length+4) 0])
  (h1:∀ex ls v,amN ml (jP q f e.id F ((Zf e.id q.ens).getD xM).al) v ls->K (.aV [.agg [I e.id,I e.it,I f,I F,I (e.i+(f-e.st)),I (rj q f e.it F q.rg.toNat),v],.bool true]) ⟨mb++ex,ls,ms,mn⟩):
  vc Tryz.prog az (sG q f) Y LB ⟨Zi 124 E0,⟨mb++[Qu g f mid,R1,Xp q V (.sl rt (q.cls.map Qg)) d,nN,[I e.id,I e.it,I f,I F,I (e.i+(f-e.st)),x5,x6]],ml,ms,mn⟩⟩ (vR Tryz.prog az (sG q f) Eg K):=by
 obtain⟨q1,q2,q3,q4,q5,q6⟩:=hq;have hc:=hV.cell;have fu:=fun ex ml d=>hV.bF ex ml ms mn d;simp[LB,h5,h8,Qu,Qo,Qc,Xp,nN];refine Qj I1 (fun s m=>∃i:Nat,s 80=I i/\(i:Int)<=q.rg/\m=⟨mb++[Qu g f mid,R1,Xp q V (.sl rt (q.cls.map Qg)) d,nN,[I e.id,I e.it,I f,I F,I (e.i+(f-e.st)),I (rj q f e.it F i),.sl .nil []]],ml,ms,mn⟩) (fun s _=>(q.rg-numOf (s 80)).toNat) ?_ ?_
 ·exact⟨0,by simp,by simp;omega,by simp[Qu,Qo,Qc,Xp,nN,rj,Uo]⟩
 rintro s m ⟨i,h80,hi,rfl⟩;by_cases ai:(i:Int)<q.rg
 ·have hw:=bJ i (by omega);have kc:=Qcx g f q d (I e.id) (I e.it) (I f) F [I (e.i+(f-e.st)),I (rj q f e.it F i),.sl .nil []] e.it i q5 (by omega) (by omega);simp only[GW,Qc,Qo,zzae,zzai]at kc;simp[h8,qN,h80,I1,ai,hw,Qu,Qo,Qc,Xp,nN,sG,fu,aT _ _ _];have hor:=afB (fun r=>Xw q e.it r f F) i (by omega);refine⟨kc,?_⟩;have dJ:rj q f e.it F (i+1)=rj q f e.it F i+if Xw q e.it (i:Int) f F=true then 2 ^ i else 0:=rfl;split
  ·rename_i ha;rw[if_pos ha]at dJ;refine⟨aN,⟨i+1,by simp,by omega,by rw[dJ];exact hor⟩,by omega⟩
  rename_i ha;rw[if_neg ha]at dJ;refine⟨aN,⟨i+1,by simp,by omega,by rw[dJ];simp⟩,by omega⟩
 have kn:=fun ex K hK=>Oo Y ⟨mb++ex,ml,ms,mn⟩ q V rt e.id (hV.ext ex) (by omega) q6 K hK;simp only[Ja]at kn;simp[h5,h8,h80,I1,ai,Qu,Qo,Qc,Xp,nN,sG];refine kn _ _ ?_;rw[GQ];generalize rtE (Zf e.id q.ens)=r7;generalize(Zf e.id q.ens).isSome=b7;obtain⟨E,hE⟩:∃E,(Zf e.id q.ens).getD xM=E:=⟨_,rfl⟩;rw[hE]
 have hEl:E.al.length<=8796093022208:=by
  rw[<- hE];cases hf:Zf e.id q.ens with
  |none=>simp[xM]
  |some x=>exact q6 x (jt hf).1
 have hiq:i=q.rg.toNat:=by omega
 rw[hE]at h1;simp[Eg];refine Qj BB (aso mb ml ms mn (Qu g f mid) R1 (Xp q V (.sl rt (q.cls.map Qg)) d) [I e.id,I e.it,I f,I F,I (e.i+(f-e.st)),I (rj q f e.it F i)] E.al (jP q f e.id F)) (fun s _=>E.al.length-(numOf (s 106)).toNat) ?_ ?_
 ·exact⟨0,_,ml,.sl .nil [],by simp,by omega,.inl ⟨by simp[jP],rfl,rfl⟩,by simp[Qu,Qo,Qc,Xp,nN];rfl⟩
 rintro s2 m ⟨j,bx,ls,v,h106,hj,hO,rfl⟩;rcases zzaa j E.al.length with NG|hgj
 ·obtain⟨a,ha⟩:=aR NG;have aa:=Zd ha;have asp:(j:Int)<(E.al.length:Int):=by omega
  have hw:=bJ j (by omega)
  have bz:jP q f e.id F (E.al.take (j+1))=jP q f e.id F (E.al.take j)++if Xw q a.2 a.1 f F=true then[a]else[]:=by
   unfold jP;rw[zzar,ha,zzcp];congr 1;by_cases hh:Xw q a.2 a.1 f F=true<;>simp[hh]
  have Fv:(jP q f e.id F (E.al.take j)).length<=j:=by
   refine zzbq (zzbn _ _) ?_;simp;omega
  generalize jP q f e.id F (E.al.take j)=oL at hO bz Fv;obtain⟨rfl,rfl,rfl⟩|⟨ho,rfl,rfl⟩:=hO
  ·have kc:=Qcx g f q d (I e.id) (I e.it) (I f) F [I (e.i+(f-e.st)),I (rj q f e.it F i),.sl .nil []] a.2 a.1 q5 (by omega) (by omega);simp only[GW,Qc,Qo,zzae,zzai]at kc;simp[h8,qN,h106,BB,asp,aa,hw,Qu,Qo,Qc,Xp,nN,sG,fu,aT _ _ _];refine⟨kc,?_⟩;split
   ·rename_i hh;rw[if_pos hh]at bz;refine⟨aN,⟨j+1,bx++[[I a.1,I a.2]],ls++[1],.sl (.own ls.length 2) [Qe a],by simp,by omega,.inr ⟨by rw[bz];simp,by rw[bz];rfl,by rw[bz];rfl⟩,by simp[nN,Qe]⟩,by omega⟩
   rename_i hh;rw[if_neg hh]at bz;refine⟨aN,⟨j+1,bx++[[I a.1,I a.2]],ls,.sl .nil [],by simp,by omega,.inl ⟨by rw[bz];rfl,rfl,rfl⟩,by simp[nN]⟩,by omega⟩
  have kc:=Qcx g f q d (I e.id) (I e.it) (I f) F [I (e.i+(f-e.st)),I (rj q f e.it F i),.sl .ro (oL.map Qe)] a.2 a.1 q5 (by omega) (by omega);simp only[GW,Qc,Qo,zzae,zzai]at kc;simp[h8,qN,h106,BB,asp,aa,hw,Qu,Qo,Qc,Xp,nN,sG,fu,aT _ _ _];refine⟨kc,?_⟩
  have NX:∀row:List AV,((∃x y,(x,y)∈oL/\Qe (x,y)=row)\/row=Qe a)->row.length=2:=by
   rintro row (⟨x,y,_,rfl⟩|rfl)<;>rfl
  split
  ·rename_i hh;rw[if_pos hh]at bz;refine⟨⟨NX,by omega⟩,aN,⟨j+1,bx++[[I a.1,I a.2]],ml++[oL.length+1],.sl (.own ml.length 2) ((oL++[a]).map Qe),by simp,by omega,.inr ⟨by rw[bz];simp,by rw[bz],by rw[bz];simp⟩,by simp[nN,Qe]⟩,by omega⟩
  rename_i hh;rw[if_neg hh,zzat]at bz;refine⟨aN,⟨j+1,bx++[[I a.1,I a.2]],ml++[oL.length],.sl (.own ml.length 2) (oL.map Qe),by simp,by omega,.inr ⟨by rw[bz];exact ho,by rw[bz],by rw[bz]⟩,by simp[nN]⟩,by omega⟩
 obtain rfl:j=E.al.length:=by omega
 rw[zzbm]at hO;have bK:Qv v=true:=by rcases hO with⟨_,rfl,_⟩|⟨_,rfl,_⟩<;>rfl
 have h1:=fun ex=>h1 ex ls v hO;rw[<- hiq]at h1;simp[h6,h8,h106,BB,Qu,Qo,Qc,Xp,nN,bK];exact h1 _
def afC(Y:YT)(m:AM)(g:Pg)(f:Int)(mid:Nat)(b:List (Int×Bool))(o:Od)(q:Pl)(V:AV)(rt:Rt)(d:Int)(hV:mD m.boxes V q.ens)(aT:C8 rt)(h:lP g f)(hb:fS m.boxes mid b)(hq:A3 q)(hd:0<=d/\d<=1000000000)(K0:0<=q.rg/\q.rg<=8)(K:AV->AM->Prop)
  (h1:∀e F,Jg g f b=some e->iw g f o q d e=some F->F≠0->∀ex ls v,amN m.lens (jP q f e.id F ((Zf e.id q.ens).getD xM).al) v ls->K (.aV [.agg [I e.id,I e.it,I f,I F,I (e.i+(f-e.st)),I (rj q f e.it F q.rg.toNat),v],.bool true]) {m with boxes:=m.boxes++ex,lens:=ls})
  (h0:(Jg g f b).bind (iw g f o q d)=none\/(Jg g f b).bind (iw g f o q d)=some 0->∀ex,K (.aV [.agg nN,.bool false]) {m with boxes:=m.boxes++ex}):
  an Tryz.prog az Y 156 [.agg (Qu g f mid),.agg (Qq o),.agg (Xp q V (.sl rt (q.cls.map Qg)) d)] m K:=by
 obtain⟨mb,ml,ms,mn⟩:=m;obtain⟨q1,q2,q3,q4,q5,q6⟩:=hq;have hc:=hV.cell;have hB:∀ex,fS (mb++ex) mid b:=fun ex=>⟨by have:=hb.1;simp at this |-;omega,hb.ext ex⟩;have kp:=fun ex K hK=>ajD Y ⟨mb++ex,ml,ms,mn⟩ g f mid b h (hB ex) K hK;simp only[Qu,Qo,Qc,zzae,zzai]at kp;have fu:=fun ex ml d=>hV.bF ex ml ms mn d;cases hp:Jg g f b with
 |none=>
  have h0:=h0 (by rw[hp];exact .inl rfl);refine Xd MR (fun _ f _=>.gd false .junk) (by simp) ?_;simp[GX,ZO,Eg,Qu,Qo,Qc,Qq,Qd,Qg,Qk,Xp,hc];refine kp _ _ ?_;simp[Ul,hp];simp[nN]at h0;exact h0 _
 |some e=>
  refine Xd MR (sG q f) (by simp) ?_;simp[GX,ZO,Eg,Qu,Qo,Qc,Qq,Qd,Qg,Qk,Xp,hc,sG];refine kp _ _ ?_;have Ir:=C6 h e.id;have hfs:=h.2.2.1;unfold nM at hfs;by_cases cV:o.ki=1
  ·by_cases aO:o.en=e.id
   ·have w1:IntKind.i64.wrap (qZ g e.id+d)=qZ g e.id+d:=by rw[Qi]<;>omega
    have w2:IntKind.i64.wrap (qZ g e.id+d-f)=qZ g e.id+d-f:=by rw[Qi]<;>omega
    obtain⟨F,hF⟩:∃F,qZ g e.id+d-f=F:=⟨_,rfl⟩;have wF:IntKind.i64.wrap F=F:=by rw[<- hF];exact w2
    have w0:IntKind.i64.wrap 0=0:=by decide
    have tM:(Jg g f b).bind (iw g f o q d)=some F:=by rw[hp];simp[iw,cV,aO,hF]
    by_cases qd:F=0
    ·have h0:=h0 (by rw[tM,qd];exact .inr rfl);simp[Ul,hp,Qf,uk,cV,aO,w1,w0,hF,qd];simp[nN]at h0;exact h0 _
    simp[Ul,hp,Qf,uk,cV,aO,w1,wF,hF,qd];refine xS Y mb ml ms mn g f mid _ q V rt d e F _ _ _ hV aT ⟨q1,q2,q3,q4,q5,q6⟩ K0 K ?_ ?_ ?_ ?_ ?_ (h1 e F hp (by simpa[hp]using tM) qd)<;>simp
   have w0:True:=trivial;obtain⟨F,hF⟩:∃F,e.fr-(f-e.st)=F:=⟨_,rfl⟩;have tM:(Jg g f b).bind (iw g f o q d)=some F:=by rw[hp];simp[iw,uk,hF,cV,aO]
   by_cases qd:F=0
   ·have h0:=h0 (by rw[tM,qd];exact .inr rfl);simp[Ul,hp,Qf,uk,cV,aO,hF,qd];simp[nN]at h0;exact h0 _
   simp[Ul,hp,Qf,uk,cV,aO,hF,qd];refine xS Y mb ml ms mn g f mid _ q V rt d e F _ _ _ hV aT ⟨q1,q2,q3,q4,q5,q6⟩ K0 K ?_ ?_ ?_ ?_ ?_ (h1 e F hp (by simpa[hp]using tM) qd)<;>simp
  by_cases di:o.ki=2
  ·by_cases aO:o.en=e.id
   ·have w0:True:=trivial;have h0:=h0 (by rw[hp];simp[iw,di,aO]);simp[Ul,hp,Qf,uk,di,aO];simp[nN]at h0;exact h0 _
   have w0:True:=trivial;obtain⟨F,hF⟩:∃F,e.fr-(f-e.st)=F:=⟨_,rfl⟩;have tM:(Jg g f b).bind (iw g f o q d)=some F:=by rw[hp];simp[iw,uk,hF,di,aO]
   by_cases qd:F=0
   ·have h0:=h0 (by rw[tM,qd];exact .inr rfl);simp[Ul,hp,Qf,uk,di,aO,hF,qd];simp[nN]at h0;exact h0 _
   simp[Ul,hp,Qf,uk,di,aO,hF,qd];refine xS Y mb ml ms mn g f mid _ q V rt d e F _ _ _ hV aT ⟨q1,q2,q3,q4,q5,q6⟩ K0 K ?_ ?_ ?_ ?_ ?_ (h1 e F hp (by simpa[hp]using tM) qd)<;>simp
  by_cases NW:o.ki=4
  ·cases ha0:Xw q e.it 0 f (e.fr-(f-e.st))with
   |false=>
    have h0:=h0 (by rw[hp];simp[iw,uk,NW,ha0]);have kc0:=Qcx g f q d (I e.id) (I e.it) (I f) (e.fr-(f-e.st)) [I (e.i+(f-e.st)),I e.re,.sl .ro (e.al.map Qe)] e.it 0 q5 (by omega) (by omega);simp only[GW,Qc,Qo,zzae,zzai]at kc0;rw[ha0]at kc0;simp[Ul,hp,Qf,uk,NW,fu,aT _ _ _,ha0];simp[nN]at h0;exact⟨kc0,h0 _⟩
   |true=>
    obtain⟨F,hF⟩:∃F,e.fr-(f-e.st)=F:=⟨_,rfl⟩;rw[hF]at ha0;have tM:(Jg g f b).bind (iw g f o q d)=some F:=by rw[hp];simp[iw,uk,hF,NW,ha0]
    have kc0:=Qcx g f q d (I e.id) (I e.it) (I f) F [I (e.i+(f-e.st)),I e.re,.sl .ro (e.al.map Qe)] e.it 0 q5 (by omega) (by omega);simp only[GW,Qc,Qo,zzae,zzai]at kc0;rw[ha0]at kc0;by_cases qd:F=0
    ·have h0:=h0 (by rw[tM,qd];exact .inr rfl);rw[qd]at ha0 kc0;simp[Ul,hp,Qf,uk,NW,fu,aT _ _ _,hF,ha0,qd];simp[nN]at h0;exact⟨kc0,h0 _⟩
    simp[Ul,hp,Qf,uk,NW,fu,aT _ _ _,hF,ha0,qd];refine⟨kc0,?_⟩;refine xS Y mb ml ms mn g f mid _ q V rt d e F _ _ _ hV aT ⟨q1,q2,q3,q4,q5,q6⟩ K0 K ?_ ?_ ?_ ?_ ?_ (h1 e F hp (by simpa[hp]using tM) qd)<;>simp
  have w0:True:=trivial;obtain⟨F,hF⟩:∃F,e.fr-(f-e.st)=F:=⟨_,rfl⟩;have tM:(Jg g f b).bind (iw g f o q d)=some F:=by rw[hp];simp[iw,uk,hF,cV,di,NW]
  by_cases qd:F=0
  ·have h0:=h0 (by rw[tM,qd];exact .inr rfl);simp[Ul,hp,Qf,uk,cV,di,NW,hF,qd];simp[nN]at h0;exact h0 _
  simp[Ul,hp,Qf,uk,cV,di,NW,hF,qd];refine xS Y mb ml ms mn g f mid _ q V rt d e F _ _ _ hV aT ⟨q1,q2,q3,q4,q5,q6⟩ K0 K ?_ ?_ ?_ ?_ ?_ (h1 e F hp (by simpa[hp]using tM) qd)<;>simp
open Go Go.Abs
def ZP(Y:YT)(m:AM)(g:Pg)(f:Int)(mid kk:Nat)(b:List (Int×Bool))(e:En)(hk:kk<m.boxes.length)(hr:Qh m.boxes kk=Qu g f mid)(hb:fS m.boxes mid b):
  an Tryz.prog az Y 219 [.agg (Qd e),.ptr kk 0] m (fun r m'=>m'=m/\r=.bool !(yP b e.id)):=by
 obtain⟨mb,ml,ms,mn⟩:=m;have hR:∀ex,Qh (mb++ex) mid=[.aK 0 (bH .bool b)]:=hb.ext;have hM:∀ex,Qh (mb++ex) kk=Qu g f mid:=fun ex=>by rw[Ql hk];exact hr
 simp only[Qu,Qo,Qc,zzae,zzai]at hM;refine an.read (Xd ac9 (fun _ _ _=>.junk) (by simp) ?_);rcases Xq AV.bool e.id b 0 with⟨b1,b2,_⟩|⟨u,u',b1,b2,_⟩
 ·simp[T9,Up,Qd,hM,hR,yP,b1,b2];exact kX
 cases u<;>simp[T9,Up,Qd,hM,hR,yP,b1,b2]<;>exact kX
def asq(Y:YT)(m:AM)(g:Pg)(f:Int)(mid kk:Nat)(b:List (Int×Bool))(e:En)(hk:kk<m.boxes.length)(hr:Qh m.boxes kk=Qu g f mid)(hb:fS m.boxes mid b)(K:AV->AM->Prop)(hK:K (.bool !(yP b e.id)) m):
  an Tryz.prog az Y 219 [.agg (Qd e),.ptr kk 0] m K:=
 an.mono (ZP Y m g f mid kk b e hk hr hb) (by rintro r m' ⟨rfl,rfl⟩;exact hK)
def LC(Y:YT)(m:AM)(g:Pg)(f:Int)(mid kk:Nat)(b:List (Int×Bool))(k:Nat)(L:List En)(z:List AV)(hl:L.length<=1000000000)(hk:kk<m.boxes.length)(hr:Qh m.boxes kk=Qu g f mid)(hb:fS m.boxes mid b)(hV:k<m.boxes.length)(hrV:Qh m.boxes k=eG L++z):
  an Tryz.prog az Y 218 [.bs k 0 L.length 7,.fn 219 [] [.ptr kk 0]] m (fun r m'=>m'=m/\r=I (Uq (fun e:En=>!(yP b e.id)) L 0)):=by
 obtain⟨mb,ml,ms,mn⟩:=m;have aH:=Ux L;have k1:=fun e K hK=>asq Y ⟨mb,ml,ms,mn⟩ g f mid kk b e hk hr hb K hK;refine an.read (Xd BK (fun _ _ _=>.gd false .junk) (by simp) ?_);simp[M9];refine Qj eW (fun s m=>∃i:Nat,s 8=I i/\i<=L.length/\Uq (fun e:En=>!(yP b e.id)) (L.drop i) i=Uq (fun e:En=>!(yP b e.id)) L 0/\m=⟨mb,ml,ms,mn⟩) (fun s _=>L.length-(numOf (s 8)).toNat) ?_ ?_
 ·exact⟨0,by simp,by omega,by simp,rfl⟩
 rintro s m ⟨i,f8,hi,hidx,rfl⟩;rcases zzaa i L.length with ai|bB
 ·obtain⟨x,hx⟩:=aR ai;have hg:=C7 hx;simp only at hrV
  have aa:(Qh mb k).drop (i*7)=I x.id::I x.it::I x.fr::I x.ea::I x.la::I x.bo::.sl .ro (x.al.map Qe)::(eG (L.drop (i+1))++z):=by
   rw[hrV,zzdl (by rw[Ux];omega),hg];rfl
  have ah:(i:Int)<(L.length:Int):=by omega
  have hw:=bJ i (by omega);have hd:L.drop i=x::L.drop (i+1):=by rw[zzaf ai,(zza.1 hx).2]
  have kx:=k1 x;simp only[Qd]at kx;rw[hd,Uq]at hidx;cases hP:yP b x.id with
  |false=>
   rw[if_pos (by simp[hP])]at hidx;simp[f8,eW,ah,aa];refine kx _ ?_;simp[hP,zV,hidx];exact kX
  |true=>
   rw[if_neg (by simp[hP])]at hidx;simp[f8,eW,ah,aa];refine kx _ ?_;simp[hP,hw];refine⟨aN,⟨i+1,by simp,by omega,hidx⟩,by omega⟩
 obtain rfl:i=L.length:=by omega
 rw[zzbr,Uq]at hidx;simp[f8,eW,zV,<- hidx];exact kX
open Go Go.Abs Go.RowKit
def GY:bC Tryz.prog 220:=by
 first|exact BL.bC|(unfold bC;decide)|kernel_rfl
def RG(Y:YT)(m:AM)(id gG i n:Nat)(A C V:List AV)(aO:m.boxes[id]?=some (A++C))(fJ:m.boxes[gG]?=some V)(aJ:gG≠id)(hV:V.length=7)(hA:A.length=i*7)(hC:C.length=(n-i)*7)
  (hi:i<n)(hn:n+1<=1000000000)(K:AV->AM->Prop)(hK:K (.bs m.boxes.length 0 (n+1) 7) {m with boxes:=m.boxes.set id []++[A++(V++C)]}):an Tryz.prog az Y 220 [.bs id 0 n 7,I i,.bs gG 0 1 7] m K:=by
 refine an.fO GY fun N w0 aq γ w vs hm hl hr=>?_
 obtain⟨v1,r1,rfl,g1,yJ⟩:∃v1 r1,vs=v1::r1/\aB w γ (.bs id 0 n 7) v1/\ak w γ [I i,.bs gG 0 1 7] r1:=by
  cases vs with
  |nil=>have:=hr.1;simp at this
  |cons v r=>exact⟨v,r,rfl,hr.2 0 _ _ rfl rfl,⟨by have:=hr.1;simp at this |-;omega,fun k c u h1 h2=>hr.2 (k+1) c u (by simpa using h1) (by simpa using h2)⟩⟩
 obtain⟨v2,r2,rfl,g2,gZ⟩:∃v2 r2,r1=v2::r2/\aB w γ (I i) v2/\ak w γ [.bs gG 0 1 7] r2:=by
  cases r1 with
  |nil=>have:=yJ.1;simp at this
  |cons v r=>exact⟨v,r,rfl,yJ.2 0 _ _ rfl rfl,⟨by have:=yJ.1;simp at this |-;omega,fun k c u h1 h2=>yJ.2 (k+1) c u (by simpa using h1) (by simpa using h2)⟩⟩
 obtain⟨v3,rfl,g3⟩:=Ua gZ;cases g2;obtain⟨b,cap,arr,te,hβ,rfl,dZ,hh,hs⟩:=g1.cL;obtain⟨vb,asr,uo,tv,hβv,rfl,hlv,hhv,hsv⟩:=g3.cL;have hB:m.B id=some (A++C):=aO;have th:m.B gG=some V:=fJ
 have ajG:A++C≠[]:=by
  intro h;have:=congrArg List.length h;simp only[zzag,hA,hC,zzcf]at this;omega
 have ass:V≠[]:=by rintro rfl;simp at hV
 have hvb:vb≠b:=by
  rintro rfl;rcases hm.inj _ _ _ hβ hβv with h|h|h
  ·rw[hB]at h;exact ajG (Option.some.inj h)
  ·rw[th]at h;exact ass (Option.some.inj h)
  exact aJ h.symm
 obtain⟨bR,JK,q2,q3,q4⟩:=hm.box id _ b hB hβ;rw[hh]at q2;cases q2;obtain⟨axI,tv',p2,p3,p4⟩:=hm.box gG _ vb th hβv;rw[hhv]at p2;cases p2;have hvl:=p3.1;simp only[zzbh,hV]at hvl
 have hVr:ak w γ V (uo.toList.take 7):=by
  refine⟨by simp only[zzaq,zzbh,hV];omega,fun k c v g1 g2=>?_⟩;have hk:=(zza.1 g1).1;rw[zzbi,if_pos (by omega)]at g2;exact p3.2 k c v g1 g2
 have hvo:∀v∈uo.toList.take 7,v.oneCell'=true:=fun v hv=>p4 v (zzbx hv);have hi7:(i+1)*7=A.length+V.length:=by rw[hA,hV];omega
 simp only[zzbt]at hs;by_cases cw:n+1<=cap
 ·have fP:=RD b n cap i vb asr arr uo te tv w hi cw hn hvb hh hhv hs hvl q4 p4;have Py:(n+1)*7<=cap*7:=zzb _ cw;rw[hi7,<- hA,<- hC]at fP;obtain⟨e1,m1⟩:=RE hm aO ajG hβ hh hVr hvo (by rw[hA,hC,hV];omega);refine fP.mono ?_;rintro e w' ⟨rfl,rfl⟩;have hh':w.drew.heap[b]?=some (.cells arr te (0,0)):=hh;refine⟨_,_,.bs m.boxes.length 0 (n+1) 7,_,rfl,e1.dB,m1,hl.mono' e1 rfl,.bs (by simp[G.box]) cw (Qz b _ _ _ _ te _ (Qz b _ _ _ arr te _ hh')) (by rw[Va,Va];omega),hK⟩
 have fP:=ZM b n cap i vb asr arr uo te tv w hi dZ (by omega) hn hvb hh hhv hs hvl q4 p4;refine fP.mono ?_;rintro e w' ⟨Gc,nQ,zs,hG,rfl,hR,hz,hGR,hzo,rfl⟩;rw[<- hA]at hR;obtain⟨e1,m1⟩:=afA (te2:=36) hm aO hβ hh hVr hvo hR (by rw[hC,hV];omega) hzo (by simp[ass]);rw[hi7,<- hA,<- hC];refine⟨_,_,.bs m.boxes.length 0 (n+1) 7,_,rfl,e1.dB,m1,hl.mono' e1 rfl,.bs (by simp[G.box]) hG (Qz _ _ _ _ _ 36 _ (Qz _ _ _ (w.drew.alloc (.cells nQ 36)) nQ 36 _ (Ya w _))) (by rw[Va,Va];omega),hK⟩
open Go Go.Abs
def Ju{B:List (List AV)}{id:Nat}{c:List AV}(h:id<B.length)(hr:Qh B id=c):B[id]?=some c:=by
 rw[Yz h,hr]
def afD(Y:YT)(m:AM)(id gG n:Nat)(A V:List AV)(aO:m.boxes[id]?=some A)(fJ:m.boxes[gG]?=some V)(hA:A.length=n*7)(hn:0<n)(hn9:n<=1000000000)(hV:V.length=7)(okV:Zg V=true)
  (K:AV->AM->Prop)(hK:K (.bs m.boxes.length 0 (n+1) 7) {m with boxes:=m.boxes.set id []++[A++V]}):an Tryz.prog az Y 220 [.bs id 0 n 7,I n,.bs gG 0 1 7] m K:=by
 obtain⟨mb,ml,ms,mn⟩:=m;have r1:=Qs aO;have r2:=Qs fJ;have l1:=(zza.1 aO).1;have l2:=(zza.1 fJ).1;simp only at r1 r2 l1 l2 hK;have aJ:¬A=[]:=by rintro rfl;simp at hA;omega
 refine Xd BL (fun _ _ _=>.junk) (by simp) ?_;simp[UA,UB,r1,r2,l1,l2,hA,hV,aJ];refine⟨by omega,?_⟩;rw[zzam (by omega),zzam (by omega)];exact hK
def afE(Y:YT)(m:AM)(k:Nat)(row:List AV)(aa:row.length=7)(hk:m.lens[k]?=some 0)(K:AV->AM->Prop)(hK:K (.sl (.own k 7) [row]) {m with lens:=m.lens.set k 1}):
  an Tryz.prog az Y 220 [.sl (.own k 7) [],I 0,.sl .full [row]] m K:=by
 obtain⟨mb,ml,ms,mn⟩:=m;refine Xd BL (fun _ _ _=>.junk) (by simp) ?_;simp[UA,UB,aa];exact⟨hk,hK⟩
def ZQ(Y:YT)(m:AM)(K:AV->AM->Prop)(hK:K (.sl (.own m.lens.length 7) []) {m with lens:=m.lens++[0]}):an Tryz.prog az Y 126 [.sl .ro []] m K:=by
 refine Xd BA (fun _ _ _=>.junk) (by simp) ?_;simp[MG,MH];exact hK
def ZR(p:Pl):Nat->FuncId->List AV->AV:=fun d f l=>if f=126 then .gd false .junk else Kc p d f l
def ZS(Y:YT)(m:AM)(p:Pl)(h:A3 p)(hn:p.ens=[])(K:AV->AM->Prop)
  (hK:∀c0 c1,K (.agg (Um p (.sl (.own m.lens.length 7) []))) {m with boxes:=m.boxes++[c0,c1],lens:=m.lens++[0]}):an Tryz.prog az Y 61 [.agg (Qc p)] m K:=by
 obtain⟨mb,ml,ms,mn⟩:=m;obtain⟨h1,h2,h3,h4,h5,h6⟩:=h;have k1:=pE p.sh (by omega);have k2:=pF p.aM (by omega);have k4:=pG p.bks (by omega);have k5:=C1 p.cls (by omega);refine Xd uC (ZR p) (by simp) ?_;simp[IF,Qc,ZR,Kc,hn];refine⟨k1,k2,ZQ _ _ _ ?_⟩;simp;refine Qj ez (fun f m=>f 22=I 0/\m=⟨mb++[[I p.ch,I p.nu,I p.de,I p.of,.sl .ro (p.sh.map Qe),I p.ep,I p.rg,I p.ln,I p.fi,.sl .ro (p.aM.map Qm),.sl (.own ml.length 7) [],.sl .ro (p.bks.map Xf),.sl .ro (p.cls.map Qg)],[I 0,I 0,I 0,I 0,.sl .nil [],I 0,I 0,I 0,I 0,.sl .nil [],.sl .nil [],.sl .nil [],.sl .nil []]],ml++[0],ms,mn⟩) (fun f _=>0) ?_ ?_
 ·exact⟨by simp,by simp⟩
 rintro f m ⟨f22,rfl⟩;simp[f22,ez,IG,ZR,Kc];refine⟨k4,k5,?_⟩;simp[Um]at hK;exact hK _ _
def De(f:Int)(o:Od):En:={o.nw with ea:=if o.nw.ea<f then f else o.nw.ea}
def afF(g:Pg)(b:List (Int×Bool)):Int:=Uq (fun e:En=>!(yP b e.id)) g.p.ens 0
def RH(g:Pg)(b:List (Int×Bool)):Nat:=if afF g b<0 then g.p.ens.length else(afF g b).toNat
def nR(g:Pg)(f:Int)(b:List (Int×Bool))(o:Od):Pl:={g.p with ens:=g.p.ens.take (RH g b)++De f o::g.p.ens.drop (RH g b)}
def afG{α:Type}(P:α->Bool)(L:List α)(i:Nat):Uq P L i= -1\/∃k:Nat,k<L.length/\Uq P L i=((i+k:Nat):Int):=by
 cases h:L.find? P with
 |none=>exact .inl (Qcr h)
 |some a=>
  obtain⟨k,h1,h2,_⟩:=Kv (i:=i) h;exact .inr ⟨k,(zza.1 h2).1,h1⟩
def afH(Y:YT)(m:AM)(rt:Rt)(kk:Nat)(K:AV->AM->Prop)(hK:K (I (-1)) m):an Tryz.prog az Y 218 [.sl rt [],.fn 219 [] [.ptr kk 0]] m K:=by
 obtain⟨mb,ml,ms,mn⟩:=m;refine an.mono (an.read (K:=fun r=>r=I (-1)) (Xd BK (fun _ _ _=>.gd false .junk) (by simp) ?_)) (by rintro r m' ⟨rfl,rfl⟩;exact hK);simp[M9];refine Qj eW (fun s m=>s 8=I 0/\m=⟨mb,ml,ms,mn⟩) (fun s _=>0) ?_ ?_
 ·exact⟨by simp,rfl⟩
 rintro s m ⟨f8,rfl⟩;simp[f8,eW,zV];exact kX
def ajH:Nat->FuncId->List AV->AV:=fun _ f l=>if f=127 then l.headD .junk else if f=999999 then .aK 0 []else .gd false .junk
def ZT:Nat->FuncId->List AV->AV:=fun _ f l=>if f=127 then l.headD .junk else if f=999999 then .junk else .gd false .junk
def LD(Y:YT)(m:AM)(g:Pg)(f:Int)(mid:Nat)(b:List (Int×Bool))(o:Od)(hp:A3 g.p)(hb:fS m.boxes mid b)(ho:o.nw.al.length<=8796093022208)(K:AV->AM->Prop)
  (hK:∀ex V ls,mD (m.boxes++ex) V (nR g f b o).ens->GM m.boxes.length V->K (.aV [.agg (Xp (nR g f b o) V (.sl .ro (g.p.cls.map Qg)) 0),.bool true]) {m with boxes:=m.boxes++ex,lens:=m.lens++ls}):
  an Tryz.prog az Y 141 [.agg (Qu g f mid),.agg (Qq o)] m K:=by
 obtain⟨mb,ml,ms,mn⟩:=m;have hoe:=Wi o.nw ho;simp only[Qd]at hoe;have hB:∀ex,fS (mb++ex) mid b:=fun ex=>⟨by have:=hb.1;simp at this |-;omega,hb.ext ex⟩;by_cases aJ:g.p.ens=[]
 ·have kO:=fun ex K hK=>ZS Y ⟨mb++ex,ml,ms,mn⟩ g.p hp aJ K hK;simp only[Qc]at kO;have hx:(nR g f b o).ens=[De f o]:=by simp[nR,aJ]
  refine Xd MP ZT (by simp) ?_;simp[TJ,TK,Qu,Qo,Qc,Qq,Qd,Qg,Qk,ZT];refine kO _ _ fun c0 c1=>?_;simp[Um];refine afH _ _ _ _ _ ?_;simp;refine⟨hoe,afE _ _ ml.length _ rfl (by simp) _ ?_⟩;simp;exact hK _ (.sl (.own ml.length 7) [Qd (De f o)]) [1] (.inl ⟨_,by rw[hx];rfl,C8.own _ _⟩) (GM.sl _ _ _)
 have kO:=fun ex K hK=>xH Y ⟨mb++ex,ml,ms,mn⟩ g.p hp aJ K hK;simp only[Qc]at kO;refine Xd MP ajH (by simp) ?_;simp[TJ,TK,Qu,Qo,Qc,Qq,Qd,Qg,Qk,ajH];refine kO _ _ fun c0 c1 bx=>?_;simp[Um,zzao];have hl9:g.p.ens.length<=1000000:=hp.2.2.1;refine an.mono (LC _ _ g f mid mb.length b (mb.length+5) g.p.ens [] (by omega) (by simp) (by simp[Qu,Qo,Qc]) (hB _) (by simp) (by simp[eG])) ?_;rintro r m' ⟨rfl,rfl⟩;have eO:0<g.p.ens.length:=zzct.2 aJ;rcases afG (fun e:En=>!(yP b e.id)) g.p.ens 0 with hI|⟨k,hk,hI⟩
 ·have hJ:RH g b=g.p.ens.length:=by unfold RH afF;rw[hI,if_pos (by omega)]
  have hP:(nR g f b o).ens=g.p.ens++[De f o]:=by simp[nR,hJ]
  rw[hI];simp[zzao];refine⟨hoe,afD _ _ _ _ _ (eG g.p.ens) (Qd (De f o)) (Ju (by simp) (by simp[eG])) (Ju (by simp) (by simp[De,Qd])) (Ux _) eO (by omega) rfl rfl _ ?_⟩;simp[zzao];have h3:=fun ex k h1 h2 h4=>hK ex (.bs k 0 (g.p.ens.length+1) 7) [] (.inr ⟨k,[],by rw[hP];simp,h1,h2,rfl⟩) (GM.bs h4);simp only[zzat]at h3;exact h3 _ (mb.length+(bx.length+9)) (by simp) (by simp[hP,pL,Qd]) (by simp)
 have hJ:RH g b=k:=by unfold RH afF;rw[hI,if_neg (by omega)];omega
 have yZ:Uq (fun e:En=>!(yP b e.id)) g.p.ens 0=(k:Int):=by rw[hI];omega
 have DM:¬(k:Int)<0:=by omega
 have hP:(nR g f b o).ens=g.p.ens.take k++De f o::g.p.ens.drop k:=by simp[nR,hJ]
 rw[yZ];simp[zzao,DM];refine⟨hoe,RG _ _ _ _ _ _ (eG (g.p.ens.take k)) (eG (g.p.ens.drop k)) (Qd (De f o)) (Ju (by simp) (by rw[<- pL,zzdb];simp[eG])) (Ju (by simp) (by simp[De,Qd])) (by omega) rfl (by rw[Ux,zzaq];omega) (by rw[Ux,zzcn]) hk (by omega) _ ?_⟩;simp[zzao];have h3:=fun ex k h1 h2 h4=>hK ex (.bs k 0 (g.p.ens.length+1) 7) [] (.inr ⟨k,[],by rw[hP];simp;omega,h1,h2,rfl⟩) (GM.bs h4);simp only[zzat]at h3;exact h3 _ (mb.length+(bx.length+9)) (by simp) (by simp[hP,pL,Qd]) (by simp)
open Go Go.Abs
def LF(f:Int)(e:bE):bE:={e with fr:=if f-e.st<e.fr then f-e.st else e.fr}
def Ye(f:Int):List bE->List bE
 |[]=>[]
 |e::r=>if f<=e.st then Ye f r else LF f e::Ye f r
def xU(f:Int):∀(l r:List bE),Ye f (l++r)=Ye f l++Ye f r
 |[],_=>rfl
 |e::l,r=>by
  simp only[zzae,Ye,xU f l r];split<;>rfl
def Qdc(f:Int):∀(l:List bE),(Ye f l).length<=l.length
 |[]=>zzab _
 |e::l=>by
  have:=Qdc f l;simp only[Ye];split<;>simp<;>omega
def ajI(ml:List Nat)(o:List bE)(v:AV)(ls:List Nat):Prop:=(o=[]/\v=.sl .nil []/\ls=ml)\/(o≠[]/\v=.sl (.own ml.length 7) (o.map Qf)/\ls=ml++[o.length])
def ast(l:List bE)(F:Int)(mb:List (List AV))(ml:List Nat)(ms:Nat->LS)(mn:Nat)(g:Nat->AV)(m:AM):Prop:=
 ∃(i:Nat)(bx:List (List AV))(ls:List Nat),i<=l.length/\g 11=I i/\m=⟨mb++bx,ls,ms,mn⟩/\ajI ml (Ye F (l.take i)) (g 5) ls
def ZU:Nat->FuncId->List AV->AV:=fun _ g l=>if g=88 then l.headD .junk else .junk
def xV(Y:YT)(m:AM)(l:List bE)(f:Int)(hl:l.length<=1000000)(hs:∀e∈l,Ue e)(hf:0<=f/\f<=1000000)(K:AV->AM->Prop)
  (hK:∀ex v ls,ajI m.lens (Ye f l) v ls->K v {m with boxes:=m.boxes++ex,lens:=ls}):an Tryz.prog az Y 155 [.sl .ro (l.map Qf),I f] m K:=by
 obtain⟨mb,ml,ms,mn⟩:=m;refine Xd acp ZU (by simp) ?_;simp[TP,ahn];refine Qj uH (ast l f mb ml ms mn) (fun g _=>l.length-(numOf (g 11)).toNat) ?_ ?_
 ·exact⟨0,[],ml,by omega,by simp,by simp,.inl ⟨by simp[Ye],by simp,rfl⟩⟩
 rintro g m ⟨i,bx,ls,hi,qN,rfl,aT⟩;rcases zzaa i l.length with ai|bB
 ·obtain⟨a,ha⟩:=aR ai;have aa:Qh (l.map Qf) i=Qf a:=Qs (by simp[ha]);have hw:=bJ i (by omega);have bz:l.take (i+1)=l.take i++[a]:=by rw[zzar,ha];rfl
  have ah:(i:Int)<(l.length:Int):=by omega
  obtain⟨⟨a1,a2⟩,⟨a3,a4⟩,a5,a6⟩:=hs a (zzac ha);have iT:=Qdc f (l.take i);have axJ:(Ye f (l.take i)).length<=1000000:=by simp at iT;omega
  by_cases h1:f<=a.st
  ·have hb:Ye f (l.take (i+1))=Ye f (l.take i):=by rw[bz,xU];simp[Ye,h1]
   simp[qN,aa,ai,Qf,h1,hw,uH];refine⟨aN,⟨i+1,_,ls,by omega,by simp,rfl,?_⟩,by omega⟩
   ·rw[hb];exact aT
  have hb:Ye f (l.take (i+1))=Ye f (l.take i)++[LF f a]:=by rw[bz,xU];simp[Ye,h1]
  have wf1:=wu f (by omega) (by omega);have wf2:=wu a.st (by omega) (by omega);have wf3:=wu a.fr (by omega) (by omega);have wf4:=wu (f-a.st) (by omega) (by omega);have wf5:IntKind.i64.wrap (f-a.st)=f-a.st:=by rw[Qi]<;>omega
  have p6:=Us a.al a6;obtain⟨fr',amO⟩:∃fr',fr'=if f-a.st<a.fr then f-a.st else a.fr:=⟨_,rfl⟩;have NX:Qf (LF f a)=[I a.id,I a.it,I a.st,I fr',I a.i,I a.re,.sl .ro (a.al.map Qe)]:=by rw[amO];rfl
  have tM:(0<a.fr/\f-a.st<a.fr/\fr'=f-a.st)\/(0<a.fr/\¬f-a.st<a.fr/\fr'=a.fr)\/(¬0<a.fr/\fr'=a.fr):=by
   rw[amO];by_cases h0:0<a.fr
   ·by_cases hc:f-a.st<a.fr
    ·exact .inl ⟨h0,hc,by simp[hc]⟩
    exact .inr (.inl ⟨h0,hc,by simp[hc]⟩)
   exact .inr (.inr ⟨h0,by rw[if_neg (by omega)]⟩)
  have rU:(Ye f (l.take (i+1))).length=(Ye f (l.take i)).length+1:=by rw[hb];simp
  have RF:Ye f (l.take (i+1))≠[]:=by rw[hb];simp
  have fin:(Ye f (l.take (i+1))).map Qf=(Ye f (l.take i)).map Qf++[[I a.id,I a.it,I a.st,I fr',I a.i,I a.re,.sl .ro (a.al.map Qe)]]:=by rw[hb,zzc,<- NX];rfl
  clear amO NX;have FO:=aT;clear aT;obtain⟨e0,h5,rfl⟩|⟨e0,h5,rfl⟩:=FO
  ·rw[e0]at fin rU;obtain⟨h0,hc,rfl⟩|⟨h0,hc,rfl⟩|⟨h0,rfl⟩:=tM
   all_goals
    simp[Qf,ZU,uH, *];refine⟨aN,⟨i+1,_,_,by omega,by simp,rfl,.inr ⟨RF,?_,?_⟩⟩,by omega⟩
    ·simp[fin]
    rw[rU];rfl
  obtain⟨h0,hc,rfl⟩|⟨h0,hc,rfl⟩|⟨h0,rfl⟩:=tM
  all_goals
   simp[Qf,ZU,uH, *];refine⟨⟨by rintro row (⟨x,_,rfl⟩|rfl)<;>rfl,by omega⟩,ag ?_,⟨i+1,_,_,by omega,by simp,rfl,.inr ⟨RF,?_,?_⟩⟩,by omega⟩
   ·repeat(first|exact Qa _ _|refine Qb _ rfl ?_)
   ·simp[fin]
   rw[rU]
 have hbf:l.take i=l:=zzam bB;rw[hbf]at aT;simp[qN,zzds.2 bB,uH];exact hK _ _ _ aT
end
end Go.Proofs.YtnopaopphmjnmaaGreatDoor
