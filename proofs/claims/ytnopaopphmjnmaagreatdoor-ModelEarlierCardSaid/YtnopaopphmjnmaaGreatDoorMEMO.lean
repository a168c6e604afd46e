import Derived.Test.YtnopaopphmjnmaaGreatDoorMESpL
set_option linter.all false
set_option maxRecDepth 100000
set_option maxHeartbeats 64000000
namespace Go.Proofs.YtnopaopphmjnmaaGreatDoor
open Go Go.Abs
def Ge(Y:YT)(rt:Rt)(aS:∀m,bF m 6 (.sl rt [])=.sl rt [])(m:AM)(K:AV->AM->Prop)(hK:K (.sl rt []) m):an Tryz.prog az Y 248 [.sl rt [],.fn 249 [] []] m K:=by
 have h:=Zu (l:=[.sl rt [],.fn 249 [] []]) (pL [] (by simp)) ⟨Wk.sl rt [],Wk.refl _,trivial⟩;simp only[pM]at h;refine Xe NK (nW (-1)) (by simp) ?_;simp[EK,NJ,nW,aS];exact⟨h,hK⟩
def Gf:Nat->FuncId->List AV->AV:=fun d f _=>if f=999999 then(if d=12 then .aJ 0 []else if d=70 then .aJ 0 []else .junk)else .gd false .junk
def rA(a b:Int):(if a<b then b else a)=max a b:=by split<;>omega
def ass(B:List (List AV))(id:Nat)(out:List Sp)(a:AV):Prop:=
 (out=[]/\a=.sl .nil [])\/∃gT,out≠[]/\a=.bs gT 0 out.length 2/\gT≠id/\gT<B.length/\Qh B gT=cE out
def Lj{out:List Sp}(h:out≠[]):∃p u,out=p++[u]:=⟨out.dropLast,out.getLast h,(zzeu h).symm⟩
def Da(l:List Sp)(hl:l.length<=100000000):Pure Tryz.prog az 182 [.sl .ro (l.map Qe)] (if Xm l=[]then .sl .nil []else .sl .ro ((Xm l).map Qe)):=by
 refine Qn ac0 Gf (by simp) ?_;by_cases aK:l=[]
 ·subst aK;have hn:Xm []=[]:=by simp[Xm,Gg]
  simp[Nv,Gf,hn];refine Qj vp (fun f m=>f 15=I 0/\f 3=.sl .full []/\m=⟨[[]],[],fun _=>.gone,0⟩) (fun _ _=>0) ?_ ?_
  ·simp
  rintro f m ⟨iN,h3,rfl⟩;simp[iN,h3,vp];refine Ge _ _ (fun _=>rfl) _ _ ?_;refine Gh _ _ _ _ ?_;simp;refine Qj iV (fun f m=>f 31=I 0/\f 6=.sl .nil []/\m=⟨[[]],[],fun _=>.gone,0⟩) (fun _ _=>0) ?_ ?_
  ·simp
  rintro f m ⟨h31,h6,rfl⟩;simp[h31,h6,iV,Nw]
 have gY:l.length≠0:=by simpa using aK
 have eZ:0<l.length:=by omega
 simp[Nv,Gf,aK];refine⟨⟨by omega,by omega⟩,?_⟩
 refine Qj vp (fun f m=>∃(i id:Nat)(B:List (List AV)),i<=l.length/\f 15=I i/\f 3=.bs id 0 i 2/\m=⟨B,[],fun _=>.gone,0⟩/\id<B.length/\Qh B id≠[]/\i*2<=(Qh B id).length/\(Qh B id).take (i*2)=cE (l.take i)/\(0<i->Qh B id=cE (l.take i)))
  (fun f _=>l.length-(numOf (f 15)).toNat) ?_ ?_
 ·exact⟨0,0,[List.replicate (l.length*2) .junk],by omega,by simp,by simp,rfl,by simp,by simp;omega,by simp,by simp,by simp⟩
 rintro f m ⟨i,id,B,hi,iN,h3,rfl,aN,AB,bZ,bB,N4⟩;rcases zzaa i l.length with ai|bu
 ·obtain⟨s,hs⟩:=aR ai;have ah:=Zc hs;have aa:(i:Int)<(l.length:Int):=by omega
  have hw:=bK i (by omega);have fq:∀x,Qh (B++x) id=Qh B id:=fun x=>Ql aN;have mg:∀x v,(B++x).set id v=B.set id v++x:=fun x v=>Yn v aN;have fK:cE (l.take (i+1))=cE (l.take i)++[I s.1,I s.2]:=by rw[zzas,hs,Qck];rfl
  simp[iN,h3,aa,ai,ah,vp,hw,fq,mg,AB,bZ,bB,Gf];refine⟨⟨by omega,by omega⟩,aO,⟨i+1,by omega,by simp,?_⟩,by omega⟩
  ·refine⟨B.length+1,⟨rfl,rfl⟩,by omega,?_⟩
   have e:Qh (B.set id []++[[AV.int IntKind.i64 s.fst,AV.int IntKind.i64 s.snd],cE (List.take i l)++[AV.int IntKind.i64 s.fst,AV.int IntKind.i64 s.snd]]) (B.length+1)=cE (l.take (i+1)):=by
    have:=Vk (B.set id []) [[AV.int IntKind.i64 s.fst,AV.int IntKind.i64 s.snd],cE (List.take i l)++[AV.int IntKind.i64 s.fst,AV.int IntKind.i64 s.snd]] 1;rw[zzca]at this;rw[this,fK];rfl
   rw[e];have e2:(cE (l.take (i+1))).length=(i+1)*2:=by rw[Yc,zzaq];congr 1;omega
   refine⟨?_,by omega,?_,fun _=>rfl⟩
   ·intro h;rw[h]at e2;simp at e2
   rw[<- e2,zzbs]
 obtain rfl:i=l.length:=by omega
 have hB:=N4 eZ;rw[zzbs]at hB;have bJ:¬((l.length:Nat):Int)<(l.length:Int):=by omega
 simp[iN,h3,vp,Gf];refine Ll _ l (by omega) B _ _ _ id aN aK hB _ ?_;intro B1 z fN hB1 hz;have amQ:id<B1.length:=zzbb aN fN.1;rw[Qck]at hB1;have XB:B1[id]?=some (cE (l.filter mT)++cE z):=by rw[Ug amQ,hB1]
 refine Ln _ (l.filter mT) (by omega) _ id (cE z) XB ?_ _ ?_
 ·intro h;have:=congrArg List.length h;rw[zzah,Yc,Yc]at this;simp at this;omega
 intro d hp hs;have amo:=amR hp hs;have hdl:d.length=(l.filter mT).length:=hp.length_eq;rw[<- hdl];have ax9:d.length<=100000000:=by omega
 simp[AM.wr]
 refine Qj iV (fun f m=>∃(i:Nat)(B:List (List AV))(out:List Sp),i<=d.length/\f 31=I i/\m=⟨B,[],fun _=>.gone,0⟩/\out.length<=i/\id<B.length/\Qh B id=cE d++cE z/\Gg out (d.drop i)=Xm l/\ass B id out (f 6))
  (fun f _=>d.length-(numOf (f 31)).toNat) ?_ ?_
 ·exact⟨0,B1.set id (cE d++cE z),[],by omega,by simp,rfl,by simp,by simpa using amQ,Vr _ amQ,by simpa using amo,.inl ⟨rfl,by simp⟩⟩
 rintro f m ⟨i,B,out,hi,h31,rfl,Oq,aN,hB,hm,hout⟩;rcases zzaa i d.length with ai|bu
 ·obtain⟨v,hv⟩:=aR ai;have aa:(i:Int)<(d.length:Int):=by omega
  have hw:=bK i (by omega)
  have hg:(cE d++cE z).drop (i*2)=I v.1::I v.2::(cE (d.drop (i+1))++cE z):=by
   rw[zzdr (by rw[Yc];omega),uI hv];rfl
  have ei:d.drop i=v::d.drop (i+1):=by
   rw[zzaf ai,(zza.1 hv).2]
  rw[ei,Gg]at hm;have fq:∀x,Qh (B++x) id=cE d++cE z:=fun x=>by rw[Ql aN,hB]
  obtain⟨rfl,h6⟩|⟨gT,hon,h6,nA,fZ,oB⟩:=hout
  ·simp[h31,h6,aa,ai,hB,fq,hg,iV,hw,Gf];refine⟨aO,⟨i+1,by omega,by simp,?_⟩,by omega⟩
   ·refine⟨[v],by simp,by omega,by simpa[Rn]using hm,.inr ⟨B.length+1,by simp,by simp,by omega,by simp,by simp⟩⟩
  obtain⟨p,u,rfl⟩:=Lj hon;have ast:p.length+1<=i:=by simpa using Oq
  have lT:(cE (p++[u])).drop (p.length*2+1)=[I u.2]:=by
   have:=FU (l:=p++[u]) (i:=p.length) (s:=u) (by simp);simpa using this
  have bU:=xm (p++[u]) p.length u (max u.2 v.2) (by simp);have asu:(p++[u]).set p.length (u.1,max u.2 v.2)=p++[(u.1,max u.2 v.2)]:=by simp
  rw[asu]at bU;have hwp:IntKind.i64.wrap (p.length:Int)=(p.length:Int):=by rw[Qk]<;>omega
  have gK:(0:Int)<(p.length:Int)+1:=by omega
  have asv:∀x,Qh (B++x) gT=cE (p++[u]):=fun x=>by rw[Ql fZ,oB]
  have mg:∀x v,(B++x).set gT v=B.set gT v++x:=fun x v=>Yn v fZ;have fK:=Yc (p++[u]);simp only[zzah,zzba,zzch,zzbu]at fK h6;have awV:Rn (p++[u]) v=if v.1<=u.2 then p++[(u.1,max u.2 v.2)]else p++[u]++[v]:=by simp[Rn]
  rw[awV]at hm;by_cases hc:v.1<=u.2
  ·rw[if_pos hc]at hm;simp[h31,h6,aa,ai,hB,fq,asv,mg,hg,lT,iV,hw,hwp,gK,hc,rA,bU,fK,Gf];refine⟨by omega,⟨by omega,by omega⟩,aO,⟨i+1,by omega,by simp,?_⟩,by omega⟩
   ·refine⟨p++[(u.1,max u.2 v.2)],by simp;omega,by omega,by rw[Ql (by simpa using aN),Zy _ nA,hB],hm,.inr ⟨gT,by simp,by simp,nA,by simp;omega,by rw[Ql (by simpa using fZ),Vr _ fZ]⟩⟩
  rw[if_neg hc]at hm;simp[h31,h6,aa,ai,hB,fq,asv,mg,hg,lT,iV,hw,hwp,gK,hc,fK,Gf];refine⟨by omega,⟨⟨by omega,by simp[Qck]⟩,by omega⟩,aO,⟨i+1,by omega,by simp,?_⟩,by omega⟩
  ·have bB:(cE (p++[u])).take ((p.length+1)*2)=cE (p++[u]):=zzap (by rw[fK];exact zzab _);rw[bB];refine⟨p++[u]++[v],by simp;omega,by omega,by rw[Ql (by simpa using aN),Zy _ nA,hB],hm,.inr ⟨B.length+1,by simp,by simp,by omega,by simp,?_⟩⟩;have:=Vk (B.set gT []) [[I v.1,I v.2],cE (p++[u])++[AV.int IntKind.i64 v.fst,AV.int IntKind.i64 v.snd]] 1;rw[zzca]at this;rw[this,Qck (p++[u]) [v]];rfl
 obtain rfl:i=d.length:=by omega
 rw[zzbo,Gg]at hm;obtain⟨rfl,h6⟩|⟨gT,hon,h6,nA,fZ,oB⟩:=hout
 ·simp[h31,h6,iV,Nw,<- hm]
 have fO:=Zm ⟨B,[],fun _=>.gone,0⟩ 4 (C5 out);have lX:=Qek out;have fK:=Yc out;simp[h31,h6,iV,Nw,<- hm,hon,oB,fO,lX,fK]
def Uv(l:List Sp)(hl:l.length<=100000000):Pure Tryz.prog az 182 [.sl .ro (l.map Qe)] (.sl .ro ((Xm l).map Qe)):=by
 have h:=Da l hl;by_cases hn:Xm l=[]
 ·rw[if_pos hn]at h;rw[hn];exact Xa h (Wk.sl _ _)
 rw[if_neg hn]at h;exact h
open Go Go.Abs
def Lo(a b:Int):(if b<a then b else a)=min a b:=by split<;>omega
def A9(s:Sp):List AV:=[.agg [I s.1,I s.2]]
def YO(A B:List Sp)(hA:A.length<=100000000)(hB:B.length<=100000000):
  Iter Tryz.prog az 264 [] [.ep [.sl .ro (A.map Qe)] 0,.ep [.sl .ro (B.map Qe)] 0] ((uf (A.length+B.length) A B).map A9):=by
 intro Y l m K hF;refine Xe adY (fun _ _ _=>.junk) (by simp) ?_;simp[U9]
 refine Qj qI (fun f mm=>∃(i j:Nat),i<=A.length/\j<=B.length/\f 4=I i/\f 5=I j/\wP (Y l) K ((uf (A.length-i+(B.length-j)) (A.drop i) (B.drop j)).map A9) mm)
  (fun f _=>A.length-(numOf (f 4)).toNat+(B.length-(numOf (f 5)).toNat)) ?_ ?_
 ·exact⟨0,0,by omega,by omega,by simp,by simp,by simpa using hF⟩
 rintro f mm ⟨i,j,hi,hj,h4,h5,hF⟩;by_cases KP:i=A.length\/j=B.length
 ·have hnil:uf (A.length-i+(B.length-j)) (A.drop i) (B.drop j)=[]:=by
   obtain rfl|rfl:=KP
   ·rw[zzbo];cases A.length-A.length+(B.length-j)<;>rfl
   rw[zzbo];cases A.length-i+(B.length-B.length)with
   |zero=>rfl
   |succ n=>cases A.drop i<;>rfl
  rw[hnil]at hF;have hK:K mm:=hF mm (fM.refl _);by_cases h1:i<A.length
  ·have Ow:¬(j:Int)<(B.length:Int):=by omega
   have aa:(i:Int)<(A.length:Int):=by omega
   simp[h4,h5,h1,aa,Ow,qI,NP];exact hK
  have bJ:¬(i:Int)<(A.length:Int):=by omega
  simp[h4,h5,h1,bJ,qI,NP];exact hK
 have h1:i<A.length:=by omega
 have h2:j<B.length:=by omega
 obtain⟨s,hs⟩:=aR h1;obtain⟨t,ht⟩:=aR h2;have sG:=Zc hs;have aS:=Zc ht;have hda:A.drop i=s::A.drop (i+1):=by rw[zzaf h1,(zza.1 hs).2]
 have hdb:B.drop j=t::B.drop (j+1):=by rw[zzaf h2,(zza.1 ht).2]
 have hn:A.length-i+(B.length-j)=(A.length-i+(B.length-j)-1)+1:=by omega
 have qM:A.length-i+(B.length-j)-1=A.length-(i+1)+(B.length-j):=by omega
 have nA:A.length-i+(B.length-j)-1=A.length-i+(B.length-(j+1)):=by omega
 have aa:(i:Int)<(A.length:Int):=by omega
 have eR:(j:Int)<(B.length:Int):=by omega
 have K5:=bK i (by omega);have sM:=bK j (by omega);rw[hda,hdb,hn,uf,<- hda,<- hdb]at hF;by_cases hc:max s.1 t.1<min s.2 t.2
 ·rw[if_pos hc]at hF;simp only[zzet,zzay]at hF;simp[h4,h5,h1,h2,aa,eR,sG,aS,qI,rA,Lo,hc];refine hF _ (fM.box mm _) _ (fun m2 qx=>?_) (fun m2 hK=>?_)
  ·by_cases hd:s.2<t.2
   ·rw[if_pos hd,qM]at qx;have Cy:¬t.2<=s.2:=by omega
    simp[h1,h2,aa,eR,sG,aS,hd,Cy,K5];refine⟨aO,⟨i+1,by omega,j,by omega,by simp,rfl,qx⟩,by omega⟩
   rw[if_neg hd,nA]at qx;have Cy:t.2<=s.2:=by omega
   simp[h1,h2,aa,eR,sG,aS,hd,Cy,sM];refine⟨aO,⟨i,by omega,j+1,by omega,rfl,by simp,qx⟩,by omega⟩
  simp[NP];exact hK _ (fM.refl _)
 rw[if_neg hc]at hF;simp only[zzaj]at hF;have hF':=wP.ext hF (fM.box mm [[I (max s.1 t.1),I (min s.2 t.2)]]);by_cases hd:s.2<t.2
 ·rw[if_pos hd,qM]at hF';simp[h4,h5,h1,h2,aa,eR,sG,aS,qI,rA,Lo,hc,hd,K5];refine⟨aO,⟨i+1,by omega,j,by omega,by simp,rfl,hF'⟩,by omega⟩
 rw[if_neg hd,nA]at hF';simp[h4,h5,h1,h2,aa,eR,sG,aS,qI,rA,Lo,hc,hd,sM];refine⟨aO,⟨i,by omega,j+1,by omega,rfl,by simp,hF'⟩,by omega⟩
def zN(A B:List Sp):Pure Tryz.prog az 190 [.sl .ro (A.map Qe),.sl .ro (B.map Qe)] (.fn 264 [] [.ep [.sl .ro (A.map Qe)] 0,.ep [.sl .ro (B.map Qe)] 0]):=by
 refine Qn ac8 (fun _ _ _=>.junk) (by simp) ?_;simp[ahS,ahT]
def afd(A B:List Sp):Nat->FuncId->List AV->AV:=fun d f _=>
 if f=999999 then .junk else if d=8 then .sl .ro ((Xm A).map Qe)else if d=10 then .sl .ro ((Xm B).map Qe)else if d=11 then .fn 264 [] [.ep [.sl .ro ((Xm A).map Qe)] 0,.ep [.sl .ro ((Xm B).map Qe)] 0]else .junk
def Db:∀(n:Nat)(A B:List Sp),(uf n A B).length<=n
 |0,_,_=>by simp[uf]
 |n+1,[],_=>by simp[uf]
 |n+1,s::A,[]=>by simp[uf]
 |n+1,s::A,t::B=>by
  have h1:=Db n A (t::B);have h2:=Db n (s::A) B;rw[uf,zzah];split<;>split<;>simp<;>omega
def jP(A B:List Sp)(hA:A.length<=10000000)(hB:B.length<=10000000):
  Pure Tryz.prog az 117 [.sl .ro (A.map Qe),.sl .ro (B.map Qe)] (.sl .ro ((zK A B).map Qe)):=by
 have h1:=Uv A (by omega);have h2:=Uv B (by omega);have l1:=Uc A;have l2:=Uc B;have h3:=zN (Xm A) (Xm B);have cI:=YO (Xm A) (Xm B) (by omega) (by omega);have hX:zK A B=uf ((Xm A).length+(Xm B).length) (Xm A) (Xm B):=rfl;have hXl:=Db ((Xm A).length+(Xm B).length) (Xm A) (Xm B);rw[<- hX]at cI hXl;generalize zK A B=X at cI hXl;clear hX
 have key:∀r,r=(if X=[]then AV.sl .nil []else .sl .ro (X.map Qe))->Pure Tryz.prog az 117 [.sl .ro (A.map Qe),.sl .ro (B.map Qe)] r:=by
  rintro r rfl;refine Qn acr (afd A B) (by simp) ?_;simp[ahm,afd];refine⟨h1,h2,h3,?_⟩
  refine jI (xs:=X.map A9) (by simp) cI (by intro x hx;simp at hx;obtain⟨a,b,_,rfl⟩:=hx;rfl)
   (fun i m=>∃(bx:List (List AV))(rt:Rt),m.boxes=[.sl rt ((X.take i).map Qe)]::bx/\((i=0/\rt=.nil)\/(0<i/\∃id,rt=.own id 2/\m.lens[id]?=some i))) (fun _ _=>False) ⟨[],.nil,by simp,.inl ⟨rfl,rfl⟩⟩ ?_ (fun _ _ _ h=>h.elim) ?_ ?_ (fun _ _ h=>h.elim)
  ·rintro i m m' ⟨bx,rt,hb,aS⟩ ⟨⟨b2,e1⟩,⟨l2,e2⟩,_⟩;refine⟨bx++b2,rt,by rw[e1,hb];rfl,?_⟩;obtain h|⟨h0,id,h1,h2⟩:=aS
   ·exact .inl h
   refine .inr ⟨h0,id,h1,?_⟩;rw[e2,zzag (zza.1 h2).1];exact h2
  ·rintro l i m x hg hr ⟨bx,rt,hb,aS⟩ hx K' k1 _ _
   obtain⟨s,hs,rfl⟩:∃s,X[i]?=some s/\A9 s=x:=by
    rw[zzbm]at hx;cases hq:X[i]? with
    |none=>rw[hq]at hx;cases hx
    |some y=>rw[hq]at hx;exact⟨y,rfl,Option.some.inj hx⟩
   have hi:i<X.length:=(zza.1 hs).1;have bB:X.take (i+1)=X.take i++[s]:=by rw[zzas,hs];rfl
   have mH:(X.take i).length=i:=by rw[zzaq];omega
   rw[Ui]at hb
   have iz:∀row∈(X.take i).map Qe,row.length=2:=by
    intro row h;rw[zzbc]at h;obtain⟨a,_,rfl⟩:=h;rfl
   generalize X.take i=T at hb bB mH iz;obtain⟨rfl,rfl⟩|⟨h0,id,rfl,hL⟩:=aS
   ·have hTn:T=[]:=zzcc.1 mH;subst hTn;simp[hr,Zl,A9,hb,afd];refine k1 _ ⟨bx++[[I s.1,I s.2]],.own m.lens.length 2,?_,.inr ⟨by omega,m.lens.length,rfl,?_⟩⟩
    ·rw[bB];rfl
    simp
   have tX:m.lens[id]?=some T.length:=by rw[mH];simpa using hL
   have ai:=(zza.1 tX).1;simp[hr,Zl,A9,hb,afd,tX];refine⟨⟨?_,by omega⟩,?_⟩
   ·rintro row (⟨a,b,_,rfl⟩|rfl)<;>rfl
   refine k1 _ ⟨bx++[[I s.1,I s.2]],.own id 2,?_,.inr ⟨by omega,id,rfl,?_⟩⟩
   ·rw[bB,zzby];rfl
   simp[ai,mH]
  rintro m ⟨bx,rt,hb,aS⟩;rw[zzbf]at hb aS;rw[zzbs]at hb;by_cases hn:X=[]
  ·subst hn;obtain⟨_,rfl⟩|⟨h0,_⟩:=aS
   ·simp[hb,TS]
   simp at h0
  obtain⟨h0,_⟩|⟨_,id,rfl,_⟩:=aS
  ·exact absurd (zzcc.1 h0) hn
  simp[hb,TS,hn]
 have hk:=key _ rfl;by_cases hn:X=[]
 ·rw[if_pos hn]at hk;rw[hn];exact Xa hk (Wk.sl _ _)
 rw[if_neg hn]at hk;exact hk
open Go Go.Abs
def Out(m:AM)(id:Nat)(L:List Sp):Prop:=∃rt,Qh m.boxes id=[.sl rt (L.map Qe)]/\id<m.boxes.length/\((L=[]/\rt=.nil)\/(L≠[]/\∃k,rt=.own k 2/\m.lens[k]?=some L.length))
def Out.box{m:AM}{id:Nat}{L:List Sp}(h:Out m id L)(b:List (List AV)):Out {m with boxes:=m.boxes++b} id L:=by
 obtain⟨rt,h1,h2,h3⟩:=h;exact⟨rt,by show Qh (m.boxes++b) id=_;rw[Ql h2];exact h1,by show id<(m.boxes++b).length;simp;omega,h3⟩
def Dc(Y:YT)(f t:Int)(id:Nat)(L:List Sp)(m:AM)(hO:Out m id L)(hl:L.length<=1000000000)(K:AV->AM->Prop)
  (hK:∀m',Out m' id (L++Dd f t)->bh (·=id) m.boxes m'.boxes->m'.st=m.st->m'.ln=m.ln->K (.aW []) m'):an Tryz.prog az Y 181 [I f,I t,.ptr id 0] m K:=by
 obtain⟨rt,h1,h2,h3⟩:=hO;refine Xe acZ (fun _ _ _=>.junk) (by simp) ?_;by_cases IK:f<t
 ·have ha:Dd f t=[(f,t)]:=by simp[Dd,IK]
  rw[ha]at hK
  have iz:∀row∈L.map Qe,row.length=2:=by
   intro row h;rw[zzbc]at h;obtain⟨a,_,rfl⟩:=h;rfl
  obtain⟨rfl,rfl⟩|⟨aK,k,rfl,hk⟩:=h3
  ·simp[Nt,Nu,IK,h1,h2];refine hK _ ⟨.own m.lens.length 2,?_,by simpa using h2,.inr ⟨by simp,m.lens.length,rfl,by simp⟩⟩ (bh.set (S:=(·=id)) (bh.refl _ _) (.inl rfl) _) rfl rfl;simp[Vr _ h2,Qe]
  have qv:=(zza.1 hk).1;simp[Nt,Nu,IK,h1,h2,hk];refine⟨⟨?_,by omega⟩,?_⟩
  ·rintro row (⟨a,b,_,rfl⟩|rfl)<;>rfl
  refine hK _ ⟨.own k 2,?_,by simpa using h2,.inr ⟨by simp,k,rfl,by simp[qv]⟩⟩ (bh.set (S:=(·=id)) (bh.refl _ _) (.inl rfl) _) rfl rfl;simp[Vr _ h2,Qe]
 have ha:Dd f t=[]:=by simp[Dd,IK]
 rw[ha,zzat]at hK;simp[Nt,Nu,IK];exact hK m ⟨rt,h1,h2,h3⟩ (bh.refl _ _) rfl rfl
def xD(f t:Int):(Dd f t).length<=1:=by unfold Dd;split<;>simp
def Gi:∀(H:List Sp)(f t:Int),(jS f t H).1.length+(jS f t H).2.length<=H.length+1
 |[],f,t=>by have:=xD f t;simp[jS];omega
 |h::r,f,t=>by
  have h1:=xD f h.1;have h2:=xD f t;rw[jS];split
  ·split
   ·simp;omega
   have:=Gi r (max f h.2) t;simp;omega
  simp;omega
def Gj:∀(A H:List Sp),(ug A H).length<=A.length+H.length
 |[],H=>by simp[ug]
 |s::A,H=>by
  have h1:=Gi H s.1 s.2;have h2:=Gj A (jS s.1 s.2 H).2;simp[ug];omega
def rB(a b:List Sp):Nat->FuncId->List AV->AV:=fun d f _=>
 if f=999999 then .junk else if d=14 then .sl .ro ((Xm b).map Qe)else if d=16 then .sl .ro ((Xm a).map Qe)else .gd false .junk
def zO(a b:List Sp)(ha:a.length<=10000000)(hb:b.length<=10000000):
  Pure Tryz.prog az 112 [.sl .ro (a.map Qe),.sl .ro (b.map Qe)] (.sl .ro ((De a b).map Qe)):=by
 have h1:=Uv a (by omega);have h2:=Uv b (by omega);have hR:De a b=ug (Xm a) (Xm b):=rfl;have hRl:=Gj (Xm a) (Xm b);have l1:=Uc a;have l2:=Uc b;rw[<- hR]at hRl;generalize De a b=R at hR hRl
 have key:∀r,r=(if R=[]then AV.sl .nil []else .sl .ro (R.map Qe))->Pure Tryz.prog az 112 [.sl .ro (a.map Qe),.sl .ro (b.map Qe)] r:=by
  rintro r rfl;refine Qn acm (rB a b) (by simp) ?_;simp[M8,rB];refine⟨h2,h1,?_⟩;generalize Xm a=A at hR hRl l1 |-
  generalize Xm b=H at hR hRl l2 |-
  clear h1 h2;refine Qj BR (fun f m=>∃(k i:Nat)(L:List Sp),k<=A.length/\i<=H.length/\f 18=I k/\f 8=I i/\Out m 0 L/\L++ug (A.drop k) (H.drop i)=R) (fun f _=>A.length-(numOf (f 18)).toNat) ?_ ?_
  ·exact⟨0,0,[],by omega,by omega,by simp,by simp,⟨.nil,rfl,by simp,.inl ⟨rfl,rfl⟩⟩,by simpa using hR.symm⟩
  rintro f m ⟨k,i,L,hk,hi,h18,h8,hO,hL⟩;rcases zzaa k A.length with ai|bu
  ·obtain⟨s,hs⟩:=aR ai;have ah:=Zc hs;have ae1:(k:Int)<(A.length:Int):=by omega
   have XV:=bK k (by omega);have hda:A.drop k=s::A.drop (k+1):=by rw[zzaf ai,(zza.1 hs).2]
   rw[hda,ug]at hL;have hO0:=hO;obtain⟨_,_,Td,_⟩:=hO0;simp[h18,ai,ae1,ah,BR,rB]
   refine Qj BS (fun g m2=>∃(i:Nat)(fr:Int)(L:List Sp),i<=H.length/\g 8=I i/\g 11=I fr/\Out m2 0 L/\m.boxes.length<m2.boxes.length/\Qh m2.boxes m.boxes.length=[I s.1,I s.2]/\
     L++((jS fr s.2 (H.drop i)).1++ug (A.drop (k+1)) (jS fr s.2 (H.drop i)).2)=R) (fun g _=>H.length-(numOf (g 8)).toNat) ?_ ?_
   ·refine⟨i,s.1,L,hi,by simp[h8],by simp,hO.box _,by simp,by simp,hL⟩
   rintro g m2 ⟨i,fr,L,hi,h8,pq,hO,CF,hbx,hL⟩
   have hLl:L.length<=1000000000:=by
    have:=congrArg List.length hL;rw[zzah]at this;omega
   have qK:m.boxes.length≠0:=by omega
   have fin:∀(hd:H.drop i=[]\/∃h r,H.drop i=h::r/\s.2<=h.1),L++Dd fr s.2++ug (A.drop (k+1)) (H.drop i)=R:=by
    rintro(hd|⟨h,r,hd,hc⟩)
    ·rw[hd]at hL |-;simpa[jS]using hL
    rw[hd]at hL |-
    rw[jS,if_neg (by omega)]at hL;simpa using hL
   rcases zzaa i H.length with gr|hig
   ·obtain⟨h,hh⟩:=aR gr;have hrh:=Zc hh;have aa:(i:Int)<(H.length:Int):=by omega
    have K5:=bK i (by omega);have hdh:H.drop i=h::H.drop (i+1):=by rw[zzaf gr,(zza.1 hh).2]
    by_cases hc:h.1<s.2
    ·rw[hdh,jS,if_pos hc,<- hdh]at hL;simp[h8,pq,gr,aa,hrh,hbx,hc,BS,rB];refine Dc Y0 fr h.1 0 L m2 hO hLl _ (fun m3 hO3 Ba _ _=>?_);have asw:Qh m3.boxes m.boxes.length=[I s.1,I s.2]:=by rw[Ba.2 _ CF qK];exact hbx
     have hm3:m.boxes.length<m3.boxes.length:=by have:=Ba.1;omega
     by_cases hd:s.2<=max fr h.2
     ·rw[if_pos hd]at hL;simp[asw,rA,hd,XV,h18];refine⟨aO,⟨k+1,by omega,i,by omega,by simp,rfl,L++Dd fr h.1,hO3,by rw[zzax];exact hL⟩,by omega⟩
     rw[if_neg hd]at hL;simp[asw,rA,hd,K5,h8];refine⟨aO,⟨i+1,by omega,by simp,L++Dd fr h.1,hO3,hm3,by rw[zzax,<- zzax (Dd fr h.1)];exact hL⟩,by omega⟩
    simp[h8,pq,gr,aa,hrh,hbx,hc,BS,rB];refine Dc Y0 fr s.2 0 L m2 hO hLl _ (fun m3 hO3 Ba _ _=>?_);simp[XV,h18];refine⟨aO,⟨k+1,by omega,i,by omega,by simp,rfl,L++Dd fr s.2,hO3,fin (.inr ⟨h,_,hdh,by omega⟩)⟩,by omega⟩
   have bJ:¬(i:Int)<(H.length:Int):=by omega
   simp[h8,pq,bJ,zzbl.2 hig,hbx,BS,rB];refine Dc Y0 fr s.2 0 L m2 hO hLl _ (fun m3 hO3 Ba _ _=>?_);simp[XV,h18];refine⟨aO,⟨k+1,by omega,i,by omega,by simp,rfl,L++Dd fr s.2,hO3,fin (.inl (zzal hig))⟩,by omega⟩
  obtain rfl:k=A.length:=by omega
  rw[zzbo,ug,zzat]at hL;subst hL;obtain⟨rt,o1,o2,o3⟩:=hO;obtain⟨rfl,rfl⟩|⟨aK,k,rfl,_⟩:=o3
  ·simp[h18,o1,BR,TQ]
  simp[h18,o1,BR,TQ,aK]
 have hk:=key _ rfl;by_cases hn:R=[]
 ·rw[if_pos hn]at hk;rw[hn];exact Xa hk (Wk.sl _ _)
 rw[if_neg hn]at hk;exact hk
end Go.Proofs.YtnopaopphmjnmaaGreatDoor
