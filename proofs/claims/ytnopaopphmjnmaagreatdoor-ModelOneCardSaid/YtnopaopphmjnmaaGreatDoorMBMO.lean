import Derived.Test.YtnopaopphmjnmaaGreatDoorMBSpL
set_option linter.all false
set_option maxRecDepth 100000
set_option maxHeartbeats 64000000
namespace Go.Proofs.YtnopaopphmjnmaaGreatDoor
open Go Go.Abs
def FV(Y:YT)(rt:Rt)(aT:∀m,bF m 6 (.sl rt [])=.sl rt [])(m:AM)(K:AV->AM->Prop)(hK:K (.sl rt []) m):an Tryz.prog az Y 248 [.sl rt [],.fn 249 [] []] m K:=by
 have h:=Zk (l:=[.sl rt [],.fn 249 [] []]) (oW [] (by simp)) ⟨Wk.sl rt [],Wk.refl _,trivial⟩;simp only[oZ]at h;refine Xd Nd (nF (-1)) (by simp) ?_;simp[Er,Nc,nF,aT];exact⟨h,hK⟩
def KT:Nat->FuncId->List AV->AV:=fun d f _=>if f=999999 then(if d=12 then .aK 0 []else if d=70 then .aK 0 []else .junk)else .gd false .junk
def qS(a b:Int):(if a<b then b else a)=max a b:=by split<;>omega
def arL(B:List (List AV))(id:Nat)(out:List Sp)(a:AV):Prop:=
 (out=[]/\a=.sl .nil [])\/∃gG,out≠[]/\a=.bs gG 0 out.length 2/\gG≠id/\gG<B.length/\Qh B gG=cC out
def KU{out:List Sp}(h:out≠[]):∃p u,out=p++[u]:=⟨out.dropLast,out.getLast h,(zzeo h).symm⟩
def CK(l:List Sp)(hl:l.length<=100000000):Pure Tryz.prog az 182 [.sl .ro (l.map Qe)] (if Xl l=[]then .sl .nil []else .sl .ro ((Xl l).map Qe)):=by
 refine Qn acC KT (by simp) ?_;by_cases aJ:l=[]
 ·subst aJ;have hn:Xl []=[]:=by simp[Xl,FX]
  simp[MY,KT,hn];refine Qj uM (fun f m=>f 15=I 0/\f 3=.sl .full []/\m=⟨[[]],[],fun _=>.gone,0⟩) (fun _ _=>0) ?_ ?_
  ·simp
  rintro f m ⟨si,h3,rfl⟩;simp[si,h3,uM];refine FV _ _ (fun _=>rfl) _ _ ?_;refine FY _ _ _ _ ?_;simp;refine Qj iJ (fun f m=>f 31=I 0/\f 6=.sl .nil []/\m=⟨[[]],[],fun _=>.gone,0⟩) (fun _ _=>0) ?_ ?_
  ·simp
  rintro f m ⟨h31,h6,rfl⟩;simp[h31,h6,iJ,MZ]
 have gN:l.length≠0:=by simpa using aJ
 have eO:0<l.length:=by omega
 simp[MY,KT,aJ];refine⟨⟨by omega,by omega⟩,?_⟩
 refine Qj uM (fun f m=>∃(i id:Nat)(B:List (List AV)),i<=l.length/\f 15=I i/\f 3=.bs id 0 i 2/\m=⟨B,[],fun _=>.gone,0⟩/\id<B.length/\Qh B id≠[]/\i*2<=(Qh B id).length/\(Qh B id).take (i*2)=cC (l.take i)/\(0<i->Qh B id=cC (l.take i)))
  (fun f _=>l.length-(numOf (f 15)).toNat) ?_ ?_
 ·exact⟨0,0,[List.replicate (l.length*2) .junk],by omega,by simp,by simp,rfl,by simp,by simp;omega,by simp,by simp,by simp⟩
 rintro f m ⟨i,id,B,hi,si,h3,rfl,aO,Ae,cc,bz,Nz⟩;rcases zzaa i l.length with ai|bB
 ·obtain⟨s,hs⟩:=aR ai;have aa:=Zd hs;have ah:(i:Int)<(l.length:Int):=by omega
  have hw:=bJ i (by omega);have lD:∀x,Qh (B++x) id=Qh B id:=fun x=>Ql aO;have qb:∀x v,(B++x).set id v=B.set id v++x:=fun x v=>Yf v aO;have gj:cC (l.take (i+1))=cC (l.take i)++[I s.1,I s.2]:=by rw[zzar,hs,Qbv];rfl
  simp[si,h3,ah,aa,uM,hw,lD,qb,Ae,cc,bz,KT];refine⟨⟨by omega,by omega⟩,aN,⟨i+1,by omega,by simp,?_⟩,by omega⟩
  ·refine⟨B.length+1,⟨rfl,rfl⟩,by omega,?_⟩
   have e:Qh (B.set id []++[[AV.int IntKind.i64 s.fst,AV.int IntKind.i64 s.snd],cC (List.take i l)++[AV.int IntKind.i64 s.fst,AV.int IntKind.i64 s.snd]]) (B.length+1)=cC (l.take (i+1)):=by
    have:=Vk (B.set id []) [[AV.int IntKind.i64 s.fst,AV.int IntKind.i64 s.snd],cC (List.take i l)++[AV.int IntKind.i64 s.fst,AV.int IntKind.i64 s.snd]] 1;rw[zzcg]at this;rw[this,gj];rfl
   rw[e];have e2:(cC (l.take (i+1))).length=(i+1)*2:=by rw[Vv,zzaq];congr 1;omega
   refine⟨?_,by omega,?_,fun _=>rfl⟩
   ·intro h;rw[h]at e2;simp at e2
   rw[<- e2,zzbm]
 obtain rfl:i=l.length:=by omega
 have hB:=Nz eO;rw[zzbm]at hB;have bI:¬((l.length:Nat):Int)<(l.length:Int):=by omega
 simp[si,h3,uM,KT];refine KV _ l (by omega) B _ _ _ id aO aJ hB _ ?_;intro B1 z fq hB1 hz;have amm:id<B1.length:=zzbb aO fq.1;rw[Qbv]at hB1;have WN:B1[id]?=some (cC (l.filter mz)++cC z):=by rw[Yz amm,hB1]
 refine KW _ (l.filter mz) (by omega) _ id (cC z) WN ?_ _ ?_
 ·intro h;have:=congrArg List.length h;rw[zzag,Vv,Vv]at this;simp at this;omega
 intro d hp hs;have alX:=amn hp hs;have hdl:d.length=(l.filter mz).length:=hp.length_eq;rw[<- hdl];have axq:d.length<=100000000:=by omega
 simp[AM.wr]
 refine Qj iJ (fun f m=>∃(i:Nat)(B:List (List AV))(out:List Sp),i<=d.length/\f 31=I i/\m=⟨B,[],fun _=>.gone,0⟩/\out.length<=i/\id<B.length/\Qh B id=cC d++cC z/\FX out (d.drop i)=Xl l/\arL B id out (f 6))
  (fun f _=>d.length-(numOf (f 31)).toNat) ?_ ?_
 ·exact⟨0,B1.set id (cC d++cC z),[],by omega,by simp,rfl,by simp,by simpa using amm,Vp _ amm,by simpa using alX,.inl ⟨rfl,by simp⟩⟩
 rintro f m ⟨i,B,out,hi,h31,rfl,Fv,aO,hB,hm,hout⟩;rcases zzaa i d.length with ai|bB
 ·obtain⟨v,hv⟩:=aR ai;have ah:(i:Int)<(d.length:Int):=by omega
  have hw:=bJ i (by omega)
  have hg:(cC d++cC z).drop (i*2)=I v.1::I v.2::(cC (d.drop (i+1))++cC z):=by
   rw[zzdl (by rw[Vv];omega),tX hv];rfl
  have dX:d.drop i=v::d.drop (i+1):=by
   rw[zzaf ai,(zza.1 hv).2]
  rw[dX,FX]at hm;have lD:∀x,Qh (B++x) id=cC d++cC z:=fun x=>by rw[Ql aO,hB]
  obtain⟨rfl,h6⟩|⟨gG,hon,h6,rO,fJ,th⟩:=hout
  ·simp[h31,h6,ah,hB,lD,hg,iJ,hw,KT];refine⟨aN,⟨i+1,by omega,by simp,?_⟩,by omega⟩
   ·refine⟨[v],by simp,by omega,by simpa[QS]using hm,.inr ⟨B.length+1,by simp,by simp,by omega,by simp,by simp⟩⟩
  obtain⟨p,u,rfl⟩:=KU hon;have arM:p.length+1<=i:=by simpa using Fv
  have iQ:(cC (p++[u])).drop (p.length*2+1)=[I u.2]:=by
   have:=FD (l:=p++[u]) (i:=p.length) (s:=u) (by simp);simpa using this
  have bZ:=wB (p++[u]) p.length u (max u.2 v.2) (by simp);have arN:(p++[u]).set p.length (u.1,max u.2 v.2)=p++[(u.1,max u.2 v.2)]:=by simp
  rw[arN]at bZ;have hwp:IntKind.i64.wrap (p.length:Int)=(p.length:Int):=by rw[Qi]<;>omega
  have gq:(0:Int)<(p.length:Int)+1:=by omega
  have arO:∀x,Qh (B++x) gG=cC (p++[u]):=fun x=>by rw[Ql fJ,th]
  have qb:∀x v,(B++x).set gG v=B.set gG v++x:=fun x v=>Yf v fJ;have gj:=Vv (p++[u]);simp only[zzag,zzba,zzcf,zzbt]at gj h6;have awb:QS (p++[u]) v=if v.1<=u.2 then p++[(u.1,max u.2 v.2)]else p++[u]++[v]:=by simp[QS]
  rw[awb]at hm;by_cases hc:v.1<=u.2
  ·rw[if_pos hc]at hm;simp[h31,h6,ah,hB,arO,qb,hg,iQ,iJ,hw,hwp,gq,hc,qS,bZ,gj];refine⟨by omega,⟨by omega,by omega⟩,aN,⟨i+1,by omega,by simp,?_⟩,by omega⟩
   ·refine⟨p++[(u.1,max u.2 v.2)],by simp;omega,by omega,by rw[Ql (by simpa using aO),Zv _ rO,hB],hm,.inr ⟨gG,by simp,by simp,rO,by simp;omega,by rw[Ql (by simpa using fJ),Vp _ fJ]⟩⟩
  rw[if_neg hc]at hm;simp[h31,h6,ah,hB,arO,qb,hg,iQ,iJ,hw,hwp,gq,hc,gj,KT];refine⟨by omega,⟨⟨by omega,by simp[Qbv]⟩,by omega⟩,aN,⟨i+1,by omega,by simp,?_⟩,by omega⟩
  ·have bz:(cC (p++[u])).take ((p.length+1)*2)=cC (p++[u]):=zzam (by rw[gj];exact zzab _);rw[bz];refine⟨p++[u]++[v],by simp;omega,by omega,by rw[Ql (by simpa using aO),Zv _ rO,hB],hm,.inr ⟨B.length+1,by simp,by simp,by omega,by simp,?_⟩⟩;have:=Vk (B.set gG []) [[I v.1,I v.2],cC (p++[u])++[AV.int IntKind.i64 v.fst,AV.int IntKind.i64 v.snd]] 1;rw[zzcg]at this;rw[this,Qbv (p++[u]) [v]];rfl
 obtain rfl:i=d.length:=by omega
 rw[zzbr,FX]at hm;obtain⟨rfl,h6⟩|⟨gG,hon,h6,rO,fJ,th⟩:=hout
 ·simp[h31,h6,iJ,MZ,<- hm]
 have fu:=Zl ⟨B,[],fun _=>.gone,0⟩ 4 (CE out);have lF:=Qdq out;have gj:=Vv out;simp[h31,h6,iJ,MZ,<- hm,hon,th,fu,lF,gj]
def Un(l:List Sp)(hl:l.length<=100000000):Pure Tryz.prog az 182 [.sl .ro (l.map Qe)] (.sl .ro ((Xl l).map Qe)):=by
 have h:=CK l hl;by_cases hn:Xl l=[]
 ·rw[if_pos hn]at h;rw[hn];exact Qy h (Wk.sl _ _)
 rw[if_neg hn]at h;exact h
open Go Go.Abs
def KX(a b:Int):(if b<a then b else a)=min a b:=by split<;>omega
def AO(s:Sp):List AV:=[.agg [I s.1,I s.2]]
def X2(A B:List Sp)(hA:A.length<=100000000)(hB:B.length<=100000000):
  Iter Tryz.prog az 264 [] [.ep [.sl .ro (A.map Qe)] 0,.ep [.sl .ro (B.map Qe)] 0] ((tD (A.length+B.length) A B).map AO):=by
 intro Y l m K hF;refine Xd ady (fun _ _ _=>.junk) (by simp) ?_;simp[UM]
 refine Qj qn (fun f mm=>∃(i j:Nat),i<=A.length/\j<=B.length/\f 4=I i/\f 5=I j/\vT (Y l) K ((tD (A.length-i+(B.length-j)) (A.drop i) (B.drop j)).map AO) mm)
  (fun f _=>A.length-(numOf (f 4)).toNat+(B.length-(numOf (f 5)).toNat)) ?_ ?_
 ·exact⟨0,0,by omega,by omega,by simp,by simp,by simpa using hF⟩
 rintro f mm ⟨i,j,hi,hj,h4,h5,hF⟩;by_cases J5:i=A.length\/j=B.length
 ·have hnil:tD (A.length-i+(B.length-j)) (A.drop i) (B.drop j)=[]:=by
   obtain rfl|rfl:=J5
   ·rw[zzbr];cases A.length-A.length+(B.length-j)<;>rfl
   rw[zzbr];cases A.length-i+(B.length-B.length)with
   |zero=>rfl
   |succ n=>cases A.drop i<;>rfl
  rw[hnil]at hF;have hK:K mm:=hF mm (fk.refl _);by_cases h1:i<A.length
  ·have hjn:¬(j:Int)<(B.length:Int):=by omega
   have ah:(i:Int)<(A.length:Int):=by omega
   simp[h4,h5,ah,hjn,qn,Nj];exact hK
  have bI:¬(i:Int)<(A.length:Int):=by omega
  simp[h4,h5,bI,qn,Nj];exact hK
 have h1:i<A.length:=by omega
 have h2:j<B.length:=by omega
 obtain⟨s,hs⟩:=aR h1;obtain⟨t,ht⟩:=aR h2;have yN:=Zd hs;have aT:=Zd ht;have hda:A.drop i=s::A.drop (i+1):=by rw[zzaf h1,(zza.1 hs).2]
 have hdb:B.drop j=t::B.drop (j+1):=by rw[zzaf h2,(zza.1 ht).2]
 have hn:A.length-i+(B.length-j)=(A.length-i+(B.length-j)-1)+1:=by omega
 have qs:A.length-i+(B.length-j)-1=A.length-(i+1)+(B.length-j):=by omega
 have rO:A.length-i+(B.length-j)-1=A.length-i+(B.length-(j+1)):=by omega
 have ah:(i:Int)<(A.length:Int):=by omega
 have nG:(j:Int)<(B.length:Int):=by omega
 have NY:=bJ i (by omega);have tE:=bJ j (by omega);rw[hda,hdb,hn,tD,<- hda,<- hdb]at hF;by_cases hc:max s.1 t.1<min s.2 t.2
 ·rw[if_pos hc]at hF;simp only[zzen,zzaw]at hF;simp[h4,h5,ah,nG,yN,aT,qn,qS,KX,hc];refine hF _ (fk.box mm _) _ (fun m2 p9=>?_) (fun m2 hK=>?_)
  ·by_cases hd:s.2<t.2
   ·rw[if_pos hd,qs]at p9;have ED:¬t.2<=s.2:=by omega
    simp[hd,NY];refine⟨aN,⟨i+1,by omega,j,by omega,by simp,rfl,p9⟩,by omega⟩
   rw[if_neg hd,rO]at p9;have ED:t.2<=s.2:=by omega
   simp[hd,tE];refine⟨aN,⟨i,by omega,j+1,by omega,rfl,by simp,p9⟩,by omega⟩
  simp[Nj];exact hK _ (fk.refl _)
 rw[if_neg hc]at hF;simp only[zzai]at hF;have hF':=vT.ext hF (fk.box mm [[I (max s.1 t.1),I (min s.2 t.2)]]);by_cases hd:s.2<t.2
 ·rw[if_pos hd,qs]at hF';simp[h4,h5,ah,nG,yN,aT,qn,qS,KX,hc,hd,NY];refine⟨aN,⟨i+1,by omega,j,by omega,by simp,rfl,hF'⟩,by omega⟩
 rw[if_neg hd,rO]at hF';simp[h4,h5,ah,nG,yN,aT,qn,qS,KX,hc,hd,tE];refine⟨aN,⟨i,by omega,j+1,by omega,rfl,by simp,hF'⟩,by omega⟩
def zj(A B:List Sp):Pure Tryz.prog az 190 [.sl .ro (A.map Qe),.sl .ro (B.map Qe)] (.fn 264 [] [.ep [.sl .ro (A.map Qe)] 0,.ep [.sl .ro (B.map Qe)] 0]):=by
 refine Qn acK (fun _ _ _=>.junk) (by simp) ?_;simp[aht,ahu]
def aeQ(A B:List Sp):Nat->FuncId->List AV->AV:=fun d f _=>
 if f=999999 then .junk else if d=8 then .sl .ro ((Xl A).map Qe)else if d=10 then .sl .ro ((Xl B).map Qe)else if d=11 then .fn 264 [] [.ep [.sl .ro ((Xl A).map Qe)] 0,.ep [.sl .ro ((Xl B).map Qe)] 0]else .junk
def CL:∀(n:Nat)(A B:List Sp),(tD n A B).length<=n
 |0,_,_=>by simp[tD]
 |n+1,[],_=>by simp[tD]
 |n+1,s::A,[]=>by simp[tD]
 |n+1,s::A,t::B=>by
  have h1:=CL n A (t::B);have h2:=CL n (s::A) B;rw[tD,zzag];split<;>split<;>simp<;>omega
def jo(A B:List Sp)(hA:A.length<=10000000)(hB:B.length<=10000000):
  Pure Tryz.prog az 117 [.sl .ro (A.map Qe),.sl .ro (B.map Qe)] (.sl .ro ((zg A B).map Qe)):=by
 have h1:=Un A (by omega);have h2:=Un B (by omega);have l1:=Yv A;have l2:=Yv B;have h3:=zj (Xl A) (Xl B);have cH:=X2 (Xl A) (Xl B) (by omega) (by omega);have hX:zg A B=tD ((Xl A).length+(Xl B).length) (Xl A) (Xl B):=rfl;have hXl:=CL ((Xl A).length+(Xl B).length) (Xl A) (Xl B);rw[<- hX]at cH hXl;generalize zg A B=X at cH hXl;clear hX
 have key:∀r,r=(if X=[]then AV.sl .nil []else .sl .ro (X.map Qe))->Pure Tryz.prog az 117 [.sl .ro (A.map Qe),.sl .ro (B.map Qe)] r:=by
  rintro r rfl;refine Qn abZ (aeQ A B) (by simp) ?_;simp[agX,aeQ];refine⟨h1,h2,h3,?_⟩
  refine jc (xs:=X.map AO) (by simp) cH (by intro x hx;simp at hx;obtain⟨a,b,_,rfl⟩:=hx;rfl)
   (fun i m=>∃(bx:List (List AV))(rt:Rt),m.boxes=[.sl rt ((X.take i).map Qe)]::bx/\((i=0/\rt=.nil)\/(0<i/\∃id,rt=.own id 2/\m.lens[id]?=some i))) (fun _ _=>False) ⟨[],.nil,by simp,.inl ⟨rfl,rfl⟩⟩ ?_ (fun _ _ _ h=>h.elim) ?_ ?_ (fun _ _ h=>h.elim)
  ·rintro i m m' ⟨bx,rt,hb,aT⟩ ⟨⟨b2,e1⟩,⟨l2,e2⟩,_⟩;refine⟨bx++b2,rt,by rw[e1,hb];rfl,?_⟩;obtain h|⟨h0,id,h1,h2⟩:=aT
   ·exact .inl h
   refine .inr ⟨h0,id,h1,?_⟩;rw[e2,zzah (zza.1 h2).1];exact h2
  ·rintro l i m x hg hr ⟨bx,rt,hb,aT⟩ hx K' k1 _ _
   obtain⟨s,hs,rfl⟩:∃s,X[i]?=some s/\AO s=x:=by
    rw[zzbp]at hx;cases hq:X[i]? with
    |none=>rw[hq]at hx;cases hx
    |some y=>rw[hq]at hx;exact⟨y,rfl,Option.some.inj hx⟩
   have hi:i<X.length:=(zza.1 hs).1;have bz:X.take (i+1)=X.take i++[s]:=by rw[zzar,hs];rfl
   have qE:(X.take i).length=i:=by rw[zzaq];omega
   rw[Ub]at hb
   have gZ:∀row∈(X.take i).map Qe,row.length=2:=by
    intro row h;rw[zzay]at h;obtain⟨a,_,rfl⟩:=h;rfl
   generalize X.take i=T at hb bz qE gZ;obtain⟨rfl,rfl⟩|⟨h0,id,rfl,hL⟩:=aT
   ·have hTn:T=[]:=zzca.1 qE;subst hTn;simp[hr,Zj,AO,hb,aeQ];refine k1 _ ⟨bx++[[I s.1,I s.2]],.own m.lens.length 2,?_,.inr ⟨by omega,m.lens.length,rfl,?_⟩⟩
    ·rw[bz];rfl
    simp
   have tg:m.lens[id]?=some T.length:=by rw[qE];simpa using hL
   have ai:=(zza.1 tg).1;simp[hr,Zj,AO,hb,aeQ,tg];refine⟨⟨?_,by omega⟩,?_⟩
   ·rintro row (⟨a,b,_,rfl⟩|rfl)<;>rfl
   refine k1 _ ⟨bx++[[I s.1,I s.2]],.own id 2,?_,.inr ⟨by omega,id,rfl,?_⟩⟩
   ·rw[bz,zzc];rfl
   simp[ai,qE]
  rintro m ⟨bx,rt,hb,aT⟩;rw[zzbe]at hb aT;rw[zzbm]at hb;by_cases hn:X=[]
  ·subst hn;obtain⟨_,rfl⟩|⟨h0,_⟩:=aT
   ·simp[hb,Tv]
   simp at h0
  obtain⟨h0,_⟩|⟨_,id,rfl,_⟩:=aT
  ·exact absurd (zzca.1 h0) hn
  simp[hb,Tv,hn]
 have hk:=key _ rfl;by_cases hn:X=[]
 ·rw[if_pos hn]at hk;rw[hn];exact Qy hk (Wk.sl _ _)
 rw[if_neg hn]at hk;exact hk
open Go Go.Abs
def Out(m:AM)(id:Nat)(L:List Sp):Prop:=∃rt,Qh m.boxes id=[.sl rt (L.map Qe)]/\id<m.boxes.length/\((L=[]/\rt=.nil)\/(L≠[]/\∃k,rt=.own k 2/\m.lens[k]?=some L.length))
def Out.box{m:AM}{id:Nat}{L:List Sp}(h:Out m id L)(b:List (List AV)):Out {m with boxes:=m.boxes++b} id L:=by
 obtain⟨rt,h1,h2,h3⟩:=h;exact⟨rt,by show Qh (m.boxes++b) id=_;rw[Ql h2];exact h1,by show id<(m.boxes++b).length;simp;omega,h3⟩
def CM(Y:YT)(f t:Int)(id:Nat)(L:List Sp)(m:AM)(hO:Out m id L)(hl:L.length<=1000000000)(K:AV->AM->Prop)
  (hK:∀m',Out m' id (L++CN f t)->aZ (·=id) m.boxes m'.boxes->m'.st=m.st->m'.ln=m.ln->K (.aV []) m'):an Tryz.prog az Y 181 [I f,I t,.ptr id 0] m K:=by
 obtain⟨rt,h1,h2,h3⟩:=hO;refine Xd acB (fun _ _ _=>.junk) (by simp) ?_;by_cases SX:f<t
 ·have ha:CN f t=[(f,t)]:=by simp[CN,SX]
  rw[ha]at hK
  have gZ:∀row∈L.map Qe,row.length=2:=by
   intro row h;rw[zzay]at h;obtain⟨a,_,rfl⟩:=h;rfl
  obtain⟨rfl,rfl⟩|⟨aJ,k,rfl,hk⟩:=h3
  ·simp[MW,MX,SX,h1,h2];refine hK _ ⟨.own m.lens.length 2,?_,by simpa using h2,.inr ⟨by simp,m.lens.length,rfl,by simp⟩⟩ (aZ.set (S:=(·=id)) (aZ.refl _ _) (.inl rfl) _) rfl rfl;simp[Vp _ h2,Qe]
  have DQ:=(zza.1 hk).1;simp[MW,MX,SX,h1,h2,hk];refine⟨⟨?_,by omega⟩,?_⟩
  ·rintro row (⟨a,b,_,rfl⟩|rfl)<;>rfl
  refine hK _ ⟨.own k 2,?_,by simpa using h2,.inr ⟨by simp,k,rfl,by simp[DQ]⟩⟩ (aZ.set (S:=(·=id)) (aZ.refl _ _) (.inl rfl) _) rfl rfl;simp[Vp _ h2,Qe]
 have ha:CN f t=[]:=by simp[CN,SX]
 rw[ha,zzat]at hK;simp[MW,MX,SX];exact hK m ⟨rt,h1,h2,h3⟩ (aZ.refl _ _) rfl rfl
def wM(f t:Int):(CN f t).length<=1:=by unfold CN;split<;>simp
def FZ:∀(H:List Sp)(f t:Int),(jv f t H).1.length+(jv f t H).2.length<=H.length+1
 |[],f,t=>by have:=wM f t;simp[jv];omega
 |h::r,f,t=>by
  have h1:=wM f h.1;have h2:=wM f t;rw[jv];split
  ·split
   ·simp;omega
   have:=FZ r (max f h.2) t;simp;omega
  simp;omega
def F0:∀(A H:List Sp),(tF A H).length<=A.length+H.length
 |[],H=>by simp[tF]
 |s::A,H=>by
  have h1:=FZ H s.1 s.2;have h2:=F0 A (jv s.1 s.2 H).2;simp[tF];omega
def wN(a b:List Sp):Nat->FuncId->List AV->AV:=fun d f _=>
 if f=999999 then .junk else if d=14 then .sl .ro ((Xl b).map Qe)else if d=16 then .sl .ro ((Xl a).map Qe)else .gd false .junk
def zk(a b:List Sp)(ha:a.length<=10000000)(hb:b.length<=10000000):
  Pure Tryz.prog az 112 [.sl .ro (a.map Qe),.sl .ro (b.map Qe)] (.sl .ro ((CO a b).map Qe)):=by
 have h1:=Un a (by omega);have h2:=Un b (by omega);have hR:CO a b=tF (Xl a) (Xl b):=rfl;have hRl:=F0 (Xl a) (Xl b);have l1:=Yv a;have l2:=Yv b;rw[<- hR]at hRl;generalize CO a b=R at hR hRl
 have key:∀r,r=(if R=[]then AV.sl .nil []else .sl .ro (R.map Qe))->Pure Tryz.prog az 112 [.sl .ro (a.map Qe),.sl .ro (b.map Qe)] r:=by
  rintro r rfl;refine Qn abU (wN a b) (by simp) ?_;simp[MC,wN];refine⟨h2,h1,?_⟩;generalize Xl a=A at hR hRl l1 |-
  generalize Xl b=H at hR hRl l2 |-
  clear h1 h2;refine Qj Bw (fun f m=>∃(k i:Nat)(L:List Sp),k<=A.length/\i<=H.length/\f 18=I k/\f 8=I i/\Out m 0 L/\L++tF (A.drop k) (H.drop i)=R) (fun f _=>A.length-(numOf (f 18)).toNat) ?_ ?_
  ·exact⟨0,0,[],by omega,by omega,by simp,by simp,⟨.nil,rfl,by simp,.inl ⟨rfl,rfl⟩⟩,by simpa using hR.symm⟩
  rintro f m ⟨k,i,L,hk,hi,h18,h8,hO,hL⟩;rcases zzaa k A.length with ai|bB
  ·obtain⟨s,hs⟩:=aR ai;have aa:=Zd hs;have aeF:(k:Int)<(A.length:Int):=by omega
   have XA:=bJ k (by omega);have hda:A.drop k=s::A.drop (k+1):=by rw[zzaf ai,(zza.1 hs).2]
   rw[hda,tF]at hL;have hO0:=hO;obtain⟨_,_,SQ,_⟩:=hO0;simp[h18,aeF,aa,Bw]
   refine Qj Bx (fun g m2=>∃(i:Nat)(fr:Int)(L:List Sp),i<=H.length/\g 8=I i/\g 11=I fr/\Out m2 0 L/\m.boxes.length<m2.boxes.length/\Qh m2.boxes m.boxes.length=[I s.1,I s.2]/\
     L++((jv fr s.2 (H.drop i)).1++tF (A.drop (k+1)) (jv fr s.2 (H.drop i)).2)=R) (fun g _=>H.length-(numOf (g 8)).toNat) ?_ ?_
   ·refine⟨i,s.1,L,hi,by simp[h8],by simp,hO.box _,by simp,by simp,hL⟩
   rintro g m2 ⟨i,fr,L,hi,h8,qN,hO,Cd,hbx,hL⟩
   have hLl:L.length<=1000000000:=by
    have:=congrArg List.length hL;rw[zzag]at this;omega
   have qp:m.boxes.length≠0:=by omega
   have fin:∀(hd:H.drop i=[]\/∃h r,H.drop i=h::r/\s.2<=h.1),L++CN fr s.2++tF (A.drop (k+1)) (H.drop i)=R:=by
    rintro(hd|⟨h,r,hd,hc⟩)
    ·rw[hd]at hL |-;simpa[jv]using hL
    rw[hd]at hL |-
    rw[jv,if_neg (by omega)]at hL;simpa using hL
   rcases zzaa i H.length with fR|hig
   ·obtain⟨h,hh⟩:=aR fR;have hrh:=Zd hh;have ah:(i:Int)<(H.length:Int):=by omega
    have NY:=bJ i (by omega);have hdh:H.drop i=h::H.drop (i+1):=by rw[zzaf fR,(zza.1 hh).2]
    by_cases hc:h.1<s.2
    ·rw[hdh,jv,if_pos hc,<- hdh]at hL;simp[h8,qN,ah,hrh,hbx,hc,Bx,wN];refine CM Y0 fr h.1 0 L m2 hO hLl _ (fun m3 hO3 AP _ _=>?_);have arP:Qh m3.boxes m.boxes.length=[I s.1,I s.2]:=by rw[AP.2 _ Cd qp];exact hbx
     have hm3:m.boxes.length<m3.boxes.length:=by have:=AP.1;omega
     by_cases hd:s.2<=max fr h.2
     ·rw[if_pos hd]at hL;simp[arP,qS,hd,XA,h18];refine⟨aN,⟨k+1,by omega,i,by omega,by simp,rfl,L++CN fr h.1,hO3,by rw[zzbc];exact hL⟩,by omega⟩
     rw[if_neg hd]at hL;simp[arP,qS,hd,NY];refine⟨aN,⟨i+1,by omega,by simp,L++CN fr h.1,hO3,hm3,by rw[zzbc,<- zzbc (CN fr h.1)];exact hL⟩,by omega⟩
    simp[h8,qN,ah,hrh,hbx,hc,Bx,wN];refine CM Y0 fr s.2 0 L m2 hO hLl _ (fun m3 hO3 AP _ _=>?_);simp[XA,h18];refine⟨aN,⟨k+1,by omega,i,by omega,by simp,rfl,L++CN fr s.2,hO3,fin (.inr ⟨h,_,hdh,by omega⟩)⟩,by omega⟩
   have bI:¬(i:Int)<(H.length:Int):=by omega
   simp[h8,qN,bI,hbx,Bx,wN];refine CM Y0 fr s.2 0 L m2 hO hLl _ (fun m3 hO3 AP _ _=>?_);simp[XA,h18];refine⟨aN,⟨k+1,by omega,i,by omega,by simp,rfl,L++CN fr s.2,hO3,fin (.inl (zzan hig))⟩,by omega⟩
  obtain rfl:k=A.length:=by omega
  rw[zzbr,tF,zzat]at hL;subst hL;obtain⟨rt,o1,o2,o3⟩:=hO;obtain⟨rfl,rfl⟩|⟨aJ,k,rfl,_⟩:=o3
  ·simp[h18,o1,Bw,Tt]
  simp[h18,o1,Bw,Tt,aJ]
 have hk:=key _ rfl;by_cases hn:R=[]
 ·rw[if_pos hn]at hk;rw[hn];exact Qy hk (Wk.sl _ _)
 rw[if_neg hn]at hk;exact hk
end Go.Proofs.YtnopaopphmjnmaaGreatDoor
