import Derived.Test.YtnopaopphmjnmaaGreatDoorMLSpL
set_option linter.all false
set_option maxRecDepth 100000
set_option maxHeartbeats 64000000
namespace Go.Proofs.YtnopaopphmjnmaaGreatDoor
open Go Go.Abs
def F5(Y:YT)(rt:Rt)(aR:∀m,bF m 6 (.sl rt [])=.sl rt [])(m:AM)(K:AV->AM->Prop)(hK:K (.sl rt []) m):an Tryz.prog az Y 248 [.sl rt [],.fn 249 [] []] m K:=by
 have h:=Zt (l:=[.sl rt [],.fn 249 [] []]) (pJ [] (by simp)) ⟨Wk.sl rt [],Wk.refl _,trivial⟩;simp only[pK]at h;refine Xe Nw (nS (-1)) (by simp) ?_;simp[EG,Nv,nS,aR];exact⟨h,hK⟩
def F6:Nat->FuncId->List AV->AV:=fun d f _=>if f=999999 then(if d=12 then .aJ 0 []else if d=70 then .aJ 0 []else .junk)else .gd false .junk
def rz(a b:Int):(if a<b then b else a)=max a b:=by split<;>omega
def asm(B:List (List AV))(id:Nat)(out:List Sp)(a:AV):Prop:=
 (out=[]/\a=.sl .nil [])\/∃gO,out≠[]/\a=.bs gO 0 out.length 2/\gO≠id/\gO<B.length/\Qh B gO=cC out
def K7{out:List Sp}(h:out≠[]):∃p u,out=p++[u]:=⟨out.dropLast,out.getLast h,(zzeq h).symm⟩
def Db(l:List Sp)(hl:l.length<=100000000):Pure Tryz.prog az 182 [.sl .ro (l.map Qe)] (if Xl l=[]then .sl .nil []else .sl .ro ((Xl l).map Qe)):=by
 refine Qn acY F6 (by simp) ?_;by_cases aK:l=[]
 ·subst aK;have hn:Xl []=[]:=by simp[Xl,F7]
  simp[Nh,F6,hn];refine Qi vm (fun f m=>f 15=I 0/\f 3=.sl .full []/\m=⟨[[]],[],fun _=>.gone,0⟩) (fun _ _=>0) ?_ ?_
  ·simp
  rintro f m ⟨sI,h3,rfl⟩;simp[sI,h3,vm];refine F5 _ _ (fun _=>rfl) _ _ ?_;refine F8 _ _ _ _ ?_;simp;refine Qi iQ (fun f m=>f 31=I 0/\f 6=.sl .nil []/\m=⟨[[]],[],fun _=>.gone,0⟩) (fun _ _=>0) ?_ ?_
  ·simp
  rintro f m ⟨h31,h6,rfl⟩;simp[h31,h6,iQ,Ni]
 have gU:l.length≠0:=by simpa using aK
 have eR:0<l.length:=by omega
 simp[Nh,F6,aK];refine⟨⟨by omega,by omega⟩,?_⟩
 refine Qi vm (fun f m=>∃(i id:Nat)(B:List (List AV)),i<=l.length/\f 15=I i/\f 3=.bs id 0 i 2/\m=⟨B,[],fun _=>.gone,0⟩/\id<B.length/\Qh B id≠[]/\i*2<=(Qh B id).length/\(Qh B id).take (i*2)=cC (l.take i)/\(0<i->Qh B id=cC (l.take i)))
  (fun f _=>l.length-(numOf (f 15)).toNat) ?_ ?_
 ·exact⟨0,0,[List.replicate (l.length*2) .junk],by omega,by simp,by simp,rfl,by simp,by simp;omega,by simp,by simp,by simp⟩
 rintro f m ⟨i,id,B,hi,sI,h3,rfl,aN,Az,ck,bB,NR⟩;rcases zzaa i l.length with ai|bu
 ·obtain⟨s,hs⟩:=aS ai;have ah:=Zc hs;have aa:(i:Int)<(l.length:Int):=by omega
  have hw:=bJ i (by omega);have gI:∀x,Qh (B++x) id=Qh B id:=fun x=>Ql aN;have lV:∀x v,(B++x).set id v=B.set id v++x:=fun x v=>Yk v aN;have gh:cC (l.take (i+1))=cC (l.take i)++[I s.1,I s.2]:=by rw[zzas,hs,Qcd];rfl
  simp[sI,h3,aa,ai,ah,vm,hw,gI,lV,Az,ck,bB,F6];refine⟨⟨by omega,by omega⟩,aO,⟨i+1,by omega,by simp,?_⟩,by omega⟩
  ·refine⟨B.length+1,⟨rfl,rfl⟩,by omega,?_⟩
   have e:Qh (B.set id []++[[AV.int IntKind.i64 s.fst,AV.int IntKind.i64 s.snd],cC (List.take i l)++[AV.int IntKind.i64 s.fst,AV.int IntKind.i64 s.snd]]) (B.length+1)=cC (l.take (i+1)):=by
    have:=Vj (B.set id []) [[AV.int IntKind.i64 s.fst,AV.int IntKind.i64 s.snd],cC (List.take i l)++[AV.int IntKind.i64 s.fst,AV.int IntKind.i64 s.snd]] 1;rw[zzci]at this;rw[this,gh];rfl
   rw[e];have e2:(cC (l.take (i+1))).length=(i+1)*2:=by rw[Vy,zzaq];congr 1;omega
   refine⟨?_,by omega,?_,fun _=>rfl⟩
   ·intro h;rw[h]at e2;simp at e2
   rw[<- e2,zzbs]
 obtain rfl:i=l.length:=by omega
 have hB:=NR eR;rw[zzbs]at hB;have bI:¬((l.length:Nat):Int)<(l.length:Int):=by omega
 simp[sI,h3,vm,F6];refine K8 _ l (by omega) B _ _ _ id aN aK hB _ ?_;intro B1 z fG hB1 hz;have amN:id<B1.length:=zzbc aN fG.1;rw[Qcd]at hB1;have XD:B1[id]?=some (cC (l.filter mQ)++cC z):=by rw[Uc amN,hB1]
 refine K9 _ (l.filter mQ) (by omega) _ id (cC z) XD ?_ _ ?_
 ·intro h;have:=congrArg List.length h;rw[zzah,Vy,Vy]at this;simp at this;omega
 intro d hp hs;have amn:=amO hp hs;have hdl:d.length=(l.filter mQ).length:=hp.length_eq;rw[<- hdl];have ax9:d.length<=100000000:=by omega
 simp[AM.wr]
 refine Qi iQ (fun f m=>∃(i:Nat)(B:List (List AV))(out:List Sp),i<=d.length/\f 31=I i/\m=⟨B,[],fun _=>.gone,0⟩/\out.length<=i/\id<B.length/\Qh B id=cC d++cC z/\F7 out (d.drop i)=Xl l/\asm B id out (f 6))
  (fun f _=>d.length-(numOf (f 31)).toNat) ?_ ?_
 ·exact⟨0,B1.set id (cC d++cC z),[],by omega,by simp,rfl,by simp,by simpa using amN,Vp _ amN,by simpa using amn,.inl ⟨rfl,by simp⟩⟩
 rintro f m ⟨i,B,out,hi,h31,rfl,Oc,aN,hB,hm,hout⟩;rcases zzaa i d.length with ai|bu
 ·obtain⟨v,hv⟩:=aS ai;have aa:(i:Int)<(d.length:Int):=by omega
  have hw:=bJ i (by omega)
  have hg:(cC d++cC z).drop (i*2)=I v.1::I v.2::(cC (d.drop (i+1))++cC z):=by
   rw[zzdp (by rw[Vy];omega),uB hv];rfl
  have dX:d.drop i=v::d.drop (i+1):=by
   rw[zzaf ai,(zza.1 hv).2]
  rw[dX,F7]at hm;have gI:∀x,Qh (B++x) id=cC d++cC z:=fun x=>by rw[Ql aN,hB]
  obtain⟨rfl,h6⟩|⟨gO,hon,h6,qL,fQ,ri⟩:=hout
  ·simp[h31,h6,aa,ai,hB,gI,hg,iQ,hw,F6];refine⟨aO,⟨i+1,by omega,by simp,?_⟩,by omega⟩
   ·refine⟨[v],by simp,by omega,by simpa[Rk]using hm,.inr ⟨B.length+1,by simp,by simp,by omega,by simp,by simp⟩⟩
  obtain⟨p,u,rfl⟩:=K7 hon;have asn:p.length+1<=i:=by simpa using Oc
  have lM:(cC (p++[u])).drop (p.length*2+1)=[I u.2]:=by
   have:=FL (l:=p++[u]) (i:=p.length) (s:=u) (by simp);simpa using this
  have bV:=xe (p++[u]) p.length u (max u.2 v.2) (by simp);have aso:(p++[u]).set p.length (u.1,max u.2 v.2)=p++[(u.1,max u.2 v.2)]:=by simp
  rw[aso]at bV;have hwp:IntKind.i64.wrap (p.length:Int)=(p.length:Int):=by rw[Qk]<;>omega
  have gG:(0:Int)<(p.length:Int)+1:=by omega
  have asp:∀x,Qh (B++x) gO=cC (p++[u]):=fun x=>by rw[Ql fQ,ri]
  have lV:∀x v,(B++x).set gO v=B.set gO v++x:=fun x v=>Yk v fQ;have gh:=Vy (p++[u]);simp only[zzah,zzbb,zzch,zzbv]at gh h6;have awQ:Rk (p++[u]) v=if v.1<=u.2 then p++[(u.1,max u.2 v.2)]else p++[u]++[v]:=by simp[Rk]
  rw[awQ]at hm;by_cases hc:v.1<=u.2
  ·rw[if_pos hc]at hm;simp[h31,h6,aa,ai,hB,gI,asp,lV,hg,lM,iQ,hw,hwp,gG,hc,rz,bV,gh,F6];refine⟨by omega,⟨by omega,by omega⟩,aO,⟨i+1,by omega,by simp,?_⟩,by omega⟩
   ·refine⟨p++[(u.1,max u.2 v.2)],by simp;omega,by omega,by rw[Ql (by simpa using aN),Zy _ qL,hB],hm,.inr ⟨gO,by simp,by simp,qL,by simp;omega,by rw[Ql (by simpa using fQ),Vp _ fQ]⟩⟩
  rw[if_neg hc]at hm;simp[h31,h6,aa,ai,hB,gI,asp,lV,hg,lM,iQ,hw,hwp,gG,hc,gh,F6];refine⟨by omega,⟨⟨by omega,by simp[Qcd]⟩,by omega⟩,aO,⟨i+1,by omega,by simp,?_⟩,by omega⟩
  ·have bB:(cC (p++[u])).take ((p.length+1)*2)=cC (p++[u]):=zzap (by rw[gh];exact zzab _);rw[bB];refine⟨p++[u]++[v],by simp;omega,by omega,by rw[Ql (by simpa using aN),Zy _ qL,hB],hm,.inr ⟨B.length+1,by simp,by simp,by omega,by simp,?_⟩⟩;have:=Vj (B.set gO []) [[I v.1,I v.2],cC (p++[u])++[AV.int IntKind.i64 v.fst,AV.int IntKind.i64 v.snd]] 1;rw[zzci]at this;rw[this,Qcd (p++[u]) [v]];rfl
 obtain rfl:i=d.length:=by omega
 rw[zzbo,F7]at hm;obtain⟨rfl,h6⟩|⟨gO,hon,h6,qL,fQ,ri⟩:=hout
 ·simp[h31,h6,iQ,Ni,<- hm]
 have fH:=Zk ⟨B,[],fun _=>.gone,0⟩ 4 (C3 out);have lS:=Qea out;have gh:=Vy out;simp[h31,h6,iQ,Ni,<- hm,hon,ri,fH,lS,gh]
def Uq(l:List Sp)(hl:l.length<=100000000):Pure Tryz.prog az 182 [.sl .ro (l.map Qe)] (.sl .ro ((Xl l).map Qe)):=by
 have h:=Db l hl;by_cases hn:Xl l=[]
 ·rw[if_pos hn]at h;rw[hn];exact Qz h (Wk.sl _ _)
 rw[if_neg hn]at h;exact h
open Go Go.Abs
def La(a b:Int):(if b<a then b else a)=min a b:=by split<;>omega
def Ba(s:Sp):List AV:=[.agg [I s.1,I s.2]]
def YV(A B:List Sp)(hA:A.length<=100000000)(hB:B.length<=100000000):
  Iter Tryz.prog az 264 [] [.ep [.sl .ro (A.map Qe)] 0,.ep [.sl .ro (B.map Qe)] 0] ((tV (A.length+B.length) A B).map Ba):=by
 intro Y l m K hF;refine Xe adW (fun _ _ _=>.junk) (by simp) ?_;simp[VA]
 refine Qi qE (fun f mm=>∃(i j:Nat),i<=A.length/\j<=B.length/\f 4=I i/\f 5=I j/\wL (Y l) K ((tV (A.length-i+(B.length-j)) (A.drop i) (B.drop j)).map Ba) mm)
  (fun f _=>A.length-(numOf (f 4)).toNat+(B.length-(numOf (f 5)).toNat)) ?_ ?_
 ·exact⟨0,0,by omega,by omega,by simp,by simp,by simpa using hF⟩
 rintro f mm ⟨i,j,hi,hj,h4,h5,hF⟩;by_cases KC:i=A.length\/j=B.length
 ·have hnil:tV (A.length-i+(B.length-j)) (A.drop i) (B.drop j)=[]:=by
   obtain rfl|rfl:=KC
   ·rw[zzbo];cases A.length-A.length+(B.length-j)<;>rfl
   rw[zzbo];cases A.length-i+(B.length-B.length)with
   |zero=>rfl
   |succ n=>cases A.drop i<;>rfl
  rw[hnil]at hF;have hK:K mm:=hF mm (fF.refl _);by_cases h1:i<A.length
  ·have Oh:¬(j:Int)<(B.length:Int):=by omega
   have aa:(i:Int)<(A.length:Int):=by omega
   simp[h4,h5,h1,aa,Oh,qE,NB];exact hK
  have bI:¬(i:Int)<(A.length:Int):=by omega
  simp[h4,h5,h1,bI,qE,NB];exact hK
 have h1:i<A.length:=by omega
 have h2:j<B.length:=by omega
 obtain⟨s,hs⟩:=aS h1;obtain⟨t,ht⟩:=aS h2;have sF:=Zc hs;have aR:=Zc ht;have hda:A.drop i=s::A.drop (i+1):=by rw[zzaf h1,(zza.1 hs).2]
 have hdb:B.drop j=t::B.drop (j+1):=by rw[zzaf h2,(zza.1 ht).2]
 have hn:A.length-i+(B.length-j)=(A.length-i+(B.length-j)-1)+1:=by omega
 have qI:A.length-i+(B.length-j)-1=A.length-(i+1)+(B.length-j):=by omega
 have qL:A.length-i+(B.length-j)-1=A.length-i+(B.length-(j+1)):=by omega
 have aa:(i:Int)<(A.length:Int):=by omega
 have eF:(j:Int)<(B.length:Int):=by omega
 have KS:=bJ i (by omega);have xz:=bJ j (by omega);rw[hda,hdb,hn,tV,<- hda,<- hdb]at hF;by_cases hc:max s.1 t.1<min s.2 t.2
 ·rw[if_pos hc]at hF;simp only[zzdy,zzaz]at hF;simp[h4,h5,h1,h2,aa,eF,sF,aR,qE,rz,La,hc];refine hF _ (fF.box mm _) _ (fun m2 qs=>?_) (fun m2 hK=>?_)
  ·by_cases hd:s.2<t.2
   ·rw[if_pos hd,qI]at qs;have Cv:¬t.2<=s.2:=by omega
    simp[h1,h2,aa,eF,sF,aR,hd,Cv,KS];refine⟨aO,⟨i+1,by omega,j,by omega,by simp,rfl,qs⟩,by omega⟩
   rw[if_neg hd,qL]at qs;have Cv:t.2<=s.2:=by omega
   simp[h1,h2,aa,eF,sF,aR,hd,Cv,xz];refine⟨aO,⟨i,by omega,j+1,by omega,rfl,by simp,qs⟩,by omega⟩
  simp[NB];exact hK _ (fF.refl _)
 rw[if_neg hc]at hF;simp only[zzai]at hF;have hF':=wL.ext hF (fF.box mm [[I (max s.1 t.1),I (min s.2 t.2)]]);by_cases hd:s.2<t.2
 ·rw[if_pos hd,qI]at hF';simp[h4,h5,h1,h2,aa,eF,sF,aR,qE,rz,La,hc,hd,KS];refine⟨aO,⟨i+1,by omega,j,by omega,by simp,rfl,hF'⟩,by omega⟩
 rw[if_neg hd,qL]at hF';simp[h4,h5,h1,h2,aa,eF,sF,aR,qE,rz,La,hc,hd,xz];refine⟨aO,⟨i,by omega,j+1,by omega,rfl,by simp,hF'⟩,by omega⟩
def zL(A B:List Sp):Pure Tryz.prog az 190 [.sl .ro (A.map Qe),.sl .ro (B.map Qe)] (.fn 264 [] [.ep [.sl .ro (A.map Qe)] 0,.ep [.sl .ro (B.map Qe)] 0]):=by
 refine Qn ac6 (fun _ _ _=>.junk) (by simp) ?_;simp[ahU,ahV]
def afd(A B:List Sp):Nat->FuncId->List AV->AV:=fun d f _=>
 if f=999999 then .junk else if d=8 then .sl .ro ((Xl A).map Qe)else if d=10 then .sl .ro ((Xl B).map Qe)else if d=11 then .fn 264 [] [.ep [.sl .ro ((Xl A).map Qe)] 0,.ep [.sl .ro ((Xl B).map Qe)] 0]else .junk
def Dc:∀(n:Nat)(A B:List Sp),(tV n A B).length<=n
 |0,_,_=>by simp[tV]
 |n+1,[],_=>by simp[tV]
 |n+1,s::A,[]=>by simp[tV]
 |n+1,s::A,t::B=>by
  have h1:=Dc n A (t::B);have h2:=Dc n (s::A) B;rw[tV,zzah];split<;>split<;>simp<;>omega
def jH(A B:List Sp)(hA:A.length<=10000000)(hB:B.length<=10000000):
  Pure Tryz.prog az 117 [.sl .ro (A.map Qe),.sl .ro (B.map Qe)] (.sl .ro ((zH A B).map Qe)):=by
 have h1:=Uq A (by omega);have h2:=Uq B (by omega);have l1:=Yy A;have l2:=Yy B;have h3:=zL (Xl A) (Xl B);have cm:=YV (Xl A) (Xl B) (by omega) (by omega);have hX:zH A B=tV ((Xl A).length+(Xl B).length) (Xl A) (Xl B):=rfl;have hXl:=Dc ((Xl A).length+(Xl B).length) (Xl A) (Xl B);rw[<- hX]at cm hXl;generalize zH A B=X at cm hXl;clear hX
 have key:∀r,r=(if X=[]then AV.sl .nil []else .sl .ro (X.map Qe))->Pure Tryz.prog az 117 [.sl .ro (A.map Qe),.sl .ro (B.map Qe)] r:=by
  rintro r rfl;refine Qn acp (afd A B) (by simp) ?_;simp[aho,afd];refine⟨h1,h2,h3,?_⟩
  refine jm (xs:=X.map Ba) (by simp) cm (by intro x hx;simp at hx;obtain⟨a,b,_,rfl⟩:=hx;rfl)
   (fun i m=>∃(bx:List (List AV))(rt:Rt),m.boxes=[.sl rt ((X.take i).map Qe)]::bx/\((i=0/\rt=.nil)\/(0<i/\∃id,rt=.own id 2/\m.lens[id]?=some i))) (fun _ _=>False) ⟨[],.nil,by simp,.inl ⟨rfl,rfl⟩⟩ ?_ (fun _ _ _ h=>h.elim) ?_ ?_ (fun _ _ h=>h.elim)
  ·rintro i m m' ⟨bx,rt,hb,aR⟩ ⟨⟨b2,e1⟩,⟨l2,e2⟩,_⟩;refine⟨bx++b2,rt,by rw[e1,hb];rfl,?_⟩;obtain h|⟨h0,id,h1,h2⟩:=aR
   ·exact .inl h
   refine .inr ⟨h0,id,h1,?_⟩;rw[e2,zzag (zza.1 h2).1];exact h2
  ·rintro l i m x hg hr ⟨bx,rt,hb,aR⟩ hx K' k1 _ _
   obtain⟨s,hs,rfl⟩:∃s,X[i]?=some s/\Ba s=x:=by
    rw[zzbl]at hx;cases hq:X[i]? with
    |none=>rw[hq]at hx;cases hx
    |some y=>rw[hq]at hx;exact⟨y,rfl,Option.some.inj hx⟩
   have hi:i<X.length:=(zza.1 hs).1;have bB:X.take (i+1)=X.take i++[s]:=by rw[zzas,hs];rfl
   have mD:(X.take i).length=i:=by rw[zzaq];omega
   rw[Ue]at hb
   have iu:∀row∈(X.take i).map Qe,row.length=2:=by
    intro row h;rw[zzax]at h;obtain⟨a,_,rfl⟩:=h;rfl
   generalize X.take i=T at hb bB mD iu;obtain⟨rfl,rfl⟩|⟨h0,id,rfl,hL⟩:=aR
   ·have hTn:T=[]:=zzcb.1 mD;subst hTn;simp[hr,Zj,Ba,hb,afd];refine k1 _ ⟨bx++[[I s.1,I s.2]],.own m.lens.length 2,?_,.inr ⟨by omega,m.lens.length,rfl,?_⟩⟩
    ·rw[bB];rfl
    simp
   have tN:m.lens[id]?=some T.length:=by rw[mD];simpa using hL
   have ai:=(zza.1 tN).1;simp[hr,Zj,Ba,hb,afd,tN];refine⟨⟨?_,by omega⟩,?_⟩
   ·rintro row (⟨a,b,_,rfl⟩|rfl)<;>rfl
   refine k1 _ ⟨bx++[[I s.1,I s.2]],.own id 2,?_,.inr ⟨by omega,id,rfl,?_⟩⟩
   ·rw[bB,zzc];rfl
   simp[ai,mD]
  rintro m ⟨bx,rt,hb,aR⟩;rw[zzbg]at hb aR;rw[zzbs]at hb;by_cases hn:X=[]
  ·subst hn;obtain⟨_,rfl⟩|⟨h0,_⟩:=aR
   ·simp[hb,TU]
   simp at h0
  obtain⟨h0,_⟩|⟨_,id,rfl,_⟩:=aR
  ·exact absurd (zzcb.1 h0) hn
  simp[hb,TU,hn]
 have hk:=key _ rfl;by_cases hn:X=[]
 ·rw[if_pos hn]at hk;rw[hn];exact Qz hk (Wk.sl _ _)
 rw[if_neg hn]at hk;exact hk
open Go Go.Abs
def Out(m:AM)(id:Nat)(L:List Sp):Prop:=∃rt,Qh m.boxes id=[.sl rt (L.map Qe)]/\id<m.boxes.length/\((L=[]/\rt=.nil)\/(L≠[]/\∃k,rt=.own k 2/\m.lens[k]?=some L.length))
def Out.box{m:AM}{id:Nat}{L:List Sp}(h:Out m id L)(b:List (List AV)):Out {m with boxes:=m.boxes++b} id L:=by
 obtain⟨rt,h1,h2,h3⟩:=h;exact⟨rt,by show Qh (m.boxes++b) id=_;rw[Ql h2];exact h1,by show id<(m.boxes++b).length;simp;omega,h3⟩
def Dd(Y:YT)(f t:Int)(id:Nat)(L:List Sp)(m:AM)(hO:Out m id L)(hl:L.length<=1000000000)(K:AV->AM->Prop)
  (hK:∀m',Out m' id (L++De f t)->bn (·=id) m.boxes m'.boxes->m'.st=m.st->m'.ln=m.ln->K (.aW []) m'):an Tryz.prog az Y 181 [I f,I t,.ptr id 0] m K:=by
 obtain⟨rt,h1,h2,h3⟩:=hO;refine Xe acX (fun _ _ _=>.junk) (by simp) ?_;by_cases IB:f<t
 ·have ha:De f t=[(f,t)]:=by simp[De,IB]
  rw[ha]at hK
  have iu:∀row∈L.map Qe,row.length=2:=by
   intro row h;rw[zzax]at h;obtain⟨a,_,rfl⟩:=h;rfl
  obtain⟨rfl,rfl⟩|⟨aK,k,rfl,hk⟩:=h3
  ·simp[Nf,Ng,IB,h1,h2];refine hK _ ⟨.own m.lens.length 2,?_,by simpa using h2,.inr ⟨by simp,m.lens.length,rfl,by simp⟩⟩ (bn.set (S:=(·=id)) (bn.refl _ _) (.inl rfl) _) rfl rfl;simp[Vp _ h2,Qe]
  have oz:=(zza.1 hk).1;simp[Nf,Ng,IB,h1,h2,hk];refine⟨⟨?_,by omega⟩,?_⟩
  ·rintro row (⟨a,b,_,rfl⟩|rfl)<;>rfl
  refine hK _ ⟨.own k 2,?_,by simpa using h2,.inr ⟨by simp,k,rfl,by simp[oz]⟩⟩ (bn.set (S:=(·=id)) (bn.refl _ _) (.inl rfl) _) rfl rfl;simp[Vp _ h2,Qe]
 have ha:De f t=[]:=by simp[De,IB]
 rw[ha,zzau]at hK;simp[Nf,Ng,IB];exact hK m ⟨rt,h1,h2,h3⟩ (bn.refl _ _) rfl rfl
def xA(f t:Int):(De f t).length<=1:=by unfold De;split<;>simp
def F9:∀(H:List Sp)(f t:Int),(jK f t H).1.length+(jK f t H).2.length<=H.length+1
 |[],f,t=>by have:=xA f t;simp[jK];omega
 |h::r,f,t=>by
  have h1:=xA f h.1;have h2:=xA f t;rw[jK];split
  ·split
   ·simp;omega
   have:=F9 r (max f h.2) t;simp;omega
  simp;omega
def Ga:∀(A H:List Sp),(tW A H).length<=A.length+H.length
 |[],H=>by simp[tW]
 |s::A,H=>by
  have h1:=F9 H s.1 s.2;have h2:=Ga A (jK s.1 s.2 H).2;simp[tW];omega
def rA(a b:List Sp):Nat->FuncId->List AV->AV:=fun d f _=>
 if f=999999 then .junk else if d=14 then .sl .ro ((Xl b).map Qe)else if d=16 then .sl .ro ((Xl a).map Qe)else .gd false .junk
def zM(a b:List Sp)(ha:a.length<=10000000)(hb:b.length<=10000000):
  Pure Tryz.prog az 112 [.sl .ro (a.map Qe),.sl .ro (b.map Qe)] (.sl .ro ((C7 a b).map Qe)):=by
 have h1:=Uq a (by omega);have h2:=Uq b (by omega);have hR:C7 a b=tW (Xl a) (Xl b):=rfl;have hRl:=Ga (Xl a) (Xl b);have l1:=Yy a;have l2:=Yy b;rw[<- hR]at hRl;generalize C7 a b=R at hR hRl
 have key:∀r,r=(if R=[]then AV.sl .nil []else .sl .ro (R.map Qe))->Pure Tryz.prog az 112 [.sl .ro (a.map Qe),.sl .ro (b.map Qe)] r:=by
  rintro r rfl;refine Qn acj (rA a b) (by simp) ?_;simp[MT,rA];refine⟨h2,h1,?_⟩;generalize Xl a=A at hR hRl l1 |-
  generalize Xl b=H at hR hRl l2 |-
  clear h1 h2;refine Qi BO (fun f m=>∃(k i:Nat)(L:List Sp),k<=A.length/\i<=H.length/\f 18=I k/\f 8=I i/\Out m 0 L/\L++tW (A.drop k) (H.drop i)=R) (fun f _=>A.length-(numOf (f 18)).toNat) ?_ ?_
  ·exact⟨0,0,[],by omega,by omega,by simp,by simp,⟨.nil,rfl,by simp,.inl ⟨rfl,rfl⟩⟩,by simpa using hR.symm⟩
  rintro f m ⟨k,i,L,hk,hi,h18,h8,hO,hL⟩;rcases zzaa k A.length with ai|bu
  ·obtain⟨s,hs⟩:=aS ai;have ah:=Zc hs;have aeZ:(k:Int)<(A.length:Int):=by omega
   have Q3:=bJ k (by omega);have hda:A.drop k=s::A.drop (k+1):=by rw[zzaf ai,(zza.1 hs).2]
   rw[hda,tW]at hL;have hO0:=hO;obtain⟨_,_,Th,_⟩:=hO0;simp[h18,ai,aeZ,ah,BO,rA]
   refine Qi BP (fun g m2=>∃(i:Nat)(fr:Int)(L:List Sp),i<=H.length/\g 8=I i/\g 11=I fr/\Out m2 0 L/\m.boxes.length<m2.boxes.length/\Qh m2.boxes m.boxes.length=[I s.1,I s.2]/\
     L++((jK fr s.2 (H.drop i)).1++tW (A.drop (k+1)) (jK fr s.2 (H.drop i)).2)=R) (fun g _=>H.length-(numOf (g 8)).toNat) ?_ ?_
   ·refine⟨i,s.1,L,hi,by simp[h8],by simp,hO.box _,by simp,by simp,hL⟩
   rintro g m2 ⟨i,fr,L,hi,h8,kY,hO,CB,hbx,hL⟩
   have hLl:L.length<=1000000000:=by
    have:=congrArg List.length hL;rw[zzah]at this;omega
   have qG:m.boxes.length≠0:=by omega
   have fin:∀(hd:H.drop i=[]\/∃h r,H.drop i=h::r/\s.2<=h.1),L++De fr s.2++tW (A.drop (k+1)) (H.drop i)=R:=by
    rintro(hd|⟨h,r,hd,hc⟩)
    ·rw[hd]at hL |-;simpa[jK]using hL
    rw[hd]at hL |-
    rw[jK,if_neg (by omega)]at hL;simpa using hL
   rcases zzaa i H.length with eS|hig
   ·obtain⟨h,hh⟩:=aS eS;have hrh:=Zc hh;have aa:(i:Int)<(H.length:Int):=by omega
    have KS:=bJ i (by omega);have hdh:H.drop i=h::H.drop (i+1):=by rw[zzaf eS,(zza.1 hh).2]
    by_cases hc:h.1<s.2
    ·rw[hdh,jK,if_pos hc,<- hdh]at hL;simp[h8,kY,eS,aa,hrh,hbx,hc,BP,rA];refine Dd Y0 fr h.1 0 L m2 hO hLl _ (fun m3 hO3 Bb _ _=>?_);have asq:Qh m3.boxes m.boxes.length=[I s.1,I s.2]:=by rw[Bb.2 _ CB qG];exact hbx
     have hm3:m.boxes.length<m3.boxes.length:=by have:=Bb.1;omega
     by_cases hd:s.2<=max fr h.2
     ·rw[if_pos hd]at hL;simp[asq,rz,hd,Q3,h18];refine⟨aO,⟨k+1,by omega,i,by omega,by simp,rfl,L++De fr h.1,hO3,by rw[zzaw];exact hL⟩,by omega⟩
     rw[if_neg hd]at hL;simp[asq,rz,hd,KS,h8];refine⟨aO,⟨i+1,by omega,by simp,L++De fr h.1,hO3,hm3,by rw[zzaw,<- zzaw (De fr h.1)];exact hL⟩,by omega⟩
    simp[h8,kY,eS,aa,hrh,hbx,hc,BP,rA];refine Dd Y0 fr s.2 0 L m2 hO hLl _ (fun m3 hO3 Bb _ _=>?_);simp[Q3,h18];refine⟨aO,⟨k+1,by omega,i,by omega,by simp,rfl,L++De fr s.2,hO3,fin (.inr ⟨h,_,hdh,by omega⟩)⟩,by omega⟩
   have bI:¬(i:Int)<(H.length:Int):=by omega
   simp[h8,kY,bI,zzbm.2 hig,hbx,BP,rA];refine Dd Y0 fr s.2 0 L m2 hO hLl _ (fun m3 hO3 Bb _ _=>?_);simp[Q3,h18];refine⟨aO,⟨k+1,by omega,i,by omega,by simp,rfl,L++De fr s.2,hO3,fin (.inl (zzam hig))⟩,by omega⟩
  obtain rfl:k=A.length:=by omega
  rw[zzbo,tW,zzau]at hL;subst hL;obtain⟨rt,o1,o2,o3⟩:=hO;obtain⟨rfl,rfl⟩|⟨aK,k,rfl,_⟩:=o3
  ·simp[h18,o1,BO,TS]
  simp[h18,o1,BO,TS,aK]
 have hk:=key _ rfl;by_cases hn:R=[]
 ·rw[if_pos hn]at hk;rw[hn];exact Qz hk (Wk.sl _ _)
 rw[if_neg hn]at hk;exact hk
end Go.Proofs.YtnopaopphmjnmaaGreatDoor
