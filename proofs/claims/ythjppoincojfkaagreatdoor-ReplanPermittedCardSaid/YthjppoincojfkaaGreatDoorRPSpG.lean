import Derived.Test.YthjppoincojfkaaGreatDoorRPSpL
set_option linter.all false
set_option maxRecDepth 100000
set_option maxHeartbeats 64000000
namespace Go.Proofs.YthjppoincojfkaaGreatDoor
open Go Go.Abs
def Ib(Y:YT)(rt:Rt)(aX:∀m,bz m 6 (.sl rt [])=.sl rt [])(m:AM)(K:So)(hK:K (.sl rt []) m):aB Tryz.prog aD Y 184 [.sl rt [],.fn 185 [] []] m K:=by
 have h:=Xz (l:=[.sl rt [],.fn 185 [] []]) (qj [] zd) ⟨Wk.sl rt [],Ps,trivial⟩;simp only[ql]at h;refine Xn M8 (oq (-1)) zd ?_;simp[EA,M7,oq,aX];exact⟨h,hK⟩
def Ic:UV:=fun d f _=>if f=999999 then(if d=12 then .aJ 0 []else if d=70 then .aJ 0 []else .junk)else .gd false .junk
def rQ(a b:Int):(if a<b then b else a)=max a b:=by split<;>omega
def auB(B:T5)(id:Nat)(out:List Sp)(a:AV):Prop:=
 (out=[]/\a=.sl .nil [])\/∃gH,out≠[]/\a=.bs gH 0 out.length 2/\gH≠id/\gH<B.length/\Qh B gH=cF out
def Mn{out:List Sp}(h:out≠[]):∃p u,out=p++[u]:=⟨out.dropLast,out.getLast h,(zzev h).symm⟩
def D3(l:List Sp)(hl:l.length<=100000000):Pure Tryz.prog aD 131 [.sl .ro (l.map Qf)] (if Xm l=[]then .sl .nil []else .sl .ro ((Xm l).map Qf)):=by
 refine Qp acg Ic zd ?_;by_cases aO:l=[]
 ·subst aO;have hn:Xm []=[]:=by simp[Xm,Ie]
  simp[MQ,Ic,hn];refine Qi vg (fun f m=>f 15=I 0/\f 3=.sl .full []/\m=⟨[[]],[],fun _=>.gone,0⟩) (fun _ _=>0) ?_ ?_
  ·simp
  rintro f m ⟨sJ,h3,rfl⟩;simp[sJ,h3,vg];refine Ib _ _ (fun _=>rfl) _ _ ?_;refine Ig _ _ _ _ ?_;simp;refine Qi iH (fun f m=>f 31=I 0/\f 6=.sl .nil []/\m=⟨[[]],[],fun _=>.gone,0⟩) (fun _ _=>0) ?_ ?_
  ·simp
  rintro f m ⟨h31,h6,rfl⟩;simp[h31,h6,iH,MR]
 have ay3:l.length≠0:=by simpa using aO
 have lF:0<l.length:=zE
 simp[MQ,Ic,aO];refine⟨⟨zE,zE⟩,?_⟩
 refine Qi vg (fun f m=>∃(i id:Nat)(B:T5),i<=l.length/\f 15=I i/\f 3=.bs id 0 i 2/\m=⟨B,[],fun _=>.gone,0⟩/\id<B.length/\Qh B id≠[]/\i*2<=(Qh B id).length/\(Qh B id).take (i*2)=cF (l.take i)/\(0<i->Qh B id=cF (l.take i)))
  (fun f _=>l.length-(numOf (f 15)).toNat) ?_ ?_
 ·exact⟨0,0,[List.replicate (l.length*2) .junk],zE,zd,zd,rfl,zd,by simp;omega,zd,zd,zd⟩
 rintro f m ⟨i,id,B,hi,sJ,h3,rfl,aL,vJ,cn,bA,AA⟩;rcases zzaa i l.length with ai|bq
 ·obtain⟨s,hs⟩:=aV ai;have ah:=Zv hs;have aa:(i:Int)<(l.length:Int):=zE
  have hw:=bP i zE;have gV:∀x,Qh (B++x) id=Qh B id:=fun x=>Qn aL;have lN:∀x v,(B++x).set id v=B.set id v++x:=fun x v=>Yk v aL;have fh:cF (l.take (i+1))=cF (l.take i)++[I s.1,I s.2]:=by rw[zzb,hs,Qcl];rfl
  simp[sJ,h3,aa,ai,ah,vg,hw,gV,lN,vJ,cn,bA,Ic];refine⟨⟨zE,zE⟩,aQ,⟨i+1,zE,zd,?_⟩,zE⟩
  ·refine⟨B.length+1,⟨rfl,rfl⟩,zE,?_⟩
   have e:Qh (B.set id []++[[AV.int IntKind.i64 s.fst,AV.int IntKind.i64 s.snd],cF (List.take i l)++[AV.int IntKind.i64 s.fst,AV.int IntKind.i64 s.snd]]) (B.length+1)=cF (l.take (i+1)):=by
    have:=Vl (B.set id []) [[AV.int IntKind.i64 s.fst,AV.int IntKind.i64 s.snd],cF (List.take i l)++[AV.int IntKind.i64 s.fst,AV.int IntKind.i64 s.snd]] 1;rw[zzch]at this;rw[this,fh];rfl
   rw[e];have e2:(cF (l.take (i+1))).length=(i+1)*2:=by rw[Ye,zzaq];congr 1;omega
   refine⟨?_,zE,?_,fun _=>rfl⟩
   ·intro h;rw[h]at e2;simp at e2
   rw[<- e2,zzbz]
 obtain rfl:i=l.length:=zE
 have hB:=AA lF;rw[zzbz]at hB;have bO:¬((l.length:Nat):Int)<(l.length:Int):=zE
 simp[sJ,h3,vg,Ic];refine Mo _ l zE B _ _ _ id aL aO hB _ ?_;intro B1 z nE hB1 hz;have anU:id<B1.length:=zzba aL nE.1;rw[Qcl]at hB1;have V7:B1[id]?=some (cF (l.filter mO)++cF z):=by rw[Jj anU,hB1]
 refine Mp _ (l.filter mO) zE _ id (cF z) V7 ?_ _ ?_
 ·intro h;have:=congrArg List.length h;rw[zzak,Ye,Ye]at this;simp at this;omega
 intro d hp hs;have alU:=anV hp hs;have hdl:d.length=(l.filter mO).length:=hp.length_eq;rw[<- hdl];have ay4:d.length<=100000000:=zE
 simp[AM.wr]
 refine Qi iH (fun f m=>∃(i:Nat)(B:T5)(out:List Sp),i<=d.length/\f 31=I i/\m=⟨B,[],fun _=>.gone,0⟩/\out.length<=i/\id<B.length/\Qh B id=cF d++cF z/\Ie out (d.drop i)=Xm l/\auB B id out (f 6))
  (fun f _=>d.length-(numOf (f 31)).toNat) ?_ ?_
 ·exact⟨0,B1.set id (cF d++cF z),[],zE,zd,rfl,zd,Nm anU,Yg _ anU,Nm alU,.inl ⟨rfl,zd⟩⟩
 rintro f m ⟨i,B,out,hi,h31,rfl,zF,aL,hB,hm,hout⟩;rcases zzaa i d.length with ai|bq
 ·obtain⟨v,hv⟩:=aV ai;have aa:(i:Int)<(d.length:Int):=zE
  have hw:=bP i zE
  have hg:(cF d++cF z).drop (i*2)=I v.1::I v.2::(cF (d.drop (i+1))++cF z):=by
   rw[zzdx (by rw[Ye];omega),uB hv];rfl
  have fc:d.drop i=v::d.drop (i+1):=by
   rw[zzag ai,(zza.1 hv).2]
  rw[fc,Ie]at hm;have gV:∀x,Qh (B++x) id=cF d++cF z:=fun x=>by rw[Qn aL,hB]
  obtain⟨rfl,h6⟩|⟨gH,hon,h6,y6,fH,A4⟩:=hout
  ·simp[h31,h6,aa,ai,hB,gV,hg,iH,hw,Ic];refine⟨aQ,⟨i+1,zE,zd,?_⟩,zE⟩
   ·refine⟨[v],zd,zE,by simpa[R8]using hm,.inr ⟨B.length+1,zd,zd,zE,zd,zd⟩⟩
  obtain⟨p,u,rfl⟩:=Mn hon;have atx:p.length+1<=i:=by simpa using zF
  have lE:(cF (p++[u])).drop (p.length*2+1)=[I u.2]:=by
   have:=FP (l:=p++[u]) (i:=p.length) (s:=u) zd;simpa using this
  have bR:=wY (p++[u]) p.length u (max u.2 v.2) zd;have auC:(p++[u]).set p.length (u.1,max u.2 v.2)=p++[(u.1,max u.2 v.2)]:=zd
  rw[auC]at bR;have hwp:IntKind.i64.wrap (p.length:Int)=(p.length:Int):=by rw[Ql]<;>omega
  have sg:(0:Int)<(p.length:Int)+1:=zE
  have auD:∀x,Qh (B++x) gH=cF (p++[u]):=fun x=>by rw[Qn fH,A4]
  have lN:∀x v,(B++x).set gH v=B.set gH v++x:=fun x v=>Yk v fH;have fh:=Ye (p++[u]);simp only[zzak,zzaz,zzco,zzbs]at fh h6;have ayN:R8 (p++[u]) v=if v.1<=u.2 then p++[(u.1,max u.2 v.2)]else p++[u]++[v]:=by simp[R8]
  rw[ayN]at hm;by_cases hc:v.1<=u.2
  ·rw[if_pos hc]at hm;simp[h31,h6,aa,ai,hB,gV,auD,lN,hg,lE,iH,hw,hwp,sg,hc,rQ,bR,fh,Ic];refine⟨zE,⟨zE,zE⟩,aQ,⟨i+1,zE,zd,?_⟩,zE⟩
   ·refine⟨p++[(u.1,max u.2 v.2)],by simp;omega,zE,by rw[Qn (Nm aL),Ya _ y6,hB],hm,.inr ⟨gH,zd,zd,y6,by simp;omega,by rw[Qn (Nm fH),Yg _ fH]⟩⟩
  rw[if_neg hc]at hm;simp[h31,h6,aa,ai,hB,gV,auD,lN,hg,lE,iH,hw,hwp,sg,hc,fh,Ic];refine⟨zE,⟨⟨zE,by simp[Qcl]⟩,zE⟩,aQ,⟨i+1,zE,zd,?_⟩,zE⟩
  ·have bA:(cF (p++[u])).take ((p.length+1)*2)=cF (p++[u]):=zzat (by rw[fh];exact zzab _);rw[bA];refine⟨p++[u]++[v],by simp;omega,zE,by rw[Qn (Nm aL),Ya _ y6,hB],hm,.inr ⟨B.length+1,zd,zd,zE,zd,?_⟩⟩;have:=Vl (B.set gH []) [[I v.1,I v.2],cF (p++[u])++[AV.int IntKind.i64 v.fst,AV.int IntKind.i64 v.snd]] 1;rw[zzch]at this;rw[this,Qcl (p++[u]) [v]];rfl
 obtain rfl:i=d.length:=zE
 rw[zzbu,Ie]at hm;obtain⟨rfl,h6⟩|⟨gH,hon,h6,y6,fH,A4⟩:=hout
 ·simp[h31,h6,iH,MR,<- hm]
 have gz:=Va ⟨B,[],fun _=>.gone,0⟩ 4 (C7 out);have gX:=Qeh out;have fh:=Ye out;simp[h31,h6,iH,MR,<- hm,hon,A4,gz,gX,fh]
def Ut(l:List Sp)(hl:l.length<=100000000):Pure Tryz.prog aD 131 [.sl .ro (l.map Qf)] (.sl .ro ((Xm l).map Qf)):=by
 have h:=D3 l hl;by_cases hn:Xm l=[]
 ·rw[if_pos hn]at h;rw[hn];exact Zh h (Wk.sl _ _)
 rw[if_neg hn]at h;exact h
open Go Go.Abs
def Mq(a b:Int):(if b<a then b else a)=min a b:=by split<;>omega
def BM(s:Sp):P2:=[.agg [I s.1,I s.2]]
def aa9(A B:List Sp)(hA:A.length<=100000000)(hB:B.length<=100000000):
  Iter Tryz.prog aD 200 [] [.ep [.sl .ro (A.map Qf)] 0,.ep [.sl .ro (B.map Qf)] 0] ((ue (A.length+B.length) A B).map BM):=by
 intro Y l m K hF;refine Xn ade (fun _ _ _=>.junk) zd ?_;simp[T4]
 refine Qi qD (fun f mm=>∃(i j:Nat),i<=A.length/\j<=B.length/\f 4=I i/\f 5=I j/\wG (Y l) K ((ue (A.length-i+(B.length-j)) (A.drop i) (B.drop j)).map BM) mm)
  (fun f _=>A.length-(numOf (f 4)).toNat+(B.length-(numOf (f 5)).toNat)) ?_ ?_
 ·exact⟨0,0,zE,zE,zd,zd,Nm hF⟩
 rintro f mm ⟨i,j,hi,hj,h4,h5,hF⟩;by_cases WB:i=A.length\/j=B.length
 ·have hnil:ue (A.length-i+(B.length-j)) (A.drop i) (B.drop j)=[]:=by
   obtain rfl|rfl:=WB
   ·rw[zzbu];cases A.length-A.length+(B.length-j)<;>rfl
   rw[zzbu];cases A.length-i+(B.length-B.length)with
   |zero=>rfl
   |succ n=>cases A.drop i<;>rfl
  rw[hnil]at hF;have hK:K mm:=hF mm (fu.refl _);by_cases h1:i<A.length
  ·have N1:¬(j:Int)<(B.length:Int):=zE
   have aa:(i:Int)<(A.length:Int):=zE
   simp[h4,h5,h1,aa,N1,qD,Nd];exact hK
  have bO:¬(i:Int)<(A.length:Int):=zE
  simp[h4,h5,h1,bO,qD,Nd];exact hK
 have h1:i<A.length:=zE
 have h2:j<B.length:=zE
 obtain⟨s,hs⟩:=aV h1;obtain⟨t,ht⟩:=aV h2;have zH:=Zv hs;have aX:=Zv ht;have hda:A.drop i=s::A.drop (i+1):=by rw[zzag h1,(zza.1 hs).2]
 have hdb:B.drop j=t::B.drop (j+1):=by rw[zzag h2,(zza.1 ht).2]
 have hn:A.length-i+(B.length-j)=(A.length-i+(B.length-j)-1)+1:=zE
 have qp:A.length-i+(B.length-j)-1=A.length-(i+1)+(B.length-j):=zE
 have y6:A.length-i+(B.length-j)-1=A.length-i+(B.length-(j+1)):=zE
 have aa:(i:Int)<(A.length:Int):=zE
 have dH:(j:Int)<(B.length:Int):=zE
 have XK:=bP i zE;have tU:=bP j zE;rw[hda,hdb,hn,ue,<- hda,<- hdb]at hF;by_cases hc:max s.1 t.1<min s.2 t.2
 ·rw[if_pos hc]at hF;simp only[zzeu,zzbb]at hF;simp[h4,h5,h1,h2,aa,dH,zH,aX,qD,rQ,Mq,hc];refine hF _ (fu.box mm _) _ (fun m2 AW=>?_) (fun m2 hK=>?_)
  ·by_cases hd:s.2<t.2
   ·rw[if_pos hd,qp]at AW;have zj:¬t.2<=s.2:=zE
    simp[h1,h2,aa,dH,zH,aX,hd,zj,XK];refine⟨aQ,⟨i+1,zE,j,zE,zd,rfl,AW⟩,zE⟩
   rw[if_neg hd,y6]at AW;have zj:t.2<=s.2:=zE
   simp[h1,h2,aa,dH,zH,aX,hd,zj,tU];refine⟨aQ,⟨i,zE,j+1,zE,rfl,zd,AW⟩,zE⟩
  simp[Nd];exact hK _ (fu.refl _)
 rw[if_neg hc]at hF;simp only[zzai]at hF;have hF':=wG.ext hF (fu.box mm [[I (max s.1 t.1),I (min s.2 t.2)]]);by_cases hd:s.2<t.2
 ·rw[if_pos hd,qp]at hF';simp[h4,h5,h1,h2,aa,dH,zH,aX,qD,rQ,Mq,hc,hd,XK];refine⟨aQ,⟨i+1,zE,j,zE,zd,rfl,hF'⟩,zE⟩
 rw[if_neg hd,y6]at hF';simp[h4,h5,h1,h2,aa,dH,zH,aX,qD,rQ,Mq,hc,hd,tU];refine⟨aQ,⟨i,zE,j+1,zE,rfl,zd,hF'⟩,zE⟩
def z7(A B:List Sp):Pure Tryz.prog aD 139 [.sl .ro (A.map Qf),.sl .ro (B.map Qf)] (.fn 200 [] [.ep [.sl .ro (A.map Qf)] 0,.ep [.sl .ro (B.map Qf)] 0]):=by
 refine Qp acp (fun _ _ _=>.junk) zd ?_;simp[agX,agY]
def agm(A B:List Sp):UV:=fun d f _=>
 if f=999999 then .junk else if d=8 then .sl .ro ((Xm A).map Qf)else if d=10 then .sl .ro ((Xm B).map Qf)else if d=11 then .fn 200 [] [.ep [.sl .ro ((Xm A).map Qf)] 0,.ep [.sl .ro ((Xm B).map Qf)] 0]else .junk
def D4:∀(n:Nat)(A B:List Sp),(ue n A B).length<=n
 |0,_,_=>by simp[ue]
 |n+1,[],_=>by simp[ue]
 |n+1,s::A,[]=>by simp[ue]
 |n+1,s::A,t::B=>by
  have h1:=D4 n A (t::B);have h2:=D4 n (s::A) B;rw[ue,zzak];split<;>split<;>simp<;>omega
def jt(A B:List Sp)(hA:A.length<=10000000)(hB:B.length<=10000000):
  Pure Tryz.prog aD 84 [.sl .ro (A.map Qf),.sl .ro (B.map Qf)] (.sl .ro ((zK A B).map Qf)):=by
 have h1:=Ut A zE;have h2:=Ut B zE;have l1:=Yu A;have l2:=Yu B;have h3:=z7 (Xm A) (Xm B);have cM:=aa9 (Xm A) (Xm B) zE zE;have hX:zK A B=ue ((Xm A).length+(Xm B).length) (Xm A) (Xm B):=rfl;have hXl:=D4 ((Xm A).length+(Xm B).length) (Xm A) (Xm B);rw[<- hX]at cM hXl;generalize zK A B=X at cM hXl;clear hX
 have key:∀r,r=(if X=[]then AV.sl .nil []else .sl .ro (X.map Qf))->Pure Tryz.prog aD 84 [.sl .ro (A.map Qf),.sl .ro (B.map Qf)] r:=by
  rintro r rfl;refine Qp akG (agm A B) zd ?_;simp[aps,agm];refine⟨h1,h2,h3,?_⟩
  refine je (xs:=X.map BM) zd cM (by intro x hx;simp at hx;obtain⟨a,b,_,rfl⟩:=hx;rfl)
   (fun i m=>∃(bx:T5)(rt:Rt),m.boxes=[.sl rt ((X.take i).map Qf)]::bx/\((i=0/\rt=.nil)\/(0<i/\∃id,rt=.own id 2/\m.lens[id]?=some i))) (fun _ _=>False) ⟨[],.nil,zd,.inl ⟨rfl,rfl⟩⟩ ?_ (fun _ _ _ h=>h.elim) ?_ ?_ (fun _ _ h=>h.elim)
  ·rintro i m m' ⟨bx,rt,hb,aX⟩ ⟨⟨b2,e1⟩,⟨l2,e2⟩,_⟩;refine⟨bx++b2,rt,by rw[e1,hb];rfl,?_⟩;obtain h|⟨h0,id,h1,h2⟩:=aX
   ·exact .inl h
   refine .inr ⟨h0,id,h1,?_⟩;rw[e2,zzaj (zza.1 h2).1];exact h2
  ·rintro l i m x hg hr ⟨bx,rt,hb,aX⟩ hx K' k1 _ _
   obtain⟨s,hs,rfl⟩:∃s,X[i]?=some s/\BM s=x:=by
    rw[zzbm]at hx;cases hq:X[i]? with
    |none=>rw[hq]at hx;cases hx
    |some y=>rw[hq]at hx;exact⟨y,rfl,Option.some.inj hx⟩
   have hi:i<X.length:=(zza.1 hs).1;have bA:X.take (i+1)=X.take i++[s]:=by rw[zzb,hs];rfl
   have mj:(X.take i).length=i:=by rw[zzaq];omega
   rw[Jm]at hb
   have oM:∀row∈(X.take i).map Qf,row.length=2:=by
    intro row h;rw[zzar]at h;obtain⟨a,_,rfl⟩:=h;rfl
   generalize X.take i=T at hb bA mj oM;obtain⟨rfl,rfl⟩|⟨h0,id,rfl,hL⟩:=aX
   ·have hTn:T=[]:=zzc.1 mj;subst hTn;simp[hr,Zq,BM,hb,agm];refine k1 _ ⟨bx++[[I s.1,I s.2]],.own m.lens.length 2,?_,.inr ⟨zE,m.lens.length,rfl,?_⟩⟩
    ·rw[bA];rfl
    simp
   have tN:m.lens[id]?=some T.length:=by rw[mj];simpa using hL
   have ai:=(zza.1 tN).1;simp[hr,Zq,BM,hb,agm,tN];refine⟨⟨?_,zE⟩,?_⟩
   ·rintro row (⟨a,b,_,rfl⟩|rfl)<;>rfl
   refine k1 _ ⟨bx++[[I s.1,I s.2]],.own id 2,?_,.inr ⟨zE,id,rfl,?_⟩⟩
   ·rw[bA,zzci];rfl
   simp[ai,mj]
  rintro m ⟨bx,rt,hb,aX⟩;rw[zzbv]at hb aX;rw[zzbz]at hb;by_cases hn:X=[]
  ·subst hn;obtain⟨_,rfl⟩|⟨h0,_⟩:=aX
   ·simp[hb,akF]
   simp at h0
  obtain⟨h0,_⟩|⟨_,id,rfl,_⟩:=aX
  ·exact absurd (zzc.1 h0) hn
  simp[hb,akF,hn]
 have hk:=key _ rfl;by_cases hn:X=[]
 ·rw[if_pos hn]at hk;rw[hn];exact Zh hk (Wk.sl _ _)
 rw[if_neg hn]at hk;exact hk
open Go Go.Abs
def Out(m:AM)(id:Nat)(L:List Sp):Prop:=∃rt,Qh m.boxes id=[.sl rt (L.map Qf)]/\id<m.boxes.length/\((L=[]/\rt=.nil)\/(L≠[]/\∃k,rt=.own k 2/\m.lens[k]?=some L.length))
def Out.box{m:AM}{id:Nat}{L:List Sp}(h:Out m id L)(b:T5):Out {m with boxes:=m.boxes++b} id L:=by
 obtain⟨rt,h1,h2,h3⟩:=h;exact⟨rt,by show Qh (m.boxes++b) id=_;rw[Qn h2];exact h1,by show id<(m.boxes++b).length;simp;omega,h3⟩
def D5(Y:YT)(f t:Int)(id:Nat)(L:List Sp)(m:AM)(hO:Out m id L)(hl:L.length<=1000000000)(K:So)
  (hK:∀m',Out m' id (L++D6 f t)->bB (·=id) m.boxes m'.boxes->m'.st=m.st->m'.ln=m.ln->K (.aS []) m'):aB Tryz.prog aD Y 130 [I f,I t,.ptr id 0] m K:=by
 obtain⟨rt,h1,h2,h3⟩:=hO;refine Xn acf (fun _ _ _=>.junk) zd ?_;by_cases IA:f<t
 ·have ha:D6 f t=[(f,t)]:=by simp[D6,IA]
  rw[ha]at hK
  have oM:∀row∈L.map Qf,row.length=2:=by
   intro row h;rw[zzar]at h;obtain⟨a,_,rfl⟩:=h;rfl
  obtain⟨rfl,rfl⟩|⟨aO,k,rfl,hk⟩:=h3
  ·simp[MO,MP,IA,h1,h2];refine hK _ ⟨.own m.lens.length 2,?_,Nm h2,.inr ⟨zd,m.lens.length,rfl,zd⟩⟩ (bB.set (S:=(·=id)) (bB.refl _ _) (.inl rfl) _) rfl rfl;simp[Yg _ h2,Qf]
  have qv:=(zza.1 hk).1;simp[MO,MP,IA,h1,h2,hk];refine⟨⟨?_,zE⟩,?_⟩
  ·rintro row (⟨a,b,_,rfl⟩|rfl)<;>rfl
  refine hK _ ⟨.own k 2,?_,Nm h2,.inr ⟨zd,k,rfl,by simp[qv]⟩⟩ (bB.set (S:=(·=id)) (bB.refl _ _) (.inl rfl) _) rfl rfl;simp[Yg _ h2,Qf]
 have ha:D6 f t=[]:=by simp[D6,IA]
 rw[ha,zzau]at hK;simp[MO,MP,IA];exact hK m ⟨rt,h1,h2,h3⟩ (bB.refl _ _) rfl rfl
def yT(f t:Int):(D6 f t).length<=1:=by unfold D6;split<;>simp
def Ih:∀(H:List Sp)(f t:Int),(j9 f t H).1.length+(j9 f t H).2.length<=H.length+1
 |[],f,t=>by have:=yT f t;simp[j9];omega
 |h::r,f,t=>by
  have h1:=yT f h.1;have h2:=yT f t;rw[j9];split
  ·split
   ·simp;omega
   have:=Ih r (max f h.2) t;simp;omega
  simp;omega
def Ii:∀(A H:List Sp),(uf A H).length<=A.length+H.length
 |[],H=>by simp[uf]
 |s::A,H=>by
  have h1:=Ih H s.1 s.2;have h2:=Ii A (j9 s.1 s.2 H).2;simp[uf];omega
def rR(a b:List Sp):UV:=fun d f _=>
 if f=999999 then .junk else if d=14 then .sl .ro ((Xm b).map Qf)else if d=16 then .sl .ro ((Xm a).map Qf)else .gd false .junk
def z8(a b:List Sp)(ha:a.length<=10000000)(hb:b.length<=10000000):
  Pure Tryz.prog aD 79 [.sl .ro (a.map Qf),.sl .ro (b.map Qf)] (.sl .ro ((D0 a b).map Qf)):=by
 have h1:=Ut a zE;have h2:=Ut b zE;have hR:D0 a b=uf (Xm a) (Xm b):=rfl;have hRl:=Ii (Xm a) (Xm b);have l1:=Yu a;have l2:=Yu b;rw[<- hR]at hRl;generalize D0 a b=R at hR hRl
 have key:∀r,r=(if R=[]then AV.sl .nil []else .sl .ro (R.map Qf))->Pure Tryz.prog aD 79 [.sl .ro (a.map Qf),.sl .ro (b.map Qf)] r:=by
  rintro r rfl;refine Qp akz (rR a b) zd ?_;simp[abL,rR];refine⟨h2,h1,?_⟩;generalize Xm a=A at hR hRl l1 |-
  generalize Xm b=H at hR hRl l2 |-
  clear h1 h2;refine Qi MD (fun f m=>∃(k i:Nat)(L:List Sp),k<=A.length/\i<=H.length/\f 18=I k/\f 8=I i/\Out m 0 L/\L++uf (A.drop k) (H.drop i)=R) (fun f _=>A.length-(numOf (f 18)).toNat) ?_ ?_
  ·exact⟨0,0,[],zE,zE,zd,zd,⟨.nil,rfl,zd,.inl ⟨rfl,rfl⟩⟩,Nm hR.symm⟩
  rintro f m ⟨k,i,L,hk,hi,h18,h8,hO,hL⟩;rcases zzaa k A.length with ai|bq
  ·obtain⟨s,hs⟩:=aV ai;have ah:=Zv hs;have C0:(k:Int)<(A.length:Int):=zE
   have KD:=bP k zE;have hda:A.drop k=s::A.drop (k+1):=by rw[zzag ai,(zza.1 hs).2]
   rw[hda,uf]at hL;have hO0:=hO;obtain⟨_,_,JW,_⟩:=hO0;simp[h18,ai,C0,ah,MD,rR]
   refine Qi ME (fun g m2=>∃(i:Nat)(fr:Int)(L:List Sp),i<=H.length/\g 8=I i/\g 11=I fr/\Out m2 0 L/\m.boxes.length<m2.boxes.length/\Qh m2.boxes m.boxes.length=[I s.1,I s.2]/\
     L++((j9 fr s.2 (H.drop i)).1++uf (A.drop (k+1)) (j9 fr s.2 (H.drop i)).2)=R) (fun g _=>H.length-(numOf (g 8)).toNat) ?_ ?_
   ·refine⟨i,s.1,L,hi,by simp[h8],zd,hO.box _,zd,zd,hL⟩
   rintro g m2 ⟨i,fr,L,hi,h8,pG,hO,y8,hbx,hL⟩
   have hLl:L.length<=1000000000:=by
    have:=congrArg List.length hL;rw[zzak]at this;omega
   have lD:m.boxes.length≠0:=zE
   have fin:∀(hd:H.drop i=[]\/∃h r,H.drop i=h::r/\s.2<=h.1),L++D6 fr s.2++uf (A.drop (k+1)) (H.drop i)=R:=by
    rintro(hd|⟨h,r,hd,hc⟩)
    ·rw[hd]at hL |-;simpa[j9]using hL
    rw[hd]at hL |-
    rw[j9,if_neg zE]at hL;simpa using hL
   rcases zzaa i H.length with iV|hig
   ·obtain⟨h,hh⟩:=aV iV;have hrh:=Zv hh;have aa:(i:Int)<(H.length:Int):=zE
    have XK:=bP i zE;have hdh:H.drop i=h::H.drop (i+1):=by rw[zzag iV,(zza.1 hh).2]
    by_cases hc:h.1<s.2
    ·rw[hdh,j9,if_pos hc,<- hdh]at hL;simp[h8,pG,iV,aa,hrh,hbx,hc,ME,rR];refine D5 Y0 fr h.1 0 L m2 hO hLl _ (fun m3 hO3 Bh _ _=>?_);have auE:Qh m3.boxes m.boxes.length=[I s.1,I s.2]:=by rw[Bh.2 _ y8 lD];exact hbx
     have hm3:m.boxes.length<m3.boxes.length:=by have:=Bh.1;omega
     by_cases hd:s.2<=max fr h.2
     ·rw[if_pos hd]at hL;simp[auE,rQ,hd,KD,h18];refine⟨aQ,⟨k+1,zE,i,zE,zd,rfl,L++D6 fr h.1,hO3,by rw[zzav];exact hL⟩,zE⟩
     rw[if_neg hd]at hL;simp[auE,rQ,hd,XK,h8];refine⟨aQ,⟨i+1,zE,zd,L++D6 fr h.1,hO3,hm3,by rw[zzav,<- zzav (D6 fr h.1)];exact hL⟩,zE⟩
    simp[h8,pG,iV,aa,hrh,hbx,hc,ME,rR];refine D5 Y0 fr s.2 0 L m2 hO hLl _ (fun m3 hO3 Bh _ _=>?_);simp[KD,h18];refine⟨aQ,⟨k+1,zE,i,zE,zd,rfl,L++D6 fr s.2,hO3,fin (.inr ⟨h,_,hdh,zE⟩)⟩,zE⟩
   have bO:¬(i:Int)<(H.length:Int):=zE
   simp[h8,pG,bO,zzbk.2 hig,hbx,ME,rR];refine D5 Y0 fr s.2 0 L m2 hO hLl _ (fun m3 hO3 Bh _ _=>?_);simp[KD,h18];refine⟨aQ,⟨k+1,zE,i,zE,zd,rfl,L++D6 fr s.2,hO3,fin (.inl (zzal hig))⟩,zE⟩
  obtain rfl:k=A.length:=zE
  rw[zzbu,uf,zzau]at hL;subst hL;obtain⟨rt,o1,o2,o3⟩:=hO;obtain⟨rfl,rfl⟩|⟨aO,k,rfl,_⟩:=o3
  ·simp[h18,o1,MD,aky]
  simp[h18,o1,MD,aky,aO]
 have hk:=key _ rfl;by_cases hn:R=[]
 ·rw[if_pos hn]at hk;rw[hn];exact Zh hk (Wk.sl _ _)
 rw[if_neg hn]at hk;exact hk
open Go Go.Abs
structure It where
 id:Int
 ki:Int
 fr:Int
 sp:Int
 ra:Int
structure Cl where
 ki:Int
 it:Int
 fr:Int
 to:Int
 re:Int
 n:Int
 a:Int
 b:Int
structure En where
 id:Int
 it:Int
 fr:Int
 ea:Int
 la:Int
 bo:Int
 al:List Sp
structure Bk where
 id:Int
 it:Int
 re:Int
 fr:Int
 to:Int
 un:Int
 pr:Int
structure Pl where
 ch:Int
 nu:Int
 de:Int
 of:Int
 sh:List Sp
 ep:Int
 rg:Int
 ln:Int
 fi:Int
 aM:List It
 ens:List En
 bks:List Bk
 cls:List Cl
def Qj(x:It):P2:=[I x.id,I x.ki,I x.fr,I x.sp,I x.ra]
def Qg(x:Cl):P2:=[I x.ki,I x.it,I x.fr,I x.to,I x.re,I x.n,I x.a,I x.b]
def Qd(x:En):P2:=[I x.id,I x.it,I x.fr,I x.ea,I x.la,I x.bo,.sl .ro (x.al.map Qf)]
def Xl(x:Bk):P2:=[I x.id,I x.it,I x.re,I x.fr,I x.to,I x.un,I x.pr]
def Qa(p:Pl):P2:=[I p.ch,I p.nu,I p.de,I p.of,.sl .ro (p.sh.map Qf),I p.ep,I p.rg,I p.ln,I p.fi,.sl .ro (p.aM.map Qj),.sl .ro (p.ens.map Qd),.sl .ro (p.bks.map Xl),.sl .ro (p.cls.map Qg)]
def HR(l:List Sp)(s:Sp)(hl:l.length<=10000000):Pure Tryz.prog aD 39 [.sl .ro (l.map Qf),.agg [I s.1,I s.2]] (.bool (D0 [s] l).isEmpty):=by
 have h:=z8 [s] l zd hl;have h':=Xz (l:=[.sl .full [[I s.1,I s.2]],.sl .ro (l.map Qf)]) h ⟨Wk.sl _ _,Ps,trivial⟩;generalize D0 [s] l=R at h';refine Qp aj3 (fun _ f _=>if f=79 then .sl .ro (R.map Qf)else .junk) zd ?_;cases R with
 |nil=>simp[aj1,aj2];exact h'
 |cons a r=>
  have:¬(r.length:Int)+1=0:=zE
  simp[aj1,aj2,this];exact h'
def Xj(id:Int):List It->Option It
 |[]=>none
 |x::r=>if x.id=id then some x else Xj id r
def xC{id:Int}{x:It}:∀{l:List It},Xj id l=some x->x∈l/\x.id=id
 |[],h=>by cases h
 |y::r,h=>by
  simp only[Xj]at h;split at h
  ·rename_i hy;cases h;exact⟨zd,hy⟩
  obtain⟨h1,h2⟩:=xC h;exact⟨by simp[h1],h2⟩
def Zj:Option It->AV
 |some x=>.aS [.agg (Qj x),.bool true]
 |none=>.aS [.agg [I 0,I 0,I 0,I 0,I 0],.bool false]
def kQ(p:Pl)(id:Int)(hl:p.aM.length<=1000000000):Pure Tryz.prog aD 80 [.agg (Qa p),I id] (Zj (Xj id p.aM)):=by
 refine Qp akB (fun _ _ _=>.junk) zd ?_;simp[apm,Qa];refine Qi MF (fun f m=>∃(i:Nat)(bx:T5),f 11=I i/\i<=p.aM.length/\Xj id (p.aM.drop i)=Xj id p.aM/\m=⟨Qa p::[I 0,I 0,I 0,I 0,I 0]::bx,[],fun _=>.gone,0⟩) (fun f _=>p.aM.length-(numOf (f 11)).toNat) ?_ ?_
 ·exact⟨0,[],zd,zE,rfl,rfl⟩
 rintro f m ⟨i,bx,pG,hi,hf,rfl⟩;rcases zzaa i p.aM.length with ai|bq
 ·obtain⟨x,hx⟩:=aV ai;have ah:Qh (p.aM.map Qj) i=Qj x:=Qu (by simp[hx]);have aa:(i:Int)<(p.aM.length:Int):=zE
  have hw:=bP i zE;have hd:p.aM.drop i=x::p.aM.drop (i+1):=by rw[zzag ai,(zza.1 hx).2]
  rw[hd,Xj]at hf;by_cases aL:x.id=id
  ·rw[if_pos aL]at hf;simp[pG,ai,aa,ah,Qj,aL,MF,akA,<- hf,Zj]
  rw[if_neg aL]at hf;simp[pG,ai,aa,ah,Qj,aL,MF,hw];refine⟨aQ,⟨i+1,zd,zE,hf⟩,zE⟩
 rw[zzal bq]at hf;have bO:¬(i:Int)<(p.aM.length:Int):=zE
 simp[pG,zzbk.2 bq,bO,MF,akA,<- hf,Zj,Xj]
def yU:List (Int×Int×Int×Int):=[(24000,1001,24,0),(24,1,24,0),(25,1,25,0),(30000,1001,30,2),(30,1,30,0),(50,1,50,0),(60000,1001,60,4),(60,1,60,0)]
def Aa(nu de:Int):List (Int×Int×Int×Int)->Option (Int×Int×Int×Int)
 |[]=>none
 |x::r=>if x.1=nu/\x.2.1=de then some x else Aa nu de r
def Vd(nu de:Int):Bool:=(Aa nu de yU).isSome
def Ij:Option (Int×Int×Int×Int)->AV
 |some x=>.aS [.agg [I x.1,I x.2.1,I x.2.2.1,I x.2.2.2],.bool true]
 |none=>.aS [.agg [I 0,I 0,I 0,I 0],.bool false]
def R9:∀i:Nat,i<8->∃x,yU[i]?=some x/\(Hz.drop (i*4)).take 4=[I x.1,I x.2.1,I x.2.2.1,I x.2.2.2]/\yU.drop i=x::yU.drop (i+1)
 |0,_=>⟨_,rfl,rfl,rfl⟩
 |1,_=>⟨_,rfl,rfl,rfl⟩
 |2,_=>⟨_,rfl,rfl,rfl⟩
 |3,_=>⟨_,rfl,rfl,rfl⟩
 |4,_=>⟨_,rfl,rfl,rfl⟩
 |5,_=>⟨_,rfl,rfl,rfl⟩
 |6,_=>⟨_,rfl,rfl,rfl⟩
 |7,_=>⟨_,rfl,rfl,rfl⟩
 |n+8,h=>zE
def Ju{nu de:Int}(h:Vd nu de=true):24<=nu/\nu<=60000/\1<=de/\de<=1001/\de<nu:=by
 simp only[Vd,yU,Aa]at h;repeat' split at h
 all_goals first|(cases h;done)|omega
theorem aba:Hz.length=32:=rfl
def Sa(nu de:Int):Pure Tryz.prog aD 188 [.agg [I nu,I de]] (Ij (Aa nu de yU)):=by
 refine Qp ac0 (fun _ _ _=>.junk) zd ?_;have hg:aD 2=.ep Hz 0:=rfl;have mj:=aba;have bA:Hz.take 32=Hz:=rfl;simp[ahy,hg,mj,bA];refine Qi vq (fun f m=>∃(i:Nat)(bx:T5),f 7=I i/\i<=8/\Aa nu de (yU.drop i)=Aa nu de yU/\m=⟨[I nu,I de]::[I 0,I 0,I 0,I 0]::bx,[],fun _=>.gone,0⟩) (fun f _=>8-(numOf (f 7)).toNat) ?_ ?_
 ·exact⟨0,[],zd,zE,rfl,rfl⟩
 rintro f m ⟨i,bx,h7,hi,hf,rfl⟩;by_cases h8:i=8
 ·subst h8;have:Aa nu de (yU.drop 8)=none:=rfl;rw[this]at hf;simp[h7,vq,TY,<- hf,Ij]
 have ai:i<8:=zE
 obtain⟨x,hx,ah,hd⟩:=R9 i ai;have aa:(i:Int)<8:=zE
 have hw:=bP i zE;have xg:min 4 (32-i*4)=4:=zE
 rw[hd,Aa]at hf;by_cases hc:x.1=nu/\x.2.1=de
 ·rw[if_pos hc]at hf;simp[h7,ai,aa,mj,ah,xg,hc.1,hc.2,vq,TY,<- hf,Ij]
 rw[if_neg hc]at hf;by_cases fk:x.1=nu
 ·have Cs:¬x.2.1=de:=fun h=>hc ⟨fk,h⟩;simp[h7,ai,aa,mj,ah,xg,fk,Cs,vq,hw];refine⟨aQ,⟨i+1,zd,zE,hf⟩,zE⟩
 simp[h7,ai,aa,mj,ah,xg,fk,vq,hw];refine⟨aQ,⟨i+1,zd,zE,hf⟩,zE⟩
def Wx(nu de:Int):Pure Tryz.prog aD 132 [.agg [I nu,I de]] (.bool (Vd nu de)):=by
 have h:=Sa nu de;unfold Vd;refine Qp ach (fun _ _ _=>Ij (Aa nu de yU)) zd ?_;cases hf:Aa nu de yU with
 |none=>rw[hf]at h;simp only[Ij]at h;simp[TD,TE,Ij];exact h
 |some x=>rw[hf]at h;simp only[Ij]at h;simp[TD,TE,Ij];exact h
def Ik(f:Int):Pure Tryz.prog aD 190 [I f] (.bool (decide (0<=f/\f<=100000000))):=by
 refine Qp ac2 (fun _ _ _=>.junk) zd ?_;by_cases h1:0<=f<;>by_cases h2:f<=100000000<;>simp[ahB,ahC,h1,h2]
def th(f:Int):Pure Tryz.prog aD 38 [I f] (.bool (decide (0<=f/\f<=100000000))):=by
 refine Qp aj0 (fun _ _ _=>.junk) zd ?_;by_cases h1:0<=f<;>by_cases h2:f<=100000000<;>simp[aoU,aoV,h1,h2]
def Ym(nu de f:Int):Int:=if Vd nu de=true/\0<=f/\f<=100000000 then(f*de).tdiv nu else -1
def xk(nu de s:Int):Int:=if Vd nu de=true/\0<=s/\s<=10000000000 then(s*nu+de-1).tdiv de else -1
def Di{x y a b:Int}(h1:0<=x/\x<=a)(h2:0<=y/\y<=b):0<=x*y/\x*y<=a*b:=
 ⟨zzef h1.1 h2.1,Int.mul_le_mul h1.2 h2.2 h2.1 (zzhl h1.1 h1.2)⟩
def Dj{x y:Int}(h:0<=x)(hy:1<=y):0<=x.tdiv y/\x.tdiv y<=x:=by
 rw[zzcl h];exact⟨Int.ediv_nonneg h zE,Int.ediv_le_self _ h⟩
def QB(nu de f:Int):Pure Tryz.prog aD 134 [.agg [I nu,I de],I f] (I (Ym nu de f)):=by
 have h1:=Wx nu de;have h2:=Ik f;refine Qp acj (fun _ g _=>if g=132 then .bool (Vd nu de)else .bool (decide (0<=f/\f<=100000000))) zd ?_;cases hv:Vd nu de with
 |false=>rw[hv]at h1;simp[MS,MT,hv,Ym];exact h1
 |true=>
  rw[hv]at h1;by_cases hf:0<=f/\f<=100000000
  ·obtain⟨b1,b2,b3,b4,_⟩:=Ju hv;obtain⟨p1,p2⟩:=Di (x:=f) (y:=de) (a:=100000000) (b:=1001) ⟨hf.1,hf.2⟩ ⟨zE,zE⟩;have w1:IntKind.i64.wrap (f*de)=f*de:=by rw[Ql]<;>omega
   obtain⟨d1,d2⟩:=Dj (x:=f*de) (y:=nu) p1 zE;have w2:IntKind.i64.wrap ((f*de).tdiv nu)=(f*de).tdiv nu:=by rw[Ql]<;>omega
   have hnz:¬nu=0:=zE
   simp[hf]at h2;simp[MS,MT,hv,Ym,hf,w1,w2,hnz];exact⟨h1,h2⟩
  simp only[hf,decide_false]at h2;simp[MS,MT,hv,Ym,hf];exact⟨h1,h2⟩
def agn(a b:Int)(ha:0<=a/\a<=1000000000000000)(hb:1<=b/\b<=1001):Pure Tryz.prog aD 140 [I a,I b] (I ((a+b-1).tdiv b)):=by
 refine Qp acq (fun _ _ _=>.junk) zd ?_;have w1:IntKind.i64.wrap (a+b)=a+b:=by rw[Ql]<;>omega
 have w2:IntKind.i64.wrap (a+b-1)=a+b-1:=by rw[Ql]<;>omega
 obtain⟨d1,d2⟩:=Dj (x:=a+b-1) (y:=b) zE zE;have w3:IntKind.i64.wrap ((a+b-1).tdiv b)=(a+b-1).tdiv b:=by rw[Ql]<;>omega
 have hnz:¬b=0:=zE
 simp[agZ,ag0,w1,w2,w3,hnz]
def A5(nu de s:Int):Pure Tryz.prog aD 86 [.agg [I nu,I de],I s] (I (xk nu de s)):=by
 have h1:=Wx nu de;refine Qp akI (fun _ g _=>if g=132 then .bool (Vd nu de)else I (xk nu de s)) zd ?_;cases hv:Vd nu de with
 |false=>rw[hv]at h1;simp[Tg,Th,hv,xk];exact h1
 |true=>
  rw[hv]at h1;by_cases Nv:s<0
  ·have:¬(0<=s/\s<=10000000000):=zE
   simp[Tg,Th,hv,xk,Nv,this];exact h1
  by_cases hs1:10000000000<s
  ·have:¬(0<=s/\s<=10000000000):=zE
   simp[Tg,Th,hv,xk,Nv,hs1,this];exact h1
  have hs:0<=s/\s<=10000000000:=zE
  obtain⟨b1,b2,b3,b4,_⟩:=Ju hv;obtain⟨p1,p2⟩:=Di (x:=s) (y:=nu) (a:=10000000000) (b:=60000) ⟨hs.1,hs.2⟩ ⟨zE,zE⟩;have w1:IntKind.i64.wrap (s*nu)=s*nu:=by rw[Ql]<;>omega
  have h2:=agn (s*nu) de ⟨p1,zE⟩ ⟨zE,zE⟩;simp[Tg,Th,hv,xk,Nv,hs1,hs,w1];exact⟨h1,h2⟩
def gO(n:Int):Bool:=decide (-50400<=n/\n<=50400)
def yV(n:Int):Pure Tryz.prog aD 189 [I n] (.bool (gO n)):=by
 refine Qp ac1 (fun _ _ _=>.junk) zd ?_;by_cases h1: -50400<=n<;>by_cases h2:n<=50400<;>simp[ahz,ahA,gO,h1,h2]
def tP:Int->List Sp->Bool
 |_,[]=>true
 |last,s::r=>if s.1<=last\/10000000000<s.1\/gO s.2=false then false else tP s.1 r
def Yh(of:Int)(sh:List Sp):Bool:=decide (sh.length<=40)&&gO of&&tP (-1) sh
def jr(of:Int)(sh:List Sp)(hl:sh.length<=1000000000):Pure Tryz.prog aD 133 [.agg [I of,.sl .ro (sh.map Qf)]] (.bool (Yh of sh)):=by
 have h1:=yV of;refine Qp aci (fun d f a=>match a with|[.int _ n]=>.bool (gO n)|_=>.junk) zd ?_;by_cases h40:40<sh.length
 ·have ago:(40:Int)<(sh.length:Int):=zE
  have:Yh of sh=false:=by simp[Yh];intro h;omega
  simp[Es,vh,h40,ago,this]
 have ago:¬(40:Int)<(sh.length:Int):=zE
 cases ho:gO of with
 |false=>
  have:Yh of sh=false:=by simp[Yh,ho]
  rw[ho]at h1;simp[Es,vh,h40,ago,this,ho];exact h1
 |true=>
  have hv:Yh of sh=tP (-1) sh:=by simp[Yh,ho];intro _;omega
  rw[ho]at h1;simp[Es,h40,ago,ho];refine⟨h1,?_⟩;refine Qi qz (fun f m=>∃(i:Nat)(last:Int)(bx:T5),f 19=I i/\f 3=I last/\i<=sh.length/\tP last (sh.drop i)=tP (-1) sh/\m=⟨[I of,.sl .ro (sh.map Qf)]::bx,[],fun _=>.gone,0⟩) (fun f _=>sh.length-(numOf (f 19)).toNat) ?_ ?_
  ·exact⟨0,-1,[],zd,zd,zE,rfl,rfl⟩
  rintro f m ⟨i,last,bx,h19,h3,hi,ha,rfl⟩;rcases zzaa i sh.length with ai|bq
  ·obtain⟨s,hs⟩:=aV ai;have ah:=Zv hs;have aa:(i:Int)<(sh.length:Int):=zE
   have hw:=bP i zE;have hd:sh.drop i=s::sh.drop (i+1):=by rw[zzag ai,(zza.1 hs).2]
   rw[hd,tP]at ha;have hp:=yV s.2;by_cases c1:s.1<=last
   ·rw[if_pos (.inl c1)]at ha;simp[h19,h3,ai,aa,ah,c1,qz,vh,hv,<- ha]
   by_cases c2:10000000000<s.1
   ·rw[if_pos (.inr (.inl c2))]at ha;simp[h19,h3,ai,aa,ah,c1,c2,qz,vh,hv,<- ha]
   cases c3:gO s.2 with
   |false=>
    rw[if_pos (.inr (.inr c3))]at ha;rw[c3]at hp;simp[h19,h3,ai,aa,ah,c1,c2,c3,qz,vh,hv,<- ha];exact hp
   |true=>
    rw[if_neg (by rintro(h|h|h);exact c1 h;exact c2 h;rw[c3]at h;cases h)]at ha;rw[c3]at hp;simp[h19,h3,ai,aa,ah,c1,c2,c3,qz,hw];refine⟨hp,aQ,⟨i+1,zd,zE,ha⟩,zE⟩
  rw[zzal bq,tP]at ha;have bO:¬(i:Int)<(sh.length:Int):=zE
  simp[h19,zzbk.2 bq,bO,qz,vh,hv,<- ha]
def Kk(p:Pl):Bool:=Vd p.nu p.de&&Yh p.of p.sh&&decide (0<=p.ep/\p.ep<=9000000000)
def KR(p:Pl)(hl:p.sh.length<=1000000000):Pure Tryz.prog aD 81 [.agg (Qa p)] (.bool (Kk p)):=by
 have h1:=Wx p.nu p.de;have h2:=jr p.of p.sh hl;refine Qp akC (fun _ g _=>if g=132 then .bool (Vd p.nu p.de)else .bool (Yh p.of p.sh)) zd ?_;cases hv:Vd p.nu p.de with
 |false=>rw[hv]at h1;simp[abM,abN,Qa,Kk,hv];exact h1
 |true=>
  rw[hv]at h1;cases hz:Yh p.of p.sh with
  |false=>rw[hz]at h2;simp[abM,abN,Qa,Kk,hv,hz];exact⟨h1,h2⟩
  |true=>
   rw[hz]at h2;by_cases c1:0<=p.ep<;>by_cases c2:p.ep<=9000000000<;>simp[abM,abN,Qa,Kk,hv,hz,c1,c2]<;>exact⟨h1,h2⟩
open Go Go.Abs
instance:DecidableEq Cl:=fun x y=>decidable_of_iff (x.ki=y.ki/\x.it=y.it/\x.fr=y.fr/\x.to=y.to/\x.re=y.re/\x.n=y.n/\x.a=y.a/\x.b=y.b) (by cases x;cases y;simp)
def wi(n lo hi:Int):Bool:=decide (lo<=n/\n<=hi)
def Vn(n lo hi:Int):Pure Tryz.prog aD 98 [I n,I lo,I hi] (.bool (wi n lo hi)):=by
 refine Qp Tr (fun _ _ _=>.junk) zd ?_;by_cases h1:lo<=n<;>by_cases h2:n<=hi<;>simp[akZ,ak0,wi,h1,h2]
def gT(c:Cl):Cl:=
 if c.ki=1\/c.ki=2 then⟨c.ki,c.it,c.fr,c.to,c.re,0,0,0⟩else if c.ki=3\/c.ki=4 then⟨c.ki,c.it,0,0,c.re,c.n,0,0⟩else
 if c.ki=5 then⟨c.ki,0,0,0,0,c.n,c.a,c.b⟩else if c.ki=6 then⟨c.ki,0,c.fr,c.to,0,0,c.a,0⟩else⟨0,0,0,0,0,0,0,0⟩
def Sb(c:Cl):Pure Tryz.prog aD 96 [.agg (Qg c)] (.agg (Qg (gT c))):=by
 refine Qp Tp (fun _ _ _=>.junk) zd ?_;by_cases h1:c.ki=1
 ·simp[BP,BQ,Qg,gT,h1]
 by_cases h2:c.ki=2
 ·simp[BP,BQ,Qg,gT,h2]
 by_cases h3:c.ki=3
 ·simp[BP,BQ,Qg,gT,h3]
 by_cases h4:c.ki=4
 ·simp[BP,BQ,Qg,gT,h4]
 by_cases h5:c.ki=5
 ·simp[BP,BQ,Qg,gT,h5]
 by_cases h6:c.ki=6
 ·simp[BP,BQ,Qg,gT,h6]
 simp[BP,BQ,Qg,gT,h1,h2,h3,h4,h5,h6]
def Ja(c:Cl):Bool:=wi c.it 1 4611686018427387903&&wi c.re 1 255
def yW:UV:=fun _ _ l=>match l with
 |[.int _ n,.int _ lo,.int _ hi]=>.bool (wi n lo hi)
 |_=>.junk
def Il(c:Cl):Pure Tryz.prog aD 97 [.agg (Qg c)] (.bool (Ja c)):=by
 have h1:=Vn c.it 1 4611686018427387903;have h2:=Vn c.re 1 255;refine Qp Tq yW zd ?_;cases e1:wi c.it 1 4611686018427387903 with
 |false=>rw[e1]at h1;simp[abO,abP,Qg,yW,Ja,e1];exact h1
 |true=>rw[e1]at h1;simp[abO,abP,Qg,yW,Ja,e1];exact⟨h1,h2⟩
def Ku(n:Int):Bool:=wi n 0 86340&&decide (n.tmod 60=0)
def tu(n:Int):Pure Tryz.prog aD 99 [I n] (.bool (Ku n)):=by
 have h1:=Vn n 0 86340;refine Qp Ts yW zd ?_;cases e1:wi n 0 86340 with
 |false=>rw[e1]at h1;simp[abQ,abR,yW,Ku,e1];exact h1
 |true=>
  rw[e1]at h1;by_cases e2:n.tmod 60=0<;>simp[abQ,abR,yW,Ku,e1,e2]<;>exact h1
def Gq(c:Cl):Bool:=
 if c.ki=1\/c.ki=2 then Ja c&&(decide (0<=c.fr)&&(decide (c.fr<c.to)&&decide (c.to<=10000000000)))else if c.ki=3 then Ja c&&wi c.n 0 1000 else
 if c.ki=4 then Ja c&&wi c.n 0 10000000000 else if c.ki=5 then wi c.a 1 200&&(wi c.b 1 200&&(decide (c.a≠c.b)&&wi c.n 0 86400))else
 if c.ki=6 then wi c.a 1 3&&(Ku c.fr&&(Ku c.to&&decide (c.fr≠c.to)))else false
def Zc(c:Cl):Bool:=decide (gT c=c)&&Gq c
def ayO(c u:Cl):eqFs [I c.ki,I c.it,I c.fr,I c.to,I c.re,I c.n,I c.a,I c.b] [I u.ki,I u.it,I u.fr,I u.to,I u.re,I u.n,I u.a,I u.b]=decide (u=c):=by
 obtain⟨a1,a2,a3,a4,a5,a6,a7,a8⟩:=c;obtain⟨b1,b2,b3,b4,b5,b6,b7,b8⟩:=u;simp only[eqFs,eqF,Cl.mk.injEq,zzgg];by_cases h:(b1=a1/\b2=a2/\b3=a3/\b4=a4/\b5=a5/\b6=a6/\b7=a7/\b8=a8)
 ·obtain⟨rfl,rfl,rfl,rfl,rfl,rfl,rfl,rfl⟩:=h;simp
 rw[decide_eq_false h];apply Bool.eq_false_iff.2;intro hh;simp only[zzac,beq_iff_eq]at hh;obtain⟨e1,e2,e3,e4,e5,e6,e7,e8⟩:=hh;exact h ⟨e1.symm,e2.symm,e3.symm,e4.symm,e5.symm,e6.symm,e7.symm,e8.symm⟩
def anW(c:Cl):UV:=fun _ f l=>
 if f=96 then .agg (Qg (gT c))else if f=97 then .bool (Ja c)else if f=98 then(match l with
 |[.int _ n,.int _ lo,.int _ hi]=>.bool (wi n lo hi)
 |_=>.junk)else match l with
 |[.int _ n]=>.bool (Ku n)
 |_=>.junk
def Wi(c:Cl):Pure Tryz.prog aD 48 [.agg (Qg c)] (.bool (Zc c)):=by
 have h0:=Sb c;have hE:=ayO c (gT c);have hi:=Il c;refine Qp S2 (anW c) zd ?_;by_cases hu:gT c=c
 ·rw[hu]at h0 hE;simp only[decide_true]at hE;have hv:Zc c=Gq c:=by simp[Zc,hu]
  rw[hv];simp[-eqFs,abD,Qg,anW,hu,hE];refine⟨h0,?_⟩;by_cases h1:c.ki=1\/c.ki=2
  ·have hk:Gq c=(Ja c&&(decide (0<=c.fr)&&(decide (c.fr<c.to)&&decide (c.to<=10000000000)))):=by unfold Gq;rw[if_pos h1]
   rw[hk];clear hk hv;cases e1:Ja c with
   |false=>rw[e1]at hi;rcases h1 with h1|h1<;>(simp[fT,h1,e1];simpa[Qg,h1]using hi)
   |true=>
    rw[e1]at hi;by_cases e2:0<=c.fr<;>by_cases e3:c.fr<c.to<;>by_cases e4:c.to<=10000000000<;>rcases h1 with h1|h1<;>(simp[fT,h1,e1,e2,e3,e4];simpa[Qg,h1]using hi)
  have pG:¬c.ki=1:=fun h=>h1 (.inl h);have qw:¬c.ki=2:=fun h=>h1 (.inr h);by_cases h3:c.ki=3
  ·have hk:Gq c=(Ja c&&wi c.n 0 1000):=by unfold Gq;rw[if_neg h1,if_pos h3]
   rw[hk];clear hk hv;have hw:=Vn c.n 0 1000;cases e1:Ja c with
   |false=>rw[e1]at hi;simp[fT,h3,e1];simpa[Qg,h3]using hi
   |true=>rw[e1]at hi;simp[fT,h3,e1];exact⟨by simpa[Qg,h3]using hi,hw⟩
  by_cases h4:c.ki=4
  ·have hk:Gq c=(Ja c&&wi c.n 0 10000000000):=by unfold Gq;rw[if_neg h1,if_neg h3,if_pos h4]
   rw[hk];clear hk hv;have hw:=Vn c.n 0 10000000000;cases e1:Ja c with
   |false=>rw[e1]at hi;simp[fT,h4,e1];simpa[Qg,h4]using hi
   |true=>rw[e1]at hi;simp[fT,h4,e1];exact⟨by simpa[Qg,h4]using hi,hw⟩
  by_cases h5:c.ki=5
  ·have hk:Gq c=(wi c.a 1 200&&(wi c.b 1 200&&(decide (c.a≠c.b)&&wi c.n 0 86400))):=by unfold Gq;rw[if_neg h1,if_neg h3,if_neg h4,if_pos h5]
   rw[hk];clear hk hv hi;have w1:=Vn c.a 1 200;have w2:=Vn c.b 1 200;have w3:=Vn c.n 0 86400;cases e1:wi c.a 1 200 with
   |false=>rw[e1]at w1;simp[fT,h5,e1];exact w1
   |true=>
    rw[e1]at w1;cases e2:wi c.b 1 200 with
    |false=>rw[e2]at w2;simp[fT,h5,e1,e2];exact⟨w1,w2⟩
    |true=>
     rw[e2]at w2;by_cases e3:c.a=c.b
     ·simp[fT,h5,e1,e2,e3];exact w2
     simp[fT,h5,e1,e2,e3];exact⟨w1,w2,w3⟩
  by_cases h6:c.ki=6
  ·have hk:Gq c=(wi c.a 1 3&&(Ku c.fr&&(Ku c.to&&decide (c.fr≠c.to)))):=by unfold Gq;rw[if_neg h1,if_neg h3,if_neg h4,if_neg h5,if_pos h6]
   rw[hk];clear hk hv hi;have w1:=Vn c.a 1 3;have w2:=tu c.fr;have w3:=tu c.to;cases e1:wi c.a 1 3 with
   |false=>rw[e1]at w1;simp[fT,h6,e1];exact w1
   |true=>
    rw[e1]at w1;cases e2:Ku c.fr with
    |false=>rw[e2]at w2;simp[fT,h6,e1,e2];exact⟨w1,w2⟩
    |true=>
     rw[e2]at w2;cases e4:Ku c.to with
     |false=>rw[e4]at w3;simp[fT,h6,e1,e2,e4];exact⟨w1,w2,w3⟩
     |true=>
      rw[e4]at w3;by_cases e3:c.fr=c.to
      ·simp[fT,h6,e1,e2,e4,e3];exact⟨w1,w3⟩
      simp[fT,h6,e1,e2,e4,e3];exact⟨w1,w2,w3⟩
  have hk:Gq c=false:=by unfold Gq;rw[if_neg h1,if_neg h3,if_neg h4,if_neg h5,if_neg h6]
  rw[hk];simp[fT,pG,qw,h3,h4,h5,h6]
 simp only[hu,decide_false]at hE;have hv:Zc c=false:=by simp[Zc,hu]
 rw[hv];simp[-eqFs,abD,fT,Qg,anW,hE];exact h0
def auF(a:Int):IntKind.i64.wrap ((BitVec.ofInt 64 a&&& 1#64).toNat:Int)=a%2:=by
 have h:(BitVec.ofInt 64 a&&& 1#64).toNat=(BitVec.ofInt 64 a).toNat%2:=by
  rw[BitVec.toNat_and];exact Nat.and_one_is_mod _
 rw[h,BitVec.toNat_ofInt,Ql]<;>omega
def anX(c:Cl)(region:Int):Bool:=decide (c.re.fdiv (2 ^ (min region.toNat 64))%2=1)
def gN(c:Cl)(item region:Int):Bool:=wi region 0 7&&(decide (c.it=item)&&anX c region)
def mB(c:Cl)(item region:Int):Pure Tryz.prog aD 191 [.agg (Qg c),I item,I region] (.bool (gN c item region)):=by
 have h1:=Vn region 0 7;refine Qp ac3 yW zd ?_;cases e1:wi region 0 7 with
 |false=>rw[e1]at h1;simp[EB,EC,Qg,yW,gN,e1];exact h1
 |true=>
  have hr:0<=region:=by simp[wi]at e1;omega
  rw[e1]at h1;by_cases e2:c.it=item
  ·by_cases e3:c.re.fdiv (2 ^ (min region.toNat 64))%2=1
   ·simp[EB,EC,Qg,yW,gN,e1,e2,e3,hr,anX,IntKind.bits];exact⟨h1,(auF _).trans e3⟩
   simp[EB,EC,Qg,yW,gN,e1,e2,e3,hr,anX,IntKind.bits];exact⟨h1,fun h=>e3 ((auF _).symm.trans h)⟩
  simp[EB,EC,Qg,yW,gN,e1,e2];exact h1
def HZ(bX:Int)(c:Cl):Bool:=decide (c.ki=6)&&(decide (c.a<=bX)&&Zc c)
def uD(cs:List Cl)(bX:Int):List Sp:=(cs.filter (HZ bX)).map fun c=>(c.fr,c.to)
def tQ(cs:List Cl)(bX:Int)(hl:cs.length<=100000000):Pure Tryz.prog aD 137 [.sl .ro (cs.map Qg),I bX] (.sl .ro ((uD cs bX).map Qf)):=by
 have key:∀r,r=(if uD cs bX=[]then AV.sl .nil []else .sl .ro ((uD cs bX).map Qf))->Pure Tryz.prog aD 137 [.sl .ro (cs.map Qg),I bX] r:=by
  rintro r rfl
  refine Qp acn (fun d f l=>if f=999999 then .junk else match l with
   |[.agg [.int _ a,.int _ b,.int _ c,.int _ d,.int _ e,.int _ f,.int _ g,.int _ h]]=>.bool (Zc ⟨a,b,c,d,e,f,g,h⟩)
   |_=>.junk) zd ?_
  simp[TG]
  refine Qi iI (fun f m=>∃(i:Nat)(bx:T5)(rt:Rt)(L':Pa)(o:List Sp),i<=cs.length/\f 10=I i/\f 5=.sl rt (o.map Qf)/\m=⟨bx,L',fun _=>.gone,0⟩/\o.length<=i/\o++uD (cs.drop i) bX=uD cs bX/\
   ((o=[]/\rt=.nil/\L'=[])\/(o≠[]/\rt=.own 0 2/\L'=[o.length]))) (fun f _=>cs.length-(numOf (f 10)).toNat) ?_ ?_
  ·exact⟨0,[],.nil,[],[],zE,zd,zd,rfl,zd,zd,.inl ⟨rfl,rfl,rfl⟩⟩
  rintro f m ⟨i,bx,rt,L',o,hi,jq,h5,rfl,zF,ho,aX⟩;rcases zzaa i cs.length with ai|bq
  ·obtain⟨c,hc⟩:=aV ai;have ah:Qh (cs.map Qg) i=Qg c:=Qu (by simp[hc]);have aa:(i:Int)<(cs.length:Int):=zE
   have hw:=bP i zE;have hd:cs.drop i=c::cs.drop (i+1):=by rw[zzag ai,(zza.1 hc).2]
   have XQ:=Wi c;rw[hd]at ho
   have oM:∀row∈o.map Qf,row.length=2:=by
    intro row h;rw[zzar]at h;obtain⟨a,_,rfl⟩:=h;rfl
   have skip:HZ bX c=false->o++uD (cs.drop (i+1)) bX=uD cs bX:=by
    intro hb;rw[<- ho];simp[uD,hb]
   have take:HZ bX c=true->(o++[(c.fr,c.to)])++uD (cs.drop (i+1)) bX=uD cs bX:=by
    intro hb;rw[<- ho];simp[uD,hb]
   by_cases c1:c.ki=6
   ·have hc6:(⟨6,c.it,c.fr,c.to,c.re,c.n,c.a,c.b⟩:Cl)=c:=by cases c;simp at c1;subst c1;rfl
    have nL:Pure Tryz.prog aD 48 [.agg [I 6,I c.it,I c.fr,I c.to,I c.re,I c.n,I c.a,I c.b]] (.bool (Zc c)):=by simpa[Qg,c1]using XQ
    by_cases c2:c.a<=bX
    ·cases c3:Zc c with
     |true=>
      have ht:=take (by simp[HZ,c1,c2,c3]);rw[c3]at nL;obtain⟨rfl,rfl,rfl⟩|⟨aO,rfl,rfl⟩:=aX
      ·simp[jq,h5,ai,aa,ah,Qg,c1,c2,hc6,c3,iI,hw];refine⟨nL,aQ,⟨i+1,zE,zd,_,.own 0 2,[1],[(c.fr,c.to)],⟨rfl,rfl⟩,⟨rfl,rfl⟩,zd,ht,zd⟩,zE⟩
      simp[jq,h5,ai,aa,ah,Qg,c1,c2,hc6,c3,iI,hw];refine⟨nL,⟨?_,zE⟩,aQ,⟨i+1,zE,zd,_,.own 0 2,[o.length+1],o++[(c.fr,c.to)],⟨rfl,by simp[Qf]⟩,⟨rfl,rfl⟩,by simp;omega,ht,zd⟩,zE⟩
      ·rintro row (⟨a,b,_,rfl⟩|rfl)<;>rfl
     |false=>
      have hs:=skip (by simp[HZ,c3]);rw[c3]at nL;simp[jq,h5,ai,aa,ah,Qg,c1,c2,hc6,c3,iI,hw];refine⟨nL,aQ,⟨i+1,zE,zd,_,rt,L',o,⟨rfl,rfl⟩,⟨rfl,rfl⟩,zE,hs,aX⟩,zE⟩
    have hs:=skip (by simp[HZ,c2]);simp[jq,h5,ai,aa,ah,Qg,c1,c2,iI,hw];refine⟨aQ,⟨i+1,zE,zd,_,rt,L',o,⟨rfl,rfl⟩,⟨rfl,rfl⟩,zE,hs,aX⟩,zE⟩
   have hs:=skip (by simp[HZ,c1]);simp[jq,h5,ai,aa,ah,Qg,c1,iI,hw];refine⟨aQ,⟨i+1,zE,zd,_,rt,L',o,⟨rfl,rfl⟩,⟨rfl,rfl⟩,zE,hs,aX⟩,zE⟩
  obtain rfl:i=cs.length:=zE
  have he:uD cs bX=o:=by rw[<- ho];simp[uD]
  rw[he];obtain⟨rfl,rfl,rfl⟩|⟨aO,rfl,rfl⟩:=aX
  ·simp[jq,h5,iI,TH]
  simp[jq,h5,iI,TH,aO]
 have hk:=key _ rfl;by_cases hn:uD cs bX=[]
 ·rw[if_pos hn]at hk;rw[hn];exact Zh hk (Wk.sl _ _)
 rw[if_neg hn]at hk;exact hk
