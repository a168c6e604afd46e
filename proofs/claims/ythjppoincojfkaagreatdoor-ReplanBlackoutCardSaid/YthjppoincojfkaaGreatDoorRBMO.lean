import Derived.Test.YthjppoincojfkaaGreatDoorRBSpL
set_option linter.all false
set_option maxRecDepth 100000
set_option maxHeartbeats 64000000
namespace Go.Proofs.YthjppoincojfkaaGreatDoor
open Go Go.Abs
def F5(Y:YT)(rt:Rt)(aX:∀m,bz m 6 (.sl rt [])=.sl rt [])(m:AM)(K:So)(hK:K (.sl rt []) m):aB Tryz.prog aD Y 184 [.sl rt [],.fn 185 [] []] m K:=by
 have h:=Xw (l:=[.sl rt [],.fn 185 [] []]) (pI [] zd) ⟨Wk.sl rt [],Ps,trivial⟩;simp only[pJ]at h;refine Xn MW (nM (-1)) zd ?_;simp[Er,MV,nM,aX];exact⟨h,hK⟩
def F6:UV:=fun d f _=>if f=999999 then(if d=12 then .aJ 0 []else if d=70 then .aJ 0 []else .junk)else .gd false .junk
def qZ(a b:Int):(if a<b then b else a)=max a b:=by split<;>omega
def asG(B:T5)(id:Nat)(out:List Sp)(a:AV):Prop:=
 (out=[]/\a=.sl .nil [])\/∃gK,out≠[]/\a=.bs gK 0 out.length 2/\gK≠id/\gK<B.length/\Qj B gK=cF out
def KM{out:List Sp}(h:out≠[]):∃p u,out=p++[u]:=⟨out.dropLast,out.getLast h,(zzew h).symm⟩
def C8(l:List Sp)(hl:l.length<=100000000):Pure Tryz.prog aD 131 [.sl .ro (l.map Qf)] (if Xm l=[]then .sl .nil []else .sl .ro ((Xm l).map Qf)):=by
 refine Qp abZ F6 zd ?_;by_cases aN:l=[]
 ·subst aN;have hn:Xm []=[]:=by simp[Xm,F7]
  simp[MF,F6,hn];refine Qk vg (fun f m=>f 15=I 0/\f 3=.sl .full []/\m=⟨[[]],[],fun _=>.gone,0⟩) (fun _ _=>0) ?_ ?_
  ·simp
  rintro f m ⟨sH,h3,rfl⟩;simp[sH,h3,vg];refine F5 _ _ (fun _=>rfl) _ _ ?_;refine F8 _ _ _ _ ?_;simp;refine Qk iM (fun f m=>f 31=I 0/\f 6=.sl .nil []/\m=⟨[[]],[],fun _=>.gone,0⟩) (fun _ _=>0) ?_ ?_
  ·simp
  rintro f m ⟨h31,h6,rfl⟩;simp[h31,h6,iM,MG]
 have ayA:l.length≠0:=by simpa using aN
 have lF:0<l.length:=zE
 simp[MF,F6,aN];refine⟨⟨zE,zE⟩,?_⟩
 refine Qk vg (fun f m=>∃(i id:Nat)(B:T5),i<=l.length/\f 15=I i/\f 3=.bs id 0 i 2/\m=⟨B,[],fun _=>.gone,0⟩/\id<B.length/\Qj B id≠[]/\i*2<=(Qj B id).length/\(Qj B id).take (i*2)=cF (l.take i)/\(0<i->Qj B id=cF (l.take i)))
  (fun f _=>l.length-(numOf (f 15)).toNat) ?_ ?_
 ·exact⟨0,0,[List.replicate (l.length*2) .junk],zE,zd,zd,rfl,zd,by simp;omega,zd,zd,zd⟩
 rintro f m ⟨i,id,B,hi,sH,h3,rfl,aL,Ay,cm,bA,D1⟩;rcases zzaa i l.length with ai|bn
 ·obtain⟨s,hs⟩:=aV ai;have ah:=Zv hs;have aa:(i:Int)<(l.length:Int):=zE
  have hw:=bO i zE;have gY:∀x,Qj (B++x) id=Qj B id:=fun x=>Qn aL;have lM:∀x v,(B++x).set id v=B.set id v++x:=fun x v=>Yk v aL;have fB:cF (l.take (i+1))=cF (l.take i)++[I s.1,I s.2]:=by rw[zzax,hs,Qcj];rfl
  simp[sH,h3,aa,ai,ah,vg,hw,gY,lM,Ay,cm,bA,F6];refine⟨⟨zE,zE⟩,aQ,⟨i+1,zE,zd,?_⟩,zE⟩
  ·refine⟨B.length+1,⟨rfl,rfl⟩,zE,?_⟩
   have e:Qj (B.set id []++[[AV.int IntKind.i64 s.fst,AV.int IntKind.i64 s.snd],cF (List.take i l)++[AV.int IntKind.i64 s.fst,AV.int IntKind.i64 s.snd]]) (B.length+1)=cF (l.take (i+1)):=by
    have:=Vn (B.set id []) [[AV.int IntKind.i64 s.fst,AV.int IntKind.i64 s.snd],cF (List.take i l)++[AV.int IntKind.i64 s.fst,AV.int IntKind.i64 s.snd]] 1;rw[zzcg]at this;rw[this,fB];rfl
   rw[e];have e2:(cF (l.take (i+1))).length=(i+1)*2:=by rw[Ye,zzap];congr 1;omega
   refine⟨?_,zE,?_,fun _=>rfl⟩
   ·intro h;rw[h]at e2;simp at e2
   rw[<- e2,zzbw]
 obtain rfl:i=l.length:=zE
 have hB:=D1 lF;rw[zzbw]at hB;have bP:¬((l.length:Nat):Int)<(l.length:Int):=zE
 simp[sH,h3,vg,F6];refine KN _ l zE B _ _ _ id aL aN hB _ ?_;intro B1 z nB hB1 hz;have al4:id<B1.length:=zzay aL nB.1;rw[Qcj]at hB1;have V5:B1[id]?=some (cF (l.filter mz)++cF z):=by rw[Jh al4,hB1]
 refine KO _ (l.filter mz) zE _ id (cF z) V5 ?_ _ ?_
 ·intro h;have:=congrArg List.length h;rw[zzak,Ye,Ye]at this;simp at this;omega
 intro d hp hs;have alz:=al5 hp hs;have hdl:d.length=(l.filter mz).length:=hp.length_eq;rw[<- hdl];have ayB:d.length<=100000000:=zE
 simp[AM.wr]
 refine Qk iM (fun f m=>∃(i:Nat)(B:T5)(out:List Sp),i<=d.length/\f 31=I i/\m=⟨B,[],fun _=>.gone,0⟩/\out.length<=i/\id<B.length/\Qj B id=cF d++cF z/\F7 out (d.drop i)=Xm l/\asG B id out (f 6))
  (fun f _=>d.length-(numOf (f 31)).toNat) ?_ ?_
 ·exact⟨0,B1.set id (cF d++cF z),[],zE,zd,rfl,zd,Nm al4,Yg _ al4,Nm alz,.inl ⟨rfl,zd⟩⟩
 rintro f m ⟨i,B,out,hi,h31,rfl,FI,aL,hB,hm,hout⟩;rcases zzaa i d.length with ai|bn
 ·obtain⟨v,hv⟩:=aV ai;have aa:(i:Int)<(d.length:Int):=zE
  have hw:=bO i zE
  have hg:(cF d++cF z).drop (i*2)=I v.1::I v.2::(cF (d.drop (i+1))++cF z):=by
   rw[zzdu (by rw[Ye];omega),uB hv];rfl
  have fk:d.drop i=v::d.drop (i+1):=by
   rw[zzah ai,(zza.1 hv).2]
  rw[fk,F7]at hm;have gY:∀x,Qj (B++x) id=cF d++cF z:=fun x=>by rw[Qn aL,hB]
  obtain⟨rfl,h6⟩|⟨gK,hon,h6,zn,fL,A2⟩:=hout
  ·simp[h31,h6,aa,ai,hB,gY,hg,iM,hw,F6];refine⟨aQ,⟨i+1,zE,zd,?_⟩,zE⟩
   ·refine⟨[v],zd,zE,by simpa[QG]using hm,.inr ⟨B.length+1,zd,zd,zE,zd,zd⟩⟩
  obtain⟨p,u,rfl⟩:=KM hon;have asH:p.length+1<=i:=by simpa using FI
  have lE:(cF (p++[u])).drop (p.length*2+1)=[I u.2]:=by
   have:=FA (l:=p++[u]) (i:=p.length) (s:=u) zd;simpa using this
  have bR:=wP (p++[u]) p.length u (max u.2 v.2) zd;have asI:(p++[u]).set p.length (u.1,max u.2 v.2)=p++[(u.1,max u.2 v.2)]:=zd
  rw[asI]at bR;have hwp:IntKind.i64.wrap (p.length:Int)=(p.length:Int):=by rw[Ql]<;>omega
  have uk:(0:Int)<(p.length:Int)+1:=zE
  have asJ:∀x,Qj (B++x) gK=cF (p++[u]):=fun x=>by rw[Qn fL,A2]
  have lM:∀x v,(B++x).set gK v=B.set gK v++x:=fun x v=>Yk v fL;have fB:=Ye (p++[u]);simp only[zzak,zzbg,zzcn,zzbs]at fB h6;have axl:QG (p++[u]) v=if v.1<=u.2 then p++[(u.1,max u.2 v.2)]else p++[u]++[v]:=by simp[QG]
  rw[axl]at hm;by_cases hc:v.1<=u.2
  ·rw[if_pos hc]at hm;simp[h31,h6,aa,ai,hB,gY,asJ,lM,hg,lE,iM,hw,hwp,uk,hc,qZ,bR,fB,F6];refine⟨zE,⟨zE,zE⟩,aQ,⟨i+1,zE,zd,?_⟩,zE⟩
   ·refine⟨p++[(u.1,max u.2 v.2)],by simp;omega,zE,by rw[Qn (Nm aL),Vz _ zn,hB],hm,.inr ⟨gK,zd,zd,zn,by simp;omega,by rw[Qn (Nm fL),Yg _ fL]⟩⟩
  rw[if_neg hc]at hm;simp[h31,h6,aa,ai,hB,gY,asJ,lM,hg,lE,iM,hw,hwp,uk,hc,fB,F6];refine⟨zE,⟨⟨zE,by simp[Qcj]⟩,zE⟩,aQ,⟨i+1,zE,zd,?_⟩,zE⟩
  ·have bA:(cF (p++[u])).take ((p.length+1)*2)=cF (p++[u]):=zzas (by rw[fB];exact zzab _);rw[bA];refine⟨p++[u]++[v],by simp;omega,zE,by rw[Qn (Nm aL),Vz _ zn,hB],hm,.inr ⟨B.length+1,zd,zd,zE,zd,?_⟩⟩;have:=Vn (B.set gK []) [[I v.1,I v.2],cF (p++[u])++[AV.int IntKind.i64 v.fst,AV.int IntKind.i64 v.snd]] 1;rw[zzcg]at this;rw[this,Qcj (p++[u]) [v]];rfl
 obtain rfl:i=d.length:=zE
 rw[zzbx,F7]at hm;obtain⟨rfl,h6⟩|⟨gK,hon,h6,zn,fL,A2⟩:=hout
 ·simp[h31,h6,iM,MG,<- hm]
 have gE:=Va ⟨B,[],fun _=>.gone,0⟩ 4 (CW out);have ic:=Qeh out;have fB:=Ye out;simp[h31,h6,iM,MG,<- hm,hon,A2,gE,ic,fB]
def Un(l:List Sp)(hl:l.length<=100000000):Pure Tryz.prog aD 131 [.sl .ro (l.map Qf)] (.sl .ro ((Xm l).map Qf)):=by
 have h:=C8 l hl;by_cases hn:Xm l=[]
 ·rw[if_pos hn]at h;rw[hn];exact Zk h (Wk.sl _ _)
 rw[if_neg hn]at h;exact h
open Go Go.Abs
def KP(a b:Int):(if b<a then b else a)=min a b:=by split<;>omega
def Ba(s:Sp):P2:=[.agg [I s.1,I s.2]]
def XW(A B:List Sp)(hA:A.length<=100000000)(hB:B.length<=100000000):
  Iter Tryz.prog aD 200 [] [.ep [.sl .ro (A.map Qf)] 0,.ep [.sl .ro (B.map Qf)] 0] ((tX (A.length+B.length) A B).map Ba):=by
 intro Y l m K hF;refine Xn acY (fun _ _ _=>.junk) zd ?_;simp[TW]
 refine Qk qw (fun f mm=>∃(i j:Nat),i<=A.length/\j<=B.length/\f 4=I i/\f 5=I j/\wI (Y l) K ((tX (A.length-i+(B.length-j)) (A.drop i) (B.drop j)).map Ba) mm)
  (fun f _=>A.length-(numOf (f 4)).toNat+(B.length-(numOf (f 5)).toNat)) ?_ ?_
 ·exact⟨0,0,zE,zE,zd,zd,Nm hF⟩
 rintro f mm ⟨i,j,hi,hj,h4,h5,hF⟩;by_cases Wg:i=A.length\/j=B.length
 ·have hnil:tX (A.length-i+(B.length-j)) (A.drop i) (B.drop j)=[]:=by
   obtain rfl|rfl:=Wg
   ·rw[zzbx];cases A.length-A.length+(B.length-j)<;>rfl
   rw[zzbx];cases A.length-i+(B.length-B.length)with
   |zero=>rfl
   |succ n=>cases A.drop i<;>rfl
  rw[hnil]at hF;have hK:K mm:=hF mm (fD.refl _);by_cases h1:i<A.length
  ·have NV:¬(j:Int)<(B.length:Int):=zE
   have aa:(i:Int)<(A.length:Int):=zE
   simp[h4,h5,h1,aa,NV,qw,M1];exact hK
  have bP:¬(i:Int)<(A.length:Int):=zE
  simp[h4,h5,h1,bP,qw,M1];exact hK
 have h1:i<A.length:=zE
 have h2:j<B.length:=zE
 obtain⟨s,hs⟩:=aV h1;obtain⟨t,ht⟩:=aV h2;have zI:=Zv hs;have aX:=Zv ht;have hda:A.drop i=s::A.drop (i+1):=by rw[zzah h1,(zza.1 hs).2]
 have hdb:B.drop j=t::B.drop (j+1):=by rw[zzah h2,(zza.1 ht).2]
 have hn:A.length-i+(B.length-j)=(A.length-i+(B.length-j)-1)+1:=zE
 have qB:A.length-i+(B.length-j)-1=A.length-(i+1)+(B.length-j):=zE
 have zn:A.length-i+(B.length-j)-1=A.length-i+(B.length-(j+1)):=zE
 have aa:(i:Int)<(A.length:Int):=zE
 have eF:(j:Int)<(B.length:Int):=zE
 have XO:=bO i zE;have rf:=bO j zE;rw[hda,hdb,hn,tX,<- hda,<- hdb]at hF;by_cases hc:max s.1 t.1<min s.2 t.2
 ·rw[if_pos hc]at hF;simp only[zze,zzaz]at hF;simp[h4,h5,h1,h2,aa,eF,zI,aX,qw,qZ,KP,hc];refine hF _ (fD.box mm _) _ (fun m2 AW=>?_) (fun m2 hK=>?_)
  ·by_cases hd:s.2<t.2
   ·rw[if_pos hd,qB]at AW;have zo:¬t.2<=s.2:=zE
    simp[h1,h2,aa,eF,zI,aX,hd,zo,XO];refine⟨aQ,⟨i+1,zE,j,zE,zd,rfl,AW⟩,zE⟩
   rw[if_neg hd,zn]at AW;have zo:t.2<=s.2:=zE
   simp[h1,h2,aa,eF,zI,aX,hd,zo,rf];refine⟨aQ,⟨i,zE,j+1,zE,rfl,zd,AW⟩,zE⟩
  simp[M1];exact hK _ (fD.refl _)
 rw[if_neg hc]at hF;simp only[zzai]at hF;have hF':=wI.ext hF (fD.box mm [[I (max s.1 t.1),I (min s.2 t.2)]]);by_cases hd:s.2<t.2
 ·rw[if_pos hd,qB]at hF';simp[h4,h5,h1,h2,aa,eF,zI,aX,qw,qZ,KP,hc,hd,XO];refine⟨aQ,⟨i+1,zE,j,zE,zd,rfl,hF'⟩,zE⟩
 rw[if_neg hd,zn]at hF';simp[h4,h5,h1,h2,aa,eF,zI,aX,qw,qZ,KP,hc,hd,rf];refine⟨aQ,⟨i,zE,j+1,zE,rfl,zd,hF'⟩,zE⟩
def zQ(A B:List Sp):Pure Tryz.prog aD 139 [.sl .ro (A.map Qf),.sl .ro (B.map Qf)] (.fn 200 [] [.ep [.sl .ro (A.map Qf)] 0,.ep [.sl .ro (B.map Qf)] 0]):=by
 refine Qp ab7 (fun _ _ _=>.junk) zd ?_;simp[agD,agE]
def aep(A B:List Sp):UV:=fun d f _=>
 if f=999999 then .junk else if d=8 then .sl .ro ((Xm A).map Qf)else if d=10 then .sl .ro ((Xm B).map Qf)else if d=11 then .fn 200 [] [.ep [.sl .ro ((Xm A).map Qf)] 0,.ep [.sl .ro ((Xm B).map Qf)] 0]else .junk
def C9:∀(n:Nat)(A B:List Sp),(tX n A B).length<=n
 |0,_,_=>by simp[tX]
 |n+1,[],_=>by simp[tX]
 |n+1,s::A,[]=>by simp[tX]
 |n+1,s::A,t::B=>by
  have h1:=C9 n A (t::B);have h2:=C9 n (s::A) B;rw[tX,zzak];split<;>split<;>simp<;>omega
def jI(A B:List Sp)(hA:A.length<=10000000)(hB:B.length<=10000000):
  Pure Tryz.prog aD 84 [.sl .ro (A.map Qf),.sl .ro (B.map Qf)] (.sl .ro ((zM A B).map Qf)):=by
 have h1:=Un A zE;have h2:=Un B zE;have l1:=Yu A;have l2:=Yu B;have h3:=zQ (Xm A) (Xm B);have cT:=XW (Xm A) (Xm B) zE zE;have hX:zM A B=tX ((Xm A).length+(Xm B).length) (Xm A) (Xm B):=rfl;have hXl:=C9 ((Xm A).length+(Xm B).length) (Xm A) (Xm B);rw[<- hX]at cT hXl;generalize zM A B=X at cT hXl;clear hX
 have key:∀r,r=(if X=[]then AV.sl .nil []else .sl .ro (X.map Qf))->Pure Tryz.prog aD 84 [.sl .ro (A.map Qf),.sl .ro (B.map Qf)] r:=by
  rintro r rfl;refine Qp akk (aep A B) zd ?_;simp[ao7,aep];refine⟨h1,h2,h3,?_⟩
  refine ji (xs:=X.map Ba) zd cT (by intro x hx;simp at hx;obtain⟨a,b,_,rfl⟩:=hx;rfl)
   (fun i m=>∃(bx:T5)(rt:Rt),m.boxes=[.sl rt ((X.take i).map Qf)]::bx/\((i=0/\rt=.nil)\/(0<i/\∃id,rt=.own id 2/\m.lens[id]?=some i))) (fun _ _=>False) ⟨[],.nil,zd,.inl ⟨rfl,rfl⟩⟩ ?_ (fun _ _ _ h=>h.elim) ?_ ?_ (fun _ _ h=>h.elim)
  ·rintro i m m' ⟨bx,rt,hb,aX⟩ ⟨⟨b2,e1⟩,⟨l2,e2⟩,_⟩;refine⟨bx++b2,rt,by rw[e1,hb];rfl,?_⟩;obtain h|⟨h0,id,h1,h2⟩:=aX
   ·exact .inl h
   refine .inr ⟨h0,id,h1,?_⟩;rw[e2,zzaj (zza.1 h2).1];exact h2
  ·rintro l i m x hg hr ⟨bx,rt,hb,aX⟩ hx K' k1 _ _
   obtain⟨s,hs,rfl⟩:∃s,X[i]?=some s/\Ba s=x:=by
    rw[zzbm]at hx;cases hq:X[i]? with
    |none=>rw[hq]at hx;cases hx
    |some y=>rw[hq]at hx;exact⟨y,rfl,Option.some.inj hx⟩
   have hi:i<X.length:=(zza.1 hs).1;have bA:X.take (i+1)=X.take i++[s]:=by rw[zzax,hs];rfl
   have lZ:(X.take i).length=i:=by rw[zzap];omega
   rw[Jm]at hb
   have oF:∀row∈(X.take i).map Qf,row.length=2:=by
    intro row h;rw[zzb]at h;obtain⟨a,_,rfl⟩:=h;rfl
   generalize X.take i=T at hb bA lZ oF;obtain⟨rfl,rfl⟩|⟨h0,id,rfl,hL⟩:=aX
   ·have hTn:T=[]:=zzc.1 lZ;subst hTn;simp[hr,Zp,Ba,hb,aep];refine k1 _ ⟨bx++[[I s.1,I s.2]],.own m.lens.length 2,?_,.inr ⟨zE,m.lens.length,rfl,?_⟩⟩
    ·rw[bA];rfl
    simp
   have tP:m.lens[id]?=some T.length:=by rw[lZ];simpa using hL
   have ai:=(zza.1 tP).1;simp[hr,Zp,Ba,hb,aep,tP];refine⟨⟨?_,zE⟩,?_⟩
   ·rintro row (⟨a,b,_,rfl⟩|rfl)<;>rfl
   refine k1 _ ⟨bx++[[I s.1,I s.2]],.own id 2,?_,.inr ⟨zE,id,rfl,?_⟩⟩
   ·rw[bA,zzch];rfl
   simp[ai,lZ]
  rintro m ⟨bx,rt,hb,aX⟩;rw[zzbt]at hb aX;rw[zzbw]at hb;by_cases hn:X=[]
  ·subst hn;obtain⟨_,rfl⟩|⟨h0,_⟩:=aX
   ·simp[hb,akj]
   simp at h0
  obtain⟨h0,_⟩|⟨_,id,rfl,_⟩:=aX
  ·exact absurd (zzc.1 h0) hn
  simp[hb,akj,hn]
 have hk:=key _ rfl;by_cases hn:X=[]
 ·rw[if_pos hn]at hk;rw[hn];exact Zk hk (Wk.sl _ _)
 rw[if_neg hn]at hk;exact hk
open Go Go.Abs
def Out(m:AM)(id:Nat)(L:List Sp):Prop:=∃rt,Qj m.boxes id=[.sl rt (L.map Qf)]/\id<m.boxes.length/\((L=[]/\rt=.nil)\/(L≠[]/\∃k,rt=.own k 2/\m.lens[k]?=some L.length))
def Out.box{m:AM}{id:Nat}{L:List Sp}(h:Out m id L)(b:T5):Out {m with boxes:=m.boxes++b} id L:=by
 obtain⟨rt,h1,h2,h3⟩:=h;exact⟨rt,by show Qj (m.boxes++b) id=_;rw[Qn h2];exact h1,by show id<(m.boxes++b).length;simp;omega,h3⟩
def Da(Y:YT)(f t:Int)(id:Nat)(L:List Sp)(m:AM)(hO:Out m id L)(hl:L.length<=1000000000)(K:So)
  (hK:∀m',Out m' id (L++Db f t)->bB (·=id) m.boxes m'.boxes->m'.st=m.st->m'.ln=m.ln->K (.aS []) m'):aB Tryz.prog aD Y 130 [I f,I t,.ptr id 0] m K:=by
 obtain⟨rt,h1,h2,h3⟩:=hO;refine Xn abY (fun _ _ _=>.junk) zd ?_;by_cases xe:f<t
 ·have ha:Db f t=[(f,t)]:=by simp[Db,xe]
  rw[ha]at hK
  have oF:∀row∈L.map Qf,row.length=2:=by
   intro row h;rw[zzb]at h;obtain⟨a,_,rfl⟩:=h;rfl
  obtain⟨rfl,rfl⟩|⟨aN,k,rfl,hk⟩:=h3
  ·simp[MD,ME,xe,h1,h2];refine hK _ ⟨.own m.lens.length 2,?_,Nm h2,.inr ⟨zd,m.lens.length,rfl,zd⟩⟩ (bB.set (S:=(·=id)) (bB.refl _ _) (.inl rfl) _) rfl rfl;simp[Yg _ h2,Qf]
  have sj:=(zza.1 hk).1;simp[MD,ME,xe,h1,h2,hk];refine⟨⟨?_,zE⟩,?_⟩
  ·rintro row (⟨a,b,_,rfl⟩|rfl)<;>rfl
  refine hK _ ⟨.own k 2,?_,Nm h2,.inr ⟨zd,k,rfl,by simp[sj]⟩⟩ (bB.set (S:=(·=id)) (bB.refl _ _) (.inl rfl) _) rfl rfl;simp[Yg _ h2,Qf]
 have ha:Db f t=[]:=by simp[Db,xe]
 rw[ha,zzat]at hK;simp[MD,ME,xe];exact hK m ⟨rt,h1,h2,h3⟩ (bB.refl _ _) rfl rfl
def xy(f t:Int):(Db f t).length<=1:=by unfold Db;split<;>simp
def F9:∀(H:List Sp)(f t:Int),(jL f t H).1.length+(jL f t H).2.length<=H.length+1
 |[],f,t=>by have:=xy f t;simp[jL];omega
 |h::r,f,t=>by
  have h1:=xy f h.1;have h2:=xy f t;rw[jL];split
  ·split
   ·simp;omega
   have:=F9 r (max f h.2) t;simp;omega
  simp;omega
def Ga:∀(A H:List Sp),(tY A H).length<=A.length+H.length
 |[],H=>by simp[tY]
 |s::A,H=>by
  have h1:=F9 H s.1 s.2;have h2:=Ga A (jL s.1 s.2 H).2;simp[tY];omega
def ri(a b:List Sp):UV:=fun d f _=>
 if f=999999 then .junk else if d=14 then .sl .ro ((Xm b).map Qf)else if d=16 then .sl .ro ((Xm a).map Qf)else .gd false .junk
def zR(a b:List Sp)(ha:a.length<=10000000)(hb:b.length<=10000000):
  Pure Tryz.prog aD 79 [.sl .ro (a.map Qf),.sl .ro (b.map Qf)] (.sl .ro ((Dc a b).map Qf)):=by
 have h1:=Un a zE;have h2:=Un b zE;have hR:Dc a b=tY (Xm a) (Xm b):=rfl;have hRl:=Ga (Xm a) (Xm b);have l1:=Yu a;have l2:=Yu b;rw[<- hR]at hRl;generalize Dc a b=R at hR hRl
 have key:∀r,r=(if R=[]then AV.sl .nil []else .sl .ro (R.map Qf))->Pure Tryz.prog aD 79 [.sl .ro (a.map Qf),.sl .ro (b.map Qf)] r:=by
  rintro r rfl;refine Qp akd (ri a b) zd ?_;simp[abx,ri];refine⟨h2,h1,?_⟩;generalize Xm a=A at hR hRl l1 |-
  generalize Xm b=H at hR hRl l2 |-
  clear h1 h2;refine Qk Ms (fun f m=>∃(k i:Nat)(L:List Sp),k<=A.length/\i<=H.length/\f 18=I k/\f 8=I i/\Out m 0 L/\L++tY (A.drop k) (H.drop i)=R) (fun f _=>A.length-(numOf (f 18)).toNat) ?_ ?_
  ·exact⟨0,0,[],zE,zE,zd,zd,⟨.nil,rfl,zd,.inl ⟨rfl,rfl⟩⟩,Nm hR.symm⟩
  rintro f m ⟨k,i,L,hk,hi,h18,h8,hO,hL⟩;rcases zzaa k A.length with ai|bn
  ·obtain⟨s,hs⟩:=aV ai;have ah:=Zv hs;have o7:(k:Int)<(A.length:Int):=zE
   have W4:=bO k zE;have hda:A.drop k=s::A.drop (k+1):=by rw[zzah ai,(zza.1 hs).2]
   rw[hda,tY]at hL;have hO0:=hO;obtain⟨_,_,JM,_⟩:=hO0;simp[h18,ai,o7,ah,Ms,ri]
   refine Qk Mt (fun g m2=>∃(i:Nat)(fr:Int)(L:List Sp),i<=H.length/\g 8=I i/\g 11=I fr/\Out m2 0 L/\m.boxes.length<m2.boxes.length/\Qj m2.boxes m.boxes.length=[I s.1,I s.2]/\
     L++((jL fr s.2 (H.drop i)).1++tY (A.drop (k+1)) (jL fr s.2 (H.drop i)).2)=R) (fun g _=>H.length-(numOf (g 8)).toNat) ?_ ?_
   ·refine⟨i,s.1,L,hi,by simp[h8],zd,hO.box _,zd,zd,hL⟩
   rintro g m2 ⟨i,fr,L,hi,h8,pq,hO,y6,hbx,hL⟩
   have hLl:L.length<=1000000000:=by
    have:=congrArg List.length hL;rw[zzak]at this;omega
   have lD:m.boxes.length≠0:=zE
   have fin:∀(hd:H.drop i=[]\/∃h r,H.drop i=h::r/\s.2<=h.1),L++Db fr s.2++tY (A.drop (k+1)) (H.drop i)=R:=by
    rintro(hd|⟨h,r,hd,hc⟩)
    ·rw[hd]at hL |-;simpa[jL]using hL
    rw[hd]at hL |-
    rw[jL,if_neg zE]at hL;simpa using hL
   rcases zzaa i H.length with iZ|hig
   ·obtain⟨h,hh⟩:=aV iZ;have hrh:=Zv hh;have aa:(i:Int)<(H.length:Int):=zE
    have XO:=bO i zE;have hdh:H.drop i=h::H.drop (i+1):=by rw[zzah iZ,(zza.1 hh).2]
    by_cases hc:h.1<s.2
    ·rw[hdh,jL,if_pos hc,<- hdh]at hL;simp[h8,pq,iZ,aa,hrh,hbx,hc,Mt,ri];refine Da Y0 fr h.1 0 L m2 hO hLl _ (fun m3 hO3 Bb _ _=>?_);have asK:Qj m3.boxes m.boxes.length=[I s.1,I s.2]:=by rw[Bb.2 _ y6 lD];exact hbx
     have hm3:m.boxes.length<m3.boxes.length:=by have:=Bb.1;omega
     by_cases hd:s.2<=max fr h.2
     ·rw[if_pos hd]at hL;simp[asK,qZ,hd,W4,h18];refine⟨aQ,⟨k+1,zE,i,zE,zd,rfl,L++Db fr h.1,hO3,by rw[zzbe];exact hL⟩,zE⟩
     rw[if_neg hd]at hL;simp[asK,qZ,hd,XO,h8];refine⟨aQ,⟨i+1,zE,zd,L++Db fr h.1,hO3,hm3,by rw[zzbe,<- zzbe (Db fr h.1)];exact hL⟩,zE⟩
    simp[h8,pq,iZ,aa,hrh,hbx,hc,Mt,ri];refine Da Y0 fr s.2 0 L m2 hO hLl _ (fun m3 hO3 Bb _ _=>?_);simp[W4,h18];refine⟨aQ,⟨k+1,zE,i,zE,zd,rfl,L++Db fr s.2,hO3,fin (.inr ⟨h,_,hdh,zE⟩)⟩,zE⟩
   have bP:¬(i:Int)<(H.length:Int):=zE
   simp[h8,pq,bP,zzbk.2 hig,hbx,Mt,ri];refine Da Y0 fr s.2 0 L m2 hO hLl _ (fun m3 hO3 Bb _ _=>?_);simp[W4,h18];refine⟨aQ,⟨k+1,zE,i,zE,zd,rfl,L++Db fr s.2,hO3,fin (.inl (zzal hig))⟩,zE⟩
  obtain rfl:k=A.length:=zE
  rw[zzbx,tY,zzat]at hL;subst hL;obtain⟨rt,o1,o2,o3⟩:=hO;obtain⟨rfl,rfl⟩|⟨aN,k,rfl,_⟩:=o3
  ·simp[h18,o1,Ms,akc]
  simp[h18,o1,Ms,akc,aN]
 have hk:=key _ rfl;by_cases hn:R=[]
 ·rw[if_pos hn]at hk;rw[hn];exact Zk hk (Wk.sl _ _)
 rw[if_neg hn]at hk;exact hk
