import Derived.Test.YtfliagpjbbkijaaGreatDoorVBSpL
set_option linter.all false
set_option maxRecDepth 100000
set_option maxHeartbeats 64000000
namespace Go.Proofs.YtfliagpjbbkijaaGreatDoor
noncomputable section
open Go Go.Abs
def F0(Y:YT)(rt:Rt)(bn:∀m,bG m 6 (.sl rt [])=.sl rt [])(m:AM)(K:UV)(hK:K (.sl rt []) m):aF Tryz.prog aD Y 243 [.sl rt [],.fn 223 [] []] m K:=by
 have h:=Xl (l:=[.sl rt [],.fn 223 [] []]) (pI [] zd) ⟨Wk.sl rt [],Ps,trivial⟩;simp only[pJ]at h;refine Xn Nl (nA (-1)) zd ?_;simp[EM,Nk,nA,bn];exact⟨h,hK⟩
def F1:X1:=fun d f _=>if f=999999 then(if d=12 then .aM 0 []else if d=70 then .aM 0 []else .junk)else .gd false .junk
def ri(a b:Int):(if a<b then b else a)=max a b:=by split<;>omega
def atu(B:X2)(id:Nat)(out:List Sp)(a:AV):Prop:=
 (out=[]/\a=.sl .nil [])\/∃qE,out≠[]/\a=.bs qE 0 out.length 2/\qE≠id/\qE<B.length/\Qf B qE=cL out
def KL{out:List Sp}(h:out≠[]):∃p u,out=p++[u]:=⟨out.dropLast,out.getLast h,(zzev h).symm⟩
def C7(l:List Sp)(hl:l.length<=100000000):Pure Tryz.prog aD 222 [.sl .ro (l.map Qe)] (if Xi l=[]then .sl .nil []else .sl .ro ((Xi l).map Qe)):=by
 refine Qm adv F1 zd ?_;by_cases aK:l=[]
 ·subst aK;have hn:Xi []=[]:=by simp[Xi,F2]
  simp[Nd,F1,hn];refine Qk vn (fun f m=>f 15=I 0/\f 3=.sl .full []/\m=⟨[[]],[],fun _=>.gone,0⟩) (fun _ _=>0) ?_ ?_
  ·simp
  rintro f m ⟨sJ,h3,rfl⟩;simp[sJ,h3,vn];refine F0 _ _ (fun _=>rfl) _ _ ?_;refine F3 _ _ _ _ ?_;simp;refine Qk iP (fun f m=>f 31=I 0/\f 6=.sl .nil []/\m=⟨[[]],[],fun _=>.gone,0⟩) (fun _ _=>0) ?_ ?_
  ·simp
  rintro f m ⟨h31,h6,rfl⟩;simp[h31,h6,iP,Nf]
 have azP:l.length≠0:=by simpa using aK
 have oC:0<l.length:=zE
 simp[Nd,F1,aK];refine⟨⟨zE,zE⟩,?_⟩
 refine Qk vn (fun f m=>∃(i id:Nat)(B:X2),i<=l.length/\f 15=I i/\f 3=.bs id 0 i 2/\m=⟨B,[],fun _=>.gone,0⟩/\id<B.length/\Qf B id≠[]/\i*2<=(Qf B id).length/\(Qf B id).take (i*2)=cL (l.take i)/\(0<i->Qf B id=cL (l.take i)))
  (fun f _=>l.length-(numOf (f 15)).toNat) ?_ ?_
 ·exact⟨0,0,[List.replicate (l.length*2) .junk],zE,zd,zd,rfl,zd,by simp;omega,zd,zd,zd⟩
 rintro f m ⟨i,id,B,hi,sJ,h3,rfl,aL,AA,cw,bD,AF⟩;rcases zzab i l.length with ah|bu
 ·obtain⟨s,hs⟩:=aX ah;have ai:=Ze hs;have aa:(i:Int)<(l.length:Int):=zE
  have hw:=bO i zE;have fk:∀x,Qf (B++x) id=Qf B id:=fun x=>Qi aL;have rf:∀x v,(B++x).set id v=B.set id v++x:=fun x v=>Yb v aL;have gG:cL (l.take (i+1))=cL (l.take i)++[I s.1,I s.2]:=by rw[zzap,hs,Qbz];rfl
  simp[sJ,h3,aa,ah,ai,vn,hw,fk,rf,AA,cw,bD,F1];refine⟨⟨zE,zE⟩,aP,⟨i+1,zE,zd,?_⟩,zE⟩
  ·refine⟨B.length+1,⟨rfl,rfl⟩,zE,?_⟩
   have e:Qf (B.set id []++[[AV.int IntKind.i64 s.fst,AV.int IntKind.i64 s.snd],cL (List.take i l)++[AV.int IntKind.i64 s.fst,AV.int IntKind.i64 s.snd]]) (B.length+1)=cL (l.take (i+1)):=by
    have:=Xt (B.set id []) [[AV.int IntKind.i64 s.fst,AV.int IntKind.i64 s.snd],cL (List.take i l)++[AV.int IntKind.i64 s.fst,AV.int IntKind.i64 s.snd]] 1;rw[zzcf]at this;rw[this,gG];rfl
   rw[e];have e2:(cL (l.take (i+1))).length=(i+1)*2:=by rw[Vw,zzav];congr 1;omega
   refine⟨?_,zE,?_,fun _=>rfl⟩
   ·intro h;rw[h]at e2;simp at e2
   rw[<- e2,zzbp]
 obtain rfl:i=l.length:=zE
 have hB:=AF oC;rw[zzbp]at hB;have bT:¬((l.length:Nat):Int)<(l.length:Int):=zE
 simp[sJ,h3,vn,F1];refine KM _ l zE B _ _ _ id aL aK hB _ ?_;intro B1 z nh A2 hz;have amR:id<B1.length:=zzan aL nh.1;rw[Qbz]at A2;have WB:B1[id]?=some (cL (l.filter mg)++cL z):=by rw[Jf amR,A2]
 refine KN _ (l.filter mg) zE _ id (cL z) WB ?_ _ ?_
 ·intro h;have:=congrArg List.length h;rw[zzal,Vw,Vw]at this;simp at this;omega
 intro d hp hs;have zm:=amS hp hs;have hdl:d.length=(l.filter mg).length:=hp.length_eq;rw[<- hdl];have azQ:d.length<=100000000:=zE
 simp[AM.wr]
 refine Qk iP (fun f m=>∃(i:Nat)(B:X2)(out:List Sp),i<=d.length/\f 31=I i/\m=⟨B,[],fun _=>.gone,0⟩/\out.length<=i/\id<B.length/\Qf B id=cL d++cL z/\F2 out (d.drop i)=Xi l/\atu B id out (f 6))
  (fun f _=>d.length-(numOf (f 31)).toNat) ?_ ?_
 ·exact⟨0,B1.set id (cL d++cL z),[],zE,zd,rfl,zd,Nm amR,Xj _ amR,Nm zm,.inl ⟨rfl,zd⟩⟩
 rintro f m ⟨i,B,out,hi,h31,rfl,XC,aL,hB,hm,hout⟩;rcases zzab i d.length with ah|bu
 ·obtain⟨v,hv⟩:=aX ah;have aa:(i:Int)<(d.length:Int):=zE
  have hw:=bO i zE
  have hg:(cL d++cL z).drop (i*2)=I v.1::I v.2::(cL (d.drop (i+1))++cL z):=by
   rw[zzeo (by rw[Vw];omega),uv hv];rfl
  have fD:d.drop i=v::d.drop (i+1):=by
   rw[zzae ah,(zza.1 hv).2]
  rw[fD,F2]at hm;have fk:∀x,Qf (B++x) id=cL d++cL z:=fun x=>by rw[Qi aL,hB]
  obtain⟨rfl,h6⟩|⟨qE,hon,h6,eL,tK,yR⟩:=hout
  ·simp[h31,h6,aa,ah,hB,fk,hg,iP,hw,F1];refine⟨aP,⟨i+1,zE,zd,?_⟩,zE⟩
   ·refine⟨[v],zd,zE,by simpa[QO]using hm,.inr ⟨B.length+1,zd,zd,zE,zd,zd⟩⟩
  obtain⟨p,u,rfl⟩:=KL hon;have atv:p.length+1<=i:=by simpa using XC
  have fh:(cL (p++[u])).drop (p.length*2+1)=[I u.2]:=by
   have:=F4 (l:=p++[u]) (i:=p.length) (s:=u) zd;simpa using this
  have bQ:=wI (p++[u]) p.length u (max u.2 v.2) zd;have atw:(p++[u]).set p.length (u.1,max u.2 v.2)=p++[(u.1,max u.2 v.2)]:=zd
  rw[atw]at bQ;have hwp:IntKind.i64.wrap (p.length:Int)=(p.length:Int):=by rw[Qh]<;>omega
  have iy:(0:Int)<(p.length:Int)+1:=zE
  have atx:∀x,Qf (B++x) qE=cL (p++[u]):=fun x=>by rw[Qi tK,yR]
  have rf:∀x v,(B++x).set qE v=B.set qE v++x:=fun x v=>Yb v tK;have gG:=Vw (p++[u]);simp only[zzal,zzba,zzcp,zzbn]at gG h6;have ayx:QO (p++[u]) v=if v.1<=u.2 then p++[(u.1,max u.2 v.2)]else p++[u]++[v]:=by simp[QO]
  rw[ayx]at hm;by_cases hc:v.1<=u.2
  ·rw[if_pos hc]at hm;simp[h31,h6,aa,ah,hB,fk,atx,rf,hg,fh,iP,hw,hwp,iy,hc,ri,bQ,gG,F1];refine⟨zE,⟨zE,zE⟩,aP,⟨i+1,zE,zd,?_⟩,zE⟩
   ·refine⟨p++[(u.1,max u.2 v.2)],by simp;omega,zE,by rw[Qi (Nm aL),Qx _ eL,hB],hm,.inr ⟨qE,zd,zd,eL,by simp;omega,by rw[Qi (Nm tK),Xj _ tK]⟩⟩
  rw[if_neg hc]at hm;simp[h31,h6,aa,ah,hB,fk,atx,rf,hg,fh,iP,hw,hwp,iy,hc,gG,F1];refine⟨zE,⟨⟨zE,by simp[Qbz]⟩,zE⟩,aP,⟨i+1,zE,zd,?_⟩,zE⟩
  ·have bD:(cL (p++[u])).take ((p.length+1)*2)=cL (p++[u]):=zzai (by rw[gG];exact zzaa _);rw[bD];refine⟨p++[u]++[v],by simp;omega,zE,by rw[Qi (Nm aL),Qx _ eL,hB],hm,.inr ⟨B.length+1,zd,zd,zE,zd,?_⟩⟩;have:=Xt (B.set qE []) [[I v.1,I v.2],cL (p++[u])++[AV.int IntKind.i64 v.fst,AV.int IntKind.i64 v.snd]] 1;rw[zzcf]at this;rw[this,Qbz (p++[u]) [v]];rfl
 obtain rfl:i=d.length:=zE
 rw[zzbz,F2]at hm;obtain⟨rfl,h6⟩|⟨qE,hon,h6,eL,tK,yR⟩:=hout
 ·simp[h31,h6,iP,Nf,<- hm]
 have nr:=Vn ⟨B,[],fun _=>.gone,0⟩ 4 (C8 out);have kL:=Qef out;have gG:=Vw out;simp[h31,h6,iP,Nf,<- hm,hon,yR,nr,kL,gG]
def Un(l:List Sp)(hl:l.length<=100000000):Pure Tryz.prog aD 222 [.sl .ro (l.map Qe)] (.sl .ro ((Xi l).map Qe)):=by
 have h:=C7 l hl;by_cases hn:Xi l=[]
 ·rw[if_pos hn]at h;rw[hn];exact Zc h (Wk.sl _ _)
 rw[if_neg hn]at h;exact h
def KO(a b:Int):(if b<a then b else a)=min a b:=by split<;>omega
def A3(s:Sp):P1:=[.agg [I s.1,I s.2]]
def XG(A B:List Sp)(hA:A.length<=100000000)(hB:B.length<=100000000):
  Iter Tryz.prog aD 270 [] [.ep [.sl .ro (A.map Qe)] 0,.ep [.sl .ro (B.map Qe)] 0] ((tN (A.length+B.length) A B).map A3):=by
 intro Y l m K hF;refine Xn ad5 (fun _ _ _=>.junk) zd ?_;simp[UF]
 refine Qk qC (fun f mm=>∃(i j:Nat),i<=A.length/\j<=B.length/\f 4=I i/\f 5=I j/\wk (Y l) K ((tN (A.length-i+(B.length-j)) (A.drop i) (B.drop j)).map A3) mm)
  (fun f _=>A.length-(numOf (f 4)).toNat+(B.length-(numOf (f 5)).toNat)) ?_ ?_
 ·exact⟨0,0,zE,zE,zd,zd,Nm hF⟩
 rintro f mm ⟨i,j,hi,hj,h4,h5,hF⟩;by_cases WL:i=A.length\/j=B.length
 ·have hnil:tN (A.length-i+(B.length-j)) (A.drop i) (B.drop j)=[]:=by
   obtain rfl|rfl:=WL
   ·rw[zzbz];cases A.length-A.length+(B.length-j)<;>rfl
   rw[zzbz];cases A.length-i+(B.length-B.length)with
   |zero=>rfl
   |succ n=>cases A.drop i<;>rfl
  rw[hnil]at hF;have hK:K mm:=hF mm (fR.refl _);by_cases h1:i<A.length
  ·have N4:¬(j:Int)<(B.length:Int):=zE
   have aa:(i:Int)<(A.length:Int):=zE
   simp[h4,h5,h1,aa,N4,qC,Nw];exact hK
  have bT:¬(i:Int)<(A.length:Int):=zE
  simp[h4,h5,h1,bT,qC,Nw];exact hK
 have h1:i<A.length:=zE
 have h2:j<B.length:=zE
 obtain⟨s,hs⟩:=aX h1;obtain⟨t,ht⟩:=aX h2;have uu:=Ze hs;have bn:=Ze ht;have hda:A.drop i=s::A.drop (i+1):=by rw[zzae h1,(zza.1 hs).2]
 have hdb:B.drop j=t::B.drop (j+1):=by rw[zzae h2,(zza.1 ht).2]
 have hn:A.length-i+(B.length-j)=(A.length-i+(B.length-j)-1)+1:=zE
 have qF:A.length-i+(B.length-j)-1=A.length-(i+1)+(B.length-j):=zE
 have eL:A.length-i+(B.length-j)-1=A.length-i+(B.length-(j+1)):=zE
 have aa:(i:Int)<(A.length:Int):=zE
 have eZ:(j:Int)<(B.length:Int):=zE
 have rj:=bO i zE;have uw:=bO j zE;rw[hda,hdb,hn,tN,<- hda,<- hdb]at hF;by_cases hc:max s.1 t.1<min s.2 t.2
 ·rw[if_pos hc]at hF;simp only[zzew,zzax]at hF;simp[h4,h5,h1,h2,aa,eZ,uu,bn,qC,ri,KO,hc];refine hF _ (fR.box mm _) _ (fun m2 gL=>?_) (fun m2 hK=>?_)
  ·by_cases hd:s.2<t.2
   ·rw[if_pos hd,qF]at gL;have y8:¬t.2<=s.2:=zE
    simp[h1,h2,aa,eZ,uu,bn,hd,y8,rj];refine⟨aP,⟨i+1,zE,j,zE,zd,rfl,gL⟩,zE⟩
   rw[if_neg hd,eL]at gL;have y8:t.2<=s.2:=zE
   simp[h1,h2,aa,eZ,uu,bn,hd,y8,uw];refine⟨aP,⟨i,zE,j+1,zE,rfl,zd,gL⟩,zE⟩
  simp[Nw];exact hK _ (fR.refl _)
 rw[if_neg hc]at hF;simp only[zzah]at hF;have hF':=wk.ext hF (fR.box mm [[I (max s.1 t.1),I (min s.2 t.2)]]);by_cases hd:s.2<t.2
 ·rw[if_pos hd,qF]at hF';simp[h4,h5,h1,h2,aa,eZ,uu,bn,qC,ri,KO,hc,hd,rj];refine⟨aP,⟨i+1,zE,j,zE,zd,rfl,hF'⟩,zE⟩
 rw[if_neg hd,eL]at hF';simp[h4,h5,h1,h2,aa,eZ,uu,bn,qC,ri,KO,hc,hd,uw];refine⟨aP,⟨i,zE,j+1,zE,rfl,zd,hF'⟩,zE⟩
def zo(A B:List Sp):Pure Tryz.prog aD 253 [.sl .ro (A.map Qe),.sl .ro (B.map Qe)] (.fn 270 [] [.ep [.sl .ro (A.map Qe)] 0,.ep [.sl .ro (B.map Qe)] 0]):=by
 refine Qm adT (fun _ _ _=>.junk) zd ?_;simp[aiy,aiz]
def aeK(A B:List Sp):X1:=fun d f _=>
 if f=999999 then .junk else if d=8 then .sl .ro ((Xi A).map Qe)else if d=10 then .sl .ro ((Xi B).map Qe)else if d=11 then .fn 270 [] [.ep [.sl .ro ((Xi A).map Qe)] 0,.ep [.sl .ro ((Xi B).map Qe)] 0]else .junk
def C9:∀(n:Nat)(A B:List Sp),(tN n A B).length<=n
 |0,_,_=>by simp[tN]
 |n+1,[],_=>by simp[tN]
 |n+1,s::A,[]=>by simp[tN]
 |n+1,s::A,t::B=>by
  have h1:=C9 n A (t::B);have h2:=C9 n (s::A) B;rw[tN,zzal];split<;>split<;>simp<;>omega
def jq(A B:List Sp)(hA:A.length<=10000000)(hB:B.length<=10000000):
  Pure Tryz.prog aD 230 [.sl .ro (A.map Qe),.sl .ro (B.map Qe)] (.sl .ro ((zq A B).map Qe)):=by
 have h1:=Un A zE;have h2:=Un B zE;have l1:=Yu A;have l2:=Yu B;have h3:=zo (Xi A) (Xi B);have cV:=XG (Xi A) (Xi B) zE zE;have hX:zq A B=tN ((Xi A).length+(Xi B).length) (Xi A) (Xi B):=rfl;have hXl:=C9 ((Xi A).length+(Xi B).length) (Xi A) (Xi B);rw[<- hX]at cV hXl;generalize zq A B=X at cV hXl;clear hX
 have key:∀r,r=(if X=[]then AV.sl .nil []else .sl .ro (X.map Qe))->Pure Tryz.prog aD 230 [.sl .ro (A.map Qe),.sl .ro (B.map Qe)] r:=by
  rintro r rfl;refine Qm adD (aeK A B) zd ?_;simp[aim,aeK];refine⟨h1,h2,h3,?_⟩
  refine ji (xs:=X.map A3) zd cV (by intro x hx;simp at hx;obtain⟨a,b,_,rfl⟩:=hx;rfl)
   (fun i m=>∃(bx:X2)(rt:Rt),m.boxes=[.sl rt ((X.take i).map Qe)]::bx/\((i=0/\rt=.nil)\/(0<i/\∃id,rt=.own id 2/\m.lens[id]?=some i))) (fun _ _=>False) ⟨[],.nil,zd,.inl ⟨rfl,rfl⟩⟩ ?_ (fun _ _ _ h=>h.elim) ?_ ?_ (fun _ _ h=>h.elim)
  ·rintro i m m' ⟨bx,rt,hb,bn⟩ ⟨⟨b2,e1⟩,⟨l2,e2⟩,_⟩;refine⟨bx++b2,rt,by rw[e1,hb];rfl,?_⟩;obtain h|⟨h0,id,h1,h2⟩:=bn
   ·exact .inl h
   refine .inr ⟨h0,id,h1,?_⟩;rw[e2,zzam (zza.1 h2).1];exact h2
  ·rintro l i m x hg hr ⟨bx,rt,hb,bn⟩ hx K' k1 _ _
   obtain⟨s,hs,rfl⟩:∃s,X[i]?=some s/\A3 s=x:=by
    rw[zzbc]at hx;cases hq:X[i]? with
    |none=>rw[hq]at hx;cases hx
    |some y=>rw[hq]at hx;exact⟨y,rfl,Option.some.inj hx⟩
   have hi:i<X.length:=(zza.1 hs).1;have bD:X.take (i+1)=X.take i++[s]:=by rw[zzap,hs];rfl
   have iG:(X.take i).length=i:=by rw[zzav];omega
   rw[Ut]at hb
   have dB:∀row∈(X.take i).map Qe,row.length=2:=by
    intro row h;rw[zzbk]at h;obtain⟨a,_,rfl⟩:=h;rfl
   generalize X.take i=T at hb bD iG dB;obtain⟨rfl,rfl⟩|⟨h0,id,rfl,hL⟩:=bn
   ·have hTn:T=[]:=zzbl.1 iG;subst hTn;simp[hr,Zk,A3,hb,aeK];refine k1 _ ⟨bx++[[I s.1,I s.2]],.own m.lens.length 2,?_,.inr ⟨zE,m.lens.length,rfl,?_⟩⟩
    ·rw[bD];rfl
    simp
   have tM:m.lens[id]?=some T.length:=by rw[iG];simpa using hL
   have ah:=(zza.1 tM).1;simp[hr,Zk,A3,hb,aeK,tM];refine⟨⟨?_,zE⟩,?_⟩
   ·rintro row (⟨a,b,_,rfl⟩|rfl)<;>rfl
   refine k1 _ ⟨bx++[[I s.1,I s.2]],.own id 2,?_,.inr ⟨zE,id,rfl,?_⟩⟩
   ·rw[bD,zzcj];rfl
   simp[ah,iG]
  rintro m ⟨bx,rt,hb,bn⟩;rw[zzbv]at hb bn;rw[zzbp]at hb;by_cases hn:X=[]
  ·subst hn;obtain⟨_,rfl⟩|⟨h0,_⟩:=bn
   ·simp[hb,T7]
   simp at h0
  obtain⟨h0,_⟩|⟨_,id,rfl,_⟩:=bn
  ·exact absurd (zzbl.1 h0) hn
  simp[hb,T7,hn]
 have hk:=key _ rfl;by_cases hn:X=[]
 ·rw[if_pos hn]at hk;rw[hn];exact Zc hk (Wk.sl _ _)
 rw[if_neg hn]at hk;exact hk
def Out(m:AM)(id:Nat)(L:List Sp):Prop:=∃rt,Qf m.boxes id=[.sl rt (L.map Qe)]/\id<m.boxes.length/\((L=[]/\rt=.nil)\/(L≠[]/\∃k,rt=.own k 2/\m.lens[k]?=some L.length))
def Out.box{m:AM}{id:Nat}{L:List Sp}(h:Out m id L)(b:X2):Out {m with boxes:=m.boxes++b} id L:=by
 obtain⟨rt,h1,h2,h3⟩:=h;exact⟨rt,by show Qf (m.boxes++b) id=_;rw[Qi h2];exact h1,by show id<(m.boxes++b).length;simp;omega,h3⟩
def Da(Y:YT)(f t:Int)(id:Nat)(L:List Sp)(m:AM)(hO:Out m id L)(hl:L.length<=1000000000)(K:UV)
  (hK:∀m',Out m' id (L++jr f t)->bE (·=id) m.boxes m'.boxes->m'.st=m.st->m'.ln=m.ln->K (.aS []) m'):aF Tryz.prog aD Y 247 [I f,I t,.ptr id 0] m K:=by
 obtain⟨rt,h1,h2,h3⟩:=hO;refine Xn adN (fun _ _ _=>.junk) zd ?_;by_cases Iw:f<t
 ·have ha:jr f t=[(f,t)]:=by simp[jr,Iw]
  rw[ha]at hK
  have dB:∀row∈L.map Qe,row.length=2:=by
   intro row h;rw[zzbk]at h;obtain⟨a,_,rfl⟩:=h;rfl
  obtain⟨rfl,rfl⟩|⟨aK,k,rfl,hk⟩:=h3
  ·simp[No,Np,Iw,h1,h2];refine hK _ ⟨.own m.lens.length 2,?_,Nm h2,.inr ⟨zd,m.lens.length,rfl,zd⟩⟩ (bE.set (S:=(·=id)) (bE.refl _ _) (.inl rfl) _) rfl rfl;simp[Xj _ h2,Qe]
  have qu:=(zza.1 hk).1;simp[No,Np,Iw,h1,h2,hk];refine⟨⟨?_,zE⟩,?_⟩
  ·rintro row (⟨a,b,_,rfl⟩|rfl)<;>rfl
  refine hK _ ⟨.own k 2,?_,Nm h2,.inr ⟨zd,k,rfl,by simp[qu]⟩⟩ (bE.set (S:=(·=id)) (bE.refl _ _) (.inl rfl) _) rfl rfl;simp[Xj _ h2,Qe]
 have ha:jr f t=[]:=by simp[jr,Iw]
 rw[ha,zzau]at hK;simp[No,Np,Iw];exact hK m ⟨rt,h1,h2,h3⟩ (bE.refl _ _) rfl rfl
def wJ(f t:Int):(jr f t).length<=1:=by unfold jr;split<;>simp
def F5:∀(H:List Sp)(f t:Int),(pK f t H).1.length+(pK f t H).2.length<=H.length+1
 |[],f,t=>by have:=wJ f t;simp[pK];omega
 |h::r,f,t=>by
  have h1:=wJ f h.1;have h2:=wJ f t;rw[pK];split
  ·split
   ·simp;omega
   have:=F5 r (max f h.2) t;simp;omega
  simp;omega
def F6:∀(A H:List Sp),(wK A H).length<=A.length+H.length
 |[],H=>by simp[wK]
 |s::A,H=>by
  have h1:=F5 H s.1 s.2;have h2:=F6 A (pK s.1 s.2 H).2;simp[wK];omega
def rq(a b:List Sp):X1:=fun d f _=>
 if f=999999 then .junk else if d=14 then .sl .ro ((Xi b).map Qe)else if d=16 then .sl .ro ((Xi a).map Qe)else .gd false .junk
def zu(a b:List Sp)(ha:a.length<=10000000)(hb:b.length<=10000000):
  Pure Tryz.prog aD 226 [.sl .ro (a.map Qe),.sl .ro (b.map Qe)] (.sl .ro ((KP a b).map Qe)):=by
 have h1:=Un a zE;have h2:=Un b zE;have hR:KP a b=wK (Xi a) (Xi b):=rfl;have hRl:=F6 (Xi a) (Xi b);have l1:=Yu a;have l2:=Yu b;rw[<- hR]at hRl;generalize KP a b=R at hR hRl
 have key:∀r,r=(if R=[]then AV.sl .nil []else .sl .ro (R.map Qe))->Pure Tryz.prog aD 226 [.sl .ro (a.map Qe),.sl .ro (b.map Qe)] r:=by
  rintro r rfl;refine Qm adz (rq a b) zd ?_;simp[Ng,rq];refine⟨h2,h1,?_⟩;generalize Xi a=A at hR hRl l1 |-
  generalize Xi b=H at hR hRl l2 |-
  clear h1 h2;refine Qk Ck (fun f m=>∃(k i:Nat)(L:List Sp),k<=A.length/\i<=H.length/\f 18=I k/\f 8=I i/\Out m 0 L/\L++wK (A.drop k) (H.drop i)=R) (fun f _=>A.length-(numOf (f 18)).toNat) ?_ ?_
  ·exact⟨0,0,[],zE,zE,zd,zd,⟨.nil,rfl,zd,.inl ⟨rfl,rfl⟩⟩,Nm hR.symm⟩
  rintro f m ⟨k,i,L,hk,hi,h18,h8,hO,hL⟩;rcases zzab k A.length with ah|bu
  ·obtain⟨s,hs⟩:=aX ah;have ai:=Ze hs;have aeG:(k:Int)<(A.length:Int):=zE
   have WY:=bO k zE;have hda:A.drop k=s::A.drop (k+1):=by rw[zzae ah,(zza.1 hs).2]
   rw[hda,wK]at hL;have hO0:=hO;obtain⟨_,_,J5,_⟩:=hO0;simp[h18,ah,aeG,ai,Ck,rq]
   refine Qk Cm (fun g m2=>∃(i:Nat)(fr:Int)(L:List Sp),i<=H.length/\g 8=I i/\g 11=I fr/\Out m2 0 L/\m.boxes.length<m2.boxes.length/\Qf m2.boxes m.boxes.length=[I s.1,I s.2]/\
     L++((pK fr s.2 (H.drop i)).1++wK (A.drop (k+1)) (pK fr s.2 (H.drop i)).2)=R) (fun g _=>H.length-(numOf (g 8)).toNat) ?_ ?_
   ·refine⟨i,s.1,L,hi,by simp[h8],zd,hO.box _,zd,zd,hL⟩
   rintro g m2 ⟨i,fr,L,hi,h8,pG,hO,od,hbx,hL⟩
   have hLl:L.length<=1000000000:=by
    have:=congrArg List.length hL;rw[zzal]at this;omega
   have lg:m.boxes.length≠0:=zE
   have fin:∀(hd:H.drop i=[]\/∃h r,H.drop i=h::r/\s.2<=h.1),L++jr fr s.2++wK (A.drop (k+1)) (H.drop i)=R:=by
    rintro(hd|⟨h,r,hd,hc⟩)
    ·rw[hd]at hL |-;simpa[pK]using hL
    rw[hd]at hL |-
    rw[pK,if_neg zE]at hL;simpa using hL
   rcases zzab i H.length with lu|hig
   ·obtain⟨h,hh⟩:=aX lu;have hrh:=Ze hh;have aa:(i:Int)<(H.length:Int):=zE
    have rj:=bO i zE;have hdh:H.drop i=h::H.drop (i+1):=by rw[zzae lu,(zza.1 hh).2]
    by_cases hc:h.1<s.2
    ·rw[hdh,pK,if_pos hc,<- hdh]at hL;simp[h8,pG,lu,aa,hrh,hbx,hc,Cm,rq];refine Da Y0 fr h.1 0 L m2 hO hLl _ (fun m3 hO3 tO _ _=>?_);have aty:Qf m3.boxes m.boxes.length=[I s.1,I s.2]:=by rw[tO.2 _ od lg];exact hbx
     have hm3:m.boxes.length<m3.boxes.length:=by have:=tO.1;omega
     by_cases hd:s.2<=max fr h.2
     ·rw[if_pos hd]at hL;simp[aty,ri,hd,WY,h18];refine⟨aP,⟨k+1,zE,i,zE,zd,rfl,L++jr fr h.1,hO3,by rw[zzbd];exact hL⟩,zE⟩
     rw[if_neg hd]at hL;simp[aty,ri,hd,rj,h8];refine⟨aP,⟨i+1,zE,zd,L++jr fr h.1,hO3,hm3,by rw[zzbd,<- zzbd (jr fr h.1)];exact hL⟩,zE⟩
    simp[h8,pG,lu,aa,hrh,hbx,hc,Cm,rq];refine Da Y0 fr s.2 0 L m2 hO hLl _ (fun m3 hO3 tO _ _=>?_);simp[WY,h18];refine⟨aP,⟨k+1,zE,i,zE,zd,rfl,L++jr fr s.2,hO3,fin (.inr ⟨h,_,hdh,zE⟩)⟩,zE⟩
   have bT:¬(i:Int)<(H.length:Int):=zE
   simp[h8,pG,bT,zzbj.2 hig,hbx,Cm,rq];refine Da Y0 fr s.2 0 L m2 hO hLl _ (fun m3 hO3 tO _ _=>?_);simp[WY,h18];refine⟨aP,⟨k+1,zE,i,zE,zd,rfl,L++jr fr s.2,hO3,fin (.inl (zzaj hig))⟩,zE⟩
  obtain rfl:k=A.length:=zE
  rw[zzbz,wK,zzau]at hL;subst hL;obtain⟨rt,o1,o2,o3⟩:=hO;obtain⟨rfl,rfl⟩|⟨aK,k,rfl,_⟩:=o3
  ·simp[h18,o1,Ck,T6]
  simp[h18,o1,Ck,T6,aK]
 have hk:=key _ rfl;by_cases hn:R=[]
 ·rw[if_pos hn]at hk;rw[hn];exact Zc hk (Wk.sl _ _)
 rw[if_neg hn]at hk;exact hk
structure It where
 id:Int
 ki:Int
 fr:Int
 sp:Int
 ra:Int
structure Cl where
 ki:Int
 it:Int
 fr:Int
 to:Int
 re:Int
 n:Int
 a:Int
 b:Int
structure En where
 id:Int
 it:Int
 fr:Int
 ea:Int
 la:Int
 bo:Int
 al:List Sp
structure Bk where
 id:Int
 it:Int
 re:Int
 fr:Int
 to:Int
 un:Int
 pr:Int
structure Pl where
 ch:Int
 nu:Int
 de:Int
 of:Int
 sh:List Sp
 ep:Int
 rg:Int
 ln:Int
 fi:Int
 aT:List It
 ens:List En
 bks:List Bk
 cls:List Cl
def Ql(x:It):P1:=[I x.id,I x.ki,I x.fr,I x.sp,I x.ra]
def Qj(x:Cl):P1:=[I x.ki,I x.it,I x.fr,I x.to,I x.re,I x.n,I x.a,I x.b]
def Qd(x:En):P1:=[I x.id,I x.it,I x.fr,I x.ea,I x.la,I x.bo,.sl .ro (x.al.map Qe)]
def Xm(x:Bk):P1:=[I x.id,I x.it,I x.re,I x.fr,I x.to,I x.un,I x.pr]
def Qc(p:Pl):P1:=[I p.ch,I p.nu,I p.de,I p.of,.sl .ro (p.sh.map Qe),I p.ep,I p.rg,I p.ln,I p.fi,.sl .ro (p.aT.map Ql),.sl .ro (p.ens.map Qd),.sl .ro (p.bks.map Xm),.sl .ro (p.cls.map Qj)]
def F7(l:List Sp)(s:Sp)(hl:l.length<=10000000):Pure Tryz.prog aD 193 [.sl .ro (l.map Qe),.agg [I s.1,I s.2]] (.bool (KP [s] l).isEmpty):=by
 have h:=zu [s] l zd hl;have h':=Xl (l:=[.sl .full [[I s.1,I s.2]],.sl .ro (l.map Qe)]) h ⟨Wk.sl _ _,Ps,trivial⟩;generalize KP [s] l=R at h';refine Qm ade (fun _ f _=>if f=226 then .sl .ro (R.map Qe)else .junk) zd ?_;cases R with
 |nil=>simp[TZ,T1];exact h'
 |cons a r=>
  have:¬(r.length:Int)+1=0:=zE
  simp[TZ,T1,this];exact h'
def Xk(id:Int):List It->Option It
 |[]=>none
 |x::r=>if x.id=id then some x else Xk id r
def F8{id:Int}{x:It}:∀{l:List It},Xk id l=some x->x∈l/\x.id=id
 |[],h=>by cases h
 |y::r,h=>by
  simp only[Xk]at h;split at h
  ·rename_i hy;cases h;exact⟨zd,hy⟩
  obtain⟨h1,h2⟩:=F8 h;exact⟨by simp[h1],h2⟩
def Zu:Option It->AV
 |some x=>.aS [.agg (Ql x),.bool true]
 |none=>.aS [.agg [I 0,I 0,I 0,I 0,I 0],.bool false]
def kP(p:Pl)(id:Int)(hl:p.aT.length<=1000000000):Pure Tryz.prog aD 218 [.agg (Qc p),I id] (Zu (Xk id p.aT)):=by
 refine Qm adq (fun _ _ _=>.junk) zd ?_;simp[ah7,Qc];refine Qk Cj (fun f m=>∃(i:Nat)(bx:X2),f 11=I i/\i<=p.aT.length/\Xk id (p.aT.drop i)=Xk id p.aT/\m=⟨Qc p::[I 0,I 0,I 0,I 0,I 0]::bx,[],fun _=>.gone,0⟩) (fun f _=>p.aT.length-(numOf (f 11)).toNat) ?_ ?_
 ·exact⟨0,[],zd,zE,rfl,rfl⟩
 rintro f m ⟨i,bx,pG,hi,hf,rfl⟩;rcases zzab i p.aT.length with ah|bu
 ·obtain⟨x,hx⟩:=aX ah;have ai:Qf (p.aT.map Ql) i=Ql x:=Qv (by simp[hx]);have aa:(i:Int)<(p.aT.length:Int):=zE
  have hw:=bO i zE;have hd:p.aT.drop i=x::p.aT.drop (i+1):=by rw[zzae ah,(zza.1 hx).2]
  rw[hd,Xk]at hf;by_cases aL:x.id=id
  ·rw[if_pos aL]at hf;simp[pG,ah,aa,ai,Ql,aL,Cj,T4,<- hf,Zu]
  rw[if_neg aL]at hf;simp[pG,ah,aa,ai,Ql,aL,Cj,hw];refine⟨aP,⟨i+1,zd,zE,hf⟩,zE⟩
 rw[zzaj bu]at hf;have bT:¬(i:Int)<(p.aT.length:Int):=zE
 simp[pG,zzbj.2 bu,bT,Cj,T4,<- hf,Zu,Xk]
def wL:List (Int×Int×Int×Int):=[(24000,1001,24,0),(24,1,24,0),(25,1,25,0),(30000,1001,30,2),(30,1,30,0),(50,1,50,0),(60000,1001,60,4),(60,1,60,0)]
def zw(nu de:Int):List (Int×Int×Int×Int)->Option (Int×Int×Int×Int)
 |[]=>none
 |x::r=>if x.1=nu/\x.2.1=de then some x else zw nu de r
def Vf(nu de:Int):Bool:=(zw nu de wL).isSome
def F9:Option (Int×Int×Int×Int)->AV
 |some x=>.aS [.agg [I x.1,I x.2.1,I x.2.2.1,I x.2.2.2],.bool true]
 |none=>.aS [.agg [I 0,I 0,I 0,I 0],.bool false]
def QS:∀i:Nat,i<8->∃x,wL[i]?=some x/\(Db.drop (i*4)).take 4=[I x.1,I x.2.1,I x.2.2.1,I x.2.2.2]/\wL.drop i=x::wL.drop (i+1)
 |0,_=>⟨_,rfl,rfl,rfl⟩
 |1,_=>⟨_,rfl,rfl,rfl⟩
 |2,_=>⟨_,rfl,rfl,rfl⟩
 |3,_=>⟨_,rfl,rfl,rfl⟩
 |4,_=>⟨_,rfl,rfl,rfl⟩
 |5,_=>⟨_,rfl,rfl,rfl⟩
 |6,_=>⟨_,rfl,rfl,rfl⟩
 |7,_=>⟨_,rfl,rfl,rfl⟩
 |n+8,h=>zE
def Jk{nu de:Int}(h:Vf nu de=true):24<=nu/\nu<=60000/\1<=de/\de<=1001/\de<nu:=by
 simp only[Vf,wL,zw]at h;repeat' split at h
 all_goals first|(cases h;done)|omega
theorem XH:Db.length=32:=rfl
def QT(nu de:Int):Pure Tryz.prog aD 211 [.agg [I nu,I de]] (F9 (zw nu de wL)):=by
 refine Qm adj (fun _ _ _=>.junk) zd ?_;have hg:aD 2=.ep Db 0:=rfl;have iG:=XH;have bD:Db.take 32=Db:=rfl;simp[ahW,hg,iG,bD];refine Qk vk (fun f m=>∃(i:Nat)(bx:X2),f 7=I i/\i<=8/\zw nu de (wL.drop i)=zw nu de wL/\m=⟨[I nu,I de]::[I 0,I 0,I 0,I 0]::bx,[],fun _=>.gone,0⟩) (fun f _=>8-(numOf (f 7)).toNat) ?_ ?_
 ·exact⟨0,[],zd,zE,rfl,rfl⟩
 rintro f m ⟨i,bx,h7,hi,hf,rfl⟩;by_cases h8:i=8
 ·subst h8;have:zw nu de (wL.drop 8)=none:=rfl;rw[this]at hf;simp[h7,vk,T2,<- hf,F9]
 have ah:i<8:=zE
 obtain⟨x,hx,ai,hd⟩:=QS i ah;have aa:(i:Int)<8:=zE
 have hw:=bO i zE;have wH:min 4 (32-i*4)=4:=zE
 rw[hd,zw]at hf;by_cases hc:x.1=nu/\x.2.1=de
 ·rw[if_pos hc]at hf;simp[h7,ah,aa,iG,ai,wH,hc.1,hc.2,vk,T2,<- hf,F9]
 rw[if_neg hc]at hf;by_cases fB:x.1=nu
 ·have yZ:¬x.2.1=de:=fun h=>hc ⟨fB,h⟩;simp[h7,ah,aa,iG,ai,wH,fB,yZ,vk,hw];refine⟨aP,⟨i+1,zd,zE,hf⟩,zE⟩
 simp[h7,ah,aa,iG,ai,wH,fB,vk,hw];refine⟨aP,⟨i+1,zd,zE,hf⟩,zE⟩
def We(nu de:Int):Pure Tryz.prog aD 176 [.agg [I nu,I de]] (.bool (Vf nu de)):=by
 have h:=QT nu de;unfold Vf;refine Qm acZ (fun _ _ _=>F9 (zw nu de wL)) zd ?_;cases hf:zw nu de wL with
 |none=>rw[hf]at h;simp only[F9]at h;simp[TO,TP,F9];exact h
 |some x=>rw[hf]at h;simp only[F9]at h;simp[TO,TP,F9];exact h
def Ga(f:Int):Pure Tryz.prog aD 262 [I f] (.bool (decide (0<=f/\f<=100000000))):=by
 refine Qm adX (fun _ _ _=>.junk) zd ?_;by_cases h1:0<=f<;>by_cases h2:f<=100000000<;>simp[aiE,aiF,h1,h2]
def sK(f:Int):Pure Tryz.prog aD 192 [I f] (.bool (decide (0<=f/\f<=100000000))):=by
 refine Qm adb (fun _ _ _=>.junk) zd ?_;by_cases h1:0<=f<;>by_cases h2:f<=100000000<;>simp[ahO,ahP,h1,h2]
def Yf(nu de f:Int):Int:=if Vf nu de=true/\0<=f/\f<=100000000 then(f*de).tdiv nu else -1
def wM(nu de s:Int):Int:=if Vf nu de=true/\0<=s/\s<=10000000000 then(s*nu+de-1).tdiv de else -1
def Dc{x y a b:Int}(h1:0<=x/\x<=a)(h2:0<=y/\y<=b):0<=x*y/\x*y<=a*b:=
 ⟨zzee h1.1 h2.1,Int.mul_le_mul h1.2 h2.2 h2.1 (zzho h1.1 h1.2)⟩
def Dd{x y:Int}(h:0<=x)(hy:1<=y):0<=x.tdiv y/\x.tdiv y<=x:=by
 rw[zzca h];exact⟨Int.ediv_nonneg h zE,Int.ediv_le_self _ h⟩
def QU(nu de f:Int):Pure Tryz.prog aD 248 [.agg [I nu,I de],I f] (I (Yf nu de f)):=by
 have h1:=We nu de;have h2:=Ga f;refine Qm adO (fun _ g _=>if g=176 then .bool (Vf nu de)else .bool (decide (0<=f/\f<=100000000))) zd ?_;cases hv:Vf nu de with
 |false=>rw[hv]at h1;simp[Nq,Nr,hv,Yf];exact h1
 |true=>
  rw[hv]at h1;by_cases hf:0<=f/\f<=100000000
  ·obtain⟨b1,b2,b3,b4,_⟩:=Jk hv;obtain⟨p1,p2⟩:=Dc (x:=f) (y:=de) (a:=100000000) (b:=1001) ⟨hf.1,hf.2⟩ ⟨zE,zE⟩;have w1:IntKind.i64.wrap (f*de)=f*de:=by rw[Qh]<;>omega
   obtain⟨d1,d2⟩:=Dd (x:=f*de) (y:=nu) p1 zE;have w2:IntKind.i64.wrap ((f*de).tdiv nu)=(f*de).tdiv nu:=by rw[Qh]<;>omega
   have hnz:¬nu=0:=zE
   simp[hf]at h2;simp[Nq,Nr,hv,Yf,hf,w1,w2,hnz];exact⟨h1,h2⟩
  simp only[hf,decide_false]at h2;simp[Nq,Nr,hv,Yf,hf];exact⟨h1,h2⟩
def aeL(a b:Int)(ha:0<=a/\a<=1000000000000000)(hb:1<=b/\b<=1001):Pure Tryz.prog aD 242 [I a,I b] (I ((a+b-1).tdiv b)):=by
 refine Qm adL (fun _ _ _=>.junk) zd ?_;have w1:IntKind.i64.wrap (a+b)=a+b:=by rw[Qh]<;>omega
 have w2:IntKind.i64.wrap (a+b-1)=a+b-1:=by rw[Qh]<;>omega
 obtain⟨d1,d2⟩:=Dd (x:=a+b-1) (y:=b) zE zE;have w3:IntKind.i64.wrap ((a+b-1).tdiv b)=(a+b-1).tdiv b:=by rw[Qh]<;>omega
 have hnz:¬b=0:=zE
 simp[aiu,aiv,w1,w2,w3,hnz]
def A4(nu de s:Int):Pure Tryz.prog aD 220 [.agg [I nu,I de],I s] (I (wM nu de s)):=by
 have h1:=We nu de;refine Qm adt (fun _ g _=>if g=176 then .bool (Vf nu de)else I (wM nu de s)) zd ?_;cases hv:Vf nu de with
 |false=>rw[hv]at h1;simp[EJ,EK,hv,wM];exact h1
 |true=>
  rw[hv]at h1;by_cases JR:s<0
  ·have:¬(0<=s/\s<=10000000000):=zE
   simp[EJ,EK,hv,wM,JR,this];exact h1
  by_cases hs1:10000000000<s
  ·have:¬(0<=s/\s<=10000000000):=zE
   simp[EJ,EK,hv,wM,JR,hs1,this];exact h1
  have hs:0<=s/\s<=10000000000:=zE
  obtain⟨b1,b2,b3,b4,_⟩:=Jk hv;obtain⟨p1,p2⟩:=Dc (x:=s) (y:=nu) (a:=10000000000) (b:=60000) ⟨hs.1,hs.2⟩ ⟨zE,zE⟩;have w1:IntKind.i64.wrap (s*nu)=s*nu:=by rw[Qh]<;>omega
  have h2:=aeL (s*nu) de ⟨p1,zE⟩ ⟨zE,zE⟩;simp[EJ,EK,hv,wM,JR,hs1,hs,w1];exact⟨h1,h2⟩
def gY(n:Int):Bool:=decide (-50400<=n/\n<=50400)
def wN(n:Int):Pure Tryz.prog aD 212 [I n] (.bool (gY n)):=by
 refine Qm adk (fun _ _ _=>.junk) zd ?_;by_cases h1: -50400<=n<;>by_cases h2:n<=50400<;>simp[ahX,ahY,gY,h1,h2]
def tP:Int->List Sp->Bool
 |_,[]=>true
 |last,s::r=>if s.1<=last\/10000000000<s.1\/gY s.2=false then false else tP s.1 r
def Vy(of:Int)(sh:List Sp):Bool:=decide (sh.length<=40)&&gY of&&tP (-1) sh
def jt(of:Int)(sh:List Sp)(hl:sh.length<=1000000000):Pure Tryz.prog aD 177 [.agg [I of,.sl .ro (sh.map Qe)]] (.bool (Vy of sh)):=by
 have h1:=wN of;refine Qm ac0 (fun d f a=>match a with|[.int _ n]=>.bool (gY n)|_=>.junk) zd ?_;by_cases h40:40<sh.length
 ·have aeM:(40:Int)<(sh.length:Int):=zE
  have:Vy of sh=false:=by simp[Vy];intro h;omega
  simp[EH,vf,h40,aeM,this]
 have aeM:¬(40:Int)<(sh.length:Int):=zE
 cases ho:gY of with
 |false=>
  have:Vy of sh=false:=by simp[Vy,ho]
  rw[ho]at h1;simp[EH,vf,h40,aeM,this,ho];exact h1
 |true=>
  have hv:Vy of sh=tP (-1) sh:=by simp[Vy,ho];intro _;omega
  rw[ho]at h1;simp[EH,h40,aeM,ho];refine⟨h1,?_⟩;refine Qk qz (fun f m=>∃(i:Nat)(last:Int)(bx:X2),f 19=I i/\f 3=I last/\i<=sh.length/\tP last (sh.drop i)=tP (-1) sh/\m=⟨[I of,.sl .ro (sh.map Qe)]::bx,[],fun _=>.gone,0⟩) (fun f _=>sh.length-(numOf (f 19)).toNat) ?_ ?_
  ·exact⟨0,-1,[],zd,zd,zE,rfl,rfl⟩
  rintro f m ⟨i,last,bx,h19,h3,hi,ha,rfl⟩;rcases zzab i sh.length with ah|bu
  ·obtain⟨s,hs⟩:=aX ah;have ai:=Ze hs;have aa:(i:Int)<(sh.length:Int):=zE
   have hw:=bO i zE;have hd:sh.drop i=s::sh.drop (i+1):=by rw[zzae ah,(zza.1 hs).2]
   rw[hd,tP]at ha;have hp:=wN s.2;by_cases c1:s.1<=last
   ·rw[if_pos (.inl c1)]at ha;simp[h19,h3,ah,aa,ai,c1,qz,vf,hv,<- ha]
   by_cases c2:10000000000<s.1
   ·rw[if_pos (.inr (.inl c2))]at ha;simp[h19,h3,ah,aa,ai,c1,c2,qz,vf,hv,<- ha]
   cases c3:gY s.2 with
   |false=>
    rw[if_pos (.inr (.inr c3))]at ha;rw[c3]at hp;simp[h19,h3,ah,aa,ai,c1,c2,c3,qz,vf,hv,<- ha];exact hp
   |true=>
    rw[if_neg (by rintro(h|h|h);exact c1 h;exact c2 h;rw[c3]at h;cases h)]at ha;rw[c3]at hp;simp[h19,h3,ah,aa,ai,c1,c2,c3,qz,hw];refine⟨hp,aP,⟨i+1,zd,zE,ha⟩,zE⟩
  rw[zzaj bu,tP]at ha;have bT:¬(i:Int)<(sh.length:Int):=zE
  simp[h19,zzbj.2 bu,bT,qz,vf,hv,<- ha]
def Jt(p:Pl):Bool:=Vf p.nu p.de&&Vy p.of p.sh&&decide (0<=p.ep/\p.ep<=9000000000)
def KQ(p:Pl)(hl:p.sh.length<=1000000000):Pure Tryz.prog aD 227 [.agg (Qc p)] (.bool (Jt p)):=by
 have h1:=We p.nu p.de;have h2:=jt p.of p.sh hl;refine Qm adA (fun _ g _=>if g=176 then .bool (Vf p.nu p.de)else .bool (Vy p.of p.sh)) zd ?_;cases hv:Vf p.nu p.de with
 |false=>rw[hv]at h1;simp[Nh,Ni,Qc,Jt,hv];exact h1
 |true=>
  rw[hv]at h1;cases hz:Vy p.of p.sh with
  |false=>rw[hz]at h2;simp[Nh,Ni,Qc,Jt,hv,hz];exact⟨h1,h2⟩
  |true=>
   rw[hz]at h2;by_cases c1:0<=p.ep<;>by_cases c2:p.ep<=9000000000<;>simp[Nh,Ni,Qc,Jt,hv,hz,c1,c2]<;>exact⟨h1,h2⟩
instance:DecidableEq Cl:=fun x y=>decidable_of_iff (x.ki=y.ki/\x.it=y.it/\x.fr=y.fr/\x.to=y.to/\x.re=y.re/\x.n=y.n/\x.a=y.a/\x.b=y.b) (by cases x;cases y;simp)
def wi(n lo hi:Int):Bool:=decide (lo<=n/\n<=hi)
def Vl(n lo hi:Int):Pure Tryz.prog aD 69 [I n,I lo,I hi] (.bool (wi n lo hi)):=by
 refine Qm akU (fun _ _ _=>.junk) zd ?_;by_cases h1:lo<=n<;>by_cases h2:n<=hi<;>simp[apH,apI,wi,h1,h2]
def Jr(c:Cl):Cl:=
 if c.ki=1\/c.ki=2 then⟨c.ki,c.it,c.fr,c.to,c.re,0,0,0⟩else if c.ki=3\/c.ki=4 then⟨c.ki,c.it,0,0,c.re,c.n,0,0⟩else
 if c.ki=5 then⟨c.ki,0,0,0,0,c.n,c.a,c.b⟩else if c.ki=6 then⟨c.ki,0,c.fr,c.to,0,0,c.a,0⟩else⟨0,0,0,0,0,0,0,0⟩
def QV(c:Cl):Pure Tryz.prog aD 67 [.agg (Qj c)] (.agg (Qj (Jr c))):=by
 refine Qm akQ (fun _ _ _=>.junk) zd ?_;by_cases h1:c.ki=1
 ·simp[Em,Eo,Qj,Jr,h1]
 by_cases h2:c.ki=2
 ·simp[Em,Eo,Qj,Jr,h2]
 by_cases h3:c.ki=3
 ·simp[Em,Eo,Qj,Jr,h3]
 by_cases h4:c.ki=4
 ·simp[Em,Eo,Qj,Jr,h4]
 by_cases h5:c.ki=5
 ·simp[Em,Eo,Qj,Jr,h5]
 by_cases h6:c.ki=6
 ·simp[Em,Eo,Qj,Jr,h6]
 simp[Em,Eo,Qj,Jr,h1,h2,h3,h4,h5,h6]
def Vd(c:Cl):Bool:=wi c.it 1 4611686018427387903&&wi c.re 1 255
def De:X1:=fun _ _ l=>match l with
 |[.int _ n,.int _ lo,.int _ hi]=>.bool (wi n lo hi)
 |_=>.junk
def Gb(c:Cl):Pure Tryz.prog aD 68 [.agg (Qj c)] (.bool (Vd c)):=by
 have h1:=Vl c.it 1 4611686018427387903;have h2:=Vl c.re 1 255;refine Qm akT De zd ?_;cases e1:wi c.it 1 4611686018427387903 with
 |false=>rw[e1]at h1;simp[akR,akS,Qj,De,Vd,e1];exact h1
 |true=>rw[e1]at h1;simp[akR,akS,Qj,De,Vd,e1];exact⟨h1,h2⟩
def Vr(n:Int):Bool:=wi n 0 86340&&decide (n.tmod 60=0)
def sL(n:Int):Pure Tryz.prog aD 70 [I n] (.bool (Vr n)):=by
 have h1:=Vl n 0 86340;refine Qm akX De zd ?_;cases e1:wi n 0 86340 with
 |false=>rw[e1]at h1;simp[akV,akW,De,Vr,e1];exact h1
 |true=>
  rw[e1]at h1;by_cases e2:n.tmod 60=0<;>simp[akV,akW,De,Vr,e1,e2]<;>exact h1
def Ua(c:Cl):Bool:=
 if c.ki=1\/c.ki=2 then Vd c&&(decide (0<=c.fr)&&(decide (c.fr<c.to)&&decide (c.to<=10000000000)))else if c.ki=3 then Vd c&&wi c.n 0 1000 else
 if c.ki=4 then Vd c&&wi c.n 0 10000000000 else if c.ki=5 then wi c.a 1 200&&(wi c.b 1 200&&(decide (c.a≠c.b)&&wi c.n 0 86400))else
 if c.ki=6 then wi c.a 1 3&&(Vr c.fr&&(Vr c.to&&decide (c.fr≠c.to)))else false
def Xe(c:Cl):Bool:=decide (Jr c=c)&&Ua c
def ayy(c u:Cl):eqFs [I c.ki,I c.it,I c.fr,I c.to,I c.re,I c.n,I c.a,I c.b] [I u.ki,I u.it,I u.fr,I u.to,I u.re,I u.n,I u.a,I u.b]=decide (u=c):=by
 obtain⟨a1,a2,a3,a4,a5,a6,a7,a8⟩:=c;obtain⟨b1,b2,b3,b4,b5,b6,b7,b8⟩:=u;simp only[eqFs,eqF,Cl.mk.injEq,zzhk];by_cases h:(b1=a1/\b2=a2/\b3=a3/\b4=a4/\b5=a5/\b6=a6/\b7=a7/\b8=a8)
 ·obtain⟨rfl,rfl,rfl,rfl,rfl,rfl,rfl,rfl⟩:=h;simp
 rw[decide_eq_false h];apply Bool.eq_false_iff.2;intro hh;simp only[zzak,beq_iff_eq]at hh;obtain⟨e1,e2,e3,e4,e5,e6,e7,e8⟩:=hh;exact h ⟨e1.symm,e2.symm,e3.symm,e4.symm,e5.symm,e6.symm,e7.symm,e8.symm⟩
def amT(c:Cl):X1:=fun _ f l=>
 if f=67 then .agg (Qj (Jr c))else if f=68 then .bool (Vd c)else if f=69 then(match l with
 |[.int _ n,.int _ lo,.int _ hi]=>.bool (wi n lo hi)
 |_=>.junk)else match l with
 |[.int _ n]=>.bool (Vr n)
 |_=>.junk
def Kj(c:Cl):Pure Tryz.prog aD 31 [.agg (Qj c)] (.bool (Xe c)):=by
 have h0:=QV c;have hE:=ayy c (Jr c);have hi:=Gb c;refine Qm aki (amT c) zd ?_;by_cases hu:Jr c=c
 ·rw[hu]at h0 hE;simp only[decide_true]at hE;have hv:Xe c=Ua c:=by simp[Xe,hu]
  rw[hv];simp[-eqFs,akh,Qj,amT,hu,hE];refine⟨h0,?_⟩;by_cases h1:c.ki=1\/c.ki=2
  ·have hk:Ua c=(Vd c&&(decide (0<=c.fr)&&(decide (c.fr<c.to)&&decide (c.to<=10000000000)))):=by unfold Ua;rw[if_pos h1]
   rw[hk];clear hk hv;cases e1:Vd c with
   |false=>rw[e1]at hi;rcases h1 with h1|h1<;>(simp[iu,h1,e1];simpa[Qj,h1]using hi)
   |true=>
    rw[e1]at hi;by_cases e2:0<=c.fr<;>by_cases e3:c.fr<c.to<;>by_cases e4:c.to<=10000000000<;>rcases h1 with h1|h1<;>(simp[iu,h1,e1,e2,e3,e4];simpa[Qj,h1]using hi)
  have pG:¬c.ki=1:=fun h=>h1 (.inl h);have oe:¬c.ki=2:=fun h=>h1 (.inr h);by_cases h3:c.ki=3
  ·have hk:Ua c=(Vd c&&wi c.n 0 1000):=by unfold Ua;rw[if_neg h1,if_pos h3]
   rw[hk];clear hk hv;have hw:=Vl c.n 0 1000;cases e1:Vd c with
   |false=>rw[e1]at hi;simp[iu,h3,e1];simpa[Qj,h3]using hi
   |true=>rw[e1]at hi;simp[iu,h3,e1];exact⟨by simpa[Qj,h3]using hi,hw⟩
  by_cases h4:c.ki=4
  ·have hk:Ua c=(Vd c&&wi c.n 0 10000000000):=by unfold Ua;rw[if_neg h1,if_neg h3,if_pos h4]
   rw[hk];clear hk hv;have hw:=Vl c.n 0 10000000000;cases e1:Vd c with
   |false=>rw[e1]at hi;simp[iu,h4,e1];simpa[Qj,h4]using hi
   |true=>rw[e1]at hi;simp[iu,h4,e1];exact⟨by simpa[Qj,h4]using hi,hw⟩
  by_cases h5:c.ki=5
  ·have hk:Ua c=(wi c.a 1 200&&(wi c.b 1 200&&(decide (c.a≠c.b)&&wi c.n 0 86400))):=by unfold Ua;rw[if_neg h1,if_neg h3,if_neg h4,if_pos h5]
   rw[hk];clear hk hv hi;have w1:=Vl c.a 1 200;have w2:=Vl c.b 1 200;have w3:=Vl c.n 0 86400;cases e1:wi c.a 1 200 with
   |false=>rw[e1]at w1;simp[iu,h5,e1];exact w1
   |true=>
    rw[e1]at w1;cases e2:wi c.b 1 200 with
    |false=>rw[e2]at w2;simp[iu,h5,e1,e2];exact⟨w1,w2⟩
    |true=>
     rw[e2]at w2;by_cases e3:c.a=c.b
     ·simp[iu,h5,e1,e2,e3];exact w2
     simp[iu,h5,e1,e2,e3];exact⟨w1,w2,w3⟩
  by_cases h6:c.ki=6
  ·have hk:Ua c=(wi c.a 1 3&&(Vr c.fr&&(Vr c.to&&decide (c.fr≠c.to)))):=by unfold Ua;rw[if_neg h1,if_neg h3,if_neg h4,if_neg h5,if_pos h6]
   rw[hk];clear hk hv hi;have w1:=Vl c.a 1 3;have w2:=sL c.fr;have w3:=sL c.to;cases e1:wi c.a 1 3 with
   |false=>rw[e1]at w1;simp[iu,h6,e1];exact w1
   |true=>
    rw[e1]at w1;cases e2:Vr c.fr with
    |false=>rw[e2]at w2;simp[iu,h6,e1,e2];exact⟨w1,w2⟩
    |true=>
     rw[e2]at w2;cases e4:Vr c.to with
     |false=>rw[e4]at w3;simp[iu,h6,e1,e2,e4];exact⟨w1,w2,w3⟩
     |true=>
      rw[e4]at w3;by_cases e3:c.fr=c.to
      ·simp[iu,h6,e1,e2,e4,e3];exact⟨w1,w3⟩
      simp[iu,h6,e1,e2,e4,e3];exact⟨w1,w2,w3⟩
  have hk:Ua c=false:=by unfold Ua;rw[if_neg h1,if_neg h3,if_neg h4,if_neg h5,if_neg h6]
  rw[hk];simp[iu,pG,oe,h3,h4,h5,h6]
 simp only[hu,decide_false]at hE;have hv:Xe c=false:=by simp[Xe,hu]
 rw[hv];simp[-eqFs,akh,iu,Qj,amT,hE];exact h0
def atz(a:Int):IntKind.i64.wrap ((BitVec.ofInt 64 a&&& 1#64).toNat:Int)=a%2:=by
 have h:(BitVec.ofInt 64 a&&& 1#64).toNat=(BitVec.ofInt 64 a).toNat%2:=by
  rw[BitVec.toNat_and];exact Nat.and_one_is_mod _
 rw[h,BitVec.toNat_ofInt,Qh]<;>omega
def amU(c:Cl)(region:Int):Bool:=decide (c.re.fdiv (2 ^ (min region.toNat 64))%2=1)
def gV(c:Cl)(item region:Int):Bool:=wi region 0 7&&(decide (c.it=item)&&amU c region)
def me(c:Cl)(item region:Int):Pure Tryz.prog aD 257 [.agg (Qj c),I item,I region] (.bool (gV c item region)):=by
 have h1:=Vl region 0 7;refine Qm adV De zd ?_;cases e1:wi region 0 7 with
 |false=>rw[e1]at h1;simp[EO,EP,Qj,De,gV,e1];exact h1
 |true=>
  have hr:0<=region:=by simp[wi]at e1;omega
  rw[e1]at h1;by_cases e2:c.it=item
  ·by_cases e3:c.re.fdiv (2 ^ (min region.toNat 64))%2=1
   ·simp[EO,EP,Qj,De,gV,e1,e2,e3,hr,amU,IntKind.bits];exact⟨h1,(atz _).trans e3⟩
   simp[EO,EP,Qj,De,gV,e1,e2,e3,hr,amU,IntKind.bits];exact⟨h1,fun h=>e3 ((atz _).symm.trans h)⟩
  simp[EO,EP,Qj,De,gV,e1,e2];exact h1
def Gc(cm:Int)(c:Cl):Bool:=decide (c.ki=6)&&(decide (c.a<=cm)&&Xe c)
def ux(cs:List Cl)(cm:Int):List Sp:=(cs.filter (Gc cm)).map fun c=>(c.fr,c.to)
def tQ(cs:List Cl)(cm:Int)(hl:cs.length<=100000000):Pure Tryz.prog aD 251 [.sl .ro (cs.map Qj),I cm] (.sl .ro ((ux cs cm).map Qe)):=by
 have key:∀r,r=(if ux cs cm=[]then AV.sl .nil []else .sl .ro ((ux cs cm).map Qe))->Pure Tryz.prog aD 251 [.sl .ro (cs.map Qj),I cm] r:=by
  rintro r rfl
  refine Qm adR (fun d f l=>if f=999999 then .junk else match l with
   |[.agg [.int _ a,.int _ b,.int _ c,.int _ d,.int _ e,.int _ f,.int _ g,.int _ h]]=>.bool (Xe ⟨a,b,c,d,e,f,g,h⟩)
   |_=>.junk) zd ?_
  simp[Up]
  refine Qk iQ (fun f m=>∃(i:Nat)(bx:X2)(rt:Rt)(L':P2)(o:List Sp),i<=cs.length/\f 10=I i/\f 5=.sl rt (o.map Qe)/\m=⟨bx,L',fun _=>.gone,0⟩/\o.length<=i/\o++ux (cs.drop i) cm=ux cs cm/\
   ((o=[]/\rt=.nil/\L'=[])\/(o≠[]/\rt=.own 0 2/\L'=[o.length]))) (fun f _=>cs.length-(numOf (f 10)).toNat) ?_ ?_
  ·exact⟨0,[],.nil,[],[],zE,zd,zd,rfl,zd,zd,.inl ⟨rfl,rfl,rfl⟩⟩
  rintro f m ⟨i,bx,rt,L',o,hi,lE,h5,rfl,XC,ho,bn⟩;rcases zzab i cs.length with ah|bu
  ·obtain⟨c,hc⟩:=aX ah;have ai:Qf (cs.map Qj) i=Qj c:=Qv (by simp[hc]);have aa:(i:Int)<(cs.length:Int):=zE
   have hw:=bO i zE;have hd:cs.drop i=c::cs.drop (i+1):=by rw[zzae ah,(zza.1 hc).2]
   have hvp:=Kj c;rw[hd]at ho
   have dB:∀row∈o.map Qe,row.length=2:=by
    intro row h;rw[zzbk]at h;obtain⟨a,_,rfl⟩:=h;rfl
   have skip:Gc cm c=false->o++ux (cs.drop (i+1)) cm=ux cs cm:=by
    intro hb;rw[<- ho];simp[ux,hb]
   have take:Gc cm c=true->(o++[(c.fr,c.to)])++ux (cs.drop (i+1)) cm=ux cs cm:=by
    intro hb;rw[<- ho];simp[ux,hb]
   by_cases c1:c.ki=6
   ·have hc6:(⟨6,c.it,c.fr,c.to,c.re,c.n,c.a,c.b⟩:Cl)=c:=by cases c;simp at c1;subst c1;rfl
    have ny:Pure Tryz.prog aD 31 [.agg [I 6,I c.it,I c.fr,I c.to,I c.re,I c.n,I c.a,I c.b]] (.bool (Xe c)):=by simpa[Qj,c1]using hvp
    by_cases c2:c.a<=cm
    ·cases c3:Xe c with
     |true=>
      have ht:=take (by simp[Gc,c1,c2,c3]);rw[c3]at ny;obtain⟨rfl,rfl,rfl⟩|⟨aK,rfl,rfl⟩:=bn
      ·simp[lE,h5,ah,aa,ai,Qj,c1,c2,hc6,c3,iQ,hw];refine⟨ny,aP,⟨i+1,zE,zd,_,.own 0 2,[1],[(c.fr,c.to)],⟨rfl,rfl⟩,⟨rfl,rfl⟩,zd,ht,zd⟩,zE⟩
      simp[lE,h5,ah,aa,ai,Qj,c1,c2,hc6,c3,iQ,hw];refine⟨ny,⟨?_,zE⟩,aP,⟨i+1,zE,zd,_,.own 0 2,[o.length+1],o++[(c.fr,c.to)],⟨rfl,by simp[Qe]⟩,⟨rfl,rfl⟩,by simp;omega,ht,zd⟩,zE⟩
      ·rintro row (⟨a,b,_,rfl⟩|rfl)<;>rfl
     |false=>
      have hs:=skip (by simp[Gc,c3]);rw[c3]at ny;simp[lE,h5,ah,aa,ai,Qj,c1,c2,hc6,c3,iQ,hw];refine⟨ny,aP,⟨i+1,zE,zd,_,rt,L',o,⟨rfl,rfl⟩,⟨rfl,rfl⟩,zE,hs,bn⟩,zE⟩
    have hs:=skip (by simp[Gc,c2]);simp[lE,h5,ah,aa,ai,Qj,c1,c2,iQ,hw];refine⟨aP,⟨i+1,zE,zd,_,rt,L',o,⟨rfl,rfl⟩,⟨rfl,rfl⟩,zE,hs,bn⟩,zE⟩
   have hs:=skip (by simp[Gc,c1]);simp[lE,h5,ah,aa,ai,Qj,c1,iQ,hw];refine⟨aP,⟨i+1,zE,zd,_,rt,L',o,⟨rfl,rfl⟩,⟨rfl,rfl⟩,zE,hs,bn⟩,zE⟩
  obtain rfl:i=cs.length:=zE
  have he:ux cs cm=o:=by rw[<- ho];simp[ux]
  rw[he];obtain⟨rfl,rfl,rfl⟩|⟨aK,rfl,rfl⟩:=bn
  ·simp[lE,h5,iQ,UA]
  simp[lE,h5,iQ,UA,aK]
 have hk:=key _ rfl;by_cases hn:ux cs cm=[]
 ·rw[if_pos hn]at hk;rw[hn];exact Zc hk (Wk.sl _ _)
 rw[if_neg hn]at hk;exact hk
def wO(n:Int):Pure Tryz.prog aD 265 [I n] (.bool (decide (0<=n/\n<86400))):=by
 refine Qm ad0 (fun _ _ _=>.junk) zd ?_;by_cases h1:0<=n<;>by_cases h2:n<86400<;>simp[aiH,aiI,h1,h2]
def Gd(n:Int)(h: -100000000000<=n/\n<=100000000000):Pure Tryz.prog aD 268 [I n] (.aS [I (n/86400),I (n%86400)]):=by
 refine Qm ad3 (fun _ _ _=>.junk) zd ?_
 have ht:n.tdiv 86400=if 0<=n\/n%86400=0 then n/86400 else n/86400+1:=by
  by_cases h0:0<=n
  ·rw[if_pos (.inl h0),zzca h0]
  rw[Int.tdiv_eq_ediv];by_cases h1:n%86400=0
  ·rw[if_pos (.inr (Int.dvd_of_emod_eq_zero h1)),if_pos (.inr h1)];simp
  rw[if_neg (by rintro(h|h);exact h0 h;exact h1 (Int.emod_eq_zero_of_dvd h)),if_neg (by rintro(h|h);exact h0 h;exact h1 h)];rfl
 have hm:n.tmod 86400=n-n.tdiv 86400*86400:=by have:=Int.mul_tdiv_add_tmod n 86400;omega
 have w1:IntKind.i64.wrap (n.tdiv 86400)=n.tdiv 86400:=by rw[ht];split<;>rw[Qh]<;>omega
 by_cases gK:n.tmod 86400<0
 ·have e1:n.tdiv 86400=n/86400+1:=by
   rw[ht]at hm |-
   split
   ·rename_i hc;rw[if_pos hc]at hm;omega
   rfl
  have w2:IntKind.i64.wrap (n/86400+1)=n/86400+1:=by rw[Qh]<;>omega
  have w3:IntKind.i64.wrap (n/86400)=n/86400:=by rw[Qh]<;>omega
  have e2:n.tmod 86400=n%86400-86400:=by rw[hm,e1];omega
  have w4:IntKind.i64.wrap (n%86400)=n%86400:=by rw[Qh]<;>omega
  have eL:n%86400<86400:=zE
  have hn3:¬86400<=n%86400:=zE
  simp[UD,UE,e1,e2,w2,w3,w4,eL,hn3]
 have e1:n.tdiv 86400=n/86400:=by
  rw[ht]at hm |-
  split
  ·rfl
  rename_i hc;rw[if_neg hc]at hm;omega
 have e2:n.tmod 86400=n%86400:=by rw[hm,e1];omega
 have w3:IntKind.i64.wrap (n/86400)=n/86400:=by rw[Qh]<;>omega
 have eL:¬n%86400<0:=zE
 simp[UD,UE,e1,e2,w3,eL]
def zx(fr to:Int):List Sp:=if fr<to then[(fr,to)]else if to<fr then[(0,to),(fr,86400)]else[(0,86400)]
def Df(fr to:Int):Pure Tryz.prog aD 269 [I fr,I to] (.sl .full ((zx fr to).map Qe)):=by
 refine Qm ad4 (fun _ _ _=>.junk) zd ?_;by_cases h1:fr<to
 ·simp[Nu,Nv,h1,zx,Qe]
 by_cases h2:to<fr
 ·simp[Nu,Nv,h1,h2,zx,Qe]
 simp[Nu,Nv,h1,h2,zx,Qe]
def uy:Int->Int->List Sp->List (Int×Int×Int)
 |f,o,[]=>[(f,10000000001,o)]
 |f,o,s::r=>(if f<s.1 then[(f,s.1,o)]else[])++uy s.1 s.2 r
def A5(x:Int×Int×Int):P1:=[.agg [I x.1,I x.2.1,I x.2.2]]
def wP(of:Int)(sh:List Sp):Pure Tryz.prog aD 267 [.agg [I of,.sl .ro (sh.map Qe)]] (.fn 281 [] [.ep [I of,.sl .ro (sh.map Qe)] 0]):=by
 refine Qm ad2 (fun _ _ _=>.junk) zd ?_;simp[aiJ,aiK]
def bS.put{O:Nat->Prop}{m:AM}{b:Nat}(hb:O b)(v:P1)(x:X2):bS O m {m with boxes:=m.boxes.set b v++x}:=
 ⟨zd,fun j hj ho=>by show Qf (m.boxes.set b v++x) j=_;rw[Qi (Nm hj),Qx v (by rintro rfl;exact ho hb)],⟨[],zd⟩,fun _ _=>rfl⟩
def bS.atA{O:Nat->Prop}{m:AM}{b:Nat}(hb:O b)(v:P1):bS O m {m with boxes:=m.boxes.set b v}:=
 ⟨zd,fun j hj ho=>by show Qf (m.boxes.set b v) j=_;rw[Qx v (by rintro rfl;exact ho hb)],⟨[],zd⟩,fun _ _=>rfl⟩
def wQ(of:Int)(sh:List Sp)(hl:sh.length<=1000000000):Ge Tryz.prog aD 281 [] [.ep [I of,.sl .ro (sh.map Qe)] 0] ((uy 0 of sh).map A5):=by
 intro Y l m K hF;refine Xn ad8 (fun _ _ _=>.junk) zd ?_;simp[UH];obtain⟨b,hbe⟩:∃b,m.boxes.length=b:=⟨_,rfl⟩;refine Qk Cs (fun f mm=>∃(i:Nat)(fr t o:Int)(O:Nat->Prop),f 12=I i/\i<=sh.length/\b<mm.boxes.length/\Qf mm.boxes b=[I fr,I t,I o]/\O b/\mh (Y l) K ((uy fr o (sh.drop i)).map A5) O mm) (fun f _=>sh.length-(numOf (f 12)).toNat) ?_ ?_
 ·refine⟨0,0,0,of,OU (fun _=>False) m.boxes.length (m.boxes.length+1),zd,zE,by simp[hbe],by simp[<- hbe],.inr ⟨zE,zE⟩,?_⟩;have:=hF.ext ((fR.box m [[I 0,I 0,I of]]).toO _);simpa using this
 rintro f mm ⟨i,fr,t,o,O,oe,hi,KR,ai,zy,hF⟩;rcases zzab i sh.length with ah|bu
 ·obtain⟨s,hs⟩:=aX ah;have uu:=Ze hs;have aa:(i:Int)<(sh.length:Int):=zE
  have hw:=bO i zE;have hd:sh.drop i=s::sh.drop (i+1):=by rw[zzae ah,(zza.1 hs).2]
  rw[hd,uy]at hF;have fk:∀x,Qf (mm.boxes++x) b=[I fr,I t,I o]:=fun x=>by rw[Qi KR];exact ai
  have rf:∀x y,(mm.boxes++x).set b y=mm.boxes.set b y++x:=fun x y=>Yb y KR;have nZ:∀y x,Qf (mm.boxes.set b y++x) b=y:=fun y x=>by rw[Qi (Nm KR),Xj _ KR]
  have eX:∀y x,Qf (mm.boxes.set b y++[x]) mm.boxes.length=x:=fun y x=>by
   have:=Xt (mm.boxes.set b y) [x] 0;rw[zzcf]at this;simpa using this
  have hsc:∀y x z,(mm.boxes.set b y++x).set b z=mm.boxes.set b z++x:=fun y x z=>by rw[Yb z (Nm KR),zzhp]
  by_cases hfs:fr<s.1
  ·rw[if_pos hfs]at hF;simp only[zzew,zzax]at hF;simp[oe,ah,aa,uu,fk,rf,nZ,eX,Cs,hbe,hfs,KR];refine⟨zE,hF _ (bS.put zy _ _) _ (fun m2 yQ gL=>?_) (fun m2 hK=>?_)⟩
   ·have az1:mm.boxes.length+1<=m2.boxes.length:=by have:=yQ.1;simpa using this
    have q1:Qf m2.boxes b=[I fr,I s.1,I o]:=by rw[yQ.2 b (.inl zy)];exact nZ _ _
    have q2:Qf m2.boxes mm.boxes.length=[I s.1,I s.2]:=by
     rw[yQ.2 mm.boxes.length (.inr ⟨zzaa _,zd⟩)];exact eX _ _
    have iI:b<m2.boxes.length:=zE
    have atB:OU O mm.boxes.length (mm.boxes.length+1) b:=.inl zy;simp at gL;have q3:∀y,Qf (m2.boxes.set b y) b=y:=fun y=>Xj _ iI;simp[q1,q2,q3,iI,hw];refine⟨aP,⟨i+1,zd,zE,s.1,0,s.2,⟨rfl,rfl,rfl⟩,_,.inl atB,gL.ext (bS.atA atB _)⟩,zE⟩
   simp[Nx];exact hK _ (bS.refl _ _)
  rw[if_neg hfs]at hF;simp only[zzah]at hF;simp[oe,ah,aa,uu,fk,rf,nZ,eX,hsc,Cs,hbe,hfs,KR,hw];refine⟨zE,aP,⟨i+1,zd,zE,zE,s.1,0,s.2,⟨rfl,rfl,rfl⟩,_,.inl zy,hF.ext (bS.put zy _ _)⟩,zE⟩
 obtain rfl:i=sh.length:=zE
 rw[zzbz,uy]at hF;simp only[zzax,zzce]at hF;simp[oe,Cs,hbe,ai,KR,Xj _ KR];refine hF _ (bS.atA zy _) _ (fun m2 _ gL=>?_) (fun m2 hK=>?_)
 ·simp[Nx];exact gL _ (bS.refl _ _)
 simp[Nx];exact hK _ (bS.refl _ _)
def nB(L:List Sp)(f t:Int):List Sp:=
 if f<t then(match L.getLast? with|some s=>if s.2=f then L.dropLast++[(s.1,t)]else L++[(f,t)]|none=>[(f,t)])else L
def iB(m:AM)(id k:Nat)(L:List Sp):Prop:=id<m.boxes.length/\((L=[]/\Qf m.boxes id=[.sl .nil []])\/(L≠[]/\k<m.boxes.length/\k≠id/\Qf m.boxes id=[.bs k 0 L.length 2]/\Qf m.boxes k=cL L))
def aeN:X1:=fun d f _=>if f=999999 then(if d=34 then .aM 0 []else .junk)else .junk
def XI(Y:YT)(f t:Int)(id k:Nat)(L:List Sp)(m:AM)(hO:iB m id k L)(hl:L.length<=1000000000)(K:UV)
  (hK:∀m' k',iB m' id k' (nB L f t)->(k'=k\/m.boxes.length<=k')->bE (fun j=>j=id\/(L≠[]/\j=k)) m.boxes m'.boxes->m'.st=m.st->m'.ln=m.ln->m'.lens=m.lens->K (.aS []) m'):aF Tryz.prog aD Y 266 [I f,I t,.ptr id 0] m K:=by
 obtain⟨h2,h3⟩:=hO;refine Xn ad1 aeN zd ?_;have fk:∀x,Qf (m.boxes++x) id=Qf m.boxes id:=fun x=>Qi h2;have rf:∀x y,(m.boxes++x).set id y=m.boxes.set id y++x:=fun x y=>Yb y h2;by_cases Iw:f<t
 ·have XJ:¬t<=f:=zE
  obtain⟨rfl,h1⟩|⟨aK,hk,gU,h1,ai⟩:=h3
  ·have ha:nB [] f t=[(f,t)]:=by simp[nB,Iw]
   rw[ha]at hK;simp[ER,ES,aeN,Iw,XJ,h1,h2,fk,rf];refine⟨zE,hK _ m.boxes.length ⟨by simp;omega,.inr ⟨zd,zd,zE,?_,?_⟩⟩ (.inr (zzaa _)) ((bE.set (S:=fun j=>j=id\/(([]:List Sp)≠[]/\j=k)) (bE.refl _ _) (.inl (.inl rfl)) _).app _) rfl rfl rfl⟩
   ·simp only[zzhe];rw[Qi (Nm h2),Xj _ h2]
   have:=Xt (m.boxes.set id [.bs m.boxes.length 0 1 2]) [[I f,I t]] 0;rw[zzcf]at this;simpa using this
  obtain⟨A,s,rfl⟩:∃A s,L=A++[s]:=⟨L.dropLast,L.getLast aK,(zzev aK).symm⟩;have ha:nB (A++[s]) f t=if s.2=f then A++[(s.1,t)]else A++[s]++[(f,t)]:=by simp[nB,Iw]
  rw[ha]at hK;have hw:IntKind.i64.wrap (A.length:Int)=(A.length:Int):=by simp at hl;rw[Qh]<;>omega
  have hg:(A++[s])[A.length]?=some s:=zd
  have g0:=uv hg;have g1:=F4 hg;have eO:(A++[s]).length=A.length+1:=zd
  rw[eO]at h1;have gl:(cL (A++[s])).length=A.length*2+2:=by rw[Vw,eO];omega
  have hR2:cL (A++[s]++[(f,t)])=cL (A++[s])++[I f,I t]:=by rw[Qbz];rfl
  have hR1:(cL (A++[s])).set (A.length*2+1) (I t)=cL (A++[(s.1,t)]):=by rw[wI _ _ s _ hg];simp
  have hrk:∀x,Qf (m.boxes++x) k=cL (A++[s]):=fun x=>by rw[Qi hk];exact ai
  have hsk:∀x y,(m.boxes++x).set k y=m.boxes.set k y++x:=fun x y=>Yb y hk;generalize hR:cL (A++[s])=R at*
  by_cases hs:s.2=f
  ·rw[if_pos hs]at hK;simp[ER,ES,aeN,Iw,XJ,h1,h2,hw,ai,g0,g1,gl,fk,rf,hrk,hsk,hk,hs];refine⟨zE,hK _ k ⟨Nm h2,.inr ⟨zd,Nm hk,gU,?_,?_⟩⟩ (.inl rfl) (bE.set (S:=fun j=>j=id\/(A++[s]≠[]/\j=k)) (bE.refl _ _) (.inl (.inr ⟨zd,rfl⟩)) _) rfl rfl rfl⟩
   ·show Qf (m.boxes.set k _) id=_;rw[Qx _ gU,h1];simp
   show Qf (m.boxes.set k _) k=_;rw[Xj _ hk];exact hR1
  rw[if_neg hs]at hK;simp[ER,ES,aeN,Iw,XJ,h1,h2,hw,ai,g0,g1,gl,fk,rf,hrk,hsk,hk,hs];have hRt:List.take ((A.length+1)*2) R=R:=zzai zE;have ayz:¬R=[]:=by rintro rfl;simp at gl
  have hri:∀x,Qf (m.boxes.set k []++x) id=[AV.bs k 0 (A.length+1) 2]:=fun x=>by rw[Qi (Nm h2),Qx _ gU,h1]
  simp only[hRt,hri];refine⟨zE,⟨⟨ayz,zE⟩,by simp at hl;omega⟩,⟨zd,zE⟩,?_⟩;refine hK _ m.boxes.length ⟨by simp;omega,.inr ⟨zd,zd,zE,?_,?_⟩⟩ (.inr (zzaa _)) ?_ rfl rfl rfl
  ·show Qf ((m.boxes.set k []).set id _++_) id=_;rw[Qi (Nm h2),Xj _ (Nm h2)];simp
  ·have:=Xt ((m.boxes.set k []).set id [.bs m.boxes.length 0 (A.length+1+1) 2]) [R++[I f,I t]] 0;simp only[zzcf]at this;rw[hR2];simpa using this
  exact((bE.set (S:=fun j=>j=id\/(A++[s]≠[]/\j=k)) (bE.refl _ _) (.inl (.inr ⟨zd,rfl⟩)) _).set (.inl (.inl rfl)) _).app _
 have ha:nB L f t=L:=by simp[nB,Iw]
 rw[ha]at hK;have XJ:t<=f:=zE
 simp[ER,ES,Iw,XJ];exact hK m k ⟨h2,h3⟩ (.inl rfl) (bE.refl _ _) rfl rfl rfl
def Gf(L:List Sp)(f t:Int):(nB L f t).length<=L.length+1:=by
 unfold nB;split
 ·split
  ·rename_i s hs;split
   ·have:0<L.length:=by cases L with
     |nil=>simp at hs
     |cons=>simp
    simp<;>omega
   simp
  simp
 omega
def pL(sf st mid:Int):List Sp->List Sp->List Sp
 |[],L=>L
 |w::W,L=>pL sf st mid W (nB L (max sf (mid+w.1)) (min st (mid+w.2)))
def Gg(sf st mid:Int):∀(W L:List Sp),(pL sf st mid W L).length<=L.length+W.length
 |[],L=>by simp[pL]
 |w::W,L=>by
  have h1:=Gg sf st mid W (nB L (max sf (mid+w.1)) (min st (mid+w.2)));have h2:=Gf L (max sf (mid+w.1)) (min st (mid+w.2));simp[pL];omega
def nC(W:List Sp)(sf st mid:Int)(L:List Sp):List Sp:=
 if mid<st then nC W sf st (mid+86400) (pL sf st mid W L)else L
termination_by(st-mid).toNat
decreasing_by omega
def ru(m0:AM)(k0:Nat)(m:AM)(k:Nat)(L:List Sp):Prop:=
 iB m 4 k L/\(k=k0\/m0.boxes.length<=k)/\bE (fun j=>j=4\/j=k0) m0.boxes m.boxes/\m.st=m0.st/\m.ln=m0.ln/\m.lens=m0.lens
def iB.app{m:AM}{id k:Nat}{L:List Sp}(h:iB m id k L)(x:X2):iB {m with boxes:=m.boxes++x} id k L:=by
 obtain⟨h1,h2⟩:=h;refine⟨by simp;omega,?_⟩;obtain⟨h2,h3⟩|⟨h2,h3,h4,h5,h6⟩:=h2
 ·exact .inl ⟨h2,by show Qf (m.boxes++x) id=_;rw[Qi h1];exact h3⟩
 exact .inr ⟨h2,by simp;omega,h4,by show Qf (m.boxes++x) id=_;rw[Qi h1];exact h5,by show Qf (m.boxes++x) k=_;rw[Qi h3];exact h6⟩
def ru.refl{m:AM}{k:Nat}{L:List Sp}(h:iB m 4 k L):ru m k m k L:=⟨h,.inl rfl,bE.refl _ _,rfl,rfl,rfl⟩
def ru.app{m0 m:AM}{k0 k:Nat}{L:List Sp}(h:ru m0 k0 m k L)(x:X2):ru m0 k0 {m with boxes:=m.boxes++x} k L:=
 ⟨h.1.app x,h.2.1,h.2.2.1.app x,h.2.2.2⟩
def ru.step{m0 m m':AM}{k0 k k':Nat}{L L':List Sp}(h:ru m0 k0 m k L)(hO:iB m' 4 k' L')(hk:k'=k\/m.boxes.length<=k')(hK:bE (fun j=>j=4\/(L≠[]/\j=k)) m.boxes m'.boxes)(h1:m'.st=m.st)(h2:m'.ln=m.ln)(h3:m'.lens=m.lens):ru m0 k0 m' k' L':=by
 obtain⟨a1,a2,a3,a4,a5,a6⟩:=h;refine⟨hO,?_,bE.trans a3 (hK.mono ?_),by rw[h1,a4],by rw[h2,a5],by rw[h3,a6]⟩
 ·have:=a3.1;omega
 rintro i (rfl|⟨_,rfl⟩)
 ·exact .inl (.inl rfl)
 obtain a2|a2:=a2
 ·exact .inl (.inr a2)
 exact .inr a2
def Iy(s:Sp)(fr to:Int)(m:AM):Prop:=5<m.boxes.length/\Qf m.boxes 1=[I s.1,I s.2]/\Qf m.boxes 2=[I fr]/\Qf m.boxes 3=[I to]/\Qf m.boxes 5=[.fn 266 [] [.ptr 4 0]]
def Iy.keep{s:Sp}{fr to:Int}{m m':AM}(h:Iy s fr to m){S:Nat->Prop}(hK:bE S m.boxes m'.boxes)(hS:∀j,S j->j=4\/6<=j):Iy s fr to m':=by
 obtain⟨h1,h2,h3,h4,h5⟩:=h;have q:∀j,j<6->j≠4->Qf m'.boxes j=Qf m.boxes j:=fun j hj h4=>hK.2 j zE (fun h=>by have:=hS j h;omega);exact⟨zzan h1 hK.1,by rw[q 1 zE zE];exact h2,by rw[q 2 zE zE];exact h3,by rw[q 3 zE zE];exact h4,by rw[q 5 zE zE];exact h5⟩
def Iy.day{s:Sp}{fr to:Int}{m0 m:AM}{k0 k:Nat}{L:List Sp}(h:Iy s fr to m0)(hD:ru m0 k0 m k L)(hk:k0=4\/6<=k0):Iy s fr to m:=
 h.keep hD.2.2.1 (by rintro j (h|h)<;>omega)
def Iy.app{s:Sp}{fr to:Int}{m:AM}(h:Iy s fr to m)(x:X2):Iy s fr to {m with boxes:=m.boxes++x}:=
 h.keep (S:=fun _=>False) ((bE.refl _ _).app x) (fun _ h=>h.elim)
def XK(of:Int)(sh:List Sp)(fr to:Int):X1:=fun d f l=>
 if f=999999 then .junk else
 if f=177 then .bool (Vy of sh)else
 if f=265 then(match l with|[.int _ n]=>.bool (decide (0<=n/\n<86400))|_=>.junk)else
 if f=267 then .fn 281 [] [.ep [I of,.sl .ro (sh.map Qe)] 0]else
 if f=268 then(match l with|[.int _ n]=>.aS [I (n/86400),I (n%86400)]|_=>.junk)else
 if f=269 then .sl .full ((zx fr to).map Qe)else .gd false .junk
def XL:SC:=(⟨_,by cbv⟩:we [1,0,1,1,1,1,1,0,1,0,1,0,1,1,1,1,1] Ap).1
def wR:SC->SC:=(⟨_,fun _=>by cbv⟩:jh [1,0,1,1,1,1,1,0,1,0,1,0,1,1,1,1,1] Ap).1
theorem XM:Ap=wR XL:=rfl
def uz{fr to:Int}(h1:0<=fr/\fr<86400)(h2:0<=to/\to<86400):(zx fr to).length<=2/\∀w∈zx fr to,0<=w.1/\w.1<=86400/\0<=w.2/\w.2<=86400:=by
 unfold zx;split
 ·simp;omega
 split
 ·simp;omega
 simp
def aeO(Y:YT)(of:Int)(sh:List Sp)(fr to:Int)(Fx:0<=fr/\fr<86400)(hto:0<=to/\to<86400)(E:QP)(m:AM)(k0:Nat)(L0:List Sp)(sf st KS:Int)(Q:So)
  (s:Sp)(h6:Abs.look E 6=.ptr 2 0)(h7:Abs.look E 7=.ptr 3 0)(lE:Abs.look E 10=.ptr 5 0)(oe:Abs.look E 12=I sf)(fH:Abs.look E 13=I st)(KT:Abs.look E 16=I KS)
  (hf:Iy s fr to m)(hO:iB m 4 k0 L0)(hk:k0=4\/6<=k0)
  (hb: -100000000000<=KS/\KS<=100000000000/\st<=100000000000)(hl:L0.length+2*((st-KS)/86400+1).toNat<=100000)
  (hQ:∀T m' k',ru m k0 m' k' (nC (zx fr to) sf st KS L0)->Q .normal ⟨T,m'⟩):
  vc Tryz.prog aD (XK of sh fr to) Y XL ⟨Za 111 E,m⟩ Q:=by
 obtain⟨FY,hWb⟩:=uz Fx hto;have ayA:=Df fr to;simp[XL];refine Qk JG (fun f mm=>∃(mid:Int)(k:Nat)(L:List Sp),f 16=I mid/\ru m k0 mm k L/\ -100000000000<=mid/\mid<=100000086400/\L.length+2*((st-mid)/86400+1).toNat<=100000/\nC (zx fr to) sf st mid L=nC (zx fr to) sf st KS L0) (fun f _=>(st-numOf (f 16)).toNat) ?_ ?_
 ·exact⟨KS,k0,L0,by simp[KT],ru.refl hO,zE,zE,hl,rfl⟩
 rintro f mm ⟨mid,k,L,hm16,hD,b1,b2,b3,hR⟩;by_cases ah:mid<st
 ·have ayB:IntKind.i64.wrap (mid+86400)=mid+86400:=by rw[Qh]<;>omega
  rw[nC,if_pos ah]at hR;obtain⟨f0,f1,f2,f3,f5⟩:=hf.day hD hk;generalize hWe:zx fr to=W at*
  simp[hm16,h6,h7,lE,oe,fH,JG,ah,XK,hWe,f2,f3];refine⟨ayA,?_⟩;refine Qk JH (fun f' m'=>∃(i k':Nat)(L':List Sp),f' 91=I i/\i<=W.length/\ru m k0 m' k' L'/\L'.length<=L.length+i/\pL sf st mid (W.drop i) L'=pL sf st mid W L) (fun f' _=>W.length-(numOf (f' 91)).toNat) ?_ ?_
  ·exact⟨0,k,L,zd,zE,hD,zE,rfl⟩
  rintro f' m' ⟨i,k',L',h91,hi,hD',tM,KU⟩;obtain⟨g0,g1,g2,g3,g5⟩:=hf.day hD' hk;rcases zzab i W.length with hiw|bu
  ·obtain⟨w,hw⟩:=aX hiw;have XN:=Ze hw;obtain⟨c1,c2,c3,c4⟩:=hWb w (zzad hw);have aa:(i:Int)<(W.length:Int):=zE
   have rj:=bO i zE;have gm:IntKind.i64.wrap (mid+w.1)=mid+w.1:=by rw[Qh]<;>omega
   have eY:IntKind.i64.wrap (mid+w.2)=mid+w.2:=by rw[Qh]<;>omega
   have hd:W.drop i=w::W.drop (i+1):=by rw[zzae hiw,(zza.1 hw).2]
   rw[hd,pL]at KU;have fk:∀x,Qf (m'.boxes++x) 5=[.fn 266 [] [.ptr 4 0]]:=fun x=>by rw[Qi g0];exact g5
   have A1:∀x,Qf (m'.boxes++[x]) m'.boxes.length=x:=fun x=>by
    simp
   have hmx:(if sf<mid+w.1 then mid+w.1 else sf)=max sf (mid+w.1):=zE
   have hmn:(if mid+w.2<st then mid+w.2 else st)=min st (mid+w.2):=zE
   have ayC:=fun K hK=>XI Y (max sf (mid+w.1)) (min st (mid+w.2)) 4 k' L' {m' with boxes:=m'.boxes++[[I w.1,I w.2]]} (hD'.1.app _) zE K hK;simp[h91,hiw,aa,XN,JH,lE,oe,fH,hm16,g5,fk,A1,gm,eY,g0,hmx,hmn,rj,XK];refine ayC _ fun m2 k2 e1 e2 e3 e4 e5 e6=>?_;have hD2:=(hD'.app [[I w.1,I w.2]]).step e1 e2 e3 e4 e5 e6;have:=Gf L' (max sf (mid+w.1)) (min st (mid+w.2));refine⟨aP,⟨i+1,zE,zE,k2,_,hD2,zE,KU⟩,zE⟩
  obtain rfl:i=W.length:=zE
  rw[zzbz,pL]at KU;rw[<- KU]at hR;simp[h91,JH,hm16,ayB];refine⟨aP,⟨k',L',hD',zE,zE,zE,hR⟩,zE⟩
 have hR0:=hR;rw[nC,if_neg ah]at hR;simp[hm16,fH,JG,ah];exact hQ _ _ k (by rw[<- hR];exact hD)
def stL(s:Sp)(W:List Sp)(x:Int×Int×Int)(L:List Sp):List Sp:=
 if min x.2.1 s.2<=max x.1 s.1 then L else nC W (max x.1 s.1) (min x.2.1 s.2) ((max x.1 s.1+x.2.2)/86400*86400-x.2.2) L
def tR(s:Sp)(W:List Sp):List (Int×Int×Int)->List Sp->List Sp
 |[],L=>L
 |x::r,L=>if s.2<=x.1 then L else tR s W r (stL s W x L)
def zz(n:Int):Bool:=decide (0<=n/\n<86400)
def wU(of:Int)(sh:List Sp)(s:Sp)(fr to:Int):Bool:=Vy of sh&&zz fr&&zz to&&decide (s.1<s.2/\s.2-s.1<=1000000)
def iC(of:Int)(sh:List Sp)(s:Sp)(fr to:Int):List Sp:=if wU of sh s fr to then tR s (zx fr to) (uy 0 of sh) []else[]
def aeP(x:Int×Int×Int):Prop:=0<=x.1/\x.1<=10000000000/\x.2.1<=10000000001/\ -50400<=x.2.2/\x.2.2<=50400
def Dg:∀(sh:List Sp)(f o last:Int),0<=f->f<=10000000000-> -1<=last-> -50400<=o->o<=50400->tP last sh=true->(∀x∈uy f o sh,aeP x)
 |[],f,o,last,h1,h2,_,h3,h4,_=>by simp[uy,aeP];omega
 |s::r,f,o,last,h1,h2,hla,h3,h4,ha=>by
  rw[tP]at ha;split at ha
  ·cases ha
  rename_i hn;simp only[not_or,Bool.not_eq_false,gY,decide_eq_true_eq]at hn;have ih:=Dg r s.1 s.2 s.1 zE zE zE zE zE ha;intro x hx;rw[uy,zzat]at hx;obtain hx|hx:=hx
  ·split at hx
   ·simp at hx;subst hx;simp[aeP];omega
   simp at hx
  exact ih x hx
def wV:∀(sh:List Sp)(f o:Int),(uy f o sh).length<=sh.length+1
 |[],f,o=>by simp[uy]
 |s::r,f,o=>by
  have:=wV r s.1 s.2;rw[uy];split<;>simp<;>omega
def Gh(W:List Sp)(hW:W.length<=2)(sf st:Int):∀(n:Nat)(mid:Int)(L:List Sp),(st-mid).toNat<=n->(nC W sf st mid L).length<=L.length+2*((st-mid)/86400+1).toNat:=by
 intro n;induction n with
 |zero=>intro mid L h;rw[nC,if_neg zE];omega
 |succ n ih=>
  intro mid L h;rw[nC];split
  ·have:=ih (mid+86400) (pL sf st mid W L) zE;have:=Gg sf st mid W L;omega
  omega
def aeQ(R:List Sp)(s:Sp)(fr to:Int)(xs:List (Int×Int×Int))(O:Nat->Prop)(i:Nat)(m:AM):Prop:=
 ∃k L,iB m 4 k L/\(k=4\/6<=k)/\¬O k/\k<m.boxes.length/\(∀j,O j->6<=j)/\Iy s fr to m/\L.length<=40*i/\tR s (zx fr to) (xs.drop i) L=R
def aeR(R:List Sp)(O:Nat->Prop)(ex:Exit)(m:AM):Prop:=ex=.exit 0/\∃k,iB m 4 k R/\¬O k/\(∀j,O j->6<=j)
def iB.cg{m m':AM}{id k:Nat}{L:List Sp}(h:iB m id k L)(e:m'.boxes=m.boxes):iB m' id k L:=by unfold iB at*;rw[e];exact h
def Iy.cg{s:Sp}{fr to:Int}{m m':AM}(h:Iy s fr to m)(e:m'.boxes=m.boxes):Iy s fr to m':=by unfold Iy at*;rw[e];exact h
def iB.XO{O:Nat->Prop}{m m':AM}{k:Nat}{L:List Sp}(h:iB m 4 k L)(e:bS O m m')(h0:¬O 4)(hk:¬O k):iB m' 4 k L:=by
 obtain⟨h1,h2⟩:=h;refine⟨zzan h1 e.1,?_⟩;obtain⟨h2,h3⟩|⟨h2,h3,h4,h5,h6⟩:=h2
 ·exact .inl ⟨h2,by rw[e.2.1 4 h1 h0];exact h3⟩
 exact .inr ⟨h2,zzan h3 e.1,h4,by rw[e.2.1 4 h1 h0];exact h5,by rw[e.2.1 k h3 hk];exact h6⟩
def aeQ.ext{R:List Sp}{s:Sp}{fr to:Int}{xs:List (Int×Int×Int)}{O:Nat->Prop}{i:Nat}{m m':AM}(h:aeQ R s fr to xs O i m)(e:bS O m m'):aeQ R s fr to xs (OU O m.boxes.length m'.boxes.length) i m':=by
 obtain⟨k,L,h1,h2,h3,h4,h5,h6,h8,h9⟩:=h;refine⟨k,L,h1.XO e (fun h=>by have:=h5 4 h;omega) h3,h2,?_,zzan h4 e.1,?_,h6.keep (S:=O) ⟨e.1,e.2.1⟩ (fun j h=>.inr (h5 j h)),h8,h9⟩
 ·rintro(h|h)
  ·exact h3 h
  omega
 have:=h6.1;rintro j (h|h)
 ·exact h5 j h
 omega
def aeR.ext{R:List Sp}{O:Nat->Prop}{ex:Exit}{m m':AM}(h:aeR R O ex m)(e:bS O m m'):aeR R O ex m':=by
 obtain⟨h0,k,h1,h3,h5⟩:=h;exact⟨h0,k,h1.XO e (fun h=>by have:=h5 4 h;omega) h3,h3,h5⟩
def wW(of:Int)(sh:List Sp)(s:Sp)(fr to:Int)(fS:sh.length<=1000000000)(h1: -9223372036854775808<=s.1/\s.1<=9223372036854775807)(h2: -9223372036854775808<=s.2/\s.2<=9223372036854775807):
  Pure Tryz.prog aD 252 [.agg [I of,.sl .ro (sh.map Qe)],.agg [I s.1,I s.2],I fr,I to] (if iC of sh s fr to=[]then .sl .nil []else .sl .ro ((iC of sh s fr to).map Qe)):=by
 have k89:=jt of sh fS;have KV:=wO fr;have A6:=wO to;have atC:=wP of sh;refine Qm adS (XK of sh fr to) zd ?_;rw[XM];generalize hR:iC of sh s fr to=R;by_cases hv:Vy of sh=true
 ·rw[hv]at k89;by_cases hf:0<=fr/\fr<86400
  ·rw[decide_eq_true hf]at KV;by_cases ht:0<=to/\to<86400
   ·rw[decide_eq_true ht]at A6;by_cases ah:s.1<s.2
    ·have cw:¬s.2<=s.1:=zE
     have hu:IntKind.u64.wrap (IntKind.u64.wrap s.2-IntKind.u64.wrap s.1)=s.2-s.1:=by
      have q:∀z:Int,IntKind.u64.wrap z=z%18446744073709551616:=fun z=>by simp[IntKind.wrap,IntKind.bits,IntKind.signed]
      rw[q,q,q];omega
     by_cases hm:s.2-s.1<=1000000
     ·have od:¬1000000<s.2-s.1:=zE
      simp[wR,XK,hv,hf,ht,ah,cw,hu,hm,od];refine⟨k89,KV,A6,atC,?_⟩;have cV:=wQ of sh fS;have hz:sh.length<=40/\gY of=true/\tP (-1) sh=true:=by simpa[Vy,and_assoc]using hv
      have hof: -50400<=of/\of<=50400:=by simpa[gY]using hz.2.1
      have bY:=Dg sh 0 of (-1) (by decide) (by decide) (by decide) hof.1 hof.2 hz.2.2;have hxl:=wV sh 0 of;have hRc:tR s (zx fr to) (uy 0 of sh) []=R:=by rw[<- hR,iC,if_pos (by simp[wU,hv,zz,hf,ht,ah,hm])]
      clear k89 KV A6 atC hu;generalize hX:uy 0 of sh=xs at*
      refine kQ (xs:=xs.map A5) zd cV (by intro x hx;simp at hx;obtain⟨a,b,c,_,rfl⟩:=hx;rfl) (aeQ R s fr to xs) (aeR R) ?_ (fun _ _ _ _ h e=>h.ext e) (fun _ _ _ _ h e=>h.ext e) ?_ ?_ ?_
      ·refine⟨4,[],⟨zd,.inl ⟨rfl,zd⟩⟩,.inl rfl,id,zd,fun _ h=>h.elim,⟨zd,zd,zd,zd,zd⟩,zd,Nm hRc⟩
      ·rintro O l i m x hO hle0 QW eX ⟨k,L,i1,i2,i3,i4,i5,i6,i8,i9⟩ hx K' q1 q2 q3;rw[zzbc,zzb]at hx;obtain⟨⟨a,b,o⟩,hx,rfl⟩:=hx;obtain⟨o1,o2,o3,o4,o5⟩:=bY _ (zzad hx);simp only at o1 o2 o3 o4 o5;have lu:i<xs.length:=(zza.1 hx).1;have hd:xs.drop i=(a,b,o)::xs.drop (i+1):=by rw[zzae lu,(zza.1 hx).2]
       rw[hd,tR]at i9;simp only[Ut]at i4;have hf6:=i6;obtain⟨f0,f1,f2,f3,f5⟩:=i6;have hOl:∀j,O j->j<m.boxes.length:=fun j h=>(hO j h).2;have alW:xs.length<=41:=zE
       clear hO hle0 QW cV hR hX;simp only[Ut]at f0 f1 f2 f3 f5;have fk:∀x,Qf (m.boxes++x) 1=[I s.1,I s.2]:=fun x=>by rw[Qi zE];exact f1
       have A1:∀x,Qf (m.boxes++[x]) m.boxes.length=x:=fun x=>by
        simp
       by_cases hc:s.2<=a
       ·rw[if_pos hc]at i9;simp[eX,Zk,A5,fk,A1,hc];subst i9;refine q3 0 _ zd ⟨rfl,k,?_,i3,i5⟩;exact(i1.app [[I a,I b,I o]]).cg zd
       rw[if_neg hc]at i9;have hmx:(if a<s.1 then s.1 else a)=max a s.1:=zE
       have hmn:(if s.2<b then s.2 else b)=min b s.2:=zE
       by_cases he:min b s.2<=max a s.1
       ·rw[stL,if_pos he]at i9;simp[eX,Zk,A5,fk,A1,hc,hmx,hmn,he];refine q1 _ ⟨zd,fun j hj=>Qi (hOl j hj)⟩ ⟨k,L,(i1.app [[I a,I b,I o]]).cg zd,i2,i3,by simp;omega,i5,(hf6.app [[I a,I b,I o]]).cg zd,zE,i9⟩
       rw[stL,if_neg he]at i9;have hw0:IntKind.i64.wrap (max a s.1+o)=max a s.1+o:=by rw[Qh]<;>omega
       have hdv:=Gd (max a s.1+o) zE;have gm:IntKind.i64.wrap ((max a s.1+o)/86400*86400)=(max a s.1+o)/86400*86400:=by rw[Qh]<;>omega
       have eY:IntKind.i64.wrap ((max a s.1+o)/86400*86400-o)=(max a s.1+o)/86400*86400-o:=by rw[Qh]<;>omega
       simp[eX,Zk,A5,fk,A1,hc,hmx,hmn,he,hw0,gm,eY,XK];refine⟨hdv,?_⟩;refine aeO Y0 of sh fr to hf ht _ _ k L (max a s.1) (min b s.2) ((max a s.1+o)/86400*86400-o) _ s zd zd zd zd zd zd ((hf6.app [[I a,I b,I o]]).cg zd) ((i1.app [[I a,I b,I o]]).cg zd) i2 zE zE ?_;intro T m' k' hD;have aH:m.boxes.length+1<=m'.boxes.length:=by have:=hD.2.2.1.1;simpa using this
       have tM:=Gh (zx fr to) (uz hf ht).1 (max a s.1) (min b s.2) _ ((max a s.1+o)/86400*86400-o) L (zzaa _);have hFx:=Iy.day (s:=s) (fr:=fr) (to:=to) ((hf6.app [[I a,I b,I o]]).cg zd) hD i2;have tI:k'=k\/m.boxes.length+1<=k':=by have:=hD.2.1;simpa using this
       have hS:N5 O m m':=⟨zE,fun j hj=>by
        have:=hD.2.2.1.2 j (by simp;have:=hOl j hj;omega) (by rintro(rfl|rfl);have:=i5 4 hj;omega;exact i3 hj);rw[this];exact Qi (hOl j hj)⟩
       simp;refine q1 ⟨T,m'⟩ hS ?_;by_cases hLe:nC (zx fr to) (max a s.1) (min b s.2) ((max a s.1+o)/86400*86400-o) L=[]
       ·rw[hLe]at i9 hD;refine⟨4,[],⟨hD.1.1,?_⟩,.inl rfl,(fun h=>by have:=i5 4 h;omega),(by show 4<m'.boxes.length;omega),i5,hFx,zd,i9⟩;rcases hD.1.2 with h|h
        ·exact .inl h
        exact absurd rfl h.1
       have qu:k'<m'.boxes.length:=by
        rcases hD.1.2 with h|h
        ·exact absurd h.1 hLe
        exact h.2.1
       refine⟨k',_,hD.1,zE,?_,qu,i5,hFx,zE,i9⟩;obtain rfl|tI:=tI
       ·exact i3
       intro h;have:=hOl k' h;omega
      ·rintro O m ⟨k,L,i1,i2,i3,i4,i5,i6,i8,i9⟩;rw[zzbv,zzbz,tR]at i9;subst i9;rcases i1.2 with⟨hL0,h⟩|⟨aK,h2,h3,h4,h5⟩
       ·simp[h,lP,i1.1,hL0]
       have nr:=Vn m 4 (C8 L);have kL:=Qef L;have gG:=Vw L;simp[h4,lP,aK,h5,nr,kL,gG,i1.1]
      rintro O ex m ⟨rfl,k,i1,i3,i5⟩;rcases i1.2 with⟨hL0,h⟩|⟨aK,h2,h3,h4,h5⟩
      ·simp[h,lP,i1.1,hL0]
      have nr:=Vn m 4 (C8 R);have kL:=Qef R;have gG:=Vw R;simp[h4,lP,aK,h5,nr,kL,gG,i1.1]
     have hR0:R=[]:=by rw[<- hR,iC,if_neg (by simp[wU];omega)]
     have od:1000000<s.2-s.1:=zE
     simp[wR,XK,hv,hf,ht,ah,cw,hu,hm,od,lP,hR0,k89,KV,A6]
    have hR0:R=[]:=by rw[<- hR,iC,if_neg (by simp[wU];omega)]
    have cw:s.2<=s.1:=zE
    simp[wR,XK,hv,hf,ht,ah,cw,lP,hR0,k89,KV,A6]
   have hR0:R=[]:=by rw[<- hR,iC,if_neg (by simp[wU,zz];omega)]
   simp[wR,XK,hv,hf,ht,lP,hR0,k89,KV];simpa[ht]using A6
  have hR0:R=[]:=by rw[<- hR,iC,if_neg (by simp[wU,zz];omega)]
  simp[wR,XK,hv,hf,lP,hR0,k89];simpa[hf]using KV
 have hR0:R=[]:=by rw[<- hR,iC,if_neg (by simp[wU,hv])]
 simp[wR,XK,hv,lP,hR0];simpa[hv]using k89
def zA(of:Int)(sh:List Sp)(s:Sp)(fr to:Int)(fS:sh.length<=1000000000)(h1: -9223372036854775808<=s.1/\s.1<=9223372036854775807)(h2: -9223372036854775808<=s.2/\s.2<=9223372036854775807):
  Pure Tryz.prog aD 252 [.agg [I of,.sl .ro (sh.map Qe)],.agg [I s.1,I s.2],I fr,I to] (.sl .ro ((iC of sh s fr to).map Qe)):=by
 have h:=wW of sh s fr to fS h1 h2;by_cases hn:iC of sh s fr to=[]
 ·rw[if_pos hn]at h;rw[hn];exact Zc h (Wk.sl _ _)
 rw[if_neg hn]at h;exact h
def Gi(s:Sp)(W:List Sp)(hW:W.length<=2)(hs:s.2-s.1<=1000000):∀(xs:List (Int×Int×Int))(L:List Sp),(∀x∈xs,aeP x)->(tR s W xs L).length<=L.length+40*xs.length
 |[],L,_=>by simp[tR]
 |x::r,L,h=>by
  rw[tR];split
  ·omega
  have ih:=Gi s W hW hs r (stL s W x L) (fun y hy=>h y (by simp[hy]));obtain⟨o1,o2,o3,o4,o5⟩:=h x zd
  have:(stL s W x L).length<=L.length+40:=by
   unfold stL;split
   ·omega
   have:=Gh W hW (max x.1 s.1) (min x.2.1 s.2) _ ((max x.1 s.1+x.2.2)/86400*86400-x.2.2) L (zzaa _);omega
  simp only[zzba];omega
def XP(of:Int)(sh:List Sp)(s:Sp)(fr to:Int):(iC of sh s fr to).length<=2000:=by
 unfold iC;split
 ·rename_i h;simp only[wU,Vy,zz,gY,zzak,decide_eq_true_eq]at h;obtain⟨⟨⟨⟨⟨a1,a2⟩,a3⟩,a4⟩,a5⟩,a6,a7⟩:=h;have h1:=Gi s (zx fr to) (uz a4 a5).1 a7 (uy 0 of sh) [] (Dg sh 0 of (-1) (by decide) (by decide) (by decide) a2.1 a2.2 a3);have h2:=wV sh 0 of;simp at h1;omega
 simp
end
