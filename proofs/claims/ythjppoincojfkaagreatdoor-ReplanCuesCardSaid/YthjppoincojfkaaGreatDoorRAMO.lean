import Derived.Test.YthjppoincojfkaaGreatDoorRASpL
set_option linter.all false
set_option maxRecDepth 100000
set_option maxHeartbeats 64000000
namespace Go.Proofs.YthjppoincojfkaaGreatDoor
open Go Go.Abs
def Gf(Y:YT)(rt:Rt)(aX:∀m,bz m 6 (.sl rt [])=.sl rt [])(m:AM)(K:So)(hK:K (.sl rt []) m):aB Tryz.prog aD Y 184 [.sl rt [],.fn 185 [] []] m K:=by
 have h:=Xp (l:=[.sl rt [],.fn 185 [] []]) (pL [] zd) ⟨Wk.sl rt [],Ps,trivial⟩;simp only[pM]at h;refine Xn MX (nP (-1)) zd ?_;simp[Ez,MW,nP,aX];exact⟨h,hK⟩
def Gg:UV:=fun d f _=>if f=999999 then(if d=12 then .aJ 0 []else if d=70 then .aJ 0 []else .junk)else .gd false .junk
def rz(a b:Int):(if a<b then b else a)=max a b:=by split<;>omega
def asz(B:T5)(id:Nat)(out:List Sp)(a:AV):Prop:=
 (out=[]/\a=.sl .nil [])\/∃gM,out≠[]/\a=.bs gM 0 out.length 2/\gM≠id/\gM<B.length/\Qj B gM=cG out
def KU{out:List Sp}(h:out≠[]):∃p u,out=p++[u]:=⟨out.dropLast,out.getLast h,(zzet h).symm⟩
def De(l:List Sp)(hl:l.length<=100000000):Pure Tryz.prog aD 131 [.sl .ro (l.map Qe)] (if Xl l=[]then .sl .nil []else .sl .ro ((Xl l).map Qe)):=by
 refine Qo abV Gg zd ?_;by_cases aO:l=[]
 ·subst aO;have hn:Xl []=[]:=by simp[Xl,Gh]
  simp[MG,Gg,hn];refine Qk vq (fun f m=>f 15=I 0/\f 3=.sl .full []/\m=⟨[[]],[],fun _=>.gone,0⟩) (fun _ _=>0) ?_ ?_
  ·simp
  rintro f m ⟨sO,h3,rfl⟩;simp[sO,h3,vq];refine Gf _ _ (fun _=>rfl) _ _ ?_;refine Gi _ _ _ _ ?_;simp;refine Qk iO (fun f m=>f 31=I 0/\f 6=.sl .nil []/\m=⟨[[]],[],fun _=>.gone,0⟩) (fun _ _=>0) ?_ ?_
  ·simp
  rintro f m ⟨h31,h6,rfl⟩;simp[h31,h6,iO,MH]
 have ayy:l.length≠0:=by simpa using aO
 have lD:0<l.length:=zE
 simp[MG,Gg,aO];refine⟨⟨zE,zE⟩,?_⟩
 refine Qk vq (fun f m=>∃(i id:Nat)(B:T5),i<=l.length/\f 15=I i/\f 3=.bs id 0 i 2/\m=⟨B,[],fun _=>.gone,0⟩/\id<B.length/\Qj B id≠[]/\i*2<=(Qj B id).length/\(Qj B id).take (i*2)=cG (l.take i)/\(0<i->Qj B id=cG (l.take i)))
  (fun f _=>l.length-(numOf (f 15)).toNat) ?_ ?_
 ·exact⟨0,0,[List.replicate (l.length*2) .junk],zE,zd,zd,rfl,zd,by simp;omega,zd,zd,zd⟩
 rintro f m ⟨i,id,B,hi,sO,h3,rfl,aL,AB,cB,bA,D7⟩;rcases zzaa i l.length with ai|bn
 ·obtain⟨s,hs⟩:=aV ai;have ah:=Zx hs;have aa:(i:Int)<(l.length:Int):=zE
  have hw:=bO i zE;have ic:∀x,Qj (B++x) id=Qj B id:=fun x=>Qn aL;have lK:∀x v,(B++x).set id v=B.set id v++x:=fun x v=>Ym v aL;have fM:cG (l.take (i+1))=cG (l.take i)++[I s.1,I s.2]:=by rw[zzax,hs,Qcj];rfl
  simp[sO,h3,aa,ai,ah,vq,hw,ic,lK,AB,cB,bA,Gg];refine⟨⟨zE,zE⟩,aQ,⟨i+1,zE,zd,?_⟩,zE⟩
  ·refine⟨B.length+1,⟨rfl,rfl⟩,zE,?_⟩
   have e:Qj (B.set id []++[[AV.int IntKind.i64 s.fst,AV.int IntKind.i64 s.snd],cG (List.take i l)++[AV.int IntKind.i64 s.fst,AV.int IntKind.i64 s.snd]]) (B.length+1)=cG (l.take (i+1)):=by
    have:=Vq (B.set id []) [[AV.int IntKind.i64 s.fst,AV.int IntKind.i64 s.snd],cG (List.take i l)++[AV.int IntKind.i64 s.fst,AV.int IntKind.i64 s.snd]] 1;rw[zzcf]at this;rw[this,fM];rfl
   rw[e];have e2:(cG (l.take (i+1))).length=(i+1)*2:=by rw[Yf,zzaq];congr 1;omega
   refine⟨?_,zE,?_,fun _=>rfl⟩
   ·intro h;rw[h]at e2;simp at e2
   rw[<- e2,zzbx]
 obtain rfl:i=l.length:=zE
 have hB:=D7 lD;rw[zzbx]at hB;have bQ:¬((l.length:Nat):Int)<(l.length:Int):=zE
 simp[sO,h3,vq,Gg];refine KV _ l zE B _ _ _ id aL aO hB _ ?_;intro B1 z nE hB1 hz;have al5:id<B1.length:=zzay aL nE.1;rw[Qcj]at hB1;have V4:B1[id]?=some (cG (l.filter mA)++cG z):=by rw[Jj al5,hB1]
 refine KW _ (l.filter mA) zE _ id (cG z) V4 ?_ _ ?_
 ·intro h;have:=congrArg List.length h;rw[zzak,Yf,Yf]at this;simp at this;omega
 intro d hp hs;have alA:=al6 hp hs;have hdl:d.length=(l.filter mA).length:=hp.length_eq;rw[<- hdl];have ayz:d.length<=100000000:=zE
 simp[AM.wr]
 refine Qk iO (fun f m=>∃(i:Nat)(B:T5)(out:List Sp),i<=d.length/\f 31=I i/\m=⟨B,[],fun _=>.gone,0⟩/\out.length<=i/\id<B.length/\Qj B id=cG d++cG z/\Gh out (d.drop i)=Xl l/\asz B id out (f 6))
  (fun f _=>d.length-(numOf (f 31)).toNat) ?_ ?_
 ·exact⟨0,B1.set id (cG d++cG z),[],zE,zd,rfl,zd,Nm al5,Yi _ al5,Nm alA,.inl ⟨rfl,zd⟩⟩
 rintro f m ⟨i,B,out,hi,h31,rfl,FP,aL,hB,hm,hout⟩;rcases zzaa i d.length with ai|bn
 ·obtain⟨v,hv⟩:=aV ai;have aa:(i:Int)<(d.length:Int):=zE
  have hw:=bO i zE
  have hg:(cG d++cG z).drop (i*2)=I v.1::I v.2::(cG (d.drop (i+1))++cG z):=by
   rw[zzdt (by rw[Yf];omega),uH hv];rfl
  have fu:d.drop i=v::d.drop (i+1):=by
   rw[zzag ai,(zza.1 hv).2]
  rw[fu,Gh]at hm;have ic:∀x,Qj (B++x) id=cG d++cG z:=fun x=>by rw[Qn aL,hB]
  obtain⟨rfl,h6⟩|⟨gM,hon,h6,zy,fN,A6⟩:=hout
  ·simp[h31,h6,aa,ai,hB,ic,hg,iO,hw,Gg];refine⟨aQ,⟨i+1,zE,zd,?_⟩,zE⟩
   ·refine⟨[v],zd,zE,by simpa[QH]using hm,.inr ⟨B.length+1,zd,zd,zE,zd,zd⟩⟩
  obtain⟨p,u,rfl⟩:=KU hon;have asA:p.length+1<=i:=by simpa using FP
  have gr:(cG (p++[u])).drop (p.length*2+1)=[I u.2]:=by
   have:=FG (l:=p++[u]) (i:=p.length) (s:=u) zd;simpa using this
  have bS:=w8 (p++[u]) p.length u (max u.2 v.2) zd;have asC:(p++[u]).set p.length (u.1,max u.2 v.2)=p++[(u.1,max u.2 v.2)]:=zd
  rw[asC]at bS;have hwp:IntKind.i64.wrap (p.length:Int)=(p.length:Int):=by rw[Ql]<;>omega
  have uu:(0:Int)<(p.length:Int)+1:=zE
  have asD:∀x,Qj (B++x) gM=cG (p++[u]):=fun x=>by rw[Qn fN,A6]
  have lK:∀x v,(B++x).set gM v=B.set gM v++x:=fun x v=>Ym v fN;have fM:=Yf (p++[u]);simp only[zzak,zzbd,zzco,zzbs]at fM h6;have axh:QH (p++[u]) v=if v.1<=u.2 then p++[(u.1,max u.2 v.2)]else p++[u]++[v]:=by simp[QH]
  rw[axh]at hm;by_cases hc:v.1<=u.2
  ·rw[if_pos hc]at hm;simp[h31,h6,aa,ai,hB,ic,asD,lK,hg,gr,iO,hw,hwp,uu,hc,rz,bS,fM,Gg];refine⟨zE,⟨zE,zE⟩,aQ,⟨i+1,zE,zd,?_⟩,zE⟩
   ·refine⟨p++[(u.1,max u.2 v.2)],by simp;omega,zE,by rw[Qn (Nm aL),Yc _ zy,hB],hm,.inr ⟨gM,zd,zd,zy,by simp;omega,by rw[Qn (Nm fN),Yi _ fN]⟩⟩
  rw[if_neg hc]at hm;simp[h31,h6,aa,ai,hB,ic,asD,lK,hg,gr,iO,hw,hwp,uu,hc,fM,Gg];refine⟨zE,⟨⟨zE,by simp[Qcj]⟩,zE⟩,aQ,⟨i+1,zE,zd,?_⟩,zE⟩
  ·have bA:(cG (p++[u])).take ((p.length+1)*2)=cG (p++[u]):=zzau (by rw[fM];exact zzab _);rw[bA];refine⟨p++[u]++[v],by simp;omega,zE,by rw[Qn (Nm aL),Yc _ zy,hB],hm,.inr ⟨B.length+1,zd,zd,zE,zd,?_⟩⟩;have:=Vq (B.set gM []) [[I v.1,I v.2],cG (p++[u])++[AV.int IntKind.i64 v.fst,AV.int IntKind.i64 v.snd]] 1;rw[zzcf]at this;rw[this,Qcj (p++[u]) [v]];rfl
 obtain rfl:i=d.length:=zE
 rw[zzbv,Gh]at hm;obtain⟨rfl,h6⟩|⟨gM,hon,h6,zy,fN,A6⟩:=hout
 ·simp[h31,h6,iO,MH,<- hm]
 have gF:=Ve ⟨B,[],fun _=>.gone,0⟩ 4 (CZ out);have fE:=Qek out;have fM:=Yf out;simp[h31,h6,iO,MH,<- hm,hon,A6,gF,fE,fM]
def Us(l:List Sp)(hl:l.length<=100000000):Pure Tryz.prog aD 131 [.sl .ro (l.map Qe)] (.sl .ro ((Xl l).map Qe)):=by
 have h:=De l hl;by_cases hn:Xl l=[]
 ·rw[if_pos hn]at h;rw[hn];exact Zl h (Wk.sl _ _)
 rw[if_neg hn]at h;exact h
open Go Go.Abs
def KX(a b:Int):(if b<a then b else a)=min a b:=by split<;>omega
def Bg(s:Sp):P2:=[.agg [I s.1,I s.2]]
def XY(A B:List Sp)(hA:A.length<=100000000)(hB:B.length<=100000000):
  Iter Tryz.prog aD 200 [] [.ep [.sl .ro (A.map Qe)] 0,.ep [.sl .ro (B.map Qe)] 0] ((ue (A.length+B.length) A B).map Bg):=by
 intro Y l m K hF;refine Xn acU (fun _ _ _=>.junk) zd ?_;simp[TW]
 refine Qk qD (fun f mm=>∃(i j:Nat),i<=A.length/\j<=B.length/\f 4=I i/\f 5=I j/\wR (Y l) K ((ue (A.length-i+(B.length-j)) (A.drop i) (B.drop j)).map Bg) mm)
  (fun f _=>A.length-(numOf (f 4)).toNat+(B.length-(numOf (f 5)).toNat)) ?_ ?_
 ·exact⟨0,0,zE,zE,zd,zd,Nm hF⟩
 rintro f mm ⟨i,j,hi,hj,h4,h5,hF⟩;by_cases Wf:i=A.length\/j=B.length
 ·have hnil:ue (A.length-i+(B.length-j)) (A.drop i) (B.drop j)=[]:=by
   obtain rfl|rfl:=Wf
   ·rw[zzbv];cases A.length-A.length+(B.length-j)<;>rfl
   rw[zzbv];cases A.length-i+(B.length-B.length)with
   |zero=>rfl
   |succ n=>cases A.drop i<;>rfl
  rw[hnil]at hF;have hK:K mm:=hF mm (fF.refl _);by_cases h1:i<A.length
  ·have NU:¬(j:Int)<(B.length:Int):=zE
   have aa:(i:Int)<(A.length:Int):=zE
   simp[h4,h5,h1,aa,NU,qD,M3];exact hK
  have bQ:¬(i:Int)<(A.length:Int):=zE
  simp[h4,h5,h1,bQ,qD,M3];exact hK
 have h1:i<A.length:=zE
 have h2:j<B.length:=zE
 obtain⟨s,hs⟩:=aV h1;obtain⟨t,ht⟩:=aV h2;have zQ:=Zx hs;have aX:=Zx ht;have hda:A.drop i=s::A.drop (i+1):=by rw[zzag h1,(zza.1 hs).2]
 have hdb:B.drop j=t::B.drop (j+1):=by rw[zzag h2,(zza.1 ht).2]
 have hn:A.length-i+(B.length-j)=(A.length-i+(B.length-j)-1)+1:=zE
 have qI:A.length-i+(B.length-j)-1=A.length-(i+1)+(B.length-j):=zE
 have zy:A.length-i+(B.length-j)-1=A.length-i+(B.length-(j+1)):=zE
 have aa:(i:Int)<(A.length:Int):=zE
 have eE:(j:Int)<(B.length:Int):=zE
 have XM:=bO i zE;have xI:=bO j zE;rw[hda,hdb,hn,ue,<- hda,<- hdb]at hF;by_cases hc:max s.1 t.1<min s.2 t.2
 ·rw[if_pos hc]at hF;simp only[zzes,zzaz]at hF;simp[h4,h5,h1,h2,aa,eE,zQ,aX,qD,rz,KX,hc];refine hF _ (fF.box mm _) _ (fun m2 A0=>?_) (fun m2 hK=>?_)
  ·by_cases hd:s.2<t.2
   ·rw[if_pos hd,qI]at A0;have zz:¬t.2<=s.2:=zE
    simp[h1,h2,aa,eE,zQ,aX,hd,zz,XM];refine⟨aQ,⟨i+1,zE,j,zE,zd,rfl,A0⟩,zE⟩
   rw[if_neg hd,zy]at A0;have zz:t.2<=s.2:=zE
   simp[h1,h2,aa,eE,zQ,aX,hd,zz,xI];refine⟨aQ,⟨i,zE,j+1,zE,rfl,zd,A0⟩,zE⟩
  simp[M3];exact hK _ (fF.refl _)
 rw[if_neg hc]at hF;simp only[zzai]at hF;have hF':=wR.ext hF (fF.box mm [[I (max s.1 t.1),I (min s.2 t.2)]]);by_cases hd:s.2<t.2
 ·rw[if_pos hd,qI]at hF';simp[h4,h5,h1,h2,aa,eE,zQ,aX,qD,rz,KX,hc,hd,XM];refine⟨aQ,⟨i+1,zE,j,zE,zd,rfl,hF'⟩,zE⟩
 rw[if_neg hd,zy]at hF';simp[h4,h5,h1,h2,aa,eE,zQ,aX,qD,rz,KX,hc,hd,xI];refine⟨aQ,⟨i,zE,j+1,zE,rfl,zd,hF'⟩,zE⟩
def zW(A B:List Sp):Pure Tryz.prog aD 139 [.sl .ro (A.map Qe),.sl .ro (B.map Qe)] (.fn 200 [] [.ep [.sl .ro (A.map Qe)] 0,.ep [.sl .ro (B.map Qe)] 0]):=by
 refine Qo ab3 (fun _ _ _=>.junk) zd ?_;simp[agy,agz]
def aem(A B:List Sp):UV:=fun d f _=>
 if f=999999 then .junk else if d=8 then .sl .ro ((Xl A).map Qe)else if d=10 then .sl .ro ((Xl B).map Qe)else if d=11 then .fn 200 [] [.ep [.sl .ro ((Xl A).map Qe)] 0,.ep [.sl .ro ((Xl B).map Qe)] 0]else .junk
def Df:∀(n:Nat)(A B:List Sp),(ue n A B).length<=n
 |0,_,_=>by simp[ue]
 |n+1,[],_=>by simp[ue]
 |n+1,s::A,[]=>by simp[ue]
 |n+1,s::A,t::B=>by
  have h1:=Df n A (t::B);have h2:=Df n (s::A) B;rw[ue,zzak];split<;>split<;>simp<;>omega
def jJ(A B:List Sp)(hA:A.length<=10000000)(hB:B.length<=10000000):
  Pure Tryz.prog aD 84 [.sl .ro (A.map Qe),.sl .ro (B.map Qe)] (.sl .ro ((zU A B).map Qe)):=by
 have h1:=Us A zE;have h2:=Us B zE;have l1:=Yy A;have l2:=Yy B;have h3:=zW (Xl A) (Xl B);have cU:=XY (Xl A) (Xl B) zE zE;have hX:zU A B=ue ((Xl A).length+(Xl B).length) (Xl A) (Xl B):=rfl;have hXl:=Df ((Xl A).length+(Xl B).length) (Xl A) (Xl B);rw[<- hX]at cU hXl;generalize zU A B=X at cU hXl;clear hX
 have key:∀r,r=(if X=[]then AV.sl .nil []else .sl .ro (X.map Qe))->Pure Tryz.prog aD 84 [.sl .ro (A.map Qe),.sl .ro (B.map Qe)] r:=by
  rintro r rfl;refine Qo akl (aem A B) zd ?_;simp[aoZ,aem];refine⟨h1,h2,h3,?_⟩
  refine jk (xs:=X.map Bg) zd cU (by intro x hx;simp at hx;obtain⟨a,b,_,rfl⟩:=hx;rfl)
   (fun i m=>∃(bx:T5)(rt:Rt),m.boxes=[.sl rt ((X.take i).map Qe)]::bx/\((i=0/\rt=.nil)\/(0<i/\∃id,rt=.own id 2/\m.lens[id]?=some i))) (fun _ _=>False) ⟨[],.nil,zd,.inl ⟨rfl,rfl⟩⟩ ?_ (fun _ _ _ h=>h.elim) ?_ ?_ (fun _ _ h=>h.elim)
  ·rintro i m m' ⟨bx,rt,hb,aX⟩ ⟨⟨b2,e1⟩,⟨l2,e2⟩,_⟩;refine⟨bx++b2,rt,by rw[e1,hb];rfl,?_⟩;obtain h|⟨h0,id,h1,h2⟩:=aX
   ·exact .inl h
   refine .inr ⟨h0,id,h1,?_⟩;rw[e2,zzaj (zza.1 h2).1];exact h2
  ·rintro l i m x hg hr ⟨bx,rt,hb,aX⟩ hx K' k1 _ _
   obtain⟨s,hs,rfl⟩:∃s,X[i]?=some s/\Bg s=x:=by
    rw[zzbm]at hx;cases hq:X[i]? with
    |none=>rw[hq]at hx;cases hx
    |some y=>rw[hq]at hx;exact⟨y,rfl,Option.some.inj hx⟩
   have hi:i<X.length:=(zza.1 hs).1;have bA:X.take (i+1)=X.take i++[s]:=by rw[zzax,hs];rfl
   have lZ:(X.take i).length=i:=by rw[zzaq];omega
   rw[Jm]at hb
   have oI:∀row∈(X.take i).map Qe,row.length=2:=by
    intro row h;rw[zzbg]at h;obtain⟨a,_,rfl⟩:=h;rfl
   generalize X.take i=T at hb bA lZ oI;obtain⟨rfl,rfl⟩|⟨h0,id,rfl,hL⟩:=aX
   ·have hTn:T=[]:=zzbz.1 lZ;subst hTn;simp[hr,Zr,Bg,hb,aem];refine k1 _ ⟨bx++[[I s.1,I s.2]],.own m.lens.length 2,?_,.inr ⟨zE,m.lens.length,rfl,?_⟩⟩
    ·rw[bA];rfl
    simp
   have tV:m.lens[id]?=some T.length:=by rw[lZ];simpa using hL
   have ai:=(zza.1 tV).1;simp[hr,Zr,Bg,hb,aem,tV];refine⟨⟨?_,zE⟩,?_⟩
   ·rintro row (⟨a,b,_,rfl⟩|rfl)<;>rfl
   refine k1 _ ⟨bx++[[I s.1,I s.2]],.own id 2,?_,.inr ⟨zE,id,rfl,?_⟩⟩
   ·rw[bA,zzcg];rfl
   simp[ai,lZ]
  rintro m ⟨bx,rt,hb,aX⟩;rw[zzbt]at hb aX;rw[zzbx]at hb;by_cases hn:X=[]
  ·subst hn;obtain⟨_,rfl⟩|⟨h0,_⟩:=aX
   ·simp[hb,akk]
   simp at h0
  obtain⟨h0,_⟩|⟨_,id,rfl,_⟩:=aX
  ·exact absurd (zzbz.1 h0) hn
  simp[hb,akk,hn]
 have hk:=key _ rfl;by_cases hn:X=[]
 ·rw[if_pos hn]at hk;rw[hn];exact Zl hk (Wk.sl _ _)
 rw[if_neg hn]at hk;exact hk
open Go Go.Abs
def Out(m:AM)(id:Nat)(L:List Sp):Prop:=∃rt,Qj m.boxes id=[.sl rt (L.map Qe)]/\id<m.boxes.length/\((L=[]/\rt=.nil)\/(L≠[]/\∃k,rt=.own k 2/\m.lens[k]?=some L.length))
def Out.box{m:AM}{id:Nat}{L:List Sp}(h:Out m id L)(b:T5):Out {m with boxes:=m.boxes++b} id L:=by
 obtain⟨rt,h1,h2,h3⟩:=h;exact⟨rt,by show Qj (m.boxes++b) id=_;rw[Qn h2];exact h1,by show id<(m.boxes++b).length;simp;omega,h3⟩
def Dg(Y:YT)(f t:Int)(id:Nat)(L:List Sp)(m:AM)(hO:Out m id L)(hl:L.length<=1000000000)(K:So)
  (hK:∀m',Out m' id (L++Dh f t)->bB (·=id) m.boxes m'.boxes->m'.st=m.st->m'.ln=m.ln->K (.aS []) m'):aB Tryz.prog aD Y 130 [I f,I t,.ptr id 0] m K:=by
 obtain⟨rt,h1,h2,h3⟩:=hO;refine Xn abU (fun _ _ _=>.junk) zd ?_;by_cases Ir:f<t
 ·have ha:Dh f t=[(f,t)]:=by simp[Dh,Ir]
  rw[ha]at hK
  have oI:∀row∈L.map Qe,row.length=2:=by
   intro row h;rw[zzbg]at h;obtain⟨a,_,rfl⟩:=h;rfl
  obtain⟨rfl,rfl⟩|⟨aO,k,rfl,hk⟩:=h3
  ·simp[ME,MF,Ir,h1,h2];refine hK _ ⟨.own m.lens.length 2,?_,Nm h2,.inr ⟨zd,m.lens.length,rfl,zd⟩⟩ (bB.set (S:=(·=id)) (bB.refl _ _) (.inl rfl) _) rfl rfl;simp[Yi _ h2,Qe]
  have oQ:=(zza.1 hk).1;simp[ME,MF,Ir,h1,h2,hk];refine⟨⟨?_,zE⟩,?_⟩
  ·rintro row (⟨a,b,_,rfl⟩|rfl)<;>rfl
  refine hK _ ⟨.own k 2,?_,Nm h2,.inr ⟨zd,k,rfl,by simp[oQ]⟩⟩ (bB.set (S:=(·=id)) (bB.refl _ _) (.inl rfl) _) rfl rfl;simp[Yi _ h2,Qe]
 have ha:Dh f t=[]:=by simp[Dh,Ir]
 rw[ha,zzar]at hK;simp[ME,MF,Ir];exact hK m ⟨rt,h1,h2,h3⟩ (bB.refl _ _) rfl rfl
def xJ(f t:Int):(Dh f t).length<=1:=by unfold Dh;split<;>simp
def Gj:∀(H:List Sp)(f t:Int),(jM f t H).1.length+(jM f t H).2.length<=H.length+1
 |[],f,t=>by have:=xJ f t;simp[jM];omega
 |h::r,f,t=>by
  have h1:=xJ f h.1;have h2:=xJ f t;rw[jM];split
  ·split
   ·simp;omega
   have:=Gj r (max f h.2) t;simp;omega
  simp;omega
def Gk:∀(A H:List Sp),(uf A H).length<=A.length+H.length
 |[],H=>by simp[uf]
 |s::A,H=>by
  have h1:=Gj H s.1 s.2;have h2:=Gk A (jM s.1 s.2 H).2;simp[uf];omega
def rA(a b:List Sp):UV:=fun d f _=>
 if f=999999 then .junk else if d=14 then .sl .ro ((Xl b).map Qe)else if d=16 then .sl .ro ((Xl a).map Qe)else .gd false .junk
def zX(a b:List Sp)(ha:a.length<=10000000)(hb:b.length<=10000000):
  Pure Tryz.prog aD 79 [.sl .ro (a.map Qe),.sl .ro (b.map Qe)] (.sl .ro ((Da a b).map Qe)):=by
 have h1:=Us a zE;have h2:=Us b zE;have hR:Da a b=uf (Xl a) (Xl b):=rfl;have hRl:=Gk (Xl a) (Xl b);have l1:=Yy a;have l2:=Yy b;rw[<- hR]at hRl;generalize Da a b=R at hR hRl
 have key:∀r,r=(if R=[]then AV.sl .nil []else .sl .ro (R.map Qe))->Pure Tryz.prog aD 79 [.sl .ro (a.map Qe),.sl .ro (b.map Qe)] r:=by
  rintro r rfl;refine Qo ake (rA a b) zd ?_;simp[abt,rA];refine⟨h2,h1,?_⟩;generalize Xl a=A at hR hRl l1 |-
  generalize Xl b=H at hR hRl l2 |-
  clear h1 h2;refine Qk Mt (fun f m=>∃(k i:Nat)(L:List Sp),k<=A.length/\i<=H.length/\f 18=I k/\f 8=I i/\Out m 0 L/\L++uf (A.drop k) (H.drop i)=R) (fun f _=>A.length-(numOf (f 18)).toNat) ?_ ?_
  ·exact⟨0,0,[],zE,zE,zd,zd,⟨.nil,rfl,zd,.inl ⟨rfl,rfl⟩⟩,Nm hR.symm⟩
  rintro f m ⟨k,i,L,hk,hi,h18,h8,hO,hL⟩;rcases zzaa k A.length with ai|bn
  ·obtain⟨s,hs⟩:=aV ai;have ah:=Zx hs;have P4:(k:Int)<(A.length:Int):=zE
   have P5:=bO k zE;have hda:A.drop k=s::A.drop (k+1):=by rw[zzag ai,(zza.1 hs).2]
   rw[hda,uf]at hL;have hO0:=hO;obtain⟨_,_,JR,_⟩:=hO0;simp[h18,ai,P4,ah,Mt,rA]
   refine Qk Mu (fun g m2=>∃(i:Nat)(fr:Int)(L:List Sp),i<=H.length/\g 8=I i/\g 11=I fr/\Out m2 0 L/\m.boxes.length<m2.boxes.length/\Qj m2.boxes m.boxes.length=[I s.1,I s.2]/\
     L++((jM fr s.2 (H.drop i)).1++uf (A.drop (k+1)) (jM fr s.2 (H.drop i)).2)=R) (fun g _=>H.length-(numOf (g 8)).toNat) ?_ ?_
   ·refine⟨i,s.1,L,hi,by simp[h8],zd,hO.box _,zd,zd,hL⟩
   rintro g m2 ⟨i,fr,L,hi,h8,pE,hO,zg,hbx,hL⟩
   have hLl:L.length<=1000000000:=by
    have:=congrArg List.length hL;rw[zzak]at this;omega
   have lC:m.boxes.length≠0:=zE
   have fin:∀(hd:H.drop i=[]\/∃h r,H.drop i=h::r/\s.2<=h.1),L++Dh fr s.2++uf (A.drop (k+1)) (H.drop i)=R:=by
    rintro(hd|⟨h,r,hd,hc⟩)
    ·rw[hd]at hL |-;simpa[jM]using hL
    rw[hd]at hL |-
    rw[jM,if_neg zE]at hL;simpa using hL
   rcases zzaa i H.length with jb|hig
   ·obtain⟨h,hh⟩:=aV jb;have hrh:=Zx hh;have aa:(i:Int)<(H.length:Int):=zE
    have XM:=bO i zE;have hdh:H.drop i=h::H.drop (i+1):=by rw[zzag jb,(zza.1 hh).2]
    by_cases hc:h.1<s.2
    ·rw[hdh,jM,if_pos hc,<- hdh]at hL;simp[h8,pE,jb,aa,hrh,hbx,hc,Mu,rA];refine Dg Y0 fr h.1 0 L m2 hO hLl _ (fun m3 hO3 Bh _ _=>?_);have asE:Qj m3.boxes m.boxes.length=[I s.1,I s.2]:=by rw[Bh.2 _ zg lC];exact hbx
     have hm3:m.boxes.length<m3.boxes.length:=by have:=Bh.1;omega
     by_cases hd:s.2<=max fr h.2
     ·rw[if_pos hd]at hL;simp[asE,rz,hd,P5,h18];refine⟨aQ,⟨k+1,zE,i,zE,zd,rfl,L++Dh fr h.1,hO3,by rw[zzbe];exact hL⟩,zE⟩
     rw[if_neg hd]at hL;simp[asE,rz,hd,XM,h8];refine⟨aQ,⟨i+1,zE,zd,L++Dh fr h.1,hO3,hm3,by rw[zzbe,<- zzbe (Dh fr h.1)];exact hL⟩,zE⟩
    simp[h8,pE,jb,aa,hrh,hbx,hc,Mu,rA];refine Dg Y0 fr s.2 0 L m2 hO hLl _ (fun m3 hO3 Bh _ _=>?_);simp[P5,h18];refine⟨aQ,⟨k+1,zE,i,zE,zd,rfl,L++Dh fr s.2,hO3,fin (.inr ⟨h,_,hdh,zE⟩)⟩,zE⟩
   have bQ:¬(i:Int)<(H.length:Int):=zE
   simp[h8,pE,bQ,zzbk.2 hig,hbx,Mu,rA];refine Dg Y0 fr s.2 0 L m2 hO hLl _ (fun m3 hO3 Bh _ _=>?_);simp[P5,h18];refine⟨aQ,⟨k+1,zE,i,zE,zd,rfl,L++Dh fr s.2,hO3,fin (.inl (zzal hig))⟩,zE⟩
  obtain rfl:k=A.length:=zE
  rw[zzbv,uf,zzar]at hL;subst hL;obtain⟨rt,o1,o2,o3⟩:=hO;obtain⟨rfl,rfl⟩|⟨aO,k,rfl,_⟩:=o3
  ·simp[h18,o1,Mt,akd]
  simp[h18,o1,Mt,akd,aO]
 have hk:=key _ rfl;by_cases hn:R=[]
 ·rw[if_pos hn]at hk;rw[hn];exact Zl hk (Wk.sl _ _)
 rw[if_neg hn]at hk;exact hk
