import Derived.Test.YtnopaopphmjnmaaGreatDoorMQSpL
set_option linter.all false
set_option maxRecDepth 100000
set_option maxHeartbeats 64000000
namespace Go.Proofs.YtnopaopphmjnmaaGreatDoor
open Go Go.Abs
def GK(Y:YT)(rt:Rt)(aT:∀m,bJ m 6 (.sl rt [])=.sl rt [])(m:AM)(K:AV->AM->Prop)(hK:K (.sl rt []) m):an Tryz.prog aA Y 248 [.sl rt [],.fn 249 [] []] m K:=by
 have h:=Zo (l:=[.sl rt [],.fn 249 [] []]) (pV [] zd) ⟨Wk.sl rt [],Wk.refl _,trivial⟩;simp only[pW]at h;refine Xd Of (nY (-1)) zd ?_;simp[Fl,Oe,nY,aT];exact⟨h,hK⟩
def GL:Nat->FuncId->List AV->AV:=fun d f _=>if f=999999 then(if d=12 then .aL 0 []else if d=70 then .aL 0 []else .junk)else .gd false .junk
def rN(a b:Int):(if a<b then b else a)=max a b:=by split<;>omega
def att(B:List (List AV))(id:Nat)(out:List Sp)(a:AV):Prop:=
 (out=[]/\a=.sl .nil [])\/∃gV,out≠[]/\a=.bs gV 0 out.length 2/\gV≠id/\gV<B.length/\Qh B gV=cI out
def LX{out:List Sp}(h:out≠[]):∃p u,out=p++[u]:=⟨out.dropLast,out.getLast h,(zzex h).symm⟩
def DD(l:List Sp)(hl:l.length<=100000000):Pure Tryz.prog aA 182 [.sl .ro (l.map Qf)] (if Xn l=[]then .sl .nil []else .sl .ro ((Xn l).map Qf)):=by
 refine Qo adD GL zd ?_;by_cases aM:l=[]
 ·subst aM;have hn:Xn []=[]:=by simp[Xn,GM]
  simp[N0,GL,hn];refine Qk vH (fun f m=>f 15=I 0/\f 3=.sl .full []/\m=⟨[[]],[],fun _=>.gone,0⟩) (fun _ _=>0) ?_ ?_
  ·simp
  rintro f m ⟨sU,h3,rfl⟩;simp[sU,h3,vH];refine GK _ _ (fun _=>rfl) _ _ ?_;refine GN _ _ _ _ ?_;simp;refine Qk ja (fun f m=>f 31=I 0/\f 6=.sl .nil []/\m=⟨[[]],[],fun _=>.gone,0⟩) (fun _ _=>0) ?_ ?_
  ·simp
  rintro f m ⟨h31,h6,rfl⟩;simp[h31,h6,ja,N1]
 have gZ:l.length≠0:=by simpa using aM
 have fk:0<l.length:=zE
 simp[N0,GL,aM];refine⟨⟨zE,zE⟩,?_⟩
 refine Qk vH (fun f m=>∃(i id:Nat)(B:List (List AV)),i<=l.length/\f 15=I i/\f 3=.bs id 0 i 2/\m=⟨B,[],fun _=>.gone,0⟩/\id<B.length/\Qh B id≠[]/\i*2<=(Qh B id).length/\(Qh B id).take (i*2)=cI (l.take i)/\(0<i->Qh B id=cI (l.take i)))
  (fun f _=>l.length-(numOf (f 15)).toNat) ?_ ?_
 ·exact⟨0,0,[List.replicate (l.length*2) .junk],zE,zd,zd,rfl,zd,by simp;omega,zd,zd,zd⟩
 rintro f m ⟨i,id,B,hi,sU,h3,rfl,aK,A0,cw,bC,A5⟩;rcases zzaa i l.length with ai|bz
 ·obtain⟨s,hs⟩:=aU ai;have ah:=Zf hs;have aa:(i:Int)<(l.length:Int):=zE
  have hw:=bM i zE;have iE:∀x,Qh (B++x) id=Qh B id:=fun x=>Ql aK;have lY:∀x v,(B++x).set id v=B.set id v++x:=fun x v=>Ym v aK;have eG:cI (l.take (i+1))=cI (l.take i)++[I s.1,I s.2]:=by rw[zzas,hs,Qcl];rfl
  simp[sU,h3,aa,ai,ah,vH,hw,iE,lY,A0,cw,bC,GL];refine⟨⟨zE,zE⟩,aP,⟨i+1,zE,zd,?_⟩,zE⟩
  ·refine⟨B.length+1,⟨rfl,rfl⟩,zE,?_⟩
   have e:Qh (B.set id []++[[AV.int IntKind.i64 s.fst,AV.int IntKind.i64 s.snd],cI (List.take i l)++[AV.int IntKind.i64 s.fst,AV.int IntKind.i64 s.snd]]) (B.length+1)=cI (l.take (i+1)):=by
    have:=Vm (B.set id []) [[AV.int IntKind.i64 s.fst,AV.int IntKind.i64 s.snd],cI (List.take i l)++[AV.int IntKind.i64 s.fst,AV.int IntKind.i64 s.snd]] 1;rw[zzck]at this;rw[this,eG];rfl
   rw[e];have e2:(cI (l.take (i+1))).length=(i+1)*2:=by rw[Yb,zzaq];congr 1;omega
   refine⟨?_,zE,?_,fun _=>rfl⟩
   ·intro h;rw[h]at e2;simp at e2
   rw[<- e2,zzbu]
 obtain rfl:i=l.length:=zE
 have hB:=A5 fk;rw[zzbu]at hB;have bL:¬((l.length:Nat):Int)<(l.length:Int):=zE
 simp[sU,h3,vH,GL];refine LY _ l zE B _ _ _ id aK aM hB _ ?_;intro B1 z eU hB1 hz;have anH:id<B1.length:=zzaz aK eU.1;rw[Qcl]at hB1;have YM:B1[id]?=some (cI (l.filter mV)++cI z):=by rw[Ug anH,hB1]
 refine LZ _ (l.filter mV) zE _ id (cI z) YM ?_ _ ?_
 ·intro h;have:=congrArg List.length h;rw[zzai,Yb,Yb]at this;simp at this;omega
 intro d hp hs;have anh:=anI hp hs;have hdl:d.length=(l.filter mV).length:=hp.length_eq;rw[<- hdl];have azq:d.length<=100000000:=zE
 simp[AM.wr]
 refine Qk ja (fun f m=>∃(i:Nat)(B:List (List AV))(out:List Sp),i<=d.length/\f 31=I i/\m=⟨B,[],fun _=>.gone,0⟩/\out.length<=i/\id<B.length/\Qh B id=cI d++cI z/\GM out (d.drop i)=Xn l/\att B id out (f 6))
  (fun f _=>d.length-(numOf (f 31)).toNat) ?_ ?_
 ·exact⟨0,B1.set id (cI d++cI z),[],zE,zd,rfl,zd,by simpa using anH,Vs _ anH,by simpa using anh,.inl ⟨rfl,zd⟩⟩
 rintro f m ⟨i,B,out,hi,h31,rfl,O1,aK,hB,hm,hout⟩;rcases zzaa i d.length with ai|bz
 ·obtain⟨v,hv⟩:=aU ai;have aa:(i:Int)<(d.length:Int):=zE
  have hw:=bM i zE
  have hg:(cI d++cI z).drop (i*2)=I v.1::I v.2::(cI (d.drop (i+1))++cI z):=by
   rw[zzdv (by rw[Yb];omega),uT hv];rfl
  have ew:d.drop i=v::d.drop (i+1):=by
   rw[zzaf ai,(zza.1 hv).2]
  rw[ew,GM]at hm;have iE:∀x,Qh (B++x) id=cI d++cI z:=fun x=>by rw[Ql aK,hB]
  obtain⟨rfl,h6⟩|⟨gV,hon,h6,qY,dW,uk⟩:=hout
  ·simp[h31,h6,aa,ai,hB,iE,hg,ja,hw,GL];refine⟨aP,⟨i+1,zE,zd,?_⟩,zE⟩
   ·refine⟨[v],zd,zE,by simpa[R5]using hm,.inr ⟨B.length+1,zd,zd,zE,zd,zd⟩⟩
  obtain⟨p,u,rfl⟩:=LX hon;have atu:p.length+1<=i:=by simpa using O1
  have ji:(cI (p++[u])).drop (p.length*2+1)=[I u.2]:=by
   have:=Gu (l:=p++[u]) (i:=p.length) (s:=u) zd;simpa using this
  have bY:=xF (p++[u]) p.length u (max u.2 v.2) zd;have atv:(p++[u]).set p.length (u.1,max u.2 v.2)=p++[(u.1,max u.2 v.2)]:=zd
  rw[atv]at bY;have hwp:IntKind.i64.wrap (p.length:Int)=(p.length:Int):=by rw[Qj]<;>omega
  have gM:(0:Int)<(p.length:Int)+1:=zE
  have atw:∀x,Qh (B++x) gV=cI (p++[u]):=fun x=>by rw[Ql dW,uk]
  have lY:∀x v,(B++x).set gV v=B.set gV v++x:=fun x v=>Ym v dW;have eG:=Yb (p++[u]);simp only[zzai,zzbe,zzcf,zzbw]at eG h6;have aya:R5 (p++[u]) v=if v.1<=u.2 then p++[(u.1,max u.2 v.2)]else p++[u]++[v]:=by simp[R5]
  rw[aya]at hm;by_cases hc:v.1<=u.2
  ·rw[if_pos hc]at hm;simp[h31,h6,aa,ai,hB,iE,atw,lY,hg,ji,ja,hw,hwp,gM,hc,rN,bY,eG,GL];refine⟨zE,⟨zE,zE⟩,aP,⟨i+1,zE,zd,?_⟩,zE⟩
   ·refine⟨p++[(u.1,max u.2 v.2)],by simp;omega,zE,by rw[Ql (by simpa using aK),Zz _ qY,hB],hm,.inr ⟨gV,zd,zd,qY,by simp;omega,by rw[Ql (by simpa using dW),Vs _ dW]⟩⟩
  rw[if_neg hc]at hm;simp[h31,h6,aa,ai,hB,iE,atw,lY,hg,ji,ja,hw,hwp,gM,hc,eG,GL];refine⟨zE,⟨⟨zE,by simp[Qcl]⟩,zE⟩,aP,⟨i+1,zE,zd,?_⟩,zE⟩
  ·have bC:(cI (p++[u])).take ((p.length+1)*2)=cI (p++[u]):=zzap (by rw[eG];exact zzab _);rw[bC];refine⟨p++[u]++[v],by simp;omega,zE,by rw[Ql (by simpa using aK),Zz _ qY,hB],hm,.inr ⟨B.length+1,zd,zd,zE,zd,?_⟩⟩;have:=Vm (B.set gV []) [[I v.1,I v.2],cI (p++[u])++[AV.int IntKind.i64 v.fst,AV.int IntKind.i64 v.snd]] 1;rw[zzck]at this;rw[this,Qcl (p++[u]) [v]];rfl
 obtain rfl:i=d.length:=zE
 rw[zzbn,GM]at hm;obtain⟨rfl,h6⟩|⟨gV,hon,h6,qY,dW,uk⟩:=hout
 ·simp[h31,h6,ja,N1,<- hm]
 have fS:=Zp ⟨B,[],fun _=>.gone,0⟩ 4 (Dy out);have fQ:=Qek out;have eG:=Yb out;simp[h31,h6,ja,N1,<- hm,hon,uk,fS,fQ,eG]
def Uw(l:List Sp)(hl:l.length<=100000000):Pure Tryz.prog aA 182 [.sl .ro (l.map Qf)] (.sl .ro ((Xn l).map Qf)):=by
 have h:=DD l hl;by_cases hn:Xn l=[]
 ·rw[if_pos hn]at h;rw[hn];exact Xa h (Wk.sl _ _)
 rw[if_neg hn]at h;exact h
open Go Go.Abs
def L3(a b:Int):(if b<a then b else a)=min a b:=by split<;>omega
def Bv(s:Sp):List AV:=[.agg [I s.1,I s.2]]
def ZY(A B:List Sp)(hA:A.length<=100000000)(hB:B.length<=100000000):
  Iter Tryz.prog aA 264 [] [.ep [.sl .ro (A.map Qf)] 0,.ep [.sl .ro (B.map Qf)] 0] ((uv (A.length+B.length) A B).map Bv):=by
 intro Y l m K hF;refine Xd aez (fun _ _ _=>.junk) zd ?_;simp[WH]
 refine Qk qQ (fun f mm=>∃(i j:Nat),i<=A.length/\j<=B.length/\f 4=I i/\f 5=I j/\xd (Y l) K ((uv (A.length-i+(B.length-j)) (A.drop i) (B.drop j)).map Bv) mm)
  (fun f _=>A.length-(numOf (f 4)).toNat+(B.length-(numOf (f 5)).toNat)) ?_ ?_
 ·exact⟨0,0,zE,zE,zd,zd,by simpa using hF⟩
 rintro f mm ⟨i,j,hi,hj,h4,h5,hF⟩;by_cases Lo:i=A.length\/j=B.length
 ·have hnil:uv (A.length-i+(B.length-j)) (A.drop i) (B.drop j)=[]:=by
   obtain rfl|rfl:=Lo
   ·rw[zzbn];cases A.length-A.length+(B.length-j)<;>rfl
   rw[zzbn];cases A.length-i+(B.length-B.length)with
   |zero=>rfl
   |succ n=>cases A.drop i<;>rfl
  rw[hnil]at hF;have hK:K mm:=hF mm (fR.refl _);by_cases h1:i<A.length
  ·have O5:¬(j:Int)<(B.length:Int):=zE
   have aa:(i:Int)<(A.length:Int):=zE
   simp[h4,h5,h1,aa,O5,qQ,Ol];exact hK
  have bL:¬(i:Int)<(A.length:Int):=zE
  simp[h4,h5,h1,bL,qQ,Ol];exact hK
 have h1:i<A.length:=zE
 have h2:j<B.length:=zE
 obtain⟨s,hs⟩:=aU h1;obtain⟨t,ht⟩:=aU h2;have sQ:=Zf hs;have aT:=Zf ht;have hda:A.drop i=s::A.drop (i+1):=by rw[zzaf h1,(zza.1 hs).2]
 have hdb:B.drop j=t::B.drop (j+1):=by rw[zzaf h2,(zza.1 ht).2]
 have hn:A.length-i+(B.length-j)=(A.length-i+(B.length-j)-1)+1:=zE
 have qV:A.length-i+(B.length-j)-1=A.length-(i+1)+(B.length-j):=zE
 have qY:A.length-i+(B.length-j)-1=A.length-i+(B.length-(j+1)):=zE
 have aa:(i:Int)<(A.length:Int):=zE
 have eV:(j:Int)<(B.length:Int):=zE
 have LH:=bM i zE;have xP:=bM j zE;rw[hda,hdb,hn,uv,<- hda,<- hdb]at hF;by_cases hc:max s.1 t.1<min s.2 t.2
 ·rw[if_pos hc]at hF;simp only[zzdo,zzay]at hF;simp[h4,h5,h1,h2,aa,eV,sQ,aT,qQ,rN,L3,hc];refine hF _ (fR.box mm _) _ (fun m2 qF=>?_) (fun m2 hK=>?_)
  ·by_cases hd:s.2<t.2
   ·rw[if_pos hd,qV]at qF;have zK:¬t.2<=s.2:=zE
    simp[h1,h2,aa,eV,sQ,aT,hd,zK,LH];refine⟨aP,⟨i+1,zE,j,zE,zd,rfl,qF⟩,zE⟩
   rw[if_neg hd,qY]at qF;have zK:t.2<=s.2:=zE
   simp[h1,h2,aa,eV,sQ,aT,hd,zK,xP];refine⟨aP,⟨i,zE,j+1,zE,rfl,zd,qF⟩,zE⟩
  simp[Ol];exact hK _ (fR.refl _)
 rw[if_neg hc]at hF;simp only[zzah]at hF;have hF':=xd.ext hF (fR.box mm [[I (max s.1 t.1),I (min s.2 t.2)]]);by_cases hd:s.2<t.2
 ·rw[if_pos hd,qV]at hF';simp[h4,h5,h1,h2,aa,eV,sQ,aT,qQ,rN,L3,hc,hd,LH];refine⟨aP,⟨i+1,zE,j,zE,zd,rfl,hF'⟩,zE⟩
 rw[if_neg hd,qY]at hF';simp[h4,h5,h1,h2,aa,eV,sQ,aT,qQ,rN,L3,hc,hd,xP];refine⟨aP,⟨i,zE,j+1,zE,rfl,zd,hF'⟩,zE⟩
def Aa(A B:List Sp):Pure Tryz.prog aA 190 [.sl .ro (A.map Qf),.sl .ro (B.map Qf)] (.fn 264 [] [.ep [.sl .ro (A.map Qf)] 0,.ep [.sl .ro (B.map Qf)] 0]):=by
 refine Qo adN (fun _ _ _=>.junk) zd ?_;simp[aiA,aiB]
def afO(A B:List Sp):Nat->FuncId->List AV->AV:=fun d f _=>
 if f=999999 then .junk else if d=8 then .sl .ro ((Xn A).map Qf)else if d=10 then .sl .ro ((Xn B).map Qf)else if d=11 then .fn 264 [] [.ep [.sl .ro ((Xn A).map Qf)] 0,.ep [.sl .ro ((Xn B).map Qf)] 0]else .junk
def DE:∀(n:Nat)(A B:List Sp),(uv n A B).length<=n
 |0,_,_=>by simp[uv]
 |n+1,[],_=>by simp[uv]
 |n+1,s::A,[]=>by simp[uv]
 |n+1,s::A,t::B=>by
  have h1:=DE n A (t::B);have h2:=DE n (s::A) B;rw[uv,zzai];split<;>split<;>simp<;>omega
def jS(A B:List Sp)(hA:A.length<=10000000)(hB:B.length<=10000000):
  Pure Tryz.prog aA 117 [.sl .ro (A.map Qf),.sl .ro (B.map Qf)] (.sl .ro ((zZ A B).map Qf)):=by
 have h1:=Uw A zE;have h2:=Uw B zE;have l1:=Uc A;have l2:=Uc B;have h3:=Aa (Xn A) (Xn B);have cp:=ZY (Xn A) (Xn B) zE zE;have hX:zZ A B=uv ((Xn A).length+(Xn B).length) (Xn A) (Xn B):=rfl;have hXl:=DE ((Xn A).length+(Xn B).length) (Xn A) (Xn B);rw[<- hX]at cp hXl;generalize zZ A B=X at cp hXl;clear hX
 have key:∀r,r=(if X=[]then AV.sl .nil []else .sl .ro (X.map Qf))->Pure Tryz.prog aA 117 [.sl .ro (A.map Qf),.sl .ro (B.map Qf)] r:=by
  rintro r rfl;refine Qo ac4 (afO A B) zd ?_;simp[ah3,afO];refine⟨h1,h2,h3,?_⟩
  refine jK (xs:=X.map Bv) zd cp (by intro x hx;simp at hx;obtain⟨a,b,_,rfl⟩:=hx;rfl)
   (fun i m=>∃(bx:List (List AV))(rt:Rt),m.boxes=[.sl rt ((X.take i).map Qf)]::bx/\((i=0/\rt=.nil)\/(0<i/\∃id,rt=.own id 2/\m.lens[id]?=some i))) (fun _ _=>False) ⟨[],.nil,zd,.inl ⟨rfl,rfl⟩⟩ ?_ (fun _ _ _ h=>h.elim) ?_ ?_ (fun _ _ h=>h.elim)
  ·rintro i m m' ⟨bx,rt,hb,aT⟩ ⟨⟨b2,e1⟩,⟨l2,e2⟩,_⟩;refine⟨bx++b2,rt,by rw[e1,hb];rfl,?_⟩;obtain h|⟨h0,id,h1,h2⟩:=aT
   ·exact .inl h
   refine .inr ⟨h0,id,h1,?_⟩;rw[e2,zzag (zza.1 h2).1];exact h2
  ·rintro l i m x hg hr ⟨bx,rt,hb,aT⟩ hx K' k1 _ _
   obtain⟨s,hs,rfl⟩:∃s,X[i]?=some s/\Bv s=x:=by
    rw[zzbi]at hx;cases hq:X[i]? with
    |none=>rw[hq]at hx;cases hx
    |some y=>rw[hq]at hx;exact⟨y,rfl,Option.some.inj hx⟩
   have hi:i<X.length:=(zza.1 hs).1;have bC:X.take (i+1)=X.take i++[s]:=by rw[zzas,hs];rfl
   have iR:(X.take i).length=i:=by rw[zzaq];omega
   rw[Ui]at hb
   have iC:∀row∈(X.take i).map Qf,row.length=2:=by
    intro row h;rw[zzax]at h;obtain⟨a,_,rfl⟩:=h;rfl
   generalize X.take i=T at hb bC iR iC;obtain⟨rfl,rfl⟩|⟨h0,id,rfl,hL⟩:=aT
   ·have hTn:T=[]:=zzcd.1 iR;subst hTn;simp[hr,Zn,Bv,hb,afO];refine k1 _ ⟨bx++[[I s.1,I s.2]],.own m.lens.length 2,?_,.inr ⟨zE,m.lens.length,rfl,?_⟩⟩
    ·rw[bC];rfl
    simp
   have ug:m.lens[id]?=some T.length:=by rw[iR];simpa using hL
   have ai:=(zza.1 ug).1;simp[hr,Zn,Bv,hb,afO,ug];refine⟨⟨?_,zE⟩,?_⟩
   ·rintro row (⟨a,b,_,rfl⟩|rfl)<;>rfl
   refine k1 _ ⟨bx++[[I s.1,I s.2]],.own id 2,?_,.inr ⟨zE,id,rfl,?_⟩⟩
   ·rw[bC,zzca];rfl
   simp[ai,iR]
  rintro m ⟨bx,rt,hb,aT⟩;rw[zzbj]at hb aT;rw[zzbu]at hb;by_cases hn:X=[]
  ·subst hn;obtain⟨_,rfl⟩|⟨h0,_⟩:=aT
   ·simp[hb,U4]
   simp at h0
  obtain⟨h0,_⟩|⟨_,id,rfl,_⟩:=aT
  ·exact absurd (zzcd.1 h0) hn
  simp[hb,U4,hn]
 have hk:=key _ rfl;by_cases hn:X=[]
 ·rw[if_pos hn]at hk;rw[hn];exact Xa hk (Wk.sl _ _)
 rw[if_neg hn]at hk;exact hk
open Go Go.Abs
def Out(m:AM)(id:Nat)(L:List Sp):Prop:=∃rt,Qh m.boxes id=[.sl rt (L.map Qf)]/\id<m.boxes.length/\((L=[]/\rt=.nil)\/(L≠[]/\∃k,rt=.own k 2/\m.lens[k]?=some L.length))
def Out.box{m:AM}{id:Nat}{L:List Sp}(h:Out m id L)(b:List (List AV)):Out {m with boxes:=m.boxes++b} id L:=by
 obtain⟨rt,h1,h2,h3⟩:=h;exact⟨rt,by show Qh (m.boxes++b) id=_;rw[Ql h2];exact h1,by show id<(m.boxes++b).length;simp;omega,h3⟩
def DF(Y:YT)(f t:Int)(id:Nat)(L:List Sp)(m:AM)(hO:Out m id L)(hl:L.length<=1000000000)(K:AV->AM->Prop)
  (hK:∀m',Out m' id (L++DG f t)->bw (·=id) m.boxes m'.boxes->m'.st=m.st->m'.ln=m.ln->K (.aZ []) m'):an Tryz.prog aA Y 181 [I f,I t,.ptr id 0] m K:=by
 obtain⟨rt,h1,h2,h3⟩:=hO;refine Xd adC (fun _ _ _=>.junk) zd ?_;by_cases JO:f<t
 ·have ha:DG f t=[(f,t)]:=by simp[DG,JO]
  rw[ha]at hK
  have iC:∀row∈L.map Qf,row.length=2:=by
   intro row h;rw[zzax]at h;obtain⟨a,_,rfl⟩:=h;rfl
  obtain⟨rfl,rfl⟩|⟨aM,k,rfl,hk⟩:=h3
  ·simp[NY,NZ,JO,h1,h2];refine hK _ ⟨.own m.lens.length 2,?_,by simpa using h2,.inr ⟨zd,m.lens.length,rfl,zd⟩⟩ (bw.set (S:=(·=id)) (bw.refl _ _) (.inl rfl) _) rfl rfl;simp[Vs _ h2,Qf]
  have sI:=(zza.1 hk).1;simp[NY,NZ,JO,h1,h2,hk];refine⟨⟨?_,zE⟩,?_⟩
  ·rintro row (⟨a,b,_,rfl⟩|rfl)<;>rfl
  refine hK _ ⟨.own k 2,?_,by simpa using h2,.inr ⟨zd,k,rfl,by simp[sI]⟩⟩ (bw.set (S:=(·=id)) (bw.refl _ _) (.inl rfl) _) rfl rfl;simp[Vs _ h2,Qf]
 have ha:DG f t=[]:=by simp[DG,JO]
 rw[ha,zzau]at hK;simp[NY,NZ,JO];exact hK m ⟨rt,h1,h2,h3⟩ (bw.refl _ _) rfl rfl
def xQ(f t:Int):(DG f t).length<=1:=by unfold DG;split<;>simp
def GO:∀(H:List Sp)(f t:Int),(jU f t H).1.length+(jU f t H).2.length<=H.length+1
 |[],f,t=>by have:=xQ f t;simp[jU];omega
 |h::r,f,t=>by
  have h1:=xQ f h.1;have h2:=xQ f t;rw[jU];split
  ·split
   ·simp;omega
   have:=GO r (max f h.2) t;simp;omega
  simp;omega
def GP:∀(A H:List Sp),(uw A H).length<=A.length+H.length
 |[],H=>by simp[uw]
 |s::A,H=>by
  have h1:=GO H s.1 s.2;have h2:=GP A (jU s.1 s.2 H).2;simp[uw];omega
def rO(a b:List Sp):Nat->FuncId->List AV->AV:=fun d f _=>
 if f=999999 then .junk else if d=14 then .sl .ro ((Xn b).map Qf)else if d=16 then .sl .ro ((Xn a).map Qf)else .gd false .junk
def Ab(a b:List Sp)(ha:a.length<=10000000)(hb:b.length<=10000000):
  Pure Tryz.prog aA 112 [.sl .ro (a.map Qf),.sl .ro (b.map Qf)] (.sl .ro ((DH a b).map Qf)):=by
 have h1:=Uw a zE;have h2:=Uw b zE;have hR:DH a b=uw (Xn a) (Xn b):=rfl;have hRl:=GP (Xn a) (Xn b);have l1:=Uc a;have l2:=Uc b;rw[<- hR]at hRl;generalize DH a b=R at hR hRl
 have key:∀r,r=(if R=[]then AV.sl .nil []else .sl .ro (R.map Qf))->Pure Tryz.prog aA 112 [.sl .ro (a.map Qf),.sl .ro (b.map Qf)] r:=by
  rintro r rfl;refine Qo acZ (rO a b) zd ?_;simp[NF,rO];refine⟨h2,h1,?_⟩;generalize Xn a=A at hR hRl l1 |-
  generalize Xn b=H at hR hRl l2 |-
  clear h1 h2;refine Qk Cn (fun f m=>∃(k i:Nat)(L:List Sp),k<=A.length/\i<=H.length/\f 18=I k/\f 8=I i/\Out m 0 L/\L++uw (A.drop k) (H.drop i)=R) (fun f _=>A.length-(numOf (f 18)).toNat) ?_ ?_
  ·exact⟨0,0,[],zE,zE,zd,zd,⟨.nil,rfl,zd,.inl ⟨rfl,rfl⟩⟩,by simpa using hR.symm⟩
  rintro f m ⟨k,i,L,hk,hi,h18,h8,hO,hL⟩;rcases zzaa k A.length with ai|bz
  ·obtain⟨s,hs⟩:=aU ai;have ah:=Zf hs;have afC:(k:Int)<(A.length:Int):=zE
   have Y6:=bM k zE;have hda:A.drop k=s::A.drop (k+1):=by rw[zzaf ai,(zza.1 hs).2]
   rw[hda,uw]at hL;have hO0:=hO;obtain⟨_,_,JK,_⟩:=hO0;simp[h18,ai,afC,ah,Cn,rO]
   refine Qk Co (fun g m2=>∃(i:Nat)(fr:Int)(L:List Sp),i<=H.length/\g 8=I i/\g 11=I fr/\Out m2 0 L/\m.boxes.length<m2.boxes.length/\Qh m2.boxes m.boxes.length=[I s.1,I s.2]/\
     L++((jU fr s.2 (H.drop i)).1++uw (A.drop (k+1)) (jU fr s.2 (H.drop i)).2)=R) (fun g _=>H.length-(numOf (g 8)).toNat) ?_ ?_
   ·refine⟨i,s.1,L,hi,by simp[h8],zd,hO.box _,zd,zd,hL⟩
   rintro g m2 ⟨i,fr,L,hi,h8,pO,hO,zo,hbx,hL⟩
   have hLl:L.length<=1000000000:=by
    have:=congrArg List.length hL;rw[zzai]at this;omega
   have qS:m.boxes.length≠0:=zE
   have fin:∀(hd:H.drop i=[]\/∃h r,H.drop i=h::r/\s.2<=h.1),L++DG fr s.2++uw (A.drop (k+1)) (H.drop i)=R:=by
    rintro(hd|⟨h,r,hd,hc⟩)
    ·rw[hd]at hL |-;simpa[jU]using hL
    rw[hd]at hL |-
    rw[jU,if_neg zE]at hL;simpa using hL
   rcases zzaa i H.length with fO|hig
   ·obtain⟨h,hh⟩:=aU fO;have hrh:=Zf hh;have aa:(i:Int)<(H.length:Int):=zE
    have LH:=bM i zE;have hdh:H.drop i=h::H.drop (i+1):=by rw[zzaf fO,(zza.1 hh).2]
    by_cases hc:h.1<s.2
    ·rw[hdh,jU,if_pos hc,<- hdh]at hL;simp[h8,pO,fO,aa,hrh,hbx,hc,Co,rO];refine DF Y0 fr h.1 0 L m2 hO hLl _ (fun m3 hO3 Bw _ _=>?_);have atx:Qh m3.boxes m.boxes.length=[I s.1,I s.2]:=by rw[Bw.2 _ zo qS];exact hbx
     have hm3:m.boxes.length<m3.boxes.length:=by have:=Bw.1;omega
     by_cases hd:s.2<=max fr h.2
     ·rw[if_pos hd]at hL;simp[atx,rN,hd,Y6,h18];refine⟨aP,⟨k+1,zE,i,zE,zd,rfl,L++DG fr h.1,hO3,by rw[zzb];exact hL⟩,zE⟩
     rw[if_neg hd]at hL;simp[atx,rN,hd,LH,h8];refine⟨aP,⟨i+1,zE,zd,L++DG fr h.1,hO3,hm3,by rw[zzb,<- zzb (DG fr h.1)];exact hL⟩,zE⟩
    simp[h8,pO,fO,aa,hrh,hbx,hc,Co,rO];refine DF Y0 fr s.2 0 L m2 hO hLl _ (fun m3 hO3 Bw _ _=>?_);simp[Y6,h18];refine⟨aP,⟨k+1,zE,i,zE,zd,rfl,L++DG fr s.2,hO3,fin (.inr ⟨h,_,hdh,zE⟩)⟩,zE⟩
   have bL:¬(i:Int)<(H.length:Int):=zE
   simp[h8,pO,bL,zzbo.2 hig,hbx,Co,rO];refine DF Y0 fr s.2 0 L m2 hO hLl _ (fun m3 hO3 Bw _ _=>?_);simp[Y6,h18];refine⟨aP,⟨k+1,zE,i,zE,zd,rfl,L++DG fr s.2,hO3,fin (.inl (zzan hig))⟩,zE⟩
  obtain rfl:k=A.length:=zE
  rw[zzbn,uw,zzau]at hL;subst hL;obtain⟨rt,o1,o2,o3⟩:=hO;obtain⟨rfl,rfl⟩|⟨aM,k,rfl,_⟩:=o3
  ·simp[h18,o1,Cn,U2]
  simp[h18,o1,Cn,U2,aM]
 have hk:=key _ rfl;by_cases hn:R=[]
 ·rw[if_pos hn]at hk;rw[hn];exact Xa hk (Wk.sl _ _)
 rw[if_neg hn]at hk;exact hk
