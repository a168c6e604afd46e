import Derived.Test.YtnopaopphmjnmaaGreatDoorMBMbF
import Derived.Test.YtnopaopphmjnmaaGreatDoorMBScK
set_option linter.all false
set_option maxRecDepth 100000
set_option maxHeartbeats 64000000
namespace Go.Proofs.YtnopaopphmjnmaaGreatDoor
open Go Go.Abs
def DV(s:ByteArray)(i:Nat):Option Nat->ByteArray
 |none=>⟨#[]⟩
 |some k=>s.extract k i
def aay(s:ByteArray)(k i:Nat)(h:k<=i):s.extract k i++s.extract i (i+1)=s.extract k (i+1):=by
 rw[ByteArray.extract_append_extract];congr 1<;>omega
def aaz(s:ByteArray)(k i:Nat)(h:k<i)(hi:i<=s.size):s.extract k i≠⟨#[]⟩:=by
 intro e;have h2:(s.extract k i).size=0:=by rw[e];rfl
 rw[zzhb]at h2;omega
def aw4(ls:List Nat)(rt:Rt)(o:List ByteArray):Prop:=(o=[]/\rt=.nil/\ls=[])\/(o≠[]/\rt=.own 0 1/\ls=[o.length])
def ath(s:ByteArray)(f:Nat->AV)(m:AM):Prop:=∃(i:Nat)(first:Option Nat)(o:List ByteArray)(rt:Rt)(ls:List Nat),f 5=I i/\i<=s.size/\f 4=.str (DV s i first)/\(∀k,first=some k->k<i)/\f 3=.sl rt (o.map Kb)/\aw4 ls rt o/\o.length<=i/\o++C2 s i first=Uj s/\m=⟨[],ls,fun _=>.gone,0⟩
def aaA(s:ByteArray)(h:s.size<=1000000):Pure Tryz.prog az 210 [.str s] (.sl .ro ((Uj s).map Kb)):=by
 have key:∃rt,Pure Tryz.prog az 210 [.str s] (.sl rt ((Uj s).map Kb)):=by
  refine⟨if Uj s=[]then .nil else .ro,Qn ac1 (fun _ _ _=>.junk) (by simp) ?_⟩;simp[T7];refine Qj fU (ath s) (fun f _=>s.size-(numOf (f 5)).toNat) ?_ ?_
  ·exact⟨0,none,[],.nil,[],by simp,by omega,by simp[DV],(fun k hk=>by cases hk),by simp,.inl ⟨rfl,rfl,rfl⟩,by simp,by simp[C2,Uj],rfl⟩
  rintro f m ⟨i,first,o,rt,ls,f5,hi,f4,PG,f3,hO,Fv,hr,rfl⟩;rcases zzaa i s.size with ai|bB
  ·have ah:(i:Int)<(s.size:Int):=by omega
   have hw:=bJ i (by omega);have DP:=qY s i ai;by_cases hb:tI s i≠32
   ·have hbI:¬((tI s i:Nat):Int)=32:=by omega
    rw[Gw first ai hb]at hr
    have bU:DV s i first++s.extract i (i+1)=DV s (i+1) (some (first.getD i)):=by
     cases first with
     |none=>
      simp only[DV,Option.getD_none];exact ByteArray.empty_append
     |some k=>simp only[DV,zzgs];exact aay s k i (by have:=PG k rfl;omega)
    have hsz:(DV s i first).size<=s.size:=by
     cases first with
     |none=>exact zzcc _
     |some k=>simp only[DV,zzhb];omega
    simp[f5,f4,fU,ai,ah,DP,hbI,hw,bU];refine⟨by omega,by omega,aN,⟨i+1,some (first.getD i),o,rt,ls,by simp,by omega,by simp,?_,by simp[f3],hO,by omega,hr,rfl⟩,by omega⟩
    ·intro k hk;cases hk;cases first with
     |none=>simp
     |some k=>have:=PG k rfl;simp;omega
   have Gx:tI s i=32:=by omega
   rw[C3 first hi (fun _=>Gx)]at hr;cases first with
   |none=>
    simp only[gQ,zzai]at hr;simp[f5,f4,fU,ai,ah,DP,Gx,hw,DV];refine⟨aN,⟨i+1,none,o,rt,ls,by simp,by omega,by simp[DV],(fun k hk=>by cases hk),by simp[f3],hO,by omega,hr,rfl⟩,by omega⟩
   |some k=>
    have hk:=PG k rfl;have aJ:=aaz s k i hk hi;simp only[gQ]at hr;have ei:¬(s.extract k i).toList=[]:=fun e=>aJ ((jL _).1 e);rw[<- zzbc]at hr;obtain⟨rfl,rfl,rfl⟩|⟨h0,rfl,rfl⟩:=hO
    ·simp[f5,f4,f3,fU,ai,ah,DP,Gx,hw,DV,ei];refine⟨aN,⟨i+1,none,[]++[s.extract k i],.own 0 1,[1],by simp,by omega,by simp[DV],(fun k hk=>by cases hk),by simp[Kb],.inr ⟨by simp,rfl,by simp⟩,by simp,hr,rfl⟩,by omega⟩
    simp[f5,f4,f3,fU,ai,ah,DP,Gx,hw,DV,ei];refine⟨⟨?_,by omega⟩,aN,⟨i+1,none,o++[s.extract k i],.own 0 1,[o.length+1],by simp,by omega,by simp[DV],(fun k hk=>by cases hk),by simp[Kb],.inr ⟨by simp,rfl,by simp⟩,by simp;omega,hr,rfl⟩,by omega⟩
    ·rintro row (⟨a,_,rfl⟩|rfl)<;>rfl
  obtain rfl:i=s.size:=by omega
  rw[C3 first hi (fun h=>absurd h (Nat.lt_irrefl _)),show C2 s (s.size+1) none=[] by rw[C2,if_neg (by omega)],zzat]at hr;cases first with
  |none=>
   simp only[gQ,zzat]at hr;subst hr;obtain⟨h0,rfl,rfl⟩|⟨h0,rfl,rfl⟩:=hO
   ·simp[f5,f4,f3,fU,DV,Ep,h0]
   simp[f5,f4,f3,fU,DV,Ep,h0]
  |some k=>
   have hk:=PG k rfl;have aJ:=aaz s k s.size hk hi;have ei:¬(s.extract k s.size).toList=[]:=fun e=>aJ ((jL _).1 e);simp only[gQ]at hr;rw[<- hr];obtain⟨rfl,rfl,rfl⟩|⟨h0,rfl,rfl⟩:=hO
   ·simp[f5,f4,f3,fU,DV,ei,Ep,Kb]
   simp[f5,f4,f3,fU,DV,ei,Ep,Kb];exact⟨by rintro row (⟨a,_,rfl⟩|rfl)<;>rfl,by omega⟩
 obtain⟨rt,h⟩:=key;exact Qy h (Wk.sl _ _)
def RV2(cq:List ByteArray)(V:AV)(rest:List (List AV)):Prop:=(cq=[]/\V=.sl .nil []/\rest=[])\/(cq≠[]/\∃k,V=.bs k 0 cq.length 1/\k<rest.length/\Qh rest k=Vf cq)
def ati(s:ByteArray)(f:Nat->AV)(m:AM):Prop:=∃i:Nat,f 4=I i/\i<=s.size/\Rl s=Gv s (s.size-i) i/\m=⟨[],[],fun _=>.gone,0⟩
def atj(q:List ByteArray)(f:Nat->AV)(m:AM):Prop:=∃(i:Nat)(cq:List ByteArray)(V:AV)(rest:List (List AV)),f 7=I i/\i<=q.length/\f 5=.sl .ro (q.map Kb)/\f 6=V/\lay [] (q.take i)=some cq/\(∀r∈cq,r.size<=32)/\cq.length<=i/\RV2 cq V rest/\m=⟨rest,[],fun _=>.gone,0⟩
def OQ(s:ByteArray):Nat->FuncId->List AV->AV:=fun d f _=>if f=999999 then(if d=81 then .aK 0 []else .junk)else .sl .ro ((Uj s).map Kb)
def aaB{q:List ByteArray}{i:Nat}(h:lay [] (q.take i)=none):lay [] q=none:=by
 have hq:q=q.take i++q.drop i:=(zzdb _ _).symm;rw[hq,pJ,h];rfl
def agd(s:ByteArray):Pure Tryz.prog az 134 [.str s] (Je (Jd s)):=by
 refine Qn acg (OQ s) (by simp) ?_;by_cases h2:200<s.size
 ·have DN:(200:Int)<(s.size:Int):=by omega
  have:Jd s=none:=by rw[Jd,if_pos (.inl h2)]
  rw[this];simp[Ec,rG,DN,Je]
 have DN:¬(200:Int)<(s.size:Int):=by omega
 have kw:=aaA s (by omega);simp[Ec,DN];refine Qj uG (ati s) (fun f _=>s.size-(numOf (f 4)).toNat) ?_ ?_
 ·exact⟨0,by simp,by omega,rfl,rfl⟩
 rintro f m ⟨i,f4,hi,hr,rfl⟩;rcases zzaa i s.size with ai|bB
 ·have ah:(i:Int)<(s.size:Int):=by omega
  have hw:=bJ i (by omega);obtain⟨n,hn⟩:∃n,s.size-i=n+1:=⟨s.size-i-1,by omega⟩;have hb:=qY s i ai;rw[hn,Gv]at hr;by_cases h1:tI s i<32
  ·rw[if_pos (.inl h1)]at hr;have:Jd s=none:=by rw[Jd,if_pos (.inr hr)]
   have qv:((tI s i:Nat):Int)<32:=by omega
   rw[this];simp[f4,uG,rG,ai,ah,hb,qv,Je]
  have qv:¬((tI s i:Nat):Int)<32:=by omega
  by_cases h3:126<tI s i
  ·rw[if_pos (.inr h3)]at hr;have:Jd s=none:=by rw[Jd,if_pos (.inr hr)]
   have SM:(126:Int)<((tI s i:Nat):Int):=by omega
   rw[this];simp[f4,uG,rG,ai,ah,hb,qv,SM,Je]
  rw[if_neg (by omega)]at hr;have SM:¬(126:Int)<((tI s i:Nat):Int):=by omega
  simp[f4,uG,ai,ah,hw,hb,qv,SM];refine⟨aN,⟨i+1,by simp,by omega,by rw[hr];congr 1;omega,rfl⟩,by omega⟩
 obtain rfl:i=s.size:=by omega
 rw[zzep,Gv]at hr
 have yN:Jd s=match lay [] (Uj s)with
  |some l=>if l=[]\/4<l.length then none else some l
  |none=>none:=by
   rw[Jd,if_neg (by simp[hr];omega)];rfl
 rw[yN];have hql:(Uj s).length<=201:=by have:=uj s s.size 0 none;unfold Uj;omega
 simp[f4,uG,OQ];refine⟨kw,?_⟩;clear kw yN;generalize Uj s=q at hql;clear hr;refine Qj iI (atj q) (fun f _=>q.length-(numOf (f 7)).toNat) ?_ ?_
 ·exact⟨0,[],.sl .nil [],[],by simp,by omega,by simp,by simp,rfl,(fun _ h=>by cases h),by simp,.inl ⟨rfl,rfl,rfl⟩,rfl⟩
 rintro f m ⟨i,cq,V,rest,f7,hi,f5,f6,g1,g2,g3,g5,rfl⟩;rcases zzaa i q.length with ai|bB
 ·obtain⟨w,hy⟩:=aR ai;have aa:Qh (q.map Kb) i=[.str w]:=Qs (by simp[hy,Kb]);have ah:(i:Int)<(q.length:Int):=by omega
  have NY:=bJ i (by omega);have bz:q.take (i+1)=q.take i++[w]:=by rw[zzar,hy];rfl
  have dZ:lay [] (q.take (i+1))=if 32<w.size then none else some (GC cq w):=by
   rw[bz,pJ,g1];simp[lay]
  by_cases hw:32<w.size
  ·have Im:(32:Int)<(w.size:Int):=by omega
   rw[if_pos hw]at dZ;rw[aaB dZ];simp[f7,f6,iI,rG,ah,aa,Im,Je]
  have Im:¬(32:Int)<(w.size:Int):=by omega
  rw[if_neg hw]at dZ;have hsz:=Om g2 (by omega:w.size<=32);have dm:=GD cq w;obtain⟨h0,hV,hre⟩|⟨h0,k,hV,cV,di⟩:=g5
  ·subst h0;subst hV;subst hre;have p7:IntKind.i64.wrap (-1)= -1:=by rw[Qi]<;>omega
   simp[f7,f6,iI,ah,aa,Im,OQ,p7,NY];refine⟨aN,⟨i+1,[w],.bs 0 0 1 1,[[.str w]],by simp,by omega,by simp,by simp,by rw[dZ,pI],(fun r h=>by simp at h;subst h;omega),by simp,.inr ⟨by simp,0,rfl,by simp,by simp[Vf]⟩,rfl⟩,by omega⟩
  subst hV;obtain⟨pre,r,rfl⟩:=(Qbq cq).resolve_left h0;have cc:pre.length+1<=i:=by simpa using g3
  have p7:IntKind.i64.wrap (pre.length:Int)=(pre.length:Int):=by rw[Qi]<;>omega
  have rP:(Vf (pre++[r])).length=pre.length+1:=by simp[Vf]
  have aws:=g2 r (by simp);have hsC:Vf (pre++[r])=Vf pre++[.str r]:=by simp[Vf]
  have gq:(Vf pre).length=pre.length:=by simp[Vf]
  have Lj:(Vf (pre++[r])).take (pre.length+1)=Vf (pre++[r]):=zzam (by omega);have dX:(Vf (pre++[r])).drop pre.length=[.str r]:=by rw[hsC,<- gq,zzfg]
  have eU:IntKind.i64.wrap ((r.size:Int)+1)=(r.size:Int)+1:=by rw[Qi]<;>omega
  have ee:IntKind.i64.wrap ((r.size:Int)+1+(w.size:Int))=(r.size:Int)+1+(w.size:Int):=by rw[Qi]<;>omega
  rw[kV]at dZ hsz dm;by_cases hc:r.size+1+w.size<=32
  ·rw[if_pos hc]at dZ hsz dm;have p5:(r.size:Int)+1+(w.size:Int)<=32:=by omega
   simp[f7,f6,iI,ah,aa,Im,OQ,p7,di,dX,rP,eU,ee,p5,NY];have hs1:(⟨⟨[32]⟩⟩:ByteArray).size=1:=rfl;have has:r++⟨⟨[32]⟩⟩++w=r++(zw++w):=ByteArray.append_assoc
   have bZ:(Vf (pre++[r])).set pre.length (.str (r++(zw++w)))=Vf (pre++[r++(zw++w)]):=by
    rw[hsC,<- gq,zzcq _ _ (zzab _)];simp[Vf]
   have hrk:Qh (rest.set k (Vf (pre++[r++(zw++w)]))) k=Vf (pre++[r++(zw++w)]):=by
    simp[Qh,zzas,-Vn,cV]
   refine⟨by omega,by omega,by omega,by omega,cV,aN,⟨i+1,pre++[r++(zw++w)],.bs k 0 (pre.length+1) 1,rest.set k (Vf (pre++[r++(zw++w)])),by simp,by omega,by simp,by simp,dZ,hsz,by simp;omega,.inr ⟨by simp,k,by simp,by simpa using cV,hrk⟩,by rw[has,bZ]⟩,by omega⟩
  rw[if_neg hc]at dZ hsz dm;have p5:¬(r.size:Int)+1+(w.size:Int)<=32:=by omega
  simp[f7,f6,iI,ah,aa,Im,OQ,p7,di,dX,rP,eU,ee,p5,NY];have aJ:¬Vf (pre++[r])=[]:=fun h=>by rw[h]at rP;simp at rP
  have hR:(rest.set k []).length=rest.length:=by simp
  refine⟨by omega,⟨⟨cV,aJ⟩,by omega⟩,aN,⟨i+1,pre++[r]++[w],.bs rest.length 0 (pre.length+1+1) 1,rest.set k []++[Vf (pre++[r])++[.str w]],by simp,by omega,by simp,by simp,dZ,hsz,by simp;omega,.inr ⟨by simp,rest.length,by simp,by simp,?_⟩,by rw[Lj]⟩,by omega⟩
  ·rw[<- hR,Fi];simp[Vf]
 have hte:q.take i=q:=zzam bB;rw[hte]at g1;rw[g1];have bI:¬(i:Int)<(q.length:Int):=by omega
 obtain⟨h0,hV,hre⟩|⟨h0,k,hV,cV,di⟩:=g5
 ·subst h0;subst hV;simp[f7,f6,iI,bI,rG,Je]
 subst hV;have aH:¬cq.length=0:=fun h=>h0 (zzca.1 h);have rU:¬cq.length<1:=by omega
 have aaC:¬(cq.length:Int)<1:=by omega
 have rP:(Vf cq).length=cq.length:=by simp[Vf]
 by_cases h4:4<cq.length
 ·have Is:(4:Int)<(cq.length:Int):=by omega
  simp[f7,f6,iI,bI,rG,Je,h0,h4,Is,aaC]
 have Is:¬(4:Int)<(cq.length:Int):=by omega
 have zu:=fun m=>pK m 4 cq;have amH:=fun m=>pK m 3 cq;have lF:=xF cq;simp[f7,f6,iI,bI,rG,Je,h0,h4,Is,di,amH,lF,rP,aaC]
def aaD(c:Cue):Pure Tryz.prog az 66 [.agg (Qk c)] (.bool (Wy c)):=by
 have k:=agd c.tx;refine Qn akP (fun _ _ _=>Je (Jd c.tx)) (by simp) ?_;by_cases h1:c.id<1
 ·simp[Pp,Pq,Qk,h1,Wy]
 by_cases h2:4611686018427387903<c.id
 ·simp[Pp,Pq,Qk,h1,h2,Wy]
 by_cases h3:c.to=0
 ·simp[Pp,Pq,Qk,h1,h2,h3,Wy];rw[zzbl];simp[jL,and_assoc]
 cases hr:Jd c.tx with
 |none=>
  rw[hr]at k;simp[Pp,Pq,Qk,h1,h2,h3,Wy,hr,Je];exact k
 |some l=>
  rw[hr]at k;simp[Pp,Pq,Qk,h1,h2,h3,Wy,hr,Je];refine⟨k,?_⟩;rw[zzbl];simp;omega
open Go Go.Abs
def Sk(n:Int):Pure Tryz.prog az 63 [I n] (.bool (eF n)):=by
 refine Qn akM (fun _ _ _=>.junk) (by simp) ?_;by_cases h:1<=n
 ·simp[akK,akL,h,eF]
 simp[akK,akL,h,eF]
def zD{α:Type}{a b:List α}{i:Nat}{x y:α}(hx:a[i]?=some x)(hy:b[i]?=some y)(h:a.take i=b.take i):a.take (i+1)=b.take (i+1)<->x=y:=by
 rw[zzar,zzar,hx,hy,h];simp
def sM{α:Type}{a b:List α}{i:Nat}(h:a.take i≠b.take i):a≠b:=fun e=>h (by rw[e])
def aaE(a b:List Sp)(ha:a.length<=8796093022208):Pure Tryz.prog az 180 [.sl .ro (a.map Qe),.sl .ro (b.map Qe)] (.bool (decide (a=b))):=by
 refine Qn acA (fun _ _ _=>.junk) (by simp) ?_;by_cases hl:a.length=b.length
 ·simp[MV,hl];refine Qj uL (fun f m=>∃i:Nat,f 5=I i/\i<=b.length/\a.take i=b.take i/\m=⟨[],[],fun _=>.gone,0⟩) (fun f _=>b.length-(numOf (f 5)).toNat) ?_ ?_
  ·exact⟨0,by simp,by omega,by simp,rfl⟩
  rintro f m ⟨i,h5,hi,ht,rfl⟩;rcases zzaa i b.length with ai|bB
  ·obtain⟨x,hx⟩:∃x,a[i]?=some x:=⟨_,zzad (by omega)⟩;obtain⟨y,hy⟩:=aR ai;have hrx:=Zd hx;have hry:=Zd hy;have ah:(i:Int)<(b.length:Int):=by omega
   have hw:=bJ i (by omega);have hs:=zD hx hy ht;by_cases e1:x.1=y.1
   ·by_cases e2:x.2=y.2
    ·simp[h5,hl,ah,hrx,hry,uL,e1,e2,hw];refine⟨aN,⟨i+1,by simp,by omega,hs.2 (Prod.ext e1 e2)⟩,by omega⟩
    have aJ:a≠b:=sM fun h=>e2 (by rw[hs.1 h]);simp[h5,hl,ah,hrx,hry,uL,e1,e2,Eh,aJ]
   have aJ:a≠b:=sM fun h=>e1 (by rw[hs.1 h]);simp[h5,hl,ah,hrx,hry,uL,e1,Eh,aJ]
  have bI:¬(i:Int)<(b.length:Int):=by omega
  have he:a=b:=by
   rw[zzam (by omega),zzam (by omega)]at ht;exact ht
  simp[h5,bI,uL,Eh,he]
 have aJ:a≠b:=fun e=>hl (by rw[e]);have ew:¬(a.length:Int)=(b.length:Int):=by omega
 simp[MV,Eh,ew,aJ]
def L5(a b:ByteArray):a.toList=b.toList<->a=b:=by
 obtain⟨⟨l⟩⟩:=a;obtain⟨⟨l'⟩⟩:=b;rw[ByteArray.toList_eq,ByteArray.toList_eq];simp
def Du(a b:En):Bool:=decide (a.al=b.al/\a.id=b.id/\a.it=b.it/\a.fr=b.fr/\a.ea=b.ea/\a.la=b.la/\a.bo=b.bo)
def L6(a b:Cue):Bool:=decide (a.id=b.id/\a.fr=b.fr/\a.to=b.to/\a.pr=b.pr/\a.tx=b.tx)
def zF(a b:Od):Bool:=Du a.nw b.nw&&(decide (a.sq=b.sq)&&(decide (a.ch=b.ch)&&(decide (a.fr=b.fr)&&(decide (a.ki=b.ki)&&(decide (a.en=b.en)&&(decide (a.n=b.n)&&(decide (a.cl=b.cl)&&L6 a.cu b.cu)))))))
def aaF(a b:En)(ha:a.al.length<=8796093022208):Pure Tryz.prog az 108 [.agg (Qd a),.agg (Qd b)] (.bool (Du a b)):=by
 have k:=aaE a.al b.al ha;refine Qn abS (fun _ _ _=>.bool (decide (a.al=b.al))) (by simp) ?_;obtain⟨a1,a2,a3,a4,a5,a6,al⟩:=a;obtain⟨b1,b2,b3,b4,b5,b6,bl⟩:=b;simp[agP,agQ,Qd];refine⟨k,?_⟩;rw[zzbl];simp[Du,and_assoc]
def age(a b:Od)(ha:a.nw.al.length<=8796093022208):Pure Tryz.prog az 67 [.agg (Qq a),.agg (Qq b)] (.bool (zF a b)):=by
 have k:=aaF a.nw b.nw ha;refine Qn akQ (fun _ _ _=>.bool (Du a.nw b.nw)) (by simp) ?_;obtain⟨sq,ch,fr,ki,en,n,⟨a1,a2,a3,a4,a5,a6,al⟩,⟨c1,c2,c3,c4,c5,c6,c7,c8⟩,⟨d1,d2,d3,d4,tx⟩⟩:=a;obtain⟨sq',ch',fr',ki',en',n',⟨a1',a2',a3',a4',a5',a6',al'⟩,⟨c1',c2',c3',c4',c5',c6',c7',c8'⟩,⟨d1',d2',d3',d4',tx'⟩⟩:=b;simp only[Qd]at k;simp[aoE,aoF,Qq,Qd,Qg,Qk];refine⟨k,?_⟩;rw[zzbl];simp[zF,L6,and_assoc];intros;exact L5 _ _
def zG(r:Int):List Sp->Bool
 |[]=>true
 |a::l=>if eF a.2=false\/a.1<=r\/8<=a.1 then false else zG a.1 l
def OR:∀(l:List Sp)(r:Int),zG r l=xB r l
 |[],_=>rfl
 |a::l,r=>by
  rw[zG,xB,OR l a.1];by_cases h:r<a.1/\a.1<=7/\eF a.2=true
  ·have h1:=h.1;have h2:=h.2.1;rw[if_pos h,if_neg (by rw[h.2.2];simp;omega)]
  rw[if_neg h];cases hi:eF a.2 with
  |false=>rw[if_pos (.inl rfl)]
  |true=>
   have h':¬(r<a.1/\a.1<=7):=fun hh=>h ⟨hh.1,hh.2,hi⟩;rw[if_pos (.inr (by omega))]
def aaG(e:En)(f:Nat->AV)(m:AM):Prop:=∃(i:Nat)(r:Int),f 7=I i/\i<=e.al.length/\f 6=I r/\zG 0 e.al=zG r (e.al.drop i)/\m=⟨[Qd e],[],fun _=>.gone,0⟩
def L7(e:En)(hl:e.al.length<=8796093022208):Pure Tryz.prog az 64 [.agg (Qd e)] (.bool (yO e)):=by
 have q1:=Sk e.id;have q2:=Sk e.it;have q3:=Sk e.bo;refine Qn akN Vg (by simp) ?_
 have hbo:(e.bo=0)\/(e.bo≠0/\eF e.bo=true)\/(e.bo≠0/\eF e.bo=false):=by
  by_cases dO:e.bo=0
  ·exact .inl dO
  cases hb:eF e.bo with
  |true=>exact .inr (.inl ⟨dO,rfl⟩)
  |false=>exact .inr (.inr ⟨dO,rfl⟩)
 by_cases hbad:(eF e.it&&eF e.id&&decide (1<=e.fr/\e.fr<=100000000)&&decide (0<=e.ea/\e.ea<=e.la/\e.la<=100000000)&&(decide (e.bo=0)||eF e.bo))=true
 ·simp only[zzak,decide_eq_true_eq,zzfp]at hbad;obtain⟨⟨⟨⟨b1,b2⟩,b3,b4⟩,b5,b6,b7⟩,b8⟩:=hbad
  have hv:yO e=zG 0 e.al:=by
   rw[OR];have h8:(decide (e.bo=0)||eF e.bo)=true:=by rw[zzfp,decide_eq_true_eq];exact b8
   simp only[yO,b1,b2,b3,b4,b5,b6,b7,h8,zzdw,and_self,decide_true]
  have c1:¬e.fr<1:=by omega
  have c2:¬100000000<e.fr:=by omega
  have c3:¬e.ea<0:=by omega
  have c4:¬e.la<e.ea:=by omega
  have c5:¬100000000<e.la:=by omega
  rw[hv];have loop:∀(E:List (Nat×AV))(Q:Exit->AS->Prop),True:=fun _ _=>trivial;rw[b2]at q1;rw[b1]at q2;obtain h0|⟨h0,h1⟩|⟨h0,h1⟩:=hbo
  ·simp[IJ,Qd,Vg,b1,b2,h0,c1,c2,c3,c4,c5];refine⟨q2,q1,?_⟩;refine Qj gE (aaG e) (fun f _=>e.al.length-(numOf (f 7)).toNat) ?_ ?_
   ·exact⟨0,0,by simp,by omega,by simp,by simp,by simp[Qd,h0]⟩
   rintro f m ⟨i,r,f7,hi,f6,hr,rfl⟩;rcases zzaa i e.al.length with ai|bB
   ·obtain⟨a,ha⟩:=aR ai;have aa:=Zd ha;have ah:(i:Int)<(e.al.length:Int):=by omega
    have hw:=bJ i (by omega);have hd:e.al.drop i=a::e.al.drop (i+1):=by rw[zzaf ai,(zza.1 ha).2]
    rw[hd,zG]at hr;have qa:=Sk a.2;cases d3:eF a.2 with
    |false=>
     rw[d3]at qa;rw[if_pos (.inl d3)]at hr;simp[f7,f6,gE,sV,Qd,ah,aa,d3,hr,Vg];exact qa
    |true=>
     rw[d3]at qa;by_cases d1:a.1<=r
     ·rw[if_pos (.inr (.inl d1))]at hr;simp[f7,f6,gE,sV,Qd,ah,aa,d1,d3,hr,Vg];exact qa
     by_cases d2:8<=a.1
     ·rw[if_pos (.inr (.inr d2))]at hr;simp[f7,f6,gE,sV,Qd,ah,aa,d1,d2,d3,hr,Vg];exact qa
     rw[if_neg (by rw[d3];simp;omega)]at hr;simp[f7,f6,gE,Qd,ah,aa,d1,d2,d3,Vg,hw];refine⟨qa,aN,⟨i+1,a.1,by simp,by omega,by simp,hr,by simp[Qd]⟩,by omega⟩
   obtain rfl:i=e.al.length:=by omega
   rw[zzbr,zG]at hr;simp[f7,f6,gE,sV,Qd,hr]
  ·rw[h1]at q3;simp[IJ,Qd,Vg,b1,b2,h0,h1,c1,c2,c3,c4,c5];refine⟨q2,q1,q3,?_⟩;refine Qj gE (aaG e) (fun f _=>e.al.length-(numOf (f 7)).toNat) ?_ ?_
   ·exact⟨0,0,by simp,by omega,by simp,by simp,by simp[Qd]⟩
   rintro f m ⟨i,r,f7,hi,f6,hr,rfl⟩;rcases zzaa i e.al.length with ai|bB
   ·obtain⟨a,ha⟩:=aR ai;have aa:=Zd ha;have ah:(i:Int)<(e.al.length:Int):=by omega
    have hw:=bJ i (by omega);have hd:e.al.drop i=a::e.al.drop (i+1):=by rw[zzaf ai,(zza.1 ha).2]
    rw[hd,zG]at hr;have qa:=Sk a.2;cases d3:eF a.2 with
    |false=>
     rw[d3]at qa;rw[if_pos (.inl d3)]at hr;simp[f7,f6,gE,sV,Qd,ah,aa,d3,hr,Vg];exact qa
    |true=>
     rw[d3]at qa;by_cases d1:a.1<=r
     ·rw[if_pos (.inr (.inl d1))]at hr;simp[f7,f6,gE,sV,Qd,ah,aa,d1,d3,hr,Vg];exact qa
     by_cases d2:8<=a.1
     ·rw[if_pos (.inr (.inr d2))]at hr;simp[f7,f6,gE,sV,Qd,ah,aa,d1,d2,d3,hr,Vg];exact qa
     rw[if_neg (by rw[d3];simp;omega)]at hr;simp[f7,f6,gE,Qd,ah,aa,d1,d2,d3,Vg,hw];refine⟨qa,aN,⟨i+1,a.1,by simp,by omega,by simp,hr,by simp[Qd]⟩,by omega⟩
   obtain rfl:i=e.al.length:=by omega
   rw[zzbr,zG]at hr;simp[f7,f6,gE,sV,Qd,hr]
  obtain b8|b8:=b8
  ·exact absurd b8 h0
  rw[h1]at b8;cases b8
 have hv:yO e=false:=by
  cases hi:yO e with
  |false=>rfl
  |true=>
   refine absurd ?_ hbad;simp only[yO,zzak]at hi |-
   exact⟨⟨⟨⟨hi.1.1.1.1.2,hi.1.1.1.1.1⟩,hi.1.1.1.2⟩,hi.1.1.2⟩,hi.1.2⟩
 rw[hv]
 have hX:(!eF e.it||!eF e.id||!(decide (e.bo=0)||eF e.bo)||decide (e.fr<1)||decide (100000000<e.fr)||decide (e.ea<0)||decide (e.la<e.ea)||decide (100000000<e.la))=true:=by
  cases hx:(!eF e.it||!eF e.id||!(decide (e.bo=0)||eF e.bo)||decide (e.fr<1)||decide (100000000<e.fr)||decide (e.ea<0)||decide (e.la<e.ea)||decide (100000000<e.la))with
  |true=>rfl
  |false=>
   refine absurd ?_ hbad;simp only[zzeq,Bool.not_eq_false',decide_eq_false_iff_not]at hx;obtain⟨⟨⟨⟨⟨⟨⟨x1,x2⟩,x3⟩,x4⟩,x5⟩,x6⟩,x7⟩,x8⟩:=hx;rw[x1,x2,x3];simp;omega
 obtain h0|⟨h0,h1⟩|⟨h0,h1⟩:=hbo
 ·simp[h0]at hX;simp[IJ,sV,Qd,Vg,h0];refine⟨q2,q1,?_⟩;intro a1 a2 a3 a4 a5 a6 a7;exfalso;simp[a1,a2]at hX;omega
 ·simp[h0,h1]at hX;rw[h1]at q3;simp[IJ,sV,Qd,Vg,h0,h1];refine⟨q2,q1,q3,?_⟩;intro a1 a2 a3 a4 a5 a6 a7;exfalso;simp[a1,a2]at hX;omega
 rw[h1]at q3;simp[IJ,sV,Qd,Vg,h0,h1];exact⟨q2,q1,q3⟩
open Go Go.Abs
def Yh(o:Od):Od:=if o.ki=1 then{o with nw:=kW,cl:=nK,cu:=nL}else if o.ki=2 then{o with n:=0,nw:=kW,cl:=nK,cu:=nL}else if o.ki=3 then{o with en:=0,n:=0,cl:=nK,cu:=nL}
 else if o.ki=4 then{o with en:=0,n:=0,nw:=kW,cu:=nL}else if o.ki=5 then{o with en:=0,n:=0,nw:=kW,cl:=nK}else{o with en:=0,n:=0,nw:=kW,cl:=nK,cu:=nL}
def agf(o:Od)(hk5:¬(o.ki<1\/5<o.ki)):zF o (Yh o)=Jn (Jf o):=by
 obtain⟨sq,ch,fr,ki,en,n,⟨a1,a2,a3,a4,a5,a6,al⟩,⟨c1,c2,c3,c4,c5,c6,c7,c8⟩,⟨d1,d2,d3,d4,tx⟩⟩:=o;rw[zzbl];unfold Yh Jf;by_cases h1:ki=1
 ·simp[h1,zF,Du,L6,Jn,kW,nK,nL,eB];constructor<;>(rintro⟨_,_⟩;simp_all)
 by_cases h2:ki=2
 ·simp[h2,zF,Du,L6,Jn,kW,nK,nL,eB];constructor<;>(rintro⟨_,_⟩;simp_all)
 by_cases h3:ki=3
 ·simp[h3,zF,Du,L6,Jn,kW,nK,nL,eB];try(constructor<;>(rintro⟨_,_⟩;simp_all))
 by_cases h4:ki=4
 ·simp[h4,zF,Du,L6,Jn,kW,nK,nL,eB];constructor<;>(rintro⟨_,_⟩;simp_all)
 have h5:ki=5:=by
  have q1:¬ki<1:=fun h=>hk5 (.inl h);have q2:¬5<ki:=fun h=>hk5 (.inr h);omega
 simp[h5,zF,Du,L6,Jn,kW,nK,nL,eB];constructor<;>(rintro⟨_,_⟩;simp_all)
def agh(a b:Od)(rt:Rt)(ha:a.nw.al.length<=8796093022208):Pure Tryz.prog az 67 [.agg (Qq a),.agg [I b.sq,I b.ch,I b.fr,I b.ki,I b.en,I b.n,I b.nw.id,I b.nw.it,I b.nw.fr,I b.nw.ea,I b.nw.la,I b.nw.bo,.sl rt (b.nw.al.map Qe),I b.cl.ki,I b.cl.it,I b.cl.fr,I b.cl.to,I b.cl.re,I b.cl.n,I b.cl.a,I b.cl.b,I b.cu.id,I b.cu.fr,I b.cu.to,I b.cu.pr,.str b.cu.tx]] (.bool (zF a b)):=
 Zk (age a b ha) ⟨Wk.refl _,Qdg ⟨Wk.refl _,Wk.refl _,Wk.refl _,Wk.refl _,Wk.refl _,Wk.refl _,Wk.refl _,Wk.refl _,Wk.refl _,Wk.refl _,Wk.refl _,Wk.refl _,Wk.sl _ _,Wk.refl _,Wk.refl _,Wk.refl _,Wk.refl _,Wk.refl _,Wk.refl _,Wk.refl _,Wk.refl _,Wk.refl _,Wk.refl _,Wk.refl _,Wk.refl _,Wk.refl _,trivial⟩,trivial⟩
def ym(o:Od):Nat->FuncId->List AV->AV:=fun _ f l=>if f=63 then .bool (eF o.en)else if f=64 then .bool (yO o.nw)else if f=65 then .bool (Xj o.cl)else if f=66 then .bool (Wy o.cu)else .bool (zF o (Yh o))
def agi(o:Od)(ey:o.nw.al.length<=8796093022208):Pure Tryz.prog az 34 [.agg (Qq o)] (.bool (Zb o)):=by
 have k67:=fun rt=>agh o (Yh o) rt ey;have k63:=Sk o.en;have k64:=L7 o.nw ey;have k65:=HC o.cl;have k66:=aaD o.cu;simp only[Qq,Qd,Qg,Qk,zzae,zzai]at k67 k64 k65 k66;refine Qn akn (ym o) (by simp) ?_;by_cases h0:o.sq<0\/200<o.sq\/o.ch< -1\/40<=o.ch\/o.fr<0\/100000000<o.fr
 ·have hv:Zb o=false:=by
   unfold Zb;by_cases h1:o.sq<0\/200<o.sq\/o.ch< -1\/40<=o.ch
   ·rw[if_pos h1]
   rw[if_neg h1,if_pos (by omega)]
  rw[hv];have hb:(decide (o.sq<0)||decide (200<o.sq)||decide (o.ch< -1)||decide (40<=o.ch)||decide (o.fr<0)||decide (100000000<o.fr))=true:=by simp;omega
  rcases h0 with h|h|h|h|h|h<;>simp[D0,D1,Qq,Qd,Qg,Qk,h]
 have hv:Zb o=if o.ki<1\/5<o.ki then false else if o.ki=1/\(o.n< -100000000\/100000000<o.n)then false else okB o&&zF o (Yh o):=by
  unfold Zb;rw[if_neg (by omega),if_neg (by omega)];by_cases hk:o.ki<1\/5<o.ki
  ·rw[if_pos hk,if_pos hk]
  rw[if_neg hk,if_neg hk,agf o hk]
 rw[hv];have c1:¬o.sq<0:=by omega
 have c2:¬200<o.sq:=by omega
 have c3:¬o.ch< -1:=by omega
 have c4:¬40<=o.ch:=by omega
 have c5:¬o.fr<0:=by omega
 have c6:¬100000000<o.fr:=by omega
 by_cases k1:o.ki=1
 ·have hw:Yh o={o with nw:=kW,cl:=nK,cu:=nL}:=by unfold Yh;rw[if_pos k1]
  have hr:(if o.ki<1\/5<o.ki then false else if o.ki=1/\(o.n< -100000000\/100000000<o.n)then false else okB o&&zF o (Yh o))=(eF o.en&&decide (-100000000<=o.n)&&decide (o.n<=100000000)&&zF o (Yh o)):=by
   rw[if_neg (by omega)];by_cases hn:o.n< -100000000\/100000000<o.n
   ·rw[if_pos ⟨k1,hn⟩];obtain hn|hn:=hn
    ·have:¬-100000000<=o.n:=by omega
     simp[this]
    have:¬o.n<=100000000:=by omega
    simp[this]
   have n1: -100000000<=o.n:=by omega
   have n2:o.n<=100000000:=by omega
   rw[if_neg (fun h=>hn h.2)];unfold okB;rw[if_pos k1];simp[n1,n2]
  rw[hr];have qf:=k67 .nil;rw[hw]at qf;simp only[kW,nK,nL,eB,zzce]at qf;rw[k1]at qf;simp[D0,D1,Qq,Qd,Qg,Qk,c1,c2,c3,c4,c5,c6,k1,ym];refine⟨k63,?_⟩;rw[hw];simp only[kW,nK,nL,eB];rw[k1];exact qf
 by_cases k2:o.ki=2
 ·have hw:Yh o={o with n:=0,nw:=kW,cl:=nK,cu:=nL}:=by unfold Yh;rw[if_neg k1,if_pos k2]
  have hr:(if o.ki<1\/5<o.ki then false else if o.ki=1/\(o.n< -100000000\/100000000<o.n)then false else okB o&&zF o (Yh o))=(eF o.en&&zF o (Yh o)):=by
   rw[if_neg (by omega),if_neg (by omega)];unfold okB;rw[if_neg k1,if_pos k2]
  rw[hr];have qf:=k67 .nil;rw[hw]at qf;simp only[kW,nK,nL,eB,zzce]at qf;rw[k2]at qf;simp[D0,D1,Qq,Qd,Qg,Qk,c1,c2,c3,c4,c5,c6,k2,ym];refine⟨k63,?_⟩;rw[hw];simp only[kW,nK,nL,eB];rw[k2];exact qf
 by_cases k3:o.ki=3
 ·have hw:Yh o={o with en:=0,n:=0,cl:=nK,cu:=nL}:=by unfold Yh;rw[if_neg k1,if_neg k2,if_pos k3]
  have hr:(if o.ki<1\/5<o.ki then false else if o.ki=1/\(o.n< -100000000\/100000000<o.n)then false else okB o&&zF o (Yh o))=(yO o.nw&&zF o (Yh o)):=by
   rw[if_neg (by omega),if_neg (by omega)];unfold okB;rw[if_neg k1,if_neg k2,if_pos k3]
  rw[hr];have qf:=k67 .ro;rw[hw]at qf;simp only[nK,nL,eB]at qf;rw[k3]at qf;simp[D0,D1,Qq,Qd,Qg,Qk,c1,c2,c3,c4,c5,c6,k3,ym];refine⟨k64,?_⟩;rw[hw];simp only[nK,nL,eB];rw[k3];exact qf
 by_cases k4:o.ki=4
 ·have hw:Yh o={o with en:=0,n:=0,nw:=kW,cu:=nL}:=by unfold Yh;rw[if_neg k1,if_neg k2,if_neg k3,if_pos k4]
  have hr:(if o.ki<1\/5<o.ki then false else if o.ki=1/\(o.n< -100000000\/100000000<o.n)then false else okB o&&zF o (Yh o))=(Xj o.cl&&zF o (Yh o)):=by
   rw[if_neg (by omega),if_neg (by omega)];unfold okB;rw[if_neg k1,if_neg k2,if_neg k3,if_pos k4]
  rw[hr];have qf:=k67 .nil;rw[hw]at qf;simp only[kW,nL,eB,zzce]at qf;rw[k4]at qf;simp[D0,D1,Qq,Qd,Qg,Qk,c1,c2,c3,c4,c5,c6,k4,ym];refine⟨k65,?_⟩;rw[hw];simp only[kW,nL,eB];rw[k4];exact qf
 by_cases k5:o.ki=5
 ·have hw:Yh o={o with en:=0,n:=0,nw:=kW,cl:=nK}:=by unfold Yh;rw[if_neg k1,if_neg k2,if_neg k3,if_neg k4,if_pos k5]
  have hr:(if o.ki<1\/5<o.ki then false else if o.ki=1/\(o.n< -100000000\/100000000<o.n)then false else okB o&&zF o (Yh o))=(Wy o.cu&&zF o (Yh o)):=by
   rw[if_neg (by omega),if_neg (by omega)];unfold okB;rw[if_neg k1,if_neg k2,if_neg k3,if_neg k4]
  rw[hr];have qf:=k67 .nil;rw[hw]at qf;simp only[kW,nK,zzce]at qf;rw[k5]at qf;simp[D0,D1,Qq,Qd,Qg,Qk,c1,c2,c3,c4,c5,c6,k5,ym];refine⟨k66,?_⟩;rw[hw];simp only[kW,nK];rw[k5];exact qf
 have hw:Yh o={o with en:=0,n:=0,nw:=kW,cl:=nK,cu:=nL}:=by unfold Yh;rw[if_neg k1,if_neg k2,if_neg k3,if_neg k4,if_neg k5]
 have qf:=k67 .nil;rw[hw]at qf;simp only[kW,nK,nL,eB,zzce]at qf;rw[if_pos (by omega)];simp[D0,D1,Qq,Qd,Qg,Qk,c1,c2,c3,c4,c5,c6,k1,k2,k3,k4,k5,ym];rw[hw];simp only[kW,nK,nL,eB];exact qf
end Go.Proofs.YtnopaopphmjnmaaGreatDoor
