import Derived.Test.YtnopaopphmjnmaaGreatDoorMQMbF
import Derived.Test.YtnopaopphmjnmaaGreatDoorMQScK
set_option linter.all false
set_option maxRecDepth 100000
set_option maxHeartbeats 64000000
namespace Go.Proofs.YtnopaopphmjnmaaGreatDoor
open Go Go.Abs
def yk{a:AV}:Wk a a:=.refl a
def EO(s:ByteArray)(i:Nat):Option Nat->ByteArray
 |none=>⟨#[]⟩
 |some k=>s.extract k i
def abv(s:ByteArray)(k i:Nat)(h:k<=i):s.extract k i++s.extract i (i+1)=s.extract k (i+1):=by
 rw[ByteArray.extract_append_extract];congr 1<;>omega
def abw(s:ByteArray)(k i:Nat)(h:k<i)(hi:i<=s.size):s.extract k i≠⟨#[]⟩:=by
 intro e;have h2:(s.extract k i).size=0:=by rw[e];rfl
 rw[zzfs]at h2;omega
def ay1(ls:List Nat)(rt:Rt)(o:List ByteArray):Prop:=(o=[]/\rt=.nil/\ls=[])\/(o≠[]/\rt=.own 0 1/\ls=[o.length])
def auZ(s:ByteArray)(f:Nat->AV)(m:AM):Prop:=∃(i:Nat)(first:Option Nat)(o:List ByteArray)(rt:Rt)(ls:List Nat),f 5=I i/\i<=s.size/\f 4=.str (EO s i first)/\(∀k,first=some k->k<i)/\f 3=.sl rt (o.map Ko)/\ay1 ls rt o/\o.length<=i/\o++DV s i first=Uo s/\m=⟨[],ls,fun _=>.gone,0⟩
def abx(s:ByteArray)(h:s.size<=1000000):Pure Tryz.prog aA 210 [.str s] (.sl .ro ((Uo s).map Ko)):=by
 have key:∃rt,Pure Tryz.prog aA 210 [.str s] (.sl rt ((Uo s).map Ko)):=by
  refine⟨if Uo s=[]then .nil else .ro,Qo ad4 (fun _ _ _=>.junk) zd ?_⟩;simp[V5];refine Qk gG (auZ s) (fun f _=>s.size-(numOf (f 5)).toNat) ?_ ?_
  ·exact⟨0,none,[],.nil,[],zd,zE,by simp[EO],(fun k hk=>by cases hk),zd,.inl ⟨rfl,rfl,rfl⟩,zd,by simp[DV,Uo],rfl⟩
  rintro f m ⟨i,first,o,rt,ls,f5,hi,f4,CU,f3,hO,O1,hr,rfl⟩;rcases zzaa i s.size with ai|bz
  ·have aa:(i:Int)<(s.size:Int):=zE
   have hw:=bM i zE;have EJ:=rU s i ai;by_cases hb:uz s i≠32
   ·have hbI:¬((uz s i:Nat):Int)=32:=zE
    rw[Hu first ai hb]at hr
    have ct:EO s i first++s.extract i (i+1)=EO s (i+1) (some (first.getD i)):=by
     cases first with
     |none=>
      simp only[EO,Option.getD_none];exact ByteArray.empty_append
     |some k=>simp only[EO,zzha];exact abv s k i (by have:=CU k rfl;omega)
    have hsz:(EO s i first).size<=s.size:=by
     cases first with
     |none=>exact zzbt _
     |some k=>simp only[EO,zzfs];omega
    simp[f5,f4,gG,ai,aa,EJ,hbI,hw,ct];refine⟨zE,zE,aP,⟨i+1,some (first.getD i),o,rt,ls,zd,zE,zd,?_,by simp[f3],hO,zE,hr,rfl⟩,zE⟩
    ·intro k hk;cases hk;cases first with
     |none=>simp
     |some k=>have:=CU k rfl;simp;omega
   have Hv:uz s i=32:=zE
   rw[DW first hi (fun _=>Hv)]at hr;cases first with
   |none=>
    simp only[ij,zzah]at hr;simp[f5,f4,gG,ai,aa,EJ,Hv,hw,EO];refine⟨aP,⟨i+1,none,o,rt,ls,zd,zE,by simp[EO],(fun k hk=>by cases hk),by simp[f3],hO,zE,hr,rfl⟩,zE⟩
   |some k=>
    have hk:=CU k rfl;have aM:=abw s k i hk hi;simp only[ij]at hr;have eF:¬(s.extract k i).toList=[]:=fun e=>aM ((j6 _).1 e);rw[<- zzb]at hr;obtain⟨rfl,rfl,rfl⟩|⟨h0,rfl,rfl⟩:=hO
    ·simp[f5,f4,f3,gG,ai,aa,EJ,Hv,hw,EO,eF];refine⟨aP,⟨i+1,none,[]++[s.extract k i],.own 0 1,[1],zd,zE,by simp[EO],(fun k hk=>by cases hk),by simp[Ko],.inr ⟨zd,rfl,zd⟩,zd,hr,rfl⟩,zE⟩
    simp[f5,f4,f3,gG,ai,aa,EJ,Hv,hw,EO,eF];refine⟨⟨?_,zE⟩,aP,⟨i+1,none,o++[s.extract k i],.own 0 1,[o.length+1],zd,zE,by simp[EO],(fun k hk=>by cases hk),by simp[Ko],.inr ⟨zd,rfl,zd⟩,by simp;omega,hr,rfl⟩,zE⟩
    ·rintro row (⟨a,_,rfl⟩|rfl)<;>rfl
  obtain rfl:i=s.size:=zE
  rw[DW first hi (fun h=>absurd h (Nat.lt_irrefl _)),show DV s (s.size+1) none=[] by rw[DV,if_neg zE],zzau]at hr;cases first with
  |none=>
   simp only[ij,zzau]at hr;subst hr;obtain⟨h0,rfl,rfl⟩|⟨h0,rfl,rfl⟩:=hO
   ·simp[f5,f4,f3,gG,EO,Fk,h0]
   simp[f5,f4,f3,gG,EO,Fk,h0]
  |some k=>
   have hk:=CU k rfl;have aM:=abw s k s.size hk hi;have eF:¬(s.extract k s.size).toList=[]:=fun e=>aM ((j6 _).1 e);simp only[ij]at hr;rw[<- hr];obtain⟨rfl,rfl,rfl⟩|⟨h0,rfl,rfl⟩:=hO
   ·simp[f5,f4,f3,gG,EO,eF,Fk,Ko]
   simp[f5,f4,f3,gG,EO,eF,Fk,Ko];exact⟨by rintro row (⟨a,_,rfl⟩|rfl)<;>rfl,zE⟩
 obtain⟨rt,h⟩:=key;exact Xa h (Wk.sl _ _)
def RV2(cD:List ByteArray)(V:AV)(rest:List (List AV)):Prop:=(cD=[]/\V=.sl .nil []/\rest=[])\/(cD≠[]/\∃k,V=.bs k 0 cD.length 1/\k<rest.length/\Qh rest k=Vi cD)
def au0(s:ByteArray)(f:Nat->AV)(m:AM):Prop:=∃i:Nat,f 4=I i/\i<=s.size/\Sy s=Ht s (s.size-i) i/\m=⟨[],[],fun _=>.gone,0⟩
def au1(q:List ByteArray)(f:Nat->AV)(m:AM):Prop:=∃(i:Nat)(cD:List ByteArray)(V:AV)(rest:List (List AV)),f 7=I i/\i<=q.length/\f 5=.sl .ro (q.map Ko)/\f 6=V/\lay [] (q.take i)=some cD/\(∀r∈cD,r.size<=32)/\cD.length<=i/\RV2 cD V rest/\m=⟨rest,[],fun _=>.gone,0⟩
def IC(s:ByteArray):Nat->FuncId->List AV->AV:=fun d f _=>if f=999999 then(if d=81 then .aL 0 []else .junk)else .sl .ro ((Uo s).map Ko)
def aby{q:List ByteArray}{i:Nat}(h:lay [] (q.take i)=none):lay [] q=none:=by
 have hq:q=q.take i++q.drop i:=(zzdd _ _).symm;rw[hq,ql,h];rfl
def ahc(s:ByteArray):Pure Tryz.prog aA 134 [.str s] (Jn (Jm s)):=by
 refine Qo adk (IC s) zd ?_;by_cases h2:200<s.size
 ·have EH:(200:Int)<(s.size:Int):=zE
  have:Jm s=none:=by rw[Jm,if_pos (.inl h2)]
  rw[this];simp[E7,sv,EH,Jn]
 have EH:¬(200:Int)<(s.size:Int):=zE
 have kw:=abx s zE;simp[E7,EH];refine Qk vB (au0 s) (fun f _=>s.size-(numOf (f 4)).toNat) ?_ ?_
 ·exact⟨0,zd,zE,rfl,rfl⟩
 rintro f m ⟨i,f4,hi,hr,rfl⟩;rcases zzaa i s.size with ai|bz
 ·have aa:(i:Int)<(s.size:Int):=zE
  have hw:=bM i zE;obtain⟨n,hn⟩:∃n,s.size-i=n+1:=⟨s.size-i-1,zE⟩;have hb:=rU s i ai;rw[hn,Ht]at hr;by_cases h1:uz s i<32
  ·rw[if_pos (.inl h1)]at hr;have:Jm s=none:=by rw[Jm,if_pos (.inr hr)]
   have oV:((uz s i:Nat):Int)<32:=zE
   rw[this];simp[f4,vB,sv,ai,aa,hb,oV,Jn]
  have oV:¬((uz s i:Nat):Int)<32:=zE
  by_cases h3:126<uz s i
  ·rw[if_pos (.inr h3)]at hr;have:Jm s=none:=by rw[Jm,if_pos (.inr hr)]
   have h3':(126:Int)<((uz s i:Nat):Int):=zE
   rw[this];simp[f4,vB,sv,ai,aa,hb,oV,h3',Jn]
  rw[if_neg zE]at hr;have h3':¬(126:Int)<((uz s i:Nat):Int):=zE
  simp[f4,vB,ai,aa,hw,hb,oV,h3'];refine⟨aP,⟨i+1,zd,zE,by rw[hr];congr 1;omega,rfl⟩,zE⟩
 obtain rfl:i=s.size:=zE
 rw[zzdi,Ht]at hr
 have sQ:Jm s=match lay [] (Uo s)with
  |some l=>if l=[]\/4<l.length then none else some l
  |none=>none:=by
   rw[Jm,if_neg (by simp[hr];omega)];rfl
 rw[sQ];have hql:(Uo s).length<=201:=by have:=vf s s.size 0 none;unfold Uo;omega
 simp[f4,vB,IC];refine⟨kw,?_⟩;clear kw sQ;generalize Uo s=q at hql;clear hr;refine Qk iZ (au1 q) (fun f _=>q.length-(numOf (f 7)).toNat) ?_ ?_
 ·exact⟨0,[],.sl .nil [],[],zd,zE,zd,zd,rfl,(fun _ h=>by cases h),zd,.inl ⟨rfl,rfl,rfl⟩,rfl⟩
 rintro f m ⟨i,cD,V,rest,f7,hi,f5,f6,g1,g2,g3,g5,rfl⟩;rcases zzaa i q.length with ai|bz
 ·obtain⟨w,hy⟩:=aU ai;have ah:Qh (q.map Ko) i=[.str w]:=Qt (by simp[hy,Ko]);have aa:(i:Int)<(q.length:Int):=zE
  have LH:=bM i zE;have bC:q.take (i+1)=q.take i++[w]:=by rw[zzas,hy];rfl
  have ez:lay [] (q.take (i+1))=if 32<w.size then none else some (HA cD w):=by
   rw[bC,ql,g1];simp[lay]
  by_cases hw:32<w.size
  ·have JN:(32:Int)<(w.size:Int):=zE
   rw[if_pos hw]at ez;rw[aby ez];simp[f7,f6,iZ,sv,aa,ah,JN,Jn]
  have JN:¬(32:Int)<(w.size:Int):=zE
  rw[if_neg hw]at ez;have hsz:=Pv g2 (by omega:w.size<=32);have dy:=HB cD w;obtain⟨h0,hV,hre⟩|⟨h0,k,hV,dw,dD⟩:=g5
  ·subst h0;subst hV;subst hre;have oG:IntKind.i64.wrap (-1)= -1:=by rw[Qj]<;>omega
   simp[f7,f6,iZ,aa,ah,JN,IC,oG,LH];refine⟨aP,⟨i+1,[w],.bs 0 0 1 1,[[.str w]],zd,zE,zd,zd,by rw[ez,qj],(fun r h=>by simp at h;subst h;omega),zd,.inr ⟨zd,0,rfl,zd,by simp[Vi]⟩,rfl⟩,zE⟩
  subst hV;obtain⟨pre,r,rfl⟩:=(Qcg cD).resolve_left h0;have cw:pre.length+1<=i:=by simpa using g3
  have oG:IntKind.i64.wrap (pre.length:Int)=(pre.length:Int):=by rw[Qj]<;>omega
  have qA:(Vi (pre++[r])).length=pre.length+1:=by simp[Vi]
  have ayr:=g2 r zd;have hsC:Vi (pre++[r])=Vi pre++[.str r]:=by simp[Vi]
  have gM:(Vi pre).length=pre.length:=by simp[Vi]
  have Mn:(Vi (pre++[r])).take (pre.length+1)=Vi (pre++[r]):=zzap zE;have ew:(Vi (pre++[r])).drop pre.length=[.str r]:=by rw[hsC,<- gM,zzfq]
  have eT:IntKind.i64.wrap ((r.size:Int)+1)=(r.size:Int)+1:=by rw[Qj]<;>omega
  have dP:IntKind.i64.wrap ((r.size:Int)+1+(w.size:Int))=(r.size:Int)+1+(w.size:Int):=by rw[Qj]<;>omega
  rw[lI]at ez hsz dy;by_cases hc:r.size+1+w.size<=32
  ·rw[if_pos hc]at ez hsz dy;have oW:(r.size:Int)+1+(w.size:Int)<=32:=zE
   simp[f7,f6,iZ,aa,ah,JN,IC,oG,dD,ew,qA,eT,dP,oW,LH];have has:r++⟨#[32]⟩++w=r++(zA++w):=zzhm
   have bY:(Vi (pre++[r])).set pre.length (.str (r++(zA++w)))=Vi (pre++[r++(zA++w)]):=by
    rw[hsC,<- gM,zzcu _ _ (zzab _)];simp[Vi]
   have hrk:Qh (rest.set k (Vi (pre++[r++(zA++w)]))) k=Vi (pre++[r++(zA++w)]):=by
    simp[Qh,zzar,-Vp,dw]
   have hs1:(⟨#[32]⟩:ByteArray).size=1:=rfl;have ag0:(⟨⟨[32]⟩⟩:ByteArray).size=1:=rfl;have ay2:r++⟨⟨[32]⟩⟩++w=r++(zA++w):=zzhm;refine⟨zE,zE,zE,zE,dw,ag ?_,⟨i+1,pre++[r++(zA++w)],.bs k 0 (pre.length+1) 1,rest.set k (Vi (pre++[r++(zA++w)])),zd,zE,zd,zd,ez,hsz,by simp;omega,.inr ⟨zd,k,zd,by simpa using dw,hrk⟩,by first|rw[has,bY]|rw[ay2,bY]⟩,zE⟩;repeat(first|exact Qc _ _|refine Qb _ rfl ?_)
  rw[if_neg hc]at ez hsz dy;have oW:¬(r.size:Int)+1+(w.size:Int)<=32:=zE
  simp[f7,f6,iZ,aa,ah,JN,IC,oG,dD,ew,qA,eT,dP,oW,LH];have aM:¬Vi (pre++[r])=[]:=fun h=>by rw[h]at qA;simp at qA
  have hR:(rest.set k []).length=rest.length:=zd
  refine⟨zE,⟨⟨dw,aM⟩,zE⟩,aP,⟨i+1,pre++[r]++[w],.bs rest.length 0 (pre.length+1+1) 1,rest.set k []++[Vi (pre++[r])++[.str w]],zd,zE,zd,zd,ez,hsz,by simp;omega,.inr ⟨zd,rest.length,zd,zd,?_⟩,by rw[Mn]⟩,zE⟩
  ·rw[<- hR,Gb];simp[Vi]
 have hte:q.take i=q:=zzap bz;rw[hte]at g1;rw[g1];have bL:¬(i:Int)<(q.length:Int):=zE
 obtain⟨h0,hV,hre⟩|⟨h0,k,hV,dw,dD⟩:=g5
 ·subst h0;subst hV;simp[f7,f6,iZ,bL,sv,Jn]
 subst hV;have aH:¬cD.length=0:=fun h=>h0 (zzcd.1 h);have jr:¬cD.length<1:=zE
 have abz:¬(cD.length:Int)<1:=zE
 have qA:(Vi cD).length=cD.length:=by simp[Vi]
 by_cases h4:4<cD.length
 ·have JT:(4:Int)<(cD.length:Int):=zE
  simp[f7,f6,iZ,bL,sv,Jn,h0,h4,JT,abz]
 have JT:¬(4:Int)<(cD.length:Int):=zE
 have Aj:=fun m=>qm m 4 cD;have an1:=fun m=>qm m 3 cD;have fQ:=yA cD;simp[f7,f6,iZ,bL,sv,Jn,h0,h4,JT,dD,an1,fQ,qA,abz]
def abA(c:Cue):Pure Tryz.prog aA 66 [.agg (Qi c)] (.bool (tj c)):=by
 have k:=ahc c.tx;refine Qo al8 (fun _ _ _=>Jn (Jm c.tx)) zd ?_;by_cases h1:c.id<1
 ·simp[Q1,Q2,Qi,h1,tj]
 by_cases h2:4611686018427387903<c.id
 ·simp[Q1,Q2,Qi,h1,h2,tj]
 by_cases h3:c.to=0
 ·simp[Q1,Q2,Qi,h1,h2,h3,tj];rw[zzbv];simp[j6,and_assoc]
 cases hr:Jm c.tx with
 |none=>
  rw[hr]at k;simp[Q1,Q2,Qi,h1,h2,h3,tj,hr,Jn];exact k
 |some l=>
  rw[hr]at k;simp[Q1,Q2,Qi,h1,h2,h3,tj,hr,Jn];refine⟨k,?_⟩;rw[zzbv];simp;omega
open Go Go.Abs
def Tu(n:Int):Pure Tryz.prog aA 63 [I n] (.bool (eX n)):=by
 refine Qo al5 (fun _ _ _=>.junk) zd ?_;by_cases h:1<=n
 ·simp[al3,al4,h,eX]
 simp[al3,al4,h,eX]
def Au{α:Type}{a b:List α}{i:Nat}{x y:α}(hx:a[i]?=some x)(hy:b[i]?=some y)(h:a.take i=b.take i):a.take (i+1)=b.take (i+1)<->x=y:=by
 rw[zzas,zzas,hx,hy,h];simp
def tL{α:Type}{a b:List α}{i:Nat}(h:a.take i≠b.take i):a≠b:=fun e=>h (by rw[e])
def abB(a b:List Sp)(ha:a.length<=8796093022208):Pure Tryz.prog aA 180 [.sl .ro (a.map Qf),.sl .ro (b.map Qf)] (.bool (decide (a=b))):=by
 refine Qo adB (fun _ _ _=>.junk) zd ?_;by_cases hl:a.length=b.length
 ·simp[NX,hl];refine Qk vG (fun f m=>∃i:Nat,f 5=I i/\i<=b.length/\a.take i=b.take i/\m=⟨[],[],fun _=>.gone,0⟩) (fun f _=>b.length-(numOf (f 5)).toNat) ?_ ?_
  ·exact⟨0,zd,zE,zd,rfl⟩
  rintro f m ⟨i,h5,hi,ht,rfl⟩;rcases zzaa i b.length with ai|bz
  ·obtain⟨x,hx⟩:∃x,a[i]?=some x:=⟨_,zzae zE⟩;obtain⟨y,hy⟩:=aU ai;have hrx:=Zf hx;have hry:=Zf hy;have aa:(i:Int)<(b.length:Int):=zE
   have hw:=bM i zE;have hs:=Au hx hy ht;by_cases e1:x.1=y.1
   ·by_cases e2:x.2=y.2
    ·simp[h5,hl,aa,hrx,hry,vG,e1,e2,hw];refine⟨aP,⟨i+1,zd,zE,hs.2 (Prod.ext e1 e2)⟩,zE⟩
    have aM:a≠b:=tL fun h=>e2 (by rw[hs.1 h]);simp[h5,hl,aa,hrx,hry,vG,e1,e2,Fb,aM]
   have aM:a≠b:=tL fun h=>e1 (by rw[hs.1 h]);simp[h5,hl,aa,hrx,hry,vG,e1,Fb,aM]
  have bL:¬(i:Int)<(b.length:Int):=zE
  have he:a=b:=by
   rw[zzap zE,zzap zE]at ht;exact ht
  simp[h5,bL,vG,Fb,he]
 have aM:a≠b:=fun e=>hl (by rw[e]);have eM:¬(a.length:Int)=(b.length:Int):=zE
 simp[NX,Fb,eM,aM]
def MX(a b:ByteArray):a.toList=b.toList<->a=b:=by
 obtain⟨⟨l⟩⟩:=a;obtain⟨⟨l'⟩⟩:=b;rw[ByteArray.toList_eq,ByteArray.toList_eq];simp
def Ep(a b:En):Bool:=decide (a.al=b.al/\a.id=b.id/\a.it=b.it/\a.fr=b.fr/\a.ea=b.ea/\a.la=b.la/\a.bo=b.bo)
def MY(a b:Cue):Bool:=decide (a.id=b.id/\a.fr=b.fr/\a.to=b.to/\a.pr=b.pr/\a.tx=b.tx)
def Av(a b:Od):Bool:=Ep a.nw b.nw&&(decide (a.sq=b.sq)&&(decide (a.ch=b.ch)&&(decide (a.fr=b.fr)&&(decide (a.ki=b.ki)&&(decide (a.en=b.en)&&(decide (a.n=b.n)&&(decide (a.cl=b.cl)&&MY a.cu b.cu)))))))
def abC(a b:En)(ha:a.al.length<=8796093022208):Pure Tryz.prog aA 108 [.agg (Qd a),.agg (Qd b)] (.bool (Ep a b)):=by
 have k:=abB a.al b.al ha;refine Qo acX (fun _ _ _=>.bool (decide (a.al=b.al))) zd ?_;obtain⟨a1,a2,a3,a4,a5,a6,al⟩:=a;obtain⟨b1,b2,b3,b4,b5,b6,bl⟩:=b;simp[ahV,ahW,Qd];refine⟨k,?_⟩;rw[zzbv];simp[Ep,and_assoc]
def ahd(a b:Od)(ha:a.nw.al.length<=8796093022208):Pure Tryz.prog aA 67 [.agg (Qp a),.agg (Qp b)] (.bool (Av a b)):=by
 have k:=abC a.nw b.nw ha;refine Qo al9 (fun _ _ _=>.bool (Ep a.nw b.nw)) zd ?_;obtain⟨sq,ch,fr,ki,en,n,⟨a1,a2,a3,a4,a5,a6,al⟩,⟨c1,c2,c3,c4,c5,c6,c7,c8⟩,⟨d1,d2,d3,d4,tx⟩⟩:=a;obtain⟨sq',ch',fr',ki',en',n',⟨a1',a2',a3',a4',a5',a6',al'⟩,⟨c1',c2',c3',c4',c5',c6',c7',c8'⟩,⟨d1',d2',d3',d4',tx'⟩⟩:=b;simp only[Qd]at k;simp[ap5,ap6,Qp,Qd,Qg,Qi];refine⟨k,?_⟩;rw[zzbv];simp[Av,MY,and_assoc];intros;exact MX _ _
def Aw(r:Int):List Sp->Bool
 |[]=>true
 |a::l=>if eX a.2=false\/a.1<=r\/8<=a.1 then false else Aw a.1 l
def P0:∀(l:List Sp)(r:Int),Aw r l=yw r l
 |[],_=>rfl
 |a::l,r=>by
  rw[Aw,yw,P0 l a.1];by_cases h:r<a.1/\a.1<=7/\eX a.2=true
  ·have h1:=h.1;have h2:=h.2.1;rw[if_pos h,if_neg (by rw[h.2.2];simp;omega)]
  rw[if_neg h];cases hi:eX a.2 with
  |false=>rw[if_pos (.inl rfl)]
  |true=>
   have h':¬(r<a.1/\a.1<=7):=fun hh=>h ⟨hh.1,hh.2,hi⟩;rw[if_pos (.inr zE)]
def abD(e:En)(f:Nat->AV)(m:AM):Prop:=∃(i:Nat)(r:Int),f 7=I i/\i<=e.al.length/\f 6=I r/\Aw 0 e.al=Aw r (e.al.drop i)/\m=⟨[Qd e],[],fun _=>.gone,0⟩
def MZ(e:En)(hl:e.al.length<=8796093022208):Pure Tryz.prog aA 64 [.agg (Qd e)] (.bool (zz e)):=by
 have q1:=Tu e.id;have q2:=Tu e.it;have q3:=Tu e.bo;refine Qo al6 Vk zd ?_
 have hbo:(e.bo=0)\/(e.bo≠0/\eX e.bo=true)\/(e.bo≠0/\eX e.bo=false):=by
  by_cases dV:e.bo=0
  ·exact .inl dV
  cases hb:eX e.bo with
  |true=>exact .inr (.inl ⟨dV,rfl⟩)
  |false=>exact .inr (.inr ⟨dV,rfl⟩)
 by_cases hbad:(eX e.it&&eX e.id&&decide (1<=e.fr/\e.fr<=100000000)&&decide (0<=e.ea/\e.ea<=e.la/\e.la<=100000000)&&(decide (e.bo=0)||eX e.bo))=true
 ·simp only[zzak,decide_eq_true_eq,zzhg]at hbad;obtain⟨⟨⟨⟨b1,b2⟩,b3,b4⟩,b5,b6,b7⟩,b8⟩:=hbad
  have hv:zz e=Aw 0 e.al:=by
   rw[P0];have h8:(decide (e.bo=0)||eX e.bo)=true:=by rw[zzhg,decide_eq_true_eq];exact b8
   simp only[zz,b1,b2,b3,b4,b5,b6,b7,h8,zzdu,and_self,decide_true]
  have c1:¬e.fr<1:=zE
  have c2:¬100000000<e.fr:=zE
  have c3:¬e.ea<0:=zE
  have c4:¬e.la<e.ea:=zE
  have c5:¬100000000<e.la:=zE
  rw[hv];have loop:∀(E:List (Nat×AV))(Q:Exit->AS->Prop),True:=fun _ _=>trivial;rw[b2]at q1;rw[b1]at q2;obtain h0|⟨h0,h1⟩|⟨h0,h1⟩:=hbo
  ·simp[Ks,Qd,Vk,b1,b2,h0,c1,c2,c3,c4,c5];refine⟨q2,q1,?_⟩;refine Qk gT (abD e) (fun f _=>e.al.length-(numOf (f 7)).toNat) ?_ ?_
   ·exact⟨0,0,zd,zE,zd,zd,by simp[Qd,h0]⟩
   rintro f m ⟨i,r,f7,hi,f6,hr,rfl⟩;rcases zzaa i e.al.length with ai|bz
   ·obtain⟨a,ha⟩:=aU ai;have ah:=Zf ha;have aa:(i:Int)<(e.al.length:Int):=zE
    have hw:=bM i zE;have hd:e.al.drop i=a::e.al.drop (i+1):=by rw[zzaf ai,(zza.1 ha).2]
    rw[hd,Aw]at hr;have qa:=Tu a.2;cases d3:eX a.2 with
    |false=>
     rw[d3]at qa;rw[if_pos (.inl d3)]at hr;simp[f7,f6,gT,tW,Qd,aa,ah,d3,hr,Vk];exact qa
    |true=>
     rw[d3]at qa;by_cases d1:a.1<=r
     ·rw[if_pos (.inr (.inl d1))]at hr;simp[f7,f6,gT,tW,Qd,aa,ah,d1,d3,hr,Vk];exact qa
     by_cases d2:8<=a.1
     ·rw[if_pos (.inr (.inr d2))]at hr;simp[f7,f6,gT,tW,Qd,aa,ah,d1,d2,d3,hr,Vk];exact qa
     rw[if_neg (by rw[d3];simp;omega)]at hr;simp[f7,f6,gT,Qd,aa,ah,d1,d2,d3,Vk,hw];refine⟨qa,aP,⟨i+1,a.1,zd,zE,zd,hr,by simp[Qd]⟩,zE⟩
   obtain rfl:i=e.al.length:=zE
   rw[zzbn,Aw]at hr;simp[f7,f6,gT,tW,Qd,hr]
  ·rw[h1]at q3;simp[Ks,Qd,Vk,b1,b2,h0,h1,c1,c2,c3,c4,c5];refine⟨q2,q1,q3,?_⟩;refine Qk gT (abD e) (fun f _=>e.al.length-(numOf (f 7)).toNat) ?_ ?_
   ·exact⟨0,0,zd,zE,zd,zd,by simp[Qd]⟩
   rintro f m ⟨i,r,f7,hi,f6,hr,rfl⟩;rcases zzaa i e.al.length with ai|bz
   ·obtain⟨a,ha⟩:=aU ai;have ah:=Zf ha;have aa:(i:Int)<(e.al.length:Int):=zE
    have hw:=bM i zE;have hd:e.al.drop i=a::e.al.drop (i+1):=by rw[zzaf ai,(zza.1 ha).2]
    rw[hd,Aw]at hr;have qa:=Tu a.2;cases d3:eX a.2 with
    |false=>
     rw[d3]at qa;rw[if_pos (.inl d3)]at hr;simp[f7,f6,gT,tW,Qd,aa,ah,d3,hr,Vk];exact qa
    |true=>
     rw[d3]at qa;by_cases d1:a.1<=r
     ·rw[if_pos (.inr (.inl d1))]at hr;simp[f7,f6,gT,tW,Qd,aa,ah,d1,d3,hr,Vk];exact qa
     by_cases d2:8<=a.1
     ·rw[if_pos (.inr (.inr d2))]at hr;simp[f7,f6,gT,tW,Qd,aa,ah,d1,d2,d3,hr,Vk];exact qa
     rw[if_neg (by rw[d3];simp;omega)]at hr;simp[f7,f6,gT,Qd,aa,ah,d1,d2,d3,Vk,hw];refine⟨qa,aP,⟨i+1,a.1,zd,zE,zd,hr,by simp[Qd]⟩,zE⟩
   obtain rfl:i=e.al.length:=zE
   rw[zzbn,Aw]at hr;simp[f7,f6,gT,tW,Qd,hr]
  obtain b8|b8:=b8
  ·exact absurd b8 h0
  rw[h1]at b8;cases b8
 have hv:zz e=false:=by
  cases hi:zz e with
  |false=>rfl
  |true=>
   refine absurd ?_ hbad;simp only[zz,zzak]at hi |-
   exact⟨⟨⟨⟨hi.1.1.1.1.2,hi.1.1.1.1.1⟩,hi.1.1.1.2⟩,hi.1.1.2⟩,hi.1.2⟩
 rw[hv]
 have hX:(!eX e.it||!eX e.id||!(decide (e.bo=0)||eX e.bo)||decide (e.fr<1)||decide (100000000<e.fr)||decide (e.ea<0)||decide (e.la<e.ea)||decide (100000000<e.la))=true:=by
  cases hx:(!eX e.it||!eX e.id||!(decide (e.bo=0)||eX e.bo)||decide (e.fr<1)||decide (100000000<e.fr)||decide (e.ea<0)||decide (e.la<e.ea)||decide (100000000<e.la))with
  |true=>rfl
  |false=>
   refine absurd ?_ hbad;simp only[zzez,Bool.not_eq_false',decide_eq_false_iff_not]at hx;obtain⟨⟨⟨⟨⟨⟨⟨x1,x2⟩,x3⟩,x4⟩,x5⟩,x6⟩,x7⟩,x8⟩:=hx;rw[x1,x2,x3];simp;omega
 obtain h0|⟨h0,h1⟩|⟨h0,h1⟩:=hbo
 ·simp[h0]at hX;simp[Ks,tW,Qd,Vk,h0];refine⟨q2,q1,?_⟩;intro a1 a2 a3 a4 a5 a6 a7;exfalso;simp[a1,a2]at hX;omega
 ·simp[h0,h1]at hX;rw[h1]at q3;simp[Ks,tW,Qd,Vk,h0,h1];refine⟨q2,q1,q3,?_⟩;intro a1 a2 a3 a4 a5 a6 a7;exfalso;simp[a1,a2]at hX;omega
 rw[h1]at q3;simp[Ks,tW,Qd,Vk,h0,h1];exact⟨q2,q1,q3⟩
open Go Go.Abs
def Yn(o:Od):Od:=if o.ki=1 then{o with nw:=lJ,cl:=og,cu:=oh}else if o.ki=2 then{o with n:=0,nw:=lJ,cl:=og,cu:=oh}else if o.ki=3 then{o with en:=0,n:=0,cl:=og,cu:=oh}
 else if o.ki=4 then{o with en:=0,n:=0,nw:=lJ,cu:=oh}else if o.ki=5 then{o with en:=0,n:=0,nw:=lJ,cl:=og}else{o with en:=0,n:=0,nw:=lJ,cl:=og,cu:=oh}
def ahe(o:Od)(hk5:¬(o.ki<1\/5<o.ki)):Av o (Yn o)=Jy (Jo o):=by
 obtain⟨sq,ch,fr,ki,en,n,⟨a1,a2,a3,a4,a5,a6,al⟩,⟨c1,c2,c3,c4,c5,c6,c7,c8⟩,⟨d1,d2,d3,d4,tx⟩⟩:=o;rw[zzbv];unfold Yn Jo;by_cases h1:ki=1
 ·simp[h1,Av,Ep,MY,Jy,lJ,og,oh,eB];constructor<;>(rintro⟨_,_⟩;simp_all)
 by_cases h2:ki=2
 ·simp[h2,Av,Ep,MY,Jy,lJ,og,oh,eB];constructor<;>(rintro⟨_,_⟩;simp_all)
 by_cases h3:ki=3
 ·simp[h3,Av,Ep,MY,Jy,lJ,og,oh,eB];try(constructor<;>(rintro⟨_,_⟩;simp_all))
 by_cases h4:ki=4
 ·simp[h4,Av,Ep,MY,Jy,lJ,og,oh,eB];constructor<;>(rintro⟨_,_⟩;simp_all)
 have h5:ki=5:=by
  have q1:¬ki<1:=fun h=>hk5 (.inl h);have q2:¬5<ki:=fun h=>hk5 (.inr h);omega
 simp[h5,Av,Ep,MY,Jy,lJ,og,oh,eB];constructor<;>(rintro⟨_,_⟩;simp_all)
def ahf(a b:Od)(rt:Rt)(ha:a.nw.al.length<=8796093022208):Pure Tryz.prog aA 67 [.agg (Qp a),.agg [I b.sq,I b.ch,I b.fr,I b.ki,I b.en,I b.n,I b.nw.id,I b.nw.it,I b.nw.fr,I b.nw.ea,I b.nw.la,I b.nw.bo,.sl rt (b.nw.al.map Qf),I b.cl.ki,I b.cl.it,I b.cl.fr,I b.cl.to,I b.cl.re,I b.cl.n,I b.cl.a,I b.cl.b,I b.cu.id,I b.cu.fr,I b.cu.to,I b.cu.pr,.str b.cu.tx]] (.bool (Av a b)):=
 Zo (ahd a b ha) ⟨yk,Qcq ⟨yk,yk,yk,yk,yk,yk,yk,yk,yk,yk,yk,yk,Wk.sl _ _,yk,yk,yk,yk,yk,yk,yk,yk,yk,yk,yk,yk,yk,trivial⟩,trivial⟩
def y4(o:Od):Nat->FuncId->List AV->AV:=fun _ f l=>if f=63 then .bool (eX o.en)else if f=64 then .bool (zz o.nw)else if f=65 then .bool (Xj o.cl)else if f=66 then .bool (tj o.cu)else .bool (Av o (Yn o))
def ahg(o:Od)(eD:o.nw.al.length<=8796093022208):Pure Tryz.prog aA 34 [.agg (Qp o)] (.bool (Xy o)):=by
 have k67:=fun rt=>ahf o (Yn o) rt eD;have k63:=Tu o.en;have k64:=MZ o.nw eD;have k65:=IE o.cl;have k66:=abA o.cu;simp only[Qp,Qd,Qg,Qi,zzad,zzah]at k67 k64 k65 k66;refine Qo alF (y4 o) zd ?_;by_cases h0:o.sq<0\/200<o.sq\/o.ch< -1\/40<=o.ch\/o.fr<0\/100000000<o.fr
 ·have hv:Xy o=false:=by
   unfold Xy;by_cases h1:o.sq<0\/200<o.sq\/o.ch< -1\/40<=o.ch
   ·rw[if_pos h1]
   rw[if_neg h1,if_pos zE]
  rw[hv];have hb:(decide (o.sq<0)||decide (200<o.sq)||decide (o.ch< -1)||decide (40<=o.ch)||decide (o.fr<0)||decide (100000000<o.fr))=true:=by simp;omega
  rcases h0 with h|h|h|h|h|h<;>simp[ES,ET,Qp,Qd,Qg,Qi,h]
 have hv:Xy o=if o.ki<1\/5<o.ki then false else if o.ki=1/\(o.n< -100000000\/100000000<o.n)then false else okB o&&Av o (Yn o):=by
  unfold Xy;rw[if_neg zE,if_neg zE];by_cases hk:o.ki<1\/5<o.ki
  ·rw[if_pos hk,if_pos hk]
  rw[if_neg hk,if_neg hk,ahe o hk]
 rw[hv];have c1:¬o.sq<0:=zE
 have c2:¬200<o.sq:=zE
 have c3:¬o.ch< -1:=zE
 have c4:¬40<=o.ch:=zE
 have c5:¬o.fr<0:=zE
 have c6:¬100000000<o.fr:=zE
 by_cases k1:o.ki=1
 ·have hw:Yn o={o with nw:=lJ,cl:=og,cu:=oh}:=by unfold Yn;rw[if_pos k1]
  have hr:(if o.ki<1\/5<o.ki then false else if o.ki=1/\(o.n< -100000000\/100000000<o.n)then false else okB o&&Av o (Yn o))=(eX o.en&&decide (-100000000<=o.n)&&decide (o.n<=100000000)&&Av o (Yn o)):=by
   rw[if_neg zE];by_cases hn:o.n< -100000000\/100000000<o.n
   ·rw[if_pos ⟨k1,hn⟩];obtain hn|hn:=hn
    ·have:¬-100000000<=o.n:=zE
     simp[this]
    have:¬o.n<=100000000:=zE
    simp[this]
   have n1: -100000000<=o.n:=zE
   have n2:o.n<=100000000:=zE
   rw[if_neg (fun h=>hn h.2)];unfold okB;rw[if_pos k1];simp[n1,n2]
  rw[hr];have qI:=k67 .nil;rw[hw]at qI;simp only[lJ,og,oh,eB,zzcc]at qI;rw[k1]at qI;simp[ES,ET,Qp,Qd,Qg,Qi,c1,c2,c3,c4,c5,c6,k1,y4];refine⟨k63,?_⟩;rw[hw];simp only[lJ,og,oh,eB];rw[k1];exact qI
 by_cases k2:o.ki=2
 ·have hw:Yn o={o with n:=0,nw:=lJ,cl:=og,cu:=oh}:=by unfold Yn;rw[if_neg k1,if_pos k2]
  have hr:(if o.ki<1\/5<o.ki then false else if o.ki=1/\(o.n< -100000000\/100000000<o.n)then false else okB o&&Av o (Yn o))=(eX o.en&&Av o (Yn o)):=by
   rw[if_neg zE,if_neg zE];unfold okB;rw[if_neg k1,if_pos k2]
  rw[hr];have qI:=k67 .nil;rw[hw]at qI;simp only[lJ,og,oh,eB,zzcc]at qI;rw[k2]at qI;simp[ES,ET,Qp,Qd,Qg,Qi,c1,c2,c3,c4,c5,c6,k2,y4];refine⟨k63,?_⟩;rw[hw];simp only[lJ,og,oh,eB];rw[k2];exact qI
 by_cases k3:o.ki=3
 ·have hw:Yn o={o with en:=0,n:=0,cl:=og,cu:=oh}:=by unfold Yn;rw[if_neg k1,if_neg k2,if_pos k3]
  have hr:(if o.ki<1\/5<o.ki then false else if o.ki=1/\(o.n< -100000000\/100000000<o.n)then false else okB o&&Av o (Yn o))=(zz o.nw&&Av o (Yn o)):=by
   rw[if_neg zE,if_neg zE];unfold okB;rw[if_neg k1,if_neg k2,if_pos k3]
  rw[hr];have qI:=k67 .ro;rw[hw]at qI;simp only[og,oh,eB]at qI;rw[k3]at qI;simp[ES,ET,Qp,Qd,Qg,Qi,c1,c2,c3,c4,c5,c6,k3,y4];refine⟨k64,?_⟩;rw[hw];simp only[og,oh,eB];rw[k3];exact qI
 by_cases k4:o.ki=4
 ·have hw:Yn o={o with en:=0,n:=0,nw:=lJ,cu:=oh}:=by unfold Yn;rw[if_neg k1,if_neg k2,if_neg k3,if_pos k4]
  have hr:(if o.ki<1\/5<o.ki then false else if o.ki=1/\(o.n< -100000000\/100000000<o.n)then false else okB o&&Av o (Yn o))=(Xj o.cl&&Av o (Yn o)):=by
   rw[if_neg zE,if_neg zE];unfold okB;rw[if_neg k1,if_neg k2,if_neg k3,if_pos k4]
  rw[hr];have qI:=k67 .nil;rw[hw]at qI;simp only[lJ,oh,eB,zzcc]at qI;rw[k4]at qI;simp[ES,ET,Qp,Qd,Qg,Qi,c1,c2,c3,c4,c5,c6,k4,y4];refine⟨k65,?_⟩;rw[hw];simp only[lJ,oh,eB];rw[k4];exact qI
 by_cases k5:o.ki=5
 ·have hw:Yn o={o with en:=0,n:=0,nw:=lJ,cl:=og}:=by unfold Yn;rw[if_neg k1,if_neg k2,if_neg k3,if_neg k4,if_pos k5]
  have hr:(if o.ki<1\/5<o.ki then false else if o.ki=1/\(o.n< -100000000\/100000000<o.n)then false else okB o&&Av o (Yn o))=(tj o.cu&&Av o (Yn o)):=by
   rw[if_neg zE,if_neg zE];unfold okB;rw[if_neg k1,if_neg k2,if_neg k3,if_neg k4]
  rw[hr];have qI:=k67 .nil;rw[hw]at qI;simp only[lJ,og,zzcc]at qI;rw[k5]at qI;simp[ES,ET,Qp,Qd,Qg,Qi,c1,c2,c3,c4,c5,c6,k5,y4];refine⟨k66,?_⟩;rw[hw];simp only[lJ,og];rw[k5];exact qI
 have hw:Yn o={o with en:=0,n:=0,nw:=lJ,cl:=og,cu:=oh}:=by unfold Yn;rw[if_neg k1,if_neg k2,if_neg k3,if_neg k4,if_neg k5]
 have qI:=k67 .nil;rw[hw]at qI;simp only[lJ,og,oh,eB,zzcc]at qI;rw[if_pos zE];simp[ES,ET,Qp,Qd,Qg,Qi,c1,c2,c3,c4,c5,c6,k1,k2,k3,k4,k5,y4];rw[hw];simp only[lJ,og,oh,eB];exact qI
