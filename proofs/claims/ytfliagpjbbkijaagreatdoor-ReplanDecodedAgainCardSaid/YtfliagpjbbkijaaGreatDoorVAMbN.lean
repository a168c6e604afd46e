import Derived.Test.YtfliagpjbbkijaaGreatDoorVAMbB
set_option linter.all false
set_option maxRecDepth 100000
set_option maxHeartbeats 64000000
namespace Go.Proofs.YtfliagpjbbkijaaGreatDoor
open Go Go.Abs
def OF:ByteArray:=⟨#[32]⟩
def jN{α:Type}(l:List α):l=[]\/∃L b,l=L++[b]:=by
 rcases zzhk l with h|⟨L,b,h⟩
 ·exact .inl h
 exact .inr ⟨L,b,by rw[h,zzhl]⟩
def LP(eH:List ByteArray)(w:ByteArray):List ByteArray:=match eH.getLast? with
 |some r=>if r.size+1+w.size<=32 then eH.dropLast++[r++(OF++w)]else eH++[w]
 |none=>[w]
theorem yh(w:ByteArray):LP [] w=[w]:=rfl
def rO(pre:List ByteArray)(r w:ByteArray):LP (pre++[r]) w=if r.size+1+w.size<=32 then pre++[r++(OF++w)]else pre++[r]++[w]:=by simp[LP]
def lay:List ByteArray->List ByteArray->Option (List ByteArray)
 |eH,[]=>some eH
 |eH,w::r=>if 32<w.size then none else lay (LP eH w) r
def DQ:∀(a b eH:List ByteArray),lay eH (a++b)=(lay eH a).bind fun x=>lay x b
 |[],_,_=>rfl
 |w::r,b,eH=>by
  simp only[zzae,lay];split
  ·rfl
  exact DQ r b _
def DS(s:ByteArray):∀(n i:Nat)(first:Option Nat),(ZE s n i first).length<=n+1
 |0,i,first=>by rw[ZE];cases first<;>simp[td]
 |n+1,i,first=>by
  rw[ZE];split
  ·have:=DS s n (i+1) (some (first.getD i));omega
  have:=DS s n (i+1) none;rw[zzah];have h2:(td s i first).length<=1:=by cases first<;>simp[td]
  omega
def ZM(a b:ByteArray):(a++b).size=a.size+b.size:=zd
def afo{eH:List ByteArray}{w:ByteArray}(h:∀r∈eH,r.size<=32)(hw:w.size<=32):∀r∈LP eH w,r.size<=32:=by
 rcases jN eH with rfl|⟨pre,r,rfl⟩
 ·intro x hx;simp[yh]at hx;subst hx;exact hw
 rw[rO];split
 ·intro x hx;rcases zzap.1 hx with hx|hx
  ·exact h x (by simp[hx])
  simp only[zzcp]at hx;subst hx;rw[ZM,ZM];have:OF.size=1:=rfl;omega
 intro x hx;rcases zzap.1 hx with hx|hx
 ·exact h x hx
 simp only[zzcp]at hx;subst hx;exact hw
def ZN(eH:List ByteArray)(w:ByteArray):(LP eH w).length<=eH.length+1:=by
 rcases jN eH with rfl|⟨pre,r,rfl⟩
 ·simp[yh]
 rw[rO];split<;>simp
def mD(s:ByteArray):Option (List ByteArray):=if 200<s.size\/ZD s=false then none else match lay [] (nS s)with
 |some l=>if l=[]\/4<l.length then none else some l
 |none=>none
def Kj(l:List ByteArray):PQ:=l.map AV.str
def LQ(r:ByteArray):PQ:=[.str r]
def mE:Option (List ByteArray)->AV
 |none=>.aQ [.sl .nil [],.bool false]
 |some l=>.aQ [.sl .ro (l.map LQ),.bool true]
def RV(eH:List ByteArray)(V:AV)(rest:X2):Prop:=(eH=[]/\V=.sl .nil [])\/(eH≠[]/\∃k,V=.bs (k+3) 0 eH.length 1/\k<rest.length/\Qg rest k=Kj eH)
def asK(q:List ByteArray)(i:Nat)(m:AM):Prop:=∃(eH:List ByteArray)(rest:X2)(V:AV),lay [] (q.take i)=some eH/\(∀r∈eH,r.size<=32)/\eH.length<=i/\m.boxes=[.sl .nil []]::[.bool false]::[V]::rest/\RV eH V rest
def axR(q:List ByteArray)(ex:Exit)(m:AM):Prop:=ex=.ret/\lay [] q=none/\∃rest,m.boxes=[.sl .nil []]::[.bool false]::rest
def BK(s:ByteArray):X1:=fun d f _=>if f=999999 then(if d=49 then .aL 0 []else .junk)else if f=125 then .bool (ZD s)else .fn 174 [] [.ep [.str s] 0]
def LR(l:List ByteArray):aW 1 l.length (Kj l)=l.map LQ:=by
 induction l with
 |nil=>rfl
 |cons a r ih=>
  show aW 1 (r.length+1) (AV.str a::Kj r)=_;rw[nQ];simp[ih,LQ]
def Hh(m:AM)(d:Nat)(l:List ByteArray):(Kj l).map (bE m (d+1))=Kj l:=by
 induction l with
 |nil=>rfl
 |cons a r ih=>simp[Kj]at ih |-
def RV.ext{eH:List ByteArray}{V:AV}{rest:X2}(h:RV eH V rest)(ex:X2):RV eH V (rest++ex):=by
 obtain h|⟨h1,k,h2,h3,h4⟩:=h
 ·exact .inl h
 exact .inr ⟨h1,k,h2,by simp;omega,by rw[Qk h3,h4]⟩
def Rx(s:ByteArray):Pure Tryz.prog aD 71 [.str s] (mE (mD s)):=by
 refine Qn akU (BK s) zd ?_;by_cases h2:200<s.size
 ·have Fm:(200:Int)<(s.size:Int):=zE
  have:mD s=none:=by rw[mD,if_pos (.inl h2)]
  rw[this];simp[abY,JE,Fm,mE]
 have Fm:¬(200:Int)<(s.size:Int):=zE
 have kp:=yd s zE;have kw:=LJ s;have kit:=LK s zE;cases hp:ZD s with
 |false=>
  rw[hp]at kp;have:mD s=none:=by rw[mD,if_pos (.inr hp)]
  rw[this];simp[abY,JE,Fm,mE,BK,hp];exact kp
 |true=>
  rw[hp]at kp
  have zT:mD s=match lay [] (nS s)with
   |some l=>if l=[]\/4<l.length then none else some l
   |none=>none:=by rw[mD,if_neg (by simp[hp];omega)]
  rw[zT];have hql:(nS s).length<=201:=by have:=DS s s.size 0 none;unfold nS;omega
  generalize nS s=q at kit hql;simp[abY,Fm,BK,hp];refine⟨kp,kw,?_⟩;refine jm (xs:=q.map fun w=>[.str w]) zd kit (by intro x hx;simp at hx;obtain⟨a,_,rfl⟩:=hx;rfl) (asK q) (axR q) ?_ ?_ ?_ ?_ ?_ ?_
  ·exact⟨[],[],.sl .nil [],rfl,fun _ h=>(by cases h),zd,zd,.inl ⟨rfl,rfl⟩⟩
  ·rintro i m m' ⟨eH,rest,V,g1,g2,g3,g4,g5⟩ ⟨⟨b2,e2⟩,_,_⟩;exact⟨eH,rest++b2,V,g1,g2,g3,by rw[e2,g4];simp,g5.ext b2⟩
  ·rintro ex m m' ⟨g1,g2,rest,g3⟩ ⟨⟨b2,e2⟩,_,_⟩;exact⟨g1,g2,rest++b2,by rw[e2,g3];simp⟩
  ·rintro l1 i m x hg hr ⟨eH,rest,V,g1,g2,g3,g4,g5⟩ hx K' k1 k2 k3
   obtain⟨w,hy,rfl⟩:∃w,q[i]?=some w/\[AV.str w]=x:=by
    rw[zzbf]at hx;cases hq:q[i]? with
    |none=>rw[hq]at hx;cases hx
    |some y=>rw[hq]at hx;exact⟨y,rfl,Option.some.inj hx⟩
   have aa:i<q.length:=(zza.1 hy).1;have bB:q.take (i+1)=q.take i++[w]:=by rw[zzax,hy];rfl
   have gr:lay [] (q.take (i+1))=if 32<w.size then none else some (LP eH w):=by
    rw[bB,DQ,g1];simp[lay]
   rw[Us]at g4;obtain⟨mb,ml,ms,mn⟩:=m;simp only at g4 hr;subst g4;by_cases hw:32<w.size
   ·have hw':(32:Int)<(w.size:Int):=zE
    simp[Zi,hr,hw'];refine k2 _ ⟨rfl,?_,_,rfl⟩;have hq:q=q.take (i+1)++q.drop (i+1):=(zzdq _ _).symm;rw[hq,DQ,gr,if_pos hw];rfl
   have hw':¬(32:Int)<(w.size:Int):=zE
   rw[if_neg hw]at gr;have hsz:=afo g2 (by omega:w.size<=32);have ei:=ZN eH w;obtain⟨h0,hV⟩|⟨h0,k,hV,dF,ey⟩:=g5
   ·subst h0;subst hV;have nk:IntKind.i64.wrap (-1)= -1:=by rw[Qi]<;>omega
    simp[Zi,hr,hw',BK,nk];refine k1 _ ⟨[w],rest++[[.str w]],.bs (rest.length+3) 0 1 1,by rw[gr,yh],fun r h=>by simp at h;subst h;omega,zd,zd,.inr ⟨zd,rest.length,rfl,zd,by simp[Kj]⟩⟩
   subst hV;obtain⟨pre,r,rfl⟩:=(jN eH).resolve_left h0;have cR:pre.length+1<=i:=by simpa using g3
   have nk:IntKind.i64.wrap (pre.length:Int)=(pre.length:Int):=by rw[Qi]<;>omega
   have iZ:(Kj (pre++[r])).length=pre.length+1:=by simp[Kj]
   have azk:=g2 r zd;have hsC:Kj (pre++[r])=Kj pre++[.str r]:=by simp[Kj]
   have kK:(Kj pre).length=pre.length:=by simp[Kj]
   have ZO:(Kj (pre++[r])).take (pre.length+1)=Kj (pre++[r]):=zzal zE;have eY:(Kj (pre++[r])).drop pre.length=[.str r]:=by rw[hsC,<- kK,zzeg]
   have iL:IntKind.i64.wrap ((r.size:Int)+1)=(r.size:Int)+1:=by rw[Qi]<;>omega
   have fE:IntKind.i64.wrap ((r.size:Int)+1+(w.size:Int))=(r.size:Int)+1+(w.size:Int):=by rw[Qi]<;>omega
   rw[rO]at gr hsz ei;by_cases hc:r.size+1+w.size<=32
   ·rw[if_pos hc]at gr hsz ei;have uw:(r.size:Int)+1+(w.size:Int)<=32:=zE
    have bW:(Kj (pre++[r])).set pre.length (.str (r++(OF++w)))=Kj (pre++[r++(OF++w)]):=by
     rw[hsC,<- kK,zzcy _ _ (zzaa _)];simp[Kj]
    simp only[OF]at bW;simp[Zi,hr,hw',BK,nk,ey,eY,iZ,iL,fE,uw,bW]
    have hrk:Qg (rest.set k (Kj (pre++[r++(OF++w)]))) k=Kj (pre++[r++(OF++w)]):=by
     simp[Qg,zzaw,-Vu,dF]
    have hs1:OF.size=1:=rfl;refine⟨zE,(by show OF.size+w.size<=_;omega),(by show r.size+(OF.size+w.size)<=_;omega),zE,dF,k1 _ ⟨pre++[r++(OF++w)],rest.set k (Kj (pre++[r++(OF++w)])),.bs (k+3) 0 (pre.length+1) 1,gr,hsz,by simp;omega,by simp[OF],.inr ⟨zd,k,zd,Pi dF,hrk⟩⟩⟩
   rw[if_neg hc]at gr hsz ei;have uw:¬(r.size:Int)+1+(w.size:Int)<=32:=zE
   simp[Zi,hr,hw',BK,nk,ey,eY,iZ,iL,fE,uw];have aJ:¬Kj (pre++[r])=[]:=fun h=>by rw[h]at iZ;simp at iZ
   have hR:(rest.set k []).length=rest.length:=zd
   refine⟨zE,⟨⟨dF,aJ⟩,zE⟩,k1 _ ⟨pre++[r]++[w],rest.set k []++[Kj (pre++[r])++[.str w]],.bs (rest.length+3) 0 (pre.length+1+1) 1,gr,hsz,by simp;omega,by simp[ZO],.inr ⟨zd,rest.length,zd,zd,?_⟩⟩⟩;rw[<- hR,ZP];simp[Kj]
  ·rintro m ⟨eH,rest,V,g1,g2,g3,g4,g5⟩;rw[zzbu,zzbs]at g1;rw[g1];obtain⟨mb,ml,ms,mn⟩:=m;simp only at g4;subst g4;obtain⟨h0,hV⟩|⟨h0,k,hV,dF,ey⟩:=g5
   ·subst h0;subst hV;simp[JE,mE]
   subst hV;have aH:¬eH.length=0:=fun h=>h0 (zzc.1 h);have iZ:(Kj eH).length=eH.length:=by simp[Kj]
   by_cases h4:4<eH.length
   ·have S7:(4:Int)<(eH.length:Int):=zE
    simp[JE,mE,h0,h4,S7]
   have S7:¬(4:Int)<(eH.length:Int):=zE
   have hmp:=fun m=>Hh m 4 eH;have axS:=fun m=>Hh m 3 eH;have mg:=LR eH;simp[JE,mE,h0,h4,S7,ey,axS,mg,iZ]
  rintro ex m ⟨rfl,g2,rest,g3⟩;rw[g2];simp[JE,g3,mE]
def BL(c:Cue):Bool:=if c.id<1\/4611686018427387903<c.id then false else if c.to=0 then decide (c.fr=0/\c.pr=0/\c.tx=eB)else
 if c.fr<0\/c.to<=c.fr\/100000000<c.to then false else if c.pr<0\/3<c.pr then false else(mD c.tx).isSome
def tf(c:Cue):Pure Tryz.prog aD 32 [.agg (Ql c)] (.bool (BL c)):=by
 have k:=Rx c.tx;refine Qn aku (fun _ _ _=>mE (mD c.tx)) zd ?_;by_cases h1:c.id<1
 ·simp[vg,vh,Ql,h1,BL]
 by_cases h2:4611686018427387903<c.id
 ·simp[vg,vh,Ql,h1,h2,BL]
 by_cases h3:c.to=0
 ·simp[vg,vh,Ql,h1,h2,h3,BL];rw[zzcs];simp[G8]
 by_cases h4:c.fr<0
 ·simp[vg,vh,Ql,h1,h2,h3,h4,BL]
 by_cases h5:c.to<=c.fr
 ·simp[vg,vh,Ql,h1,h2,h3,h4,h5,BL]
 by_cases h6:100000000<c.to
 ·simp[vg,vh,Ql,h1,h2,h3,h4,h5,h6,BL]
 by_cases h7:c.pr<0
 ·simp[vg,vh,Ql,h1,h2,h3,h4,h5,h6,h7,BL]
 by_cases h8:3<c.pr
 ·simp[vg,vh,Ql,h1,h2,h3,h4,h5,h6,h7,h8,BL]
 cases hr:mD c.tx with
 |none=>
  rw[hr]at k;simp[vg,vh,Ql,h1,h2,h3,h4,h5,h6,h7,h8,BL,hr,mE];exact k
 |some l=>
  rw[hr]at k;simp[vg,vh,Ql,h1,h2,h3,h4,h5,h6,h7,h8,BL,hr,mE];exact k
def Ah:En:=⟨0,0,0,0,0,0,[]⟩
def BM:Cl:=⟨0,0,0,0,0,0,0,0⟩
def BN:Cue:=⟨0,0,0,0,eB⟩
def Yp(o:Od):Od:=if o.ki=1 then{o with n:=0,en:=0}else if o.ki=2 then{o with en:=0}else if o.ki=3 then{o with nw:=Ah}else if o.ki=4 then{o with cl:=BM}else{o with cu:=BN}
def okB(o:Od):Bool:=if o.ki=1 then rN o.en else if o.ki=2 then rN o.en else if o.ki=3 then nR o.nw else if o.ki=4 then Xv o.cl else BL o.cu
def Xm(o:Od):Bool:=if o.sq<0\/200<o.sq\/o.ch< -1\/40<=o.ch then false else if o.fr<0\/100000000<o.fr then false else
 if o.ki<1\/5<o.ki then false else if o.ki=1/\(o.n< -100000000\/100000000<o.n)then false else okB o&&Jd (Yp o)
def jO(a b:Bool):X1:=fun _ f _=>if f=29 then .bool b else .bool a
def Jt(o:Od)(hl:o.nw.al.length<=8796093022208):Pure Tryz.prog aD 9 [.agg (Qu o)] (.bool (Xm o)):=by
 have kb:=LH (Yp o);have kk:o.ki=3\/Pure Tryz.prog aD 29 [.agg (Qu (Yp o))] (.bool (Jd (Yp o))):=.inr kb;refine Qn aoZ (jO (okB o) (Jd (Yp o))) zd ?_;by_cases a1:o.sq<0
 ·simp[Au,Av,Qu,Qd,Qh,Ql,a1,Xm]
 by_cases a2:200<o.sq
 ·simp[Au,Av,Qu,Qd,Qh,Ql,a1,a2,Xm]
 by_cases a3:o.ch< -1
 ·simp[Au,Av,Qu,Qd,Qh,Ql,a1,a2,a3,Xm]
 by_cases a4:40<=o.ch
 ·simp[Au,Av,Qu,Qd,Qh,Ql,a1,a2,a3,a4,Xm]
 by_cases a5:o.fr<0
 ·simp[Au,Av,Qu,Qd,Qh,Ql,a1,a2,a3,a4,a5,Xm]
 by_cases a6:100000000<o.fr
 ·simp[Au,Av,Qu,Qd,Qh,Ql,a1,a2,a3,a4,a5,a6,Xm]
 have hA:¬(o.sq<0\/200<o.sq\/o.ch< -1\/40<=o.ch):=zE
 have hB:¬(o.fr<0\/100000000<o.fr):=zE
 have hv:Xm o=if o.ki<1\/5<o.ki then false else if o.ki=1/\(o.n< -100000000\/100000000<o.n)then false else okB o&&Jd (Yp o):=by rw[Xm,if_neg hA,if_neg hB]
 rw[hv];by_cases k1:o.ki=1
 ·have c1:¬(o.ki<1\/5<o.ki):=zE
  rw[if_neg c1];by_cases b1:o.n< -100000000
  ·rw[if_pos ⟨k1,.inl b1⟩];simp[Au,Av,Qu,Qd,Qh,Ql,a1,a2,a3,a4,a5,a6,k1,b1]
  by_cases b2:100000000<o.n
  ·rw[if_pos ⟨k1,.inr b2⟩];simp[Au,Av,Qu,Qd,Qh,Ql,a1,a2,a3,a4,a5,a6,k1,b1,b2]
  rw[if_neg zE];have q:=Kw o.en;have hk:okB o=rN o.en:=by rw[okB,if_pos k1]
  have hr:Yp o={o with n:=0,en:=0}:=by rw[Yp,if_pos k1]
  rw[hr]at kb |-
  rw[hk];simp only[Qu,Qd,Qh,Ql,k1]at kb;cases hi:rN o.en with
  |false=>
   rw[hi]at q;simp[Au,Av,Qu,Qd,Qh,Ql,a1,a2,a3,a4,a5,a6,k1,b1,b2,jO];exact q
  |true=>
   rw[hi]at q;simp[Au,Av,Qu,Qd,Qh,Ql,a1,a2,a3,a4,a5,a6,k1,b1,b2,jO];exact⟨q,kb⟩
 by_cases k2:o.ki=2
 ·have c1:¬(o.ki<1\/5<o.ki):=zE
  rw[if_neg c1,if_neg zE];have q:=Kw o.en;have hk:okB o=rN o.en:=by rw[okB,if_neg k1,if_pos k2]
  have hr:Yp o={o with en:=0}:=by rw[Yp,if_neg k1,if_pos k2]
  rw[hr]at kb |-
  rw[hk];simp only[Qu,Qd,Qh,Ql,k2,zzae,zzaj]at kb;try simp only[Qd,Qh,Ql]at q
  cases hi:rN o.en with
  |false=>
   rw[hi]at q;simp[Au,Av,Qu,Qd,Qh,Ql,a1,a2,a3,a4,a5,a6,k2,jO];exact q
  |true=>
   rw[hi]at q;simp[Au,Av,Qu,Qd,Qh,Ql,a1,a2,a3,a4,a5,a6,k2,jO];exact⟨q,kb⟩
 by_cases k3:o.ki=3
 ·have c1:¬(o.ki<1\/5<o.ki):=zE
  rw[if_neg c1,if_neg zE];have q:=uf o.nw hl;have hk:okB o=nR o.nw:=by rw[okB,if_neg k1,if_neg k2,if_pos k3]
  have hr:Yp o={o with nw:=Ah}:=by rw[Yp,if_neg k1,if_neg k2,if_pos k3]
  rw[hr]at kb |-
  rw[hk];simp only[Qu,Qd,Qh,Ql,k3,Ah,zzcu,zzae,zzaj]at kb;have kb:=Xp (l:=[.agg [I o.sq,I o.ch,I o.fr,I 3,I o.en,I o.n,I 0,I 0,I 0,I 0,I 0,I 0,.sl .nil [],I o.cl.ki,I o.cl.it,I o.cl.fr,I o.cl.to,I o.cl.re,I o.cl.n,I o.cl.a,I o.cl.b,I o.cu.id,I o.cu.fr,I o.cu.to,I o.cu.pr,.str o.cu.tx]]) kb ⟨Qch ⟨Pa,Pa,Pa,Pa,Pa,Pa,Pa,Pa,Pa,Pa,Pa,Pa,Wk.sl _ _,Pa,Pa,Pa,Pa,Pa,Pa,Pa,Pa,Pa,Pa,Pa,Pa,Pa,trivial⟩,trivial⟩;try simp only[Qd]at q
  cases hi:nR o.nw with
  |false=>
   rw[hi]at q;simp[Au,Av,Qu,Qd,Qh,Ql,a1,a2,a3,a4,a5,a6,k3,jO];exact q
  |true=>
   rw[hi]at q;simp[Au,Av,Qu,Qd,Qh,Ql,a1,a2,a3,a4,a5,a6,k3,jO,Ah];exact⟨q,kb⟩
 by_cases k4:o.ki=4
 ·have c1:¬(o.ki<1\/5<o.ki):=zE
  rw[if_neg c1,if_neg zE];have q:=Kq o.cl;have hk:okB o=Xv o.cl:=by rw[okB,if_neg k1,if_neg k2,if_neg k3,if_pos k4]
  have hr:Yp o={o with cl:=BM}:=by rw[Yp,if_neg k1,if_neg k2,if_neg k3,if_pos k4]
  rw[hr]at kb |-
  rw[hk];simp only[Qu,Qd,Qh,Ql,k4,BM,zzae,zzaj]at kb;try simp only[Qh]at q
  cases hi:Xv o.cl with
  |false=>
   rw[hi]at q;simp[Au,Av,Qu,Qd,Qh,Ql,a1,a2,a3,a4,a5,a6,k4,jO];exact q
  |true=>
   rw[hi]at q;simp[Au,Av,Qu,Qd,Qh,Ql,a1,a2,a3,a4,a5,a6,k4,jO,BM];exact⟨q,kb⟩
 by_cases k5:o.ki=5
 ·have c1:¬(o.ki<1\/5<o.ki):=zE
  rw[if_neg c1,if_neg zE];have q:=tf o.cu;have hk:okB o=BL o.cu:=by rw[okB,if_neg k1,if_neg k2,if_neg k3,if_neg k4]
  have hr:Yp o={o with cu:=BN}:=by rw[Yp,if_neg k1,if_neg k2,if_neg k3,if_neg k4]
  rw[hr]at kb |-
  rw[hk];simp only[Qu,Qd,Qh,Ql,k5,BN,zzae,zzaj]at kb;simp only[Ql]at q;cases hi:BL o.cu with
  |false=>
   rw[hi]at q;simp[Au,Av,Qu,Qd,Qh,Ql,a1,a2,a3,a4,a5,a6,k5,jO];exact q
  |true=>
   rw[hi]at q;simp[Au,Av,Qu,Qd,Qh,Ql,a1,a2,a3,a4,a5,a6,k5,jO,BN];exact⟨q,kb⟩
 rw[if_pos zE];simp[Au,Av,Qu,Qd,Qh,Ql,a1,a2,a3,a4,a5,a6,k1,k2,k3,k4,k5]
def Jv(g:Pg)(o:Od):Bool:=Xm o&&(decide (o.ch= -1)||decide (o.ch=g.p.ch))
def tg(g:Pg)(o:Od)(hl:o.nw.al.length<=8796093022208):Pure Tryz.prog aD 53 [.agg (Qo g),.agg (Qu o)] (.bool (Jv g o)):=by
 have k:=Jt o hl;simp only[Qu,Qd,Qh,Ql,zzae,zzaj]at k;refine Qn akA (fun _ _ _=>.bool (Xm o)) zd ?_;cases hv:Xm o with
 |false=>
  rw[hv]at k;simp[abQ,abR,Qo,Qa,Qu,Qd,Qh,Ql,hv,Jv];exact k
 |true=>
  rw[hv]at k;by_cases h1:o.ch= -1
  ·simp[abQ,abR,Qo,Qa,Qu,Qd,Qh,Ql,hv,Jv,h1];rw[h1]at k;exact k
  simp[abQ,abR,Qo,Qa,Qu,Qd,Qh,Ql,hv,Jv,h1];refine⟨k,?_⟩;rw[zzcs];simp[h1]
def Ur{α:Type}(P:α->Bool):List α->Nat->Int
 |[],_=> -1
 |x::r,i=>if P x=true then i else Ur P r (i+1)
def Qcz{α:Type}{P:α->Bool}:∀{L:List α}{i:Nat},L.find? P=none->Ur P L i= -1
 |[],_,_=>rfl
 |a::r,i,h=>by
  rw[zzfi]at h;split at h
  ·cases h
  rename_i hn;rw[Ur,if_neg (by simp[hn])];exact Qcz h
def Ky{α:Type}{P:α->Bool}{a:α}:∀{L:List α}{i:Nat},L.find? P=some a->∃k:Nat,Ur P L i=((i+k:Nat):Int)/\L[k]?=some a/\P a=true
 |[],_,h=>by cases h
 |b::r,i,h=>by
  rw[zzfi]at h;split at h
  ·rename_i hb;cases h;exact⟨0,by simp[Ur,hb],rfl,hb⟩
  rename_i hn;obtain⟨k,h1,h2,h3⟩:=Ky (i:=i+1) h;exact⟨k+1,by rw[Ur,if_neg (by simp[hn]),h1];omega,Pi h2,h3⟩
def yj(L:List bJ)(P:bJ->Bool)(k:FuncId)(first cap:PQ)(hl:L.length<=1000000000)(h1:∀m,first.map (bE m 6)=first)(h2:∀m,cap.map (bE m 6)=cap)
  (hp:∀e∈L,Pure Tryz.prog aD k (first++.agg (Qf e)::cap) (.bool (P e)))(orc:X1)(ho:∀d e,e∈L->orc d k (first++.agg (Qf e)::cap)=.bool (P e)):
  Pure Tryz.prog aD 59 [.sl .ro (L.map Qf),.fn k first cap] (I (Ur P L 0)):=by
 refine Qn Tk orc zd ?_;simp[akG];refine Qj sA (fun f m=>∃i:Nat,f 8=I i/\i<=L.length/\Ur P (L.drop i) i=Ur P L 0/\m=⟨[],[],fun _=>.gone,0⟩) (fun f _=>L.length-(numOf (f 8)).toNat) ?_ ?_
 ·exact⟨0,zd,zE,zd,rfl⟩
 rintro f m ⟨i,f8,hi,hr,rfl⟩;rcases zzab i L.length with aa|bu
 ·obtain⟨a,ha⟩:=aY aa;have ai:Qg (L.map Qf) i=Qf a:=Qv (by simp[ha]);have ah:(i:Int)<(L.length:Int):=zE
  have hw:=bR i zE;have hd:L.drop i=a::L.drop (i+1):=by rw[zzaf aa,(zza.1 ha).2]
  have kz:=hp a (zzac ha);have ZQ:=fun d=>ho d a (zzac ha);rw[hd,Ur]at hr;simp only[Qf]at kz ZQ;cases hP:P a with
  |true=>
   rw[hP]at kz ZQ;rw[if_pos hP]at hr;simp[f8,sA,abV,ah,ai,Qf,h1,h2,ZQ];exact⟨kz,hr⟩
  |false=>
   rw[hP]at kz ZQ;rw[if_neg (by simp[hP])]at hr;simp[f8,sA,ah,ai,Qf,h1,h2,ZQ,hw];refine⟨kz,aR,⟨i+1,zd,zE,hr⟩,zE⟩
 obtain rfl:i=L.length:=zE
 rw[zzbx,Ur]at hr;simp[f8,sA,abV];exact hr
def Ry(e:bJ)(f:Int)(h:Ki e)(hf:nT f):Pure Tryz.prog aD 198 [.agg [I f],.agg (Qf e)] (.bool (xW f e)):=by
 refine Qn adk (fun _ _ _=>.junk) zd ?_;obtain⟨⟨a1,a2⟩,⟨a3,a4⟩,_⟩:=h;obtain⟨a5,a6⟩:=hf;by_cases h1:e.st<=f
 ·have w1:=wu e.st zE zE;have w2:=wu f zE zE;have w3:=wu (f-e.st) zE zE;have w4:=wu e.fr zE zE;by_cases h2:0<e.fr
  ·have:(f-e.st<e.fr)=(f<e.st+e.fr):=by apply propext;omega
   simp[Nq,Nr,Qf,h1,h2,xW,w1,w2,w3,w4,this]
  have:¬f<e.st+e.fr:=zE
  simp[Nq,Nr,Qf,h1,h2,xW,this]
 simp[Nq,Nr,Qf,h1,xW]
def LU(e:bJ)(row:PQ)(id:Int):Pure Tryz.prog aD 199 [.agg (Qf e),.ep (I id::row) 0] (.bool (decide (e.id=id))):=by
 refine Qn adl (fun _ _ _=>.junk) zd ?_;simp[ah2,ah3,Qf];rw[zzcs];simp
def th(n:Int):Prop:= -9223372036854775808<=n/\n<=9223372036854775807
def Hi(L:List En)(P:En->Bool)(k:FuncId)(first cap:PQ)(hl:L.length<=1000000000)(h1:∀m,first.map (bE m 6)=first)(h2:∀m,cap.map (bE m 6)=cap)
  (hp:∀e∈L,Pure Tryz.prog aD k (first++.agg (Qd e)::cap) (.bool (P e)))(orc:X1)(ho:∀d e,e∈L->orc d k (first++.agg (Qd e)::cap)=.bool (P e)):
  Pure Tryz.prog aD 160 [.sl .ro (L.map Qd),.fn k first cap] (I (Ur P L 0)):=by
 refine Qn CD orc zd ?_;simp[Ni];refine Qj fF (fun f m=>∃i:Nat,f 8=I i/\i<=L.length/\Ur P (L.drop i) i=Ur P L 0/\m=⟨[],[],fun _=>.gone,0⟩) (fun f _=>L.length-(numOf (f 8)).toNat) ?_ ?_
 ·exact⟨0,zd,zE,zd,rfl⟩
 rintro f m ⟨i,f8,hi,hr,rfl⟩;rcases zzab i L.length with aa|bu
 ·obtain⟨a,ha⟩:=aY aa;have ai:Qg (L.map Qd) i=Qd a:=Qv (by simp[ha]);have ah:(i:Int)<(L.length:Int):=zE
  have hw:=bR i zE;have hd:L.drop i=a::L.drop (i+1):=by rw[zzaf aa,(zza.1 ha).2]
  have kz:=hp a (zzac ha);have ZQ:=fun d=>ho d a (zzac ha);rw[hd,Ur]at hr;simp only[Qd]at kz ZQ;cases hP:P a with
  |true=>
   rw[hP]at kz ZQ;rw[if_pos hP]at hr;simp[f8,fF,AL,ah,ai,Qd,h1,h2,ZQ];exact⟨kz,hr⟩
  |false=>
   rw[hP]at kz ZQ;rw[if_neg (by simp[hP])]at hr;simp[f8,fF,ah,ai,Qd,h1,h2,ZQ,hw];refine⟨kz,aR,?_⟩
   ·exact⟨⟨i+1,zd,zE,hr⟩,zE⟩
 obtain rfl:i=L.length:=zE
 rw[zzbx,Ur]at hr;simp[f8,fF,AL];exact hr
def Hj(e:En)(id:Int):Pure Tryz.prog aD 195 [.agg (Qd e),.ep [I id] 0] (.bool (decide (e.id=id))):=by
 refine Qn adj (fun _ _ _=>.junk) zd ?_;simp[ah0,ah1,Qd];rw[zzcs];simp
def Qq(g:Pg)(f:Int)(mid:Nat):PQ:=Qo g++[I f,.mp mid]
def Ja(g:Pg)(id:Int):Int:=Ur (fun e:En=>decide (e.id=id)) g.p.ens 0
def Rz(Y:YT)(m:AM)(g:Pg)(f:Int)(mid:Nat)(id:Int)(hl:g.p.ens.length<=1000000000):aA Tryz.prog aD Y 153 [.agg (Qq g f mid),I id] m (fun r m'=>m'=m/\r=I (Ja g id)):=by
 obtain⟨mb,ml,ms,mn⟩:=m;have k:=Hi g.p.ens (fun e:En=>decide (e.id=id)) 195 [] [.ep [I id] 0] hl (fun _=>rfl) (fun _=>zd) (fun e _=>Hj e id) (fun _ _ xs=>match xs with|.agg (.int _ n::_)::_=>.bool (decide (n=id))|_=>.junk) (fun _ e _=>rfl);refine aA.read (Xh acL (fun _ _ _=>I (Ja g id)) zd ?_);simp[ahy,ahz,Qq,Qo,Qa,Ja];exact⟨k,.int _ _⟩
def nU{p:Prop}(h:p:=by repeat'(first|exact Idle.int _ _|exact Idle.bool _|exact Idle.str _|exact Idle.ro _|exact Idle.nil _|exact Idle.full _|exact List.forall_mem_nil _|refine List.forall_mem_cons.2 ⟨?_,?_⟩|refine Idle.aQ ?_|refine Idle.agg ?_)):p:=h
def gm(bx:X2)(mid:Nat)(b:QP):Prop:=mid<bx.length/\Qg bx mid=[.aL 0 (bF .bool b)]
def gm.ext{bx:X2}{mid:Nat}{b:QP}(h:gm bx mid b)(ex:X2):Qg (bx++ex) mid=[.aL 0 (bF .bool b)]:=by rw[Qk h.1,h.2]
def zy(b:QP)(id:Int):Bool:=(af id b).getD false
def Jf(g:Pg)(f:Int)(b:QP):Option bJ:=match g.ev.find? (xW f)with
 |none=>none
 |some e=>if e.id=0 then none else if zy b e.id=true then some e else none
def rP(g:Pg)(id:Int):Int:=match g.ev.find? (fun e=>decide (e.id=id))with
 |none=>0
 |some e=>e.st
def uW(f:Int)(e:bJ):bJ:={e with st:=f,fr:=e.fr-(f-e.st),i:=e.i+(f-e.st)}
def Um(g:Pg)(f:Int)(b:QP):AV:=match Jf g f b with
 |none=>.aQ [.agg [I 0,I 0,I 0,I 0,I 0,I 0,.sl .nil []],I 0,.bool false]
 |some e=>.aQ [.agg (Qf (uW f e)),I (rP g e.id),.bool true]
def ZR(Y:YT)(m:AM)(g:Pg)(f:Int)(mid:Nat)(b:QP)(hl:g.ev.length<=1000000000)(hs:∀e∈g.ev,Ki e)(hf:nT f)(hb:gm m.boxes mid b):
  aA Tryz.prog aD Y 165 [.agg (Qq g f mid)] m (fun r m'=>m'=m/\r=Um g f b):=by
 obtain⟨mb,ml,ms,mn⟩:=m;have hB:∀ex,Qg (mb++ex) mid=[.aL 0 (bF .bool b)]:=hb.ext;have hN:∀n:Nat,¬(n:Int)<0:=fun n=>zE
 have k1:=yj g.ev (xW f) 198 [.agg [I f]] [] hl (fun _=>zd) (fun _=>zd) (fun e he=>Ry e f (hs e he) hf) (fun _ _ xs=>match xs with|[_,.agg [_,_,.int _ st,.int _ fr,_,_,_]]=>.bool (xW f ⟨0,0,st,fr,0,0,[],false⟩)|_=>.junk) (fun _ e _=>rfl)
 have k2:∀(row:PQ)(id:Int),Pure Tryz.prog aD 59 [.sl .ro (g.ev.map Qf),.fn 199 [] [.ep (I id::row) 0]] (I (Ur (fun e=>decide (e.id=id)) g.ev 0)):=fun row id=>
  yj g.ev (fun e=>decide (e.id=id)) 199 [] [.ep (I id::row) 0] hl (fun _=>zd) (fun _=>zd) (fun e _=>LU e row id) (fun _ _ xs=>match xs with|.agg (.int _ n::_)::_=>.bool (decide (n=id))|_=>.junk) (fun _ e _=>rfl)
 cases h1:g.ev.find? (xW f)with
 |none=>
  rw[Qcz h1]at k1;refine aA.read (Xh Nj (fun _ _ _=>I (-1)) zd ?_);simp[AN,AO,Qq,Qo,Qa,Um,Jf,h1];exact⟨k1,nU⟩
 |some e=>
  obtain⟨n,g1,g2,g3⟩:=Ky (i:=0) h1;have k2':=k2;have hn:n<g.ev.length:=(zza.1 g2).1;have iB:=zzac g2
  have hex:(g.ev.find? fun e'=>decide (e'.id=e.id)).isSome=true:=by
   rw[List.find?_isSome];exact⟨e,iB,zd⟩
  obtain⟨e2,ZS⟩:=zzcg.1 hex;obtain⟨n2,q1,q2,q3⟩:=Ky (i:=0) ZS;have eP:n2<g.ev.length:=(zza.1 q2).1;rw[g1,zzbm]at k1;have r1:Qg (g.ev.map Qf) n=Qf e:=Qv (by simp[g2]);have r2:Qg (g.ev.map Qf) n2=Qf e2:=Qv (by simp[q2]);have qD:(n:Int)<(g.ev.length:Int):=zE
  have axT:(n2:Int)<(g.ev.length:Int):=zE
  obtain⟨⟨a1,a2⟩,⟨a3,a4⟩,⟨a5,a6⟩,_⟩:=hs e iB;obtain⟨f1,f2⟩:=hf;have hon:e.st<=f/\f<e.st+e.fr:=by simpa[xW]using g3
  have w1:IntKind.i64.wrap (f-e.st)=f-e.st:=by rw[Qi]<;>omega
  have w2:IntKind.i64.wrap (e.fr-(f-e.st))=e.fr-(f-e.st):=by rw[Qi]<;>omega
  have w3:IntKind.i64.wrap (e.i+(f-e.st))=e.i+(f-e.st):=by rw[Qi]<;>omega
  refine aA.read (Xh Nj (fun d _ _=>if d=15 then I n else I n2) zd ?_);have aM:e2.id=e.id:=by simpa using q3
  by_cases h0:e.id=0
  ·simp[AN,AO,Qq,Qo,Qa,Um,Jf,h1,Qf,qD,r1,h0];exact⟨k1,nU⟩
  rcases Xu AV.bool e.id b 0 with⟨b1,b2,_⟩|⟨u,u',b1,b2,_⟩
  ·simp[AN,AO,Qq,Qo,Qa,Um,Jf,h1,Qf,qD,r1,h0,zy,b1,b2,hB,hN];exact⟨k1,nU⟩
  cases u with
  |false=>
   simp[AN,AO,Qq,Qo,Qa,Um,Jf,h1,Qf,qD,r1,h0,zy,b1,b2,hB,hN];exact⟨k1,nU⟩
  |true=>
   have k2:=k2 [I e.it,I e.st,I e.fr,I e.i,I e.re,.sl .ro (e.al.map Qe)] e.id;rw[q1,zzbm]at k2;simp[AN,AO,Qq,Qo,Qa,Um,Jf,h1,Qf,qD,r1,h0,zy,b1,b2,hB,hN,w1,w2,w3,uW,rP,ZS];refine⟨k1,k2,Ui ?_⟩;simp[axT,r2,Qf];exact nU
def Un(p:Pl)(V:AV):PQ:=[I p.ch,I p.nu,I p.de,I p.of,.sl .ro (p.sh.map Qe),I p.ep,I p.rg,I p.ln,I p.fi,.sl .ro (p.aO.map Qm),V,.sl .ro (p.bks.map Xk),.sl .ro (p.cls.map Qh)]
def ajp(p:Pl)(mb:X2)(ml:P1)(ms:Nat->LS)(mn:Nat)(m0:PQ)(f:Nat->AV)(m:AM):Prop:=∃(i:Nat)(bx:X2),f 22=I i/\i<=p.ens.length/\m=⟨mb++(Un p (.bs (mb.length+2) 0 p.ens.length 7)::m0::(p.ens.map Qd).flatten::bx),ml,ms,mn⟩
def yl(Y:YT)(m:AM)(p:Pl)(h:BI p)(hn:p.ens≠[])(K:UV)
  (hK:∀c0 c1 bx,K (.agg (Un p (.bs (m.boxes.length+2) 0 p.ens.length 7))) {m with boxes:=m.boxes++(c0::c1::(p.ens.map Qd).flatten::bx)}):aA Tryz.prog aD Y 50 [.agg (Qa p)] m K:=by
 obtain⟨mb,ml,ms,mn⟩:=m;obtain⟨h1,h2,h3,h4,h5,h6⟩:=h;have k1:=p9 p.sh zE;have k2:=qb p.aO zE;have k4:=qc p.bks zE;have k5:=DN p.cls zE;have hsz:=kZ (f:=Qd) (sz:=7) (fun _=>rfl) p.ens;refine Xh vi (Kb p) zd ?_;have aJ:p.ens.map Qd≠[]:=by simpa using hn
 simp[Jx,Qa,Kb,hn];refine⟨k1,k2,yb _ _ hsz (by simpa using by omega) aJ _ _ ?_⟩;simp;obtain⟨F,hF⟩:∃F,(p.ens.map Qd).flatten=F:=⟨_,rfl⟩;have hFl:F.length=p.ens.length*7:=by rw[<- hF,jM hsz];simp
 have ck:Zl F=true:=by rw[<- hF];exact kY (fun _=>rfl) _
 have hmp:∀m,F.map (bE m 4)=F:=fun m=>Vd m 3 ck;rw[hF]at hK |-
 refine Qj eM (ajp p mb ml ms mn [I 0,I 0,I 0,I 0,.sl .nil [],I 0,I 0,I 0,I 0,.sl .nil [],.sl .nil [],.sl .nil [],.sl .nil []]) (fun f _=>p.ens.length-(numOf (f 22)).toNat) ?_ ?_
 ·exact⟨0,[],zd,zE,by rw[hF];simp[Un]⟩
 rintro f m ⟨i,bx,f22,hi,rfl⟩;rw[hF];rcases zzab i p.ens.length with aa|bu
 ·obtain⟨e,he⟩:=aY aa;have ah:(i:Int)<(p.ens.length:Int):=zE
  have hw:=bR i zE;obtain⟨⟨r,hd⟩,cc⟩:=uV hsz (i:=i) (row:=Qd e) (by simp[he]);rw[hF]at hd cc;simp only[Qd,zzae,zzaj]at hd cc;have G7:=Wj e (h6 e (zzac he));simp only[Qd]at G7;simp[-setA,jK,jL,f22,eM,ah,hd,cc,hFl,hw,Kb,Un];refine⟨G7,zE,aR,⟨i+1,bx++[[I e.id,I e.it,I e.fr,I e.ea,I e.la,I e.bo,.sl .ro (e.al.map Qe)]],zd,zE,by rw[hF];simp[Un]⟩,zE⟩
 obtain rfl:i=p.ens.length:=zE
 simp[f22,eM,JA,Kb,Un];simp[Un]at hK;exact⟨k4,k5,hK _ _ _⟩
def lR(g:Pg)(f:Int):Prop:=g.ev.length<=1000000000/\(∀e∈g.ev,Ki e)/\nT f/\g.p.ens.length<=1000000000
def LV(Y:YT)(m:AM)(g:Pg)(f:Int)(mid:Nat)(id:Int)(h:lR g f)(K:UV)(hK:K (I (Ja g id)) m):aA Tryz.prog aD Y 153 [.agg (Qq g f mid),I id] m K:=
 aA.mono (Rz Y m g f mid id h.2.2.2) (by rintro r m' ⟨rfl,rfl⟩;exact hK)
def ajq(Y:YT)(m:AM)(g:Pg)(f:Int)(mid:Nat)(b:QP)(h:lR g f)(hb:gm m.boxes mid b)(K:UV)(hK:K (Um g f b) m):aA Tryz.prog aD Y 165 [.agg (Qq g f mid)] m K:=
 aA.mono (ZR Y m g f mid b h.1 h.2.1 h.2.2.1 hb) (by rintro r m' ⟨rfl,rfl⟩;exact hK)
def BO(g:Pg)(f:Int)(b:QP)(id:Int):Option Int:=match Jf g f b with
 |none=>none
 |some e=>if e.id=id then some (rP g e.id)else none
def RA(o:Option Int):AV:=.aQ [I (o.getD 0),.bool o.isSome]
def afp(Y:YT)(m:AM)(g:Pg)(f:Int)(mid:Nat)(b:QP)(id:Int)(h:lR g f)(hb:gm m.boxes mid b):
  aA Tryz.prog aD Y 155 [.agg (Qq g f mid),I id] m (fun r m'=>m'=m/\r=RA (BO g f b id)):=by
 obtain⟨mb,ml,ms,mn⟩:=m;have hB:∀ex,gm (mb++ex) mid b:=fun ex=>⟨by have:=hb.1;simp at this |-;omega,hb.ext ex⟩;have k:=fun ex K hK=>ajq Y ⟨mb++ex,ml,ms,mn⟩ g f mid b h (hB ex) K hK;simp only[Qq,Qo,Qa,zzae,zzaj]at k;refine aA.read (Xh acN (fun _ _ _=>.gd false .junk) zd ?_);simp[ahA,ahB,Qq,Qo,Qa];refine k _ _ ?_;cases hp:Jf g f b with
 |none=>
  simp[Um,hp,BO,RA];exact nU
 |some e=>
  by_cases hi:e.id=id
  ·simp[Um,hp,BO,RA,Qf,uW,hi];exact nU
  simp[Um,hp,BO,RA,Qf,uW,hi];exact nU
def amz(Y:YT)(m:AM)(g:Pg)(f:Int)(mid:Nat)(b:QP)(id:Int)(h:lR g f)(hb:gm m.boxes mid b)(K:UV)(hK:K (RA (BO g f b id)) m):aA Tryz.prog aD Y 155 [.agg (Qq g f mid),I id] m K:=
 aA.mono (afp Y m g f mid b id h hb) (by rintro r m' ⟨rfl,rfl⟩;exact hK)
def DT(g:Pg)(f:Int)(b:QP)(id:Int):Bool:=zy b id&&!(BO g f b id).isSome
def afq(Y:YT)(m:AM)(g:Pg)(f:Int)(mid:Nat)(b:QP)(id:Int)(h:lR g f)(hb:gm m.boxes mid b):
  aA Tryz.prog aD Y 157 [.agg (Qq g f mid),I id] m (fun r m'=>m'=m/\r=.bool (DT g f b id)):=by
 obtain⟨mb,ml,ms,mn⟩:=m;have hB:∀ex,gm (mb++ex) mid b:=fun ex=>⟨by have:=hb.1;simp at this |-;omega,hb.ext ex⟩;have hR:∀ex,Qg (mb++ex) mid=[.aL 0 (bF .bool b)]:=hb.ext;have k:=fun ex K hK=>amz Y ⟨mb++ex,ml,ms,mn⟩ g f mid b id h (hB ex) K hK;simp only[Qq,Qo,Qa,zzae,zzaj]at k;refine aA.read (Xh acP (fun _ _ _=>.gd false .junk) zd ?_);simp[ahC,ahD,Qq,Qo,Qa];refine k _ _ ?_;rcases Xu AV.bool id b 0 with⟨b1,b2,_⟩|⟨u,u',b1,b2,_⟩
 ·simp[RA,DT,zy,b1,b2,hR];exact nU
 cases u<;>simp[RA,DT,zy,b1,b2,hR]<;>exact nU
def asL(Y:YT)(m:AM)(g:Pg)(f:Int)(mid:Nat)(b:QP)(id:Int)(h:lR g f)(hb:gm m.boxes mid b)(K:UV)(hK:K (.bool (DT g f b id)) m):aA Tryz.prog aD Y 157 [.agg (Qq g f mid),I id] m K:=
 aA.mono (afq Y m g f mid b id h hb) (by rintro r m' ⟨rfl,rfl⟩;exact hK)
def Vv(n:Int):Int:=max (-9223372036854775808) (min 9223372036854775807 n)
def RB(a b:Int)(ha:th a)(hb:th b):Pure Tryz.prog aD 154 [I a,I b] (I (Vv (a+b))):=by
 refine Qn acM (fun _ _ _=>.junk) zd ?_;unfold th at ha hb;by_cases c1:0<b
 ·have w1:IntKind.i64.wrap (9223372036854775807-b)=9223372036854775807-b:=by rw[Qi]<;>omega
  have c2:¬b<0:=zE
  by_cases d1:9223372036854775807-b<a
  ·have:Vv (a+b)=9223372036854775807:=by unfold Vv;omega
   simp[AH,AI,c1,d1,w1,this]
  have w:IntKind.i64.wrap (a+b)=a+b:=by rw[Qi]<;>omega
  have:Vv (a+b)=a+b:=by unfold Vv;omega
  simp[AH,AI,c1,c2,d1,w,w1,this]
 by_cases c2:b<0
 ·have w2:IntKind.i64.wrap (-9223372036854775808-b)= -9223372036854775808-b:=by rw[Qi]<;>omega
  by_cases d1:a< -9223372036854775808-b
  ·have:Vv (a+b)= -9223372036854775808:=by unfold Vv;omega
   simp[AH,AI,c1,c2,d1,w2,this]
  have w:IntKind.i64.wrap (a+b)=a+b:=by rw[Qi]<;>omega
  have:Vv (a+b)=a+b:=by unfold Vv;omega
  simp[AH,AI,c1,c2,d1,w,w2,this]
 have w:IntKind.i64.wrap (a+b)=a+b:=by rw[Qi]<;>omega
 have:Vv (a+b)=a+b:=by unfold Vv;omega
 simp[AH,AI,c1,c2,w,this]
def Qea(a b:Int)(ha:th a)(hb:th b):Pure Tryz.prog aD 156 [I a,I b] (I (Vv (a-b))):=by
 refine Qn acO (fun _ _ _=>.junk) zd ?_;unfold th at ha hb;by_cases c1:b<0
 ·have w1:IntKind.i64.wrap (9223372036854775807+b)=9223372036854775807+b:=by rw[Qi]<;>omega
  have c2:¬0<b:=zE
  by_cases d1:9223372036854775807+b<a
  ·have:Vv (a-b)=9223372036854775807:=by unfold Vv;omega
   simp[AJ,AK,c1,d1,w1,this]
  have w:IntKind.i64.wrap (a-b)=a-b:=by rw[Qi]<;>omega
  have:Vv (a-b)=a-b:=by unfold Vv;omega
  simp[AJ,AK,c1,c2,d1,w,w1,this]
 by_cases c2:0<b
 ·have w2:IntKind.i64.wrap (-9223372036854775808+b)= -9223372036854775808+b:=by rw[Qi]<;>omega
  by_cases d1:a< -9223372036854775808+b
  ·have:Vv (a-b)= -9223372036854775808:=by unfold Vv;omega
   simp[AJ,AK,c1,c2,d1,w2,this]
  have w:IntKind.i64.wrap (a-b)=a-b:=by rw[Qi]<;>omega
  have:Vv (a-b)=a-b:=by unfold Vv;omega
  simp[AJ,AK,c1,c2,d1,w,w2,this]
 have w:IntKind.i64.wrap (a-b)=a-b:=by rw[Qi]<;>omega
 have:Vv (a-b)=a-b:=by unfold Vv;omega
 simp[AJ,AK,c1,c2,w,this]
def asM:PQ->AV
 |[.int _ x,.int _ y]=>I (Vv (x-y))
 |_=>.junk
def Qdo(n:Int):th (Vv n):=by unfold th Vv;omega
def LW:∀{ens:List En}{i:Nat}{e:En},ens[i]?=some e->∃pre r:PQ,pre.length=i*7/\(ens.map Qd).flatten=pre++(Qd e++r)/\∀e',((ens.set i e').map Qd).flatten=pre++(Qd e'++r)
 |[],i,e,h=>by simp at h
 |a::r,0,e,h=>by
  simp at h;subst h;exact⟨[],(r.map Qd).flatten,rfl,zd,fun e'=>zd⟩
 |a::r,i+1,e,h=>by
  obtain⟨pre,s,h1,h2,h3⟩:=LW (ens:=r) (i:=i) (e:=e) (Pi h);exact⟨Qd a++pre,s,by simp[Qd,h1];omega,by simp[h2],fun e'=>by have:=h3 e';simp only[zzdz,zzay,zzci,this,zzaz]⟩
def BP(pre X Y:PQ)(n:Nat)(k:Nat)(h:pre.length=n):setA (pre++X) (n+k) Y=pre++setA X k Y:=by
 subst h;induction pre with
 |nil=>simp
 |cons a r ih=>rw[zzae,zzav,show r.length+1+k=r.length+k+1 by omega,ya,ih];rfl
def BQ(pre X:PQ)(n:Nat)(k:Nat)(h:pre.length=n):(pre++X).drop (n+k)=X.drop k:=by
 subst h;simp[List.drop_append]
def Xo(p:Pl)(V W:AV)(d:Int):PQ:=[I p.ch,I p.nu,I p.de,I p.of,.sl .ro (p.sh.map Qe),I p.ep,I p.rg,I p.ln,I p.fi,.sl .ro (p.aO.map Qm),V,.sl .ro (p.bks.map Xk),W,I d]
def uX:PQ:=[I 0,I 0,I 0,I 0,.sl .nil [],I 0,I 0,I 0,I 0,.sl .nil [],.sl .nil [],.sl .nil [],.sl .nil [],I 0]
def ug(g:Pg)(f:Int)(b:QP)(o:Od)(e:En):Int:=match BO g f b o.en with
 |none=>Vv (e.fr+o.n)
 |some st=>if Vv (e.fr+o.n)<Vv (f-st)then Vv (f-st)else Vv (e.fr+o.n)
def RC(g:Pg)(f:Int)(b:QP)(o:Od)(e:En):En:={e with fr:=ug g f b o e,la:=if Vv (g.p.ln-ug g f b o e)<e.la then Vv (g.p.ln-ug g f b o e)else e.la}
def rQ(g:Pg)(f:Int)(b:QP)(o:Od):Option (Pl×Int):=match g.p.ens[(Ja g o.en).toNat]? with
 |none=>none
 |some e=>if Ja g o.en<0 then none else some ({g.p with ens:=g.p.ens.set (Ja g o.en).toNat (RC g f b o e)},ug g f b o e)
def DU{g:Pg}{f:Int}(h:lR g f)(id:Int):0<=rP g id/\rP g id<=1000000:=by
 unfold rP;cases hf:g.ev.find? (fun e=>decide (e.id=id))with
 |none=>simp
 |some e=>exact(h.2.1 e (zzee hf)).1
def afr(Y:YT)(m:AM)(g:Pg)(f:Int)(mid:Nat)(b:QP)(o:Od)(h:lR g f)(hp:BI g.p)(hb:gm m.boxes mid b)(hn:th o.n)(ei:th g.p.ln)(hes:∀e∈g.p.ens,th e.fr)(K:UV)
  (h0:rQ g f b o=none->∀ex,K (.aQ [.agg uX,.bool false]) {m with boxes:=m.boxes++ex})
  (h1:∀q d,rQ g f b o=some (q,d)->∀ex k,m.boxes.length<=k->k<(m.boxes++ex).length->Qg (m.boxes++ex) k=(q.ens.map Qd).flatten->K (.aQ [.agg (Xo q (.bs k 0 q.ens.length 7) (.sl .ro (q.cls.map Qh)) d),.bool true]) {m with boxes:=m.boxes++ex}):
  aA Tryz.prog aD Y 102 [.agg (Qq g f mid),.agg (Qu o)] m K:=by
 obtain⟨mb,ml,ms,mn⟩:=m;have hB:∀ex,gm (mb++ex) mid b:=fun ex=>⟨by have:=hb.1;simp at this |-;omega,hb.ext ex⟩;have kp:=fun ex K hK=>LV Y ⟨mb++ex,ml,ms,mn⟩ g f mid o.en h K hK;have ki:=fun ex K hK=>amz Y ⟨mb++ex,ml,ms,mn⟩ g f mid b o.en h (hB ex) K hK;simp only[Qq,Qo,Qa,zzae,zzaj]at kp ki;cases hf:g.p.ens.find? (fun e=>decide (e.id=o.en))with
 |none=>
  have kK:Ja g o.en= -1:=Qcz hf
  have hx:rQ g f b o=none:=by
   unfold rQ;rw[kK];split
   ·rfl
   simp
  refine Xh M0 (fun _ _ _=>.gd false .junk) zd ?_;simp[Tx,Ty,Qq,Qo,Qa,Qu,Qd,Qh,Ql];refine kp _ _ ?_;simp[kK];have:=h0 hx;simp[uX]at this;exact this _
 |some e=>
  obtain⟨n,g1,g2,g3⟩:=Ky (i:=0) hf;have kK:Ja g o.en=(n:Int):=by unfold Ja;rw[g1];omega
  have aa:n<g.p.ens.length:=(zza.1 g2).1;have aJ:g.p.ens≠[]:=by rintro e0;rw[e0]at aa;simp at aa
  have A2:¬(n:Int)<0:=zE
  have bK:(n:Int)<(g.p.ens.length:Int):=zE
  have hx:rQ g f b o=some ({g.p with ens:=g.p.ens.set n (RC g f b o e)},ug g f b o e):=by
   unfold rQ;rw[kK];simp[g2,A2]
  obtain⟨pre,r,q1,q2,q3⟩:=LW g2;have hd:=fun X k=>BQ pre X (n*7) k q1;have cc:=fun X Y k=>BP pre X Y (n*7) k q1;have h1:=h1 _ _ hx;rw[q3]at h1;have kO:=fun ex K hK=>yl Y ⟨mb++ex,ml,ms,mn⟩ g.p hp aJ K hK;simp only[Qa]at kO;rw[q2]at kO;have axU:=RB e.fr o.n (hes e (zzac g2)) hn;refine Xh M0 (fun _ f l=>if f=154 then I (Vv (e.fr+o.n))else if f=156 then asM l else .gd false .junk) zd ?_;simp[Tx,Ty,Qq,Qo,Qa,Qu,Qd,Qh,Ql];refine kp _ _ ?_;simp[kK,A2];refine kO _ _ fun c0 c1 bx=>?_;have oy:min 1 (pre.length+(r.length+7)-(n*7+2))=1:=zE
  have hm4:min 1 (pre.length+(r.length+7)-(n*7+4))=1:=zE
  simp[-setA,jK,jL,Un,bK,Qd,zzan,hd,oy,asM];refine⟨axU,ki _ _ ?_⟩;have hL:=fun V=>Qea g.p.ln (Vv V) ei (Qdo V);cases hi:BO g f b o.en with
  |none=>
   simp[-setA,jK,ya,jL,RA,zzan,hd,cc,hm4];have hx2:ug g f b o e=Vv (e.fr+o.n):=by simp only[ug,hi]
   simp only[hx2,RC,zzcm,Qd,zzae,zzaj]at h1;refine⟨zE,hL _,zE,?_⟩;exact h1 _ (mb.length+5) zd zd zd
  |some st=>
   have asN:BO g f b o.en=some st->0<=st/\st<=1000000:=fun hh=>by
    unfold BO at hh;split at hh
    ·cases hh
    split at hh
    ·cases hh;exact DU h _
    cases hh
   have hsb:=asN hi;have hfs:=h.2.2.1;have kd:=Qea f st (by unfold nT at hfs;unfold th;omega) (by unfold th;omega);simp[-setA,jK,ya,jL,RA,zzan,hd,cc,hm4];have hx2:ug g f b o e=if Vv (e.fr+o.n)<Vv (f-st)then Vv (f-st)else Vv (e.fr+o.n):=by simp only[ug,hi]
   simp only[hx2,RC,zzcm,Qd,zzae,zzaj]at h1;refine⟨kd,zE,?_,zE,?_⟩
   ·have:=hL (max (Vv (e.fr+o.n)) (Vv (f-st)));split
    ·exact Qea _ _ ei (Qdo _)
    exact Qea _ _ ei (Qdo _)
   exact h1 _ (mb.length+5) zd zd zd
def eU(l:List En):PQ:=(l.map Qd).flatten
@[simp] theorem avz:eU []=[]:=rfl
@[simp] theorem asO(e:En)(l:List En):eU (e::l)=I e.id::I e.it::I e.fr::I e.ea::I e.la::I e.bo::.sl .ro (e.al.map Qe)::eU l:=rfl
def Ux:∀l,(eU l).length=l.length*7
 |[]=>rfl
 |s::r=>by simp[Ux r];omega
def qf:∀a b,eU (a++b)=eU a++eU b
 |[],_=>rfl
 |s::r,b=>by simp[qf r b]
def Hl:∀(l:List En)(i:Nat),(eU l).drop (i*7)=eU (l.drop i)
 |[],i=>zd
 |s::r,0=>zd
 |s::r,i+1=>by rw[show(i+1)*7=i*7+1+1+1+1+1+1+1 by omega];simp[Hl r i]
def DV{l:List En}{i:Nat}{s:En}(h:l[i]?=some s):(eU l).drop (i*7)=I s.id::I s.it::I s.fr::I s.ea::I s.la::I s.bo::.sl .ro (s.al.map Qe)::eU (l.drop (i+1)):=by
 rw[Hl];have aa:=(zza.1 h).1;rw[zzaf aa,(zza.1 h).2];rfl
def afs(l:List En)(i:Nat)(s:En)(h:i<l.length):setA (eU l) (i*7) [I s.id,I s.it,I s.fr,I s.ea,I s.la,I s.bo,.sl .ro (s.al.map Qe)]=eU (l.set i s):=by
 obtain⟨pre,r,h1,h2,h3⟩:=LW (ens:=l) (i:=i) (zzad h);unfold eU;rw[h2,h3,<- h1];exact G5 pre _ r _ rfl
def LX(l:List En):Zl (eU l)=true:=kY (fun _=>rfl) l
def RD(l:List En):aW 7 l.length (eU l)=l.map Qd:=by
 have:=Qbj (kZ (f:=Qd) (sz:=7) (fun _=>rfl) l);simpa[eU]using this
def rR(row:PQ):∀n,(bG n row).length=n*row.length
 |0=>by simp[bG]
 |n+1=>by simp[bG,rR row n,zzbl];omega
def nV:PQ:=[I 0,I 0,I 0,I 0,I 0,I 0,.sl .nil []]
def Ho:∀n,Zl (bG n nV)=true
 |0=>rfl
 |n+1=>by have:=Ho n;unfold Zl at this |-;rw[bG,zzfj,this];rfl
def mF(x:Int)(e:En):Bool:=decide (e.id=x)
def ym(e:En)(a0 a1 a2 a3:AV)(x:Int)(r:PQ):Pure Tryz.prog aD 159 [.agg (Qd e),.ep (a0::a1::a2::a3::I x::r) 0] (.bool (mF x e)):=by
 refine Qn acR (fun _ _ _=>.junk) zd ?_;simp[ahE,ahF,Qd,mF];rw[zzcs];simp
def aft{x:Int}{l:List En}(h:Ur (mF x) l 0= -1):l.filter (fun e=>!mF x e)=l:=by
 cases hf:l.find? (mF x)with
 |some a=>obtain⟨k,h1,_⟩:=Ky (i:=0) hf;rw[h1]at h;omega
 |none=>
  rw[List.find?_eq_none]at hf;rw[zzgb];intro a ha;simpa using hf a ha
def OG{x:Int}:∀{l:List En}{i:Nat},Ur (mF x) l i≠ -1->∃k:Nat,Ur (mF x) l i=((i+k:Nat):Int)/\k<l.length/\(l.take (k+1)).filter (fun e=>!mF x e)=l.take k
 |[],_,h=>absurd rfl h
 |s::r,i,h=>by
  simp only[Ur]at h |-
  split
  ·rename_i hs;exact⟨0,rfl,zd,by simp[hs]⟩
  rename_i hs;rw[if_neg hs]at h;obtain⟨k,h1,h2,h3⟩:=OG h;exact⟨k+1,by rw[h1];congr 1;omega,Pi h2,by simp only[zzdb,zzei];simp[hs,h3]⟩
def yo(k:Int)(x:Int):X1:=fun _ f l=>if f=160 then I k else match l with
 |.agg (.int _ n::_)::_=>.bool (decide (n=x))
 |_=>.junk
def ZT(Y:YT)(l:List En)(hl:l.length<=1000000000)(B:X2)(L:P1)(st:Nat->LS)(n id:Nat)(aM:id<B.length)(aJ:l≠[])(hB:Qg B id=eU l)
  (kk:Nat)(a0 a1 a2 a3:AV)(x:Int)(r:PQ)(hkk:kk<B.length)(fM:kk≠id)(hk:Qg B kk=a0::a1::a2::a3::I x::r)(ck:Zl (a0::a1::a2::a3::I x::r)=true)(K:UV)
  (hK:∀(B':X2)(z:PQ),bC (·=id) B B'->Qg B' id=eU (l.filter fun e=>!mF x e)++z->(l.filter fun e=>!mF x e).length*7+z.length=l.length*7->Zl z=true->K (.bs id 0 (l.filter fun e=>!mF x e).length 7) ⟨B',L,st,n⟩):
  aA Tryz.prog aD Y 158 [.bs id 0 l.length 7,.fn 159 [] [.ptr kk 0]] ⟨B,L,st,n⟩ K:=by
 have LY:=Hi l (mF x) 159 [] [.ep (a0::a1::a2::a3::I x::r) 0] hl (fun _=>rfl) (fun _=>zd) (fun e _=>ym e a0 a1 a2 a3 x r) (yo 0 x) (fun _ e _=>by simp[yo,Qd,mF]);have gK:=Vd ⟨B,L,st,n⟩ 4 (LX l);have mg:=RD l;have aH:=Ux l
 have hkc:∀B' d,Qg B' kk=Qg B kk->bE ⟨B',L,st,n⟩ (d+2) (.ptr kk 0)=.ep (a0::a1::a2::a3::I x::r) 0:=fun B' d h=>by
  rw[qg,Vu,h,hk,Vd _ _ ck]
 refine Xh acQ (yo (Ur (mF x) l 0) x) zd ?_;by_cases dF:Ur (mF x) l 0= -1
 ·have hf:=aft dF;rw[dF]at LY;have:=hK B [] (bC.refl _ _) (by rw[hf];simpa using hB) (by rw[hf];simp) rfl;rw[hf]at this;have hc:=fun d=>hkc B d rfl;simp[-qg,Nh,TQ,yo,dF,hB,gK,mg,aH,hc];exact⟨LY,this⟩
 obtain⟨k,XL,ey,tX⟩:=OG dF;rw[zzbm]at XL;have Ez:¬(k:Int)= -1:=zE
 have W8:=bR k zE;rw[XL]at LY;have hc:=fun d=>hkc B d rfl;simp[-qg,Nh,TQ,yo,XL,Ez,hB,gK,mg,aH,W8,hc];refine⟨LY,?_⟩
 refine Qj CB (fun f m=>∃(i j:Nat)(B':X2)(L':List En),f 5=I i/\f 6=I j/\i<j/\j<=l.length/\m=⟨B',L,st,n⟩/\bC (·=id) B B'/\Qg B' id=eU L'/\L'.length=l.length/\L'.take i=(l.take j).filter (fun e=>!mF x e)/\L'.drop j=l.drop j)
  (fun f m=>l.length-(numOf (f 6)).toNat) ?_ ?_
 ·exact⟨k,k+1,B,l,zd,zd,zE,zE,rfl,bC.refl _ _,hB,rfl,tX.symm,rfl⟩
 rintro f m ⟨i,j,B',L',h5,h6,fL,hj,rfl,nB,zu,tV,ht,hd⟩;have cQ:id<B'.length:=zzar aM nB.1;have axV:kk<B'.length:=zzar hkk nB.1;have jr:=Ux L';have hkB:Qg B' kk=Qg B kk:=nB.2 kk hkk fM;have fe:∀ex d,bE ⟨B'++ex,L,st,n⟩ (d+2) (.ptr kk 0)=.ep (a0::a1::a2::a3::I x::r) 0:=fun ex d=>hkc _ d (by rw[Qk axV,hkB]);rcases zzab j l.length with aa|bu
 ·obtain⟨s,hs⟩:=aY aa
  have ef:L'[j]?=some s:=by
   have:=congrArg (fun x=>x[0]?) hd;simpa[hs]using this
  have hg:=DV ef;have eS:(j:Int)<(l.length:Int):=zE
  have ah:(i:Int)<(l.length:Int):=zE
  have xm:i<l.length:=zE
  have uH:=bR j zE;have Bn:=bR i zE;have hp:=ym s a0 a1 a2 a3 x r;simp only[Qd]at hp;have bW:=afs L' i s zE;have eX:∀x,Qg (B'++x) id=eU L':=fun x=>by rw[Qk cQ,zu]
  have lM:∀x v,(B'++x).set id v=B'.set id v++x:=fun x v=>Yi v cQ
  have bB:(l.take (j+1)).filter (fun e=>!mF x e)=(l.take j).filter (fun e=>!mF x e)++[s].filter (fun e=>!mF x e):=by
   rw[zzax,hs,zzdh];rfl
  have hdj:L'.drop (j+1)=l.drop (j+1):=by
   have:=congrArg (List.drop 1) hd;simpa[zzdi,zzer]using this
  by_cases he:s.id=x
  ·have DW:mF x s=true:=by simp[mF,he]
   rw[DW]at hp;simp[-setA,jK,jL,-qg,fe,h5,h6,eS,zu,eX,hg,CB,yo,he,uH];rw[he]at hp;refine⟨hp,aR,⟨i,rfl,j+1,zd,zE,zE,nB.app _,?_⟩,zE⟩
   ·refine⟨L',rfl,tV,?_,hdj⟩;rw[bB,ht];simp[DW]
  have DW:mF x s=false:=by simp[mF,he]
  rw[DW]at hp;simp[-setA,jK,jL,-qg,fe,h5,h6,eS,ah,zu,eX,lM,hg,CB,yo,he,uH,Bn,bW,jr,tV];refine⟨hp,⟨zE,zE⟩,aR,⟨i+1,zd,j+1,zd,zE,zE,(nB.set (.inl rfl) _).app _,?_⟩,zE⟩
  ·refine⟨L'.set i s,by rw[Qk (Pi cQ),Zg _ cQ],Pi tV,?_,?_⟩
   ·rw[bB,<- ht,zzax,zzbg zE,zzg zE];simp[DW]
   rw[zzga zE];exact hdj
 obtain rfl:j=l.length:=zE
 rw[zzbs]at ht;have gG:(l.filter (fun e=>!mF x e)).length=i:=by rw[<- ht,zzaq];omega
 have N8:¬((l.length:Nat):Int)<(l.length:Int):=zE
 have bU:(i:Int)<=(l.length:Int):=zE
 have ah:(i:Int)<(l.length:Int):=zE
 have xm:i<l.length:=fL
 have fU:eU L'≠[]:=by
  intro h;have:=congrArg List.length h;rw[jr,tV]at this;simp at this;omega
 have oU:setA (eU L') (i*7) (bG (l.length-i) [I 0,I 0,I 0,I 0,I 0,I 0,.sl .nil []])=eU (l.filter (fun e=>!mF x e))++bG (l.length-i) nV:=by
  have e1:L'=L'.take i++L'.drop i:=zd
  conv=>lhs;rw[e1]
  rw[qf,<- ht];have e2:(eU (L'.take i)).length=i*7:=by rw[Ux,zzaq];congr 1;omega
  rw[<- e2];exact pN _ _ _ (by rw[rR,Ux];simp;omega)
 simp[-setA,h5,h6,N8,zu,ah,bU,CB,cQ,fU,jr,tV,oU];refine⟨zE,?_⟩;have:=hK (B'.set id (eU (l.filter (fun e=>!mF x e))++bG (l.length-i) nV)) (bG (l.length-i) nV) (nB.set (.inl rfl) _) (Zg _ cQ) (by rw[rR,gG];simp[nV];omega) (Ho _);rw[gG]at this;exact this
def bC.form{id:Nat}{B B':X2}(h:bC (·=id) B B')(aM:id<B.length):B'=B.set id (Qg B' id)++B'.drop B.length:=by
 have hl:=h.1;apply zzcz;intro j;rcases zzab j B.length with hj|hj
 ·rw[zzak (Pi hj),Je (B:=B') zE];by_cases AU:j=id
  ·subst AU;rw[zzbg aM]
  rw[zzbq zE,Je hj,h.2 j hj AU]
 rw[zzat (Pi hj),zzcm,zzbo];congr 1;omega
def RE(Y:YT)(l:List En)(hl:l.length<=1000000000)(B:X2)(L:P1)(st:Nat->LS)(n id:Nat)(aM:id<B.length)(aJ:l≠[])(hB:Qg B id=eU l)
  (kk:Nat)(a0 a1 a2 a3:AV)(x:Int)(r:PQ)(hkk:kk<B.length)(fM:kk≠id)(hk:Qg B kk=a0::a1::a2::a3::I x::r)(ck:Zl (a0::a1::a2::a3::I x::r)=true)(K:UV)
  (hK:∀(ex:X2)(z:PQ),Zl z=true->K (.bs id 0 (l.filter fun e=>!mF x e).length 7) ⟨B.set id (eU (l.filter fun e=>!mF x e)++z)++ex,L,st,n⟩):
  aA Tryz.prog aD Y 158 [.bs id 0 l.length 7,.fn 159 [] [.ptr kk 0]] ⟨B,L,st,n⟩ K:=
 ZT Y l hl B L st n id aM aJ hB kk a0 a1 a2 a3 x r hkk fM hk ck K fun B' z h1 h2 _ h4=>by
  have:=bC.form h1 aM;rw[h2]at this;rw[this];exact hK _ z h4
def yp(g:Pg)(o:Od):Option Pl:=if Ja g o.en<0 then none else some {g.p with ens:=g.p.ens.filter fun e=>!mF o.en e}
def ZU(Y:YT)(m:AM)(g:Pg)(f:Int)(mid:Nat)(o:Od)(h:lR g f)(hp:BI g.p)(K:UV)
  (h0:yp g o=none->∀ex,K (.aQ [.agg uX,.bool false]) {m with boxes:=m.boxes++ex})
  (h1:∀q,yp g o=some q->∀ex k z,m.boxes.length<=k->k<(m.boxes++ex).length->Qg (m.boxes++ex) k=eU q.ens++z->Zl z=true->K (.aQ [.agg (Xo q (.bs k 0 q.ens.length 7) (.sl .ro (q.cls.map Qh)) 0),.bool true]) {m with boxes:=m.boxes++ex}):
  aA Tryz.prog aD Y 104 [.agg (Qq g f mid),.agg (Qu o)] m K:=by
 obtain⟨mb,ml,ms,mn⟩:=m;have kp:=fun ex K hK=>LV Y ⟨mb++ex,ml,ms,mn⟩ g f mid o.en h K hK;simp only[Qq,Qo,Qa,zzae,zzaj]at kp;by_cases oW:Ja g o.en<0
 ·have hx:yp g o=none:=by unfold yp;rw[if_pos oW]
  refine Xh M1 (fun _ _ _=>.gd false .junk) zd ?_;simp[Tz,TA,Qq,Qo,Qa,Qu,Qd,Qh,Ql];refine kp _ _ ?_;simp[oW];have:=h0 hx;simp[uX]at this;exact this _
 have hx:yp g o=some {g.p with ens:=g.p.ens.filter fun e=>!mF o.en e}:=by unfold yp;rw[if_neg oW]
 have aJ:g.p.ens≠[]:=by
  intro e;unfold Ja at oW;rw[e]at oW;simp[Ur]at oW
 have h1:=h1 _ hx;have kO:=fun ex K hK=>yl Y ⟨mb++ex,ml,ms,mn⟩ g.p hp aJ K hK;simp only[Qa]at kO;have kD:=fun B id aM hB kk a0 a1 a2 a3 r hkk fM hk ck=>RE Y g.p.ens h.2.2.2 B ml ms mn id aM aJ hB kk a0 a1 a2 a3 o.en r hkk fM hk ck;refine Xh M1 (fun _ _ _=>.gd false .junk) zd ?_;simp[Tz,TA,Qq,Qo,Qa,Qu,Qd,Qh,Ql];refine kp _ _ ?_;simp[oW];refine kO _ _ fun c0 c1 bx=>?_;simp[Un,zzan];refine kD _ _ zd ?_ (mb.length+1) (I o.sq) (I o.ch) (I o.fr) (I o.ki) _ zd zE (by simp;rfl) ?_ _ ?_
 ·simp[eU]
 ·simp[Zl,Hp]
 intro ex z hz;simp[zzan];refine⟨zE,?_⟩;exact h1 _ (mb.length+5) z zd zd zd hz
def Hq(Y:YT)(l:List Cl)(h:l.length<=1000000000)(m:AM)(K:UV)(hK:K (.sl (.own m.lens.length 8) (l.map Qh)) {m with lens:=m.lens++[l.length]}):aA Tryz.prog aD Y 92 [.sl .ro (l.map Qh)] m K:=by
 refine Xh Ts (fun _ _ _=>.junk) zd ?_;simp[alb,alc];exact⟨⟨fun _ _=>rfl,zE⟩,hK⟩
def Jb(p:Pl)(V W:AV):PQ:=[I p.ch,I p.nu,I p.de,I p.of,.sl .ro (p.sh.map Qe),I p.ep,I p.rg,I p.ln,I p.fi,.sl .ro (p.aO.map Qm),V,.sl .ro (p.bks.map Xk),W]
def yq(p:Pl):X1:=fun d f l=>if f=92 then .gd false .junk else Kb p d f l
def ZV(Y:YT)(m:AM)(p:Pl)(h:BI p)(hn:p.ens≠[])(K:UV)
  (hK:∀c0 c1 bx,K (.agg (Jb p (.bs (m.boxes.length+2) 0 p.ens.length 7) (.sl (.own m.lens.length 8) (p.cls.map Qh)))) {m with boxes:=m.boxes++(c0::c1::(p.ens.map Qd).flatten::bx),lens:=m.lens++[p.cls.length]}):aA Tryz.prog aD Y 50 [.agg (Qa p)] m K:=by
 obtain⟨mb,ml,ms,mn⟩:=m;obtain⟨h1,h2,h3,h4,h5,h6⟩:=h;have k1:=p9 p.sh zE;have k2:=qb p.aO zE;have k4:=qc p.bks zE;have hsz:=kZ (f:=Qd) (sz:=7) (fun _=>rfl) p.ens;refine Xh vi (yq p) zd ?_;have aJ:p.ens.map Qd≠[]:=by simpa using hn
 simp[Jx,Qa,yq,Kb,hn];refine⟨k1,k2,yb _ _ hsz (by simpa using by omega) aJ _ _ ?_⟩;simp;obtain⟨F,hF⟩:∃F,(p.ens.map Qd).flatten=F:=⟨_,rfl⟩;have hFl:F.length=p.ens.length*7:=by rw[<- hF,jM hsz];simp
 have ck:Zl F=true:=by rw[<- hF];exact kY (fun _=>rfl) _
 have hmp:∀m,F.map (bE m 4)=F:=fun m=>Vd m 3 ck;rw[hF]at hK |-
 refine Qj eM (ajp p mb ml ms mn [I 0,I 0,I 0,I 0,.sl .nil [],I 0,I 0,I 0,I 0,.sl .nil [],.sl .nil [],.sl .nil [],.sl .nil []]) (fun f _=>p.ens.length-(numOf (f 22)).toNat) ?_ ?_
 ·exact⟨0,[],zd,zE,by rw[hF];simp[Un]⟩
 rintro f m ⟨i,bx,f22,hi,rfl⟩;rw[hF];rcases zzab i p.ens.length with aa|bu
 ·obtain⟨e,he⟩:=aY aa;have ah:(i:Int)<(p.ens.length:Int):=zE
  have hw:=bR i zE;obtain⟨⟨r,hd⟩,cc⟩:=uV hsz (i:=i) (row:=Qd e) (by simp[he]);rw[hF]at hd cc;simp only[Qd,zzae,zzaj]at hd cc;have G7:=Wj e (h6 e (zzac he));simp only[Qd]at G7;simp[-setA,jK,jL,f22,eM,ah,hd,cc,hFl,hw,yq,Kb,Un];refine⟨G7,zE,aR,⟨i+1,bx++[[I e.id,I e.it,I e.fr,I e.ea,I e.la,I e.bo,.sl .ro (e.al.map Qe)]],zd,zE,by rw[hF];simp[Un]⟩,zE⟩
 obtain rfl:i=p.ens.length:=zE
 simp[f22,eM,JA,yq,Kb,Un];simp[Jb]at hK;refine⟨k4,Hq _ _ zE _ _ ?_⟩;simp;exact hK _ _ _
def RF(Y:YT)(m:AM)(p:Pl)(h:BI p)(hn:p.ens=[])(K:UV)
  (hK:∀c0 c1,K (.agg (Jb p (.sl .ro []) (.sl (.own m.lens.length 8) (p.cls.map Qh)))) {m with boxes:=m.boxes++[c0,c1],lens:=m.lens++[p.cls.length]}):aA Tryz.prog aD Y 50 [.agg (Qa p)] m K:=by
 obtain⟨mb,ml,ms,mn⟩:=m;obtain⟨h1,h2,h3,h4,h5,h6⟩:=h;have k1:=p9 p.sh zE;have k2:=qb p.aO zE;have k4:=qc p.bks zE;have k3:=G6;refine Xh vi (yq p) zd ?_;simp[Jx,Qa,yq,Kb,hn];refine⟨k1,k2,k3,?_⟩;refine Qj eM (fun f m=>f 22=I 0/\m=⟨mb++[[I p.ch,I p.nu,I p.de,I p.of,.sl .ro (p.sh.map Qe),I p.ep,I p.rg,I p.ln,I p.fi,.sl .ro (p.aO.map Qm),.sl .ro [],.sl .ro (p.bks.map Xk),.sl .ro (p.cls.map Qh)],[I 0,I 0,I 0,I 0,.sl .nil [],I 0,I 0,I 0,I 0,.sl .nil [],.sl .nil [],.sl .nil [],.sl .nil []]],ml,ms,mn⟩) (fun f _=>0) ?_ ?_
 ·exact⟨zd,zd⟩
 rintro f m ⟨f22,rfl⟩;simp[f22,eM,JA,yq,Kb];refine⟨k4,Hq _ _ zE _ _ ?_⟩;simp;simp[Jb]at hK;exact hK _ _
def DX(rt:Rt):Prop:=∀m d x,bE m (d+1) (.sl rt x)=.sl .ro x
def DX.ro:DX .ro:=fun _ _ _=>rfl
def DX.own(k s:Nat):DX (.own k s):=fun _ _ _=>rfl
def mG(bx:X2)(V:AV)(l:List En):Prop:=(∃rt,V=.sl rt (l.map Qd)/\DX rt)\/∃k z,V=.bs k 0 l.length 7/\k<bx.length/\Qg bx k=eU l++z/\Zl z=true
def Hr(n:Nat)(V:AV):Prop:=∀k o l s,V=.bs k o l s->n<=k
def Hr.sl(n:Nat)(rt:Rt)(rows:X2):Hr n (.sl rt rows):=fun _ _ _ _ h=>by cases h
def Hr.bs{n k o l s:Nat}(h:n<=k):Hr n (.bs k o l s):=fun _ _ _ _ e=>by cases e;exact h
def DY(g:Pg)(o:Od):Pl:={g.p with cls:=g.p.cls++[o.cl]}
def ZW(Y:YT)(m:AM)(g:Pg)(f:Int)(mid:Nat)(o:Od)(hp:BI g.p)(K:UV)
  (h1:∀ex V,mG (m.boxes++ex) V g.p.ens->Hr m.boxes.length V->K (.aQ [.agg (Xo (DY g o) V (.sl (.own m.lens.length 8) ((DY g o).cls.map Qh)) 0),.bool true]) {m with boxes:=m.boxes++ex,lens:=m.lens++[g.p.cls.length+1]}):
  aA Tryz.prog aD Y 100 [.agg (Qq g f mid),.agg (Qu o)] m K:=by
 obtain⟨mb,ml,ms,mn⟩:=m;have hc:=hp.2.2.2.2.1
 have ai:∀row:PQ,((∃a,a∈g.p.cls/\Qh a=row)\/row=Qh o.cl)->row.length=8:=by
  rintro row (⟨a,_,rfl⟩|rfl)<;>rfl
 simp only[DY,Xo,zzch,zzay,zzcu]at h1;by_cases aJ:g.p.ens=[]
 ·have kO:=fun ex K hK=>RF Y ⟨mb++ex,ml,ms,mn⟩ g.p hp aJ K hK;simp only[Qa]at kO;refine Xh MZ (fun _ _ l=>.gd false .junk) zd ?_;simp[Tv,Tw,Qq,Qo,Qa,Qu,Qd,Qh,Ql];refine kO _ _ fun c0 c1=>?_;simp[Jb];refine⟨⟨ai,zE⟩,?_⟩;exact h1 _ _ (.inl ⟨.ro,by rw[aJ];rfl,DX.ro⟩) (Hr.sl _ _ _)
 have kO:=fun ex K hK=>ZV Y ⟨mb++ex,ml,ms,mn⟩ g.p hp aJ K hK;simp only[Qa]at kO;refine Xh MZ (fun _ _ l=>.gd false .junk) zd ?_;simp[Tv,Tw,Qq,Qo,Qa,Qu,Qd,Qh,Ql];refine kO _ _ fun c0 c1 bx=>?_;simp[Jb,zzan];refine⟨⟨ai,zE⟩,?_⟩;exact h1 _ _ (.inr ⟨mb.length+5,[],rfl,zd,by simp[eU],rfl⟩) (Hr.bs zd)
def mG.ext{bx:X2}{V:AV}{l:List En}(h:mG bx V l)(ex:X2):mG (bx++ex) V l:=by
 obtain h|⟨k,z,h1,h2,h3,h4⟩:=h
 ·exact .inl h
 exact .inr ⟨k,z,h1,by simp;omega,by rw[Qk h2,h3],h4⟩
def RG(Y:YT)(m:AM)(V:AV)(L:List En)(id:Int)(hV:mG m.boxes V L)(hl:L.length<=1000000000):aA Tryz.prog aD Y 144 [V,I id,.fn 145 [] []] m (fun r m'=>m'=m/\r=Ws (Zf id L)):=by
 obtain⟨mb,ml,ms,mn⟩:=m;refine aA.read ?_;obtain⟨rt,rfl,bk⟩|⟨k,z,rfl,hk,hB,hz⟩:=hV
 ·refine Xh Cz (fun _ f l=>if f=145 then(match l with|[.agg (c::_)]=>c|_=>.junk)else .junk) zd ?_;simp[Nd];refine Qj dY (fun f m=>∃(i:Nat)(bx:X2),f 13=I i/\i<=L.length/\Zf id (L.drop i)=Zf id L/\m=⟨mb++([I 0,I 0,I 0,I 0,I 0,I 0,.sl .nil []]::bx),ml,ms,mn⟩) (fun f _=>L.length-(numOf (f 13)).toNat) ?_ ?_
  ·exact⟨0,[],zd,zE,rfl,rfl⟩
  rintro f m ⟨i,bx,fD,hi,hf,rfl⟩;rcases zzab i L.length with aa|bu
  ·obtain⟨x,hx⟩:=aY aa;have ai:Qg (L.map Qd) i=Qd x:=Qv (by simp[hx]);have ah:(i:Int)<(L.length:Int):=zE
   have hw:=bR i zE;have hd:L.drop i=x::L.drop (i+1):=by rw[zzaf aa,(zza.1 hx).2]
   have zk:=nN x;rw[hd,Zf]at hf;by_cases aM:x.id=id
   ·rw[if_pos aM]at hf;simp[fD,ah,ai,Qd,aM,dY,vw,<- hf,Ws];refine⟨by simpa[Qd,aM]using zk,nU⟩
   rw[if_neg aM]at hf;simp[fD,ah,ai,Qd,aM,dY,hw];refine⟨zk,aR,⟨i+1,zd,zE,hf⟩,zE⟩
  rw[zzam bu]at hf;have bU:¬(i:Int)<(L.length:Int):=zE
  simp[fD,bU,dY,vw,<- hf,Ws,Zf];exact nU
 have hR:∀ex,Qg (mb++ex) k=eU L++z:=fun ex=>by rw[Qk hk];exact hB
 refine Xh Cz (fun _ f l=>if f=145 then(match l with|[.agg (c::_)]=>c|_=>.junk)else .junk) zd ?_;simp[Nd];refine Qj dY (fun f m=>∃(i:Nat)(bx:X2),f 13=I i/\i<=L.length/\Zf id (L.drop i)=Zf id L/\m=⟨mb++([I 0,I 0,I 0,I 0,I 0,I 0,.sl .nil []]::bx),ml,ms,mn⟩) (fun f _=>L.length-(numOf (f 13)).toNat) ?_ ?_
 ·exact⟨0,[],zd,zE,rfl,rfl⟩
 rintro f m ⟨i,bx,fD,hi,hf,rfl⟩;rcases zzab i L.length with aa|bu
 ·obtain⟨x,hx⟩:=aY aa;have hg:=DV hx
  have ai:∀ex,(Qg (mb++ex) k).drop (i*7)=I x.id::I x.it::I x.fr::I x.ea::I x.la::I x.bo::.sl .ro (x.al.map Qe)::(eU (L.drop (i+1))++z):=fun ex=>by
   rw[hR,zzdt (by rw[Ux];omega),hg];rfl
  have ah:(i:Int)<(L.length:Int):=zE
  have hw:=bR i zE;have hd:L.drop i=x::L.drop (i+1):=by rw[zzaf aa,(zza.1 hx).2]
  have zk:=nN x;rw[hd,Zf]at hf;by_cases aM:x.id=id
  ·rw[if_pos aM]at hf;simp[fD,ah,ai,Qd,aM,dY,vw,<- hf,Ws];refine⟨by simpa[Qd,aM]using zk,nU⟩
  rw[if_neg aM]at hf;simp[fD,ah,ai,aM,dY,hw];refine⟨zk,aR,⟨i+1,zd,zE,hf⟩,zE⟩
 rw[zzam bu]at hf;have bU:¬(i:Int)<(L.length:Int):=zE
 simp[fD,bU,dY,vw,<- hf,Ws,Zf];exact nU
def amA(Y:YT)(m:AM)(V:AV)(L:List En)(id:Int)(hV:mG m.boxes V L)(hl:L.length<=1000000000)(K:UV)(hK:K (Ws (Zf id L)) m):aA Tryz.prog aD Y 144 [V,I id,.fn 145 [] []] m K:=
 aA.mono (RG Y m V L id hV hl) (by rintro r m' ⟨rfl,rfl⟩;exact hK)
def nW:∀(l:List En)(z:PQ),aW 7 l.length (eU l++z)=l.map Qd
 |[],z=>rfl
 |e::r,z=>by
  have:=nW r z;simp[Qd,this]
def mG.bE{bx:X2}{V:AV}{l:List En}(h:mG bx V l)(ex:X2)(ml:P1)(ms:Nat->LS)(mn:Nat)(d:Nat):Abs.bE ⟨bx++ex,ml,ms,mn⟩ (d+2) V=.sl .ro (l.map Qd):=by
 obtain⟨rt,rfl,bk⟩|⟨k,z,rfl,hk,hB,hz⟩:=h
 ·exact bk _ _ _
 have ck:Zl (eU l++z)=true:=by have:=LX l;unfold Zl at this hz |-;rw[zzfj,this,hz];rfl
 rw[ZX,Vu,Qk hk,hB,Vd _ _ ck,if_pos (by rw[zzah,Ux];omega),zzd,nW]
def mG.cell{bx:X2}{V:AV}{l:List En}(h:mG bx V l):Qw V=true:=by
 rcases h with⟨rt,rfl,bk⟩|⟨k,z,rfl,hk,hB,hz⟩<;>rfl
def LZ(Y:YT)(m:AM)(q:Pl)(V:AV)(rt:Rt)(id:Int)(hV:mG m.boxes V q.ens)(hl:q.ens.length<=1000000000)(ha:∀e∈q.ens,e.al.length<=8796093022208):
  aA Tryz.prog aD Y 93 [.agg (Jb q V (.sl rt (q.cls.map Qh))),I id] m (fun r m'=>m'=m/\r=Ws (Zf id q.ens)):=by
 obtain⟨mb,ml,ms,mn⟩:=m;have hc:=hV.cell;have kf:=fun ex K hK=>amA Y ⟨mb++ex,ml,ms,mn⟩ V q.ens id (hV.ext ex) hl K hK;refine aA.read (Xh Tt (fun _ f l=>if f=144 then .gd false .junk else l.headD .junk) zd ?_);simp[ab1,ab2,Jb,hc];refine kf _ _ ?_;cases hf:Zf id q.ens with
 |none=>
  simp[Ws];exact⟨jv,nU⟩
 |some x=>
  have hx:x∈q.ens:=by
   have:∀l:List En,Zf id l=some x->x∈l:=by
    intro l;induction l with
    |nil=>intro h;cases h
    |cons y r ih=>
     intro h;simp only[Zf]at h;split at h
     ·cases h;simp
     simp[ih h]
   exact this _ hf
  have oU:=Qcf x.al (ha x hx);simp[Ws,Qd];exact⟨oU,nU⟩
def OH(Y:YT)(m:AM)(q:Pl)(V:AV)(rt:Rt)(id:Int)(hV:mG m.boxes V q.ens)(hl:q.ens.length<=1000000000)(ha:∀e∈q.ens,e.al.length<=8796093022208)(K:UV)(hK:K (Ws (Zf id q.ens)) m):
  aA Tryz.prog aD Y 93 [.agg (Jb q V (.sl rt (q.cls.map Qh))),I id] m K:=
 aA.mono (LZ Y m q V rt id hV hl ha) (by rintro r m' ⟨rfl,rfl⟩;exact hK)
def L3(Y:YT)(m:AM)(g:Pg)(f:Int)(mid:Nat)(o:Od)(q:Pl)(V:AV)(rt:Rt)(d:Int)(hV:mG m.boxes V q.ens):
  aA Tryz.prog aD Y 101 [.agg (Qq g f mid),.agg (Qu o),.agg (Xo q V (.sl rt (q.cls.map Qh)) d)] m (fun r m'=>m'=m/\r=.bool true):=by
 obtain⟨mb,ml,ms,mn⟩:=m;have hc:=hV.cell;refine aA.read (Xh ab3 (fun _ _ _=>.junk) zd ?_);simp[agX,agY,Qq,Qo,Qa,Qu,Qd,Qh,Ql,Xo,hc];exact nU
def Hs(Y:YT)(m:AM)(g:Pg)(f:Int)(mid:Nat)(b:QP)(o:Od)(q:Pl)(V:AV)(rt:Rt)(d:Int)(hV:mG m.boxes V q.ens)(h:lR g f)(hb:gm m.boxes mid b):
  aA Tryz.prog aD Y 105 [.agg (Qq g f mid),.agg (Qu o),.agg (Xo q V (.sl rt (q.cls.map Qh)) d)] m (fun r m'=>m'=m/\r=.bool !(DT g f b o.en)):=by
 obtain⟨mb,ml,ms,mn⟩:=m;have hc:=hV.cell;have hB:∀ex,gm (mb++ex) mid b:=fun ex=>⟨by have:=hb.1;simp at this |-;omega,hb.ext ex⟩;have k:=fun ex K hK=>asL Y ⟨mb++ex,ml,ms,mn⟩ g f mid b o.en h (hB ex) K hK;simp only[Qq,Qo,Qa,zzae,zzaj]at k;refine aA.read (Xh ab5 (fun _ _ _=>.gd false .junk) zd ?_);simp[agZ,ag0,Qq,Qo,Qa,Qu,Qd,Qh,Ql,Xo,hc];refine k _ _ ?_;simp;exact nU
