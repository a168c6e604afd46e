import Derived.Test.YtnopaopphmjnmaaGreatDoorMQMbB
set_option linter.all false
set_option maxRecDepth 100000
set_option maxHeartbeats 64000000
namespace Go.Proofs.YtnopaopphmjnmaaGreatDoor
open Go Go.Abs
def zA:ByteArray:=⟨#[32]⟩
def Qcg{α:Type}(l:List α):l=[]\/∃L b,l=L++[b]:=by
 rcases zzdp l with h|⟨L,b,h⟩
 ·exact .inl h
 exact .inr ⟨L,b,by rw[h,zzdq]⟩
def HA(cD:List ByteArray)(w:ByteArray):List ByteArray:=match cD.getLast? with
 |some r=>if r.size+1+w.size<=32 then cD.dropLast++[r++(zA++w)]else cD++[w]
 |none=>[w]
theorem qj(w:ByteArray):HA [] w=[w]:=rfl
def lI(pre:List ByteArray)(r w:ByteArray):HA (pre++[r]) w=if r.size+1+w.size<=32 then pre++[r++(zA++w)]else pre++[r]++[w]:=by simp[HA]
def lay:List ByteArray->List ByteArray->Option (List ByteArray)
 |cD,[]=>some cD
 |cD,w::r=>if 32<w.size then none else lay (HA cD w) r
def ql:∀(a b cD:List ByteArray),lay cD (a++b)=(lay cD a).bind fun x=>lay x b
 |[],_,_=>rfl
 |w::r,b,cD=>by
  simp only[zzad,lay];split
  ·rfl
  exact ql r b _
def vf(s:ByteArray):∀(n i:Nat)(first:Option Nat),(wdS s n i first).length<=n+1
 |0,i,first=>by rw[wdS];cases first<;>simp[ij]
 |n+1,i,first=>by
  rw[wdS];split
  ·have:=vf s n (i+1) (some (first.getD i));omega
  have:=vf s n (i+1) none;rw[zzai];have h2:(ij s i first).length<=1:=by cases first<;>simp[ij]
  omega
def aaC(a b:ByteArray):(a++b).size=a.size+b.size:=zd
def Pv{cD:List ByteArray}{w:ByteArray}(h:∀r∈cD,r.size<=32)(hw:w.size<=32):∀r∈HA cD w,r.size<=32:=by
 rcases Qcg cD with rfl|⟨pre,r,rfl⟩
 ·intro x hx;simp[qj]at hx;subst hx;exact hw
 rw[lI];split
 ·intro x hx;rcases zzam.1 hx with hx|hx
  ·exact h x (by simp[hx])
  simp only[zzbd]at hx;subst hx;rw[aaC,aaC];have:zA.size=1:=rfl;omega
 intro x hx;rcases zzam.1 hx with hx|hx
 ·exact h x hx
 simp only[zzbd]at hx;subst hx;exact hw
def HB(cD:List ByteArray)(w:ByteArray):(HA cD w).length<=cD.length+1:=by
 rcases Qcg cD with rfl|⟨pre,r,rfl⟩
 ·simp[qj]
 rw[lI];split<;>simp
def Jm(s:ByteArray):Option (List ByteArray):=if 200<s.size\/Sy s=false then none else match lay [] (Uo s)with
 |some l=>if l=[]\/4<l.length then none else some l
 |none=>none
def Vi(l:List ByteArray):List AV:=l.map AV.str
def Ko(r:ByteArray):List AV:=[.str r]
def Jn:Option (List ByteArray)->AV
 |none=>.aZ [.sl .nil [],.bool false]
 |some l=>.aZ [.sl .ro (l.map Ko),.bool true]
def RV(cD:List ByteArray)(V:AV)(rest:List (List AV)):Prop:=(cD=[]/\V=.sl .nil [])\/(cD≠[]/\∃k,V=.bs (k+3) 0 cD.length 1/\k<rest.length/\Qh rest k=Vi cD)
def atV(q:List ByteArray)(i:Nat)(m:AM):Prop:=∃(cD:List ByteArray)(rest:List (List AV))(V:AV),lay [] (q.take i)=some cD/\(∀r∈cD,r.size<=32)/\cD.length<=i/\m.boxes=[.sl .nil []]::[.bool false]::[V]::rest/\RV cD V rest
def ayq(q:List ByteArray)(ex:Exit)(m:AM):Prop:=ex=.ret/\lay [] q=none/\∃rest,m.boxes=[.sl .nil []]::[.bool false]::rest
def BL(s:ByteArray):Nat->FuncId->List AV->AV:=fun d f _=>if f=999999 then(if d=49 then .aL 0 []else .junk)else if f=245 then .bool (Sy s)else .fn 303 [] [.ep [.str s] 0]
def yA(l:List ByteArray):bh 1 l.length (Vi l)=l.map Ko:=by
 induction l with
 |nil=>rfl
 |cons a r ih=>
  show bh 1 (r.length+1) (AV.str a::Vi r)=_;rw[xb];simp[ih,Ko]
def qm(m:AM)(d:Nat)(l:List ByteArray):(Vi l).map (bJ m (d+1))=Vi l:=by
 induction l with
 |nil=>rfl
 |cons a r ih=>simp[Vi]at ih |-
def RV.ext{cD:List ByteArray}{V:AV}{rest:List (List AV)}(h:RV cD V rest)(ex:List (List AV)):RV cD V (rest++ex):=by
 obtain h|⟨h1,k,h2,h3,h4⟩:=h
 ·exact .inl h
 exact .inr ⟨h1,k,h2,by simp;omega,by rw[Ql h3,h4]⟩
def SB(s:ByteArray):Pure Tryz.prog aA 173 [.str s] (Jn (Jm s)):=by
 refine Qo adA (BL s) zd ?_;by_cases h2:200<s.size
 ·have EH:(200:Int)<(s.size:Int):=zE
  have:Jm s=none:=by rw[Jm,if_pos (.inl h2)]
  rw[this];simp[NW,vF,EH,Jn]
 have EH:¬(200:Int)<(s.size:Int):=zE
 have kp:=yx s zE;have kw:=Mk s;have kit:=Ml s zE;cases hp:Sy s with
 |false=>
  rw[hp]at kp;have:Jm s=none:=by rw[Jm,if_pos (.inr hp)]
  rw[this];simp[NW,vF,EH,Jn,BL,hp];exact kp
 |true=>
  rw[hp]at kp
  have sQ:Jm s=match lay [] (Uo s)with
   |some l=>if l=[]\/4<l.length then none else some l
   |none=>none:=by rw[Jm,if_neg (by simp[hp];omega)]
  rw[sQ];have hql:(Uo s).length<=201:=by have:=vf s s.size 0 none;unfold Uo;omega
  generalize Uo s=q at kit hql;simp[NW,EH,BL,hp];refine⟨kp,kw,?_⟩;refine jK (xs:=q.map fun w=>[.str w]) zd kit (by intro x hx;simp at hx;obtain⟨a,_,rfl⟩:=hx;rfl) (atV q) (ayq q) ?_ ?_ ?_ ?_ ?_ ?_
  ·exact⟨[],[],.sl .nil [],rfl,fun _ h=>(by cases h),zd,zd,.inl ⟨rfl,rfl⟩⟩
  ·rintro i m m' ⟨cD,rest,V,g1,g2,g3,g4,g5⟩ ⟨⟨b2,e2⟩,_,_⟩;exact⟨cD,rest++b2,V,g1,g2,g3,by rw[e2,g4];simp,g5.ext b2⟩
  ·rintro ex m m' ⟨g1,g2,rest,g3⟩ ⟨⟨b2,e2⟩,_,_⟩;exact⟨g1,g2,rest++b2,by rw[e2,g3];simp⟩
  ·rintro l1 i m x hg hr ⟨cD,rest,V,g1,g2,g3,g4,g5⟩ hx K' k1 k2 k3
   obtain⟨w,hy,rfl⟩:∃w,q[i]?=some w/\[AV.str w]=x:=by
    rw[zzbi]at hx;cases hq:q[i]? with
    |none=>rw[hq]at hx;cases hx
    |some y=>rw[hq]at hx;exact⟨y,rfl,Option.some.inj hx⟩
   have ai:i<q.length:=(zza.1 hy).1;have bC:q.take (i+1)=q.take i++[w]:=by rw[zzas,hy];rfl
   have ez:lay [] (q.take (i+1))=if 32<w.size then none else some (HA cD w):=by
    rw[bC,ql,g1];simp[lay]
   rw[Ui]at g4;obtain⟨mb,ml,ms,mn⟩:=m;simp only at g4 hr;subst g4;by_cases hw:32<w.size
   ·have JN:(32:Int)<(w.size:Int):=zE
    simp[Zn,hr,JN];refine k2 _ ⟨rfl,?_,_,rfl⟩;have hq:q=q.take (i+1)++q.drop (i+1):=(zzdd _ _).symm;rw[hq,ql,ez,if_pos hw];rfl
   have JN:¬(32:Int)<(w.size:Int):=zE
   rw[if_neg hw]at ez;have hsz:=Pv g2 (by omega:w.size<=32);have dy:=HB cD w;obtain⟨h0,hV⟩|⟨h0,k,hV,dw,dD⟩:=g5
   ·subst h0;subst hV;have oG:IntKind.i64.wrap (-1)= -1:=by rw[Qj]<;>omega
    simp[Zn,hr,JN,BL,oG];refine k1 _ ⟨[w],rest++[[.str w]],.bs (rest.length+3) 0 1 1,by rw[ez,qj],fun r h=>by simp at h;subst h;omega,zd,zd,.inr ⟨zd,rest.length,rfl,zd,by simp[Vi]⟩⟩
   subst hV;obtain⟨pre,r,rfl⟩:=(Qcg cD).resolve_left h0;have cw:pre.length+1<=i:=by simpa using g3
   have oG:IntKind.i64.wrap (pre.length:Int)=(pre.length:Int):=by rw[Qj]<;>omega
   have qA:(Vi (pre++[r])).length=pre.length+1:=by simp[Vi]
   have ayr:=g2 r zd;have hsC:Vi (pre++[r])=Vi pre++[.str r]:=by simp[Vi]
   have gM:(Vi pre).length=pre.length:=by simp[Vi]
   have Mn:(Vi (pre++[r])).take (pre.length+1)=Vi (pre++[r]):=zzap zE;have ew:(Vi (pre++[r])).drop pre.length=[.str r]:=by rw[hsC,<- gM,zzfq]
   have eT:IntKind.i64.wrap ((r.size:Int)+1)=(r.size:Int)+1:=by rw[Qj]<;>omega
   have dP:IntKind.i64.wrap ((r.size:Int)+1+(w.size:Int))=(r.size:Int)+1+(w.size:Int):=by rw[Qj]<;>omega
   rw[lI]at ez hsz dy;by_cases hc:r.size+1+w.size<=32
   ·rw[if_pos hc]at ez hsz dy;have oW:(r.size:Int)+1+(w.size:Int)<=32:=zE
    have bY:(Vi (pre++[r])).set pre.length (.str (r++(zA++w)))=Vi (pre++[r++(zA++w)]):=by
     rw[hsC,<- gM,zzcu _ _ (zzab _)];simp[Vi]
    simp only[zA]at bY;simp[Zn,hr,JN,BL,oG,dD,ew,qA,eT,dP,oW,bY]
    have hrk:Qh (rest.set k (Vi (pre++[r++(zA++w)]))) k=Vi (pre++[r++(zA++w)]):=by
     simp[Qh,zzar,-Vp,dw]
    have hs1:zA.size=1:=rfl;refine⟨zE,(by show zA.size+w.size<=_;omega),(by show r.size+(zA.size+w.size)<=_;omega),zE,dw,k1 _ ⟨pre++[r++(zA++w)],rest.set k (Vi (pre++[r++(zA++w)])),.bs (k+3) 0 (pre.length+1) 1,ez,hsz,by simp;omega,by simp[zA],.inr ⟨zd,k,zd,by simpa using dw,hrk⟩⟩⟩
   rw[if_neg hc]at ez hsz dy;have oW:¬(r.size:Int)+1+(w.size:Int)<=32:=zE
   simp[Zn,hr,JN,BL,oG,dD,ew,qA,eT,dP,oW];have aM:¬Vi (pre++[r])=[]:=fun h=>by rw[h]at qA;simp at qA
   have hR:(rest.set k []).length=rest.length:=zd
   refine⟨zE,⟨⟨dw,aM⟩,zE⟩,k1 _ ⟨pre++[r]++[w],rest.set k []++[Vi (pre++[r])++[.str w]],.bs (rest.length+3) 0 (pre.length+1+1) 1,ez,hsz,by simp;omega,by simp[Mn],.inr ⟨zd,rest.length,zd,zd,?_⟩⟩⟩;rw[<- hR,Gb];simp[Vi]
  ·rintro m ⟨cD,rest,V,g1,g2,g3,g4,g5⟩;rw[zzbj,zzbu]at g1;rw[g1];obtain⟨mb,ml,ms,mn⟩:=m;simp only at g4;subst g4;obtain⟨h0,hV⟩|⟨h0,k,hV,dw,dD⟩:=g5
   ·subst h0;subst hV;simp[vF,Jn]
   subst hV;have aH:¬cD.length=0:=fun h=>h0 (zzcd.1 h);have qA:(Vi cD).length=cD.length:=by simp[Vi]
   by_cases h4:4<cD.length
   ·have JT:(4:Int)<(cD.length:Int):=zE
    simp[vF,Jn,h0,h4,JT]
   have JT:¬(4:Int)<(cD.length:Int):=zE
   have Aj:=fun m=>qm m 4 cD;have an1:=fun m=>qm m 3 cD;have fQ:=yA cD;simp[vF,Jn,h0,h4,JT,dD,an1,fQ,qA]
  rintro ex m ⟨rfl,g2,rest,g3⟩;rw[g2];simp[vF,g3,Jn]
open Go Go.Abs
def tj(c:Cue):Bool:=if c.id<1\/4611686018427387903<c.id then false else if c.to=0 then decide (c.fr=0/\c.pr=0/\c.tx=eB)else
 if c.fr<0\/c.to<=c.fr\/100000000<c.to then false else if c.pr<0\/3<c.pr then false else(Jm c.tx).isSome
def tq(c:Cue):Pure Tryz.prog aA 84 [.agg (Qi c)] (.bool (tj c)):=by
 have k:=SB c.tx;refine Qo amo (fun _ _ _=>Jn (Jm c.tx)) zd ?_;by_cases h1:c.id<1
 ·simp[vw,vz,Qi,h1,tj]
 by_cases h2:4611686018427387903<c.id
 ·simp[vw,vz,Qi,h1,h2,tj]
 by_cases h3:c.to=0
 ·simp[vw,vz,Qi,h1,h2,h3,tj];rw[zzbv];simp[j6]
 by_cases h4:c.fr<0
 ·simp[vw,vz,Qi,h1,h2,h3,h4,tj]
 by_cases h5:c.to<=c.fr
 ·simp[vw,vz,Qi,h1,h2,h3,h4,h5,tj]
 by_cases h6:100000000<c.to
 ·simp[vw,vz,Qi,h1,h2,h3,h4,h5,h6,tj]
 by_cases h7:c.pr<0
 ·simp[vw,vz,Qi,h1,h2,h3,h4,h5,h6,h7,tj]
 by_cases h8:3<c.pr
 ·simp[vw,vz,Qi,h1,h2,h3,h4,h5,h6,h7,h8,tj]
 cases hr:Jm c.tx with
 |none=>
  rw[hr]at k;simp[vw,vz,Qi,h1,h2,h3,h4,h5,h6,h7,h8,tj,hr,Jn];exact k
 |some l=>
  rw[hr]at k;simp[vw,vz,Qi,h1,h2,h3,h4,h5,h6,h7,h8,tj,hr,Jn];exact k
def lJ:En:=⟨0,0,0,0,0,0,[]⟩
def og:Cl:=⟨0,0,0,0,0,0,0,0⟩
def oh:Cue:=⟨0,0,0,0,eB⟩
def Jo(o:Od):Od:=if o.ki=1 then{o with n:=0,en:=0}else if o.ki=2 then{o with en:=0}else if o.ki=3 then{o with nw:=lJ}else if o.ki=4 then{o with cl:=og}else{o with cu:=oh}
def okB(o:Od):Bool:=if o.ki=1 then eX o.en else if o.ki=2 then eX o.en else if o.ki=3 then zz o.nw else if o.ki=4 then Xj o.cl else tj o.cu
def Xy(o:Od):Bool:=if o.sq<0\/200<o.sq\/o.ch< -1\/40<=o.ch then false else if o.fr<0\/100000000<o.fr then false else
 if o.ki<1\/5<o.ki then false else if o.ki=1/\(o.n< -100000000\/100000000<o.n)then false else okB o&&Jy (Jo o)
def j7(a b:Bool):Nat->FuncId->List AV->AV:=fun _ f _=>if f=81 then .bool b else .bool a
def tu(o:Od)(hl:o.nw.al.length<=8796093022208):Pure Tryz.prog aA 40 [.agg (Qp o)] (.bool (Xy o)):=by
 have kb:=Mj (Jo o);have kk:o.ki=3\/Pure Tryz.prog aA 81 [.agg (Qp (Jo o))] (.bool (Jy (Jo o))):=.inr kb;refine Qo alH (j7 (okB o) (Jy (Jo o))) zd ?_;by_cases a1:o.sq<0
 ·simp[fU,fV,Qp,Qd,Qg,Qi,a1,Xy]
 by_cases a2:200<o.sq
 ·simp[fU,fV,Qp,Qd,Qg,Qi,a1,a2,Xy]
 by_cases a3:o.ch< -1
 ·simp[fU,fV,Qp,Qd,Qg,Qi,a1,a2,a3,Xy]
 by_cases a4:40<=o.ch
 ·simp[fU,fV,Qp,Qd,Qg,Qi,a1,a2,a3,a4,Xy]
 by_cases a5:o.fr<0
 ·simp[fU,fV,Qp,Qd,Qg,Qi,a1,a2,a3,a4,a5,Xy]
 by_cases a6:100000000<o.fr
 ·simp[fU,fV,Qp,Qd,Qg,Qi,a1,a2,a3,a4,a5,a6,Xy]
 have hA:¬(o.sq<0\/200<o.sq\/o.ch< -1\/40<=o.ch):=zE
 have hB:¬(o.fr<0\/100000000<o.fr):=zE
 have hv:Xy o=if o.ki<1\/5<o.ki then false else if o.ki=1/\(o.n< -100000000\/100000000<o.n)then false else okB o&&Jy (Jo o):=by rw[Xy,if_neg hA,if_neg hB]
 rw[hv];by_cases k1:o.ki=1
 ·have c1:¬(o.ki<1\/5<o.ki):=zE
  rw[if_neg c1];by_cases b1:o.n< -100000000
  ·rw[if_pos ⟨k1,.inl b1⟩];simp[fU,fV,Qp,Qd,Qg,Qi,a1,a2,a3,a4,a5,a6,k1,b1]
  by_cases b2:100000000<o.n
  ·rw[if_pos ⟨k1,.inr b2⟩];simp[fU,fV,Qp,Qd,Qg,Qi,a1,a2,a3,a4,a5,a6,k1,b1,b2]
  rw[if_neg zE];have q:=Wl o.en;have hk:okB o=eX o.en:=by rw[okB,if_pos k1]
  have hr:Jo o={o with n:=0,en:=0}:=by rw[Jo,if_pos k1]
  rw[hr]at kb |-
  rw[hk];simp only[Qp,Qd,Qg,Qi,k1]at kb;cases hi:eX o.en with
  |false=>
   rw[hi]at q;simp[fU,fV,Qp,Qd,Qg,Qi,a1,a2,a3,a4,a5,a6,k1,b1,b2,j7];exact q
  |true=>
   rw[hi]at q;simp[fU,fV,Qp,Qd,Qg,Qi,a1,a2,a3,a4,a5,a6,k1,b1,b2,j7];exact⟨q,kb⟩
 by_cases k2:o.ki=2
 ·have c1:¬(o.ki<1\/5<o.ki):=zE
  rw[if_neg c1,if_neg zE];have q:=Wl o.en;have hk:okB o=eX o.en:=by rw[okB,if_neg k1,if_pos k2]
  have hr:Jo o={o with en:=0}:=by rw[Jo,if_neg k1,if_pos k2]
  rw[hr]at kb |-
  rw[hk];simp only[Qp,Qd,Qg,Qi,k2,zzad,zzah]at kb;try simp only[Qd,Qg,Qi]at q
  cases hi:eX o.en with
  |false=>
   rw[hi]at q;simp[fU,fV,Qp,Qd,Qg,Qi,a1,a2,a3,a4,a5,a6,k2,j7];exact q
  |true=>
   rw[hi]at q;simp[fU,fV,Qp,Qd,Qg,Qi,a1,a2,a3,a4,a5,a6,k2,j7];exact⟨q,kb⟩
 by_cases k3:o.ki=3
 ·have c1:¬(o.ki<1\/5<o.ki):=zE
  rw[if_neg c1,if_neg zE];have q:=uy o.nw hl;have hk:okB o=zz o.nw:=by rw[okB,if_neg k1,if_neg k2,if_pos k3]
  have hr:Jo o={o with nw:=lJ}:=by rw[Jo,if_neg k1,if_neg k2,if_pos k3]
  rw[hr]at kb |-
  rw[hk];simp only[Qp,Qd,Qg,Qi,k3,lJ,zzcc,zzad,zzah]at kb;have kb:=Zo (l:=[.agg [I o.sq,I o.ch,I o.fr,I 3,I o.en,I o.n,I 0,I 0,I 0,I 0,I 0,I 0,.sl .nil [],I o.cl.ki,I o.cl.it,I o.cl.fr,I o.cl.to,I o.cl.re,I o.cl.n,I o.cl.a,I o.cl.b,I o.cu.id,I o.cu.fr,I o.cu.to,I o.cu.pr,.str o.cu.tx]]) kb ⟨Qcq ⟨Wk.refl _,Wk.refl _,Wk.refl _,Wk.refl _,Wk.refl _,Wk.refl _,Wk.refl _,Wk.refl _,Wk.refl _,Wk.refl _,Wk.refl _,Wk.refl _,Wk.sl _ _,Wk.refl _,Wk.refl _,Wk.refl _,Wk.refl _,Wk.refl _,Wk.refl _,Wk.refl _,Wk.refl _,Wk.refl _,Wk.refl _,Wk.refl _,Wk.refl _,Wk.refl _,trivial⟩,trivial⟩;try simp only[Qd]at q
  cases hi:zz o.nw with
  |false=>
   rw[hi]at q;simp[fU,fV,Qp,Qd,Qg,Qi,a1,a2,a3,a4,a5,a6,k3,j7];exact q
  |true=>
   rw[hi]at q;simp[fU,fV,Qp,Qd,Qg,Qi,a1,a2,a3,a4,a5,a6,k3,j7,lJ];exact⟨q,kb⟩
 by_cases k4:o.ki=4
 ·have c1:¬(o.ki<1\/5<o.ki):=zE
  rw[if_neg c1,if_neg zE];have q:=We o.cl;have hk:okB o=Xj o.cl:=by rw[okB,if_neg k1,if_neg k2,if_neg k3,if_pos k4]
  have hr:Jo o={o with cl:=og}:=by rw[Jo,if_neg k1,if_neg k2,if_neg k3,if_pos k4]
  rw[hr]at kb |-
  rw[hk];simp only[Qp,Qd,Qg,Qi,k4,og,zzad,zzah]at kb;try simp only[Qg]at q
  cases hi:Xj o.cl with
  |false=>
   rw[hi]at q;simp[fU,fV,Qp,Qd,Qg,Qi,a1,a2,a3,a4,a5,a6,k4,j7];exact q
  |true=>
   rw[hi]at q;simp[fU,fV,Qp,Qd,Qg,Qi,a1,a2,a3,a4,a5,a6,k4,j7,og];exact⟨q,kb⟩
 by_cases k5:o.ki=5
 ·have c1:¬(o.ki<1\/5<o.ki):=zE
  rw[if_neg c1,if_neg zE];have q:=tq o.cu;have hk:okB o=tj o.cu:=by rw[okB,if_neg k1,if_neg k2,if_neg k3,if_neg k4]
  have hr:Jo o={o with cu:=oh}:=by rw[Jo,if_neg k1,if_neg k2,if_neg k3,if_neg k4]
  rw[hr]at kb |-
  rw[hk];simp only[Qp,Qd,Qg,Qi,k5,oh,zzad,zzah]at kb;simp only[Qi]at q;cases hi:tj o.cu with
  |false=>
   rw[hi]at q;simp[fU,fV,Qp,Qd,Qg,Qi,a1,a2,a3,a4,a5,a6,k5,j7];exact q
  |true=>
   rw[hi]at q;simp[fU,fV,Qp,Qd,Qg,Qi,a1,a2,a3,a4,a5,a6,k5,j7,oh];exact⟨q,kb⟩
 rw[if_pos zE];simp[fU,fV,Qp,Qd,Qg,Qi,a1,a2,a3,a4,a5,a6,k1,k2,k3,k4,k5]
open Go Go.Abs
def Kv(g:Pg)(o:Od):Bool:=Xy o&&(decide (o.ch= -1)||decide (o.ch=g.p.ch))
def tw(g:Pg)(o:Od)(hl:o.nw.al.length<=8796093022208):Pure Tryz.prog aA 68 [.agg (Qm g),.agg (Qp o)] (.bool (Kv g o)):=by
 have k:=tu o hl;simp only[Qp,Qd,Qg,Qi,zzad,zzah]at k;refine Qo ama (fun _ _ _=>.bool (Xy o)) zd ?_;cases hv:Xy o with
 |false=>
  rw[hv]at k;simp[acB,acC,Qm,Qa,Qp,Qd,Qg,Qi,hv,Kv];exact k
 |true=>
  rw[hv]at k;by_cases h1:o.ch= -1
  ·simp[acB,acC,Qm,Qa,Qp,Qd,Qg,Qi,hv,Kv,h1];rw[h1]at k;exact k
  simp[acB,acC,Qm,Qa,Qp,Qd,Qg,Qi,hv,Kv,h1];refine⟨k,?_⟩;rw[zzbv];simp[h1]
def Ux{α:Type}(P:α->Bool):List α->Nat->Int
 |[],_=> -1
 |x::r,i=>if P x=true then i else Ux P r (i+1)
def Qdk{α:Type}{P:α->Bool}:∀{L:List α}{i:Nat},L.find? P=none->Ux P L i= -1
 |[],_,_=>rfl
 |a::r,i,h=>by
  rw[zzeo]at h;split at h
  ·cases h
  rename_i hn;rw[Ux,if_neg (by simp[hn])];exact Qdk h
def Wm{α:Type}{P:α->Bool}{a:α}:∀{L:List α}{i:Nat},L.find? P=some a->∃k:Nat,Ux P L i=((i+k:Nat):Int)/\L[k]?=some a/\P a=true
 |[],_,h=>by cases h
 |b::r,i,h=>by
  rw[zzeo]at h;split at h
  ·rename_i hb;cases h;exact⟨0,by simp[Ux,hb],rfl,hb⟩
  rename_i hn;obtain⟨k,h1,h2,h3⟩:=Wm (i:=i+1) h;exact⟨k+1,by rw[Ux,if_neg (by simp[hn]),h1];omega,by simpa using h2,h3⟩
def yB(L:List bE)(P:bE->Bool)(k:FuncId)(first cap:List AV)(hl:L.length<=1000000000)(h1:∀m,first.map (bJ m 6)=first)(h2:∀m,cap.map (bJ m 6)=cap)
  (hp:∀e∈L,Pure Tryz.prog aA k (first++.agg (Qe e)::cap) (.bool (P e)))(orc:Nat->FuncId->List AV->AV)(ho:∀d e,e∈L->orc d k (first++.agg (Qe e)::cap)=.bool (P e)):
  Pure Tryz.prog aA 106 [.sl .ro (L.map Qe),.fn k first cap] (I (Ux P L 0)):=by
 refine Qo ND orc zd ?_;simp[U0];refine Qk iW (fun f m=>∃i:Nat,f 8=I i/\i<=L.length/\Ux P (L.drop i) i=Ux P L 0/\m=⟨[],[],fun _=>.gone,0⟩) (fun f _=>L.length-(numOf (f 8)).toNat) ?_ ?_
 ·exact⟨0,zd,zE,zd,rfl⟩
 rintro f m ⟨i,f8,hi,hr,rfl⟩;rcases zzaa i L.length with ai|bz
 ·obtain⟨a,ha⟩:=aU ai;have ah:Qh (L.map Qe) i=Qe a:=Qt (by simp[ha]);have aa:(i:Int)<(L.length:Int):=zE
  have hw:=bM i zE;have hd:L.drop i=a::L.drop (i+1):=by rw[zzaf ai,(zza.1 ha).2]
  have jh:=hp a (zzac ha);have Pw:=fun d=>ho d a (zzac ha);rw[hd,Ux]at hr;simp only[Qe]at jh Pw;cases hP:P a with
  |true=>
   rw[hP]at jh Pw;rw[if_pos hP]at hr;simp[f8,iW,NC,aa,ah,Qe,h1,h2,Pw];exact⟨jh,hr⟩
  |false=>
   rw[hP]at jh Pw;rw[if_neg (by simp[hP])]at hr;simp[f8,iW,aa,ah,Qe,h1,h2,Pw,hw];refine⟨jh,aP,⟨i+1,zd,zE,hr⟩,zE⟩
 obtain rfl:i=L.length:=zE
 rw[zzbn,Ux]at hr;simp[f8,iW,NC];exact hr
def SD(e:bE)(f:Int)(h:Ul e)(hf:om f):Pure Tryz.prog aA 281 [.agg [I f],.agg (Qe e)] (.bool (th f e)):=by
 refine Qo aeL (fun _ _ _=>.junk) zd ?_;obtain⟨⟨a1,a2⟩,⟨a3,a4⟩,_⟩:=h;obtain⟨a5,a6⟩:=hf;by_cases h1:e.st<=f
 ·have w1:=wu e.st zE zE;have w2:=wu f zE zE;have w3:=wu (f-e.st) zE zE;have w4:=wu e.fr zE zE;by_cases h2:0<e.fr
  ·have:(f-e.st<e.fr)=(f<e.st+e.fr):=by apply propext;omega
   simp[Ot,Ou,Qe,h1,h2,th,w1,w2,w3,w4,this]
  have:¬f<e.st+e.fr:=zE
  simp[Ot,Ou,Qe,h1,h2,th,this]
 simp[Ot,Ou,Qe,h1,th]
def Mo(e:bE)(row:List AV)(id:Int):Pure Tryz.prog aA 282 [.agg (Qe e),.ep (I id::row) 0] (.bool (decide (e.id=id))):=by
 refine Qo aeM (fun _ _ _=>.junk) zd ?_;simp[aju,ajv,Qe];rw[zzbv];simp
def tC(n:Int):Prop:= -9223372036854775808<=n/\n<=9223372036854775807
open Go Go.Abs
def HC(L:List En)(P:En->Bool)(k:FuncId)(first cap:List AV)(hl:L.length<=1000000000)(h1:∀m,first.map (bJ m 6)=first)(h2:∀m,cap.map (bJ m 6)=cap)
  (hp:∀e∈L,Pure Tryz.prog aA k (first++.agg (Qd e)::cap) (.bool (P e)))(orc:Nat->FuncId->List AV->AV)(ho:∀d e,e∈L->orc d k (first++.agg (Qd e)::cap)=.bool (P e)):
  Pure Tryz.prog aA 218 [.sl .ro (L.map Qd),.fn k first cap] (I (Ux P L 0)):=by
 refine Qo CE orc zd ?_;simp[Oa];refine Qk fE (fun f m=>∃i:Nat,f 8=I i/\i<=L.length/\Ux P (L.drop i) i=Ux P L 0/\m=⟨[],[],fun _=>.gone,0⟩) (fun f _=>L.length-(numOf (f 8)).toNat) ?_ ?_
 ·exact⟨0,zd,zE,zd,rfl⟩
 rintro f m ⟨i,f8,hi,hr,rfl⟩;rcases zzaa i L.length with ai|bz
 ·obtain⟨a,ha⟩:=aU ai;have ah:Qh (L.map Qd) i=Qd a:=Qt (by simp[ha]);have aa:(i:Int)<(L.length:Int):=zE
  have hw:=bM i zE;have hd:L.drop i=a::L.drop (i+1):=by rw[zzaf ai,(zza.1 ha).2]
  have jh:=hp a (zzac ha);have Pw:=fun d=>ho d a (zzac ha);rw[hd,Ux]at hr;simp only[Qd]at jh Pw;cases hP:P a with
  |true=>
   rw[hP]at jh Pw;rw[if_pos hP]at hr;simp[f8,fE,AN,aa,ah,Qd,h1,h2,Pw];exact⟨jh,hr⟩
  |false=>
   rw[hP]at jh Pw;rw[if_neg (by simp[hP])]at hr;simp[f8,fE,aa,ah,Qd,h1,h2,Pw,hw];refine⟨jh,aP,?_⟩
   ·exact⟨⟨i+1,zd,zE,hr⟩,zE⟩
 obtain rfl:i=L.length:=zE
 rw[zzbn,Ux]at hr;simp[f8,fE,AN];exact hr
def HD(e:En)(id:Int):Pure Tryz.prog aA 278 [.agg (Qd e),.ep [I id] 0] (.bool (decide (e.id=id))):=by
 refine Qo aeK (fun _ _ _=>.junk) zd ?_;simp[ajs,ajt,Qd];rw[zzbv];simp
def Qr(g:Pg)(f:Int)(mid:Nat):List AV:=Qm g++[I f,.mp mid]
def Jj(g:Pg)(id:Int):Int:=Ux (fun e:En=>decide (e.id=id)) g.p.ens 0
def SE(Y:YT)(m:AM)(g:Pg)(f:Int)(mid:Nat)(id:Int)(hl:g.p.ens.length<=1000000000):an Tryz.prog aA Y 211 [.agg (Qr g f mid),I id] m (fun r m'=>m'=m/\r=I (Jj g id)):=by
 obtain⟨mb,ml,ms,mn⟩:=m;have k:=HC g.p.ens (fun e:En=>decide (e.id=id)) 278 [] [.ep [I id] 0] hl (fun _=>rfl) (fun _=>zd) (fun e _=>HD e id) (fun _ _ xs=>match xs with|.agg (.int _ n::_)::_=>.bool (decide (n=id))|_=>.junk) (fun _ e _=>rfl);refine an.read (Xd ad5 (fun _ _ _=>I (Jj g id)) zd ?_);simp[aiQ,aiR,Qr,Qm,Qa,Jj];exact⟨k,.int _ _⟩
def lK{p:Prop}(h:p:=by repeat'(first|exact Idle.int _ _|exact Idle.bool _|exact Idle.str _|exact Idle.ro _|exact Idle.nil _|exact Idle.full _|exact List.forall_mem_nil _|refine List.forall_mem_cons.2 ⟨?_,?_⟩|refine Idle.aZ ?_|refine Idle.agg ?_)):p:=h
def gz(bx:List (List AV))(mid:Nat)(b:List (Int×Bool)):Prop:=mid<bx.length/\Qh bx mid=[.aL 0 (bH .bool b)]
def gz.ext{bx:List (List AV)}{mid:Nat}{b:List (Int×Bool)}(h:gz bx mid b)(ex:List (List AV)):Qh (bx++ex) mid=[.aL 0 (bH .bool b)]:=by rw[Ql h.1,h.2]
def zB(b:List (Int×Bool))(id:Int):Bool:=(af id b).getD false
def Jp(g:Pg)(f:Int)(b:List (Int×Bool)):Option bE:=match g.ev.find? (th f)with
 |none=>none
 |some e=>if e.id=0 then none else if zB b e.id=true then some e else none
def rX(g:Pg)(id:Int):Int:=match g.ev.find? (fun e=>decide (e.id=id))with
 |none=>0
 |some e=>e.st
def vg(f:Int)(e:bE):bE:={e with st:=f,fr:=e.fr-(f-e.st),i:=e.i+(f-e.st)}
def Ut(g:Pg)(f:Int)(b:List (Int×Bool)):AV:=match Jp g f b with
 |none=>.aZ [.agg [I 0,I 0,I 0,I 0,I 0,I 0,.sl .nil []],I 0,.bool false]
 |some e=>.aZ [.agg (Qe (vg f e)),I (rX g e.id),.bool true]
def aaD(Y:YT)(m:AM)(g:Pg)(f:Int)(mid:Nat)(b:List (Int×Bool))(hl:g.ev.length<=1000000000)(hs:∀e∈g.ev,Ul e)(hf:om f)(hb:gz m.boxes mid b):
  an Tryz.prog aA Y 224 [.agg (Qr g f mid)] m (fun r m'=>m'=m/\r=Ut g f b):=by
 obtain⟨mb,ml,ms,mn⟩:=m;have hB:∀ex,Qh (mb++ex) mid=[.aL 0 (bH .bool b)]:=hb.ext;have hN:∀n:Nat,¬(n:Int)<0:=fun n=>zE
 have k1:=yB g.ev (th f) 281 [.agg [I f]] [] hl (fun _=>zd) (fun _=>zd) (fun e he=>SD e f (hs e he) hf) (fun _ _ xs=>match xs with|[_,.agg [_,_,.int _ st,.int _ fr,_,_,_]]=>.bool (th f ⟨0,0,st,fr,0,0,[],false⟩)|_=>.junk) (fun _ e _=>rfl)
 have k2:∀(row:List AV)(id:Int),Pure Tryz.prog aA 106 [.sl .ro (g.ev.map Qe),.fn 282 [] [.ep (I id::row) 0]] (I (Ux (fun e=>decide (e.id=id)) g.ev 0)):=fun row id=>
  yB g.ev (fun e=>decide (e.id=id)) 282 [] [.ep (I id::row) 0] hl (fun _=>zd) (fun _=>zd) (fun e _=>Mo e row id) (fun _ _ xs=>match xs with|.agg (.int _ n::_)::_=>.bool (decide (n=id))|_=>.junk) (fun _ e _=>rfl)
 cases h1:g.ev.find? (th f)with
 |none=>
  rw[Qdk h1]at k1;refine an.read (Xd Ob (fun _ _ _=>I (-1)) zd ?_);simp[AO,AP,Qr,Qm,Qa,Ut,Jp,h1];exact⟨k1,lK⟩
 |some e=>
  obtain⟨n,g1,g2,g3⟩:=Wm (i:=0) h1;have k2':=k2;have hn:n<g.ev.length:=(zza.1 g2).1;have dU:=zzac g2
  have hex:(g.ev.find? fun e'=>decide (e'.id=e.id)).isSome=true:=by
   rw[List.find?_isSome];exact⟨e,dU,zd⟩
  obtain⟨e2,he2⟩:=zzci.1 hex;obtain⟨n2,q1,q2,q3⟩:=Wm (i:=0) he2;have qY:n2<g.ev.length:=(zza.1 q2).1;rw[g1,zzbw]at k1;have r1:Qh (g.ev.map Qe) n=Qe e:=Qt (by simp[g2]);have r2:Qh (g.ev.map Qe) n2=Qe e2:=Qt (by simp[q2]);have qB:(n:Int)<(g.ev.length:Int):=zE
  have ays:(n2:Int)<(g.ev.length:Int):=zE
  obtain⟨⟨a1,a2⟩,⟨a3,a4⟩,⟨a5,a6⟩,_⟩:=hs e dU;obtain⟨f1,f2⟩:=hf;have hon:e.st<=f/\f<e.st+e.fr:=by simpa[th]using g3
  have w1:IntKind.i64.wrap (f-e.st)=f-e.st:=by rw[Qj]<;>omega
  have w2:IntKind.i64.wrap (e.fr-(f-e.st))=e.fr-(f-e.st):=by rw[Qj]<;>omega
  have w3:IntKind.i64.wrap (e.i+(f-e.st))=e.i+(f-e.st):=by rw[Qj]<;>omega
  refine an.read (Xd Ob (fun d _ _=>if d=15 then I n else I n2) zd ?_);have aK:e2.id=e.id:=by simpa using q3
  by_cases h0:e.id=0
  ·simp[AO,AP,Qr,Qm,Qa,Ut,Jp,h1,Qe,qB,r1,h0];exact⟨k1,lK⟩
  rcases Xq AV.bool e.id b 0 with⟨b1,b2,_⟩|⟨u,u',b1,b2,_⟩
  ·simp[AO,AP,Qr,Qm,Qa,Ut,Jp,h1,Qe,qB,r1,h0,zB,b1,b2,hB,hN];exact⟨k1,lK⟩
  cases u with
  |false=>
   simp[AO,AP,Qr,Qm,Qa,Ut,Jp,h1,Qe,qB,r1,h0,zB,b1,b2,hB,hN];exact⟨k1,lK⟩
  |true=>
   have k2:=k2 [I e.it,I e.st,I e.fr,I e.i,I e.re,.sl .ro (e.al.map Qf)] e.id;rw[q1,zzbw]at k2;simp[AO,AP,Qr,Qm,Qa,Ut,Jp,h1,Qe,qB,r1,h0,zB,b1,b2,hB,hN,w1,w2,w3,vg,rX,he2];refine⟨k1,k2,Ze ?_⟩;simp[ays,r2,Qe];exact lK
