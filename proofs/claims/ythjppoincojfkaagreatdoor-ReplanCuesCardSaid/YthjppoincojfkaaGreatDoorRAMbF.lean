import Derived.Test.YthjppoincojfkaaGreatDoorRAMbB
set_option linter.all false
set_option maxRecDepth 100000
set_option maxHeartbeats 64000000
namespace Go.Proofs.YthjppoincojfkaaGreatDoor
open Go Go.Abs
def Og:ByteArray:=⟨#[32]⟩
def jU{α:Type}(l:List α):l=[]\/∃L b,l=L++[b]:=by
 rcases zzhe l with h|⟨L,b,h⟩
 ·exact .inl h
 exact .inr ⟨L,b,by rw[h,zzhf]⟩
def Li(eu:List ByteArray)(w:ByteArray):List ByteArray:=match eu.getLast? with
 |some r=>if r.size+1+w.size<=32 then eu.dropLast++[r++(Og++w)]else eu++[w]
 |none=>[w]
theorem ym(w:ByteArray):Li [] w=[w]:=rfl
def rI(pre:List ByteArray)(r w:ByteArray):Li (pre++[r]) w=if r.size+1+w.size<=32 then pre++[r++(Og++w)]else pre++[r]++[w]:=by simp[Li]
def lay:List ByteArray->List ByteArray->Option (List ByteArray)
 |eu,[]=>some eu
 |eu,w::r=>if 32<w.size then none else lay (Li eu w) r
def Dy:∀(a b eu:List ByteArray),lay eu (a++b)=(lay eu a).bind fun x=>lay x b
 |[],_,_=>rfl
 |w::r,b,eu=>by
  simp only[zzad,lay];split
  ·rfl
  exact Dy r b _
def Dz(s:ByteArray):∀(n i:Nat)(first:Option Nat),(Y5 s n i first).length<=n+1
 |0,i,first=>by rw[Y5];cases first<;>simp[tc]
 |n+1,i,first=>by
  rw[Y5];split
  ·have:=Dz s n (i+1) (some (first.getD i));omega
  have:=Dz s n (i+1) none;rw[zzak];have h2:(tc s i first).length<=1:=by cases first<;>simp[tc]
  omega
def ZC(a b:ByteArray):(a++b).size=a.size+b.size:=zd
def aeW{eu:List ByteArray}{w:ByteArray}(h:∀r∈eu,r.size<=32)(hw:w.size<=32):∀r∈Li eu w,r.size<=32:=by
 rcases jU eu with rfl|⟨pre,r,rfl⟩
 ·intro x hx;simp[ym]at hx;subst hx;exact hw
 rw[rI];split
 ·intro x hx;rcases zzam.1 hx with hx|hx
  ·exact h x (by simp[hx])
  simp only[zzcq]at hx;subst hx;rw[ZC,ZC];have:Og.size=1:=rfl;omega
 intro x hx;rcases zzam.1 hx with hx|hx
 ·exact h x hx
 simp only[zzcq]at hx;subst hx;exact hw
def ZD(eu:List ByteArray)(w:ByteArray):(Li eu w).length<=eu.length+1:=by
 rcases jU eu with rfl|⟨pre,r,rfl⟩
 ·simp[ym]
 rw[rI];split<;>simp
def mE(s:ByteArray):Option (List ByteArray):=if 200<s.size\/Y4 s=false then none else match lay [] (nS s)with
 |some l=>if l=[]\/4<l.length then none else some l
 |none=>none
def Kr(l:List ByteArray):P2:=l.map AV.str
def Lj(r:ByteArray):P2:=[.str r]
def mF:Option (List ByteArray)->AV
 |none=>.aS [.sl .nil [],.bool false]
 |some l=>.aS [.sl .ro (l.map Lj),.bool true]
def RV(eu:List ByteArray)(V:AV)(rest:T5):Prop:=(eu=[]/\V=.sl .nil [])\/(eu≠[]/\∃k,V=.bs (k+3) 0 eu.length 1/\k<rest.length/\Qj rest k=Kr eu)
def asX(q:List ByteArray)(i:Nat)(m:AM):Prop:=∃(eu:List ByteArray)(rest:T5)(V:AV),lay [] (q.take i)=some eu/\(∀r∈eu,r.size<=32)/\eu.length<=i/\m.boxes=[.sl .nil []]::[.bool false]::[V]::rest/\RV eu V rest
def axx(q:List ByteArray)(ex:Exit)(m:AM):Prop:=ex=.ret/\lay [] q=none/\∃rest,m.boxes=[.sl .nil []]::[.bool false]::rest
def Bu(s:ByteArray):UV:=fun d f _=>if f=999999 then(if d=49 then .aJ 0 []else .junk)else if f=158 then .bool (Y4 s)else .fn 211 [] [.ep [.str s] 0]
def Ll(l:List ByteArray):aY 1 l.length (Kr l)=l.map Lj:=by
 induction l with
 |nil=>rfl
 |cons a r ih=>
  show aY 1 (r.length+1) (AV.str a::Kr r)=_;rw[wQ];simp[ih,Lj]
def GR(m:AM)(d:Nat)(l:List ByteArray):(Kr l).map (bz m (d+1))=Kr l:=by
 induction l with
 |nil=>rfl
 |cons a r ih=>simp[Kr]at ih |-
def RV.ext{eu:List ByteArray}{V:AV}{rest:T5}(h:RV eu V rest)(ex:T5):RV eu V (rest++ex):=by
 obtain h|⟨h1,k,h2,h3,h4⟩:=h
 ·exact .inl h
 exact .inr ⟨h1,k,h2,by simp;omega,by rw[Qn h3,h4]⟩
def Q5(s:ByteArray):Pure Tryz.prog aD 100 [.str s] (mF (mE s)):=by
 refine Qo Mw (Bu s) zd ?_;by_cases h2:200<s.size
 ·have Im:(200:Int)<(s.size:Int):=zE
  have:mE s=none:=by rw[mE,if_pos (.inl h2)]
  rw[this];simp[El,r9,Im,mF]
 have Im:¬(200:Int)<(s.size:Int):=zE
 have kp:=yh s zE;have kw:=Lc s;have kit:=Ld s zE;cases hp:Y4 s with
 |false=>
  rw[hp]at kp;have:mE s=none:=by rw[mE,if_pos (.inr hp)]
  rw[this];simp[El,r9,Im,mF,Bu,hp];exact kp
 |true=>
  rw[hp]at kp
  have zQ:mE s=match lay [] (nS s)with
   |some l=>if l=[]\/4<l.length then none else some l
   |none=>none:=by rw[mE,if_neg (by simp[hp];omega)]
  rw[zQ];have hql:(nS s).length<=201:=by have:=Dz s s.size 0 none;unfold nS;omega
  generalize nS s=q at kit hql;simp[El,Im,Bu,hp];refine⟨kp,kw,?_⟩;refine jk (xs:=q.map fun w=>[.str w]) zd kit (by intro x hx;simp at hx;obtain⟨a,_,rfl⟩:=hx;rfl) (asX q) (axx q) ?_ ?_ ?_ ?_ ?_ ?_
  ·exact⟨[],[],.sl .nil [],rfl,fun _ h=>(by cases h),zd,zd,.inl ⟨rfl,rfl⟩⟩
  ·rintro i m m' ⟨eu,rest,V,g1,g2,g3,g4,g5⟩ ⟨⟨b2,e2⟩,_,_⟩;exact⟨eu,rest++b2,V,g1,g2,g3,by rw[e2,g4];simp,g5.ext b2⟩
  ·rintro ex m m' ⟨g1,g2,rest,g3⟩ ⟨⟨b2,e2⟩,_,_⟩;exact⟨g1,g2,rest++b2,by rw[e2,g3];simp⟩
  ·rintro l1 i m x hg hr ⟨eu,rest,V,g1,g2,g3,g4,g5⟩ hx K' k1 k2 k3
   obtain⟨w,hy,rfl⟩:∃w,q[i]?=some w/\[AV.str w]=x:=by
    rw[zzbm]at hx;cases hq:q[i]? with
    |none=>rw[hq]at hx;cases hx
    |some y=>rw[hq]at hx;exact⟨y,rfl,Option.some.inj hx⟩
   have ai:i<q.length:=(zza.1 hy).1;have bA:q.take (i+1)=q.take i++[w]:=by rw[zzax,hy];rfl
   have gO:lay [] (q.take (i+1))=if 32<w.size then none else some (Li eu w):=by
    rw[bA,Dy,g1];simp[lay]
   rw[Jm]at g4;obtain⟨mb,ml,ms,mn⟩:=m;simp only at g4 hr;subst g4;by_cases hw:32<w.size
   ·have hw':(32:Int)<(w.size:Int):=zE
    simp[Zr,hr,hw'];refine k2 _ ⟨rfl,?_,_,rfl⟩;have hq:q=q.take (i+1)++q.drop (i+1):=(zzdy _ _).symm;rw[hq,Dy,gO,if_pos hw];rfl
   have hw':¬(32:Int)<(w.size:Int):=zE
   rw[if_neg hw]at gO;have hsz:=aeW g2 (by omega:w.size<=32);have dG:=ZD eu w;obtain⟨h0,hV⟩|⟨h0,k,hV,dD,ee⟩:=g5
   ·subst h0;subst hV;have tO:IntKind.i64.wrap (-1)= -1:=by rw[Ql]<;>omega
    simp[Zr,hr,hw',Bu,tO];refine k1 _ ⟨[w],rest++[[.str w]],.bs (rest.length+3) 0 1 1,by rw[gO,ym],fun r h=>by simp at h;subst h;omega,zd,zd,.inr ⟨zd,rest.length,rfl,zd,by simp[Kr]⟩⟩
   subst hV;obtain⟨pre,r,rfl⟩:=(jU eu).resolve_left h0;have cB:pre.length+1<=i:=by simpa using g3
   have tO:IntKind.i64.wrap (pre.length:Int)=(pre.length:Int):=by rw[Ql]<;>omega
   have iE:(Kr (pre++[r])).length=pre.length+1:=by simp[Kr]
   have ayO:=g2 r zd;have hsC:Kr (pre++[r])=Kr pre++[.str r]:=by simp[Kr]
   have uu:(Kr pre).length=pre.length:=by simp[Kr]
   have ZE:(Kr (pre++[r])).take (pre.length+1)=Kr (pre++[r]):=zzau zE;have fu:(Kr (pre++[r])).drop pre.length=[.str r]:=by rw[hsC,<- uu,zzfy]
   have lJ:IntKind.i64.wrap ((r.size:Int)+1)=(r.size:Int)+1:=by rw[Ql]<;>omega
   have fW:IntKind.i64.wrap ((r.size:Int)+1+(w.size:Int))=(r.size:Int)+1+(w.size:Int):=by rw[Ql]<;>omega
   rw[rI]at gO hsz dG;by_cases hc:r.size+1+w.size<=32
   ·rw[if_pos hc]at gO hsz dG;have uv:(r.size:Int)+1+(w.size:Int)<=32:=zE
    have bS:(Kr (pre++[r])).set pre.length (.str (r++(Og++w)))=Kr (pre++[r++(Og++w)]):=by
     rw[hsC,<- uu,zzde _ _ (zzab _)];simp[Kr]
    simp only[Og]at bS;simp[Zr,hr,hw',Bu,tO,ee,fu,iE,lJ,fW,uv,bS]
    have hrk:Qj (rest.set k (Kr (pre++[r++(Og++w)]))) k=Kr (pre++[r++(Og++w)]):=by
     simp[Qj,zzaw,-Yd,dD]
    have hs1:Og.size=1:=rfl;refine⟨zE,(by show Og.size+w.size<=_;omega),(by show r.size+(Og.size+w.size)<=_;omega),zE,dD,k1 _ ⟨pre++[r++(Og++w)],rest.set k (Kr (pre++[r++(Og++w)])),.bs (k+3) 0 (pre.length+1) 1,gO,hsz,by simp;omega,by simp[Og],.inr ⟨zd,k,zd,Nm dD,hrk⟩⟩⟩
   rw[if_neg hc]at gO hsz dG;have uv:¬(r.size:Int)+1+(w.size:Int)<=32:=zE
   simp[Zr,hr,hw',Bu,tO,ee,fu,iE,lJ,fW,uv];have aO:¬Kr (pre++[r])=[]:=fun h=>by rw[h]at iE;simp at iE
   have hR:(rest.set k []).length=rest.length:=zd
   refine⟨zE,⟨⟨dD,aO⟩,zE⟩,k1 _ ⟨pre++[r]++[w],rest.set k []++[Kr (pre++[r])++[.str w]],.bs (rest.length+3) 0 (pre.length+1+1) 1,gO,hsz,by simp;omega,by simp[ZE],.inr ⟨zd,rest.length,zd,zd,?_⟩⟩⟩;rw[<- hR,Wb];simp[Kr]
  ·rintro m ⟨eu,rest,V,g1,g2,g3,g4,g5⟩;rw[zzbt,zzbx]at g1;rw[g1];obtain⟨mb,ml,ms,mn⟩:=m;simp only at g4;subst g4;obtain⟨h0,hV⟩|⟨h0,k,hV,dD,ee⟩:=g5
   ·subst h0;subst hV;simp[r9,mF]
   subst hV;have aH:¬eu.length=0:=fun h=>h0 (zzbz.1 h);have iE:(Kr eu).length=eu.length:=by simp[Kr]
   by_cases h4:4<eu.length
   ·have Su:(4:Int)<(eu.length:Int):=zE
    simp[r9,mF,h0,h4,Su]
   have Su:¬(4:Int)<(eu.length:Int):=zE
   have hmp:=fun m=>GR m 4 eu;have axy:=fun m=>GR m 3 eu;have fE:=Ll eu;simp[r9,mF,h0,h4,Su,ee,axy,fE,iE]
  rintro ex m ⟨rfl,g2,rest,g3⟩;rw[g2];simp[r9,g3,mF]
open Go Go.Abs
def iB(c:Cue):Bool:=if c.id<1\/4611686018427387903<c.id then false else if c.to=0 then decide (c.fr=0/\c.pr=0/\c.tx=eB)else
 if c.fr<0\/c.to<=c.fr\/100000000<c.to then false else if c.pr<0\/3<c.pr then false else(mE c.tx).isSome
def td(c:Cue):Pure Tryz.prog aD 49 [.agg (Qi c)] (.bool (iB c)):=by
 have k:=Q5 c.tx;refine Qo SV (fun _ _ _=>mF (mE c.tx)) zd ?_;by_cases h1:c.id<1
 ·simp[tI,tJ,Qi,h1,iB]
 by_cases h2:4611686018427387903<c.id
 ·simp[tI,tJ,Qi,h1,h2,iB]
 by_cases h3:c.to=0
 ·simp[tI,tJ,Qi,h1,h2,h3,iB];rw[zzcz];simp[GM]
 by_cases h4:c.fr<0
 ·simp[tI,tJ,Qi,h1,h2,h3,h4,iB]
 by_cases h5:c.to<=c.fr
 ·simp[tI,tJ,Qi,h1,h2,h3,h4,h5,iB]
 by_cases h6:100000000<c.to
 ·simp[tI,tJ,Qi,h1,h2,h3,h4,h5,h6,iB]
 by_cases h7:c.pr<0
 ·simp[tI,tJ,Qi,h1,h2,h3,h4,h5,h6,h7,iB]
 by_cases h8:3<c.pr
 ·simp[tI,tJ,Qi,h1,h2,h3,h4,h5,h6,h7,h8,iB]
 cases hr:mE c.tx with
 |none=>
  rw[hr]at k;simp[tI,tJ,Qi,h1,h2,h3,h4,h5,h6,h7,h8,iB,hr,mF];exact k
 |some l=>
  rw[hr]at k;simp[tI,tJ,Qi,h1,h2,h3,h4,h5,h6,h7,h8,iB,hr,mF];exact k
def Sx:En:=⟨0,0,0,0,0,0,[]⟩
def ZF:Cl:=⟨0,0,0,0,0,0,0,0⟩
def ZG:Cue:=⟨0,0,0,0,eB⟩
def Kb(o:Od):Od:=if o.ki=1 then{o with n:=0,en:=0}else if o.ki=2 then{o with en:=0}else if o.ki=3 then{o with nw:=Sx}else if o.ki=4 then{o with cl:=ZF}else{o with cu:=ZG}
def okB(o:Od):Bool:=if o.ki=1 then uW o.en else if o.ki=2 then uW o.en else if o.ki=3 then pZ o.nw else if o.ki=4 then Zd o.cl else iB o.cu
def Vi(o:Od):Bool:=if o.sq<0\/200<o.sq\/o.ch< -1\/40<=o.ch then false else if o.fr<0\/100000000<o.fr then false else
 if o.ki<1\/5<o.ki then false else if o.ki=1/\(o.n< -100000000\/100000000<o.n)then false else okB o&&Qcw (Kb o)
def jV(a b:Bool):UV:=fun _ f _=>if f=46 then .bool b else .bool a
def jW(o:Od)(hl:o.nw.al.length<=8796093022208):Pure Tryz.prog aD 22 [.agg (Qq o)] (.bool (Vi o)):=by
 have kb:=La (Kb o);have kk:o.ki=3\/Pure Tryz.prog aD 46 [.agg (Qq (Kb o))] (.bool (Qcw (Kb o))):=.inr kb;refine Qo SH (jV (okB o) (Qcw (Kb o))) zd ?_;by_cases a1:o.sq<0
 ·simp[eW,eX,Qq,Qd,Qg,Qi,a1,Vi]
 by_cases a2:200<o.sq
 ·simp[eW,eX,Qq,Qd,Qg,Qi,a1,a2,Vi]
 by_cases a3:o.ch< -1
 ·simp[eW,eX,Qq,Qd,Qg,Qi,a1,a2,a3,Vi]
 by_cases a4:40<=o.ch
 ·simp[eW,eX,Qq,Qd,Qg,Qi,a1,a2,a3,a4,Vi]
 by_cases a5:o.fr<0
 ·simp[eW,eX,Qq,Qd,Qg,Qi,a1,a2,a3,a4,a5,Vi]
 by_cases a6:100000000<o.fr
 ·simp[eW,eX,Qq,Qd,Qg,Qi,a1,a2,a3,a4,a5,a6,Vi]
 have hA:¬(o.sq<0\/200<o.sq\/o.ch< -1\/40<=o.ch):=zE
 have hB:¬(o.fr<0\/100000000<o.fr):=zE
 have hv:Vi o=if o.ki<1\/5<o.ki then false else if o.ki=1/\(o.n< -100000000\/100000000<o.n)then false else okB o&&Qcw (Kb o):=by rw[Vi,if_neg hA,if_neg hB]
 rw[hv];by_cases k1:o.ki=1
 ·have c1:¬(o.ki<1\/5<o.ki):=zE
  rw[if_neg c1];by_cases b1:o.n< -100000000
  ·rw[if_pos ⟨k1,.inl b1⟩];simp[eW,eX,Qq,Qd,Qg,Qi,a1,a2,a3,a4,a5,a6,k1,b1]
  by_cases b2:100000000<o.n
  ·rw[if_pos ⟨k1,.inr b2⟩];simp[eW,eX,Qq,Qd,Qg,Qi,a1,a2,a3,a4,a5,a6,k1,b1,b2]
  rw[if_neg zE];have q:=Wi o.en;have hk:okB o=uW o.en:=by rw[okB,if_pos k1]
  have hr:Kb o={o with n:=0,en:=0}:=by rw[Kb,if_pos k1]
  rw[hr]at kb |-
  rw[hk];simp only[Qq,Qd,Qg,Qi,k1]at kb;cases hi:uW o.en with
  |false=>
   rw[hi]at q;simp[eW,eX,Qq,Qd,Qg,Qi,a1,a2,a3,a4,a5,a6,k1,b1,b2,jV];exact q
  |true=>
   rw[hi]at q;simp[eW,eX,Qq,Qd,Qg,Qi,a1,a2,a3,a4,a5,a6,k1,b1,b2,jV];exact⟨q,kb⟩
 by_cases k2:o.ki=2
 ·have c1:¬(o.ki<1\/5<o.ki):=zE
  rw[if_neg c1,if_neg zE];have q:=Wi o.en;have hk:okB o=uW o.en:=by rw[okB,if_neg k1,if_pos k2]
  have hr:Kb o={o with en:=0}:=by rw[Kb,if_neg k1,if_pos k2]
  rw[hr]at kb |-
  rw[hk];simp only[Qq,Qd,Qg,Qi,k2,zzad,zzai]at kb;try simp only[Qd,Qg,Qi]at q
  cases hi:uW o.en with
  |false=>
   rw[hi]at q;simp[eW,eX,Qq,Qd,Qg,Qi,a1,a2,a3,a4,a5,a6,k2,jV];exact q
  |true=>
   rw[hi]at q;simp[eW,eX,Qq,Qd,Qg,Qi,a1,a2,a3,a4,a5,a6,k2,jV];exact⟨q,kb⟩
 by_cases k3:o.ki=3
 ·have c1:¬(o.ki<1\/5<o.ki):=zE
  rw[if_neg c1,if_neg zE];have q:=uh o.nw hl;have hk:okB o=pZ o.nw:=by rw[okB,if_neg k1,if_neg k2,if_pos k3]
  have hr:Kb o={o with nw:=Sx}:=by rw[Kb,if_neg k1,if_neg k2,if_pos k3]
  rw[hr]at kb |-
  rw[hk];simp only[Qq,Qd,Qg,Qi,k3,Sx,zzcv,zzad,zzai]at kb;have kb:=Xp (l:=[.agg [I o.sq,I o.ch,I o.fr,I 3,I o.en,I o.n,I 0,I 0,I 0,I 0,I 0,I 0,.sl .nil [],I o.cl.ki,I o.cl.it,I o.cl.fr,I o.cl.to,I o.cl.re,I o.cl.n,I o.cl.a,I o.cl.b,I o.cu.id,I o.cu.fr,I o.cu.to,I o.cu.pr,.str o.cu.tx]]) kb ⟨Qdw ⟨Ps,Ps,Ps,Ps,Ps,Ps,Ps,Ps,Ps,Ps,Ps,Ps,Wk.sl _ _,Ps,Ps,Ps,Ps,Ps,Ps,Ps,Ps,Ps,Ps,Ps,Ps,Ps,trivial⟩,trivial⟩;try simp only[Qd]at q
  cases hi:pZ o.nw with
  |false=>
   rw[hi]at q;simp[eW,eX,Qq,Qd,Qg,Qi,a1,a2,a3,a4,a5,a6,k3,jV];exact q
  |true=>
   rw[hi]at q;simp[eW,eX,Qq,Qd,Qg,Qi,a1,a2,a3,a4,a5,a6,k3,jV,Sx];exact⟨q,kb⟩
 by_cases k4:o.ki=4
 ·have c1:¬(o.ki<1\/5<o.ki):=zE
  rw[if_neg c1,if_neg zE];have q:=Ky o.cl;have hk:okB o=Zd o.cl:=by rw[okB,if_neg k1,if_neg k2,if_neg k3,if_pos k4]
  have hr:Kb o={o with cl:=ZF}:=by rw[Kb,if_neg k1,if_neg k2,if_neg k3,if_pos k4]
  rw[hr]at kb |-
  rw[hk];simp only[Qq,Qd,Qg,Qi,k4,ZF,zzad,zzai]at kb;try simp only[Qg]at q
  cases hi:Zd o.cl with
  |false=>
   rw[hi]at q;simp[eW,eX,Qq,Qd,Qg,Qi,a1,a2,a3,a4,a5,a6,k4,jV];exact q
  |true=>
   rw[hi]at q;simp[eW,eX,Qq,Qd,Qg,Qi,a1,a2,a3,a4,a5,a6,k4,jV,ZF];exact⟨q,kb⟩
 by_cases k5:o.ki=5
 ·have c1:¬(o.ki<1\/5<o.ki):=zE
  rw[if_neg c1,if_neg zE];have q:=td o.cu;have hk:okB o=iB o.cu:=by rw[okB,if_neg k1,if_neg k2,if_neg k3,if_neg k4]
  have hr:Kb o={o with cu:=ZG}:=by rw[Kb,if_neg k1,if_neg k2,if_neg k3,if_neg k4]
  rw[hr]at kb |-
  rw[hk];simp only[Qq,Qd,Qg,Qi,k5,ZG,zzad,zzai]at kb;simp only[Qi]at q;cases hi:iB o.cu with
  |false=>
   rw[hi]at q;simp[eW,eX,Qq,Qd,Qg,Qi,a1,a2,a3,a4,a5,a6,k5,jV];exact q
  |true=>
   rw[hi]at q;simp[eW,eX,Qq,Qd,Qg,Qi,a1,a2,a3,a4,a5,a6,k5,jV,ZG];exact⟨q,kb⟩
 rw[if_pos zE];simp[eW,eX,Qq,Qd,Qg,Qi,a1,a2,a3,a4,a5,a6,k1,k2,k3,k4,k5]
open Go Go.Abs
def Vb(g:Pg)(o:Od):Bool:=Vi o&&(decide (o.ch= -1)||decide (o.ch=g.p.ch))
def tf(g:Pg)(o:Od)(hl:o.nw.al.length<=8796093022208):Pure Tryz.prog aD 41 [.agg (Qh g),.agg (Qq o)] (.bool (Vb g o)):=by
 have k:=jW o hl;simp only[Qq,Qd,Qg,Qi,zzad,zzai]at k;refine Qo ajJ (fun _ _ _=>.bool (Vi o)) zd ?_;cases hv:Vi o with
 |false=>
  rw[hv]at k;simp[abf,abg,Qh,Qa,Qq,Qd,Qg,Qi,hv,Vb];exact k
 |true=>
  rw[hv]at k;by_cases h1:o.ch= -1
  ·simp[abf,abg,Qh,Qa,Qq,Qd,Qg,Qi,hv,Vb,h1];rw[h1]at k;exact k
  simp[abf,abg,Qh,Qa,Qq,Qd,Qg,Qi,hv,Vb,h1];refine⟨k,?_⟩;rw[zzcz];simp[h1]
def Uu{α:Type}(P:α->Bool):List α->Nat->Int
 |[],_=> -1
 |x::r,i=>if P x=true then i else Uu P r (i+1)
def Qde{α:Type}{P:α->Bool}:∀{L:List α}{i:Nat},L.find? P=none->Uu P L i= -1
 |[],_,_=>rfl
 |a::r,i,h=>by
  rw[zzfa]at h;split at h
  ·cases h
  rename_i hn;rw[Uu,if_neg (by simp[hn])];exact Qde h
def Wj{α:Type}{P:α->Bool}{a:α}:∀{L:List α}{i:Nat},L.find? P=some a->∃k:Nat,Uu P L i=((i+k:Nat):Int)/\L[k]?=some a/\P a=true
 |[],_,h=>by cases h
 |b::r,i,h=>by
  rw[zzfa]at h;split at h
  ·rename_i hb;cases h;exact⟨0,by simp[Uu,hb],rfl,hb⟩
  rename_i hn;obtain⟨k,h1,h2,h3⟩:=Wj (i:=i+1) h;exact⟨k+1,by rw[Uu,if_neg (by simp[hn]),h1];omega,Nm h2,h3⟩
def yo(L:List bC)(P:bC->Bool)(k:FuncId)(first cap:P2)(hl:L.length<=1000000000)(h1:∀m,first.map (bz m 6)=first)(h2:∀m,cap.map (bz m 6)=cap)
  (hp:∀e∈L,Pure Tryz.prog aD k (first++.agg (Qf e)::cap) (.bool (P e)))(orc:UV)(ho:∀d e,e∈L->orc d k (first++.agg (Qf e)::cap)=.bool (P e)):
  Pure Tryz.prog aD 78 [.sl .ro (L.map Qf),.fn k first cap] (I (Uu P L 0)):=by
 refine Qo S8 orc zd ?_;simp[akc];refine Qk r8 (fun f m=>∃i:Nat,f 8=I i/\i<=L.length/\Uu P (L.drop i) i=Uu P L 0/\m=⟨[],[],fun _=>.gone,0⟩) (fun f _=>L.length-(numOf (f 8)).toNat) ?_ ?_
 ·exact⟨0,zd,zE,zd,rfl⟩
 rintro f m ⟨i,f8,hi,hr,rfl⟩;rcases zzaa i L.length with ai|bn
 ·obtain⟨a,ha⟩:=aV ai;have ah:Qj (L.map Qf) i=Qf a:=Qu (by simp[ha]);have aa:(i:Int)<(L.length:Int):=zE
  have hw:=bO i zE;have hd:L.drop i=a::L.drop (i+1):=by rw[zzag ai,(zza.1 ha).2]
  have kJ:=hp a (zzae ha);have ZH:=fun d=>ho d a (zzae ha);rw[hd,Uu]at hr;simp only[Qf]at kJ ZH;cases hP:P a with
  |true=>
   rw[hP]at kJ ZH;rw[if_pos hP]at hr;simp[f8,r8,abr,aa,ah,Qf,h1,h2,ZH];exact⟨kJ,hr⟩
  |false=>
   rw[hP]at kJ ZH;rw[if_neg (by simp[hP])]at hr;simp[f8,r8,aa,ah,Qf,h1,h2,ZH,hw];refine⟨kJ,aQ,⟨i+1,zd,zE,hr⟩,zE⟩
 obtain rfl:i=L.length:=zE
 rw[zzbv,Uu]at hr;simp[f8,r8,abr];exact hr
def Q6(e:bC)(f:Int)(h:Jw e)(hf:nT f):Pure Tryz.prog aD 212 [.agg [I f],.agg (Qf e)] (.bool (Uc f e)):=by
 refine Qo ac2 (fun _ _ _=>.junk) zd ?_;obtain⟨⟨a1,a2⟩,⟨a3,a4⟩,_⟩:=h;obtain⟨a5,a6⟩:=hf;by_cases h1:e.st<=f
 ·have w1:=wu e.st zE zE;have w2:=wu f zE zE;have w3:=wu (f-e.st) zE zE;have w4:=wu e.fr zE zE;by_cases h2:0<e.fr
  ·have:(f-e.st<e.fr)=(f<e.st+e.fr):=by apply propext;omega
   simp[M8,M9,Qf,h1,h2,Uc,w1,w2,w3,w4,this]
  have:¬f<e.st+e.fr:=zE
  simp[M8,M9,Qf,h1,h2,Uc,this]
 simp[M8,M9,Qf,h1,Uc]
def Ln(e:bC)(row:P2)(id:Int):Pure Tryz.prog aD 213 [.agg (Qf e),.ep (I id::row) 0] (.bool (decide (e.id=id))):=by
 refine Qo ac3 (fun _ _ _=>.junk) zd ?_;simp[ahu,ahv,Qf];rw[zzcz];simp
def tg(n:Int):Prop:= -9223372036854775808<=n/\n<=9223372036854775807
open Go Go.Abs
def GU(L:List En)(P:En->Bool)(k:FuncId)(first cap:P2)(hl:L.length<=1000000000)(h1:∀m,first.map (bz m 6)=first)(h2:∀m,cap.map (bz m 6)=cap)
  (hp:∀e∈L,Pure Tryz.prog aD k (first++.agg (Qd e)::cap) (.bool (P e)))(orc:UV)(ho:∀d e,e∈L->orc d k (first++.agg (Qd e)::cap)=.bool (P e)):
  Pure Tryz.prog aD 148 [.sl .ro (L.map Qd),.fn k first cap] (I (Uu P L 0)):=by
 refine Qo B6 orc zd ?_;simp[MM];refine Qk eY (fun f m=>∃i:Nat,f 8=I i/\i<=L.length/\Uu P (L.drop i) i=Uu P L 0/\m=⟨[],[],fun _=>.gone,0⟩) (fun f _=>L.length-(numOf (f 8)).toNat) ?_ ?_
 ·exact⟨0,zd,zE,zd,rfl⟩
 rintro f m ⟨i,f8,hi,hr,rfl⟩;rcases zzaa i L.length with ai|bn
 ·obtain⟨a,ha⟩:=aV ai;have ah:Qj (L.map Qd) i=Qd a:=Qu (by simp[ha]);have aa:(i:Int)<(L.length:Int):=zE
  have hw:=bO i zE;have hd:L.drop i=a::L.drop (i+1):=by rw[zzag ai,(zza.1 ha).2]
  have kJ:=hp a (zzae ha);have ZH:=fun d=>ho d a (zzae ha);rw[hd,Uu]at hr;simp only[Qd]at kJ ZH;cases hP:P a with
  |true=>
   rw[hP]at kJ ZH;rw[if_pos hP]at hr;simp[f8,eY,Am,aa,ah,Qd,h1,h2,ZH];exact⟨kJ,hr⟩
  |false=>
   rw[hP]at kJ ZH;rw[if_neg (by simp[hP])]at hr;simp[f8,eY,aa,ah,Qd,h1,h2,ZH,hw];refine⟨kJ,aQ,?_⟩
   ·exact⟨⟨i+1,zd,zE,hr⟩,zE⟩
 obtain rfl:i=L.length:=zE
 rw[zzbv,Uu]at hr;simp[f8,eY,Am];exact hr
def GV(e:En)(id:Int):Pure Tryz.prog aD 201 [.agg (Qd e),.ep [I id] 0] (.bool (decide (e.id=id))):=by
 refine Qo acV (fun _ _ _=>.junk) zd ?_;simp[ahm,ahn,Qd];rw[zzcz];simp
def Qr(g:Pg)(f:Int)(mid:Nat):P2:=Qh g++[I f,.mp mid]
def Je(g:Pg)(id:Int):Int:=Uu (fun e:En=>decide (e.id=id)) g.p.ens 0
def Q7(Y:YT)(m:AM)(g:Pg)(f:Int)(mid:Nat)(id:Int)(hl:g.p.ens.length<=1000000000):aB Tryz.prog aD Y 141 [.agg (Qr g f mid),I id] m (fun r m'=>m'=m/\r=I (Je g id)):=by
 obtain⟨mb,ml,ms,mn⟩:=m;have k:=GU g.p.ens (fun e:En=>decide (e.id=id)) 201 [] [.ep [I id] 0] hl (fun _=>rfl) (fun _=>zd) (fun e _=>GV e id) (fun _ _ xs=>match xs with|.agg (.int _ n::_)::_=>.bool (decide (n=id))|_=>.junk) (fun _ e _=>rfl);refine aB.read (Xn ab5 (fun _ _ _=>I (Je g id)) zd ?_);simp[agD,agE,Qr,Qh,Qa,Je];exact⟨k,.int _ _⟩
def nU{p:Prop}(h:p:=by repeat'(first|exact Idle.int _ _|exact Idle.bool _|exact Idle.str _|exact Idle.ro _|exact Idle.nil _|exact Idle.full _|exact List.forall_mem_nil _|refine List.forall_mem_cons.2 ⟨?_,?_⟩|refine Idle.aS ?_|refine Idle.agg ?_)):p:=h
def fS(bx:T5)(mid:Nat)(b:QR):Prop:=mid<bx.length/\Qj bx mid=[.aJ 0 (bG .bool b)]
def fS.ext{bx:T5}{mid:Nat}{b:QR}(h:fS bx mid b)(ex:T5):Qj (bx++ex) mid=[.aJ 0 (bG .bool b)]:=by rw[Qn h.1,h.2]
def zi(b:QR)(id:Int):Bool:=(af id b).getD false
def Jk(g:Pg)(f:Int)(b:QR):Option bC:=match g.ev.find? (Uc f)with
 |none=>none
 |some e=>if e.id=0 then none else if zi b e.id=true then some e else none
def rJ(g:Pg)(id:Int):Int:=match g.ev.find? (fun e=>decide (e.id=id))with
 |none=>0
 |some e=>e.st
def uX(f:Int)(e:bC):bC:={e with st:=f,fr:=e.fr-(f-e.st),i:=e.i+(f-e.st)}
def Uq(g:Pg)(f:Int)(b:QR):AV:=match Jk g f b with
 |none=>.aS [.agg [I 0,I 0,I 0,I 0,I 0,I 0,.sl .nil []],I 0,.bool false]
 |some e=>.aS [.agg (Qf (uX f e)),I (rJ g e.id),.bool true]
def ZI(Y:YT)(m:AM)(g:Pg)(f:Int)(mid:Nat)(b:QR)(hl:g.ev.length<=1000000000)(hs:∀e∈g.ev,Jw e)(hf:nT f)(hb:fS m.boxes mid b):
  aB Tryz.prog aD Y 160 [.agg (Qr g f mid)] m (fun r m'=>m'=m/\r=Uq g f b):=by
 obtain⟨mb,ml,ms,mn⟩:=m;have hB:∀ex,Qj (mb++ex) mid=[.aJ 0 (bG .bool b)]:=hb.ext;have hN:∀n:Nat,¬(n:Int)<0:=fun n=>zE
 have k1:=yo g.ev (Uc f) 212 [.agg [I f]] [] hl (fun _=>zd) (fun _=>zd) (fun e he=>Q6 e f (hs e he) hf) (fun _ _ xs=>match xs with|[_,.agg [_,_,.int _ st,.int _ fr,_,_,_]]=>.bool (Uc f ⟨0,0,st,fr,0,0,[],false⟩)|_=>.junk) (fun _ e _=>rfl)
 have k2:∀(row:P2)(id:Int),Pure Tryz.prog aD 78 [.sl .ro (g.ev.map Qf),.fn 213 [] [.ep (I id::row) 0]] (I (Uu (fun e=>decide (e.id=id)) g.ev 0)):=fun row id=>
  yo g.ev (fun e=>decide (e.id=id)) 213 [] [.ep (I id::row) 0] hl (fun _=>zd) (fun _=>zd) (fun e _=>Ln e row id) (fun _ _ xs=>match xs with|.agg (.int _ n::_)::_=>.bool (decide (n=id))|_=>.junk) (fun _ e _=>rfl)
 cases h1:g.ev.find? (Uc f)with
 |none=>
  rw[Qde h1]at k1;refine aB.read (Xn MR (fun _ _ _=>I (-1)) zd ?_);simp[An,Ao,Qr,Qh,Qa,Uq,Jk,h1];exact⟨k1,nU⟩
 |some e=>
  obtain⟨n,g1,g2,g3⟩:=Wj (i:=0) h1;have k2':=k2;have hn:n<g.ev.length:=(zza.1 g2).1;have dB:=zzae g2
  have hex:(g.ev.find? fun e'=>decide (e'.id=e.id)).isSome=true:=by
   rw[List.find?_isSome];exact⟨e,dB,zd⟩
  obtain⟨e2,he2⟩:=zzcd.1 hex;obtain⟨n2,q1,q2,q3⟩:=Wj (i:=0) he2;have zy:n2<g.ev.length:=(zza.1 q2).1;rw[g1,zzbs]at k1;have r1:Qj (g.ev.map Qf) n=Qf e:=Qu (by simp[g2]);have r2:Qj (g.ev.map Qf) n2=Qf e2:=Qu (by simp[q2]);have qt:(n:Int)<(g.ev.length:Int):=zE
  have axz:(n2:Int)<(g.ev.length:Int):=zE
  obtain⟨⟨a1,a2⟩,⟨a3,a4⟩,⟨a5,a6⟩,_⟩:=hs e dB;obtain⟨f1,f2⟩:=hf;have hon:e.st<=f/\f<e.st+e.fr:=by simpa[Uc]using g3
  have w1:IntKind.i64.wrap (f-e.st)=f-e.st:=by rw[Ql]<;>omega
  have w2:IntKind.i64.wrap (e.fr-(f-e.st))=e.fr-(f-e.st):=by rw[Ql]<;>omega
  have w3:IntKind.i64.wrap (e.i+(f-e.st))=e.i+(f-e.st):=by rw[Ql]<;>omega
  refine aB.read (Xn MR (fun d _ _=>if d=15 then I n else I n2) zd ?_);have aL:e2.id=e.id:=by simpa using q3
  by_cases h0:e.id=0
  ·simp[An,Ao,Qr,Qh,Qa,Uq,Jk,h1,Qf,qt,r1,h0];exact⟨k1,nU⟩
  rcases Xx AV.bool e.id b 0 with⟨b1,b2,_⟩|⟨u,u',b1,b2,_⟩
  ·simp[An,Ao,Qr,Qh,Qa,Uq,Jk,h1,Qf,qt,r1,h0,zi,b1,b2,hB,hN];exact⟨k1,nU⟩
  cases u with
  |false=>
   simp[An,Ao,Qr,Qh,Qa,Uq,Jk,h1,Qf,qt,r1,h0,zi,b1,b2,hB,hN];exact⟨k1,nU⟩
  |true=>
   have k2:=k2 [I e.it,I e.st,I e.fr,I e.i,I e.re,.sl .ro (e.al.map Qe)] e.id;rw[q1,zzbs]at k2;simp[An,Ao,Qr,Qh,Qa,Uq,Jk,h1,Qf,qt,r1,h0,zi,b1,b2,hB,hN,w1,w2,w3,uX,rJ,he2];refine⟨k1,k2,Ul ?_⟩;simp[axz,r2,Qf];exact nU
