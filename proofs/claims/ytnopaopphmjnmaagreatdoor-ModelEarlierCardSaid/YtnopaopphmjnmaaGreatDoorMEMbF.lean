import Derived.Test.YtnopaopphmjnmaaGreatDoorMEMbB
set_option linter.all false
set_option maxRecDepth 100000
set_option maxHeartbeats 64000000
namespace Go.Proofs.YtnopaopphmjnmaaGreatDoor
open Go Go.Abs
def zh:ByteArray:=⟨#[32]⟩
def Qcf{α:Type}(l:List α):l=[]\/∃L b,l=L++[b]:=by
 rcases zzdl l with h|⟨L,b,h⟩
 ·exact .inl h
 exact .inr ⟨L,b,by rw[h,zzdm]⟩
def GY(ct:List ByteArray)(w:ByteArray):List ByteArray:=match ct.getLast? with
 |some r=>if r.size+1+w.size<=32 then ct.dropLast++[r++(zh++w)]else ct++[w]
 |none=>[w]
theorem p6(w:ByteArray):GY [] w=[w]:=rfl
def lH(pre:List ByteArray)(r w:ByteArray):GY (pre++[r]) w=if r.size+1+w.size<=32 then pre++[r++(zh++w)]else pre++[r]++[w]:=by simp[GY]
def lay:List ByteArray->List ByteArray->Option (List ByteArray)
 |ct,[]=>some ct
 |ct,w::r=>if 32<w.size then none else lay (GY ct w) r
def p7:∀(a b ct:List ByteArray),lay ct (a++b)=(lay ct a).bind fun x=>lay x b
 |[],_,_=>rfl
 |w::r,b,ct=>by
  simp only[zzae,lay];split
  ·rfl
  exact p7 r b _
def uT(s:ByteArray):∀(n i:Nat)(first:Option Nat),(ZQ s n i first).length<=n+1
 |0,i,first=>by rw[ZQ];cases first<;>simp[ig]
 |n+1,i,first=>by
  rw[ZQ];split
  ·have:=uT s n (i+1) (some (first.getD i));omega
  have:=uT s n (i+1) none;rw[zzah];have h2:(ig s i first).length<=1:=by cases first<;>simp[ig]
  omega
def ZX(a b:ByteArray):(a++b).size=a.size+b.size:=by simp
def OV{ct:List ByteArray}{w:ByteArray}(h:∀r∈ct,r.size<=32)(hw:w.size<=32):∀r∈GY ct w,r.size<=32:=by
 rcases Qcf ct with rfl|⟨pre,r,rfl⟩
 ·intro x hx;simp[p6]at hx;subst hx;exact hw
 rw[lH];split
 ·intro x hx;rcases zzao.1 hx with hx|hx
  ·exact h x (by simp[hx])
  simp only[zzbg]at hx;subst hx;rw[ZX,ZX];have:zh.size=1:=rfl;omega
 intro x hx;rcases zzao.1 hx with hx|hx
 ·exact h x hx
 simp only[zzbg]at hx;subst hx;exact hw
def GZ(ct:List ByteArray)(w:ByteArray):(GY ct w).length<=ct.length+1:=by
 rcases Qcf ct with rfl|⟨pre,r,rfl⟩
 ·simp[p6]
 rw[lH];split<;>simp
def Jl(s:ByteArray):Option (List ByteArray):=if 200<s.size\/RP s=false then none else match lay [] (Ur s)with
 |some l=>if l=[]\/4<l.length then none else some l
 |none=>none
def Vg(l:List ByteArray):List AV:=l.map AV.str
def Kk(r:ByteArray):List AV:=[.str r]
def Jm:Option (List ByteArray)->AV
 |none=>.aW [.sl .nil [],.bool false]
 |some l=>.aW [.sl .ro (l.map Kk),.bool true]
def RV(ct:List ByteArray)(V:AV)(rest:List (List AV)):Prop:=(ct=[]/\V=.sl .nil [])\/(ct≠[]/\∃k,V=.bs (k+3) 0 ct.length 1/\k<rest.length/\Qh rest k=Vg ct)
def asT(q:List ByteArray)(i:Nat)(m:AM):Prop:=∃(ct:List ByteArray)(rest:List (List AV))(V:AV),lay [] (q.take i)=some ct/\(∀r∈ct,r.size<=32)/\ct.length<=i/\m.boxes=[.sl .nil []]::[.bool false]::[V]::rest/\RV ct V rest
def axb(q:List ByteArray)(ex:Exit)(m:AM):Prop:=ex=.ret/\lay [] q=none/\∃rest,m.boxes=[.sl .nil []]::[.bool false]::rest
def Bp(s:ByteArray):Nat->FuncId->List AV->AV:=fun d f _=>if f=999999 then(if d=49 then .aJ 0 []else .junk)else if f=245 then .bool (RP s)else .fn 303 [] [.ep [.str s] 0]
def yj(l:List ByteArray):aV 1 l.length (Vg l)=l.map Kk:=by
 induction l with
 |nil=>rfl
 |cons a r ih=>
  show aV 1 (r.length+1) (AV.str a::Vg r)=_;rw[wO];simp[ih,Kk]
def p8(m:AM)(d:Nat)(l:List ByteArray):(Vg l).map (bF m (d+1))=Vg l:=by
 induction l with
 |nil=>rfl
 |cons a r ih=>simp[Vg]at ih |-
def RV.ext{ct:List ByteArray}{V:AV}{rest:List (List AV)}(h:RV ct V rest)(ex:List (List AV)):RV ct V (rest++ex):=by
 obtain h|⟨h1,k,h2,h3,h4⟩:=h
 ·exact .inl h
 exact .inr ⟨h1,k,h2,by simp;omega,by rw[Ql h3,h4]⟩
def RR(s:ByteArray):Pure Tryz.prog az 173 [.str s] (Jm (Jl s)):=by
 refine Qn acX (Bp s) (by simp) ?_;by_cases h2:200<s.size
 ·have Ea:(200:Int)<(s.size:Int):=by omega
  have:Jl s=none:=by rw[Jl,if_pos (.inl h2)]
  rw[this];simp[Nr,vn,Ea,Jm]
 have Ea:¬(200:Int)<(s.size:Int):=by omega
 have kp:=yf s (by omega);have kw:=LD s;have kit:=LF s (by omega);cases hp:RP s with
 |false=>
  rw[hp]at kp;have:Jl s=none:=by rw[Jl,if_pos (.inr hp)]
  rw[this];simp[Nr,vn,Ea,Jm,Bp,hp];exact kp
 |true=>
  rw[hp]at kp
  have sG:Jl s=match lay [] (Ur s)with
   |some l=>if l=[]\/4<l.length then none else some l
   |none=>none:=by rw[Jl,if_neg (by simp[hp];omega)]
  rw[sG];have hql:(Ur s).length<=201:=by have:=uT s s.size 0 none;unfold Ur;omega
  generalize Ur s=q at kit hql;simp[Nr,Ea,Bp,hp];refine⟨kp,kw,?_⟩;refine jI (xs:=q.map fun w=>[.str w]) (by simp) kit (by intro x hx;simp at hx;obtain⟨a,_,rfl⟩:=hx;rfl) (asT q) (axb q) ?_ ?_ ?_ ?_ ?_ ?_
  ·exact⟨[],[],.sl .nil [],rfl,fun _ h=>(by cases h),by simp,by simp,.inl ⟨rfl,rfl⟩⟩
  ·rintro i m m' ⟨ct,rest,V,g1,g2,g3,g4,g5⟩ ⟨⟨b2,e2⟩,_,_⟩;exact⟨ct,rest++b2,V,g1,g2,g3,by rw[e2,g4];simp,g5.ext b2⟩
  ·rintro ex m m' ⟨g1,g2,rest,g3⟩ ⟨⟨b2,e2⟩,_,_⟩;exact⟨g1,g2,rest++b2,by rw[e2,g3];simp⟩
  ·rintro l1 i m x hg hr ⟨ct,rest,V,g1,g2,g3,g4,g5⟩ hx K' k1 k2 k3
   obtain⟨w,hy,rfl⟩:∃w,q[i]?=some w/\[AV.str w]=x:=by
    rw[zzbm]at hx;cases hq:q[i]? with
    |none=>rw[hq]at hx;cases hx
    |some y=>rw[hq]at hx;exact⟨y,rfl,Option.some.inj hx⟩
   have ai:i<q.length:=(zza.1 hy).1;have bB:q.take (i+1)=q.take i++[w]:=by rw[zzas,hy];rfl
   have ew:lay [] (q.take (i+1))=if 32<w.size then none else some (GY ct w):=by
    rw[bB,p7,g1];simp[lay]
   rw[Ui]at g4;obtain⟨mb,ml,ms,mn⟩:=m;simp only at g4 hr;subst g4;by_cases hw:32<w.size
   ·have IJ:(32:Int)<(w.size:Int):=by omega
    simp[Zl,hr,IJ];refine k2 _ ⟨rfl,?_,_,rfl⟩;have hq:q=q.take (i+1)++q.drop (i+1):=(zzdd _ _).symm;rw[hq,p7,ew,if_pos hw];rfl
   have IJ:¬(32:Int)<(w.size:Int):=by omega
   rw[if_neg hw]at ew;have hsz:=OV g2 (by omega:w.size<=32);have cS:=GZ ct w;obtain⟨h0,hV⟩|⟨h0,k,hV,cQ,cV⟩:=g5
   ·subst h0;subst hV;have qu:IntKind.i64.wrap (-1)= -1:=by rw[Qk]<;>omega
    simp[Zl,hr,IJ,Bp,qu];refine k1 _ ⟨[w],rest++[[.str w]],.bs (rest.length+3) 0 1 1,by rw[ew,p6],fun r h=>by simp at h;subst h;omega,by simp,by simp,.inr ⟨by simp,rest.length,rfl,by simp,by simp[Vg]⟩⟩
   subst hV;obtain⟨pre,r,rfl⟩:=(Qcf ct).resolve_left h0;have bZ:pre.length+1<=i:=by simpa using g3
   have qu:IntKind.i64.wrap (pre.length:Int)=(pre.length:Int):=by rw[Qk]<;>omega
   have qs:(Vg (pre++[r])).length=pre.length+1:=by simp[Vg]
   have axc:=g2 r (by simp);have hsC:Vg (pre++[r])=Vg pre++[.str r]:=by simp[Vg]
   have gK:(Vg pre).length=pre.length:=by simp[Vg]
   have LK:(Vg (pre++[r])).take (pre.length+1)=Vg (pre++[r]):=zzap (by omega);have ei:(Vg (pre++[r])).drop pre.length=[.str r]:=by rw[hsC,<- gK,zzfk]
   have eX:IntKind.i64.wrap ((r.size:Int)+1)=(r.size:Int)+1:=by rw[Qk]<;>omega
   have dG:IntKind.i64.wrap ((r.size:Int)+1+(w.size:Int))=(r.size:Int)+1+(w.size:Int):=by rw[Qk]<;>omega
   rw[lH]at ew hsz cS;by_cases hc:r.size+1+w.size<=32
   ·rw[if_pos hc]at ew hsz cS;have qq:(r.size:Int)+1+(w.size:Int)<=32:=by omega
    have bU:(Vg (pre++[r])).set pre.length (.str (r++(zh++w)))=Vg (pre++[r++(zh++w)]):=by
     rw[hsC,<- gK,zzct _ _ (zzab _)];simp[Vg]
    simp only[zh]at bU;simp[Zl,hr,IJ,Bp,qu,cV,ei,qs,eX,dG,qq,bU]
    have hrk:Qh (rest.set k (Vg (pre++[r++(zh++w)]))) k=Vg (pre++[r++(zh++w)]):=by
     simp[Qh,zzar,-Vp,cQ]
    have hs1:zh.size=1:=rfl;refine⟨by omega,(by show zh.size+w.size<=_;omega),(by show r.size+(zh.size+w.size)<=_;omega),by omega,cQ,k1 _ ⟨pre++[r++(zh++w)],rest.set k (Vg (pre++[r++(zh++w)])),.bs (k+3) 0 (pre.length+1) 1,ew,hsz,by simp;omega,by simp[zh],.inr ⟨by simp,k,by simp,by simpa using cQ,hrk⟩⟩⟩
   rw[if_neg hc]at ew hsz cS;have qq:¬(r.size:Int)+1+(w.size:Int)<=32:=by omega
   simp[Zl,hr,IJ,Bp,qu,cV,ei,qs,eX,dG,qq];have aK:¬Vg (pre++[r])=[]:=fun h=>by rw[h]at qs;simp at qs
   have hR:(rest.set k []).length=rest.length:=by simp
   refine⟨by omega,⟨⟨cQ,aK⟩,by omega⟩,k1 _ ⟨pre++[r]++[w],rest.set k []++[Vg (pre++[r])++[.str w]],.bs (rest.length+3) 0 (pre.length+1+1) 1,ew,hsz,by simp;omega,by simp[LK],.inr ⟨by simp,rest.length,by simp,by simp,?_⟩⟩⟩;rw[<- hR,FC];simp[Vg]
  ·rintro m ⟨ct,rest,V,g1,g2,g3,g4,g5⟩;rw[zzbf,zzbs]at g1;rw[g1];obtain⟨mb,ml,ms,mn⟩:=m;simp only at g4;subst g4;obtain⟨h0,hV⟩|⟨h0,k,hV,cQ,cV⟩:=g5
   ·subst h0;subst hV;simp[vn,Jm]
   subst hV;have aH:¬ct.length=0:=fun h=>h0 (zzcc.1 h);have qs:(Vg ct).length=ct.length:=by simp[Vg]
   by_cases h4:4<ct.length
   ·have IT:(4:Int)<(ct.length:Int):=by omega
    simp[vn,Jm,h0,h4,IT]
   have IT:¬(4:Int)<(ct.length:Int):=by omega
   have zW:=fun m=>p8 m 4 ct;have ana:=fun m=>p8 m 3 ct;have lX:=yj ct;simp[vn,Jm,h0,h4,IT,cV,ana,lX,qs]
  rintro ex m ⟨rfl,g2,rest,g3⟩;rw[g2];simp[vn,g3,Jm]
open Go Go.Abs
def sW(c:Cue):Bool:=if c.id<1\/4611686018427387903<c.id then false else if c.to=0 then decide (c.fr=0/\c.pr=0/\c.tx=eB)else
 if c.fr<0\/c.to<=c.fr\/100000000<c.to then false else if c.pr<0\/3<c.pr then false else(Jl c.tx).isSome
def sX(c:Cue):Pure Tryz.prog az 84 [.agg (Qi c)] (.bool (sW c)):=by
 have k:=RR c.tx;refine Qn alx (fun _ _ _=>Jm (Jl c.tx)) (by simp) ?_;by_cases h1:c.id<1
 ·simp[vg,vh,Qi,h1,sW]
 by_cases h2:4611686018427387903<c.id
 ·simp[vg,vh,Qi,h1,h2,sW]
 by_cases h3:c.to=0
 ·simp[vg,vh,Qi,h1,h2,h3,sW];rw[zzbt];simp[j4]
 by_cases h4:c.fr<0
 ·simp[vg,vh,Qi,h1,h2,h3,h4,sW]
 by_cases h5:c.to<=c.fr
 ·simp[vg,vh,Qi,h1,h2,h3,h4,h5,sW]
 by_cases h6:100000000<c.to
 ·simp[vg,vh,Qi,h1,h2,h3,h4,h5,h6,sW]
 by_cases h7:c.pr<0
 ·simp[vg,vh,Qi,h1,h2,h3,h4,h5,h6,h7,sW]
 by_cases h8:3<c.pr
 ·simp[vg,vh,Qi,h1,h2,h3,h4,h5,h6,h7,h8,sW]
 cases hr:Jl c.tx with
 |none=>
  rw[hr]at k;simp[vg,vh,Qi,h1,h2,h3,h4,h5,h6,h7,h8,sW,hr,Jm];exact k
 |some l=>
  rw[hr]at k;simp[vg,vh,Qi,h1,h2,h3,h4,h5,h6,h7,h8,sW,hr,Jm];exact k
def lI:En:=⟨0,0,0,0,0,0,[]⟩
def oc:Cl:=⟨0,0,0,0,0,0,0,0⟩
def oe:Cue:=⟨0,0,0,0,eB⟩
def Jn(o:Od):Od:=if o.ki=1 then{o with n:=0,en:=0}else if o.ki=2 then{o with en:=0}else if o.ki=3 then{o with nw:=lI}else if o.ki=4 then{o with cl:=oc}else{o with cu:=oe}
def okB(o:Od):Bool:=if o.ki=1 then eS o.en else if o.ki=2 then eS o.en else if o.ki=3 then zg o.nw else if o.ki=4 then Xl o.cl else sW o.cu
def Xw(o:Od):Bool:=if o.sq<0\/200<o.sq\/o.ch< -1\/40<=o.ch then false else if o.fr<0\/100000000<o.fr then false else
 if o.ki<1\/5<o.ki then false else if o.ki=1/\(o.n< -100000000\/100000000<o.n)then false else okB o&&Jv (Jn o)
def j5(a b:Bool):Nat->FuncId->List AV->AV:=fun _ f _=>if f=81 then .bool b else .bool a
def sY(o:Od)(hl:o.nw.al.length<=8796093022208):Pure Tryz.prog az 40 [.agg (Qq o)] (.bool (Xw o)):=by
 have kb:=LC (Jn o);have kk:o.ki=3\/Pure Tryz.prog az 81 [.agg (Qq (Jn o))] (.bool (Jv (Jn o))):=.inr kb;refine Qn akP (j5 (okB o) (Jv (Jn o))) (by simp) ?_;by_cases a1:o.sq<0
 ·simp[fQ,fR,Qq,Qd,Qg,Qi,a1,Xw]
 by_cases a2:200<o.sq
 ·simp[fQ,fR,Qq,Qd,Qg,Qi,a1,a2,Xw]
 by_cases a3:o.ch< -1
 ·simp[fQ,fR,Qq,Qd,Qg,Qi,a1,a2,a3,Xw]
 by_cases a4:40<=o.ch
 ·simp[fQ,fR,Qq,Qd,Qg,Qi,a1,a2,a3,a4,Xw]
 by_cases a5:o.fr<0
 ·simp[fQ,fR,Qq,Qd,Qg,Qi,a1,a2,a3,a4,a5,Xw]
 by_cases a6:100000000<o.fr
 ·simp[fQ,fR,Qq,Qd,Qg,Qi,a1,a2,a3,a4,a5,a6,Xw]
 have hA:¬(o.sq<0\/200<o.sq\/o.ch< -1\/40<=o.ch):=by omega
 have hB:¬(o.fr<0\/100000000<o.fr):=by omega
 have hv:Xw o=if o.ki<1\/5<o.ki then false else if o.ki=1/\(o.n< -100000000\/100000000<o.n)then false else okB o&&Jv (Jn o):=by rw[Xw,if_neg hA,if_neg hB]
 rw[hv];by_cases k1:o.ki=1
 ·have c1:¬(o.ki<1\/5<o.ki):=by omega
  rw[if_neg c1];by_cases b1:o.n< -100000000
  ·rw[if_pos ⟨k1,.inl b1⟩];simp[fQ,fR,Qq,Qd,Qg,Qi,a1,a2,a3,a4,a5,a6,k1,b1]
  by_cases b2:100000000<o.n
  ·rw[if_pos ⟨k1,.inr b2⟩];simp[fQ,fR,Qq,Qd,Qg,Qi,a1,a2,a3,a4,a5,a6,k1,b1,b2]
  rw[if_neg (by omega)];have q:=Wh o.en;have hk:okB o=eS o.en:=by rw[okB,if_pos k1]
  have hr:Jn o={o with n:=0,en:=0}:=by rw[Jn,if_pos k1]
  rw[hr]at kb |-
  rw[hk];simp only[Qq,Qd,Qg,Qi,k1]at kb;cases hi:eS o.en with
  |false=>
   rw[hi]at q;simp[fQ,fR,Qq,Qd,Qg,Qi,a1,a2,a3,a4,a5,a6,k1,b1,b2,j5];exact q
  |true=>
   rw[hi]at q;simp[fQ,fR,Qq,Qd,Qg,Qi,a1,a2,a3,a4,a5,a6,k1,b1,b2,j5];exact⟨q,kb⟩
 by_cases k2:o.ki=2
 ·have c1:¬(o.ki<1\/5<o.ki):=by omega
  rw[if_neg c1,if_neg (by omega)];have q:=Wh o.en;have hk:okB o=eS o.en:=by rw[okB,if_neg k1,if_pos k2]
  have hr:Jn o={o with en:=0}:=by rw[Jn,if_neg k1,if_pos k2]
  rw[hr]at kb |-
  rw[hk];simp only[Qq,Qd,Qg,Qi,k2,zzae,zzaj]at kb;try simp only[Qd,Qg,Qi]at q
  cases hi:eS o.en with
  |false=>
   rw[hi]at q;simp[fQ,fR,Qq,Qd,Qg,Qi,a1,a2,a3,a4,a5,a6,k2,j5];exact q
  |true=>
   rw[hi]at q;simp[fQ,fR,Qq,Qd,Qg,Qi,a1,a2,a3,a4,a5,a6,k2,j5];exact⟨q,kb⟩
 by_cases k3:o.ki=3
 ·have c1:¬(o.ki<1\/5<o.ki):=by omega
  rw[if_neg c1,if_neg (by omega)];have q:=uj o.nw hl;have hk:okB o=zg o.nw:=by rw[okB,if_neg k1,if_neg k2,if_pos k3]
  have hr:Jn o={o with nw:=lI}:=by rw[Jn,if_neg k1,if_neg k2,if_pos k3]
  rw[hr]at kb |-
  rw[hk];simp only[Qq,Qd,Qg,Qi,k3,lI,zzcg,zzae,zzaj]at kb;have kb:=Zu (l:=[.agg [I o.sq,I o.ch,I o.fr,I 3,I o.en,I o.n,I 0,I 0,I 0,I 0,I 0,I 0,.sl .nil [],I o.cl.ki,I o.cl.it,I o.cl.fr,I o.cl.to,I o.cl.re,I o.cl.n,I o.cl.a,I o.cl.b,I o.cu.id,I o.cu.fr,I o.cu.to,I o.cu.pr,.str o.cu.tx]]) kb ⟨Qcp ⟨Wk.refl _,Wk.refl _,Wk.refl _,Wk.refl _,Wk.refl _,Wk.refl _,Wk.refl _,Wk.refl _,Wk.refl _,Wk.refl _,Wk.refl _,Wk.refl _,Wk.sl _ _,Wk.refl _,Wk.refl _,Wk.refl _,Wk.refl _,Wk.refl _,Wk.refl _,Wk.refl _,Wk.refl _,Wk.refl _,Wk.refl _,Wk.refl _,Wk.refl _,Wk.refl _,trivial⟩,trivial⟩;try simp only[Qd]at q
  cases hi:zg o.nw with
  |false=>
   rw[hi]at q;simp[fQ,fR,Qq,Qd,Qg,Qi,a1,a2,a3,a4,a5,a6,k3,j5];exact q
  |true=>
   rw[hi]at q;simp[fQ,fR,Qq,Qd,Qg,Qi,a1,a2,a3,a4,a5,a6,k3,j5,lI];exact⟨q,kb⟩
 by_cases k4:o.ki=4
 ·have c1:¬(o.ki<1\/5<o.ki):=by omega
  rw[if_neg c1,if_neg (by omega)];have q:=Ky o.cl;have hk:okB o=Xl o.cl:=by rw[okB,if_neg k1,if_neg k2,if_neg k3,if_pos k4]
  have hr:Jn o={o with cl:=oc}:=by rw[Jn,if_neg k1,if_neg k2,if_neg k3,if_pos k4]
  rw[hr]at kb |-
  rw[hk];simp only[Qq,Qd,Qg,Qi,k4,oc,zzae,zzaj]at kb;try simp only[Qg]at q
  cases hi:Xl o.cl with
  |false=>
   rw[hi]at q;simp[fQ,fR,Qq,Qd,Qg,Qi,a1,a2,a3,a4,a5,a6,k4,j5];exact q
  |true=>
   rw[hi]at q;simp[fQ,fR,Qq,Qd,Qg,Qi,a1,a2,a3,a4,a5,a6,k4,j5,oc];exact⟨q,kb⟩
 by_cases k5:o.ki=5
 ·have c1:¬(o.ki<1\/5<o.ki):=by omega
  rw[if_neg c1,if_neg (by omega)];have q:=sX o.cu;have hk:okB o=sW o.cu:=by rw[okB,if_neg k1,if_neg k2,if_neg k3,if_neg k4]
  have hr:Jn o={o with cu:=oe}:=by rw[Jn,if_neg k1,if_neg k2,if_neg k3,if_neg k4]
  rw[hr]at kb |-
  rw[hk];simp only[Qq,Qd,Qg,Qi,k5,oe,zzae,zzaj]at kb;simp only[Qi]at q;cases hi:sW o.cu with
  |false=>
   rw[hi]at q;simp[fQ,fR,Qq,Qd,Qg,Qi,a1,a2,a3,a4,a5,a6,k5,j5];exact q
  |true=>
   rw[hi]at q;simp[fQ,fR,Qq,Qd,Qg,Qi,a1,a2,a3,a4,a5,a6,k5,j5,oe];exact⟨q,kb⟩
 rw[if_pos (by omega)];simp[fQ,fR,Qq,Qd,Qg,Qi,a1,a2,a3,a4,a5,a6,k1,k2,k3,k4,k5]
open Go Go.Abs
def LM(g:Pg)(o:Od):Bool:=Xw o&&(decide (o.ch= -1)||decide (o.ch=g.p.ch))
def G1(g:Pg)(o:Od)(hl:o.nw.al.length<=8796093022208):Pure Tryz.prog az 68 [.agg (Qo g),.agg (Qq o)] (.bool (LM g o)):=by
 have k:=sY o hl;simp only[Qq,Qd,Qg,Qi,zzae,zzaj]at k;refine Qn alh (fun _ _ _=>.bool (Xw o)) (by simp) ?_;cases hv:Xw o with
 |false=>
  rw[hv]at k;simp[abU,abV,Qo,Qc,Qq,Qd,Qg,Qi,hv,LM];exact k
 |true=>
  rw[hv]at k;by_cases h1:o.ch= -1
  ·simp[abU,abV,Qo,Qc,Qq,Qd,Qg,Qi,hv,LM,h1];rw[h1]at k;exact k
  simp[abU,abV,Qo,Qc,Qq,Qd,Qg,Qi,hv,LM,h1];refine⟨k,?_⟩;rw[zzbt];simp[h1]
def Ux{α:Type}(P:α->Bool):List α->Nat->Int
 |[],_=> -1
 |x::r,i=>if P x=true then i else Ux P r (i+1)
def Qdm{α:Type}{P:α->Bool}:∀{L:List α}{i:Nat},L.find? P=none->Ux P L i= -1
 |[],_,_=>rfl
 |a::r,i,h=>by
  rw[zzfe]at h;split at h
  ·cases h
  rename_i hn;rw[Ux,if_neg (by simp[hn])];exact Qdm h
def Wi{α:Type}{P:α->Bool}{a:α}:∀{L:List α}{i:Nat},L.find? P=some a->∃k:Nat,Ux P L i=((i+k:Nat):Int)/\L[k]?=some a/\P a=true
 |[],_,h=>by cases h
 |b::r,i,h=>by
  rw[zzfe]at h;split at h
  ·rename_i hb;cases h;exact⟨0,by simp[Ux,hb],rfl,hb⟩
  rename_i hn;obtain⟨k,h1,h2,h3⟩:=Wi (i:=i+1) h;exact⟨k+1,by rw[Ux,if_neg (by simp[hn]),h1];omega,by simpa using h2,h3⟩
def yl(L:List bE)(P:bE->Bool)(k:FuncId)(first cap:List AV)(hl:L.length<=1000000000)(h1:∀m,first.map (bF m 6)=first)(h2:∀m,cap.map (bF m 6)=cap)
  (hp:∀e∈L,Pure Tryz.prog az k (first++.agg (Qf e)::cap) (.bool (P e)))(orc:Nat->FuncId->List AV->AV)(ho:∀d e,e∈L->orc d k (first++.agg (Qf e)::cap)=.bool (P e)):
  Pure Tryz.prog az 106 [.sl .ro (L.map Qf),.fn k first cap] (I (Ux P L 0)):=by
 refine Qn M7 orc (by simp) ?_;simp[TO];refine Qj iR (fun f m=>∃i:Nat,f 8=I i/\i<=L.length/\Ux P (L.drop i) i=Ux P L 0/\m=⟨[],[],fun _=>.gone,0⟩) (fun f _=>L.length-(numOf (f 8)).toNat) ?_ ?_
 ·exact⟨0,by simp,by omega,by simp,rfl⟩
 rintro f m ⟨i,f8,hi,hr,rfl⟩;rcases zzaa i L.length with ai|bu
 ·obtain⟨a,ha⟩:=aR ai;have ah:Qh (L.map Qf) i=Qf a:=Qs (by simp[ha]);have aa:(i:Int)<(L.length:Int):=by omega
  have hw:=bK i (by omega);have hd:L.drop i=a::L.drop (i+1):=by rw[zzaf ai,(zza.1 ha).2]
  have jd:=hp a (zzac ha);have OW:=fun d=>ho d a (zzac ha);rw[hd,Ux]at hr;simp only[Qf]at jd OW;cases hP:P a with
  |true=>
   rw[hP]at jd OW;rw[if_pos hP]at hr;simp[f8,iR,M6,aa,ah,Qf,h1,h2,OW];exact⟨jd,hr⟩
  |false=>
   rw[hP]at jd OW;rw[if_neg (by simp[hP])]at hr;simp[f8,iR,aa,ah,Qf,h1,h2,OW,hw];refine⟨jd,aO,⟨i+1,by simp,by omega,hr⟩,by omega⟩
 obtain rfl:i=L.length:=by omega
 rw[zzbo,Ux]at hr;simp[f8,iR,M6];exact hr
def RS(e:bE)(f:Int)(h:Ul e)(hf:og f):Pure Tryz.prog az 281 [.agg [I f],.agg (Qf e)] (.bool (sV f e)):=by
 refine Qn aea (fun _ _ _=>.junk) (by simp) ?_;obtain⟨⟨a1,a2⟩,⟨a3,a4⟩,_⟩:=h;obtain⟨a5,a6⟩:=hf;by_cases h1:e.st<=f
 ·have w1:=wu e.st (by omega) (by omega);have w2:=wu f (by omega) (by omega);have w3:=wu (f-e.st) (by omega) (by omega);have w4:=wu e.fr (by omega) (by omega);by_cases h2:0<e.fr
  ·have:(f-e.st<e.fr)=(f<e.st+e.fr):=by apply propext;omega
   simp[NU,NV,Qf,h1,h2,sV,w1,w2,w3,w4,this]
  have:¬f<e.st+e.fr:=by omega
  simp[NU,NV,Qf,h1,h2,sV,this]
 simp[NU,NV,Qf,h1,sV]
def LN(e:bE)(row:List AV)(id:Int):Pure Tryz.prog az 282 [.agg (Qf e),.ep (I id::row) 0] (.bool (decide (e.id=id))):=by
 refine Qn aeb (fun _ _ _=>.junk) (by simp) ?_;simp[aiN,aiO,Qf];rw[zzbt];simp
def sZ(n:Int):Prop:= -9223372036854775808<=n/\n<=9223372036854775807
open Go Go.Abs
def G2(L:List En)(P:En->Bool)(k:FuncId)(first cap:List AV)(hl:L.length<=1000000000)(h1:∀m,first.map (bF m 6)=first)(h2:∀m,cap.map (bF m 6)=cap)
  (hp:∀e∈L,Pure Tryz.prog az k (first++.agg (Qd e)::cap) (.bool (P e)))(orc:Nat->FuncId->List AV->AV)(ho:∀d e,e∈L->orc d k (first++.agg (Qd e)::cap)=.bool (P e)):
  Pure Tryz.prog az 218 [.sl .ro (L.map Qd),.fn k first cap] (I (Ux P L 0)):=by
 refine Qn Cf orc (by simp) ?_;simp[NG];refine Qj fC (fun f m=>∃i:Nat,f 8=I i/\i<=L.length/\Ux P (L.drop i) i=Ux P L 0/\m=⟨[],[],fun _=>.gone,0⟩) (fun f _=>L.length-(numOf (f 8)).toNat) ?_ ?_
 ·exact⟨0,by simp,by omega,by simp,rfl⟩
 rintro f m ⟨i,f8,hi,hr,rfl⟩;rcases zzaa i L.length with ai|bu
 ·obtain⟨a,ha⟩:=aR ai;have ah:Qh (L.map Qd) i=Qd a:=Qs (by simp[ha]);have aa:(i:Int)<(L.length:Int):=by omega
  have hw:=bK i (by omega);have hd:L.drop i=a::L.drop (i+1):=by rw[zzaf ai,(zza.1 ha).2]
  have jd:=hp a (zzac ha);have OW:=fun d=>ho d a (zzac ha);rw[hd,Ux]at hr;simp only[Qd]at jd OW;cases hP:P a with
  |true=>
   rw[hP]at jd OW;rw[if_pos hP]at hr;simp[f8,fC,Ap,aa,ah,Qd,h1,h2,OW];exact⟨jd,hr⟩
  |false=>
   rw[hP]at jd OW;rw[if_neg (by simp[hP])]at hr;simp[f8,fC,aa,ah,Qd,h1,h2,OW,hw];refine⟨jd,aO,?_⟩
   ·exact⟨⟨i+1,by simp,by omega,hr⟩,by omega⟩
 obtain rfl:i=L.length:=by omega
 rw[zzbo,Ux]at hr;simp[f8,fC,Ap];exact hr
def G3(e:En)(id:Int):Pure Tryz.prog az 278 [.agg (Qd e),.ep [I id] 0] (.bool (decide (e.id=id))):=by
 refine Qn ad9 (fun _ _ _=>.junk) (by simp) ?_;simp[aiL,aiM,Qd];rw[zzbt];simp
def Qu(g:Pg)(f:Int)(mid:Nat):List AV:=Qo g++[I f,.mp mid]
def Ji(g:Pg)(id:Int):Int:=Ux (fun e:En=>decide (e.id=id)) g.p.ens 0
def RT(Y:YT)(m:AM)(g:Pg)(f:Int)(mid:Nat)(id:Int)(hl:g.p.ens.length<=1000000000):an Tryz.prog az Y 211 [.agg (Qu g f mid),I id] m (fun r m'=>m'=m/\r=I (Ji g id)):=by
 obtain⟨mb,ml,ms,mn⟩:=m;have k:=G2 g.p.ens (fun e:En=>decide (e.id=id)) 278 [] [.ep [I id] 0] hl (fun _=>rfl) (fun _=>by simp) (fun e _=>G3 e id) (fun _ _ xs=>match xs with|.agg (.int _ n::_)::_=>.bool (decide (n=id))|_=>.junk) (fun _ e _=>rfl);refine an.read (Xe ads (fun _ _ _=>I (Ji g id)) (by simp) ?_);simp[ah8,ah9,Qu,Qo,Qc,Ji];exact⟨k,.int _ _⟩
def lJ{p:Prop}(h:p:=by repeat'(first|exact Idle.int _ _|exact Idle.bool _|exact Idle.str _|exact Idle.ro _|exact Idle.nil _|exact Idle.full _|exact List.forall_mem_nil _|refine List.forall_mem_cons.2 ⟨?_,?_⟩|refine Idle.aW ?_|refine Idle.agg ?_)):p:=h
def gz(bx:List (List AV))(mid:Nat)(b:List (Int×Bool)):Prop:=mid<bx.length/\Qh bx mid=[.aJ 0 (bH .bool b)]
def gz.ext{bx:List (List AV)}{mid:Nat}{b:List (Int×Bool)}(h:gz bx mid b)(ex:List (List AV)):Qh (bx++ex) mid=[.aJ 0 (bH .bool b)]:=by rw[Ql h.1,h.2]
def zi(b:List (Int×Bool))(id:Int):Bool:=(af id b).getD false
def Jo(g:Pg)(f:Int)(b:List (Int×Bool)):Option bE:=match g.ev.find? (sV f)with
 |none=>none
 |some e=>if e.id=0 then none else if zi b e.id=true then some e else none
def rJ(g:Pg)(id:Int):Int:=match g.ev.find? (fun e=>decide (e.id=id))with
 |none=>0
 |some e=>e.st
def uU(f:Int)(e:bE):bE:={e with st:=f,fr:=e.fr-(f-e.st),i:=e.i+(f-e.st)}
def Ut(g:Pg)(f:Int)(b:List (Int×Bool)):AV:=match Jo g f b with
 |none=>.aW [.agg [I 0,I 0,I 0,I 0,I 0,I 0,.sl .nil []],I 0,.bool false]
 |some e=>.aW [.agg (Qf (uU f e)),I (rJ g e.id),.bool true]
def ZY(Y:YT)(m:AM)(g:Pg)(f:Int)(mid:Nat)(b:List (Int×Bool))(hl:g.ev.length<=1000000000)(hs:∀e∈g.ev,Ul e)(hf:og f)(hb:gz m.boxes mid b):
  an Tryz.prog az Y 224 [.agg (Qu g f mid)] m (fun r m'=>m'=m/\r=Ut g f b):=by
 obtain⟨mb,ml,ms,mn⟩:=m;have hB:∀ex,Qh (mb++ex) mid=[.aJ 0 (bH .bool b)]:=hb.ext;have hN:∀n:Nat,¬(n:Int)<0:=fun n=>by omega
 have k1:=yl g.ev (sV f) 281 [.agg [I f]] [] hl (fun _=>by simp) (fun _=>by simp) (fun e he=>RS e f (hs e he) hf) (fun _ _ xs=>match xs with|[_,.agg [_,_,.int _ st,.int _ fr,_,_,_]]=>.bool (sV f ⟨0,0,st,fr,0,0,[],false⟩)|_=>.junk) (fun _ e _=>rfl)
 have k2:∀(row:List AV)(id:Int),Pure Tryz.prog az 106 [.sl .ro (g.ev.map Qf),.fn 282 [] [.ep (I id::row) 0]] (I (Ux (fun e=>decide (e.id=id)) g.ev 0)):=fun row id=>
  yl g.ev (fun e=>decide (e.id=id)) 282 [] [.ep (I id::row) 0] hl (fun _=>by simp) (fun _=>by simp) (fun e _=>LN e row id) (fun _ _ xs=>match xs with|.agg (.int _ n::_)::_=>.bool (decide (n=id))|_=>.junk) (fun _ e _=>rfl)
 cases h1:g.ev.find? (sV f)with
 |none=>
  rw[Qdm h1]at k1;refine an.read (Xe NH (fun _ _ _=>I (-1)) (by simp) ?_);simp[Aq,Ar,Qu,Qo,Qc,Ut,Jo,h1];exact⟨k1,lJ⟩
 |some e=>
  obtain⟨n,g1,g2,g3⟩:=Wi (i:=0) h1;have k2':=k2;have hn:n<g.ev.length:=(zza.1 g2).1;have cU:=zzac g2
  have hex:(g.ev.find? fun e'=>decide (e'.id=e.id)).isSome=true:=by
   rw[List.find?_isSome];exact⟨e,cU,by simp⟩
  obtain⟨e2,he2⟩:=zzci.1 hex;obtain⟨n2,q1,q2,q3⟩:=Wi (i:=0) he2;have nA:n2<g.ev.length:=(zza.1 q2).1;rw[g1,zzbu]at k1;have r1:Qh (g.ev.map Qf) n=Qf e:=Qs (by simp[g2]);have r2:Qh (g.ev.map Qf) n2=Qf e2:=Qs (by simp[q2]);have sj:(n:Int)<(g.ev.length:Int):=by omega
  have axd:(n2:Int)<(g.ev.length:Int):=by omega
  obtain⟨⟨a1,a2⟩,⟨a3,a4⟩,⟨a5,a6⟩,_⟩:=hs e cU;obtain⟨f1,f2⟩:=hf;have hon:e.st<=f/\f<e.st+e.fr:=by simpa[sV]using g3
  have w1:IntKind.i64.wrap (f-e.st)=f-e.st:=by rw[Qk]<;>omega
  have w2:IntKind.i64.wrap (e.fr-(f-e.st))=e.fr-(f-e.st):=by rw[Qk]<;>omega
  have w3:IntKind.i64.wrap (e.i+(f-e.st))=e.i+(f-e.st):=by rw[Qk]<;>omega
  refine an.read (Xe NH (fun d _ _=>if d=15 then I n else I n2) (by simp) ?_);have aN:e2.id=e.id:=by simpa using q3
  by_cases h0:e.id=0
  ·simp[Aq,Ar,Qu,Qo,Qc,Ut,Jo,h1,Qf,sj,r1,h0];exact⟨k1,lJ⟩
  rcases Xq AV.bool e.id b 0 with⟨b1,b2,_⟩|⟨u,u',b1,b2,_⟩
  ·simp[Aq,Ar,Qu,Qo,Qc,Ut,Jo,h1,Qf,sj,r1,h0,zi,b1,b2,hB,hN];exact⟨k1,lJ⟩
  cases u with
  |false=>
   simp[Aq,Ar,Qu,Qo,Qc,Ut,Jo,h1,Qf,sj,r1,h0,zi,b1,b2,hB,hN];exact⟨k1,lJ⟩
  |true=>
   have k2:=k2 [I e.it,I e.st,I e.fr,I e.i,I e.re,.sl .ro (e.al.map Qe)] e.id;rw[q1,zzbu]at k2;simp[Aq,Ar,Qu,Qo,Qc,Ut,Jo,h1,Qf,sj,r1,h0,zi,b1,b2,hB,hN,w1,w2,w3,uU,rJ,he2];refine⟨k1,k2,Xy ?_⟩;simp[axd,r2,Qf];exact lJ
end Go.Proofs.YtnopaopphmjnmaaGreatDoor
