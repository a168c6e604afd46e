import Derived.Test.YtnopaopphmjnmaaGreatDoorMLMbB
set_option linter.all false
set_option maxRecDepth 100000
set_option maxHeartbeats 64000000
namespace Go.Proofs.YtnopaopphmjnmaaGreatDoor
open Go Go.Abs
def zb:ByteArray:=⟨#[32]⟩
def Qby{α:Type}(l:List α):l=[]\/∃L b,l=L++[b]:=by
 rcases zzer l with h|⟨L,b,h⟩
 ·exact .inl h
 exact .inr ⟨L,b,by rw[h,zzes]⟩
def GM(ct:List ByteArray)(w:ByteArray):List ByteArray:=match ct.getLast? with
 |some r=>if r.size+1+w.size<=32 then ct.dropLast++[r++(zb++w)]else ct++[w]
 |none=>[w]
theorem p5(w:ByteArray):GM [] w=[w]:=rfl
def lC(pre:List ByteArray)(r w:ByteArray):GM (pre++[r]) w=if r.size+1+w.size<=32 then pre++[r++(zb++w)]else pre++[r]++[w]:=by simp[GM]
def lay:List ByteArray->List ByteArray->Option (List ByteArray)
 |ct,[]=>some ct
 |ct,w::r=>if 32<w.size then none else lay (GM ct w) r
def p6:∀(a b ct:List ByteArray),lay ct (a++b)=(lay ct a).bind fun x=>lay x b
 |[],_,_=>rfl
 |w::r,b,ct=>by
  simp only[zzae,lay];split
  ·rfl
  exact p6 r b _
def uN(s:ByteArray):∀(n i:Nat)(first:Option Nat),(ZW s n i first).length<=n+1
 |0,i,first=>by rw[ZW];cases first<;>simp[gX]
 |n+1,i,first=>by
  rw[ZW];split
  ·have:=uN s n (i+1) (some (first.getD i));omega
  have:=uN s n (i+1) none;rw[zzah];have h2:(gX s i first).length<=1:=by cases first<;>simp[gX]
  omega
def Z3(a b:ByteArray):(a++b).size=a.size+b.size:=by simp
def OG{ct:List ByteArray}{w:ByteArray}(h:∀r∈ct,r.size<=32)(hw:w.size<=32):∀r∈GM ct w,r.size<=32:=by
 rcases Qby ct with rfl|⟨pre,r,rfl⟩
 ·intro x hx;simp[p5]at hx;subst hx;exact hw
 rw[lC];split
 ·intro x hx;rcases zzao.1 hx with hx|hx
  ·exact h x (by simp[hx])
  simp only[zzbd]at hx;subst hx;rw[Z3,Z3];have:zb.size=1:=rfl;omega
 intro x hx;rcases zzao.1 hx with hx|hx
 ·exact h x hx
 simp only[zzbd]at hx;subst hx;exact hw
def GN(ct:List ByteArray)(w:ByteArray):(GM ct w).length<=ct.length+1:=by
 rcases Qby ct with rfl|⟨pre,r,rfl⟩
 ·simp[p5]
 rw[lC];split<;>simp
def Jg(s:ByteArray):Option (List ByteArray):=if 200<s.size\/RM s=false then none else match lay [] (Ul s)with
 |some l=>if l=[]\/4<l.length then none else some l
 |none=>none
def Vg(l:List ByteArray):List AV:=l.map AV.str
def Kh(r:ByteArray):List AV:=[.str r]
def Jh:Option (List ByteArray)->AV
 |none=>.aW [.sl .nil [],.bool false]
 |some l=>.aW [.sl .ro (l.map Kh),.bool true]
def RV(ct:List ByteArray)(V:AV)(rest:List (List AV)):Prop:=(ct=[]/\V=.sl .nil [])\/(ct≠[]/\∃k,V=.bs (k+3) 0 ct.length 1/\k<rest.length/\Qh rest k=Vg ct)
def asN(q:List ByteArray)(i:Nat)(m:AM):Prop:=∃(ct:List ByteArray)(rest:List (List AV))(V:AV),lay [] (q.take i)=some ct/\(∀r∈ct,r.size<=32)/\ct.length<=i/\m.boxes=[.sl .nil []]::[.bool false]::[V]::rest/\RV ct V rest
def aw6(q:List ByteArray)(ex:Exit)(m:AM):Prop:=ex=.ret/\lay [] q=none/\∃rest,m.boxes=[.sl .nil []]::[.bool false]::rest
def Bq(s:ByteArray):Nat->FuncId->List AV->AV:=fun d f _=>if f=999999 then(if d=49 then .aJ 0 []else .junk)else if f=245 then .bool (RM s)else .fn 303 [] [.ep [.str s] 0]
def yf(l:List ByteArray):aV 1 l.length (Vg l)=l.map Kh:=by
 induction l with
 |nil=>rfl
 |cons a r ih=>
  show aV 1 (r.length+1) (AV.str a::Vg r)=_;rw[wK];simp[ih,Kh]
def p7(m:AM)(d:Nat)(l:List ByteArray):(Vg l).map (bF m (d+1))=Vg l:=by
 induction l with
 |nil=>rfl
 |cons a r ih=>simp[Vg]at ih |-
def RV.ext{ct:List ByteArray}{V:AV}{rest:List (List AV)}(h:RV ct V rest)(ex:List (List AV)):RV ct V (rest++ex):=by
 obtain h|⟨h1,k,h2,h3,h4⟩:=h
 ·exact .inl h
 exact .inr ⟨h1,k,h2,by simp;omega,by rw[Ql h3,h4]⟩
def RO(s:ByteArray):Pure Tryz.prog az 173 [.str s] (Jh (Jg s)):=by
 refine Qn acV (Bq s) (by simp) ?_;by_cases h2:200<s.size
 ·have D6:(200:Int)<(s.size:Int):=by omega
  have:Jg s=none:=by rw[Jg,if_pos (.inl h2)]
  rw[this];simp[Nc,vk,D6,Jh]
 have D6:¬(200:Int)<(s.size:Int):=by omega
 have kp:=ya s (by omega);have kw:=Lr s;have kit:=Ls s (by omega);cases hp:RM s with
 |false=>
  rw[hp]at kp;have:Jg s=none:=by rw[Jg,if_pos (.inr hp)]
  rw[this];simp[Nc,vk,D6,Jh,Bq,hp];exact kp
 |true=>
  rw[hp]at kp
  have sF:Jg s=match lay [] (Ul s)with
   |some l=>if l=[]\/4<l.length then none else some l
   |none=>none:=by rw[Jg,if_neg (by simp[hp];omega)]
  rw[sF];have hql:(Ul s).length<=201:=by have:=uN s s.size 0 none;unfold Ul;omega
  generalize Ul s=q at kit hql;simp[Nc,D6,Bq,hp];refine⟨kp,kw,?_⟩;refine jm (xs:=q.map fun w=>[.str w]) (by simp) kit (by intro x hx;simp at hx;obtain⟨a,_,rfl⟩:=hx;rfl) (asN q) (aw6 q) ?_ ?_ ?_ ?_ ?_ ?_
  ·exact⟨[],[],.sl .nil [],rfl,fun _ h=>(by cases h),by simp,by simp,.inl ⟨rfl,rfl⟩⟩
  ·rintro i m m' ⟨ct,rest,V,g1,g2,g3,g4,g5⟩ ⟨⟨b2,e2⟩,_,_⟩;exact⟨ct,rest++b2,V,g1,g2,g3,by rw[e2,g4];simp,g5.ext b2⟩
  ·rintro ex m m' ⟨g1,g2,rest,g3⟩ ⟨⟨b2,e2⟩,_,_⟩;exact⟨g1,g2,rest++b2,by rw[e2,g3];simp⟩
  ·rintro l1 i m x hg hr ⟨ct,rest,V,g1,g2,g3,g4,g5⟩ hx K' k1 k2 k3
   obtain⟨w,hy,rfl⟩:∃w,q[i]?=some w/\[AV.str w]=x:=by
    rw[zzbl]at hx;cases hq:q[i]? with
    |none=>rw[hq]at hx;cases hx
    |some y=>rw[hq]at hx;exact⟨y,rfl,Option.some.inj hx⟩
   have ai:i<q.length:=(zza.1 hy).1;have bB:q.take (i+1)=q.take i++[w]:=by rw[zzas,hy];rfl
   have dZ:lay [] (q.take (i+1))=if 32<w.size then none else some (GM ct w):=by
    rw[bB,p6,g1];simp[lay]
   rw[Ue]at g4;obtain⟨mb,ml,ms,mn⟩:=m;simp only at g4 hr;subst g4;by_cases hw:32<w.size
   ·have IA:(32:Int)<(w.size:Int):=by omega
    simp[Zj,hr,IA];refine k2 _ ⟨rfl,?_,_,rfl⟩;have hq:q=q.take (i+1)++q.drop (i+1):=(zzdb _ _).symm;rw[hq,p6,dZ,if_pos hw];rfl
   have IA:¬(32:Int)<(w.size:Int):=by omega
   rw[if_neg hw]at dZ;have hsz:=OG g2 (by omega:w.size<=32);have dg:=GN ct w;obtain⟨h0,hV⟩|⟨h0,k,hV,cV,dw⟩:=g5
   ·subst h0;subst hV;have qp:IntKind.i64.wrap (-1)= -1:=by rw[Qk]<;>omega
    simp[Zj,hr,IA,Bq,qp];refine k1 _ ⟨[w],rest++[[.str w]],.bs (rest.length+3) 0 1 1,by rw[dZ,p5],fun r h=>by simp at h;subst h;omega,by simp,by simp,.inr ⟨by simp,rest.length,rfl,by simp,by simp[Vg]⟩⟩
   subst hV;obtain⟨pre,r,rfl⟩:=(Qby ct).resolve_left h0;have ck:pre.length+1<=i:=by simpa using g3
   have qp:IntKind.i64.wrap (pre.length:Int)=(pre.length:Int):=by rw[Qk]<;>omega
   have gP:(Vg (pre++[r])).length=pre.length+1:=by simp[Vg]
   have aw7:=g2 r (by simp);have hsC:Vg (pre++[r])=Vg pre++[.str r]:=by simp[Vg]
   have gG:(Vg pre).length=pre.length:=by simp[Vg]
   have Lu:(Vg (pre++[r])).take (pre.length+1)=Vg (pre++[r]):=zzap (by omega);have dX:(Vg (pre++[r])).drop pre.length=[.str r]:=by rw[hsC,<- gG,zzfk]
   have fC:IntKind.i64.wrap ((r.size:Int)+1)=(r.size:Int)+1:=by rw[Qk]<;>omega
   have ee:IntKind.i64.wrap ((r.size:Int)+1+(w.size:Int))=(r.size:Int)+1+(w.size:Int):=by rw[Qk]<;>omega
   rw[lC]at dZ hsz dg;by_cases hc:r.size+1+w.size<=32
   ·rw[if_pos hc]at dZ hsz dg;have qn:(r.size:Int)+1+(w.size:Int)<=32:=by omega
    have bV:(Vg (pre++[r])).set pre.length (.str (r++(zb++w)))=Vg (pre++[r++(zb++w)]):=by
     rw[hsC,<- gG,zzcs _ _ (zzab _)];simp[Vg]
    simp only[zb]at bV;simp[Zj,hr,IA,Bq,qp,dw,dX,gP,fC,ee,qn,bV]
    have hrk:Qh (rest.set k (Vg (pre++[r++(zb++w)]))) k=Vg (pre++[r++(zb++w)]):=by
     simp[Qh,zzar,-Vn,cV]
    have hs1:zb.size=1:=rfl;refine⟨by omega,(by show zb.size+w.size<=_;omega),(by show r.size+(zb.size+w.size)<=_;omega),by omega,cV,k1 _ ⟨pre++[r++(zb++w)],rest.set k (Vg (pre++[r++(zb++w)])),.bs (k+3) 0 (pre.length+1) 1,dZ,hsz,by simp;omega,by simp[zb],.inr ⟨by simp,k,by simp,by simpa using cV,hrk⟩⟩⟩
   rw[if_neg hc]at dZ hsz dg;have qn:¬(r.size:Int)+1+(w.size:Int)<=32:=by omega
   simp[Zj,hr,IA,Bq,qp,dw,dX,gP,fC,ee,qn];have aK:¬Vg (pre++[r])=[]:=fun h=>by rw[h]at gP;simp at gP
   have hR:(rest.set k []).length=rest.length:=by simp
   refine⟨by omega,⟨⟨cV,aK⟩,by omega⟩,k1 _ ⟨pre++[r]++[w],rest.set k []++[Vg (pre++[r])++[.str w]],.bs (rest.length+3) 0 (pre.length+1+1) 1,dZ,hsz,by simp;omega,by simp[Lu],.inr ⟨by simp,rest.length,by simp,by simp,?_⟩⟩⟩;rw[<- hR,Fu];simp[Vg]
  ·rintro m ⟨ct,rest,V,g1,g2,g3,g4,g5⟩;rw[zzbg,zzbs]at g1;rw[g1];obtain⟨mb,ml,ms,mn⟩:=m;simp only at g4;subst g4;obtain⟨h0,hV⟩|⟨h0,k,hV,cV,dw⟩:=g5
   ·subst h0;subst hV;simp[vk,Jh]
   subst hV;have aH:¬ct.length=0:=fun h=>h0 (zzcb.1 h);have gP:(Vg ct).length=ct.length:=by simp[Vg]
   by_cases h4:4<ct.length
   ·have IL:(4:Int)<(ct.length:Int):=by omega
    simp[vk,Jh,h0,h4,IL]
   have IL:¬(4:Int)<(ct.length:Int):=by omega
   have zT:=fun m=>p7 m 4 ct;have am7:=fun m=>p7 m 3 ct;have lS:=yf ct;simp[vk,Jh,h0,h4,IL,dw,am7,lS,gP]
  rintro ex m ⟨rfl,g2,rest,g3⟩;rw[g2];simp[vk,g3,Jh]
open Go Go.Abs
def sS(c:Cue):Bool:=if c.id<1\/4611686018427387903<c.id then false else if c.to=0 then decide (c.fr=0/\c.pr=0/\c.tx=eB)else
 if c.fr<0\/c.to<=c.fr\/100000000<c.to then false else if c.pr<0\/3<c.pr then false else(Jg c.tx).isSome
def sU(c:Cue):Pure Tryz.prog az 84 [.agg (Qj c)] (.bool (sS c)):=by
 have k:=RO c.tx;refine Qn alx (fun _ _ _=>Jh (Jg c.tx)) (by simp) ?_;by_cases h1:c.id<1
 ·simp[u9,va,Qj,h1,sS]
 by_cases h2:4611686018427387903<c.id
 ·simp[u9,va,Qj,h1,h2,sS]
 by_cases h3:c.to=0
 ·simp[u9,va,Qj,h1,h2,h3,sS];rw[zzbt];simp[jS]
 by_cases h4:c.fr<0
 ·simp[u9,va,Qj,h1,h2,h3,h4,sS]
 by_cases h5:c.to<=c.fr
 ·simp[u9,va,Qj,h1,h2,h3,h4,h5,sS]
 by_cases h6:100000000<c.to
 ·simp[u9,va,Qj,h1,h2,h3,h4,h5,h6,sS]
 by_cases h7:c.pr<0
 ·simp[u9,va,Qj,h1,h2,h3,h4,h5,h6,h7,sS]
 by_cases h8:3<c.pr
 ·simp[u9,va,Qj,h1,h2,h3,h4,h5,h6,h7,h8,sS]
 cases hr:Jg c.tx with
 |none=>
  rw[hr]at k;simp[u9,va,Qj,h1,h2,h3,h4,h5,h6,h7,h8,sS,hr,Jh];exact k
 |some l=>
  rw[hr]at k;simp[u9,va,Qj,h1,h2,h3,h4,h5,h6,h7,h8,sS,hr,Jh];exact k
def lD:En:=⟨0,0,0,0,0,0,[]⟩
def nZ:Cl:=⟨0,0,0,0,0,0,0,0⟩
def oa:Cue:=⟨0,0,0,0,eB⟩
def Ji(o:Od):Od:=if o.ki=1 then{o with n:=0,en:=0}else if o.ki=2 then{o with en:=0}else if o.ki=3 then{o with nw:=lD}else if o.ki=4 then{o with cl:=nZ}else{o with cu:=oa}
def okB(o:Od):Bool:=if o.ki=1 then eG o.en else if o.ki=2 then eG o.en else if o.ki=3 then za o.nw else if o.ki=4 then Xk o.cl else sS o.cu
def Xx(o:Od):Bool:=if o.sq<0\/200<o.sq\/o.ch< -1\/40<=o.ch then false else if o.fr<0\/100000000<o.fr then false else
 if o.ki<1\/5<o.ki then false else if o.ki=1/\(o.n< -100000000\/100000000<o.n)then false else okB o&&Jq (Ji o)
def jT(a b:Bool):Nat->FuncId->List AV->AV:=fun _ f _=>if f=81 then .bool b else .bool a
def sV(o:Od)(hl:o.nw.al.length<=8796093022208):Pure Tryz.prog az 40 [.agg (Qq o)] (.bool (Xx o)):=by
 have kb:=Lq (Ji o);have kk:o.ki=3\/Pure Tryz.prog az 81 [.agg (Qq (Ji o))] (.bool (Jq (Ji o))):=.inr kb;refine Qn akP (jT (okB o) (Jq (Ji o))) (by simp) ?_;by_cases a1:o.sq<0
 ·simp[fJ,fK,Qq,Qd,Qg,Qj,a1,Xx]
 by_cases a2:200<o.sq
 ·simp[fJ,fK,Qq,Qd,Qg,Qj,a1,a2,Xx]
 by_cases a3:o.ch< -1
 ·simp[fJ,fK,Qq,Qd,Qg,Qj,a1,a2,a3,Xx]
 by_cases a4:40<=o.ch
 ·simp[fJ,fK,Qq,Qd,Qg,Qj,a1,a2,a3,a4,Xx]
 by_cases a5:o.fr<0
 ·simp[fJ,fK,Qq,Qd,Qg,Qj,a1,a2,a3,a4,a5,Xx]
 by_cases a6:100000000<o.fr
 ·simp[fJ,fK,Qq,Qd,Qg,Qj,a1,a2,a3,a4,a5,a6,Xx]
 have hA:¬(o.sq<0\/200<o.sq\/o.ch< -1\/40<=o.ch):=by omega
 have hB:¬(o.fr<0\/100000000<o.fr):=by omega
 have hv:Xx o=if o.ki<1\/5<o.ki then false else if o.ki=1/\(o.n< -100000000\/100000000<o.n)then false else okB o&&Jq (Ji o):=by rw[Xx,if_neg hA,if_neg hB]
 rw[hv];by_cases k1:o.ki=1
 ·have c1:¬(o.ki<1\/5<o.ki):=by omega
  rw[if_neg c1];by_cases b1:o.n< -100000000
  ·rw[if_pos ⟨k1,.inl b1⟩];simp[fJ,fK,Qq,Qd,Qg,Qj,a1,a2,a3,a4,a5,a6,k1,b1]
  by_cases b2:100000000<o.n
  ·rw[if_pos ⟨k1,.inr b2⟩];simp[fJ,fK,Qq,Qd,Qg,Qj,a1,a2,a3,a4,a5,a6,k1,b1,b2]
  rw[if_neg (by omega)];have q:=Ky o.en;have hk:okB o=eG o.en:=by rw[okB,if_pos k1]
  have hr:Ji o={o with n:=0,en:=0}:=by rw[Ji,if_pos k1]
  rw[hr]at kb |-
  rw[hk];simp only[Qq,Qd,Qg,Qj,k1]at kb;cases hi:eG o.en with
  |false=>
   rw[hi]at q;simp[fJ,fK,Qq,Qd,Qg,Qj,a1,a2,a3,a4,a5,a6,k1,b1,b2,jT];exact q
  |true=>
   rw[hi]at q;simp[fJ,fK,Qq,Qd,Qg,Qj,a1,a2,a3,a4,a5,a6,k1,b1,b2,jT];exact⟨q,kb⟩
 by_cases k2:o.ki=2
 ·have c1:¬(o.ki<1\/5<o.ki):=by omega
  rw[if_neg c1,if_neg (by omega)];have q:=Ky o.en;have hk:okB o=eG o.en:=by rw[okB,if_neg k1,if_pos k2]
  have hr:Ji o={o with en:=0}:=by rw[Ji,if_neg k1,if_pos k2]
  rw[hr]at kb |-
  rw[hk];simp only[Qq,Qd,Qg,Qj,k2,zzae,zzai]at kb;try simp only[Qd,Qg,Qj]at q
  cases hi:eG o.en with
  |false=>
   rw[hi]at q;simp[fJ,fK,Qq,Qd,Qg,Qj,a1,a2,a3,a4,a5,a6,k2,jT];exact q
  |true=>
   rw[hi]at q;simp[fJ,fK,Qq,Qd,Qg,Qj,a1,a2,a3,a4,a5,a6,k2,jT];exact⟨q,kb⟩
 by_cases k3:o.ki=3
 ·have c1:¬(o.ki<1\/5<o.ki):=by omega
  rw[if_neg c1,if_neg (by omega)];have q:=tY o.nw hl;have hk:okB o=za o.nw:=by rw[okB,if_neg k1,if_neg k2,if_pos k3]
  have hr:Ji o={o with nw:=lD}:=by rw[Ji,if_neg k1,if_neg k2,if_pos k3]
  rw[hr]at kb |-
  rw[hk];simp only[Qq,Qd,Qg,Qj,k3,lD,zzcf,zzae,zzai]at kb;have kb:=Zt (l:=[.agg [I o.sq,I o.ch,I o.fr,I 3,I o.en,I o.n,I 0,I 0,I 0,I 0,I 0,I 0,.sl .nil [],I o.cl.ki,I o.cl.it,I o.cl.fr,I o.cl.to,I o.cl.re,I o.cl.n,I o.cl.a,I o.cl.b,I o.cu.id,I o.cu.fr,I o.cu.to,I o.cu.pr,.str o.cu.tx]]) kb ⟨Qdp ⟨Wk.refl _,Wk.refl _,Wk.refl _,Wk.refl _,Wk.refl _,Wk.refl _,Wk.refl _,Wk.refl _,Wk.refl _,Wk.refl _,Wk.refl _,Wk.refl _,Wk.sl _ _,Wk.refl _,Wk.refl _,Wk.refl _,Wk.refl _,Wk.refl _,Wk.refl _,Wk.refl _,Wk.refl _,Wk.refl _,Wk.refl _,Wk.refl _,Wk.refl _,Wk.refl _,trivial⟩,trivial⟩;try simp only[Qd]at q
  cases hi:za o.nw with
  |false=>
   rw[hi]at q;simp[fJ,fK,Qq,Qd,Qg,Qj,a1,a2,a3,a4,a5,a6,k3,jT];exact q
  |true=>
   rw[hi]at q;simp[fJ,fK,Qq,Qd,Qg,Qj,a1,a2,a3,a4,a5,a6,k3,jT,lD];exact⟨q,kb⟩
 by_cases k4:o.ki=4
 ·have c1:¬(o.ki<1\/5<o.ki):=by omega
  rw[if_neg c1,if_neg (by omega)];have q:=Kr o.cl;have hk:okB o=Xk o.cl:=by rw[okB,if_neg k1,if_neg k2,if_neg k3,if_pos k4]
  have hr:Ji o={o with cl:=nZ}:=by rw[Ji,if_neg k1,if_neg k2,if_neg k3,if_pos k4]
  rw[hr]at kb |-
  rw[hk];simp only[Qq,Qd,Qg,Qj,k4,nZ,zzae,zzai]at kb;try simp only[Qg]at q
  cases hi:Xk o.cl with
  |false=>
   rw[hi]at q;simp[fJ,fK,Qq,Qd,Qg,Qj,a1,a2,a3,a4,a5,a6,k4,jT];exact q
  |true=>
   rw[hi]at q;simp[fJ,fK,Qq,Qd,Qg,Qj,a1,a2,a3,a4,a5,a6,k4,jT,nZ];exact⟨q,kb⟩
 by_cases k5:o.ki=5
 ·have c1:¬(o.ki<1\/5<o.ki):=by omega
  rw[if_neg c1,if_neg (by omega)];have q:=sU o.cu;have hk:okB o=sS o.cu:=by rw[okB,if_neg k1,if_neg k2,if_neg k3,if_neg k4]
  have hr:Ji o={o with cu:=oa}:=by rw[Ji,if_neg k1,if_neg k2,if_neg k3,if_neg k4]
  rw[hr]at kb |-
  rw[hk];simp only[Qq,Qd,Qg,Qj,k5,oa,zzae,zzai]at kb;simp only[Qj]at q;cases hi:sS o.cu with
  |false=>
   rw[hi]at q;simp[fJ,fK,Qq,Qd,Qg,Qj,a1,a2,a3,a4,a5,a6,k5,jT];exact q
  |true=>
   rw[hi]at q;simp[fJ,fK,Qq,Qd,Qg,Qj,a1,a2,a3,a4,a5,a6,k5,jT,oa];exact⟨q,kb⟩
 rw[if_pos (by omega)];simp[fJ,fK,Qq,Qd,Qg,Qj,a1,a2,a3,a4,a5,a6,k1,k2,k3,k4,k5]
open Go Go.Abs
def Lv(g:Pg)(o:Od):Bool:=Xx o&&(decide (o.ch= -1)||decide (o.ch=g.p.ch))
def GO(g:Pg)(o:Od)(hl:o.nw.al.length<=8796093022208):Pure Tryz.prog az 68 [.agg (Qo g),.agg (Qq o)] (.bool (Lv g o)):=by
 have k:=sV o hl;simp only[Qq,Qd,Qg,Qj,zzae,zzai]at k;refine Qn alh (fun _ _ _=>.bool (Xx o)) (by simp) ?_;cases hv:Xx o with
 |false=>
  rw[hv]at k;simp[abS,abT,Qo,Qb,Qq,Qd,Qg,Qj,hv,Lv];exact k
 |true=>
  rw[hv]at k;by_cases h1:o.ch= -1
  ·simp[abS,abT,Qo,Qb,Qq,Qd,Qg,Qj,hv,Lv,h1];rw[h1]at k;exact k
  simp[abS,abT,Qo,Qb,Qq,Qd,Qg,Qj,hv,Lv,h1];refine⟨k,?_⟩;rw[zzbt];simp[h1]
def Ur{α:Type}(P:α->Bool):List α->Nat->Int
 |[],_=> -1
 |x::r,i=>if P x=true then i else Ur P r (i+1)
def Qda{α:Type}{P:α->Bool}:∀{L:List α}{i:Nat},L.find? P=none->Ur P L i= -1
 |[],_,_=>rfl
 |a::r,i,h=>by
  rw[zzfe]at h;split at h
  ·cases h
  rename_i hn;rw[Ur,if_neg (by simp[hn])];exact Qda h
def Kz{α:Type}{P:α->Bool}{a:α}:∀{L:List α}{i:Nat},L.find? P=some a->∃k:Nat,Ur P L i=((i+k:Nat):Int)/\L[k]?=some a/\P a=true
 |[],_,h=>by cases h
 |b::r,i,h=>by
  rw[zzfe]at h;split at h
  ·rename_i hb;cases h;exact⟨0,by simp[Ur,hb],rfl,hb⟩
  rename_i hn;obtain⟨k,h1,h2,h3⟩:=Kz (i:=i+1) h;exact⟨k+1,by rw[Ur,if_neg (by simp[hn]),h1];omega,by simpa using h2,h3⟩
def yg(L:List bD)(P:bD->Bool)(k:FuncId)(first cap:List AV)(hl:L.length<=1000000000)(h1:∀m,first.map (bF m 6)=first)(h2:∀m,cap.map (bF m 6)=cap)
  (hp:∀e∈L,Pure Tryz.prog az k (first++.agg (Qf e)::cap) (.bool (P e)))(orc:Nat->FuncId->List AV->AV)(ho:∀d e,e∈L->orc d k (first++.agg (Qf e)::cap)=.bool (P e)):
  Pure Tryz.prog az 106 [.sl .ro (L.map Qf),.fn k first cap] (I (Ur P L 0)):=by
 refine Qn MS orc (by simp) ?_;simp[TQ];refine Qi iM (fun f m=>∃i:Nat,f 8=I i/\i<=L.length/\Ur P (L.drop i) i=Ur P L 0/\m=⟨[],[],fun _=>.gone,0⟩) (fun f _=>L.length-(numOf (f 8)).toNat) ?_ ?_
 ·exact⟨0,by simp,by omega,by simp,rfl⟩
 rintro f m ⟨i,f8,hi,hr,rfl⟩;rcases zzaa i L.length with ai|bu
 ·obtain⟨a,ha⟩:=aS ai;have ah:Qh (L.map Qf) i=Qf a:=Qs (by simp[ha]);have aa:(i:Int)<(L.length:Int):=by omega
  have hw:=bJ i (by omega);have hd:L.drop i=a::L.drop (i+1):=by rw[zzaf ai,(zza.1 ha).2]
  have iX:=hp a (zzad ha);have OH:=fun d=>ho d a (zzad ha);rw[hd,Ur]at hr;simp only[Qf]at iX OH;cases hP:P a with
  |true=>
   rw[hP]at iX OH;rw[if_pos hP]at hr;simp[f8,iM,MR,aa,ah,Qf,h1,h2,OH];exact⟨iX,hr⟩
  |false=>
   rw[hP]at iX OH;rw[if_neg (by simp[hP])]at hr;simp[f8,iM,aa,ah,Qf,h1,h2,OH,hw];refine⟨iX,aO,⟨i+1,by simp,by omega,hr⟩,by omega⟩
 obtain rfl:i=L.length:=by omega
 rw[zzbo,Ur]at hr;simp[f8,iM,MR];exact hr
def RP(e:bD)(f:Int)(h:Uh e)(hf:ob f):Pure Tryz.prog az 281 [.agg [I f],.agg (Qf e)] (.bool (Wv f e)):=by
 refine Qn ad8 (fun _ _ _=>.junk) (by simp) ?_;obtain⟨⟨a1,a2⟩,⟨a3,a4⟩,_⟩:=h;obtain⟨a5,a6⟩:=hf;by_cases h1:e.st<=f
 ·have w1:=wu e.st (by omega) (by omega);have w2:=wu f (by omega) (by omega);have w3:=wu (f-e.st) (by omega) (by omega);have w4:=wu e.fr (by omega) (by omega);by_cases h2:0<e.fr
  ·have:(f-e.st<e.fr)=(f<e.st+e.fr):=by apply propext;omega
   simp[NH,NI,Qf,h1,h2,Wv,w1,w2,w3,w4,this]
  have:¬f<e.st+e.fr:=by omega
  simp[NH,NI,Qf,h1,h2,Wv,this]
 simp[NH,NI,Qf,h1,Wv]
def Lw(e:bD)(row:List AV)(id:Int):Pure Tryz.prog az 282 [.agg (Qf e),.ep (I id::row) 0] (.bool (decide (e.id=id))):=by
 refine Qn ad9 (fun _ _ _=>.junk) (by simp) ?_;simp[aiP,aiQ,Qf];rw[zzbt];simp
def sW(n:Int):Prop:= -9223372036854775808<=n/\n<=9223372036854775807
open Go Go.Abs
def GP(L:List En)(P:En->Bool)(k:FuncId)(first cap:List AV)(hl:L.length<=1000000000)(h1:∀m,first.map (bF m 6)=first)(h2:∀m,cap.map (bF m 6)=cap)
  (hp:∀e∈L,Pure Tryz.prog az k (first++.agg (Qd e)::cap) (.bool (P e)))(orc:Nat->FuncId->List AV->AV)(ho:∀d e,e∈L->orc d k (first++.agg (Qd e)::cap)=.bool (P e)):
  Pure Tryz.prog az 218 [.sl .ro (L.map Qd),.fn k first cap] (I (Ur P L 0)):=by
 refine Qn Cd orc (by simp) ?_;simp[Ns];refine Qi fh (fun f m=>∃i:Nat,f 8=I i/\i<=L.length/\Ur P (L.drop i) i=Ur P L 0/\m=⟨[],[],fun _=>.gone,0⟩) (fun f _=>L.length-(numOf (f 8)).toNat) ?_ ?_
 ·exact⟨0,by simp,by omega,by simp,rfl⟩
 rintro f m ⟨i,f8,hi,hr,rfl⟩;rcases zzaa i L.length with ai|bu
 ·obtain⟨a,ha⟩:=aS ai;have ah:Qh (L.map Qd) i=Qd a:=Qs (by simp[ha]);have aa:(i:Int)<(L.length:Int):=by omega
  have hw:=bJ i (by omega);have hd:L.drop i=a::L.drop (i+1):=by rw[zzaf ai,(zza.1 ha).2]
  have iX:=hp a (zzad ha);have OH:=fun d=>ho d a (zzad ha);rw[hd,Ur]at hr;simp only[Qd]at iX OH;cases hP:P a with
  |true=>
   rw[hP]at iX OH;rw[if_pos hP]at hr;simp[f8,fh,An,aa,ah,Qd,h1,h2,OH];exact⟨iX,hr⟩
  |false=>
   rw[hP]at iX OH;rw[if_neg (by simp[hP])]at hr;simp[f8,fh,aa,ah,Qd,h1,h2,OH,hw];refine⟨iX,aO,?_⟩
   ·exact⟨⟨i+1,by simp,by omega,hr⟩,by omega⟩
 obtain rfl:i=L.length:=by omega
 rw[zzbo,Ur]at hr;simp[f8,fh,An];exact hr
def GQ(e:En)(id:Int):Pure Tryz.prog az 278 [.agg (Qd e),.ep [I id] 0] (.bool (decide (e.id=id))):=by
 refine Qn ad7 (fun _ _ _=>.junk) (by simp) ?_;simp[aiN,aiO,Qd];rw[zzbt];simp
def Qu(g:Pg)(f:Int)(mid:Nat):List AV:=Qo g++[I f,.mp mid]
def Jc(g:Pg)(id:Int):Int:=Ur (fun e:En=>decide (e.id=id)) g.p.ens 0
def RQ(Y:YT)(m:AM)(g:Pg)(f:Int)(mid:Nat)(id:Int)(hl:g.p.ens.length<=1000000000):an Tryz.prog az Y 211 [.agg (Qu g f mid),I id] m (fun r m'=>m'=m/\r=I (Jc g id)):=by
 obtain⟨mb,ml,ms,mn⟩:=m;have k:=GP g.p.ens (fun e:En=>decide (e.id=id)) 278 [] [.ep [I id] 0] hl (fun _=>rfl) (fun _=>by simp) (fun e _=>GQ e id) (fun _ _ xs=>match xs with|.agg (.int _ n::_)::_=>.bool (decide (n=id))|_=>.junk) (fun _ e _=>rfl);refine an.read (Xe adq (fun _ _ _=>I (Jc g id)) (by simp) ?_);simp[aia,aib,Qu,Qo,Qb,Jc];exact⟨k,.int _ _⟩
def iI{p:Prop}(h:p:=by repeat'(first|exact Idle.int _ _|exact Idle.bool _|exact Idle.str _|exact Idle.ro _|exact Idle.nil _|exact Idle.full _|exact List.forall_mem_nil _|refine List.forall_mem_cons.2 ⟨?_,?_⟩|refine Idle.aW ?_|refine Idle.agg ?_)):p:=h
def gj(bx:List (List AV))(mid:Nat)(b:List (Int×Bool)):Prop:=mid<bx.length/\Qh bx mid=[.aJ 0 (bH .bool b)]
def gj.ext{bx:List (List AV)}{mid:Nat}{b:List (Int×Bool)}(h:gj bx mid b)(ex:List (List AV)):Qh (bx++ex) mid=[.aJ 0 (bH .bool b)]:=by rw[Ql h.1,h.2]
def ze(b:List (Int×Bool))(id:Int):Bool:=(af id b).getD false
def Jj(g:Pg)(f:Int)(b:List (Int×Bool)):Option bD:=match g.ev.find? (Wv f)with
 |none=>none
 |some e=>if e.id=0 then none else if ze b e.id=true then some e else none
def rI(g:Pg)(id:Int):Int:=match g.ev.find? (fun e=>decide (e.id=id))with
 |none=>0
 |some e=>e.st
def uO(f:Int)(e:bD):bD:={e with st:=f,fr:=e.fr-(f-e.st),i:=e.i+(f-e.st)}
def Un(g:Pg)(f:Int)(b:List (Int×Bool)):AV:=match Jj g f b with
 |none=>.aW [.agg [I 0,I 0,I 0,I 0,I 0,I 0,.sl .nil []],I 0,.bool false]
 |some e=>.aW [.agg (Qf (uO f e)),I (rI g e.id),.bool true]
def Z4(Y:YT)(m:AM)(g:Pg)(f:Int)(mid:Nat)(b:List (Int×Bool))(hl:g.ev.length<=1000000000)(hs:∀e∈g.ev,Uh e)(hf:ob f)(hb:gj m.boxes mid b):
  an Tryz.prog az Y 224 [.agg (Qu g f mid)] m (fun r m'=>m'=m/\r=Un g f b):=by
 obtain⟨mb,ml,ms,mn⟩:=m;have hB:∀ex,Qh (mb++ex) mid=[.aJ 0 (bH .bool b)]:=hb.ext;have hN:∀n:Nat,¬(n:Int)<0:=fun n=>by omega
 have k1:=yg g.ev (Wv f) 281 [.agg [I f]] [] hl (fun _=>by simp) (fun _=>by simp) (fun e he=>RP e f (hs e he) hf) (fun _ _ xs=>match xs with|[_,.agg [_,_,.int _ st,.int _ fr,_,_,_]]=>.bool (Wv f ⟨0,0,st,fr,0,0,[],false⟩)|_=>.junk) (fun _ e _=>rfl)
 have k2:∀(row:List AV)(id:Int),Pure Tryz.prog az 106 [.sl .ro (g.ev.map Qf),.fn 282 [] [.ep (I id::row) 0]] (I (Ur (fun e=>decide (e.id=id)) g.ev 0)):=fun row id=>
  yg g.ev (fun e=>decide (e.id=id)) 282 [] [.ep (I id::row) 0] hl (fun _=>by simp) (fun _=>by simp) (fun e _=>Lw e row id) (fun _ _ xs=>match xs with|.agg (.int _ n::_)::_=>.bool (decide (n=id))|_=>.junk) (fun _ e _=>rfl)
 cases h1:g.ev.find? (Wv f)with
 |none=>
  rw[Qda h1]at k1;refine an.read (Xe Nt (fun _ _ _=>I (-1)) (by simp) ?_);simp[Ao,Ap,Qu,Qo,Qb,Un,Jj,h1];exact⟨k1,iI⟩
 |some e=>
  obtain⟨n,g1,g2,g3⟩:=Kz (i:=0) h1;have k2':=k2;have hn:n<g.ev.length:=(zza.1 g2).1;have dH:=zzad g2
  have hex:(g.ev.find? fun e'=>decide (e'.id=e.id)).isSome=true:=by
   rw[List.find?_isSome];exact⟨e,dH,by simp⟩
  obtain⟨e2,he2⟩:=zzcj.1 hex;obtain⟨n2,q1,q2,q3⟩:=Kz (i:=0) he2;have qL:n2<g.ev.length:=(zza.1 q2).1;rw[g1,zzbv]at k1;have r1:Qh (g.ev.map Qf) n=Qf e:=Qs (by simp[g2]);have r2:Qh (g.ev.map Qf) n2=Qf e2:=Qs (by simp[q2]);have si:(n:Int)<(g.ev.length:Int):=by omega
  have aw8:(n2:Int)<(g.ev.length:Int):=by omega
  obtain⟨⟨a1,a2⟩,⟨a3,a4⟩,⟨a5,a6⟩,_⟩:=hs e dH;obtain⟨f1,f2⟩:=hf;have hon:e.st<=f/\f<e.st+e.fr:=by simpa[Wv]using g3
  have w1:IntKind.i64.wrap (f-e.st)=f-e.st:=by rw[Qk]<;>omega
  have w2:IntKind.i64.wrap (e.fr-(f-e.st))=e.fr-(f-e.st):=by rw[Qk]<;>omega
  have w3:IntKind.i64.wrap (e.i+(f-e.st))=e.i+(f-e.st):=by rw[Qk]<;>omega
  refine an.read (Xe Nt (fun d _ _=>if d=15 then I n else I n2) (by simp) ?_);have aN:e2.id=e.id:=by simpa using q3
  by_cases h0:e.id=0
  ·simp[Ao,Ap,Qu,Qo,Qb,Un,Jj,h1,Qf,si,r1,h0];exact⟨k1,iI⟩
  rcases Xr AV.bool e.id b 0 with⟨b1,b2,_⟩|⟨u,u',b1,b2,_⟩
  ·simp[Ao,Ap,Qu,Qo,Qb,Un,Jj,h1,Qf,si,r1,h0,ze,b1,b2,hB,hN];exact⟨k1,iI⟩
  cases u with
  |false=>
   simp[Ao,Ap,Qu,Qo,Qb,Un,Jj,h1,Qf,si,r1,h0,ze,b1,b2,hB,hN];exact⟨k1,iI⟩
  |true=>
   have k2:=k2 [I e.it,I e.st,I e.fr,I e.i,I e.re,.sl .ro (e.al.map Qe)] e.id;rw[q1,zzbv]at k2;simp[Ao,Ap,Qu,Qo,Qb,Un,Jj,h1,Qf,si,r1,h0,ze,b1,b2,hB,hN,w1,w2,w3,uO,rI,he2];refine⟨k1,k2,Xu ?_⟩;simp[aw8,r2,Qf];exact iI
end Go.Proofs.YtnopaopphmjnmaaGreatDoor
