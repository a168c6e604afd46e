import Derived.Test.YtnopaopphmjnmaaGreatDoorMLSaG
import Derived.Test.YtnopaopphmjnmaaGreatDoorMLMbF
set_option linter.all false
set_option maxRecDepth 100000
set_option maxHeartbeats 64000000
namespace Go.Proofs.YtnopaopphmjnmaaGreatDoor
open Go Go.Abs
def axE(of:Int)(sh:List Sp)(x fr to:Int):Bool:=
 if Yd of sh=false\/x<0\/10000000000<x\/fr<0\/86400<=fr\/to<0\/86400<=to then false else
 if fr<to then decide (fr<=(x+yJ of sh x)%86400)&&decide ((x+yJ of sh x)%86400<to)else decide (fr<=(x+yJ of sh x)%86400)||decide ((x+yJ of sh x)%86400<to)
def DS(n lo hi:Int):Pure Tryz.prog az 133 [I n,I lo,I hi] (.bool (wi n lo hi)):=by
 refine Qn acE (fun _ _ _=>.junk) (by simp) ?_;by_cases h1:lo<=n<;>by_cases h2:n<=hi<;>simp[ahC,ahD,wi,h1,h2]
def HJ(c:Cl):Pure Tryz.prog az 65 [.agg (Qg c)] (.bool (Xk c)):=by
 have kw:=DS;refine Qn ale DT (by simp) ?_;by_cases h1:c.ki=1
 ·simp[Ei,Ej,Qg,DT,h1];refine⟨kw _ _ _,fun _=>kw _ _ _,?_⟩;clear kw;obtain⟨ki,it,fr,to,re,n,a,b⟩:=c;simp only at h1;rw[zzbt];simp[Xk,Ko,Ui,Vk,Vw,wi,h1];omega
 by_cases h2:c.ki=2
 ·simp[Ei,Ej,Qg,DT,h2];refine⟨kw _ _ _,fun _=>kw _ _ _,?_⟩;clear kw;obtain⟨ki,it,fr,to,re,n,a,b⟩:=c;simp only at h2;rw[zzbt];simp[Xk,Ko,Ui,Vk,Vw,wi,h2];omega
 by_cases h3:c.ki=3
 ·simp[Ei,Ej,Qg,DT,h3];refine⟨kw _ _ _,fun _=>kw _ _ _,fun _ _=>kw _ _ _,?_⟩;clear kw;obtain⟨ki,it,fr,to,re,n,a,b⟩:=c;simp only at h3;rw[zzbt];simp[Xk,Ko,Ui,Vk,Vw,wi,h3];omega
 by_cases h4:c.ki=4
 ·simp[Ei,Ej,Qg,DT,h4];refine⟨kw _ _ _,fun _=>kw _ _ _,fun _ _=>kw _ _ _,?_⟩;clear kw;obtain⟨ki,it,fr,to,re,n,a,b⟩:=c;simp only at h4;rw[zzbt];simp[Xk,Ko,Ui,Vk,Vw,wi,h4];omega
 by_cases h5:c.ki=5
 ·simp[Ei,Ej,Qg,DT,h5];refine⟨kw _ _ _,fun _=>kw _ _ _,kw _ _ _,fun _=>kw _ _ _,fun _ _ _=>kw _ _ _,?_⟩;clear kw;obtain⟨ki,it,fr,to,re,n,a,b⟩:=c;simp only at h5;rw[zzbt];simp[Xk,Ko,Ui,Vk,Vw,wi,h5];omega
 by_cases h6:c.ki=6
 ·simp[Ei,Ej,Qg,DT,h6];refine⟨kw _ _ _,fun _=>kw _ _ _,kw _ _ _,fun _=>kw _ _ _,fun _ _ _ _ _=>kw _ _ _,?_⟩;clear kw;obtain⟨ki,it,fr,to,re,n,a,b⟩:=c;simp only at h6;rw[zzbt];simp[Xk,Ko,Ui,Vk,Vw,wi,h6];omega
 have hv:Xk c=false:=by simp[Xk,Ui,h1,h2,h3,h4,h5,h6]
 rw[hv];simp[Ei,Ej,Qg,DT,h1,h2,h3,h4,h5,h6];exact⟨kw _ _ _,fun _=>kw _ _ _⟩
def axF(s r:Int):Bool:=if 0<=r/\r<8 then decide ((s/2 ^ r.toNat)%2=1)else false
def atK(c:Cl)(k item region:Int):Bool:=decide (c.ki=k)&&(Xk c&&(decide (c.it=item)&&axF c.re region))
def hasB(l:List Sp)(x:Int):Bool:=l.any fun s=>decide (s.1<=x)&&decide (x<s.2)
def akk(a:Int):List AV:=[I a]
def anE:List Int->Int->List Int
 |[],x=>[x]
 |a::r,x=>if a<x then a::anE r x else if a=x then a::r else x::a::r
def anF(item region:Int)(c:Cl):Bool:=atK c 1 item region||atK c 2 item region
def edS(C:List Cl):List Int:=C.foldl (fun e c=>anE (anE e c.fr) c.to) []
def anG(C:List Cl)(Ed:List Int):Nat->List Sp
 |0=>[]
 |j+1=>if grX C (Ed.getD j 0)=true then nM (anG C Ed j) (Ed.getD j 0) (Ed.getD (j+1) 0)else anG C Ed j
def axG(cs:List Cl)(item region:Int):List Sp:=anG (cs.filter (anF item region)) (edS (cs.filter (anF item region))) ((edS (cs.filter (anF item region))).length-1)
def atM:List AV->Int
 |[.int _ a]=>a
 |_=>0
@[simp] def agz(l:List Int):(l.map akk).map atM=l:=by
 induction l with
 |nil=>rfl
 |cons a l ih=>simp only[zzaz,ih];rfl
@[simp] def atN(l:List Int):l.map (atM ∘ akk)=l:=by rw[<- zzcy];exact agz l
def atO(p:Pl)(item region f:Int):Bool:=match Xh item p.aL with
 |none=>false
 |some it=>if region<0\/8<=region\/f<0\/100000000<f then false else if it.ki=5 then true else if Kg p=false then false else
  hasB (axG p.cls item region) (p.ep+Yn p.nu p.de f)&&(uD p.cls it.ra).all fun w=>axE p.of p.sh (p.ep+Yn p.nu p.de f) w.1 w.2
def ays(p:Pl)(last f:Int):Int:=if Kg p=true then min last (xu p.nu p.de (Yn p.nu p.de f+1))else last
def ayt(p:Pl)(item region first f:Int)(L:List Sp):Prop:=VS L/\(∀s∈L,s.2<=f)/\(∀x,Xt L x<->first<=x/\x<f/\atO p item region x=true)/\(L.length:Int)<=f-first
section
variable (P:Int->Prop) (fr low:Int)
def OkA(t:Int):Prop:=∀x,t<=x->x<t+fr->P x
structure RfI (c run last:Int):Prop where
 no:∀t,low<=t->t+fr<=c->¬OkA P fr t
 st:(run= -1/\last= -1/\∀x,low<=x->x<c->¬P x)\/(low<=run/\run<last/\last<=c/\(∀x,run<=x->x<last->P x)/\(run=low\/¬P (run-1))/\∀x,last<=x->x<c->¬P x)
end
def nlB(a b:List Sp):Bool:=a.all fun x=>b.all fun y=>!(decide (x.1=y.1)&&decide (y.2<x.2))
def j8(w:Bool):∀(ids:List Int)(K:List Bool),(Xb w ids K).Sublist ids
 |[],K=>by cases K<;>simp[Xb]
 |id::r,[]=>by simp[Xb]
 |id::r,k::ks=>by
  rw[Xb];split
  ·exact(j8 w r ks).cons_cons id
  exact(j8 w r ks).cons id
def HK:∀{ids:List Int}{K:List Bool},K.length=ids.length->(∀j,j<ids.length->K.getD j false=true)->Xb true ids K=ids/\Xb false ids K=[]
 |[],K,_,_=>by cases K<;>exact⟨rfl,rfl⟩
 |id::r,[],h,_=>by simp at h
 |id::r,k::ks,h,hk=>by
  have h0:=hk 0 (by simp);simp at h0;subst h0
  obtain⟨h1,h2⟩:=HK (ids:=r) (K:=ks) (by simpa using h) fun j hj=>by
   have:=hk (j+1) (by simpa using hj);simpa using this
  simp[Xb,h1,h2]
def Mj{ok:List Int->Bool}(hm:aaL ok)(h0:ok []=true)(rd:Int->Nat)(ids:List Int)(fB:∀id∈ids,rd id<=2)(h:ok ids=true):Xb true ids (Jm ok rd ids)=ids/\Xb false ids (Jm ok rd ids)=[]:=by
 obtain⟨h1,h2,h3⟩:=tf hm h0 rd ids fB;refine HK h1 fun j hj=>?_;rcases h3 j _ (zzac hj)with h4|h4
 ·exact h4
 rw[hm _ _ (j8 true ids _) h]at h4;cases h4
def Ea(s:ByteArray)(i:Nat):Option Nat->ByteArray
 |none=>⟨#[]⟩
 |some k=>s.extract k i
def aaM(s:ByteArray)(k i:Nat)(h:k<=i):s.extract k i++s.extract i (i+1)=s.extract k (i+1):=by
 rw[ByteArray.extract_append_extract];congr 1<;>omega
def aaN(s:ByteArray)(k i:Nat)(h:k<i)(hi:i<=s.size):s.extract k i≠⟨#[]⟩:=by
 intro e;have h2:(s.extract k i).size=0:=by rw[e];rfl
 rw[zzfo]at h2;omega
def axH(ls:List Nat)(rt:Rt)(o:List ByteArray):Prop:=(o=[]/\rt=.nil/\ls=[])\/(o≠[]/\rt=.own 0 1/\ls=[o.length])
def atP(s:ByteArray)(f:Nat->AV)(m:AM):Prop:=∃(i:Nat)(first:Option Nat)(o:List ByteArray)(rt:Rt)(ls:List Nat),f 5=I i/\i<=s.size/\f 4=.str (Ea s i first)/\(∀k,first=some k->k<i)/\f 3=.sl rt (o.map Kh)/\axH ls rt o/\o.length<=i/\o++Dt s i first=Ul s/\m=⟨[],ls,fun _=>.gone,0⟩
def aaO(s:ByteArray)(h:s.size<=1000000):Pure Tryz.prog az 210 [.str s] (.sl .ro ((Ul s).map Kh)):=by
 have key:∃rt,Pure Tryz.prog az 210 [.str s] (.sl rt ((Ul s).map Kh)):=by
  refine⟨if Ul s=[]then .nil else .ro,Qn adp (fun _ _ _=>.junk) (by simp) ?_⟩;simp[UU];refine Qi gr (atP s) (fun f _=>s.size-(numOf (f 5)).toNat) ?_ ?_
  ·exact⟨0,none,[],.nil,[],by simp,by omega,by simp[Ea],(fun k hk=>by cases hk),by simp,.inl ⟨rfl,rfl,rfl⟩,by simp,by simp[Dt,Ul],rfl⟩
  rintro f m ⟨i,first,o,rt,ls,f5,hi,f4,AD,f3,hO,Oc,hr,rfl⟩;rcases zzaa i s.size with ai|bu
  ·have aa:(i:Int)<(s.size:Int):=by omega
   have hw:=bJ i (by omega);have D8:=rH s i ai;by_cases hb:tZ s i≠32
   ·have hbI:¬((tZ s i:Nat):Int)=32:=by omega
    rw[GH first ai hb]at hr
    have cc:Ea s i first++s.extract i (i+1)=Ea s (i+1) (some (first.getD i)):=by
     cases first with
     |none=>
      simp only[Ea,Option.getD_none];exact ByteArray.empty_append
     |some k=>simp only[Ea,zzha];exact aaM s k i (by have:=AD k rfl;omega)
    have hsz:(Ea s i first).size<=s.size:=by
     cases first with
     |none=>exact zzcc _
     |some k=>simp only[Ea,zzfo];omega
    simp[f5,f4,gr,ai,aa,D8,hbI,hw,cc];refine⟨by omega,by omega,aO,⟨i+1,some (first.getD i),o,rt,ls,by simp,by omega,by simp,?_,by simp[f3],hO,by omega,hr,rfl⟩,by omega⟩
    ·intro k hk;cases hk;cases first with
     |none=>simp
     |some k=>have:=AD k rfl;simp;omega
   have GI:tZ s i=32:=by omega
   rw[Du first hi (fun _=>GI)]at hr;cases first with
   |none=>
    simp only[gX,zzai]at hr;simp[f5,f4,gr,ai,aa,D8,GI,hw,Ea];refine⟨aO,⟨i+1,none,o,rt,ls,by simp,by omega,by simp[Ea],(fun k hk=>by cases hk),by simp[f3],hO,by omega,hr,rfl⟩,by omega⟩
   |some k=>
    have hk:=AD k rfl;have aK:=aaN s k i hk hi;simp only[gX]at hr;have ei:¬(s.extract k i).toList=[]:=fun e=>aK ((jS _).1 e);rw[<- zzaw]at hr;obtain⟨rfl,rfl,rfl⟩|⟨h0,rfl,rfl⟩:=hO
    ·simp[f5,f4,f3,gr,ai,aa,D8,GI,hw,Ea,ei];refine⟨aO,⟨i+1,none,[]++[s.extract k i],.own 0 1,[1],by simp,by omega,by simp[Ea],(fun k hk=>by cases hk),by simp[Kh],.inr ⟨by simp,rfl,by simp⟩,by simp,hr,rfl⟩,by omega⟩
    simp[f5,f4,f3,gr,ai,aa,D8,GI,hw,Ea,ei];refine⟨⟨?_,by omega⟩,aO,⟨i+1,none,o++[s.extract k i],.own 0 1,[o.length+1],by simp,by omega,by simp[Ea],(fun k hk=>by cases hk),by simp[Kh],.inr ⟨by simp,rfl,by simp⟩,by simp;omega,hr,rfl⟩,by omega⟩
    ·rintro row (⟨a,_,rfl⟩|rfl)<;>rfl
  obtain rfl:i=s.size:=by omega
  rw[Du first hi (fun h=>absurd h (Nat.lt_irrefl _)),show Dt s (s.size+1) none=[] by rw[Dt,if_neg (by omega)],zzau]at hr;cases first with
  |none=>
   simp only[gX,zzau]at hr;subst hr;obtain⟨h0,rfl,rfl⟩|⟨h0,rfl,rfl⟩:=hO
   ·simp[f5,f4,f3,gr,Ea,EF,h0]
   simp[f5,f4,f3,gr,Ea,EF,h0]
  |some k=>
   have hk:=AD k rfl;have aK:=aaN s k s.size hk hi;have ei:¬(s.extract k s.size).toList=[]:=fun e=>aK ((jS _).1 e);simp only[gX]at hr;rw[<- hr];obtain⟨rfl,rfl,rfl⟩|⟨h0,rfl,rfl⟩:=hO
   ·simp[f5,f4,f3,gr,Ea,ei,EF,Kh]
   simp[f5,f4,f3,gr,Ea,ei,EF,Kh];exact⟨by rintro row (⟨a,_,rfl⟩|rfl)<;>rfl,by omega⟩
 obtain⟨rt,h⟩:=key;exact Qz h (Wk.sl _ _)
def RV2(ct:List ByteArray)(V:AV)(rest:List (List AV)):Prop:=(ct=[]/\V=.sl .nil []/\rest=[])\/(ct≠[]/\∃k,V=.bs k 0 ct.length 1/\k<rest.length/\Qh rest k=Vg ct)
def atQ(s:ByteArray)(f:Nat->AV)(m:AM):Prop:=∃i:Nat,f 4=I i/\i<=s.size/\RM s=GG s (s.size-i) i/\m=⟨[],[],fun _=>.gone,0⟩
def atS(q:List ByteArray)(f:Nat->AV)(m:AM):Prop:=∃(i:Nat)(ct:List ByteArray)(V:AV)(rest:List (List AV)),f 7=I i/\i<=q.length/\f 5=.sl .ro (q.map Kh)/\f 6=V/\lay [] (q.take i)=some ct/\(∀r∈ct,r.size<=32)/\ct.length<=i/\RV2 ct V rest/\m=⟨rest,[],fun _=>.gone,0⟩
def HL(s:ByteArray):Nat->FuncId->List AV->AV:=fun d f _=>if f=999999 then(if d=81 then .aJ 0 []else .junk)else .sl .ro ((Ul s).map Kh)
def aaP{q:List ByteArray}{i:Nat}(h:lay [] (q.take i)=none):lay [] q=none:=by
 have hq:q=q.take i++q.drop i:=(zzdb _ _).symm;rw[hq,p6,h];rfl
def agB(s:ByteArray):Pure Tryz.prog az 134 [.str s] (Jh (Jg s)):=by
 refine Qn acF (HL s) (by simp) ?_;by_cases h2:200<s.size
 ·have D6:(200:Int)<(s.size:Int):=by omega
  have:Jg s=none:=by rw[Jg,if_pos (.inl h2)]
  rw[this];simp[Et,rX,D6,Jh]
 have D6:¬(200:Int)<(s.size:Int):=by omega
 have kw:=aaO s (by omega);simp[Et,D6];refine Qi vg (atQ s) (fun f _=>s.size-(numOf (f 4)).toNat) ?_ ?_
 ·exact⟨0,by simp,by omega,rfl,rfl⟩
 rintro f m ⟨i,f4,hi,hr,rfl⟩;rcases zzaa i s.size with ai|bu
 ·have aa:(i:Int)<(s.size:Int):=by omega
  have hw:=bJ i (by omega);obtain⟨n,hn⟩:∃n,s.size-i=n+1:=⟨s.size-i-1,by omega⟩;have hb:=rH s i ai;rw[hn,GG]at hr;by_cases h1:tZ s i<32
  ·rw[if_pos (.inl h1)]at hr;have:Jg s=none:=by rw[Jg,if_pos (.inr hr)]
   have oO:((tZ s i:Nat):Int)<32:=by omega
   rw[this];simp[f4,vg,rX,ai,aa,hb,oO,Jh]
  have oO:¬((tZ s i:Nat):Int)<32:=by omega
  by_cases h3:126<tZ s i
  ·rw[if_pos (.inr h3)]at hr;have:Jg s=none:=by rw[Jg,if_pos (.inr hr)]
   have h3':(126:Int)<((tZ s i:Nat):Int):=by omega
   rw[this];simp[f4,vg,rX,ai,aa,hb,oO,h3',Jh]
  rw[if_neg (by omega)]at hr;have h3':¬(126:Int)<((tZ s i:Nat):Int):=by omega
  simp[f4,vg,ai,aa,hw,hb,oO,h3'];refine⟨aO,⟨i+1,by simp,by omega,by rw[hr];congr 1;omega,rfl⟩,by omega⟩
 obtain rfl:i=s.size:=by omega
 rw[zzdn,GG]at hr
 have sF:Jg s=match lay [] (Ul s)with
  |some l=>if l=[]\/4<l.length then none else some l
  |none=>none:=by
   rw[Jg,if_neg (by simp[hr];omega)];rfl
 rw[sF];have hql:(Ul s).length<=201:=by have:=uN s s.size 0 none;unfold Ul;omega
 simp[f4,vg,HL];refine⟨kw,?_⟩;clear kw sF;generalize Ul s=q at hql;clear hr;refine Qi iP (atS q) (fun f _=>q.length-(numOf (f 7)).toNat) ?_ ?_
 ·exact⟨0,[],.sl .nil [],[],by simp,by omega,by simp,by simp,rfl,(fun _ h=>by cases h),by simp,.inl ⟨rfl,rfl,rfl⟩,rfl⟩
 rintro f m ⟨i,ct,V,rest,f7,hi,f5,f6,g1,g2,g3,g5,rfl⟩;rcases zzaa i q.length with ai|bu
 ·obtain⟨w,hy⟩:=aS ai;have ah:Qh (q.map Kh) i=[.str w]:=Qs (by simp[hy,Kh]);have aa:(i:Int)<(q.length:Int):=by omega
  have KS:=bJ i (by omega);have bB:q.take (i+1)=q.take i++[w]:=by rw[zzas,hy];rfl
  have dZ:lay [] (q.take (i+1))=if 32<w.size then none else some (GM ct w):=by
   rw[bB,p6,g1];simp[lay]
  by_cases hw:32<w.size
  ·have IA:(32:Int)<(w.size:Int):=by omega
   rw[if_pos hw]at dZ;rw[aaP dZ];simp[f7,f6,iP,rX,aa,ah,IA,Jh]
  have IA:¬(32:Int)<(w.size:Int):=by omega
  rw[if_neg hw]at dZ;have hsz:=OG g2 (by omega:w.size<=32);have dg:=GN ct w;obtain⟨h0,hV,hre⟩|⟨h0,k,hV,cV,dw⟩:=g5
  ·subst h0;subst hV;subst hre;have qp:IntKind.i64.wrap (-1)= -1:=by rw[Qk]<;>omega
   simp[f7,f6,iP,aa,ah,IA,HL,qp,KS];refine⟨aO,⟨i+1,[w],.bs 0 0 1 1,[[.str w]],by simp,by omega,by simp,by simp,by rw[dZ,p5],(fun r h=>by simp at h;subst h;omega),by simp,.inr ⟨by simp,0,rfl,by simp,by simp[Vg]⟩,rfl⟩,by omega⟩
  subst hV;obtain⟨pre,r,rfl⟩:=(Qby ct).resolve_left h0;have ck:pre.length+1<=i:=by simpa using g3
  have qp:IntKind.i64.wrap (pre.length:Int)=(pre.length:Int):=by rw[Qk]<;>omega
  have gP:(Vg (pre++[r])).length=pre.length+1:=by simp[Vg]
  have aw7:=g2 r (by simp);have hsC:Vg (pre++[r])=Vg pre++[.str r]:=by simp[Vg]
  have gG:(Vg pre).length=pre.length:=by simp[Vg]
  have Lu:(Vg (pre++[r])).take (pre.length+1)=Vg (pre++[r]):=zzap (by omega);have dX:(Vg (pre++[r])).drop pre.length=[.str r]:=by rw[hsC,<- gG,zzfk]
  have fC:IntKind.i64.wrap ((r.size:Int)+1)=(r.size:Int)+1:=by rw[Qk]<;>omega
  have ee:IntKind.i64.wrap ((r.size:Int)+1+(w.size:Int))=(r.size:Int)+1+(w.size:Int):=by rw[Qk]<;>omega
  rw[lC]at dZ hsz dg;by_cases hc:r.size+1+w.size<=32
  ·rw[if_pos hc]at dZ hsz dg;have qn:(r.size:Int)+1+(w.size:Int)<=32:=by omega
   simp[f7,f6,iP,aa,ah,IA,HL,qp,dw,dX,gP,fC,ee,qn,KS];have has:r++⟨#[32]⟩++w=r++(zb++w):=zzhk
   have bV:(Vg (pre++[r])).set pre.length (.str (r++(zb++w)))=Vg (pre++[r++(zb++w)]):=by
    rw[hsC,<- gG,zzcs _ _ (zzab _)];simp[Vg]
   have hrk:Qh (rest.set k (Vg (pre++[r++(zb++w)]))) k=Vg (pre++[r++(zb++w)]):=by
    simp[Qh,zzar,-Vn,cV]
   have hs1:(⟨#[32]⟩:ByteArray).size=1:=rfl;have agl:(⟨⟨[32]⟩⟩:ByteArray).size=1:=rfl;have axI:r++⟨⟨[32]⟩⟩++w=r++(zb++w):=zzhk;refine⟨by omega,by omega,by omega,by omega,cV,ag ?_,⟨i+1,pre++[r++(zb++w)],.bs k 0 (pre.length+1) 1,rest.set k (Vg (pre++[r++(zb++w)])),by simp,by omega,by simp,by simp,dZ,hsz,by simp;omega,.inr ⟨by simp,k,by simp,by simpa using cV,hrk⟩,by first|rw[has,bV]|rw[axI,bV]⟩,by omega⟩;repeat(first|exact Qc _ _|refine Qa _ rfl ?_)
  rw[if_neg hc]at dZ hsz dg;have qn:¬(r.size:Int)+1+(w.size:Int)<=32:=by omega
  simp[f7,f6,iP,aa,ah,IA,HL,qp,dw,dX,gP,fC,ee,qn,KS];have aK:¬Vg (pre++[r])=[]:=fun h=>by rw[h]at gP;simp at gP
  have hR:(rest.set k []).length=rest.length:=by simp
  refine⟨by omega,⟨⟨cV,aK⟩,by omega⟩,aO,⟨i+1,pre++[r]++[w],.bs rest.length 0 (pre.length+1+1) 1,rest.set k []++[Vg (pre++[r])++[.str w]],by simp,by omega,by simp,by simp,dZ,hsz,by simp;omega,.inr ⟨by simp,rest.length,by simp,by simp,?_⟩,by rw[Lu]⟩,by omega⟩
  ·rw[<- hR,Fu];simp[Vg]
 have hte:q.take i=q:=zzap bu;rw[hte]at g1;rw[g1];have bI:¬(i:Int)<(q.length:Int):=by omega
 obtain⟨h0,hV,hre⟩|⟨h0,k,hV,cV,dw⟩:=g5
 ·subst h0;subst hV;simp[f7,f6,iP,bI,rX,Jh]
 subst hV;have aH:¬ct.length=0:=fun h=>h0 (zzcb.1 h);have sr:¬ct.length<1:=by omega
 have aaQ:¬(ct.length:Int)<1:=by omega
 have gP:(Vg ct).length=ct.length:=by simp[Vg]
 by_cases h4:4<ct.length
 ·have IL:(4:Int)<(ct.length:Int):=by omega
  simp[f7,f6,iP,bI,rX,Jh,h0,h4,IL,aaQ]
 have IL:¬(4:Int)<(ct.length:Int):=by omega
 have zT:=fun m=>p7 m 4 ct;have am7:=fun m=>p7 m 3 ct;have lS:=yf ct;simp[f7,f6,iP,bI,rX,Jh,h0,h4,IL,dw,am7,lS,gP,aaQ]
def aaR(c:Cue):Pure Tryz.prog az 66 [.agg (Qj c)] (.bool (sS c)):=by
 have k:=agB c.tx;refine Qn alf (fun _ _ _=>Jh (Jg c.tx)) (by simp) ?_;by_cases h1:c.id<1
 ·simp[PI,PJ,Qj,h1,sS]
 by_cases h2:4611686018427387903<c.id
 ·simp[PI,PJ,Qj,h1,h2,sS]
 by_cases h3:c.to=0
 ·simp[PI,PJ,Qj,h1,h2,h3,sS];rw[zzbt];simp[jS,and_assoc]
 cases hr:Jg c.tx with
 |none=>
  rw[hr]at k;simp[PI,PJ,Qj,h1,h2,h3,sS,hr,Jh];exact k
 |some l=>
  rw[hr]at k;simp[PI,PJ,Qj,h1,h2,h3,sS,hr,Jh];refine⟨k,?_⟩;rw[zzbt];simp;omega
def SJ(n:Int):Pure Tryz.prog az 63 [I n] (.bool (eG n)):=by
 refine Qn alc (fun _ _ _=>.junk) (by simp) ?_;by_cases h:1<=n
 ·simp[ala,alb,h,eG]
 simp[ala,alb,h,eG]
def zZ{α:Type}{a b:List α}{i:Nat}{x y:α}(hx:a[i]?=some x)(hy:b[i]?=some y)(h:a.take i=b.take i):a.take (i+1)=b.take (i+1)<->x=y:=by
 rw[zzas,zzas,hx,hy,h];simp
def tg{α:Type}{a b:List α}{i:Nat}(h:a.take i≠b.take i):a≠b:=fun e=>h (by rw[e])
def aaS(a b:List Sp)(ha:a.length<=8796093022208):Pure Tryz.prog az 180 [.sl .ro (a.map Qe),.sl .ro (b.map Qe)] (.bool (decide (a=b))):=by
 refine Qn acW (fun _ _ _=>.junk) (by simp) ?_;by_cases hl:a.length=b.length
 ·simp[Nd,hl];refine Qi vl (fun f m=>∃i:Nat,f 5=I i/\i<=b.length/\a.take i=b.take i/\m=⟨[],[],fun _=>.gone,0⟩) (fun f _=>b.length-(numOf (f 5)).toNat) ?_ ?_
  ·exact⟨0,by simp,by omega,by simp,rfl⟩
  rintro f m ⟨i,h5,hi,ht,rfl⟩;rcases zzaa i b.length with ai|bu
  ·obtain⟨x,hx⟩:∃x,a[i]?=some x:=⟨_,zzac (by omega)⟩;obtain⟨y,hy⟩:=aS ai;have hrx:=Zc hx;have hry:=Zc hy;have aa:(i:Int)<(b.length:Int):=by omega
   have hw:=bJ i (by omega);have hs:=zZ hx hy ht;by_cases e1:x.1=y.1
   ·by_cases e2:x.2=y.2
    ·simp[h5,hl,aa,hrx,hry,vl,e1,e2,hw];refine⟨aO,⟨i+1,by simp,by omega,hs.2 (Prod.ext e1 e2)⟩,by omega⟩
    have aK:a≠b:=tg fun h=>e2 (by rw[hs.1 h]);simp[h5,hl,aa,hrx,hry,vl,e1,e2,Ey,aK]
   have aK:a≠b:=tg fun h=>e1 (by rw[hs.1 h]);simp[h5,hl,aa,hrx,hry,vl,e1,Ey,aK]
  have bI:¬(i:Int)<(b.length:Int):=by omega
  have he:a=b:=by
   rw[zzap (by omega),zzap (by omega)]at ht;exact ht
  simp[h5,bI,vl,Ey,he]
 have aK:a≠b:=fun e=>hl (by rw[e]);have ey:¬(a.length:Int)=(b.length:Int):=by omega
 simp[Nd,Ey,ey,aK]
def Mk(a b:ByteArray):a.toList=b.toList<->a=b:=by
 obtain⟨⟨l⟩⟩:=a;obtain⟨⟨l'⟩⟩:=b;rw[ByteArray.toList_eq,ByteArray.toList_eq];simp
def DU(a b:En):Bool:=decide (a.al=b.al/\a.id=b.id/\a.it=b.it/\a.fr=b.fr/\a.ea=b.ea/\a.la=b.la/\a.bo=b.bo)
def Ml(a b:Cue):Bool:=decide (a.id=b.id/\a.fr=b.fr/\a.to=b.to/\a.pr=b.pr/\a.tx=b.tx)
def z6(a b:Od):Bool:=DU a.nw b.nw&&(decide (a.sq=b.sq)&&(decide (a.ch=b.ch)&&(decide (a.fr=b.fr)&&(decide (a.ki=b.ki)&&(decide (a.en=b.en)&&(decide (a.n=b.n)&&(decide (a.cl=b.cl)&&Ml a.cu b.cu)))))))
def aaT(a b:En)(ha:a.al.length<=8796093022208):Pure Tryz.prog az 108 [.agg (Qd a),.agg (Qd b)] (.bool (DU a b)):=by
 have k:=aaS a.al b.al ha;refine Qn ach (fun _ _ _=>.bool (decide (a.al=b.al))) (by simp) ?_;obtain⟨a1,a2,a3,a4,a5,a6,al⟩:=a;obtain⟨b1,b2,b3,b4,b5,b6,bl⟩:=b;simp[ahg,ahh,Qd];refine⟨k,?_⟩;rw[zzbt];simp[DU,and_assoc]
def agC(a b:Od)(ha:a.nw.al.length<=8796093022208):Pure Tryz.prog az 67 [.agg (Qq a),.agg (Qq b)] (.bool (z6 a b)):=by
 have k:=aaT a.nw b.nw ha;refine Qn alg (fun _ _ _=>.bool (DU a.nw b.nw)) (by simp) ?_;obtain⟨sq,ch,fr,ki,en,n,⟨a1,a2,a3,a4,a5,a6,al⟩,⟨c1,c2,c3,c4,c5,c6,c7,c8⟩,⟨d1,d2,d3,d4,tx⟩⟩:=a;obtain⟨sq',ch',fr',ki',en',n',⟨a1',a2',a3',a4',a5',a6',al'⟩,⟨c1',c2',c3',c4',c5',c6',c7',c8'⟩,⟨d1',d2',d3',d4',tx'⟩⟩:=b;simp only[Qd]at k;simp[ao5,ao6,Qq,Qd,Qg,Qj];refine⟨k,?_⟩;rw[zzbt];simp[z6,Ml,and_assoc];intros;exact Mk _ _
def z7(r:Int):List Sp->Bool
 |[]=>true
 |a::l=>if eG a.2=false\/a.1<=r\/8<=a.1 then false else z7 a.1 l
def O8:∀(l:List Sp)(r:Int),z7 r l=x9 r l
 |[],_=>rfl
 |a::l,r=>by
  rw[z7,x9,O8 l a.1];by_cases h:r<a.1/\a.1<=7/\eG a.2=true
  ·have h1:=h.1;have h2:=h.2.1;rw[if_pos h,if_neg (by rw[h.2.2];simp;omega)]
  rw[if_neg h];cases hi:eG a.2 with
  |false=>rw[if_pos (.inl rfl)]
  |true=>
   have h':¬(r<a.1/\a.1<=7):=fun hh=>h ⟨hh.1,hh.2,hi⟩;rw[if_pos (.inr (by omega))]
def aaU(e:En)(f:Nat->AV)(m:AM):Prop:=∃(i:Nat)(r:Int),f 7=I i/\i<=e.al.length/\f 6=I r/\z7 0 e.al=z7 r (e.al.drop i)/\m=⟨[Qd e],[],fun _=>.gone,0⟩
def Mm(e:En)(hl:e.al.length<=8796093022208):Pure Tryz.prog az 64 [.agg (Qd e)] (.bool (za e)):=by
 have q1:=SJ e.id;have q2:=SJ e.it;have q3:=SJ e.bo;refine Qn ald Vh (by simp) ?_
 have hbo:(e.bo=0)\/(e.bo≠0/\eG e.bo=true)\/(e.bo≠0/\eG e.bo=false):=by
  by_cases dO:e.bo=0
  ·exact .inl dO
  cases hb:eG e.bo with
  |true=>exact .inr (.inl ⟨dO,rfl⟩)
  |false=>exact .inr (.inr ⟨dO,rfl⟩)
 by_cases hbad:(eG e.it&&eG e.id&&decide (1<=e.fr/\e.fr<=100000000)&&decide (0<=e.ea/\e.ea<=e.la/\e.la<=100000000)&&(decide (e.bo=0)||eG e.bo))=true
 ·simp only[zzak,decide_eq_true_eq,zzhf]at hbad;obtain⟨⟨⟨⟨b1,b2⟩,b3,b4⟩,b5,b6,b7⟩,b8⟩:=hbad
  have hv:za e=z7 0 e.al:=by
   rw[O8];have h8:(decide (e.bo=0)||eG e.bo)=true:=by rw[zzhf,decide_eq_true_eq];exact b8
   simp only[za,b1,b2,b3,b4,b5,b6,b7,h8,zzdo,and_self,decide_true]
  have c1:¬e.fr<1:=by omega
  have c2:¬100000000<e.fr:=by omega
  have c3:¬e.ea<0:=by omega
  have c4:¬e.la<e.ea:=by omega
  have c5:¬100000000<e.la:=by omega
  rw[hv];have loop:∀(E:List (Nat×AV))(Q:Exit->AS->Prop),True:=fun _ _=>trivial;rw[b2]at q1;rw[b1]at q2;obtain h0|⟨h0,h1⟩|⟨h0,h1⟩:=hbo
  ·simp[I2,Qd,Vh,b1,b2,h0,c1,c2,c3,c4,c5];refine⟨q2,q1,?_⟩;refine Qi gM (aaU e) (fun f _=>e.al.length-(numOf (f 7)).toNat) ?_ ?_
   ·exact⟨0,0,by simp,by omega,by simp,by simp,by simp[Qd,h0]⟩
   rintro f m ⟨i,r,f7,hi,f6,hr,rfl⟩;rcases zzaa i e.al.length with ai|bu
   ·obtain⟨a,ha⟩:=aS ai;have ah:=Zc ha;have aa:(i:Int)<(e.al.length:Int):=by omega
    have hw:=bJ i (by omega);have hd:e.al.drop i=a::e.al.drop (i+1):=by rw[zzaf ai,(zza.1 ha).2]
    rw[hd,z7]at hr;have qa:=SJ a.2;cases d3:eG a.2 with
    |false=>
     rw[d3]at qa;rw[if_pos (.inl d3)]at hr;simp[f7,f6,gM,tD,Qd,aa,ah,d3,hr,Vh];exact qa
    |true=>
     rw[d3]at qa;by_cases d1:a.1<=r
     ·rw[if_pos (.inr (.inl d1))]at hr;simp[f7,f6,gM,tD,Qd,aa,ah,d1,d3,hr,Vh];exact qa
     by_cases d2:8<=a.1
     ·rw[if_pos (.inr (.inr d2))]at hr;simp[f7,f6,gM,tD,Qd,aa,ah,d1,d2,d3,hr,Vh];exact qa
     rw[if_neg (by rw[d3];simp;omega)]at hr;simp[f7,f6,gM,Qd,aa,ah,d1,d2,d3,Vh,hw];refine⟨qa,aO,⟨i+1,a.1,by simp,by omega,by simp,hr,by simp[Qd]⟩,by omega⟩
   obtain rfl:i=e.al.length:=by omega
   rw[zzbo,z7]at hr;simp[f7,f6,gM,tD,Qd,hr]
  ·rw[h1]at q3;simp[I2,Qd,Vh,b1,b2,h0,h1,c1,c2,c3,c4,c5];refine⟨q2,q1,q3,?_⟩;refine Qi gM (aaU e) (fun f _=>e.al.length-(numOf (f 7)).toNat) ?_ ?_
   ·exact⟨0,0,by simp,by omega,by simp,by simp,by simp[Qd]⟩
   rintro f m ⟨i,r,f7,hi,f6,hr,rfl⟩;rcases zzaa i e.al.length with ai|bu
   ·obtain⟨a,ha⟩:=aS ai;have ah:=Zc ha;have aa:(i:Int)<(e.al.length:Int):=by omega
    have hw:=bJ i (by omega);have hd:e.al.drop i=a::e.al.drop (i+1):=by rw[zzaf ai,(zza.1 ha).2]
    rw[hd,z7]at hr;have qa:=SJ a.2;cases d3:eG a.2 with
    |false=>
     rw[d3]at qa;rw[if_pos (.inl d3)]at hr;simp[f7,f6,gM,tD,Qd,aa,ah,d3,hr,Vh];exact qa
    |true=>
     rw[d3]at qa;by_cases d1:a.1<=r
     ·rw[if_pos (.inr (.inl d1))]at hr;simp[f7,f6,gM,tD,Qd,aa,ah,d1,d3,hr,Vh];exact qa
     by_cases d2:8<=a.1
     ·rw[if_pos (.inr (.inr d2))]at hr;simp[f7,f6,gM,tD,Qd,aa,ah,d1,d2,d3,hr,Vh];exact qa
     rw[if_neg (by rw[d3];simp;omega)]at hr;simp[f7,f6,gM,Qd,aa,ah,d1,d2,d3,Vh,hw];refine⟨qa,aO,⟨i+1,a.1,by simp,by omega,by simp,hr,by simp[Qd]⟩,by omega⟩
   obtain rfl:i=e.al.length:=by omega
   rw[zzbo,z7]at hr;simp[f7,f6,gM,tD,Qd,hr]
  obtain b8|b8:=b8
  ·exact absurd b8 h0
  rw[h1]at b8;cases b8
 have hv:za e=false:=by
  cases hi:za e with
  |false=>rfl
  |true=>
   refine absurd ?_ hbad;simp only[za,zzak]at hi |-
   exact⟨⟨⟨⟨hi.1.1.1.1.2,hi.1.1.1.1.1⟩,hi.1.1.1.2⟩,hi.1.1.2⟩,hi.1.2⟩
 rw[hv]
 have hX:(!eG e.it||!eG e.id||!(decide (e.bo=0)||eG e.bo)||decide (e.fr<1)||decide (100000000<e.fr)||decide (e.ea<0)||decide (e.la<e.ea)||decide (100000000<e.la))=true:=by
  cases hx:(!eG e.it||!eG e.id||!(decide (e.bo=0)||eG e.bo)||decide (e.fr<1)||decide (100000000<e.fr)||decide (e.ea<0)||decide (e.la<e.ea)||decide (100000000<e.la))with
  |true=>rfl
  |false=>
   refine absurd ?_ hbad;simp only[zzeu,Bool.not_eq_false',decide_eq_false_iff_not]at hx;obtain⟨⟨⟨⟨⟨⟨⟨x1,x2⟩,x3⟩,x4⟩,x5⟩,x6⟩,x7⟩,x8⟩:=hx;rw[x1,x2,x3];simp;omega
 obtain h0|⟨h0,h1⟩|⟨h0,h1⟩:=hbo
 ·simp[h0]at hX;simp[I2,tD,Qd,Vh,h0];refine⟨q2,q1,?_⟩;intro a1 a2 a3 a4 a5 a6 a7;exfalso;simp[a1,a2]at hX;omega
 ·simp[h0,h1]at hX;rw[h1]at q3;simp[I2,tD,Qd,Vh,h0,h1];refine⟨q2,q1,q3,?_⟩;intro a1 a2 a3 a4 a5 a6 a7;exfalso;simp[a1,a2]at hX;omega
 rw[h1]at q3;simp[I2,tD,Qd,Vh,h0,h1];exact⟨q2,q1,q3⟩
end Go.Proofs.YtnopaopphmjnmaaGreatDoor
