import Derived.Test.YtnopaopphmjnmaaGreatDoorMDSaG
import Derived.Test.YtnopaopphmjnmaaGreatDoorMDMbF
set_option linter.all false
set_option maxRecDepth 100000
set_option maxHeartbeats 64000000
namespace Go.Proofs.YtnopaopphmjnmaaGreatDoor
open Go Go.Abs
def ayK(of:Int)(sh:List Sp)(x fr to:Int):Bool:=
 if Vy of sh=false\/x<0\/10000000000<x\/fr<0\/86400<=fr\/to<0\/86400<=to then false else
 if fr<to then decide (fr<=(x+yA of sh x)%86400)&&decide ((x+yA of sh x)%86400<to)else decide (fr<=(x+yA of sh x)%86400)||decide ((x+yA of sh x)%86400<to)
def DN(n lo hi:Int):Pure Tryz.prog aq 133 [I n,I lo,I hi] (.bool (wi n lo hi)):=by
 refine Qn acQ (fun _ _ _=>.junk) (by simp) ?_;by_cases h1:lo<=n<;>by_cases h2:n<=hi<;>simp[ahW,ahX,wi,h1,h2]
def HM(c:Cl):Pure Tryz.prog aq 65 [.agg (Qg c)] (.bool (Xi c)):=by
 have kw:=DN;refine Qn alX DO (by simp) ?_;by_cases h1:c.ki=1
 ·simp[Ej,Ek,Qg,DO,h1];refine⟨kw _ _ _,fun _=>kw _ _ _,?_⟩;clear kw;obtain⟨ki,it,fr,to,re,n,a,b⟩:=c;simp only at h1;rw[zzbh];simp[Xi,Km,Ug,Vu,wi,h1];omega
 by_cases h2:c.ki=2
 ·simp[Ej,Ek,Qg,DO,h2];refine⟨kw _ _ _,fun _=>kw _ _ _,?_⟩;clear kw;obtain⟨ki,it,fr,to,re,n,a,b⟩:=c;simp only at h2;rw[zzbh];simp[Xi,Km,Ug,Vu,wi,h2];omega
 by_cases h3:c.ki=3
 ·simp[Ej,Ek,Qg,DO,h3];refine⟨kw _ _ _,fun _=>kw _ _ _,fun _ _=>kw _ _ _,?_⟩;clear kw;obtain⟨ki,it,fr,to,re,n,a,b⟩:=c;simp only at h3;rw[zzbh];simp[Xi,Km,Ug,Vu,wi,h3];omega
 by_cases h4:c.ki=4
 ·simp[Ej,Ek,Qg,DO,h4];refine⟨kw _ _ _,fun _=>kw _ _ _,fun _ _=>kw _ _ _,?_⟩;clear kw;obtain⟨ki,it,fr,to,re,n,a,b⟩:=c;simp only at h4;rw[zzbh];simp[Xi,Km,Ug,Vu,wi,h4];omega
 by_cases h5:c.ki=5
 ·simp[Ej,Ek,Qg,DO,h5];refine⟨kw _ _ _,fun _=>kw _ _ _,kw _ _ _,fun _=>kw _ _ _,fun _ _ _=>kw _ _ _,?_⟩;clear kw;obtain⟨ki,it,fr,to,re,n,a,b⟩:=c;simp only at h5;rw[zzbh];simp[Xi,Km,Ug,wi,h5];omega
 by_cases h6:c.ki=6
 ·simp[Ej,Ek,Qg,DO,h6];refine⟨kw _ _ _,fun _=>kw _ _ _,kw _ _ _,fun _=>kw _ _ _,fun _ _ _ _ _=>kw _ _ _,?_⟩;clear kw;obtain⟨ki,it,fr,to,re,n,a,b⟩:=c;simp only at h6;rw[zzbh];simp[Xi,Km,Ug,Ji,wi,h6];omega
 have hv:Xi c=false:=by simp[Xi,Ug,h1,h2,h3,h4,h5,h6]
 rw[hv];simp[Ej,Ek,Qg,DO,h1,h2,h3,h4,h5,h6];exact⟨kw _ _ _,fun _=>kw _ _ _⟩
def ayL(s r:Int):Bool:=if 0<=r/\r<8 then decide ((s/2 ^ r.toNat)%2=1)else false
def auP(c:Cl)(k item region:Int):Bool:=decide (c.ki=k)&&(Xi c&&(decide (c.it=item)&&ayL c.re region))
def hasB(l:List Sp)(x:Int):Bool:=l.any fun s=>decide (s.1<=x)&&decide (x<s.2)
def akX(a:Int):List AV:=[I a]
def aow:List Int->Int->List Int
 |[],x=>[x]
 |a::r,x=>if a<x then a::aow r x else if a=x then a::r else x::a::r
def aox(item region:Int)(c:Cl):Bool:=auP c 1 item region||auP c 2 item region
def edS(C:List Cl):List Int:=C.foldl (fun e c=>aow (aow e c.fr) c.to) []
def aoy(C:List Cl)(Ed:List Int):Nat->List Sp
 |0=>[]
 |j+1=>if grX C (Ed.getD j 0)=true then nG (aoy C Ed j) (Ed.getD j 0) (Ed.getD (j+1) 0)else aoy C Ed j
def ayM(cs:List Cl)(item region:Int):List Sp:=aoy (cs.filter (aox item region)) (edS (cs.filter (aox item region))) ((edS (cs.filter (aox item region))).length-1)
def auQ:List AV->Int
 |[.int _ a]=>a
 |_=>0
@[simp] def agY(l:List Int):(l.map akX).map auQ=l:=by
 induction l with
 |nil=>rfl
 |cons a l ih=>simp only[zzay,ih];rfl
@[simp] def auR(l:List Int):l.map (auQ ∘ akX)=l:=by rw[<- zzct];exact agY l
def auS(p:Pl)(item region f:Int):Bool:=match Xg item p.aL with
 |none=>false
 |some it=>if region<0\/8<=region\/f<0\/100000000<f then false else if it.ki=5 then true else if Ka p=false then false else
  hasB (ayM p.cls item region) (p.ep+Yk p.nu p.de f)&&(uw p.cls it.ra).all fun w=>ayK p.of p.sh (p.ep+Yk p.nu p.de f) w.1 w.2
def azz(p:Pl)(last f:Int):Int:=if Ka p=true then min last (wW p.nu p.de (Yk p.nu p.de f+1))else last
def azA(p:Pl)(item region first f:Int)(L:List Sp):Prop:=VS L/\(∀s∈L,s.2<=f)/\(∀x,Xq L x<->first<=x/\x<f/\auS p item region x=true)/\(L.length:Int)<=f-first
section
variable (P:Int->Prop) (fr low:Int)
def OkA(t:Int):Prop:=∀x,t<=x->x<t+fr->P x
structure RfI (c run last:Int):Prop where
 no:∀t,low<=t->t+fr<=c->¬OkA P fr t
 st:(run= -1/\last= -1/\∀x,low<=x->x<c->¬P x)\/(low<=run/\run<last/\last<=c/\(∀x,run<=x->x<last->P x)/\(run=low\/¬P (run-1))/\∀x,last<=x->x<c->¬P x)
end
def nlB(a b:List Sp):Bool:=a.all fun x=>b.all fun y=>!(decide (x.1=y.1)&&decide (y.2<x.2))
def j9(w:Bool):∀(ids:List Int)(K:List Bool),(Xc w ids K).Sublist ids
 |[],K=>by cases K<;>simp[Xc]
 |id::r,[]=>by simp[Xc]
 |id::r,k::ks=>by
  rw[Xc];split
  ·exact(j9 w r ks).cons_cons id
  exact(j9 w r ks).cons id
def HN:∀{ids:List Int}{K:List Bool},K.length=ids.length->(∀j,j<ids.length->K.getD j false=true)->Xc true ids K=ids/\Xc false ids K=[]
 |[],K,_,_=>by cases K<;>exact⟨rfl,rfl⟩
 |id::r,[],h,_=>by simp at h
 |id::r,k::ks,h,hk=>by
  have h0:=hk 0 (by simp);simp at h0;subst h0
  obtain⟨h1,h2⟩:=HN (ids:=r) (K:=ks) (by simpa using h) fun j hj=>by
   have:=hk (j+1) (by simpa using hj);simpa using this
  simp[Xc,h1,h2]
def Mr{ok:List Int->Bool}(hm:aa2 ok)(h0:ok []=true)(rd:Int->Nat)(ids:List Int)(gG:∀id∈ids,rd id<=2)(h:ok ids=true):Xc true ids (Jj ok rd ids)=ids/\Xc false ids (Jj ok rd ids)=[]:=by
 obtain⟨h1,h2,h3⟩:=tc hm h0 rd ids gG;refine HN h1 fun j hj=>?_;rcases h3 j _ (zzad hj)with h4|h4
 ·exact h4
 rw[hm _ _ (j9 true ids _) h]at h4;cases h4
def Ea(s:ByteArray)(i:Nat):Option Nat->ByteArray
 |none=>⟨#[]⟩
 |some k=>s.extract k i
def aa3(s:ByteArray)(k i:Nat)(h:k<=i):s.extract k i++s.extract i (i+1)=s.extract k (i+1):=by
 rw[ByteArray.extract_append_extract];congr 1<;>omega
def aa4(s:ByteArray)(k i:Nat)(h:k<i)(hi:i<=s.size):s.extract k i≠⟨#[]⟩:=by
 intro e;have h2:(s.extract k i).size=0:=by rw[e];rfl
 rw[zzhb]at h2;omega
def ayN(ls:List Nat)(rt:Rt)(o:List ByteArray):Prop:=(o=[]/\rt=.nil/\ls=[])\/(o≠[]/\rt=.own 0 1/\ls=[o.length])
def auT(s:ByteArray)(f:Nat->AV)(m:AM):Prop:=∃(i:Nat)(first:Option Nat)(o:List ByteArray)(rt:Rt)(ls:List Nat),f 5=I i/\i<=s.size/\f 4=.str (Ea s i first)/\(∀k,first=some k->k<i)/\f 3=.sl rt (o.map Kb)/\ayN ls rt o/\o.length<=i/\o++Dj s i first=Ui s/\m=⟨[],ls,fun _=>.gone,0⟩
def aa5(s:ByteArray)(h:s.size<=1000000):Pure Tryz.prog aq 210 [.str s] (.sl .ro ((Ui s).map Kb)):=by
 have key:∃rt,Pure Tryz.prog aq 210 [.str s] (.sl rt ((Ui s).map Kb)):=by
  refine⟨if Ui s=[]then .nil else .ro,Qn adL (fun _ _ _=>.junk) (by simp) ?_⟩;simp[U4];refine Qi gh (auT s) (fun f _=>s.size-(numOf (f 5)).toNat) ?_ ?_
  ·exact⟨0,none,[],.nil,[],by simp,by omega,by simp[Ea],(fun k hk=>by cases hk),by simp,.inl ⟨rfl,rfl,rfl⟩,by simp,by simp[Dj,Ui],rfl⟩
  rintro f m ⟨i,first,o,rt,ls,f5,hi,f4,P9,f3,hO,Iv,hr,rfl⟩;rcases zzaa i s.size with ai|bw
  ·have ah:(i:Int)<(s.size:Int):=by omega
   have hw:=bH i (by omega);have D6:=rC s i ai;by_cases hb:tW s i≠32
   ·have hbI:¬((tW s i:Nat):Int)=32:=by omega
    rw[GJ first ai hb]at hr
    have cc:Ea s i first++s.extract i (i+1)=Ea s (i+1) (some (first.getD i)):=by
     cases first with
     |none=>
      simp only[Ea,Option.getD_none];exact ByteArray.empty_append
     |some k=>simp only[Ea,zzgq];exact aa3 s k i (by have:=P9 k rfl;omega)
    have hsz:(Ea s i first).size<=s.size:=by
     cases first with
     |none=>exact zzcc _
     |some k=>simp only[Ea,zzhb];omega
    simp[f5,f4,gh,ai,ah,D6,hbI,hw,cc];refine⟨by omega,by omega,aN,⟨i+1,some (first.getD i),o,rt,ls,by simp,by omega,by simp,?_,by simp[f3],hO,by omega,hr,rfl⟩,by omega⟩
    ·intro k hk;cases hk;cases first with
     |none=>simp
     |some k=>have:=P9 k rfl;simp;omega
   have GK:tW s i=32:=by omega
   rw[Dk first hi (fun _=>GK)]at hr;cases first with
   |none=>
    simp only[gV,zzah]at hr;simp[f5,f4,gh,ai,ah,D6,GK,hw,Ea];refine⟨aN,⟨i+1,none,o,rt,ls,by simp,by omega,by simp[Ea],(fun k hk=>by cases hk),by simp[f3],hO,by omega,hr,rfl⟩,by omega⟩
   |some k=>
    have hk:=P9 k rfl;have aJ:=aa4 s k i hk hi;simp only[gV]at hr;have eu:¬(s.extract k i).toList=[]:=fun e=>aJ ((jP _).1 e);rw[<- zzba]at hr;obtain⟨rfl,rfl,rfl⟩|⟨h0,rfl,rfl⟩:=hO
    ·simp[f5,f4,f3,gh,ai,ah,D6,GK,hw,Ea,eu];refine⟨aN,⟨i+1,none,[]++[s.extract k i],.own 0 1,[1],by simp,by omega,by simp[Ea],(fun k hk=>by cases hk),by simp[Kb],.inr ⟨by simp,rfl,by simp⟩,by simp,hr,rfl⟩,by omega⟩
    simp[f5,f4,f3,gh,ai,ah,D6,GK,hw,Ea,eu];refine⟨⟨?_,by omega⟩,aN,⟨i+1,none,o++[s.extract k i],.own 0 1,[o.length+1],by simp,by omega,by simp[Ea],(fun k hk=>by cases hk),by simp[Kb],.inr ⟨by simp,rfl,by simp⟩,by simp;omega,hr,rfl⟩,by omega⟩
    ·rintro row (⟨a,_,rfl⟩|rfl)<;>rfl
  obtain rfl:i=s.size:=by omega
  rw[Dk first hi (fun h=>absurd h (Nat.lt_irrefl _)),show Dj s (s.size+1) none=[] by rw[Dj,if_neg (by omega)],zzat]at hr;cases first with
  |none=>
   simp only[gV,zzat]at hr;subst hr;obtain⟨h0,rfl,rfl⟩|⟨h0,rfl,rfl⟩:=hO
   ·simp[f5,f4,f3,gh,Ea,EF,h0]
   simp[f5,f4,f3,gh,Ea,EF,h0]
  |some k=>
   have hk:=P9 k rfl;have aJ:=aa4 s k s.size hk hi;have eu:¬(s.extract k s.size).toList=[]:=fun e=>aJ ((jP _).1 e);simp only[gV]at hr;rw[<- hr];obtain⟨rfl,rfl,rfl⟩|⟨h0,rfl,rfl⟩:=hO
   ·simp[f5,f4,f3,gh,Ea,eu,EF,Kb]
   simp[f5,f4,f3,gh,Ea,eu,EF,Kb];exact⟨by rintro row (⟨a,_,rfl⟩|rfl)<;>rfl,by omega⟩
 obtain⟨rt,h⟩:=key;exact Qz h (Wk.sl _ _)
def RV2(cq:List ByteArray)(V:AV)(rest:List (List AV)):Prop:=(cq=[]/\V=.sl .nil []/\rest=[])\/(cq≠[]/\∃k,V=.bs k 0 cq.length 1/\k<rest.length/\Qh rest k=Vd cq)
def auU(s:ByteArray)(f:Nat->AV)(m:AM):Prop:=∃i:Nat,f 4=I i/\i<=s.size/\RL s=GI s (s.size-i) i/\m=⟨[],[],fun _=>.gone,0⟩
def auV(q:List ByteArray)(f:Nat->AV)(m:AM):Prop:=∃(i:Nat)(cq:List ByteArray)(V:AV)(rest:List (List AV)),f 7=I i/\i<=q.length/\f 5=.sl .ro (q.map Kb)/\f 6=V/\lay [] (q.take i)=some cq/\(∀r∈cq,r.size<=32)/\cq.length<=i/\RV2 cq V rest/\m=⟨rest,[],fun _=>.gone,0⟩
def HO(s:ByteArray):Nat->FuncId->List AV->AV:=fun d f _=>if f=999999 then(if d=81 then .aK 0 []else .junk)else .sl .ro ((Ui s).map Kb)
def aa6{q:List ByteArray}{i:Nat}(h:lay [] (q.take i)=none):lay [] q=none:=by
 have hq:q=q.take i++q.drop i:=(zzd _ _).symm;rw[hq,pS,h];rfl
def agZ(s:ByteArray):Pure Tryz.prog aq 134 [.str s] (Jf (Je s)):=by
 refine Qn acR (HO s) (by simp) ?_;by_cases h2:200<s.size
 ·have D4:(200:Int)<(s.size:Int):=by omega
  have:Je s=none:=by rw[Je,if_pos (.inl h2)]
  rw[this];simp[Et,rS,D4,Jf]
 have D4:¬(200:Int)<(s.size:Int):=by omega
 have kw:=aa5 s (by omega);simp[Et,D4];refine Qi uV (auU s) (fun f _=>s.size-(numOf (f 4)).toNat) ?_ ?_
 ·exact⟨0,by simp,by omega,rfl,rfl⟩
 rintro f m ⟨i,f4,hi,hr,rfl⟩;rcases zzaa i s.size with ai|bw
 ·have ah:(i:Int)<(s.size:Int):=by omega
  have hw:=bH i (by omega);obtain⟨n,hn⟩:∃n,s.size-i=n+1:=⟨s.size-i-1,by omega⟩;have hb:=rC s i ai;rw[hn,GI]at hr;by_cases h1:tW s i<32
  ·rw[if_pos (.inl h1)]at hr;have:Je s=none:=by rw[Je,if_pos (.inr hr)]
   have qG:((tW s i:Nat):Int)<32:=by omega
   rw[this];simp[f4,uV,rS,ai,ah,hb,qG,Jf]
  have qG:¬((tW s i:Nat):Int)<32:=by omega
  by_cases h3:126<tW s i
  ·rw[if_pos (.inr h3)]at hr;have:Je s=none:=by rw[Je,if_pos (.inr hr)]
   have S9:(126:Int)<((tW s i:Nat):Int):=by omega
   rw[this];simp[f4,uV,rS,ai,ah,hb,qG,S9,Jf]
  rw[if_neg (by omega)]at hr;have S9:¬(126:Int)<((tW s i:Nat):Int):=by omega
  simp[f4,uV,ai,ah,hw,hb,qG,S9];refine⟨aN,⟨i+1,by simp,by omega,by rw[hr];congr 1;omega,rfl⟩,by omega⟩
 obtain rfl:i=s.size:=by omega
 rw[zzdl,GI]at hr
 have yW:Je s=match lay [] (Ui s)with
  |some l=>if l=[]\/4<l.length then none else some l
  |none=>none:=by
   rw[Je,if_neg (by simp[hr];omega)];rfl
 rw[yW];have hql:(Ui s).length<=201:=by have:=uD s s.size 0 none;unfold Ui;omega
 simp[f4,uV,HO];refine⟨kw,?_⟩;clear kw yW;generalize Ui s=q at hql;clear hr;refine Qi iN (auV q) (fun f _=>q.length-(numOf (f 7)).toNat) ?_ ?_
 ·exact⟨0,[],.sl .nil [],[],by simp,by omega,by simp,by simp,rfl,(fun _ h=>by cases h),by simp,.inl ⟨rfl,rfl,rfl⟩,rfl⟩
 rintro f m ⟨i,cq,V,rest,f7,hi,f5,f6,g1,g2,g3,g5,rfl⟩;rcases zzaa i q.length with ai|bw
 ·obtain⟨w,hy⟩:=aP ai;have aa:Qh (q.map Kb) i=[.str w]:=Qr (by simp[hy,Kb]);have ah:(i:Int)<(q.length:Int):=by omega
  have On:=bH i (by omega);have bA:q.take (i+1)=q.take i++[w]:=by rw[zzar,hy];rfl
  have ef:lay [] (q.take (i+1))=if 32<w.size then none else some (GP cq w):=by
   rw[bA,pS,g1];simp[lay]
  by_cases hw:32<w.size
  ·have Iu:(32:Int)<(w.size:Int):=by omega
   rw[if_pos hw]at ef;rw[aa6 ef];simp[f7,f6,iN,rS,ah,aa,Iu,Jf]
  have Iu:¬(32:Int)<(w.size:Int):=by omega
  rw[if_neg hw]at ef;have hsz:=ON g2 (by omega:w.size<=32);have dx:=GQ cq w;obtain⟨h0,hV,hre⟩|⟨h0,k,hV,cZ,dw⟩:=g5
  ·subst h0;subst hV;subst hre;have oI:IntKind.i64.wrap (-1)= -1:=by rw[Qk]<;>omega
   simp[f7,f6,iN,ah,aa,Iu,HO,oI,On];refine⟨aN,⟨i+1,[w],.bs 0 0 1 1,[[.str w]],by simp,by omega,by simp,by simp,by rw[ef,pR],(fun r h=>by simp at h;subst h;omega),by simp,.inr ⟨by simp,0,rfl,by simp,by simp[Vd]⟩,rfl⟩,by omega⟩
  subst hV;obtain⟨pre,r,rfl⟩:=(Qbp cq).resolve_left h0;have bX:pre.length+1<=i:=by simpa using g3
  have oI:IntKind.i64.wrap (pre.length:Int)=(pre.length:Int):=by rw[Qk]<;>omega
  have r8:(Vd (pre++[r])).length=pre.length+1:=by simp[Vd]
  have aya:=g2 r (by simp);have hsC:Vd (pre++[r])=Vd pre++[.str r]:=by simp[Vd]
  have gC:(Vd pre).length=pre.length:=by simp[Vd]
  have LI:(Vd (pre++[r])).take (pre.length+1)=Vd (pre++[r]):=zzam (by omega);have dZ:(Vd (pre++[r])).drop pre.length=[.str r]:=by rw[hsC,<- gC,zzff]
  have eO:IntKind.i64.wrap ((r.size:Int)+1)=(r.size:Int)+1:=by rw[Qk]<;>omega
  have eC:IntKind.i64.wrap ((r.size:Int)+1+(w.size:Int))=(r.size:Int)+1+(w.size:Int):=by rw[Qk]<;>omega
  rw[k8]at ef hsz dx;by_cases hc:r.size+1+w.size<=32
  ·rw[if_pos hc]at ef hsz dx;have qi:(r.size:Int)+1+(w.size:Int)<=32:=by omega
   simp[f7,f6,iN,ah,aa,Iu,HO,oI,dw,dZ,r8,eO,eC,qi,On];have has:r++⟨#[32]⟩++w=r++(yY++w):=zzhc
   have bW:(Vd (pre++[r])).set pre.length (.str (r++(yY++w)))=Vd (pre++[r++(yY++w)]):=by
    rw[hsC,<- gC,zzcq _ _ (zzab _)];simp[Vd]
   have hrk:Qh (rest.set k (Vd (pre++[r++(yY++w)]))) k=Vd (pre++[r++(yY++w)]):=by
    simp[Qh,zzas,-Vl,cZ]
   have hs1:(⟨#[32]⟩:ByteArray).size=1:=rfl;have agL:(⟨⟨[32]⟩⟩:ByteArray).size=1:=rfl;have ayO:r++⟨⟨[32]⟩⟩++w=r++(yY++w):=zzhc;refine⟨by omega,by omega,by omega,by omega,cZ,ag ?_,⟨i+1,pre++[r++(yY++w)],.bs k 0 (pre.length+1) 1,rest.set k (Vd (pre++[r++(yY++w)])),by simp,by omega,by simp,by simp,ef,hsz,by simp;omega,.inr ⟨by simp,k,by simp,by simpa using cZ,hrk⟩,by first|rw[has,bW]|rw[ayO,bW]⟩,by omega⟩;repeat(first|exact Qa _ _|refine Qb _ rfl ?_)
  rw[if_neg hc]at ef hsz dx;have qi:¬(r.size:Int)+1+(w.size:Int)<=32:=by omega
  simp[f7,f6,iN,ah,aa,Iu,HO,oI,dw,dZ,r8,eO,eC,qi,On];have aJ:¬Vd (pre++[r])=[]:=fun h=>by rw[h]at r8;simp at r8
  have hR:(rest.set k []).length=rest.length:=by simp
  refine⟨by omega,⟨⟨cZ,aJ⟩,by omega⟩,aN,⟨i+1,pre++[r]++[w],.bs rest.length 0 (pre.length+1+1) 1,rest.set k []++[Vd (pre++[r])++[.str w]],by simp,by omega,by simp,by simp,ef,hsz,by simp;omega,.inr ⟨by simp,rest.length,by simp,by simp,?_⟩,by rw[LI]⟩,by omega⟩
  ·rw[<- hR,Fw];simp[Vd]
 have hte:q.take i=q:=zzam bw;rw[hte]at g1;rw[g1];have bJ:¬(i:Int)<(q.length:Int):=by omega
 obtain⟨h0,hV,hre⟩|⟨h0,k,hV,cZ,dw⟩:=g5
 ·subst h0;subst hV;simp[f7,f6,iN,bJ,rS,Jf]
 subst hV;have aI:¬cq.length=0:=fun h=>h0 (zzc.1 h);have si:¬cq.length<1:=by omega
 have aa7:¬(cq.length:Int)<1:=by omega
 have r8:(Vd cq).length=cq.length:=by simp[Vd]
 by_cases h4:4<cq.length
 ·have IB:(4:Int)<(cq.length:Int):=by omega
  simp[f7,f6,iN,bJ,rS,Jf,h0,h4,IB,aa7]
 have IB:¬(4:Int)<(cq.length:Int):=by omega
 have zK:=fun m=>pT m 4 cq;have anW:=fun m=>pT m 3 cq;have jg:=xR cq;simp[f7,f6,iN,bJ,rS,Jf,h0,h4,IB,dw,anW,jg,r8,aa7]
def aa8(c:Cue):Pure Tryz.prog aq 66 [.agg (Qj c)] (.bool (sO c)):=by
 have k:=agZ c.tx;refine Qn alY (fun _ _ _=>Jf (Je c.tx)) (by simp) ?_;by_cases h1:c.id<1
 ·simp[PO,PR,Qj,h1,sO]
 by_cases h2:4611686018427387903<c.id
 ·simp[PO,PR,Qj,h1,h2,sO]
 by_cases h3:c.to=0
 ·simp[PO,PR,Qj,h1,h2,h3,sO];rw[zzbh];simp[jP,and_assoc]
 cases hr:Je c.tx with
 |none=>
  rw[hr]at k;simp[PO,PR,Qj,h1,h2,h3,sO,hr,Jf];exact k
 |some l=>
  rw[hr]at k;simp[PO,PR,Qj,h1,h2,h3,sO,hr,Jf];refine⟨k,?_⟩;rw[zzbh];simp;omega
def SJ(n:Int):Pure Tryz.prog aq 63 [I n] (.bool (eL n)):=by
 refine Qn alV (fun _ _ _=>.junk) (by simp) ?_;by_cases h:1<=n
 ·simp[alT,alU,h,eL]
 simp[alT,alU,h,eL]
def zN{α:Type}{a b:List α}{i:Nat}{x y:α}(hx:a[i]?=some x)(hy:b[i]?=some y)(h:a.take i=b.take i):a.take (i+1)=b.take (i+1)<->x=y:=by
 rw[zzar,zzar,hx,hy,h];simp
def td{α:Type}{a b:List α}{i:Nat}(h:a.take i≠b.take i):a≠b:=fun e=>h (by rw[e])
def aa9(a b:List Sp)(ha:a.length<=8796093022208):Pure Tryz.prog aq 180 [.sl .ro (a.map Qe),.sl .ro (b.map Qe)] (.bool (decide (a=b))):=by
 refine Qn adi (fun _ _ _=>.junk) (by simp) ?_;by_cases hl:a.length=b.length
 ·simp[Nk,hl];refine Qi u5 (fun f m=>∃i:Nat,f 5=I i/\i<=b.length/\a.take i=b.take i/\m=⟨[],[],fun _=>.gone,0⟩) (fun f _=>b.length-(numOf (f 5)).toNat) ?_ ?_
  ·exact⟨0,by simp,by omega,by simp,rfl⟩
  rintro f m ⟨i,h5,hi,ht,rfl⟩;rcases zzaa i b.length with ai|bw
  ·obtain⟨x,hx⟩:∃x,a[i]?=some x:=⟨_,zzad (by omega)⟩;obtain⟨y,hy⟩:=aP ai;have hrx:=Zd hx;have hry:=Zd hy;have ah:(i:Int)<(b.length:Int):=by omega
   have hw:=bH i (by omega);have hs:=zN hx hy ht;by_cases e1:x.1=y.1
   ·by_cases e2:x.2=y.2
    ·simp[h5,hl,ah,hrx,hry,u5,e1,e2,hw];refine⟨aN,⟨i+1,by simp,by omega,hs.2 (Prod.ext e1 e2)⟩,by omega⟩
    have aJ:a≠b:=td fun h=>e2 (by rw[hs.1 h]);simp[h5,hl,ah,hrx,hry,u5,e1,e2,Ey,aJ]
   have aJ:a≠b:=td fun h=>e1 (by rw[hs.1 h]);simp[h5,hl,ah,hrx,hry,u5,e1,Ey,aJ]
  have bJ:¬(i:Int)<(b.length:Int):=by omega
  have he:a=b:=by
   rw[zzam (by omega),zzam (by omega)]at ht;exact ht
  simp[h5,bJ,u5,Ey,he]
 have aJ:a≠b:=fun e=>hl (by rw[e]);have ez:¬(a.length:Int)=(b.length:Int):=by omega
 simp[Nk,Ey,ez,aJ]
def Ms(a b:ByteArray):a.toList=b.toList<->a=b:=by
 obtain⟨⟨l⟩⟩:=a;obtain⟨⟨l'⟩⟩:=b;rw[ByteArray.toList_eq,ByteArray.toList_eq];simp
def DP(a b:En):Bool:=decide (a.al=b.al/\a.id=b.id/\a.it=b.it/\a.fr=b.fr/\a.ea=b.ea/\a.la=b.la/\a.bo=b.bo)
def Mt(a b:Cue):Bool:=decide (a.id=b.id/\a.fr=b.fr/\a.to=b.to/\a.pr=b.pr/\a.tx=b.tx)
def zO(a b:Od):Bool:=DP a.nw b.nw&&(decide (a.sq=b.sq)&&(decide (a.ch=b.ch)&&(decide (a.fr=b.fr)&&(decide (a.ki=b.ki)&&(decide (a.en=b.en)&&(decide (a.n=b.n)&&(decide (a.cl=b.cl)&&Mt a.cu b.cu)))))))
def aba(a b:En)(ha:a.al.length<=8796093022208):Pure Tryz.prog aq 108 [.agg (Qd a),.agg (Qd b)] (.bool (DP a b)):=by
 have k:=aa9 a.al b.al ha;refine Qn acv (fun _ _ _=>.bool (decide (a.al=b.al))) (by simp) ?_;obtain⟨a1,a2,a3,a4,a5,a6,al⟩:=a;obtain⟨b1,b2,b3,b4,b5,b6,bl⟩:=b;simp[ahA,ahB,Qd];refine⟨k,?_⟩;rw[zzbh];simp[DP,and_assoc]
def ag0(a b:Od)(ha:a.nw.al.length<=8796093022208):Pure Tryz.prog aq 67 [.agg (Qp a),.agg (Qp b)] (.bool (zO a b)):=by
 have k:=aba a.nw b.nw ha;refine Qn alZ (fun _ _ _=>.bool (DP a.nw b.nw)) (by simp) ?_;obtain⟨sq,ch,fr,ki,en,n,⟨a1,a2,a3,a4,a5,a6,al⟩,⟨c1,c2,c3,c4,c5,c6,c7,c8⟩,⟨d1,d2,d3,d4,tx⟩⟩:=a;obtain⟨sq',ch',fr',ki',en',n',⟨a1',a2',a3',a4',a5',a6',al'⟩,⟨c1',c2',c3',c4',c5',c6',c7',c8'⟩,⟨d1',d2',d3',d4',tx'⟩⟩:=b;simp only[Qd]at k;simp[apZ,ap0,Qp,Qd,Qg,Qj];refine⟨k,?_⟩;rw[zzbh];simp[zO,Mt,and_assoc];intros;exact Ms _ _
def zP(r:Int):List Sp->Bool
 |[]=>true
 |a::l=>if eL a.2=false\/a.1<=r\/8<=a.1 then false else zP a.1 l
def Pf:∀(l:List Sp)(r:Int),zP r l=xN r l
 |[],_=>rfl
 |a::l,r=>by
  rw[zP,xN,Pf l a.1];by_cases h:r<a.1/\a.1<=7/\eL a.2=true
  ·have h1:=h.1;have h2:=h.2.1;rw[if_pos h,if_neg (by rw[h.2.2];simp;omega)]
  rw[if_neg h];cases hi:eL a.2 with
  |false=>rw[if_pos (.inl rfl)]
  |true=>
   have h':¬(r<a.1/\a.1<=7):=fun hh=>h ⟨hh.1,hh.2,hi⟩;rw[if_pos (.inr (by omega))]
def abb(e:En)(f:Nat->AV)(m:AM):Prop:=∃(i:Nat)(r:Int),f 7=I i/\i<=e.al.length/\f 6=I r/\zP 0 e.al=zP r (e.al.drop i)/\m=⟨[Qd e],[],fun _=>.gone,0⟩
def Mu(e:En)(hl:e.al.length<=8796093022208):Pure Tryz.prog aq 64 [.agg (Qd e)] (.bool (yX e)):=by
 have q1:=SJ e.id;have q2:=SJ e.it;have q3:=SJ e.bo;refine Qn alW Vf (by simp) ?_
 have hbo:(e.bo=0)\/(e.bo≠0/\eL e.bo=true)\/(e.bo≠0/\eL e.bo=false):=by
  by_cases dQ:e.bo=0
  ·exact .inl dQ
  cases hb:eL e.bo with
  |true=>exact .inr (.inl ⟨dQ,rfl⟩)
  |false=>exact .inr (.inr ⟨dQ,rfl⟩)
 by_cases hbad:(eL e.it&&eL e.id&&decide (1<=e.fr/\e.fr<=100000000)&&decide (0<=e.ea/\e.ea<=e.la/\e.la<=100000000)&&(decide (e.bo=0)||eL e.bo))=true
 ·simp only[zzak,decide_eq_true_eq,zzgw]at hbad;obtain⟨⟨⟨⟨b1,b2⟩,b3,b4⟩,b5,b6,b7⟩,b8⟩:=hbad
  have hv:yX e=zP 0 e.al:=by
   rw[Pf];have h8:(decide (e.bo=0)||eL e.bo)=true:=by rw[zzgw,decide_eq_true_eq];exact b8
   simp only[yX,b1,b2,b3,b4,b5,b6,b7,h8,zzdz,and_self,decide_true]
  have c1:¬e.fr<1:=by omega
  have c2:¬100000000<e.fr:=by omega
  have c3:¬e.ea<0:=by omega
  have c4:¬e.la<e.ea:=by omega
  have c5:¬100000000<e.la:=by omega
  rw[hv];have loop:∀(E:List (Nat×AV))(Q:Exit->AS->Prop),True:=fun _ _=>trivial;rw[b2]at q1;rw[b1]at q2;obtain h0|⟨h0,h1⟩|⟨h0,h1⟩:=hbo
  ·simp[IU,Qd,Vf,b1,b2,h0,c1,c2,c3,c4,c5];refine⟨q2,q1,?_⟩;refine Qi gI (abb e) (fun f _=>e.al.length-(numOf (f 7)).toNat) ?_ ?_
   ·exact⟨0,0,by simp,by omega,by simp,by simp,by simp[Qd,h0]⟩
   rintro f m ⟨i,r,f7,hi,f6,hr,rfl⟩;rcases zzaa i e.al.length with ai|bw
   ·obtain⟨a,ha⟩:=aP ai;have aa:=Zd ha;have ah:(i:Int)<(e.al.length:Int):=by omega
    have hw:=bH i (by omega);have hd:e.al.drop i=a::e.al.drop (i+1):=by rw[zzaf ai,(zza.1 ha).2]
    rw[hd,zP]at hr;have qa:=SJ a.2;cases d3:eL a.2 with
    |false=>
     rw[d3]at qa;rw[if_pos (.inl d3)]at hr;simp[f7,f6,gI,tC,Qd,ah,aa,d3,hr,Vf];exact qa
    |true=>
     rw[d3]at qa;by_cases d1:a.1<=r
     ·rw[if_pos (.inr (.inl d1))]at hr;simp[f7,f6,gI,tC,Qd,ah,aa,d1,d3,hr,Vf];exact qa
     by_cases d2:8<=a.1
     ·rw[if_pos (.inr (.inr d2))]at hr;simp[f7,f6,gI,tC,Qd,ah,aa,d1,d2,d3,hr,Vf];exact qa
     rw[if_neg (by rw[d3];simp;omega)]at hr;simp[f7,f6,gI,Qd,ah,aa,d1,d2,d3,Vf,hw];refine⟨qa,aN,⟨i+1,a.1,by simp,by omega,by simp,hr,by simp[Qd]⟩,by omega⟩
   obtain rfl:i=e.al.length:=by omega
   rw[zzbo,zP]at hr;simp[f7,f6,gI,tC,Qd,hr]
  ·rw[h1]at q3;simp[IU,Qd,Vf,b1,b2,h0,h1,c1,c2,c3,c4,c5];refine⟨q2,q1,q3,?_⟩;refine Qi gI (abb e) (fun f _=>e.al.length-(numOf (f 7)).toNat) ?_ ?_
   ·exact⟨0,0,by simp,by omega,by simp,by simp,by simp[Qd]⟩
   rintro f m ⟨i,r,f7,hi,f6,hr,rfl⟩;rcases zzaa i e.al.length with ai|bw
   ·obtain⟨a,ha⟩:=aP ai;have aa:=Zd ha;have ah:(i:Int)<(e.al.length:Int):=by omega
    have hw:=bH i (by omega);have hd:e.al.drop i=a::e.al.drop (i+1):=by rw[zzaf ai,(zza.1 ha).2]
    rw[hd,zP]at hr;have qa:=SJ a.2;cases d3:eL a.2 with
    |false=>
     rw[d3]at qa;rw[if_pos (.inl d3)]at hr;simp[f7,f6,gI,tC,Qd,ah,aa,d3,hr,Vf];exact qa
    |true=>
     rw[d3]at qa;by_cases d1:a.1<=r
     ·rw[if_pos (.inr (.inl d1))]at hr;simp[f7,f6,gI,tC,Qd,ah,aa,d1,d3,hr,Vf];exact qa
     by_cases d2:8<=a.1
     ·rw[if_pos (.inr (.inr d2))]at hr;simp[f7,f6,gI,tC,Qd,ah,aa,d1,d2,d3,hr,Vf];exact qa
     rw[if_neg (by rw[d3];simp;omega)]at hr;simp[f7,f6,gI,Qd,ah,aa,d1,d2,d3,Vf,hw];refine⟨qa,aN,⟨i+1,a.1,by simp,by omega,by simp,hr,by simp[Qd]⟩,by omega⟩
   obtain rfl:i=e.al.length:=by omega
   rw[zzbo,zP]at hr;simp[f7,f6,gI,tC,Qd,hr]
  obtain b8|b8:=b8
  ·exact absurd b8 h0
  rw[h1]at b8;cases b8
 have hv:yX e=false:=by
  cases hi:yX e with
  |false=>rfl
  |true=>
   refine absurd ?_ hbad;simp only[yX,zzak]at hi |-
   exact⟨⟨⟨⟨hi.1.1.1.1.2,hi.1.1.1.1.1⟩,hi.1.1.1.2⟩,hi.1.1.2⟩,hi.1.2⟩
 rw[hv]
 have hX:(!eL e.it||!eL e.id||!(decide (e.bo=0)||eL e.bo)||decide (e.fr<1)||decide (100000000<e.fr)||decide (e.ea<0)||decide (e.la<e.ea)||decide (100000000<e.la))=true:=by
  cases hx:(!eL e.it||!eL e.id||!(decide (e.bo=0)||eL e.bo)||decide (e.fr<1)||decide (100000000<e.fr)||decide (e.ea<0)||decide (e.la<e.ea)||decide (100000000<e.la))with
  |true=>rfl
  |false=>
   refine absurd ?_ hbad;simp only[zzes,Bool.not_eq_false',decide_eq_false_iff_not]at hx;obtain⟨⟨⟨⟨⟨⟨⟨x1,x2⟩,x3⟩,x4⟩,x5⟩,x6⟩,x7⟩,x8⟩:=hx;rw[x1,x2,x3];simp;omega
 obtain h0|⟨h0,h1⟩|⟨h0,h1⟩:=hbo
 ·simp[h0]at hX;simp[IU,tC,Qd,Vf,h0];refine⟨q2,q1,?_⟩;intro a1 a2 a3 a4 a5 a6 a7;exfalso;simp[a1,a2]at hX;omega
 ·simp[h0,h1]at hX;rw[h1]at q3;simp[IU,tC,Qd,Vf,h0,h1];refine⟨q2,q1,q3,?_⟩;intro a1 a2 a3 a4 a5 a6 a7;exfalso;simp[a1,a2]at hX;omega
 rw[h1]at q3;simp[IU,tC,Qd,Vf,h0,h1];exact⟨q2,q1,q3⟩
end Go.Proofs.YtnopaopphmjnmaaGreatDoor
