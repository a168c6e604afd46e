import Derived.Test.YtnopaopphmjnmaaGreatDoorMESaG
import Derived.Test.YtnopaopphmjnmaaGreatDoorMEMbF
set_option linter.all false
set_option maxRecDepth 100000
set_option maxHeartbeats 64000000
namespace Go.Proofs.YtnopaopphmjnmaaGreatDoor
open Go Go.Abs
def axL(of:Int)(sh:List Sp)(x fr to:Int):Bool:=
 if Yg of sh=false\/x<0\/10000000000<x\/fr<0\/86400<=fr\/to<0\/86400<=to then false else
 if fr<to then decide (fr<=(x+yM of sh x)%86400)&&decide ((x+yM of sh x)%86400<to)else decide (fr<=(x+yM of sh x)%86400)||decide ((x+yM of sh x)%86400<to)
def DW(n lo hi:Int):Pure Tryz.prog az 133 [I n,I lo,I hi] (.bool (wi n lo hi)):=by
 refine Qn acG (fun _ _ _=>.junk) (by simp) ?_;by_cases h1:lo<=n<;>by_cases h2:n<=hi<;>simp[ahA,ahB,wi,h1,h2]
def HS(c:Cl):Pure Tryz.prog az 65 [.agg (Qg c)] (.bool (Xl c)):=by
 have kw:=DW;refine Qn ale DX (by simp) ?_;by_cases h1:c.ki=1
 ·simp[Em,Eo,Qg,DX,h1];refine⟨kw _ _ _,fun _=>kw _ _ _,?_⟩;clear kw;obtain⟨ki,it,fr,to,re,n,a,b⟩:=c;simp only at h1;rw[zzbt];simp[Xl,Ku,Um,Vl,Ya,wi,h1];omega
 by_cases h2:c.ki=2
 ·simp[Em,Eo,Qg,DX,h2];refine⟨kw _ _ _,fun _=>kw _ _ _,?_⟩;clear kw;obtain⟨ki,it,fr,to,re,n,a,b⟩:=c;simp only at h2;rw[zzbt];simp[Xl,Ku,Um,Vl,Ya,wi,h2];omega
 by_cases h3:c.ki=3
 ·simp[Em,Eo,Qg,DX,h3];refine⟨kw _ _ _,fun _=>kw _ _ _,fun _ _=>kw _ _ _,?_⟩;clear kw;obtain⟨ki,it,fr,to,re,n,a,b⟩:=c;simp only at h3;rw[zzbt];simp[Xl,Ku,Um,Vl,Ya,wi,h3];omega
 by_cases h4:c.ki=4
 ·simp[Em,Eo,Qg,DX,h4];refine⟨kw _ _ _,fun _=>kw _ _ _,fun _ _=>kw _ _ _,?_⟩;clear kw;obtain⟨ki,it,fr,to,re,n,a,b⟩:=c;simp only at h4;rw[zzbt];simp[Xl,Ku,Um,Vl,Ya,wi,h4];omega
 by_cases h5:c.ki=5
 ·simp[Em,Eo,Qg,DX,h5];refine⟨kw _ _ _,fun _=>kw _ _ _,kw _ _ _,fun _=>kw _ _ _,fun _ _ _=>kw _ _ _,?_⟩;clear kw;obtain⟨ki,it,fr,to,re,n,a,b⟩:=c;simp only at h5;rw[zzbt];simp[Xl,Ku,Um,Vl,Ya,wi,h5];omega
 by_cases h6:c.ki=6
 ·simp[Em,Eo,Qg,DX,h6];refine⟨kw _ _ _,fun _=>kw _ _ _,kw _ _ _,fun _=>kw _ _ _,fun _ _ _ _ _=>kw _ _ _,?_⟩;clear kw;obtain⟨ki,it,fr,to,re,n,a,b⟩:=c;simp only at h6;rw[zzbt];simp[Xl,Ku,Um,Vl,Ya,wi,h6];omega
 have hv:Xl c=false:=by simp[Xl,Um,h1,h2,h3,h4,h5,h6]
 rw[hv];simp[Em,Eo,Qg,DX,h1,h2,h3,h4,h5,h6];exact⟨kw _ _ _,fun _=>kw _ _ _⟩
def axM(s r:Int):Bool:=if 0<=r/\r<8 then decide ((s/2 ^ r.toNat)%2=1)else false
def atV(c:Cl)(k item region:Int):Bool:=decide (c.ki=k)&&(Xl c&&(decide (c.it=item)&&axM c.re region))
def hasB(l:List Sp)(x:Int):Bool:=l.any fun s=>decide (s.1<=x)&&decide (x<s.2)
def aki(a:Int):List AV:=[I a]
def anI:List Int->Int->List Int
 |[],x=>[x]
 |a::r,x=>if a<x then a::anI r x else if a=x then a::r else x::a::r
def anJ(item region:Int)(c:Cl):Bool:=atV c 1 item region||atV c 2 item region
def edS(C:List Cl):List Int:=C.foldl (fun e c=>anI (anI e c.fr) c.to) []
def anK(C:List Cl)(Ed:List Int):Nat->List Sp
 |0=>[]
 |j+1=>if grX C (Ed.getD j 0)=true then nS (anK C Ed j) (Ed.getD j 0) (Ed.getD (j+1) 0)else anK C Ed j
def axN(cs:List Cl)(item region:Int):List Sp:=anK (cs.filter (anJ item region)) (edS (cs.filter (anJ item region))) ((edS (cs.filter (anJ item region))).length-1)
def atW:List AV->Int
 |[.int _ a]=>a
 |_=>0
@[simp] def agC(l:List Int):(l.map aki).map atW=l:=by
 induction l with
 |nil=>rfl
 |cons a l ih=>simp only[zzay,ih];rfl
@[simp] def atX(l:List Int):l.map (atW ∘ aki)=l:=by rw[<- zzcz];exact agC l
def atY(p:Pl)(item region f:Int):Bool:=match Xj item p.aM with
 |none=>false
 |some it=>if region<0\/8<=region\/f<0\/100000000<f then false else if it.ki=5 then true else if Kj p=false then false else
  hasB (axN p.cls item region) (p.ep+Yr p.nu p.de f)&&(uK p.cls it.ra).all fun w=>axL p.of p.sh (p.ep+Yr p.nu p.de f) w.1 w.2
def ayu(p:Pl)(last f:Int):Int:=if Kj p=true then min last (xA p.nu p.de (Yr p.nu p.de f+1))else last
def ayv(p:Pl)(item region first f:Int)(L:List Sp):Prop:=VS L/\(∀s∈L,s.2<=f)/\(∀x,Xr L x<->first<=x/\x<f/\atY p item region x=true)/\(L.length:Int)<=f-first
section
variable (P:Int->Prop) (fr low:Int)
def OkA(t:Int):Prop:=∀x,t<=x->x<t+fr->P x
structure RfI (c run last:Int):Prop where
 no:∀t,low<=t->t+fr<=c->¬OkA P fr t
 st:(run= -1/\last= -1/\∀x,low<=x->x<c->¬P x)\/(low<=run/\run<last/\last<=c/\(∀x,run<=x->x<last->P x)/\(run=low\/¬P (run-1))/\∀x,last<=x->x<c->¬P x)
end
def nlB(a b:List Sp):Bool:=a.all fun x=>b.all fun y=>!(decide (x.1=y.1)&&decide (y.2<x.2))
def kN(w:Bool):∀(ids:List Int)(K:List Bool),(Xc w ids K).Sublist ids
 |[],K=>by cases K<;>simp[Xc]
 |id::r,[]=>by simp[Xc]
 |id::r,k::ks=>by
  rw[Xc];split
  ·exact(kN w r ks).cons_cons id
  exact(kN w r ks).cons id
def HT:∀{ids:List Int}{K:List Bool},K.length=ids.length->(∀j,j<ids.length->K.getD j false=true)->Xc true ids K=ids/\Xc false ids K=[]
 |[],K,_,_=>by cases K<;>exact⟨rfl,rfl⟩
 |id::r,[],h,_=>by simp at h
 |id::r,k::ks,h,hk=>by
  have h0:=hk 0 (by simp);simp at h0;subst h0
  obtain⟨h1,h2⟩:=HT (ids:=r) (K:=ks) (by simpa using h) fun j hj=>by
   have:=hk (j+1) (by simpa using hj);simpa using this
  simp[Xc,h1,h2]
def Mx{ok:List Int->Bool}(hm:aaM ok)(h0:ok []=true)(rd:Int->Nat)(ids:List Int)(fI:∀id∈ids,rd id<=2)(h:ok ids=true):Xc true ids (Jr ok rd ids)=ids/\Xc false ids (Jr ok rd ids)=[]:=by
 obtain⟨h1,h2,h3⟩:=tw hm h0 rd ids fI;refine HT h1 fun j hj=>?_;rcases h3 j _ (zzad hj)with h4|h4
 ·exact h4
 rw[hm _ _ (kN true ids _) h]at h4;cases h4
def Ef(s:ByteArray)(i:Nat):Option Nat->ByteArray
 |none=>⟨#[]⟩
 |some k=>s.extract k i
def aaN(s:ByteArray)(k i:Nat)(h:k<=i):s.extract k i++s.extract i (i+1)=s.extract k (i+1):=by
 rw[ByteArray.extract_append_extract];congr 1<;>omega
def aaO(s:ByteArray)(k i:Nat)(h:k<i)(hi:i<=s.size):s.extract k i≠⟨#[]⟩:=by
 intro e;have h2:(s.extract k i).size=0:=by rw[e];rfl
 rw[zzfl]at h2;omega
def axO(ls:List Nat)(rt:Rt)(o:List ByteArray):Prop:=(o=[]/\rt=.nil/\ls=[])\/(o≠[]/\rt=.own 0 1/\ls=[o.length])
def atZ(s:ByteArray)(f:Nat->AV)(m:AM):Prop:=∃(i:Nat)(first:Option Nat)(o:List ByteArray)(rt:Rt)(ls:List Nat),f 5=I i/\i<=s.size/\f 4=.str (Ef s i first)/\(∀k,first=some k->k<i)/\f 3=.sl rt (o.map Kk)/\axO ls rt o/\o.length<=i/\o++Dt s i first=Ur s/\m=⟨[],ls,fun _=>.gone,0⟩
def aaP(s:ByteArray)(h:s.size<=1000000):Pure Tryz.prog az 210 [.str s] (.sl .ro ((Ur s).map Kk)):=by
 have key:∃rt,Pure Tryz.prog az 210 [.str s] (.sl rt ((Ur s).map Kk)):=by
  refine⟨if Ur s=[]then .nil else .ro,Qn adr (fun _ _ _=>.junk) (by simp) ?_⟩;simp[US];refine Qj gE (atZ s) (fun f _=>s.size-(numOf (f 5)).toNat) ?_ ?_
  ·exact⟨0,none,[],.nil,[],by simp,by omega,by simp[Ef],(fun k hk=>by cases hk),by simp,.inl ⟨rfl,rfl,rfl⟩,by simp,by simp[Dt,Ur],rfl⟩
  rintro f m ⟨i,first,o,rt,ls,f5,hi,f4,IC,f3,hO,Oq,hr,rfl⟩;rcases zzaa i s.size with ai|bu
  ·have aa:(i:Int)<(s.size:Int):=by omega
   have hw:=bK i (by omega);have Ec:=rI s i ai;by_cases hb:uk s i≠32
   ·have hbI:¬((uk s i:Nat):Int)=32:=by omega
    rw[GQ first ai hb]at hr
    have cm:Ef s i first++s.extract i (i+1)=Ef s (i+1) (some (first.getD i)):=by
     cases first with
     |none=>
      simp only[Ef,Option.getD_none];exact ByteArray.empty_append
     |some k=>simp only[Ef,zzgt];exact aaN s k i (by have:=IC k rfl;omega)
    have hsz:(Ef s i first).size<=s.size:=by
     cases first with
     |none=>exact zzbz _
     |some k=>simp only[Ef,zzfl];omega
    simp[f5,f4,gE,ai,aa,Ec,hbI,hw,cm];refine⟨by omega,by omega,aO,⟨i+1,some (first.getD i),o,rt,ls,by simp,by omega,by simp,?_,by simp[f3],hO,by omega,hr,rfl⟩,by omega⟩
    ·intro k hk;cases hk;cases first with
     |none=>simp
     |some k=>have:=IC k rfl;simp;omega
   have GR:uk s i=32:=by omega
   rw[Du first hi (fun _=>GR)]at hr;cases first with
   |none=>
    simp only[ig,zzaj]at hr;simp[f5,f4,gE,ai,aa,Ec,GR,hw,Ef];refine⟨aO,⟨i+1,none,o,rt,ls,by simp,by omega,by simp[Ef],(fun k hk=>by cases hk),by simp[f3],hO,by omega,hr,rfl⟩,by omega⟩
   |some k=>
    have hk:=IC k rfl;have aK:=aaO s k i hk hi;simp only[ig]at hr;have eC:¬(s.extract k i).toList=[]:=fun e=>aK ((j4 _).1 e);rw[<- zzax]at hr;obtain⟨rfl,rfl,rfl⟩|⟨h0,rfl,rfl⟩:=hO
    ·simp[f5,f4,f3,gE,ai,aa,Ec,GR,hw,Ef,eC];refine⟨aO,⟨i+1,none,[]++[s.extract k i],.own 0 1,[1],by simp,by omega,by simp[Ef],(fun k hk=>by cases hk),by simp[Kk],.inr ⟨by simp,rfl,by simp⟩,by simp,hr,rfl⟩,by omega⟩
    simp[f5,f4,f3,gE,ai,aa,Ec,GR,hw,Ef,eC];refine⟨⟨?_,by omega⟩,aO,⟨i+1,none,o++[s.extract k i],.own 0 1,[o.length+1],by simp,by omega,by simp[Ef],(fun k hk=>by cases hk),by simp[Kk],.inr ⟨by simp,rfl,by simp⟩,by simp;omega,hr,rfl⟩,by omega⟩
    ·rintro row (⟨a,_,rfl⟩|rfl)<;>rfl
  obtain rfl:i=s.size:=by omega
  rw[Du first hi (fun h=>absurd h (Nat.lt_irrefl _)),show Dt s (s.size+1) none=[] by rw[Dt,if_neg (by omega)],zzat]at hr;cases first with
  |none=>
   simp only[ig,zzat]at hr;subst hr;obtain⟨h0,rfl,rfl⟩|⟨h0,rfl,rfl⟩:=hO
   ·simp[f5,f4,f3,gE,Ef,EJ,h0]
   simp[f5,f4,f3,gE,Ef,EJ,h0]
  |some k=>
   have hk:=IC k rfl;have aK:=aaO s k s.size hk hi;have eC:¬(s.extract k s.size).toList=[]:=fun e=>aK ((j4 _).1 e);simp only[ig]at hr;rw[<- hr];obtain⟨rfl,rfl,rfl⟩|⟨h0,rfl,rfl⟩:=hO
   ·simp[f5,f4,f3,gE,Ef,eC,EJ,Kk]
   simp[f5,f4,f3,gE,Ef,eC,EJ,Kk];exact⟨by rintro row (⟨a,_,rfl⟩|rfl)<;>rfl,by omega⟩
 obtain⟨rt,h⟩:=key;exact Xa h (Wk.sl _ _)
def RV2(ct:List ByteArray)(V:AV)(rest:List (List AV)):Prop:=(ct=[]/\V=.sl .nil []/\rest=[])\/(ct≠[]/\∃k,V=.bs k 0 ct.length 1/\k<rest.length/\Qh rest k=Vg ct)
def at1(s:ByteArray)(f:Nat->AV)(m:AM):Prop:=∃i:Nat,f 4=I i/\i<=s.size/\RP s=GP s (s.size-i) i/\m=⟨[],[],fun _=>.gone,0⟩
def at2(q:List ByteArray)(f:Nat->AV)(m:AM):Prop:=∃(i:Nat)(ct:List ByteArray)(V:AV)(rest:List (List AV)),f 7=I i/\i<=q.length/\f 5=.sl .ro (q.map Kk)/\f 6=V/\lay [] (q.take i)=some ct/\(∀r∈ct,r.size<=32)/\ct.length<=i/\RV2 ct V rest/\m=⟨rest,[],fun _=>.gone,0⟩
def HU(s:ByteArray):Nat->FuncId->List AV->AV:=fun d f _=>if f=999999 then(if d=81 then .aJ 0 []else .junk)else .sl .ro ((Ur s).map Kk)
def aaQ{q:List ByteArray}{i:Nat}(h:lay [] (q.take i)=none):lay [] q=none:=by
 have hq:q=q.take i++q.drop i:=(zzdd _ _).symm;rw[hq,p7,h];rfl
def agD(s:ByteArray):Pure Tryz.prog az 134 [.str s] (Jm (Jl s)):=by
 refine Qn acH (HU s) (by simp) ?_;by_cases h2:200<s.size
 ·have Ea:(200:Int)<(s.size:Int):=by omega
  have:Jl s=none:=by rw[Jl,if_pos (.inl h2)]
  rw[this];simp[Ey,rZ,Ea,Jm]
 have Ea:¬(200:Int)<(s.size:Int):=by omega
 have kw:=aaP s (by omega);simp[Ey,Ea];refine Qj vj (at1 s) (fun f _=>s.size-(numOf (f 4)).toNat) ?_ ?_
 ·exact⟨0,by simp,by omega,rfl,rfl⟩
 rintro f m ⟨i,f4,hi,hr,rfl⟩;rcases zzaa i s.size with ai|bu
 ·have aa:(i:Int)<(s.size:Int):=by omega
  have hw:=bK i (by omega);obtain⟨n,hn⟩:∃n,s.size-i=n+1:=⟨s.size-i-1,by omega⟩;have hb:=rI s i ai;rw[hn,GP]at hr;by_cases h1:uk s i<32
  ·rw[if_pos (.inl h1)]at hr;have:Jl s=none:=by rw[Jl,if_pos (.inr hr)]
   have oP:((uk s i:Nat):Int)<32:=by omega
   rw[this];simp[f4,vj,rZ,ai,aa,hb,oP,Jm]
  have oP:¬((uk s i:Nat):Int)<32:=by omega
  by_cases h3:126<uk s i
  ·rw[if_pos (.inr h3)]at hr;have:Jl s=none:=by rw[Jl,if_pos (.inr hr)]
   have h3':(126:Int)<((uk s i:Nat):Int):=by omega
   rw[this];simp[f4,vj,rZ,ai,aa,hb,oP,h3',Jm]
  rw[if_neg (by omega)]at hr;have h3':¬(126:Int)<((uk s i:Nat):Int):=by omega
  simp[f4,vj,ai,aa,hw,hb,oP,h3'];refine⟨aO,⟨i+1,by simp,by omega,by rw[hr];congr 1;omega,rfl⟩,by omega⟩
 obtain rfl:i=s.size:=by omega
 rw[zzev,GP]at hr
 have sG:Jl s=match lay [] (Ur s)with
  |some l=>if l=[]\/4<l.length then none else some l
  |none=>none:=by
   rw[Jl,if_neg (by simp[hr];omega)];rfl
 rw[sG];have hql:(Ur s).length<=201:=by have:=uT s s.size 0 none;unfold Ur;omega
 simp[f4,vj,HU];refine⟨kw,?_⟩;clear kw sG;generalize Ur s=q at hql;clear hr;refine Qj iU (at2 q) (fun f _=>q.length-(numOf (f 7)).toNat) ?_ ?_
 ·exact⟨0,[],.sl .nil [],[],by simp,by omega,by simp,by simp,rfl,(fun _ h=>by cases h),by simp,.inl ⟨rfl,rfl,rfl⟩,rfl⟩
 rintro f m ⟨i,ct,V,rest,f7,hi,f5,f6,g1,g2,g3,g5,rfl⟩;rcases zzaa i q.length with ai|bu
 ·obtain⟨w,hy⟩:=aR ai;have ah:Qh (q.map Kk) i=[.str w]:=Qs (by simp[hy,Kk]);have aa:(i:Int)<(q.length:Int):=by omega
  have K5:=bK i (by omega);have bB:q.take (i+1)=q.take i++[w]:=by rw[zzas,hy];rfl
  have ew:lay [] (q.take (i+1))=if 32<w.size then none else some (GY ct w):=by
   rw[bB,p7,g1];simp[lay]
  by_cases hw:32<w.size
  ·have IJ:(32:Int)<(w.size:Int):=by omega
   rw[if_pos hw]at ew;rw[aaQ ew];simp[f7,f6,iU,rZ,aa,ah,IJ,Jm]
  have IJ:¬(32:Int)<(w.size:Int):=by omega
  rw[if_neg hw]at ew;have hsz:=OV g2 (by omega:w.size<=32);have cS:=GZ ct w;obtain⟨h0,hV,hre⟩|⟨h0,k,hV,cQ,cV⟩:=g5
  ·subst h0;subst hV;subst hre;have qu:IntKind.i64.wrap (-1)= -1:=by rw[Qk]<;>omega
   simp[f7,f6,iU,aa,ah,IJ,HU,qu,K5];refine⟨aO,⟨i+1,[w],.bs 0 0 1 1,[[.str w]],by simp,by omega,by simp,by simp,by rw[ew,p6],(fun r h=>by simp at h;subst h;omega),by simp,.inr ⟨by simp,0,rfl,by simp,by simp[Vg]⟩,rfl⟩,by omega⟩
  subst hV;obtain⟨pre,r,rfl⟩:=(Qcf ct).resolve_left h0;have bZ:pre.length+1<=i:=by simpa using g3
  have qu:IntKind.i64.wrap (pre.length:Int)=(pre.length:Int):=by rw[Qk]<;>omega
  have qs:(Vg (pre++[r])).length=pre.length+1:=by simp[Vg]
  have axc:=g2 r (by simp);have hsC:Vg (pre++[r])=Vg pre++[.str r]:=by simp[Vg]
  have gK:(Vg pre).length=pre.length:=by simp[Vg]
  have LK:(Vg (pre++[r])).take (pre.length+1)=Vg (pre++[r]):=zzap (by omega);have ei:(Vg (pre++[r])).drop pre.length=[.str r]:=by rw[hsC,<- gK,zzfk]
  have eX:IntKind.i64.wrap ((r.size:Int)+1)=(r.size:Int)+1:=by rw[Qk]<;>omega
  have dG:IntKind.i64.wrap ((r.size:Int)+1+(w.size:Int))=(r.size:Int)+1+(w.size:Int):=by rw[Qk]<;>omega
  rw[lH]at ew hsz cS;by_cases hc:r.size+1+w.size<=32
  ·rw[if_pos hc]at ew hsz cS;have qq:(r.size:Int)+1+(w.size:Int)<=32:=by omega
   simp[f7,f6,iU,aa,ah,IJ,HU,qu,cV,ei,qs,eX,dG,qq,K5];have has:r++⟨#[32]⟩++w=r++(zh++w):=zzhf
   have bU:(Vg (pre++[r])).set pre.length (.str (r++(zh++w)))=Vg (pre++[r++(zh++w)]):=by
    rw[hsC,<- gK,zzct _ _ (zzab _)];simp[Vg]
   have hrk:Qh (rest.set k (Vg (pre++[r++(zh++w)]))) k=Vg (pre++[r++(zh++w)]):=by
    simp[Qh,zzar,-Vp,cQ]
   have hs1:(⟨#[32]⟩:ByteArray).size=1:=rfl;have agn:(⟨⟨[32]⟩⟩:ByteArray).size=1:=rfl;have axP:r++⟨⟨[32]⟩⟩++w=r++(zh++w):=zzhf;refine⟨by omega,by omega,by omega,by omega,cQ,ag ?_,⟨i+1,pre++[r++(zh++w)],.bs k 0 (pre.length+1) 1,rest.set k (Vg (pre++[r++(zh++w)])),by simp,by omega,by simp,by simp,ew,hsz,by simp;omega,.inr ⟨by simp,k,by simp,by simpa using cQ,hrk⟩,by first|rw[has,bU]|rw[axP,bU]⟩,by omega⟩;repeat(first|exact Qb _ _|refine Qa _ rfl ?_)
  rw[if_neg hc]at ew hsz cS;have qq:¬(r.size:Int)+1+(w.size:Int)<=32:=by omega
  simp[f7,f6,iU,aa,ah,IJ,HU,qu,cV,ei,qs,eX,dG,qq,K5];have aK:¬Vg (pre++[r])=[]:=fun h=>by rw[h]at qs;simp at qs
  have hR:(rest.set k []).length=rest.length:=by simp
  refine⟨by omega,⟨⟨cQ,aK⟩,by omega⟩,aO,⟨i+1,pre++[r]++[w],.bs rest.length 0 (pre.length+1+1) 1,rest.set k []++[Vg (pre++[r])++[.str w]],by simp,by omega,by simp,by simp,ew,hsz,by simp;omega,.inr ⟨by simp,rest.length,by simp,by simp,?_⟩,by rw[LK]⟩,by omega⟩
  ·rw[<- hR,FC];simp[Vg]
 have hte:q.take i=q:=zzap bu;rw[hte]at g1;rw[g1];have bJ:¬(i:Int)<(q.length:Int):=by omega
 obtain⟨h0,hV,hre⟩|⟨h0,k,hV,cQ,cV⟩:=g5
 ·subst h0;subst hV;simp[f7,f6,iU,bJ,rZ,Jm]
 subst hV;have aH:¬ct.length=0:=fun h=>h0 (zzcc.1 h);have sv:¬ct.length<1:=by omega
 have aaR:¬(ct.length:Int)<1:=by omega
 have qs:(Vg ct).length=ct.length:=by simp[Vg]
 by_cases h4:4<ct.length
 ·have IT:(4:Int)<(ct.length:Int):=by omega
  simp[f7,f6,iU,bJ,rZ,Jm,h0,h4,IT,aaR]
 have IT:¬(4:Int)<(ct.length:Int):=by omega
 have zW:=fun m=>p8 m 4 ct;have ana:=fun m=>p8 m 3 ct;have lX:=yj ct;simp[f7,f6,iU,bJ,rZ,Jm,h0,h4,IT,cV,ana,lX,qs,aaR]
def aaS(c:Cue):Pure Tryz.prog az 66 [.agg (Qi c)] (.bool (sW c)):=by
 have k:=agD c.tx;refine Qn alf (fun _ _ _=>Jm (Jl c.tx)) (by simp) ?_;by_cases h1:c.id<1
 ·simp[PX,PY,Qi,h1,sW]
 by_cases h2:4611686018427387903<c.id
 ·simp[PX,PY,Qi,h1,h2,sW]
 by_cases h3:c.to=0
 ·simp[PX,PY,Qi,h1,h2,h3,sW];rw[zzbt];simp[j4,and_assoc]
 cases hr:Jl c.tx with
 |none=>
  rw[hr]at k;simp[PX,PY,Qi,h1,h2,h3,sW,hr,Jm];exact k
 |some l=>
  rw[hr]at k;simp[PX,PY,Qi,h1,h2,h3,sW,hr,Jm];refine⟨k,?_⟩;rw[zzbt];simp;omega
def SK(n:Int):Pure Tryz.prog az 63 [I n] (.bool (eS n)):=by
 refine Qn alc (fun _ _ _=>.junk) (by simp) ?_;by_cases h:1<=n
 ·simp[ala,alb,h,eS]
 simp[ala,alb,h,eS]
def z7{α:Type}{a b:List α}{i:Nat}{x y:α}(hx:a[i]?=some x)(hy:b[i]?=some y)(h:a.take i=b.take i):a.take (i+1)=b.take (i+1)<->x=y:=by
 rw[zzas,zzas,hx,hy,h];simp
def tC{α:Type}{a b:List α}{i:Nat}(h:a.take i≠b.take i):a≠b:=fun e=>h (by rw[e])
def aaT(a b:List Sp)(ha:a.length<=8796093022208):Pure Tryz.prog az 180 [.sl .ro (a.map Qe),.sl .ro (b.map Qe)] (.bool (decide (a=b))):=by
 refine Qn acY (fun _ _ _=>.junk) (by simp) ?_;by_cases hl:a.length=b.length
 ·simp[Ns,hl];refine Qj vo (fun f m=>∃i:Nat,f 5=I i/\i<=b.length/\a.take i=b.take i/\m=⟨[],[],fun _=>.gone,0⟩) (fun f _=>b.length-(numOf (f 5)).toNat) ?_ ?_
  ·exact⟨0,by simp,by omega,by simp,rfl⟩
  rintro f m ⟨i,h5,hi,ht,rfl⟩;rcases zzaa i b.length with ai|bu
  ·obtain⟨x,hx⟩:∃x,a[i]?=some x:=⟨_,zzad (by omega)⟩;obtain⟨y,hy⟩:=aR ai;have hrx:=Zc hx;have hry:=Zc hy;have aa:(i:Int)<(b.length:Int):=by omega
   have hw:=bK i (by omega);have hs:=z7 hx hy ht;by_cases e1:x.1=y.1
   ·by_cases e2:x.2=y.2
    ·simp[h5,hl,aa,hrx,hry,vo,e1,e2,hw];refine⟨aO,⟨i+1,by simp,by omega,hs.2 (Prod.ext e1 e2)⟩,by omega⟩
    have aK:a≠b:=tC fun h=>e2 (by rw[hs.1 h]);simp[h5,hl,aa,hrx,hry,vo,e1,e2,EC,aK]
   have aK:a≠b:=tC fun h=>e1 (by rw[hs.1 h]);simp[h5,hl,aa,hrx,hry,vo,e1,EC,aK]
  have bJ:¬(i:Int)<(b.length:Int):=by omega
  have he:a=b:=by
   rw[zzap (by omega),zzap (by omega)]at ht;exact ht
  simp[h5,bJ,vo,EC,he]
 have aK:a≠b:=fun e=>hl (by rw[e]);have eF:¬(a.length:Int)=(b.length:Int):=by omega
 simp[Ns,EC,eF,aK]
def My(a b:ByteArray):a.toList=b.toList<->a=b:=by
 obtain⟨⟨l⟩⟩:=a;obtain⟨⟨l'⟩⟩:=b;rw[ByteArray.toList_eq,ByteArray.toList_eq];simp
def DY(a b:En):Bool:=decide (a.al=b.al/\a.id=b.id/\a.it=b.it/\a.fr=b.fr/\a.ea=b.ea/\a.la=b.la/\a.bo=b.bo)
def Mz(a b:Cue):Bool:=decide (a.id=b.id/\a.fr=b.fr/\a.to=b.to/\a.pr=b.pr/\a.tx=b.tx)
def z8(a b:Od):Bool:=DY a.nw b.nw&&(decide (a.sq=b.sq)&&(decide (a.ch=b.ch)&&(decide (a.fr=b.fr)&&(decide (a.ki=b.ki)&&(decide (a.en=b.en)&&(decide (a.n=b.n)&&(decide (a.cl=b.cl)&&Mz a.cu b.cu)))))))
def aaU(a b:En)(ha:a.al.length<=8796093022208):Pure Tryz.prog az 108 [.agg (Qd a),.agg (Qd b)] (.bool (DY a b)):=by
 have k:=aaT a.al b.al ha;refine Qn acj (fun _ _ _=>.bool (decide (a.al=b.al))) (by simp) ?_;obtain⟨a1,a2,a3,a4,a5,a6,al⟩:=a;obtain⟨b1,b2,b3,b4,b5,b6,bl⟩:=b;simp[ahe,ahf,Qd];refine⟨k,?_⟩;rw[zzbt];simp[DY,and_assoc]
def agE(a b:Od)(ha:a.nw.al.length<=8796093022208):Pure Tryz.prog az 67 [.agg (Qq a),.agg (Qq b)] (.bool (z8 a b)):=by
 have k:=aaU a.nw b.nw ha;refine Qn alg (fun _ _ _=>.bool (DY a.nw b.nw)) (by simp) ?_;obtain⟨sq,ch,fr,ki,en,n,⟨a1,a2,a3,a4,a5,a6,al⟩,⟨c1,c2,c3,c4,c5,c6,c7,c8⟩,⟨d1,d2,d3,d4,tx⟩⟩:=a;obtain⟨sq',ch',fr',ki',en',n',⟨a1',a2',a3',a4',a5',a6',al'⟩,⟨c1',c2',c3',c4',c5',c6',c7',c8'⟩,⟨d1',d2',d3',d4',tx'⟩⟩:=b;simp only[Qd]at k;simp[apc,apd,Qq,Qd,Qg,Qi];refine⟨k,?_⟩;rw[zzbt];simp[z8,Mz,and_assoc];intros;exact My _ _
def Aa(r:Int):List Sp->Bool
 |[]=>true
 |a::l=>if eS a.2=false\/a.1<=r\/8<=a.1 then false else Aa a.1 l
def Pr:∀(l:List Sp)(r:Int),Aa r l=yd r l
 |[],_=>rfl
 |a::l,r=>by
  rw[Aa,yd,Pr l a.1];by_cases h:r<a.1/\a.1<=7/\eS a.2=true
  ·have h1:=h.1;have h2:=h.2.1;rw[if_pos h,if_neg (by rw[h.2.2];simp;omega)]
  rw[if_neg h];cases hi:eS a.2 with
  |false=>rw[if_pos (.inl rfl)]
  |true=>
   have h':¬(r<a.1/\a.1<=7):=fun hh=>h ⟨hh.1,hh.2,hi⟩;rw[if_pos (.inr (by omega))]
def aaV(e:En)(f:Nat->AV)(m:AM):Prop:=∃(i:Nat)(r:Int),f 7=I i/\i<=e.al.length/\f 6=I r/\Aa 0 e.al=Aa r (e.al.drop i)/\m=⟨[Qd e],[],fun _=>.gone,0⟩
def MA(e:En)(hl:e.al.length<=8796093022208):Pure Tryz.prog az 64 [.agg (Qd e)] (.bool (zg e)):=by
 have q1:=SK e.id;have q2:=SK e.it;have q3:=SK e.bo;refine Qn ald Vh (by simp) ?_
 have hbo:(e.bo=0)\/(e.bo≠0/\eS e.bo=true)\/(e.bo≠0/\eS e.bo=false):=by
  by_cases dV:e.bo=0
  ·exact .inl dV
  cases hb:eS e.bo with
  |true=>exact .inr (.inl ⟨dV,rfl⟩)
  |false=>exact .inr (.inr ⟨dV,rfl⟩)
 by_cases hbad:(eS e.it&&eS e.id&&decide (1<=e.fr/\e.fr<=100000000)&&decide (0<=e.ea/\e.ea<=e.la/\e.la<=100000000)&&(decide (e.bo=0)||eS e.bo))=true
 ·simp only[zzak,decide_eq_true_eq,zzh]at hbad;obtain⟨⟨⟨⟨b1,b2⟩,b3,b4⟩,b5,b6,b7⟩,b8⟩:=hbad
  have hv:zg e=Aa 0 e.al:=by
   rw[Pr];have h8:(decide (e.bo=0)||eS e.bo)=true:=by rw[zzh,decide_eq_true_eq];exact b8
   simp only[zg,b1,b2,b3,b4,b5,b6,b7,h8,zzdq,and_self,decide_true]
  have c1:¬e.fr<1:=by omega
  have c2:¬100000000<e.fr:=by omega
  have c3:¬e.ea<0:=by omega
  have c4:¬e.la<e.ea:=by omega
  have c5:¬100000000<e.la:=by omega
  rw[hv];have loop:∀(E:List (Nat×AV))(Q:Exit->AS->Prop),True:=fun _ _=>trivial;rw[b2]at q1;rw[b1]at q2;obtain h0|⟨h0,h1⟩|⟨h0,h1⟩:=hbo
  ·simp[Jx,Qd,Vh,b1,b2,h0,c1,c2,c3,c4,c5];refine⟨q2,q1,?_⟩;refine Qj gQ (aaV e) (fun f _=>e.al.length-(numOf (f 7)).toNat) ?_ ?_
   ·exact⟨0,0,by simp,by omega,by simp,by simp,by simp[Qd,h0]⟩
   rintro f m ⟨i,r,f7,hi,f6,hr,rfl⟩;rcases zzaa i e.al.length with ai|bu
   ·obtain⟨a,ha⟩:=aR ai;have ah:=Zc ha;have aa:(i:Int)<(e.al.length:Int):=by omega
    have hw:=bK i (by omega);have hd:e.al.drop i=a::e.al.drop (i+1):=by rw[zzaf ai,(zza.1 ha).2]
    rw[hd,Aa]at hr;have qa:=SK a.2;cases d3:eS a.2 with
    |false=>
     rw[d3]at qa;rw[if_pos (.inl d3)]at hr;simp[f7,f6,gQ,tJ,Qd,aa,ah,d3,hr,Vh];exact qa
    |true=>
     rw[d3]at qa;by_cases d1:a.1<=r
     ·rw[if_pos (.inr (.inl d1))]at hr;simp[f7,f6,gQ,tJ,Qd,aa,ah,d1,d3,hr,Vh];exact qa
     by_cases d2:8<=a.1
     ·rw[if_pos (.inr (.inr d2))]at hr;simp[f7,f6,gQ,tJ,Qd,aa,ah,d1,d2,d3,hr,Vh];exact qa
     rw[if_neg (by rw[d3];simp;omega)]at hr;simp[f7,f6,gQ,Qd,aa,ah,d1,d2,d3,Vh,hw];refine⟨qa,aO,⟨i+1,a.1,by simp,by omega,by simp,hr,by simp[Qd]⟩,by omega⟩
   obtain rfl:i=e.al.length:=by omega
   rw[zzbo,Aa]at hr;simp[f7,f6,gQ,tJ,Qd,hr]
  ·rw[h1]at q3;simp[Jx,Qd,Vh,b1,b2,h0,h1,c1,c2,c3,c4,c5];refine⟨q2,q1,q3,?_⟩;refine Qj gQ (aaV e) (fun f _=>e.al.length-(numOf (f 7)).toNat) ?_ ?_
   ·exact⟨0,0,by simp,by omega,by simp,by simp,by simp[Qd]⟩
   rintro f m ⟨i,r,f7,hi,f6,hr,rfl⟩;rcases zzaa i e.al.length with ai|bu
   ·obtain⟨a,ha⟩:=aR ai;have ah:=Zc ha;have aa:(i:Int)<(e.al.length:Int):=by omega
    have hw:=bK i (by omega);have hd:e.al.drop i=a::e.al.drop (i+1):=by rw[zzaf ai,(zza.1 ha).2]
    rw[hd,Aa]at hr;have qa:=SK a.2;cases d3:eS a.2 with
    |false=>
     rw[d3]at qa;rw[if_pos (.inl d3)]at hr;simp[f7,f6,gQ,tJ,Qd,aa,ah,d3,hr,Vh];exact qa
    |true=>
     rw[d3]at qa;by_cases d1:a.1<=r
     ·rw[if_pos (.inr (.inl d1))]at hr;simp[f7,f6,gQ,tJ,Qd,aa,ah,d1,d3,hr,Vh];exact qa
     by_cases d2:8<=a.1
     ·rw[if_pos (.inr (.inr d2))]at hr;simp[f7,f6,gQ,tJ,Qd,aa,ah,d1,d2,d3,hr,Vh];exact qa
     rw[if_neg (by rw[d3];simp;omega)]at hr;simp[f7,f6,gQ,Qd,aa,ah,d1,d2,d3,Vh,hw];refine⟨qa,aO,⟨i+1,a.1,by simp,by omega,by simp,hr,by simp[Qd]⟩,by omega⟩
   obtain rfl:i=e.al.length:=by omega
   rw[zzbo,Aa]at hr;simp[f7,f6,gQ,tJ,Qd,hr]
  obtain b8|b8:=b8
  ·exact absurd b8 h0
  rw[h1]at b8;cases b8
 have hv:zg e=false:=by
  cases hi:zg e with
  |false=>rfl
  |true=>
   refine absurd ?_ hbad;simp only[zg,zzak]at hi |-
   exact⟨⟨⟨⟨hi.1.1.1.1.2,hi.1.1.1.1.1⟩,hi.1.1.1.2⟩,hi.1.1.2⟩,hi.1.2⟩
 rw[hv]
 have hX:(!eS e.it||!eS e.id||!(decide (e.bo=0)||eS e.bo)||decide (e.fr<1)||decide (100000000<e.fr)||decide (e.ea<0)||decide (e.la<e.ea)||decide (100000000<e.la))=true:=by
  cases hx:(!eS e.it||!eS e.id||!(decide (e.bo=0)||eS e.bo)||decide (e.fr<1)||decide (100000000<e.fr)||decide (e.ea<0)||decide (e.la<e.ea)||decide (100000000<e.la))with
  |true=>rfl
  |false=>
   refine absurd ?_ hbad;simp only[zzew,Bool.not_eq_false',decide_eq_false_iff_not]at hx;obtain⟨⟨⟨⟨⟨⟨⟨x1,x2⟩,x3⟩,x4⟩,x5⟩,x6⟩,x7⟩,x8⟩:=hx;rw[x1,x2,x3];simp;omega
 obtain h0|⟨h0,h1⟩|⟨h0,h1⟩:=hbo
 ·simp[h0]at hX;simp[Jx,tJ,Qd,Vh,h0];refine⟨q2,q1,?_⟩;intro a1 a2 a3 a4 a5 a6 a7;exfalso;simp[a1,a2]at hX;omega
 ·simp[h0,h1]at hX;rw[h1]at q3;simp[Jx,tJ,Qd,Vh,h0,h1];refine⟨q2,q1,q3,?_⟩;intro a1 a2 a3 a4 a5 a6 a7;exfalso;simp[a1,a2]at hX;omega
 rw[h1]at q3;simp[Jx,tJ,Qd,Vh,h0,h1];exact⟨q2,q1,q3⟩
end Go.Proofs.YtnopaopphmjnmaaGreatDoor
