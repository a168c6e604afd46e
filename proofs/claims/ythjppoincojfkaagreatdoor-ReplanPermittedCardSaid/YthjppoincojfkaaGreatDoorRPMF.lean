import Derived.Test.YthjppoincojfkaaGreatDoorRPME
import Derived.ProofKit
import Derived.OpenShut
import Derived.OpenVars
set_option linter.all false
namespace Go.Abs
open Go Go.RowKit
def nd{α:Type}{a b:α}(h:a=b):a=b:=h
section
variable (P:Program) (gl:Nat->AV) (orc:UV) (Y:YT) (s:AS) (Q:R0)
@[simp] def avn:vc P gl orc Y .skip s Q=Q .normal s:=nd rfl
@[simp] def awS(l:List SO):vc P gl orc Y (.ops l) s Q=Zo P gl orc Y l s (Q .normal):=nd rfl
@[simp] def awT(a b:SC):vc P gl orc Y (.seq a b) s Q=vc P gl orc Y a s (V0 (vc P gl orc Y b) Q):=nd rfl
def ad4(x:bE)(a b:SC):vc P gl orc Y (.cond x a b) s Q=match ev gl s.T x with|.bool t=>(t=true->vc P gl orc Y a s Q)/\(t=false->vc P gl orc Y b s Q)|_=>False:=nd rfl
@[simp] def arG(x:bE)(a b:SC):vc P gl orc Y (.cond x a b) s Q=match ev gl s.T x with|.bool t=>(if t=true then vc P gl orc Y a s Q else vc P gl orc Y b s Q)|_=>False:=by
 rw[ad4];cases ev gl s.T x<;>try rfl
 rename_i t;cases t<;>simp
@[simp] def arH(id:Nat)(c:SC):vc P gl orc Y (.block id c) s Q=vc P gl orc Y c s (nx id Q):=nd rfl
@[simp] def avo(id:Nat):vc P gl orc Y (.exit id) s Q=Q (.exit id) s:=nd rfl
@[simp] def arI(c:SC):vc P gl orc Y (.scope c) s Q=vc P gl orc Y c s (wC Q):=nd rfl
@[simp] def awU:vc P gl orc Y .ret s Q=Q .ret s:=nd rfl
@[simp] def awV:vc P gl orc Y .bad s Q=False:=nd rfl
def ad5{c:SC}(I:AS->Prop)(μ:AS->Nat)(h0:I s)(hr:∀s',I s'->vc P gl orc Y c s' (ny I μ s' Q)):vc P gl orc Y (.loop c) s Q:=⟨I,μ,h0,hr⟩
variable (k:AS->(R0)->Prop) (id id':Nat) (I:AS->Prop) (μ:AS->Nat) (s0:AS)
@[simp] def aiA:V0 k Q .normal s=k s Q:=nd rfl
@[simp] def an6:V0 k Q (.exit id) s=Q (.exit id) s:=nd rfl
@[simp] def arJ:V0 k Q .ret s=Q .ret s:=nd rfl
@[simp] def abj:nx id Q .normal s=Q .normal s:=nd rfl
@[simp] def aiB:nx id Q (.exit id') s=if id'=id then Q .normal s else Q (.exit id') s:=nd rfl
@[simp] def alr:nx id Q .ret s=Q .ret s:=nd rfl
@[simp] def abk:wC Q .normal s=Q .normal s:=nd rfl
@[simp] def aiC:wC Q (.exit id) s=Q (.exit id) s:=nd rfl
@[simp] def alu:wC Q .ret s=Q .ret s:=nd rfl
@[simp] def abl:ny I μ s0 Q .normal s=(I s/\μ s<μ s0):=nd rfl
@[simp] def aiD:ny I μ s0 Q (.exit id) s=Q (.exit id) s:=nd rfl
@[simp] def alv:ny I μ s0 Q .ret s=Q .ret s:=nd rfl
end
@[simp] def avp(P:Program)(gl:Nat->AV)(orc:UV)(Y:YT)(s:AS)(Q:R0)(l l2:List SO):vc P gl orc Y (.draw l l2) s Q=Sn P gl orc Y l2 (Q .normal) l s.T s.m []:=nd rfl
def alw(T:P2)(f:Nat->AV):Pa->P2
 |[]=>T
 |i::W=>alw (T.set i (f i)) f W
def CO(T:P2)(W:Pa)(R:(Nat->AV)->AM->Prop)(μ:(Nat->AV)->AM->Nat)(f:Nat->AV)(m:AM)(Q:R0):R0
 |.normal,s'=>s'.T=alw T (fun i=>s'.T.getD i .junk) W/\R (fun i=>s'.T.getD i .junk) s'.m/\μ (fun i=>s'.T.getD i .junk) s'.m<μ f m
 |ex,s'=>Q ex s'
section
variable (T:P2) (W:Pa) (R:(Nat->AV)->AM->Prop) (μ:(Nat->AV)->AM->Nat) (f:Nat->AV) (m:AM) (Q:R0) (s:AS) (id:Nat)
@[simp] def Wg:CO T W R μ f m Q .normal s=(s.T=alw T (fun i=>s.T.getD i .junk) W/\R (fun i=>s.T.getD i .junk) s.m/\μ (fun i=>s.T.getD i .junk) s.m<μ f m):=nd rfl
@[simp] def ad6:CO T W R μ f m Q (.exit id) s=Q (.exit id) s:=nd rfl
@[simp] def aiE:CO T W R μ f m Q .ret s=Q .ret s:=nd rfl
end
def nth(l:P2)(n:Nat):AV:=l.getD n .junk
def Qh(l:T5)(n:Nat):P2:=l.getD n []
@[simp high] theorem Qbt(l:P2)(n:Nat):l.getD n .junk=nth l n:=rfl
@[simp high] theorem Yb(l:T5)(n:Nat):l.getD n []=Qh l n:=rfl
@[simp] theorem avq(n:Nat):nth [] n=.junk:=rfl
@[simp] theorem arK(a:AV)(l:P2):nth (a::l) 0=a:=rfl
@[simp] theorem arL(a:AV)(l:P2)(n:Nat):nth (a::l) (n+1)=nth l n:=rfl
@[simp] theorem arM(n:Nat):Qh [] n=[]:=rfl
@[simp] theorem an7(a:P2)(l:T5):Qh (a::l) 0=a:=rfl
@[simp] theorem an8(a:P2)(l:T5)(n:Nat):Qh (a::l) (n+1)=Qh l n:=rfl
@[simp] def Wr(l l':T5):Qh (l++l') l.length=Qh l' 0:=by simp[Qh,zzax,-Yb,zzao]
@[simp] def Vl(l l':T5)(k:Nat):Qh (l++l') (l.length+k)=Qh l' k:=by simp[Qh,zzax,-Yb,zzao]
@[simp] def avr(l l':T5)(x:P2):(l++l').set l.length x=l++l'.set 0 x:=by simp[zzdc]
@[simp] def aiF(l l':T5)(k:Nat)(x:P2):(l++l').set (l.length+k) x=l++l'.set k x:=by simp[zzdc]
def Qu{l:T5}{n:Nat}{x:P2}(h:l[n]?=some x):Qh l n=x:=by simp[Qh,zzax,-Yb,h]
def alx{l:P2}{n:Nat}{x:AV}(h:l[n]?=some x):nth l n=x:=by simp[nth,zzax,-Qbt,h]
def numOf:AV->Int
 |.int _ n=>n
 |_=>0
@[simp] theorem an9(k:IntKind)(n:Int):numOf (.int k n)=n:=rfl
@[simp] theorem aiG:Jh .full=true:=rfl
@[simp] theorem aly:Jh .nil=true:=rfl
@[simp] theorem aoa:Jh .ro=false:=rfl
@[simp] theorem aob:Jh .nn=false:=rfl
@[simp] theorem alz(i s:Nat):Jh (.own i s)=false:=rfl
@[simp] theorem alA(sz:Nat)(l:P2):aY sz 0 l=[]:=rfl
@[simp] theorem wE(sz n:Nat)(l:P2):aY sz (n+1) l=l.take sz::aY sz n (l.drop sz):=rfl
@[simp] theorem alB:Jr []=some []:=rfl
@[simp] def aiH(n:Int)(r:T5):Jr ([.int .u8 n]::r)=(match Jr r with|some l=>some (UInt8.ofNat n.toNat::l)|_=>none):=by
 simp only[Jr,byteOf];cases Jr r<;>rfl
@[simp] theorem arN(b:Bool):JC (.bool b)=some (true,b):=rfl
@[simp] theorem arO(b:Bool):isB (.bool b)=true:=rfl
@[simp] theorem arP(b:Bool):bOf (.bool b)=b:=rfl
@[simp] theorem avt(a:AV):JC (.gd false a)=some (false,bOf a):=rfl
@[simp] theorem avu(a:AV):JC (.gd true a)=some (isB a,bOf a):=rfl
@[simp] def awW(g b:Bool):JC (.gd g (.bool b))=some (g,b):=by cases g<;>rfl
@[simp] theorem arQ(want g:Bool):Ec want (.bool g)=some (g==want):=rfl
@[simp] theorem awX(want d b:Bool):Ec want (.gd d (.bool b))=some (d&&(b==want)):=rfl
@[simp] def avv(want:Bool)(a:AV):Ec want (.gd false a)=some false:=by cases a<;>rfl
@[simp] theorem avw(gl:Nat->AV)(T:P2)(t:Nat):evS gl T (.tmp t)=strip (nth T t):=rfl
@[simp] theorem aoc(gl:Nat->AV)(T:P2)(a:AV):evS gl T (.const a)=strip a:=rfl
@[simp] theorem arR(gl:Nat->AV)(T:P2)(f:FuncId):evS gl T (.func f)=.fn f [] []:=rfl
@[simp] theorem arS(gl:Nat->AV)(T:P2)(g:Nat):evS gl T (.glob g)=strip (gl g):=rfl
section
variable (P:Program) (gl:Nat->AV) (orc:UV) (Y:YT) (K:AS->Prop) (r:List SO) (T:P2) (m:AM) (d:Option Nat) (op:aF) (xs:List bE) (s:AS)
@[simp] def aod:Zo P gl orc Y [] s K=K s:=nd rfl
@[simp] def alC:Zo P gl orc Y (⟨d,op,none,xs⟩::r) s K=(if effy orc (ev gl s.T) s.m d op=true then Qao P gl Y (ev gl s.T) s.m (fun av m'=>Zo P gl orc Y r ⟨put s.T d av,m'⟩ K) op
   else(sop P gl orc (ev gl s.T) s.m d op).1/\Zo P gl orc Y r ⟨put s.T d (sop P gl orc (ev gl s.T) s.m d op).2.1,(sop P gl orc (ev gl s.T) s.m d op).2.2⟩ K):=nd rfl
@[simp] def alD(t:Nat)(want:Bool):Zo P gl orc Y (⟨d,op,some (some t,want),xs⟩::r) s K=(match Ec want (s.T.getD t .junk)with
   |some gw=>gok gl s.T gw (gxs op xs)/\
     if effy orc (evG gl s.T op) s.m d op=true then
      (gw=true->Qao P gl Y (evG gl s.T op) s.m (fun av m'=>Zo P gl orc Y r ⟨put s.T d (.gd true av),m'⟩ K) op)/\(gw=false->Zo P gl orc Y r ⟨put s.T d (.gd false (.bool false)),s.m⟩ K)
     else(gw=true->(rop P gl orc (evG gl s.T op) s.m d op).1)/\
      Zo P gl orc Y r ⟨put s.T d (.gd gw (rop P gl orc (evG gl s.T op) s.m d op).2),s.m⟩ K
   |none=>False):=nd rfl
variable (l2:List SO) (nb:T5) (o:SO)
@[simp] def avx:Sn P gl orc Y l2 K [] T m nb=Zo P gl orc Y l2 ⟨T,{m with boxes:=m.boxes++nb}⟩ K:=nd rfl
@[simp] def arT:Sn P gl orc Y l2 K (o::r) T m nb=((dop P gl orc o T m nb).1/\Sn P gl orc Y l2 K r (put T o.dst (dop P gl orc o T m nb).2.1) m (dop P gl orc o T m nb).2.2):=nd rfl
end
attribute [simp] rawOp evG gxs effy Qao callV dop ev Jq oneOf strip gok setA Qdi sop rop binV binI binS binBool Vh kindF eqF Qbr eqFs loOf hiOf lenS cellsS mutO vcNxt keyA intsA keyAV
def qS(n:Nat)(a:AV):bF n [a]=List.replicate n a:=by
 induction n with
 |zero=>rfl
 |succ n ih=>rw[bF,ih];rfl
@[simp] theorem aiI(P:Program)(gl:Nat->AV)(orc:UV)(rs:List aF)(r:AV)(s:AS):post P gl orc rs r .normal s=((Jq P gl orc s rs).1/\bz s.m 6 (oneOf (Jq P gl orc s rs).2)=r):=rfl
@[simp] theorem arU(P:Program)(gl:Nat->AV)(orc:UV)(rs:List aF)(r:AV)(s:AS):post P gl orc rs r .ret s=((Jq P gl orc s rs).1/\bz s.m 6 (oneOf (Jq P gl orc s rs).2)=r):=rfl
@[simp] theorem ad7(P:Program)(gl:Nat->AV)(orc:UV)(rs:List aF)(K:So)(s:AS):wD P gl orc rs K .normal s=((Jq P gl orc s rs).1/\K (oneOf (Jq P gl orc s rs).2) s.m):=rfl
@[simp] theorem aoe(P:Program)(gl:Nat->AV)(orc:UV)(rs:List aF)(K:So)(s:AS):wD P gl orc rs K .ret s=((Jq P gl orc s rs).1/\K (oneOf (Jq P gl orc s rs).2) s.m):=rfl
section
variable (m:AM) (d:Nat)
@[simp] theorem aiJ(b:Bool):Qx (.bool b)=true:=rfl
@[simp] theorem alE(k:IntKind)(n:Int):Qx (.int k n)=true:=rfl
@[simp] theorem alF(s:ByteArray):Qx (.str s)=true:=rfl
@[simp] theorem aof(rt:Rt)(r:T5):Qx (.sl rt r)=true:=rfl
@[simp] theorem aog(r:P2)(o:Nat):Qx (.ep r o)=true:=rfl
@[simp] theorem alG(i o:Nat):Qx (.ptr i o)=true:=rfl
@[simp] theorem aoh(i o n z:Nat):Qx (.bs i o n z)=true:=rfl
@[simp] theorem aoi(f:FuncId)(a b:P2):Qx (.fn f a b)=true:=rfl
@[simp] theorem aiK(p:Bool):Qx (.nilv p)=true:=rfl
@[simp] theorem ad8:Qx .nilfn=true:=rfl
@[simp] theorem alH(l:Nat):Qx (.yld l)=true:=rfl
@[simp] theorem aoj(i:Nat):Qx (.mp i)=true:=rfl
@[simp] theorem aok(i:Nat):Qx (.it i)=true:=rfl
@[simp] theorem aiL(k:Nat)(l:List (Pi×AV)):Qx (.aJ k l)=false:=rfl
@[simp] theorem aiM(i n:Nat)(l:Pa):Qx (.mitr i n l)=false:=rfl
@[simp] theorem aiN:Qx .junk=false:=rfl
@[simp] theorem alI(cs:P2):Qx (.agg cs)=false:=rfl
@[simp] theorem alJ(cs:P2):Qx (.aS cs)=false:=rfl
@[simp] theorem aol(g:Bool)(a:AV):Qx (.gd g a)=false:=rfl
@[simp] theorem aom(b:Bool):bare (.bool b)=true:=rfl
@[simp] theorem arV(k:IntKind)(n:Int):bare (.int k n)=true:=rfl
@[simp] theorem arW(s:ByteArray):bare (.str s)=true:=rfl
@[simp] theorem avy(rt:Rt)(r:T5):bare (.sl rt r)=true:=rfl
@[simp] theorem avz(r:P2)(o:Nat):bare (.ep r o)=true:=rfl
@[simp] theorem arX(i o:Nat):bare (.ptr i o)=true:=rfl
@[simp] theorem avA(i o n z:Nat):bare (.bs i o n z)=true:=rfl
@[simp] theorem avB(f:FuncId)(a b:P2):bare (.fn f a b)=true:=rfl
@[simp] theorem aon(p:Bool):bare (.nilv p)=true:=rfl
@[simp] theorem alK:bare .nilfn=true:=rfl
@[simp] theorem arY(l:Nat):bare (.yld l)=true:=rfl
@[simp] theorem avC(i:Nat):bare (.mp i)=true:=rfl
@[simp] theorem avD(i:Nat):bare (.it i)=true:=rfl
@[simp] theorem aoo(k:Nat)(l:List (Pi×AV)):bare (.aJ k l)=false:=rfl
@[simp] theorem aop(i n:Nat)(l:Pa):bare (.mitr i n l)=false:=rfl
@[simp] theorem arZ(cs:P2):bare (.agg cs)=true:=rfl
@[simp] theorem aoq:bare .junk=false:=rfl
@[simp] theorem ar0(cs:P2):bare (.aS cs)=false:=rfl
@[simp] theorem avE(g:Bool)(a:AV):bare (.gd g a)=false:=rfl
@[simp] theorem ad9(b:Bool):cellsOf (.bool b)=[.bool b]:=rfl
@[simp] theorem aiO(k:IntKind)(n:Int):cellsOf (.int k n)=[.int k n]:=rfl
@[simp] theorem aiP(s:ByteArray):cellsOf (.str s)=[.str s]:=rfl
@[simp] theorem alL(rt:Rt)(r:T5):cellsOf (.sl rt r)=[.sl rt r]:=rfl
@[simp] theorem alM(r:P2)(o:Nat):cellsOf (.ep r o)=[.ep r o]:=rfl
@[simp] theorem aiQ(i o:Nat):cellsOf (.ptr i o)=[.ptr i o]:=rfl
@[simp] theorem alN(i o n z:Nat):cellsOf (.bs i o n z)=[.bs i o n z]:=rfl
@[simp] theorem alO(f:FuncId)(a b:P2):cellsOf (.fn f a b)=[.fn f a b]:=rfl
@[simp] theorem aea(p:Bool):cellsOf (.nilv p)=[.nilv p]:=rfl
@[simp] theorem abm:cellsOf .nilfn=[.nilfn]:=rfl
@[simp] theorem aiR(l:Nat):cellsOf (.yld l)=[.yld l]:=rfl
@[simp] theorem alP(i:Nat):cellsOf (.mp i)=[.mp i]:=rfl
@[simp] theorem alQ(i:Nat):cellsOf (.it i)=[.it i]:=rfl
@[simp] theorem aiS(cs:P2):cellsOf (.agg cs)=cs:=rfl
@[simp] theorem ar1(b:Bool):bz m (d+1) (.bool b)=.bool b:=rfl
@[simp] theorem avF(k:IntKind)(n:Int):bz m (d+1) (.int k n)=.int k n:=rfl
@[simp] theorem avG(s:ByteArray):bz m (d+1) (.str s)=.str s:=rfl
@[simp] theorem ar2(p:Bool):bz m (d+1) (.nilv p)=.nilv p:=rfl
@[simp] theorem aor:bz m (d+1) .nilfn=.nilfn:=rfl
@[simp] theorem avH(l:Nat):bz m (d+1) (.yld l)=.junk:=rfl
@[simp] theorem awY(i:Nat):bz m (d+1) (.mp i)=.junk:=rfl
@[simp] theorem awZ(i:Nat):bz m (d+1) (.it i)=.junk:=rfl
@[simp] theorem ar3:bz m (d+1) .junk=.junk:=rfl
@[simp] theorem avI(cs:P2):bz m (d+1) (.agg cs)=.agg (cs.map (bz m d)):=rfl
@[simp] theorem avJ(cs:P2):bz m (d+1) (.aS cs)=.aS (cs.map (bz m d)):=rfl
@[simp] theorem aw0(f:FuncId)(a b:P2):bz m (d+1) (.fn f a b)=.fn f (a.map (bz m d)) (b.map (bz m d)):=rfl
@[simp] theorem aw1(r:T5):bz m (d+1) (.sl .ro r)=.sl .ro r:=rfl
@[simp] theorem ar4(r:T5):bz m (d+1) (.sl .full r)=.sl .full r:=rfl
@[simp] theorem avK(r:T5):bz m (d+1) (.sl .nil r)=.sl .nil r:=rfl
@[simp] theorem aw2(r:T5):bz m (d+1) (.sl .nn r)=.sl .nn r:=rfl
@[simp] theorem avL(i s:Nat)(r:T5):bz m (d+1) (.sl (.own i s) r)=.sl .ro r:=rfl
@[simp] theorem aw3(r:P2)(o:Nat):bz m (d+1) (.ep r o)=.ep r o:=rfl
@[simp] def WA(i o n z:Nat):bz m (d+1) (.bs i o n z)=if o+n*z<=(m.boxes.getD i []).length then .sl .ro (aY z n (((m.boxes.getD i []).map (bz m d)).drop o))else .junk:=by
 simp only[bz];cases h:Nat.ble (o+n*z) (m.boxes.getD i []).length with
 |true=>rw[if_pos (zzbc h)];rfl
 |false=>rw[if_neg (fun h'=>by rw[Nat.ble_eq_true_of_le h']at h;cases h)];rfl
@[simp] theorem oW(i o:Nat):bz m (d+1) (.ptr i o)=.ep ((m.boxes.getD i []).map (bz m d)) o:=rfl
@[simp] theorem aos(b:Bool):Ve (d+1) (.bool b)=false:=rfl
@[simp] theorem ar5(k:IntKind)(n:Int):Ve (d+1) (.int k n)=false:=rfl
@[simp] theorem ar6(s:ByteArray):Ve (d+1) (.str s)=false:=rfl
@[simp] theorem aot(p:Bool):Ve (d+1) (.nilv p)=false:=rfl
@[simp] theorem alR:Ve (d+1) .nilfn=false:=rfl
@[simp] theorem ar7(l:Nat):Ve (d+1) (.yld l)=false:=rfl
@[simp] theorem avM(i:Nat):Ve (d+1) (.mp i)=false:=rfl
@[simp] theorem avN(i:Nat):Ve (d+1) (.it i)=false:=rfl
@[simp] theorem aou:Ve (d+1) .junk=false:=rfl
@[simp] theorem ar8(cs:P2):Ve (d+1) (.agg cs)=cs.any (Ve d):=rfl
@[simp] theorem ar9(cs:P2):Ve (d+1) (.aS cs)=cs.any (Ve d):=rfl
@[simp] theorem avO(f:FuncId)(a b:P2):Ve (d+1) (.fn f a b)=(a.any (Ve d)||b.any (Ve d)):=rfl
@[simp] theorem avP(rt:Rt)(r:T5):Ve (d+1) (.sl rt r)=false:=rfl
@[simp] theorem avQ(r:P2)(o:Nat):Ve (d+1) (.ep r o)=false:=rfl
@[simp] theorem avR(i o n z:Nat):Ve (d+1) (.bs i o n z)=true:=rfl
@[simp] theorem asa(i o:Nat):Ve (d+1) (.ptr i o)=true:=rfl
@[simp] theorem aov(b:Bool):flat (.bool b)=true:=rfl
@[simp] theorem asb(k:IntKind)(n:Int):flat (.int k n)=true:=rfl
@[simp] theorem asc(s:ByteArray):flat (.str s)=true:=rfl
@[simp] theorem alS(b:Bool):iN (.bool b)=true:=rfl
@[simp] theorem aow(k:IntKind)(n:Int):iN (.int k n)=true:=rfl
@[simp] theorem aox(s:ByteArray):iN (.str s)=true:=rfl
@[simp] theorem asd(cs:P2):flat (.aS cs)=cs.all iN:=rfl
end
def Fu:AV->Bool
 |.bool _|.int _ _|.str _|.sl .ro _|.sl .full _|.sl .nil _|.sl .nn _|.nilfn|.ep _ _=>true
 |_=>false
@[simp] theorem ase(b:Bool):Fu (.bool b)=true:=rfl
@[simp] theorem avS(k:IntKind)(n:Int):Fu (.int k n)=true:=rfl
@[simp] theorem avT(s:ByteArray):Fu (.str s)=true:=rfl
@[simp] theorem aw4(r:T5):Fu (.sl .ro r)=true:=rfl
@[simp] theorem asf(r:T5):Fu (.sl .full r)=true:=rfl
@[simp] theorem avU(r:T5):Fu (.sl .nil r)=true:=rfl
@[simp] theorem aw5(r:T5):Fu (.sl .nn r)=true:=rfl
@[simp] theorem aw6(r:P2)(o:Nat):Fu (.ep r o)=true:=rfl
def NL(m:AM)(d:Nat){a:AV}(h:Fu a=true):bz m (d+1) a=a:=by
 cases a<;>simp[Fu]at h |-
 rename_i rt rows;cases rt<;>simp at h |-
def Zm(row:P2):Bool:=row.all Fu
def Va(m:AM)(d:Nat){row:P2}(h:Zm row=true):row.map (bz m (d+1))=row:=by
 have:row.map (bz m (d+1))=row.map id:=zzcr fun a ha=>NL m d (zzay.1 h a ha);rw[this,List.map_id]
def Ql{n:Int}(h1: -9223372036854775808<=n)(h2:n<=9223372036854775807):IntKind.i64.wrap n=n:=by
 rw[IntKind.wrap_i64];omega
def bP(i:Nat)(h:i<1000000000000000000):IntKind.i64.wrap ((i:Int)+1)=((i+1:Nat):Int):=by rw[Ql]<;>omega
def aV{α:Type}{l:List α}{i:Nat}(h:i<l.length):∃x,l[i]?=some x:=⟨_,zzaf h⟩
@[simp] theorem Jm(m:AM)(l:Nat)(x:LS):(m.at_ l x).boxes=m.boxes:=rfl
@[simp] theorem NM(m:AM)(l:Nat)(x:LS):(m.at_ l x).lens=m.lens:=rfl
@[simp] theorem aiT(m:AM)(l:Nat)(x:LS):(m.at_ l x).st=uu m.st l x:=rfl
@[simp] def ayW(m:AM)(l:Nat)(x y:LS):(m.at_ l x).at_ l y=m.at_ l y:=by
 simp only[AM.at_];congr 1;funext i;simp only[uu];split<;>rfl
@[simp] def ash(st:Nat->LS)(l:Nat)(x:LS):uu st l x l=x:=by simp[uu]
@[simp] def avV(st:Nat->LS)(l:Nat)(x y:LS):uu (uu st l x) l y=uu st l y:=by funext i;simp only[uu];split<;>rfl
def fu(m m':AM):Prop:=(∃bx,m'.boxes=m.boxes++bx)/\(∃lx,m'.lens=m.lens++lx)/\∀l,m.st l≠.gone->m'.st l=m.st l
def fu.refl(m:AM):fu m m:=⟨⟨[],zd⟩,⟨[],zd⟩,fun _ _=>rfl⟩
def fu.trans{m m' lG:AM}(h:fu m m')(k:fu m' lG):fu m lG:=by
 obtain⟨⟨b,h1⟩,⟨c,h2⟩,h3⟩:=h;obtain⟨⟨b',k1⟩,⟨c',k2⟩,k3⟩:=k;exact⟨⟨b++b',by rw[k1,h1,zzav]⟩,⟨c++c',by rw[k2,h2,zzav]⟩,fun l hl=>by rw[k3 l (by rw[h3 l hl];exact hl),h3 l hl]⟩
def fu.box(m:AM)(b:T5):fu m {m with boxes:=m.boxes++b}:=⟨⟨b,rfl⟩,⟨[],zd⟩,fun _ _=>rfl⟩
def fu.gone{m m':AM}(h:fu m m')(l:Nat):fu (m.at_ l .gone) (m'.at_ l .gone):=
 ⟨h.1,h.2.1,fun l' eV=>by
  by_cases e:l'=l
  ·subst e;simp at eV
  simp only[aiT,uu,e,if_false]at eV |-;exact h.2.2 l' eV⟩
def wG(y:P2->AM->(Bool->AM->Prop)->Prop)(K:AM->Prop):T5->AM->Prop
 |[],m=>∀m',fu m m'->K m'
 |x::xs,m=>∀m',fu m m'->∀K':Bool->AM->Prop,(∀lG,wG y K xs lG->K' true lG)->(∀lG,(∀m3,fu lG m3->K m3)->K' false lG)->y x m' K'
def wG.ext{y:P2->AM->(Bool->AM->Prop)->Prop}{K:AM->Prop}{xs:T5}{m m':AM}(h:wG y K xs m)(e:fu m m'):wG y K xs m':=by
 cases xs with
 |nil=>exact fun m2 e2=>h m2 (e.trans e2)
 |cons x xs=>exact fun m2 e2=>h m2 (e.trans e2)
def Iter(P:Program)(gl:Nat->AV)(f:FuncId)(first cap:P2)(xs:T5):Prop:=
 ∀(Y:YT)(l:Nat)(m:AM)(K:AM->Prop),wG (Y l) K xs m->aB P gl Y f (first++[.yld l]++cap) m fun _ m'=>K m'
def je{P:Program}{gl:Nat->AV}{orc:UV}{Y:YT}{s:AS}{Q:R0}{g:bE}{ps:Pa}{gY body:SC}{f:FuncId}{first cap:P2}{xs:T5}
  (hg:ev gl s.T g=.fn f first cap)(cM:Iter P gl f first cap xs)(aH:∀x∈xs,x.length=ps.length)(I:Nat->AM->Prop)(X:Exit->AM->Prop)(h0:I 0 s.m)
  (hI:∀i m m',I i m->fu m m'->I i m')(hX:∀ex m m',X ex m->fu m m'->X ex m')
  (
   hb:∀(l i:Nat)(m:AM)(x:P2),s.m.st l=.gone->m.st l=.ready->I i (m.at_ l .gone)->xs[i]?=some x->∀K':R0,
   (∀s',I (i+1) (s'.m.at_ l .gone)->K' .normal s')->(∀s',X .ret (s'.m.at_ l .gone)->K' .ret s')->(∀id s',X (.exit id) (s'.m.at_ l .gone)->K' (.exit id) s')->
   vc P gl orc Y gY ⟨Qaq s.T ps x,m⟩ (J5 l fun s'=>vc P gl orc Y body s' K'))
  (WB:∀m,I xs.length m->Q .normal ⟨s.T,m⟩)(hex:∀ex m,X ex m->Q ex ⟨s.T,m⟩):vc P gl orc Y (.rfunc g ps gY body) s Q:=by
 simp only[vc,hg];intro hl;generalize dD:s.m.ln=l at hl;refine cM _ l s.m.bK (fun m'=>CM l s.T m' Q (m'.st l)) ?_;have iC:∀{m m':AM},m.st l=.ready->fu m m'->m'.st l=.ready:=fun h e=>by rw[e.2.2 l (by rw[h];simp),h]
 have key:∀(n i:Nat)(m:AM),i+n=xs.length->I i (m.at_ l .gone)->m.st l=.ready->wG (Yin Y l ps.length (fun args m K=>vc P gl orc Y gY ⟨Qaq s.T ps args,m⟩ (J5 l fun s'=>vc P gl orc Y body s' (PT l K))) l) (fun m'=>CM l s.T m' Q (m'.st l)) (xs.drop i) m:=by
  intro n;induction n with
  |zero=>
   intro i m hi hIm hm;rw[zzal zE];intro m' e;simp only[iC hm e,CM];obtain rfl:i=xs.length:=zE
   exact WB _ (hI _ _ _ hIm (e.gone l))
  |succ n ih=>
   intro i m hi hIm hm;have ai:i<xs.length:=zE
   rw[zzag ai];intro m' e K' hT hF;simp only[Yin,if_true];refine⟨iC hm e,aH _ (zzdd ai),?_⟩;refine hb l i m' xs[i] hl (iC hm e) (hI _ _ _ hIm (e.gone l)) (zzaf ai) (PT l K') (fun s' lI=>?_) (fun s' hQ=>?_) fun id s' hQ=>?_
   ·refine hT _ (ih (i+1) _ zE ?_ zd);simpa using lI
   ·refine hF _ fun m3 e3=>?_;have h3:m3.st l=.done .ret:=by have:=e3.2.2 l zd;simpa using this
    simp only[h3];exact hex _ _ (hX _ _ _ hQ (by have:=e3.gone l;simpa using this))
   refine hF _ fun m3 e3=>?_;have h3:m3.st l=.done (.exit id):=by have:=e3.2.2 l zd;simpa using this
   simp only[h3];exact hex _ _ (hX _ _ _ hQ (by have:=e3.gone l;simpa using this))
 have:=key xs.length 0 s.m.bK zd (hI 0 s.m _ h0 ⟨⟨[],by simp[AM.bK]⟩,⟨[],by simp[AM.bK]⟩,fun l' eV=>by
  have:l'≠l:=by rintro rfl;exact eV hl
  simp[AM.bK,dD,uu,this]⟩) (by simp[AM.bK,dD])
 simpa using this
attribute [simp] Qaq
section
variable (l:Nat) (k:AS->Prop) (s:AS) (id:Nat)
@[simp] def aiU:J5 l k .normal s=(s.m.st l=.ready/\k ⟨s.T,s.m.at_ l .busy⟩):=nd rfl
end
open Go Go.RowKit
def look:QQ->Nat->AV
 |[],_=>.junk
 |(d,v)::r,t=>if d=t then v else look r t
def Vw(n:Nat)(E:QQ):P2:=(List.range n).map (look E)
def sB:Nat->P2->QQ
 |_,[]=>[]
 |i,a::r=>(i,a)::sB (i+1) r
@[simp] theorem qT(d:Nat)(v:AV)(r:QQ)(t:Nat):look ((d,v)::r) t=if d=t then v else look r t:=rfl
@[simp] theorem look_nil(t:Nat):look [] t=.junk:=rfl
@[simp] theorem aoy(i:Nat):sB i []=[]:=rfl
@[simp] theorem J7(i:Nat)(a:AV)(r:P2):sB i (a::r)=(i,a)::sB (i+1) r:=rfl
@[simp] def aeb{n t:Nat}{E:QQ}(h:t<n):nth (Vw n E) t=look E t:=by
 simp[nth,Vw,zzax,-Qbt,h]
def Zq{n d:Nat}{E:QQ}(h:d<n)(v:AV):(Vw n E).set d v=Vw n ((d,v)::E):=by
 apply zzex (by simp[Vw]);intro i h1 h2;rw[List.getElem_set];simp[Vw]
@[simp] def avW{n d:Nat}{E:QQ}(h:d<n)(v:AV):put (Vw n E) (some d) v=Vw n ((d,v)::E):=Zq h v
@[simp] theorem asi(T:P2)(v:AV):put T none v=T:=rfl
@[simp] def aoz{n d:Nat}{E:QQ}(h:d<n)(ps:Pa)(x:AV)(xs:P2):Qaq (Vw n E) (d::ps) (x::xs)=Qaq (Vw n ((d,x)::E)) ps xs:=by
 rw[Qaq,Zq h]
def wH:∀(l:P2)(i t:Nat),look (sB i l) t=if i<=t then l.getD (t-i) .junk else .junk
 |[],i,t=>by simp[-Qbt]
 |a::r,i,t=>by
  rw[J7,qT,wH r (i+1) t];by_cases h:i=t
  ·subst h;simp[-Qbt]
  rw[if_neg h];by_cases h':i<=t
  ·rw[if_pos zE,if_pos h',show t-i=(t-(i+1))+1 by omega];simp[-Qbt]
  rw[if_neg zE,if_neg h']
def AQ{n:Nat}{l:P2}(h:l.length<=n):l++List.replicate (n-l.length) .junk=Vw n (sB 0 l):=by
 apply zzex
 ·simp[Vw];omega
 intro i h1 h2;simp only[Vw,List.getElem_map,List.getElem_range,wH,zzbp,if_true,zzer];rw[List.getElem_append];split
 ·rename_i hi;simp[zzax,-Qbt,hi]
 rename_i hi;simp[zzax,-Qbt,hi]
section
variable {P:Program} {gl:Nat->AV} {Y:YT}
def Qp{f:FuncId}{sc:SC}{rs:List aF}{n:Nat}(hc:cZ P f sc rs n)(orc:UV){l:P2}{r:AV}(hn:l.length<=n)
  (h:vc P gl orc Y0 sc ⟨Vw n (sB 0 l),⟨[],[],fun _=>.gone,0⟩⟩ (post P gl orc rs r)):Pure P gl f l r:=ad3 hc orc (by rw[AQ hn];exact h)
def Xn{f:FuncId}{sc:SC}{rs:List aF}{n:Nat}(hc:cZ P f sc rs n)(orc:UV){l:P2}{m:AM}{K:So}(hn:l.length<=n)
  (h:vc P gl orc Y sc ⟨Vw n (sB 0 l),m⟩ (wD P gl orc rs K)):aB P gl Y f l m K:=J6 hc orc (by rw[AQ hn];exact h)
end
def fJ(W:Pa)(E' E:QQ):Prop:=∀t,W.contains t=false->look E' t=look E t
def Qb(W:Pa)(E:QQ):fJ W E E:=fun _ _=>rfl
def Qc{W:Pa}{E' E:QQ}{k:Nat}(v:AV)(hk:W.contains k=true)(h:fJ W E' E):fJ W ((k,v)::E') E:=fun t ht=>by
 rw[qT,if_neg (by rintro rfl;rw[hk]at ht;cases ht)];exact h t ht
def kM(n:Nat)(E:QQ)(W:Pa)(R:(Nat->AV)->AM->Prop)(μ:(Nat->AV)->AM->Nat)(f:Nat->AV)(m:AM)(Q:R0):R0
 |.normal,s'=>(∃E',s'.T=Vw n E'/\fJ W E' E)/\R (nth s'.T) s'.m/\μ (nth s'.T) s'.m<μ f m
 |ex,s'=>Q ex s'
def Qco(f:Nat->AV):Pa->QQ->QQ
 |[],E=>E
 |i::W,E=>(i,f i)::Qco f W E
@[simp] theorem alT(f:Nat->AV)(E:QQ):Qco f [] E=E:=rfl
@[simp] theorem Fv(f:Nat->AV)(i:Nat)(W:Pa)(E:QQ):Qco f (i::W) E=(i,f i)::Qco f W E:=rfl
def jf(f:Nat->AV)(E:QQ)(t:Nat):∀W,look (Qco f W E) t=if W.contains t then f t else look E t
 |[]=>zd
 |i::W=>by
  rw[Fv,qT,jf f E t W];by_cases h:i=t
  ·subst h;simp
  have h':t≠i:=Ne.symm h;simp[h,h']
def CP(f:Nat->AV)(W:Pa)(E:QQ):fJ W (Qco f W E) E:=fun t ht=>by rw[jf,ht];rfl
def aec{n:Nat}{E E':QQ}(h:∀t,t<n->look E t=look E' t):Vw n E=Vw n E':=zzcr fun t ht=>h t (zzaw.1 ht)
def AR{n:Nat}{W:Pa}{E:QQ}{T:P2}:(∃E',T=Vw n E'/\fJ W E' E)<->T=Vw n (Qco (nth T) W E):=by
 constructor
 ·rintro⟨E',rfl,h⟩;refine aec fun t ht=>?_;rw[jf];cases hc:W.contains t with
  |true=>simp only[if_true];rw[aeb ht]
  |false=>simp only[zzbh,if_false];exact h t hc
 exact fun h=>⟨_,h,CP _ _ _⟩
def Qi{P:Program}{gl:Nat->AV}{orc:UV}{Y:YT}{n:Nat}{E:QQ}{m0:AM}{Q:R0}{c:SC}(W:Pa)(R:(Nat->AV)->AM->Prop)(μ:(Nat->AV)->AM->Nat)
  (h0:R (nth (Vw n E)) m0)(hr:∀f m,R f m->vc P gl orc Y c ⟨Vw n (Qco f W E),m⟩ (kM n E W R μ f m Q)):vc P gl orc Y (.loop c) ⟨Vw n E,m0⟩ Q:=by
 refine ad5 P gl orc Y ⟨Vw n E,m0⟩ Q (fun s'=>s'.T=Vw n (Qco (nth s'.T) W E)/\R (nth s'.T) s'.m) (fun s'=>μ (nth s'.T) s'.m) ⟨AR.1 ⟨E,rfl,Qb _ _⟩,h0⟩ ?_;rintro⟨T',m'⟩ ⟨h1,h2⟩;have:=hr _ m' h2;rw[<- h1]at this
 have e:kM n E W R μ (nth T') m' Q=ny (fun s'=>s'.T=Vw n (Qco (nth s'.T) W E)/\R (nth s'.T) s'.m) (fun s'=>μ (nth s'.T) s'.m) ⟨T',m'⟩ Q:=by
  funext ex s';cases ex<;>simp[kM,ny,and_assoc,AR]
 rwa [e]at this
section
variable (n:Nat) (E:QQ) (W:Pa) (R:(Nat->AV)->AM->Prop) (μ:(Nat->AV)->AM->Nat) (f:Nat->AV) (m:AM) (Q:R0) (s:AS) (id:Nat)
@[simp] theorem WC:kM n E W R μ f m Q .normal s=((∃E',s.T=Vw n E'/\fJ W E' E)/\R (nth s.T) s.m/\μ (nth s.T) s.m<μ f m):=rfl
@[simp] theorem aed:kM n E W R μ f m Q (.exit id) s=Q (.exit id) s:=rfl
@[simp] theorem aiV:kM n E W R μ f m Q .ret s=Q .ret s:=rfl
end
def ag{n:Nat}{E' E:QQ}{W:Pa}(h:fJ W E' E):∃E1,Vw n E'=Vw n E1/\fJ W E1 E:=⟨E',rfl,h⟩
def aQ{n:Nat}{E' E:QQ}{W:Pa}(h:fJ W E' E:=by repeat(first|exact Qb _ _|refine Qc _ rfl ?_)):∃E1,Vw n E'=Vw n E1/\fJ W E1 E:=ag h
open Go Go.RowKit
def jg(P:Program):List Field->Nat->Option Nat
 |[],n=>some n
 |f::r,n=>if f.offset=n then jg P r (n+P.cellsOf f.type)else none
def WD(P:Program):Nat->TypeId->Bool
 |0,_=>false
 |d+1,t=>match P.underlying t with
  |some .bool|some (.int _)|some .string=>P.cellsOf t==1
  |some (.slice e)=>((P.cellsOf t==1)&&!(P.cellsOf e==0))&&WD P d e
  |some (.struct fs)=>(jg P fs.toList 0==some (P.cellsOf t))&&fs.toList.all fun f=>WD P d f.type
  |some (.array n e)=>(P.cellsOf t==n*P.cellsOf e)&&WD P d e
  |_=>false
def cD{H:Type}(P:Program):Nat->TypeId->DataW H->P2
 |0,_,_=>[]
 |d+1,t,x=>match P.underlying t,x with
  |some .bool,.lit (.bool b)=>[.bool b]
  |some (.int _),.lit (.int k n)=>[.int k n]
  |some .string,.lit (.string s)=>[.str ⟨s.toArray⟩]
  |some (.slice _),.nil=>[.sl .nil []]
  |some (.slice e),.slice bM _=>[.sl .nn (bM.map (cD P d e))]
  |some (.struct fs),.agg parts=>(fs.toList.zip parts).flatMap fun p=>cD P d p.1.type p.2
  |some (.array _ e),.agg parts=>parts.flatMap (cD P d e)
  |_,_=>[]
def Typed{H:Type}(P:Program):Nat->TypeId->DataW H->Prop
 |0,_,_=>False
 |d+1,t,x=>match P.underlying t,x with
  |some .bool,.lit (.bool _)=>True
  |some (.int k),.lit (.int k' n)=>k'=k/\(Lit.int k n).wf=true
  |some .string,.lit (.string s)=>s.length<=maxLen
  |some (.slice _),.nil=>True
  |some (.slice e),.slice bM _=>bM.length<=maxLen/\∀y∈bM,Typed P d e y
  |some (.struct fs),.agg parts=>parts.length=fs.size/\∀p∈fs.toList.zip parts,Typed P d p.1.type p.2
  |some (.array n e),.agg parts=>parts.length=n/\∀y∈parts,Typed P d e y
  |_,_=>False
def Fw:Nat->Nat->Prop:=fun _ _=>True
section
variable {H:Type} {enc:TypeId×Value->H} {P:Program} {w:World} {base:Nat} {sp:Nat->Bool} {held:Bool}
def J8{a:Addr}{n:Nat}{cs:PQ}(h:w.cells? base a n=some cs):cs.length=n/\∀(j:Nat)(v:Value),cs[j]?=some v->w.cell? (a.add j)=some v:=by
 unfold World.cells? at h;split at h
 ·obtain⟨h1,h2⟩:=Qdg _ _ _ h;refine⟨Nm h1,fun j v hj=>?_⟩
  have ai:j<n:=by
   have:=(zza.1 hj).1;simp at h1;omega
  exact h2 j j v (by simp[ai]) hj
 cases h
def CQ{γ:G}:∀(l:T5)(WE:List (PQ)),l.length=WE.length->(∀(i:Nat)(as':P2)(vs:PQ),l[i]?=some as'->WE[i]?=some vs->ak w γ as' vs)->ak w γ l.flatten WE.flatten
 |[],[],_,_=>ak.nil
 |[],_::_,h,_=>by simp at h
 |_::_,[],h,_=>by simp at h
 |as'::l,vs::WE,h,hr=>by
  rw[zzcj,zzcj];exact(hr 0 as' vs rfl rfl).append (CQ l WE (Nm h) fun i as' vs h1 h2=>hr (i+1) as' vs (Nm h1) (Nm h2))
def sC{cs:PQ}:∀(fs:List Field)(n m:Nat),jg P fs n=some m->m=cs.length->n<=cs.length->(fs.map fun f=>(cs.drop f.offset).take (P.cellsOf f.type)).flatten=cs.drop n
 |[],n,m,h,hm,hn=>by simp[jg]at h;subst h;subst hm;simp
 |f::fs,n,m,h,hm,hn=>by
  simp only[jg]at h;split at h
  ·rename_i ho;subst ho
   have cn:∀(fs:List Field)(n m:Nat),jg P fs n=some m->n<=m:=by
    intro fs;induction fs with
    |nil=>intro n m h;simp[jg]at h;omega
    |cons f fs ih=>
     intro n m h;simp only[jg]at h;split at h
     ·have:=ih _ _ h;omega
     cases h
   have h1:=cn _ _ _ h;have ih:=sC fs _ m h hm zE;rw[zzbb,zzcj,ih];rw[<- zze,zzdo]
  cases h
def J9{cs:PQ}{k:Nat}:∀(n:Nat),cs.length=n*k->((List.range n).map fun i=>(cs.drop (i*k)).take k).flatten=cs:=by
 intro n hn
 have key:∀m,m<=n->((List.range m).map fun i=>(cs.drop (i*k)).take k).flatten=cs.take (m*k):=by
  intro m;induction m with
  |zero=>simp
  |succ m ih=>
   intro hm;rw[zzfc,zzci,zzek,ih zE];simp only[zzbb,zzcs,zzcj,List.flatten_nil,zzau];rw[zzbq,zzdt,List.take_add]
 rw[key n (zzab _),<- hn,zzbz]
def trod_bool{t:TypeId}{aT:Nat}{cs:PQ}{x:DataW H}{ps:List MemPlace}(hu:P.underlying t=some .bool)(h:DataW.trod enc P w base sp held (aT+1) t cs=some (x,ps)):∃b,cs=[.bool b]/\x=.lit (.bool b):=by
 unfold DataW.trod at h;rw[hu]at h;obtain _|⟨v,_|⟨_,_⟩⟩:=cs
 ·cases h
 ·cases v<;>first|(cases h;done)|(cases h;exact⟨_,rfl,rfl⟩)
 cases v<;>first|(cases h;done)|(simp at h;done)
def trod_int{t:TypeId}{k:IntKind}{aT:Nat}{cs:PQ}{x:DataW H}{ps:List MemPlace}(hu:P.underlying t=some (.int k))(h:DataW.trod enc P w base sp held (aT+1) t cs=some (x,ps)):∃n,cs=[.int k n]/\x=.lit (.int k n)/\(Lit.int k n).wf=true:=by
 unfold DataW.trod at h;rw[hu]at h;obtain _|⟨v,_|⟨_,_⟩⟩:=cs
 ·cases h
 ·cases v<;>first|(cases h;done)|skip
  simp only at h;split at h
  ·rename_i hk;cases h;rw[hk.1];exact⟨_,rfl,rfl,hk.2⟩
  cases h
 cases v<;>first|(cases h;done)|(simp at h;done)
def WG{t:TypeId}{aT:Nat}{cs:PQ}{x:DataW H}{ps:List MemPlace}(hu:P.underlying t=some .string)(h:DataW.trod enc P w base sp held (aT+1) t cs=some (x,ps)):∃s,cs=[.string s]/\x=.lit (.string s.data.toList)/\s.size<=maxLen:=by
 unfold DataW.trod at h;rw[hu]at h;obtain _|⟨v,_|⟨_,_⟩⟩:=cs
 ·cases h
 ·cases v<;>first|(cases h;done)|skip
  simp only at h;split at h
  ·rename_i hk;cases h;exact⟨_,rfl,rfl,hk⟩
  cases h
 cases v<;>first|(cases h;done)|(simp at h;done)
def aee{t e:TypeId}{aT:Nat}{cs:PQ}{x:DataW H}{ps:List MemPlace}(hu:P.underlying t=some (.slice e))(h:DataW.trod enc P w base sp held (aT+1) t cs=some (x,ps)):
  (
   cs=[.slice none 0 0]/\x=.nil)\/∃a len cap bM rest,cs=[.slice (some a) len cap]/\len<=cap/\cap<=maxLen/\x=.slice (bM.map (·.1)) rest/\
   (List.range len).mapM (fun i=>(w.cells? base (a.add (i*P.cellsOf e)) (P.cellsOf e)).bind (DataW.trod enc P w base sp held aT e))=some bM:=by
 unfold DataW.trod at h;rw[hu]at h;obtain _|⟨v,_|⟨_,_⟩⟩:=cs
 ·cases h
 ·cases v<;>first|(cases h;done)|skip
  rename_i a len cap;cases a with
  |none=>cases len<;>cases cap<;>first|(cases h;done)|(cases h;exact .inl ⟨rfl,rfl⟩)
  |some a=>
   simp only at h;split at h
   case isFalse=>cases h
   rename_i hc;cases hm:(List.range len).mapM (fun i=>(w.cells? base (a.add (i*P.cellsOf e)) (P.cellsOf e)).bind (DataW.trod enc P w base sp held aT e))with
   |none=>rw[hm]at h;cases h
   |some bM=>
    rw[hm]at h;simp only[zzcv,zzcb]at h;obtain⟨rest,_,h2⟩:=h;cases h2;exact .inr ⟨a,len,cap,bM,_,rfl,hc.2.1,hc.2.2,rfl,hm⟩
 cases v<;>first|(cases h;done)|skip
 rename_i a len cap;cases a with
 |none=>cases len<;>cases cap<;>first|(cases h;done)|(simp at h;done)
 |some a=>first|(cases h;done)|(simp at h;done)
def trod_struct{t:TypeId}{fs:Array Field}{aT:Nat}{cs:PQ}{x:DataW H}{ps:List MemPlace}(hu:P.underlying t=some (.struct fs))(h:DataW.trod enc P w base sp held (aT+1) t cs=some (x,ps)):
  cs.length=P.cellsOf t/\∃xs,x=.agg (xs.map (·.1))/\fs.toList.mapM (fun f=>DataW.trod enc P w base sp held aT f.type ((cs.drop f.offset).take (P.cellsOf f.type)))=some xs:=by
 unfold DataW.trod at h;rw[hu]at h;simp only at h;split at h
 case isFalse=>cases h
 rename_i hc;simp only[zzcb]at h;obtain⟨xs,h1,h2⟩:=h;cases h2;exact⟨hc,xs,rfl,h1⟩
def trod_array{t e:TypeId}{n:Nat}{aT:Nat}{cs:PQ}{x:DataW H}{ps:List MemPlace}(hu:P.underlying t=some (.array n e))(h:DataW.trod enc P w base sp held (aT+1) t cs=some (x,ps)):
  cs.length=P.cellsOf t/\∃xs,x=.agg (xs.map (·.1))/\(List.range n).mapM (fun i=>DataW.trod enc P w base sp held aT e ((cs.drop (i*P.cellsOf e)).take (P.cellsOf e)))=some xs:=by
 unfold DataW.trod at h;rw[hu]at h;simp only at h;split at h
 case isFalse=>cases h
 rename_i hc;simp only[zzcb]at h;obtain⟨xs,h1,h2⟩:=h;cases h2;exact⟨hc,xs,rfl,h1⟩
def jh:∀(d aT:Nat)(t:TypeId)(cs:PQ)(x:DataW H)(ps:List MemPlace),DataW.trod enc P w base sp held aT t cs=some (x,ps)->WD P d t=true->
  Typed P d t x/\ak w (G0 Fw) (cD P d t x) cs/\(cD P d t x).all Qx=true/\cs.length=P.cellsOf t
 |0,_,_,_,_,_,_,h=>by cases h
 |d+1,0,_,_,_,_,h,_=>by cases h
 |d+1,aT+1,t,cs,x,ps,h,bU=>by
  unfold WD at bU;cases hu:P.underlying t with
  |none=>simp[hu]at bU
  |some desc=>
   rw[hu]at bU;cases desc with
   |bool=>
    obtain⟨b,rfl,rfl⟩:=trod_bool hu h;exact⟨by simp[Typed,hu],by simp only[cD,hu];exact ak.cons (.bool b) ak.nil,by simp[cD,hu,Qx],(eq_of_beq bU).symm⟩
   |int k=>
    obtain⟨n,rfl,rfl,hw⟩:=trod_int hu h;exact⟨by simp[Typed,hu,hw],by simp only[cD,hu];exact ak.cons (.int k n) ak.nil,by simp[cD,hu,Qx],(eq_of_beq bU).symm⟩
   |string=>
    obtain⟨s,rfl,rfl,hw⟩:=WG hu h;refine⟨by simpa[Typed,hu]using hw,?_,by simp[cD,hu,Qx],(eq_of_beq bU).symm⟩;simp only[cD,hu];have:(⟨s.data.toList.toArray⟩:ByteArray)=s:=by cases s;simp
    rw[this];exact ak.cons (.str s) ak.nil
   |slice e=>
    simp only[zzac]at bU;rcases aee hu h with⟨rfl,rfl⟩|⟨a,len,cap,bM,rest,rfl,hlc,hcm,rfl,hm⟩
    ·exact⟨by simp[Typed,hu],by simp only[cD,hu];exact ak.cons Ck ak.nil,by simp[cD,hu,Qx],(eq_of_beq bU.1.1).symm⟩
    obtain⟨hl,hg⟩:=Qdg _ _ _ hm;have eV:bM.length=len:=by simpa using hl
    have PZ:∀(i:Nat)(y:DataW H×List MemPlace),bM[i]?=some y->∃ec,ec.length=P.cellsOf e/\(∀(j:Nat)(v:Value),ec[j]?=some v->w.cell? ((a.add (i*P.cellsOf e)).add j)=some v)/\Typed P d e y.1/\ak w (G0 Fw) (cD P d e y.1) ec/\(cD P d e y.1).all Qx=true:=fun i y hy=>by
     have hi:i<len:=by rw[<- eV];exact(zza.1 hy).1
     have:=hg i i y (by simp[hi]) hy;cases hc:w.cells? base (a.add (i*P.cellsOf e)) (P.cellsOf e)with
     |none=>rw[hc]at this;cases this
     |some ec=>
      rw[hc]at this;obtain⟨y1,y2⟩:=y;obtain⟨g1,g2,g3,g4⟩:=jh d aT e ec y1 y2 this bU.2;obtain⟨c1,c2⟩:=J8 hc;exact⟨ec,c1,c2,g1,g2,g3⟩
    refine⟨?_,?_,by simp[cD,hu,Qx],(eq_of_beq bU.1.1).symm⟩
    ·simp only[Typed,hu];refine⟨by simp;omega,fun y hy=>?_⟩;simp only[zzar]at hy;obtain⟨p,hp,rfl⟩:=hy;obtain⟨i,hi⟩:=zzcq.1 hp;obtain⟨ec,_,_,g1,_⟩:=PZ i p hi;exact g1
    simp only[cD,hu];refine ak.cons ?_ ak.nil;have ee:((bM.map (·.1)).map (cD P d e)).length=len:=by simp[eV]
    have hz:P.cellsOf e≠0:=by simpa using bU.1.2
    have WH:((bM.map (·.1)).map (cD P d e))≠[]->a=⟨a.block,a.off,none⟩/\a.block<w.heap.size:=fun hn=>by
     cases helems:bM with
     |nil=>simp[helems]at hn
     |cons y ys=>
      obtain⟨ec,c1,c2,_,g2,_⟩:=PZ 0 y (by simp[helems]);cases hec:ec with
      |nil=>rw[hec]at c1;exact absurd c1.symm hz
      |cons v vs=>
       have:=c2 0 v (by simp[hec]);simp only[zzhi,Addr.add,if_true]at this;unfold World.cell? at this;split at this
       ·rename_i hb;split at this
        ·cases this
        rename_i hs;refine⟨?_,aR hb⟩;cases a;simp at hs;simp[hs]
       cases this
    have ow:∀(i j:Nat)(c:AV),Qv ((bM.map (·.1)).map (cD P d e)) i j=some c->∃v,w.cell? ⟨a.block,a.off+i*P.cellsOf e+j,none⟩=some v/\aA w (G0 Fw) c v/\Qx c=true:=fun i j c hc=>by
     have aO:((bM.map (·.1)).map (cD P d e))≠[]:=by rintro h0;rw[h0]at hc;simp[Qv]at hc
     obtain⟨ha,_⟩:=WH aO;unfold Qv at hc;cases hy:bM[i]? with
     |none=>simp[hy]at hc
     |some y=>
      simp[hy]at hc;obtain⟨ec,c1,c2,_,g2,g3⟩:=PZ i y hy;have hj:j<ec.length:=by rw[<- g2.1];exact(zza.1 hc).1
      have hv:ec[j]?=some ec[j]:=zzaf hj;refine⟨ec[j],?_,g2.2 j c _ hc hv,zzay.1 g3 c (zzad hc)⟩;have:=c2 j _ hv;rw[ha,bn,bn]at this;exact this
    have:=aA.sl (w:=w) (γ:=G0 Fw) (rt:=.nn) (rows:=(bM.map (·.1)).map (cD P d e)) (a:=some a) (cap:=cap) a.block a.off (P.cellsOf e) (fun i j=>(w.cell? ⟨a.block,a.off+i*P.cellsOf e+j,none⟩).getD undef)
     (by rw[ee];exact hlc) (fun h=>by cases h) (fun hn=>⟨by rw[<- (WH hn).1],(WH hn).2⟩) (fun row ah=>?_) (fun i j c hc=>?_) (fun i j c hc=>?_) (by simp[qE])
    ·rwa [ee]at this
    ·simp only[zzcu,zzar]at ah;obtain⟨p,hp,rfl⟩:=ah;obtain⟨i,hi⟩:=zzcq.1 hp;obtain⟨ec',c1',_,_,g2',_⟩:=PZ i p hi;have:=g2'.1;simp only[Function.comp];omega
    ·obtain⟨v,h1,h2,h3⟩:=ow i j c hc;rw[h1];exact⟨rfl,trivial,ug h2 h3⟩
    obtain⟨v,h1,h2,h3⟩:=ow i j c hc;rw[h1];exact h2
   |struct fs=>
    simp only[zzac,zzay]at bU;obtain⟨aH,xs,rfl,hm⟩:=trod_struct hu h;obtain⟨hl,hg⟩:=Qdg _ _ _ hm
    have PZ:∀(i:Nat)(f:Field)(y:DataW H×List MemPlace),fs.toList[i]?=some f->xs[i]?=some y->Typed P d f.type y.1/\ak w (G0 Fw) (cD P d f.type y.1) ((cs.drop f.offset).take (P.cellsOf f.type))/\(cD P d f.type y.1).all Qx=true:=fun i f y hf hy=>by
     obtain⟨y1,y2⟩:=y;obtain⟨g1,g2,g3,_⟩:=jh d aT f.type _ y1 y2 (hg i f (y1,y2) hf hy) (bU.2 f (zzad hf));exact⟨g1,g2,g3⟩
    have asj:∀p∈fs.toList.zip (xs.map (·.1)),∃(i:Nat)(f:Field)(y:DataW H×List MemPlace),fs.toList[i]?=some f/\xs[i]?=some y/\p=(f,y.1):=fun p hp=>by
     obtain⟨i,hi⟩:=zzcq.1 hp;rw[zzgn]at hi;obtain⟨h1,h2⟩:=hi;simp only[zzbm,zzcb]at h2;obtain⟨y,h2,h3⟩:=h2;exact⟨i,p.1,y,h1,h2,by rw[h3]⟩
    refine⟨?_,?_,?_,aH⟩
    ·simp only[Typed,hu];refine⟨Nm hl,fun p hp=>?_⟩;obtain⟨i,f,y,h1,h2,rfl⟩:=asj p hp;exact(PZ i f y h1 h2).1
    ·simp only[cD,hu];have aef:=sC (P:=P) (cs:=cs) fs.toList 0 (P.cellsOf t) (eq_of_beq bU.1) aH.symm (zzbp _);rw[zzd]at aef
     have:ak w (G0 Fw) ((fs.toList.zip (xs.map (·.1))).map fun p=>cD P d p.1.type p.2).flatten (fs.toList.map fun f=>(cs.drop f.offset).take (P.cellsOf f.type)).flatten:=by
      refine CQ _ _ (by simp at hl |-;omega) fun i as' vs h1 h2=>?_;simp only[zzbm,zzcb]at h1 h2;obtain⟨p,hp,rfl⟩:=h1;obtain⟨f,hf,rfl⟩:=h2;rw[zzgn]at hp;obtain⟨q1,q2⟩:=hp;rw[hf]at q1;simp only[zzbm,zzcb]at q2;obtain⟨y,hy,q2⟩:=q2;rw[<- Option.some.inj q1,<- q2];exact(PZ i f y hf hy).2.1
     rw[aef]at this;rwa [List.flatMap_def]
    simp only[cD,hu,zzay,List.mem_flatMap];rintro v ⟨p,hp,hv⟩;obtain⟨i,f,y,h1,h2,rfl⟩:=asj p hp;exact zzay.1 (PZ i f y h1 h2).2.2 v hv
   |array n e=>
    simp only[zzac]at bU;obtain⟨aH,xs,rfl,hm⟩:=trod_array hu h;obtain⟨hl,hg⟩:=Qdg _ _ _ hm;have eV:xs.length=n:=by simpa using hl
    have PZ:∀(i:Nat)(y:DataW H×List MemPlace),xs[i]?=some y->Typed P d e y.1/\ak w (G0 Fw) (cD P d e y.1) ((cs.drop (i*P.cellsOf e)).take (P.cellsOf e))/\(cD P d e y.1).all Qx=true:=fun i y hy=>by
     have hi:i<n:=by rw[<- eV];exact(zza.1 hy).1
     obtain⟨y1,y2⟩:=y;obtain⟨g1,g2,g3,_⟩:=jh d aT e _ y1 y2 (hg i i (y1,y2) (by simp[hi]) hy) bU.2;exact⟨g1,g2,g3⟩
    refine⟨?_,?_,?_,aH⟩
    ·simp only[Typed,hu];refine⟨Nm eV,fun y hy=>?_⟩;simp only[zzar]at hy;obtain⟨p,hp,rfl⟩:=hy;obtain⟨i,hi⟩:=zzcq.1 hp;exact(PZ i p hi).1
    ·simp only[cD,hu];have aef:=J9 (cs:=cs) (k:=P.cellsOf e) n (by rw[aH];exact eq_of_beq bU.1)
     have:ak w (G0 Fw) ((xs.map (·.1)).map (cD P d e)).flatten ((List.range n).map fun i=>(cs.drop (i*P.cellsOf e)).take (P.cellsOf e)).flatten:=by
      refine CQ _ _ (by simp[eV]) fun i as' vs h1 h2=>?_;simp only[zzcu,zzbm,zzcb]at h1 h2;obtain⟨y,hy,rfl⟩:=h1;obtain⟨j,hj,rfl⟩:=h2;have hi:i<n:=by rw[<- eV];exact(zza.1 hy).1
      simp[hi]at hj;subst hj;exact(PZ i y hy).2.1
     rw[aef]at this;rwa [List.flatMap_def]
    simp only[cD,hu,zzay,List.mem_flatMap,zzar];rintro v ⟨y,⟨p,hp,rfl⟩,hv⟩;obtain⟨i,hi⟩:=zzcq.1 hp;exact zzay.1 (PZ i p hi).2.2 v hv
   |_=>simp at bU
def oZ(P:Program)(d:Nat)(t:TypeId)(x:DataW H):AV:=if Kj P t then .agg (cD P d t x)else(cD P d t x).headD .junk
def aeg{r:Reach}{b0:Nat}{t:TypeId}{v:Value}(cB:Value.okWide P w r b0 t v)(ha:Kj P t=false)(bU:∃d,WD P d t=true):v.cells.toList=[v]:=by
 unfold Value.okWide at cB;unfold Kj at ha;obtain⟨d,bU⟩:=bU;cases d with
 |zero=>cases bU
 |succ d=>
  unfold WD at bU;cases hu:P.underlying t with
  |none=>simp[hu]at bU
  |some desc=>
   rw[hu]at cB ha bU;cases desc<;>simp at ha bU cB
   all_goals
    unfold Cell.okWide at cB;rw[hu]at cB;cases v<;>first|rfl|(simp[Cell.ok,hu]at cB)
def aeh{d:Nat}{r:Reach}{b0:Nat}{t:TypeId}{v:Value}{x:DataW H}{ps:List MemPlace}(bU:WD P d t=true)(cB:Value.okWide P w r b0 t v)(h:DataW.Trod enc P w base sp held t v x ps):
  Typed P d t x/\aA w (G0 Fw) (oZ P d t x) v:=by
 obtain⟨aT,h⟩:=h;obtain⟨h1,h2,h3,h4⟩:=jh d aT t _ x ps h bU;refine⟨h1,?_⟩;unfold oZ;cases ha:Kj P t with
 |true=>
  simp only[if_true];unfold Value.okWide at cB;unfold Kj at ha;split at ha
  ·rename_i hu;rw[hu]at cB;obtain⟨cs,rfl,_⟩:=cB;exact ak.Pe h2
  ·rename_i hu;rw[hu]at cB;obtain⟨cs,rfl,_⟩:=cB;exact ak.Pe h2
  cases ha
 |false=>
  simp only[zzbh,if_false];rw[aeg cB ha ⟨d,bU⟩]at h2;cases hl:cD P d t x with
  |nil=>rw[hl]at h2;have:=h2.1;simp at this
  |cons a l=>rw[hl]at h2;exact h2.2 0 a v rfl rfl
def o6(P:Program)(d:Nat):List TypeId->List (DataW H)->Prop
 |[],[]=>True
 |t::ts,x::xs=>Typed P d t x/\o6 P d ts xs
 |_,_=>False
def CR(P:Program)(d:Nat):List TypeId->List (DataW H)->P2
 |t::ts,x::xs=>oZ P d t x::CR P d ts xs
 |_,_=>[]
def Fx{d:Nat}{r:Reach}{b0:Nat}:∀{ts:List TypeId}{vs:PQ}{xs:List (DataW H)}{ps:List MemPlace},(∀t∈ts,WD P d t=true)->(∀(j:Nat)(t:TypeId)(v:Value),ts[j]?=some t->vs[j]?=some v->Value.okWide P w r b0 t v)->
  DataW.TrodAll enc P w base sp held ts vs xs ps->o6 P d ts xs/\ak w (G0 Fw) (CR P d ts xs) vs
 |[],[],[],_,_,_,_=>⟨trivial,ak.nil⟩
 |[],_::_,_,_,_,_,h=>by cases h
 |[],[],_::_,_,_,_,h=>by cases h
 |_::_,[],_,_,_,_,h=>by cases h
 |_::_,_::_,[],_,_,_,h=>by cases h
 |t::ts,v::vs,x::xs,ps,bU,cB,h=>by
  obtain⟨p,q,h1,h2,_⟩:=h;obtain⟨g1,g2⟩:=aeh (bU t zd) (cB 0 t v rfl rfl) h1;obtain⟨k1,k2⟩:=Fx (fun t ht=>bU t (by simp[ht])) (fun j t v h1 h2=>cB (j+1) t v (Nm h1) (Nm h2)) h2;exact⟨⟨g1,k1⟩,ak.cons g2 k2⟩
def mw{W W':World}(hl:laidOutB P=true)(hb:Below W.heap.size W W'){sp':Nat->Bool}:∀{ts:List TypeId}{vs:PQ}{xs:List (DataW H)}{ps:List MemPlace},(∀t∈ts,P.readableRec t=true/\t<P.types.size)->
  DataW.TrodAll enc P W 0 (fun _=>true) true ts vs xs ps->(∀p∈ps,p.block<W.heap.size/\sp' p.block=true)->DataW.TrodAll enc P W' 0 sp' true ts vs xs ps
 |[],[],[],_,_,h,_=>h
 |[],_::_,_,_,_,h,_=>by cases h
 |[],[],_::_,_,_,h,_=>by cases h
 |_::_,[],_,_,_,h,_=>by cases h
 |_::_,_::_,[],_,_,h,_=>by cases h
 |t::ts,v::vs,x::xs,ps,hr,h,hp=>by
  obtain⟨p,q,h1,h2,rfl⟩:=h;refine⟨p,q,WideElems.Trod_stays hl (hr t zd).1 (hr t zd).2 h1 (fun y hy=>hb.same (hp y (by simp[hy])).1) (fun y hy=>(hp y (by simp[hy])).2),mw hl hb (fun t ht=>hr t (by simp[ht])) h2 fun y hy=>hp y (by simp[hy]),rfl⟩
def CS{gl:Nat->AV}{fid:FuncId}{fn:Func}{s:ChangeSpec}{bt:TypeId}{d:Nat}(aiW:s.vars=[])(alU:fn.resultTypes=#[bt])(hbt:P.underlying bt=some .bool)(hl:laidOutB P=true)
  (hts:(fn.params.toList.all fun t=>WD P d t&&P.readableRec t&&decide (t<P.types.size))=true)(asl:∀ds:List (DataW H),ds.length=fn.params.size->(s.fn H ds).results=[.lit (.bool true)]/\(s.fn H ds).args=ds/\(s.fn H ds).vars=[])
  {W:World}{args:P1}{ds gs:List (DataW H)}{before:List MemPlace}{r:Reach}{b0:Nat}(lE:∀g,aA W (G0 Fw) (gl g) (.pointer (some ⟨g,0,none⟩)))
  (cB:∀(j:Nat)(t:TypeId)(v:Value),fn.params[j]?=some t->args[j]?=some v->Value.okWide P W r b0 t v)
  (hW:DataW.Whole enc P fn.params.toList s.vars false W args.toList ds gs before)
  (hp:o6 P d fn.params.toList ds->Pure P gl fid (CR P d fn.params.toList ds) (.bool true)):
  Calls P fid args W fun e W'=>∃v,e=.returned v/\s.post enc P fn false true false false W args v W':=by
 have hW':=hW;obtain⟨p,q,hA,hV,rfl,hfz,ng⟩:=hW;rw[aiW]at hV;obtain⟨rfl,rfl⟩:=ChangeShapes.trodVars_none hV;simp only[zzay,zzac,decide_eq_true_eq]at hts;obtain⟨h1,h2⟩:=Fx (fun t ht=>(hts t ht).1.1) (fun j t v q1 q2=>cB j t v (Nm q1) (Nm q2)) hA
 have aH:ds.length=fn.params.size:=by
  have:∀{ts:List TypeId}{vs:PQ}{xs:List (DataW H)}{ps:List MemPlace},DataW.TrodAll enc P W 0 (fun _=>true) true ts vs xs ps->xs.length=ts.length:=by
   intro ts;induction ts with
   |nil=>intro vs xs ps h;cases vs<;>cases xs<;>first|rfl|cases h
   |cons t ts ih=>
    intro vs xs ps h;cases vs<;>cases xs<;>first|(cases h;done)|skip
    obtain⟨_,_,_,h,_⟩:=h;simp[ih h]
  simpa using this hA
 obtain⟨k1,k2,k3⟩:=asl ds aH;have ai:∀x∈p,x.block<W.heap.size:=fun x hx=>hW'.lt x (by simp[hx]);refine((hp h1).2 Fw W args.toList lE h2).mono ?_;rintro e W' ⟨v,rfl,hb,hr⟩;obtain rfl:=hr.bu;refine⟨_,rfl,ds,[],p++[],[],p,[],hW',?_,?_,?_,World.keptBut_mono (fun x hx=>⟨hx,?_⟩) (hb.frame (·∈p++[])),fun h=>by cases h⟩
 ·rw[alU,zzau,k1];exact⟨[],[],shut_bool hbt true,rfl,rfl⟩
 ·rw[zzau,k2];exact mw hl hb (fun t ht=>⟨(hts t ht).1.2,(hts t ht).2⟩) hA fun x hx=>⟨ai x hx,by simpa using ai x hx⟩
 ·rw[aiW,zzau,k3];rfl
 simp at hx;exact .inr (.inl hx)
end
open Go
section
variable (P:Program) (gl:Nat->AV) (orc:UV) (Y:YT) (l2:List SO) (K:AS->Prop) (m:AM) (ms q:QP) (mc:AM) (r:List SO) (fl:List Fg) (T:P2) (o:SO) (x:AV×AM)
@[simp] def alV(d:Option Nat)(op:aF)(xs:List bE):Zx T ⟨d,op,none,xs⟩=True:=nd rfl
@[simp] def alW(d:Option Nat)(op:aF)(t:Nat)(b:Bool)(xs:List bE):Zx T ⟨d,op,some (some t,b),xs⟩=(T.getD t .junk=.bool b):=nd rfl
@[simp] def avX:nq P gl orc Y l2 K m ms [] fl q mc T=(q=[]/\Zo P gl orc Y l2 ⟨T,mc⟩ K):=nd (by simp only[nq])
@[simp] def asm:nq P gl orc Y l2 K m ms (o::r) (.eff::fl) (x::q) mc T=(Zx T o/\effC P gl orc Y (ev gl T) mc o.dst x.1 x.2 o.op/\nq P gl orc Y l2 K m ms r fl q x.2 (put T o.dst x.1)):=nd (by simp only[nq])
@[simp] def avY:nq P gl orc Y l2 K m ms (o::r) (.pre::fl) q mc T=(Zx T o/\(rop P gl orc (ev gl T) m o.dst o.op).1/\nq P gl orc Y l2 K m ms r fl q mc (put T o.dst (rop P gl orc (ev gl T) m o.dst o.op).2)):=nd (by simp only[nq])
@[simp] def aoA:nq P gl orc Y l2 K m ms (o::r) (.oth::fl) q mc T=(Zx T o/\(rop P gl orc (ev gl T) m o.dst o.op).1/\(∀x∈ms,rop P gl orc (ev gl T) x.2 o.dst o.op=rop P gl orc (ev gl T) m o.dst o.op)/\nq P gl orc Y l2 K m ms r fl q mc (put T o.dst (rop P gl orc (ev gl T) m o.dst o.op).2)):=nd (by simp only[nq])
def Qbm{P:Program}{gl:Nat->AV}{orc:UV}{Y:YT}{fl:List Fg}{l l2:List SO}{s:AS}{Q:R0}(ms:QP)(h:nq P gl orc Y l2 (Q .normal) s.m ms l fl ms s.m s.T):vc P gl orc Y (.drawE fl l l2) s Q:=.inr (.inl ⟨ms,h⟩)
@[simp] def avZ:gW P gl orc Y l2 K m ms [] fl q mc T=(q=[]/\Zo P gl orc Y l2 ⟨T,mc⟩ K):=nd (by simp only[gW])
@[simp] def asn:gW P gl orc Y l2 K m ms (o::r) (.eff::fl) (x::q) mc T=(Zx T o/\effC P gl orc Y (ev gl T) mc o.dst x.1 x.2 o.op/\gW P gl orc Y l2 K m ms r fl q x.2 (put T o.dst x.1)):=nd (by simp only[gW])
@[simp] def av0:gW P gl orc Y l2 K m ms (o::r) (.pre::fl) q mc T=(Zx T o/\(rop P gl orc (ev gl T) m o.dst o.op).1/\gW P gl orc Y l2 K m ms r fl q mc (put T o.dst (rop P gl orc (ev gl T) m o.dst o.op).2)):=nd (by simp only[gW])
@[simp] def av1:gW P gl orc Y l2 K m ms (o::r) (.oth::fl) q mc T=(Zx T o/\(((rop P gl orc (ev gl T) m o.dst o.op).1/\∀x∈ms,rop P gl orc (ev gl T) x.2 o.dst o.op=rop P gl orc (ev gl T) m o.dst o.op)\/(rdC P gl orc Y (ev gl T) m o.dst m o.op/\∀x∈ms,rdC P gl orc Y (ev gl T) m o.dst x.2 o.op))/\gW P gl orc Y l2 K m ms r fl q mc (put T o.dst (rop P gl orc (ev gl T) m o.dst o.op).2)):=nd (by simp only[gW,ard])
variable (R:So)
@[simp] def av2:iD P gl orc Y R l2 K m ms [] fl q mc T=(q=[]/\Zo P gl orc Y l2 ⟨T,mc⟩ K):=nd (by simp only[iD])
@[simp] def aso:iD P gl orc Y R l2 K m ms (o::r) (.eff::fl) [x] mc T=(Zx T o/\effR P gl Y (ev gl T) mc R o.op/\iD P gl orc Y R l2 K m ms r fl [] x.2 (put T o.dst x.1)):=nd (by simp only[iD];simp)
@[simp] def asp(y:AV×AM):iD P gl orc Y R l2 K m ms (o::r) (.eff::fl) (x::y::q) mc T=(Zx T o/\effC P gl orc Y (ev gl T) mc o.dst x.1 x.2 o.op/\iD P gl orc Y R l2 K m ms r fl (y::q) x.2 (put T o.dst x.1)):=nd (by simp only[iD];simp)
@[simp] def av3:iD P gl orc Y R l2 K m ms (o::r) (.pre::fl) q mc T=(Zx T o/\(rop P gl orc (ev gl T) m o.dst o.op).1/\iD P gl orc Y R l2 K m ms r fl q mc (put T o.dst (rop P gl orc (ev gl T) m o.dst o.op).2)):=nd (by simp only[iD])
@[simp] def aoB:iD P gl orc Y R l2 K m ms (o::r) (.oth::fl) q mc T=(Zx T o/\(rop P gl orc (ev gl T) m o.dst o.op).1/\(∀x∈ms,rop P gl orc (ev gl T) x.2 o.dst o.op=rop P gl orc (ev gl T) m o.dst o.op)/\iD P gl orc Y R l2 K m ms r fl q mc (put T o.dst (rop P gl orc (ev gl T) m o.dst o.op).2)):=nd (by simp only[iD])
@[simp] def aoC:Zl P gl orc m [] fl q T=[]:=nd (by simp only[Zl])
@[simp] def aoD:Zl P gl orc m (o::r) (.eff::fl) (x::q) T=Zl P gl orc m r fl q (put T o.dst x.1):=nd (by simp only[Zl])
@[simp] def alX:Zl P gl orc m (o::r) (.pre::fl) [] T=(rop P gl orc (ev gl T) m o.dst o.op).2::Zl P gl orc m r fl [] (put T o.dst (rop P gl orc (ev gl T) m o.dst o.op).2):=nd (by simp only[Zl])
@[simp] def aoE:Zl P gl orc m (o::r) (.pre::fl) (x::q) T=Zl P gl orc m r fl (x::q) (put T o.dst (rop P gl orc (ev gl T) m o.dst o.op).2):=nd (by simp only[Zl])
@[simp] def alY:Zl P gl orc m (o::r) (.oth::fl) [] T=(rop P gl orc (ev gl T) m o.dst o.op).2::Zl P gl orc m r fl [] (put T o.dst (rop P gl orc (ev gl T) m o.dst o.op).2):=nd (by simp only[Zl])
@[simp] def aoF:Zl P gl orc m (o::r) (.oth::fl) (x::q) T=Zl P gl orc m r fl (x::q) (put T o.dst (rop P gl orc (ev gl T) m o.dst o.op).2):=nd (by simp only[Zl])
def WI{P:Program}{gl:Nat->AV}{orc:UV}{Y:YT}{fl:List Fg}{l l2:List SO}{s:AS}{Q:R0}(hb:adX fl l=true)(ms:QP)(R:So)(hR:∃x:AV×AM,R x.1 x.2)
  (h:∀v m',R v m'->iD P gl orc Y R l2 (Q .normal) s.m (ms++[(v,m')]) l fl (ms++[(v,m')]) s.m s.T):vc P gl orc Y (.drawE fl l l2) s Q:=.inr (.inr (.inl ⟨hb,ms,R,hR,fun x hx=>h x.1 x.2 hx⟩))
def lK(P:Program)(gl:Nat->AV)(orc:UV)(m:AM):List SO->List Fg->AM->P2->QP
 |o::r,.eff::fl,mc,T=>(effV (sop P gl orc (ev gl T) mc o.dst o.op).2.1 o.op,(sop P gl orc (ev gl T) mc o.dst o.op).2.2)::lK P gl orc m r fl (sop P gl orc (ev gl T) mc o.dst o.op).2.2 (put T o.dst (effV (sop P gl orc (ev gl T) mc o.dst o.op).2.1 o.op))
 |o::r,.pre::fl,mc,T=>lK P gl orc m r fl mc (put T o.dst (rop P gl orc (ev gl T) m o.dst o.op).2)
 |o::r,.oth::fl,mc,T=>lK P gl orc m r fl mc (put T o.dst (rop P gl orc (ev gl T) m o.dst o.op).2)
 |_,_,_,_=>[]
@[simp] def asq:lK P gl orc m [] fl mc T=[]:=nd (by simp only[lK])
@[simp] def aoG:lK P gl orc m (o::r) (.eff::fl) mc T=(effV (sop P gl orc (ev gl T) mc o.dst o.op).2.1 o.op,(sop P gl orc (ev gl T) mc o.dst o.op).2.2)::lK P gl orc m r fl (sop P gl orc (ev gl T) mc o.dst o.op).2.2 (put T o.dst (effV (sop P gl orc (ev gl T) mc o.dst o.op).2.1 o.op)):=nd (by simp only[lK])
@[simp] def asr:lK P gl orc m (o::r) (.pre::fl) mc T=lK P gl orc m r fl mc (put T o.dst (rop P gl orc (ev gl T) m o.dst o.op).2):=nd (by simp only[lK])
@[simp] def alZ:lK P gl orc m (o::r) (.oth::fl) mc T=lK P gl orc m r fl mc (put T o.dst (rop P gl orc (ev gl T) m o.dst o.op).2):=nd (by simp only[lK])
def Um{P:Program}{gl:Nat->AV}{orc:UV}{Y:YT}{fl:List Fg}{l l2:List SO}{s:AS}{Q:R0}(h:nq P gl orc Y l2 (Q .normal) s.m (lK P gl orc s.m l fl s.m s.T) l fl (lK P gl orc s.m l fl s.m s.T) s.m s.T):vc P gl orc Y (.drawE fl l l2) s Q:=.inr (.inl ⟨_,h⟩)
def Fy{P:Program}{gl:Nat->AV}{orc:UV}{z:Nat}{fl:List Fg}{l l2:List SO}{s:AS}{Q:R0}(hT:s.T.getD z .junk=.junk)(ms:QP)(h:gW P gl orc Y0 l2 (Q .normal) s.m ms l fl ms s.m s.T):vc P gl orc Y0 (.drawZ z fl l l2) s Q:=⟨fun _ _ _ _ h=>h,hT,ms,h⟩
end
attribute [simp] effC memEff effV effR rdC
end Go.Abs
