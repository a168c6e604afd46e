import Derived.Test.YthjppoincojfkaaGreatDoorRTME
import Derived.ProofKit
import Derived.OpenShut
import Derived.OpenVars
import Derived.Test.YthjppoincojfkaaGreatDoorProg
import Derived.Lib.AppendZerosOnto
import Derived.Shelf.RegionOpenPlain
import Derived.Lib.Walk
import Derived.Lib.JoinLaws
import Derived.Lib.Overlaps
set_option linter.all false
set_option maxRecDepth 100000
set_option maxHeartbeats 64000000
namespace Go.Abs
open Go Go.RowKit
def nd{α:Type}{a b:α}(h:a=b):a=b:=h
section
variable (P:Program) (gl:Nat->AV) (orc:UV) (Y:YT) (s:AS) (Q:R0)
@[simp] def avw:vc P gl orc Y .skip s Q=Q .normal s:=nd rfl
@[simp] def axN(l:List SO):vc P gl orc Y (.ops l) s Q=Zo P gl orc Y l s (Q .normal):=nd rfl
@[simp] def axO(a b:SC):vc P gl orc Y (.seq a b) s Q=vc P gl orc Y a s (WD (vc P gl orc Y b) Q):=nd rfl
def afl(x:bE)(a b:SC):vc P gl orc Y (.cond x a b) s Q=match ev gl s.T x with|.bool t=>(t=true->vc P gl orc Y a s Q)/\(t=false->vc P gl orc Y b s Q)|_=>False:=nd rfl
@[simp] def asN(x:bE)(a b:SC):vc P gl orc Y (.cond x a b) s Q=match ev gl s.T x with|.bool t=>(if t=true then vc P gl orc Y a s Q else vc P gl orc Y b s Q)|_=>False:=by
 rw[afl];cases ev gl s.T x<;>try rfl
 rename_i t;cases t<;>simp
@[simp] def asO(id:Nat)(c:SC):vc P gl orc Y (.block id c) s Q=vc P gl orc Y c s (mV id Q):=nd rfl
@[simp] def avx(id:Nat):vc P gl orc Y (.exit id) s Q=Q (.exit id) s:=nd rfl
@[simp] def asP(c:SC):vc P gl orc Y (.scope c) s Q=vc P gl orc Y c s (wC Q):=nd rfl
@[simp] def axP:vc P gl orc Y .ret s Q=Q .ret s:=nd rfl
@[simp] def axQ:vc P gl orc Y .bad s Q=False:=nd rfl
def afm{c:SC}(I:AS->Prop)(μ:AS->Nat)(h0:I s)(hr:∀s',I s'->vc P gl orc Y c s' (mW I μ s' Q)):vc P gl orc Y (.loop c) s Q:=⟨I,μ,h0,hr⟩
variable (k:AS->(R0)->Prop) (id id':Nat) (I:AS->Prop) (μ:AS->Nat) (s0:AS)
@[simp] def ai6:WD k Q .normal s=k s Q:=nd rfl
@[simp] def aoj:WD k Q (.exit id) s=Q (.exit id) s:=nd rfl
@[simp] def asQ:WD k Q .ret s=Q .ret s:=nd rfl
@[simp] def abA:mV id Q .normal s=Q .normal s:=nd rfl
@[simp] def ai7:mV id Q (.exit id') s=if id'=id then Q .normal s else Q (.exit id') s:=nd rfl
@[simp] def amn:mV id Q .ret s=Q .ret s:=nd rfl
@[simp] def abB:wC Q .normal s=Q .normal s:=nd rfl
@[simp] def ai8:wC Q (.exit id) s=Q (.exit id) s:=nd rfl
@[simp] def amo:wC Q .ret s=Q .ret s:=nd rfl
@[simp] def abC:mW I μ s0 Q .normal s=(I s/\μ s<μ s0):=nd rfl
@[simp] def ai9:mW I μ s0 Q (.exit id) s=Q (.exit id) s:=nd rfl
@[simp] def amq:mW I μ s0 Q .ret s=Q .ret s:=nd rfl
end
@[simp] def avy(P:Program)(gl:Nat->AV)(orc:UV)(Y:YT)(s:AS)(Q:R0)(l l2:List SO):vc P gl orc Y (.draw l l2) s Q=SD P gl orc Y l2 (Q .normal) l s.T s.m []:=nd rfl
def amr(T:P2)(f:Nat->AV):Pa->P2
 |[]=>T
 |i::W=>amr (T.set i (f i)) f W
def Dy(T:P2)(W:Pa)(R:(Nat->AV)->AM->Prop)(μ:(Nat->AV)->AM->Nat)(f:Nat->AV)(m:AM)(Q:R0):R0
 |.normal,s'=>s'.T=amr T (fun i=>s'.T.getD i .junk) W/\R (fun i=>s'.T.getD i .junk) s'.m/\μ (fun i=>s'.T.getD i .junk) s'.m<μ f m
 |ex,s'=>Q ex s'
section
variable (T:P2) (W:Pa) (R:(Nat->AV)->AM->Prop) (μ:(Nat->AV)->AM->Nat) (f:Nat->AV) (m:AM) (Q:R0) (s:AS) (id:Nat)
@[simp] def ZU:Dy T W R μ f m Q .normal s=(s.T=amr T (fun i=>s.T.getD i .junk) W/\R (fun i=>s.T.getD i .junk) s.m/\μ (fun i=>s.T.getD i .junk) s.m<μ f m):=nd rfl
@[simp] def afn:Dy T W R μ f m Q (.exit id) s=Q (.exit id) s:=nd rfl
@[simp] def aja:Dy T W R μ f m Q .ret s=Q .ret s:=nd rfl
end
def nth(l:P2)(n:Nat):AV:=l.getD n .junk
def Qi(l:T5)(n:Nat):P2:=l.getD n []
@[simp high] theorem Qbg(l:P2)(n:Nat):l.getD n .junk=nth l n:=rfl
@[simp high] theorem Yd(l:T5)(n:Nat):l.getD n []=Qi l n:=rfl
@[simp] theorem avz(n:Nat):nth [] n=.junk:=rfl
@[simp] theorem asR(a:AV)(l:P2):nth (a::l) 0=a:=rfl
@[simp] theorem asS(a:AV)(l:P2)(n:Nat):nth (a::l) (n+1)=nth l n:=rfl
@[simp] theorem asT(n:Nat):Qi [] n=[]:=rfl
@[simp] theorem aok(a:P2)(l:T5):Qi (a::l) 0=a:=rfl
@[simp] theorem aol(a:P2)(l:T5)(n:Nat):Qi (a::l) (n+1)=Qi l n:=rfl
@[simp] def ZI(l l':T5):Qi (l++l') l.length=Qi l' 0:=by simp[Qi,zzaw,-Yd,zzaq]
@[simp] def Vp(l l':T5)(k:Nat):Qi (l++l') (l.length+k)=Qi l' k:=by simp[Qi,zzaw,-Yd,zzaq]
@[simp] def avA(l l':T5)(x:P2):(l++l').set l.length x=l++l'.set 0 x:=by simp[zzdh]
@[simp] def ajb(l l':T5)(k:Nat)(x:P2):(l++l').set (l.length+k) x=l++l'.set k x:=by simp[zzdh]
def Qw{l:T5}{n:Nat}{x:P2}(h:l[n]?=some x):Qi l n=x:=by simp[Qi,zzaw,-Yd,h]
def ams{l:P2}{n:Nat}{x:AV}(h:l[n]?=some x):nth l n=x:=by simp[nth,zzaw,-Qbg,h]
def numOf:AV->Int
 |.int _ n=>n
 |_=>0
@[simp] theorem aom(k:IntKind)(n:Int):numOf (.int k n)=n:=rfl
@[simp] theorem ajc:Jj .full=true:=rfl
@[simp] theorem amt:Jj .nil=true:=rfl
@[simp] theorem aon:Jj .ro=false:=rfl
@[simp] theorem aoo:Jj .nn=false:=rfl
@[simp] theorem amu(i s:Nat):Jj (.own i s)=false:=rfl
@[simp] theorem amv(sz:Nat)(l:P2):aZ sz 0 l=[]:=rfl
@[simp] theorem xU(sz n:Nat)(l:P2):aZ sz (n+1) l=l.take sz::aZ sz n (l.drop sz):=rfl
@[simp] theorem amw:Ju []=some []:=rfl
@[simp] def ajd(n:Int)(r:T5):Ju ([.int .u8 n]::r)=(match Ju r with|some l=>some (UInt8.ofNat n.toNat::l)|_=>none):=by
 simp only[Ju,byteOf];cases Ju r<;>rfl
@[simp] theorem asU(b:Bool):JC (.bool b)=some (true,b):=rfl
@[simp] theorem asV(b:Bool):isB (.bool b)=true:=rfl
@[simp] theorem asW(b:Bool):bOf (.bool b)=b:=rfl
@[simp] theorem avB(a:AV):JC (.gd false a)=some (false,bOf a):=rfl
@[simp] theorem avC(a:AV):JC (.gd true a)=some (isB a,bOf a):=rfl
@[simp] def axR(g b:Bool):JC (.gd g (.bool b))=some (g,b):=by cases g<;>rfl
@[simp] theorem asX(want g:Bool):Eh want (.bool g)=some (g==want):=rfl
@[simp] theorem axS(want d b:Bool):Eh want (.gd d (.bool b))=some (d&&(b==want)):=rfl
@[simp] def avD(want:Bool)(a:AV):Eh want (.gd false a)=some false:=by cases a<;>rfl
@[simp] theorem avE(gl:Nat->AV)(T:P2)(t:Nat):evS gl T (.tmp t)=strip (nth T t):=rfl
@[simp] theorem aop(gl:Nat->AV)(T:P2)(a:AV):evS gl T (.const a)=strip a:=rfl
@[simp] theorem asY(gl:Nat->AV)(T:P2)(f:FuncId):evS gl T (.func f)=.fn f [] []:=rfl
@[simp] theorem asZ(gl:Nat->AV)(T:P2)(g:Nat):evS gl T (.glob g)=strip (gl g):=rfl
section
variable (P:Program) (gl:Nat->AV) (orc:UV) (Y:YT) (K:AS->Prop) (r:List SO) (T:P2) (m:AM) (d:Option Nat) (op:aF) (xs:List bE) (s:AS)
@[simp] def aoq:Zo P gl orc Y [] s K=K s:=nd rfl
@[simp] def amx:Zo P gl orc Y (⟨d,op,none,xs⟩::r) s K=(if effy orc (ev gl s.T) s.m d op=true then Qah P gl Y (ev gl s.T) s.m (fun av m'=>Zo P gl orc Y r ⟨put s.T d av,m'⟩ K) op
   else(sop P gl orc (ev gl s.T) s.m d op).1/\Zo P gl orc Y r ⟨put s.T d (sop P gl orc (ev gl s.T) s.m d op).2.1,(sop P gl orc (ev gl s.T) s.m d op).2.2⟩ K):=nd rfl
@[simp] def amy(t:Nat)(want:Bool):Zo P gl orc Y (⟨d,op,some (some t,want),xs⟩::r) s K=(match Eh want (s.T.getD t .junk)with
   |some gw=>gok gl s.T gw (gxs op xs)/\
     if effy orc (evG gl s.T op) s.m d op=true then
      (gw=true->Qah P gl Y (evG gl s.T op) s.m (fun av m'=>Zo P gl orc Y r ⟨put s.T d (.gd true av),m'⟩ K) op)/\(gw=false->Zo P gl orc Y r ⟨put s.T d (.gd false (.bool false)),s.m⟩ K)
     else(gw=true->(rop P gl orc (evG gl s.T op) s.m d op).1)/\
      Zo P gl orc Y r ⟨put s.T d (.gd gw (rop P gl orc (evG gl s.T op) s.m d op).2),s.m⟩ K
   |none=>False):=nd rfl
variable (l2:List SO) (nb:T5) (o:SO)
@[simp] def avF:SD P gl orc Y l2 K [] T m nb=Zo P gl orc Y l2 ⟨T,{m with boxes:=m.boxes++nb}⟩ K:=nd rfl
@[simp] def as0:SD P gl orc Y l2 K (o::r) T m nb=((dop P gl orc o T m nb).1/\SD P gl orc Y l2 K r (put T o.dst (dop P gl orc o T m nb).2.1) m (dop P gl orc o T m nb).2.2):=nd rfl
end
attribute [simp] rawOp evG gxs effy Qah callV dop ev Js oneOf strip gok setA Qda sop rop binV binI binS binBool Vk kindF eqF Qbf eqFs loOf hiOf lenS cellsS mutO vcNxt keyA intsA keyAV
def rB(n:Nat)(a:AV):bF n [a]=List.replicate n a:=by
 induction n with
 |zero=>rfl
 |succ n ih=>rw[bF,ih];rfl
@[simp] theorem aje(P:Program)(gl:Nat->AV)(orc:UV)(rs:List aF)(r:AV)(s:AS):post P gl orc rs r .normal s=((Js P gl orc s rs).1/\bB s.m 6 (oneOf (Js P gl orc s rs).2)=r):=rfl
@[simp] theorem as1(P:Program)(gl:Nat->AV)(orc:UV)(rs:List aF)(r:AV)(s:AS):post P gl orc rs r .ret s=((Js P gl orc s rs).1/\bB s.m 6 (oneOf (Js P gl orc s rs).2)=r):=rfl
@[simp] theorem afo(P:Program)(gl:Nat->AV)(orc:UV)(rs:List aF)(K:So)(s:AS):wD P gl orc rs K .normal s=((Js P gl orc s rs).1/\K (oneOf (Js P gl orc s rs).2) s.m):=rfl
@[simp] theorem aor(P:Program)(gl:Nat->AV)(orc:UV)(rs:List aF)(K:So)(s:AS):wD P gl orc rs K .ret s=((Js P gl orc s rs).1/\K (oneOf (Js P gl orc s rs).2) s.m):=rfl
section
variable (m:AM) (d:Nat)
@[simp] theorem ajf(b:Bool):Qx (.bool b)=true:=rfl
@[simp] theorem amz(k:IntKind)(n:Int):Qx (.int k n)=true:=rfl
@[simp] theorem amA(s:ByteArray):Qx (.str s)=true:=rfl
@[simp] theorem aos(rt:Rt)(r:T5):Qx (.sl rt r)=true:=rfl
@[simp] theorem aot(r:P2)(o:Nat):Qx (.ep r o)=true:=rfl
@[simp] theorem amB(i o:Nat):Qx (.ptr i o)=true:=rfl
@[simp] theorem aou(i o n z:Nat):Qx (.bs i o n z)=true:=rfl
@[simp] theorem aov(f:FuncId)(a b:P2):Qx (.fn f a b)=true:=rfl
@[simp] theorem ajg(p:Bool):Qx (.nilv p)=true:=rfl
@[simp] theorem afp:Qx .nilfn=true:=rfl
@[simp] theorem amC(l:Nat):Qx (.yld l)=true:=rfl
@[simp] theorem aow(i:Nat):Qx (.mp i)=true:=rfl
@[simp] theorem aox(i:Nat):Qx (.it i)=true:=rfl
@[simp] theorem ajh(k:Nat)(l:List (Pi×AV)):Qx (.aJ k l)=false:=rfl
@[simp] theorem aji(i n:Nat)(l:Pa):Qx (.mitr i n l)=false:=rfl
@[simp] theorem ajj:Qx .junk=false:=rfl
@[simp] theorem amD(cs:P2):Qx (.agg cs)=false:=rfl
@[simp] theorem amE(cs:P2):Qx (.aS cs)=false:=rfl
@[simp] theorem aoy(g:Bool)(a:AV):Qx (.gd g a)=false:=rfl
@[simp] theorem aoz(b:Bool):bare (.bool b)=true:=rfl
@[simp] theorem as2(k:IntKind)(n:Int):bare (.int k n)=true:=rfl
@[simp] theorem as3(s:ByteArray):bare (.str s)=true:=rfl
@[simp] theorem avG(rt:Rt)(r:T5):bare (.sl rt r)=true:=rfl
@[simp] theorem avH(r:P2)(o:Nat):bare (.ep r o)=true:=rfl
@[simp] theorem as4(i o:Nat):bare (.ptr i o)=true:=rfl
@[simp] theorem avI(i o n z:Nat):bare (.bs i o n z)=true:=rfl
@[simp] theorem avJ(f:FuncId)(a b:P2):bare (.fn f a b)=true:=rfl
@[simp] theorem aoA(p:Bool):bare (.nilv p)=true:=rfl
@[simp] theorem amF:bare .nilfn=true:=rfl
@[simp] theorem as5(l:Nat):bare (.yld l)=true:=rfl
@[simp] theorem avK(i:Nat):bare (.mp i)=true:=rfl
@[simp] theorem avL(i:Nat):bare (.it i)=true:=rfl
@[simp] theorem aoB(k:Nat)(l:List (Pi×AV)):bare (.aJ k l)=false:=rfl
@[simp] theorem aoC(i n:Nat)(l:Pa):bare (.mitr i n l)=false:=rfl
@[simp] theorem as6(cs:P2):bare (.agg cs)=true:=rfl
@[simp] theorem aoD:bare .junk=false:=rfl
@[simp] theorem as7(cs:P2):bare (.aS cs)=false:=rfl
@[simp] theorem avM(g:Bool)(a:AV):bare (.gd g a)=false:=rfl
@[simp] theorem afq(b:Bool):cellsOf (.bool b)=[.bool b]:=rfl
@[simp] theorem ajk(k:IntKind)(n:Int):cellsOf (.int k n)=[.int k n]:=rfl
@[simp] theorem ajl(s:ByteArray):cellsOf (.str s)=[.str s]:=rfl
@[simp] theorem amG(rt:Rt)(r:T5):cellsOf (.sl rt r)=[.sl rt r]:=rfl
@[simp] theorem amH(r:P2)(o:Nat):cellsOf (.ep r o)=[.ep r o]:=rfl
@[simp] theorem ajm(i o:Nat):cellsOf (.ptr i o)=[.ptr i o]:=rfl
@[simp] theorem amI(i o n z:Nat):cellsOf (.bs i o n z)=[.bs i o n z]:=rfl
@[simp] theorem amJ(f:FuncId)(a b:P2):cellsOf (.fn f a b)=[.fn f a b]:=rfl
@[simp] theorem afr(p:Bool):cellsOf (.nilv p)=[.nilv p]:=rfl
@[simp] theorem abD:cellsOf .nilfn=[.nilfn]:=rfl
@[simp] theorem ajn(l:Nat):cellsOf (.yld l)=[.yld l]:=rfl
@[simp] theorem amK(i:Nat):cellsOf (.mp i)=[.mp i]:=rfl
@[simp] theorem amL(i:Nat):cellsOf (.it i)=[.it i]:=rfl
@[simp] theorem ajo(cs:P2):cellsOf (.agg cs)=cs:=rfl
@[simp] theorem as8(b:Bool):bB m (d+1) (.bool b)=.bool b:=rfl
@[simp] theorem avN(k:IntKind)(n:Int):bB m (d+1) (.int k n)=.int k n:=rfl
@[simp] theorem avO(s:ByteArray):bB m (d+1) (.str s)=.str s:=rfl
@[simp] theorem as9(p:Bool):bB m (d+1) (.nilv p)=.nilv p:=rfl
@[simp] theorem aoE:bB m (d+1) .nilfn=.nilfn:=rfl
@[simp] theorem avP(l:Nat):bB m (d+1) (.yld l)=.junk:=rfl
@[simp] theorem axT(i:Nat):bB m (d+1) (.mp i)=.junk:=rfl
@[simp] theorem axU(i:Nat):bB m (d+1) (.it i)=.junk:=rfl
@[simp] theorem ata:bB m (d+1) .junk=.junk:=rfl
@[simp] theorem avQ(cs:P2):bB m (d+1) (.agg cs)=.agg (cs.map (bB m d)):=rfl
@[simp] theorem avR(cs:P2):bB m (d+1) (.aS cs)=.aS (cs.map (bB m d)):=rfl
@[simp] theorem axV(f:FuncId)(a b:P2):bB m (d+1) (.fn f a b)=.fn f (a.map (bB m d)) (b.map (bB m d)):=rfl
@[simp] theorem axW(r:T5):bB m (d+1) (.sl .ro r)=.sl .ro r:=rfl
@[simp] theorem atb(r:T5):bB m (d+1) (.sl .full r)=.sl .full r:=rfl
@[simp] theorem avS(r:T5):bB m (d+1) (.sl .nil r)=.sl .nil r:=rfl
@[simp] theorem axX(r:T5):bB m (d+1) (.sl .nn r)=.sl .nn r:=rfl
@[simp] theorem avT(i s:Nat)(r:T5):bB m (d+1) (.sl (.own i s) r)=.sl .ro r:=rfl
@[simp] theorem axY(r:P2)(o:Nat):bB m (d+1) (.ep r o)=.ep r o:=rfl
@[simp] def ZR(i o n z:Nat):bB m (d+1) (.bs i o n z)=if o+n*z<=(m.boxes.getD i []).length then .sl .ro (aZ z n (((m.boxes.getD i []).map (bB m d)).drop o))else .junk:=by
 simp only[bB];cases h:Nat.ble (o+n*z) (m.boxes.getD i []).length with
 |true=>rw[ac (zzba h)];rfl
 |false=>rw[ab (fun h'=>by rw[Nat.ble_eq_true_of_le h']at h;cases h)];rfl
@[simp] theorem pO(i o:Nat):bB m (d+1) (.ptr i o)=.ep ((m.boxes.getD i []).map (bB m d)) o:=rfl
@[simp] theorem aoF(b:Bool):Vi (d+1) (.bool b)=false:=rfl
@[simp] theorem atc(k:IntKind)(n:Int):Vi (d+1) (.int k n)=false:=rfl
@[simp] theorem atd(s:ByteArray):Vi (d+1) (.str s)=false:=rfl
@[simp] theorem aoG(p:Bool):Vi (d+1) (.nilv p)=false:=rfl
@[simp] theorem amM:Vi (d+1) .nilfn=false:=rfl
@[simp] theorem ate(l:Nat):Vi (d+1) (.yld l)=false:=rfl
@[simp] theorem avU(i:Nat):Vi (d+1) (.mp i)=false:=rfl
@[simp] theorem avV(i:Nat):Vi (d+1) (.it i)=false:=rfl
@[simp] theorem aoH:Vi (d+1) .junk=false:=rfl
@[simp] theorem atf(cs:P2):Vi (d+1) (.agg cs)=cs.any (Vi d):=rfl
@[simp] theorem atg(cs:P2):Vi (d+1) (.aS cs)=cs.any (Vi d):=rfl
@[simp] theorem avW(f:FuncId)(a b:P2):Vi (d+1) (.fn f a b)=(a.any (Vi d)||b.any (Vi d)):=rfl
@[simp] theorem avX(rt:Rt)(r:T5):Vi (d+1) (.sl rt r)=false:=rfl
@[simp] theorem avY(r:P2)(o:Nat):Vi (d+1) (.ep r o)=false:=rfl
@[simp] theorem avZ(i o n z:Nat):Vi (d+1) (.bs i o n z)=true:=rfl
@[simp] theorem ath(i o:Nat):Vi (d+1) (.ptr i o)=true:=rfl
@[simp] theorem aoI(b:Bool):flat (.bool b)=true:=rfl
@[simp] theorem ati(k:IntKind)(n:Int):flat (.int k n)=true:=rfl
@[simp] theorem atj(s:ByteArray):flat (.str s)=true:=rfl
@[simp] theorem amN(b:Bool):iL (.bool b)=true:=rfl
@[simp] theorem aoJ(k:IntKind)(n:Int):iL (.int k n)=true:=rfl
@[simp] theorem aoK(s:ByteArray):iL (.str s)=true:=rfl
@[simp] theorem atk(cs:P2):flat (.aS cs)=cs.all iL:=rfl
end
def GO:AV->Bool
 |.bool _|.int _ _|.str _|.sl .ro _|.sl .full _|.sl .nil _|.sl .nn _|.nilfn|.ep _ _=>true
 |_=>false
@[simp] theorem atl(b:Bool):GO (.bool b)=true:=rfl
@[simp] theorem av0(k:IntKind)(n:Int):GO (.int k n)=true:=rfl
@[simp] theorem av1(s:ByteArray):GO (.str s)=true:=rfl
@[simp] theorem axZ(r:T5):GO (.sl .ro r)=true:=rfl
@[simp] theorem atm(r:T5):GO (.sl .full r)=true:=rfl
@[simp] theorem av2(r:T5):GO (.sl .nil r)=true:=rfl
@[simp] theorem ax0(r:T5):GO (.sl .nn r)=true:=rfl
@[simp] theorem ax1(r:P2)(o:Nat):GO (.ep r o)=true:=rfl
def Ou(m:AM)(d:Nat){a:AV}(h:GO a=true):bB m (d+1) a=a:=by
 cases a<;>simp[GO]at h |-
 rename_i rt rows;cases rt<;>simp at h |-
def Zl(row:P2):Bool:=row.all GO
def Ve(m:AM)(d:Nat){row:P2}(h:Zl row=true):row.map (bB m (d+1))=row:=by
 have:row.map (bB m (d+1))=row.map id:=zzcs fun a ha=>Ou m d (zzax.1 h a ha);rw[this,List.map_id]
def Ql{n:Int}(h1: -9223372036854775808<=n)(h2:n<=9223372036854775807):IntKind.i64.wrap n=n:=by
 rw[IntKind.wrap_i64];omega
def bO(i:Nat)(h:i<1000000000000000000):IntKind.i64.wrap ((i:Int)+1)=((i+1:Nat):Int):=by rw[Ql]<;>omega
def aV{α:Type}{l:List α}{i:Nat}(h:i<l.length):∃x,l[i]?=some x:=⟨_,zzaf h⟩
@[simp] theorem Jp(m:AM)(l:Nat)(x:LS):(m.at_ l x).boxes=m.boxes:=rfl
@[simp] theorem Ol(m:AM)(l:Nat)(x:LS):(m.at_ l x).lens=m.lens:=rfl
@[simp] theorem ajp(m:AM)(l:Nat)(x:LS):(m.at_ l x).st=uw m.st l x:=rfl
@[simp] def ay5(m:AM)(l:Nat)(x y:LS):(m.at_ l x).at_ l y=m.at_ l y:=by
 simp only[AM.at_];congr 1;funext i;simp only[uw];split<;>rfl
@[simp] def atn(st:Nat->LS)(l:Nat)(x:LS):uw st l x l=x:=by simp[uw]
@[simp] def av3(st:Nat->LS)(l:Nat)(x y:LS):uw (uw st l x) l y=uw st l y:=by funext i;simp only[uw];split<;>rfl
def fB(m m':AM):Prop:=(∃bx,m'.boxes=m.boxes++bx)/\(∃lx,m'.lens=m.lens++lx)/\∀l,m.st l≠.gone->m'.st l=m.st l
def fB.refl(m:AM):fB m m:=⟨⟨[],zd⟩,⟨[],zd⟩,fun _ _=>rfl⟩
def fB.trans{m m' kX:AM}(h:fB m m')(k:fB m' kX):fB m kX:=by
 obtain⟨⟨b,h1⟩,⟨c,h2⟩,h3⟩:=h;obtain⟨⟨b',k1⟩,⟨c',k2⟩,k3⟩:=k;exact⟨⟨b++b',by rw[k1,h1,zzbg]⟩,⟨c++c',by rw[k2,h2,zzbg]⟩,fun l hl=>by rw[k3 l (by rw[h3 l hl];exact hl),h3 l hl]⟩
def fB.box(m:AM)(b:T5):fB m {m with boxes:=m.boxes++b}:=⟨⟨b,rfl⟩,⟨[],zd⟩,fun _ _=>rfl⟩
def fB.gone{m m':AM}(h:fB m m')(l:Nat):fB (m.at_ l .gone) (m'.at_ l .gone):=
 ⟨h.1,h.2.1,fun l' eH=>by
  by_cases e:l'=l
  ·subst e;simp at eH
  simp only[ajp,uw,e,if_false]at eH |-;exact h.2.2 l' eH⟩
def wL(y:P2->AM->(Bool->AM->Prop)->Prop)(K:AM->Prop):T5->AM->Prop
 |[],m=>∀m',fB m m'->K m'
 |x::xs,m=>∀m',fB m m'->∀K':Bool->AM->Prop,(∀kX,wL y K xs kX->K' true kX)->(∀kX,(∀m3,fB kX m3->K m3)->K' false kX)->y x m' K'
def wL.ext{y:P2->AM->(Bool->AM->Prop)->Prop}{K:AM->Prop}{xs:T5}{m m':AM}(h:wL y K xs m)(e:fB m m'):wL y K xs m':=by
 cases xs with
 |nil=>exact fun m2 e2=>h m2 (e.trans e2)
 |cons x xs=>exact fun m2 e2=>h m2 (e.trans e2)
def Iter(P:Program)(gl:Nat->AV)(f:FuncId)(first cap:P2)(xs:T5):Prop:=
 ∀(Y:YT)(l:Nat)(m:AM)(K:AM->Prop),wL (Y l) K xs m->aB P gl Y f (first++[.yld l]++cap) m fun _ m'=>K m'
def je{P:Program}{gl:Nat->AV}{orc:UV}{Y:YT}{s:AS}{Q:R0}{g:bE}{ps:Pa}{gZ body:SC}{f:FuncId}{first cap:P2}{xs:T5}
  (hg:ev gl s.T g=.fn f first cap)(cR:Iter P gl f first cap xs)(aH:∀x∈xs,x.length=ps.length)(I:Nat->AM->Prop)(X:Exit->AM->Prop)(h0:I 0 s.m)
  (hI:∀i m m',I i m->fB m m'->I i m')(hX:∀ex m m',X ex m->fB m m'->X ex m')
  (
   hb:∀(l i:Nat)(m:AM)(x:P2),s.m.st l=.gone->m.st l=.ready->I i (m.at_ l .gone)->xs[i]?=some x->∀K':R0,
   (∀s',I (i+1) (s'.m.at_ l .gone)->K' .normal s')->(∀s',X .ret (s'.m.at_ l .gone)->K' .ret s')->(∀id s',X (.exit id) (s'.m.at_ l .gone)->K' (.exit id) s')->
   vc P gl orc Y gZ ⟨Qaj s.T ps x,m⟩ (J4 l fun s'=>vc P gl orc Y body s' K'))
  (ZV:∀m,I xs.length m->Q .normal ⟨s.T,m⟩)(hex:∀ex m,X ex m->Q ex ⟨s.T,m⟩):vc P gl orc Y (.rfunc g ps gZ body) s Q:=by
 simp only[vc,hg];intro hl;generalize dQ:s.m.ln=l at hl;refine cR _ l s.m.bJ (fun m'=>CQ l s.T m' Q (m'.st l)) ?_;have iC:∀{m m':AM},m.st l=.ready->fB m m'->m'.st l=.ready:=fun h e=>by rw[e.2.2 l (by rw[h];simp),h]
 have key:∀(n i:Nat)(m:AM),i+n=xs.length->I i (m.at_ l .gone)->m.st l=.ready->wL (Yin Y l ps.length (fun args m K=>vc P gl orc Y gZ ⟨Qaj s.T ps args,m⟩ (J4 l fun s'=>vc P gl orc Y body s' (QD l K))) l) (fun m'=>CQ l s.T m' Q (m'.st l)) (xs.drop i) m:=by
  intro n;induction n with
  |zero=>
   intro i m hi hIm hm;rw[zzam zE];intro m' e;simp only[iC hm e,CQ];obtain rfl:i=xs.length:=zE
   exact ZV _ (hI _ _ _ hIm (e.gone l))
  |succ n ih=>
   intro i m hi hIm hm;have ah:i<xs.length:=zE
   rw[zzai ah];intro m' e K' hT hF;simp only[Yin,if_true];refine⟨iC hm e,aH _ (zzdi ah),?_⟩;refine hb l i m' xs[i] hl (iC hm e) (hI _ _ _ hIm (e.gone l)) (zzaf ah) (QD l K') (fun s' kZ=>?_) (fun s' hQ=>?_) fun id s' hQ=>?_
   ·refine hT _ (ih (i+1) _ zE ?_ zd);simpa using kZ
   ·refine hF _ fun m3 e3=>?_;have h3:m3.st l=.done .ret:=by have:=e3.2.2 l zd;simpa using this
    simp only[h3];exact hex _ _ (hX _ _ _ hQ (by have:=e3.gone l;simpa using this))
   refine hF _ fun m3 e3=>?_;have h3:m3.st l=.done (.exit id):=by have:=e3.2.2 l zd;simpa using this
   simp only[h3];exact hex _ _ (hX _ _ _ hQ (by have:=e3.gone l;simpa using this))
 have:=key xs.length 0 s.m.bJ zd (hI 0 s.m _ h0 ⟨⟨[],by simp[AM.bJ]⟩,⟨[],by simp[AM.bJ]⟩,fun l' eH=>by
  have:l'≠l:=by rintro rfl;exact eH hl
  simp[AM.bJ,dQ,uw,this]⟩) (by simp[AM.bJ,dQ])
 simpa using this
attribute [simp] Qaj
section
variable (l:Nat) (k:AS->Prop) (s:AS) (id:Nat)
@[simp] def ajq:J4 l k .normal s=(s.m.st l=.ready/\k ⟨s.T,s.m.at_ l .busy⟩):=nd rfl
end
def look:QQ->Nat->AV
 |[],_=>.junk
 |(d,v)::r,t=>if d=t then v else look r t
def Vw(n:Nat)(E:QQ):P2:=(List.range n).map (look E)
def tc:Nat->P2->QQ
 |_,[]=>[]
 |i,a::r=>(i,a)::tc (i+1) r
@[simp] theorem rC(d:Nat)(v:AV)(r:QQ)(t:Nat):look ((d,v)::r) t=if d=t then v else look r t:=rfl
@[simp] theorem look_nil(t:Nat):look [] t=.junk:=rfl
@[simp] theorem aoL(i:Nat):tc i []=[]:=rfl
@[simp] theorem Lu(i:Nat)(a:AV)(r:P2):tc i (a::r)=(i,a)::tc (i+1) r:=rfl
@[simp] def afs{n t:Nat}{E:QQ}(h:t<n):nth (Vw n E) t=look E t:=by
 simp[nth,Vw,zzaw,-Qbg,h]
def Zt{n d:Nat}{E:QQ}(h:d<n)(v:AV):(Vw n E).set d v=Vw n ((d,v)::E):=by
 apply zzfd (by simp[Vw]);intro i h1 h2;rw[List.getElem_set];simp[Vw]
@[simp] def av4{n d:Nat}{E:QQ}(h:d<n)(v:AV):put (Vw n E) (some d) v=Vw n ((d,v)::E):=Zt h v
@[simp] theorem ato(T:P2)(v:AV):put T none v=T:=rfl
@[simp] def aoM{n d:Nat}{E:QQ}(h:d<n)(ps:Pa)(x:AV)(xs:P2):Qaj (Vw n E) (d::ps) (x::xs)=Qaj (Vw n ((d,x)::E)) ps xs:=by
 rw[Qaj,Zt h]
def yl:∀(l:P2)(i t:Nat),look (tc i l) t=if i<=t then l.getD (t-i) .junk else .junk
 |[],i,t=>by simp[-Qbg]
 |a::r,i,t=>by
  rw[Lu,rC,yl r (i+1) t];by_cases h:i=t
  ·subst h;simp[-Qbg]
  rw[ab h];by_cases h':i<=t
  ·rw[ac zE,ac h',show t-i=(t-(i+1))+1 by omega];simp[-Qbg]
  rw[ab zE,ab h']
def Bt{n:Nat}{l:P2}(h:l.length<=n):l++List.replicate (n-l.length) .junk=Vw n (tc 0 l):=by
 apply zzfd
 ·simp[Vw];omega
 intro i h1 h2;simp only[Vw,List.getElem_map,List.getElem_range,yl,zzbv,if_true,zzel];rw[List.getElem_append];split
 ·rename_i hi;simp[zzaw,-Qbg,hi]
 rename_i hi;simp[zzaw,-Qbg,hi]
section
variable {P:Program} {gl:Nat->AV} {Y:YT}
def Qp{f:FuncId}{sc:SC}{rs:List aF}{n:Nat}(hc:cV P f sc rs n)(orc:UV){l:P2}{r:AV}(hn:l.length<=n)
  (h:vc P gl orc Y0 sc ⟨Vw n (tc 0 l),⟨[],[],fun _=>.gone,0⟩⟩ (post P gl orc rs r)):Pure P gl f l r:=aei hc orc (by rw[Bt hn];exact h)
def Xo{f:FuncId}{sc:SC}{rs:List aF}{n:Nat}(hc:cV P f sc rs n)(orc:UV){l:P2}{m:AM}{K:So}(hn:l.length<=n)
  (h:vc P gl orc Y sc ⟨Vw n (tc 0 l),m⟩ (wD P gl orc rs K)):aB P gl Y f l m K:=J5 hc orc (by rw[Bt hn];exact h)
end
def fL(W:Pa)(E' E:QQ):Prop:=∀t,W.contains t=false->look E' t=look E t
def Qb(W:Pa)(E:QQ):fL W E E:=fun _ _=>rfl
def Qc{W:Pa}{E' E:QQ}{k:Nat}(v:AV)(hk:W.contains k=true)(h:fL W E' E):fL W ((k,v)::E') E:=fun t ht=>by
 rw[rC,ab (by rintro rfl;rw[hk]at ht;cases ht)];exact h t ht
def kN(n:Nat)(E:QQ)(W:Pa)(R:(Nat->AV)->AM->Prop)(μ:(Nat->AV)->AM->Nat)(f:Nat->AV)(m:AM)(Q:R0):R0
 |.normal,s'=>(∃E',s'.T=Vw n E'/\fL W E' E)/\R (nth s'.T) s'.m/\μ (nth s'.T) s'.m<μ f m
 |ex,s'=>Q ex s'
def Qcg(f:Nat->AV):Pa->QQ->QQ
 |[],E=>E
 |i::W,E=>(i,f i)::Qcg f W E
@[simp] theorem amO(f:Nat->AV)(E:QQ):Qcg f [] E=E:=rfl
@[simp] theorem GZ(f:Nat->AV)(i:Nat)(W:Pa)(E:QQ):Qcg f (i::W) E=(i,f i)::Qcg f W E:=rfl
def jI(f:Nat->AV)(E:QQ)(t:Nat):∀W,look (Qcg f W E) t=if W.contains t then f t else look E t
 |[]=>zd
 |i::W=>by
  rw[GZ,rC,jI f E t W];by_cases h:i=t
  ·subst h;simp
  have h':t≠i:=Ne.symm h;simp[h,h']
def Dz(f:Nat->AV)(W:Pa)(E:QQ):fL W (Qcg f W E) E:=fun t ht=>by rw[jI,ht];rfl
def aft{n:Nat}{E E':QQ}(h:∀t,t<n->look E t=look E' t):Vw n E=Vw n E':=zzcs fun t ht=>h t (zzb.1 ht)
def Bu{n:Nat}{W:Pa}{E:QQ}{T:P2}:(∃E',T=Vw n E'/\fL W E' E)<->T=Vw n (Qcg (nth T) W E):=by
 constructor
 ·rintro⟨E',rfl,h⟩;refine aft fun t ht=>?_;rw[jI];cases hc:W.contains t with
  |true=>simp only[if_true];rw[afs ht]
  |false=>simp only[zzbi,if_false];exact h t hc
 exact fun h=>⟨_,h,Dz _ _ _⟩
def Qj{P:Program}{gl:Nat->AV}{orc:UV}{Y:YT}{n:Nat}{E:QQ}{m0:AM}{Q:R0}{c:SC}(W:Pa)(R:(Nat->AV)->AM->Prop)(μ:(Nat->AV)->AM->Nat)
  (h0:R (nth (Vw n E)) m0)(hr:∀f m,R f m->vc P gl orc Y c ⟨Vw n (Qcg f W E),m⟩ (kN n E W R μ f m Q)):vc P gl orc Y (.loop c) ⟨Vw n E,m0⟩ Q:=by
 refine afm P gl orc Y ⟨Vw n E,m0⟩ Q (fun s'=>s'.T=Vw n (Qcg (nth s'.T) W E)/\R (nth s'.T) s'.m) (fun s'=>μ (nth s'.T) s'.m) ⟨Bu.1 ⟨E,rfl,Qb _ _⟩,h0⟩ ?_;rintro⟨T',m'⟩ ⟨h1,h2⟩;have:=hr _ m' h2;rw[<- h1]at this
 have e:kN n E W R μ (nth T') m' Q=mW (fun s'=>s'.T=Vw n (Qcg (nth s'.T) W E)/\R (nth s'.T) s'.m) (fun s'=>μ (nth s'.T) s'.m) ⟨T',m'⟩ Q:=by
  funext ex s';cases ex<;>simp[kN,mW,and_assoc,Bu]
 rwa [e]at this
section
variable (n:Nat) (E:QQ) (W:Pa) (R:(Nat->AV)->AM->Prop) (μ:(Nat->AV)->AM->Nat) (f:Nat->AV) (m:AM) (Q:R0) (s:AS) (id:Nat)
@[simp] theorem ZW:kN n E W R μ f m Q .normal s=((∃E',s.T=Vw n E'/\fL W E' E)/\R (nth s.T) s.m/\μ (nth s.T) s.m<μ f m):=rfl
@[simp] theorem afu:kN n E W R μ f m Q (.exit id) s=Q (.exit id) s:=rfl
@[simp] theorem ajr:kN n E W R μ f m Q .ret s=Q .ret s:=rfl
end
def ag{n:Nat}{E' E:QQ}{W:Pa}(h:fL W E' E):∃E1,Vw n E'=Vw n E1/\fL W E1 E:=⟨E',rfl,h⟩
def aQ{n:Nat}{E' E:QQ}{W:Pa}(h:fL W E' E:=by repeat(first|exact Qb _ _|refine Qc _ rfl ?_)):∃E1,Vw n E'=Vw n E1/\fL W E1 E:=ag h
def jJ(P:Program):List Field->Nat->Option Nat
 |[],n=>some n
 |f::r,n=>if f.offset=n then jJ P r (n+P.cellsOf f.type)else none
def ZX(P:Program):Nat->TypeId->Bool
 |0,_=>false
 |d+1,t=>match P.underlying t with
  |some .bool|some (.int _)|some .string=>P.cellsOf t==1
  |some (.slice e)=>((P.cellsOf t==1)&&!(P.cellsOf e==0))&&ZX P d e
  |some (.struct fs)=>(jJ P fs.toList 0==some (P.cellsOf t))&&fs.toList.all fun f=>ZX P d f.type
  |some (.array n e)=>(P.cellsOf t==n*P.cellsOf e)&&ZX P d e
  |_=>false
def cB{H:Type}(P:Program):Nat->TypeId->DataW H->P2
 |0,_,_=>[]
 |d+1,t,x=>match P.underlying t,x with
  |some .bool,.lit (.bool b)=>[.bool b]
  |some (.int _),.lit (.int k n)=>[.int k n]
  |some .string,.lit (.string s)=>[.str ⟨s.toArray⟩]
  |some (.slice _),.nil=>[.sl .nil []]
  |some (.slice e),.slice bL _=>[.sl .nn (bL.map (cB P d e))]
  |some (.struct fs),.agg parts=>(fs.toList.zip parts).flatMap fun p=>cB P d p.1.type p.2
  |some (.array _ e),.agg parts=>parts.flatMap (cB P d e)
  |_,_=>[]
def Typed{H:Type}(P:Program):Nat->TypeId->DataW H->Prop
 |0,_,_=>False
 |d+1,t,x=>match P.underlying t,x with
  |some .bool,.lit (.bool _)=>True
  |some (.int k),.lit (.int k' n)=>k'=k/\(Lit.int k n).wf=true
  |some .string,.lit (.string s)=>s.length<=maxLen
  |some (.slice _),.nil=>True
  |some (.slice e),.slice bL _=>bL.length<=maxLen/\∀y∈bL,Typed P d e y
  |some (.struct fs),.agg parts=>parts.length=fs.size/\∀p∈fs.toList.zip parts,Typed P d p.1.type p.2
  |some (.array n e),.agg parts=>parts.length=n/\∀y∈parts,Typed P d e y
  |_,_=>False
def G1:Nat->Nat->Prop:=fun _ _=>True
section
variable {H:Type} {enc:TypeId×Value->H} {P:Program} {w:World} {base:Nat} {sp:Nat->Bool} {held:Bool}
def Lv{a:Addr}{n:Nat}{cs:PQ}(h:w.cells? base a n=some cs):cs.length=n/\∀(j:Nat)(v:Value),cs[j]?=some v->w.cell? (a.add j)=some v:=by
 unfold World.cells? at h;split at h
 ·obtain⟨h1,h2⟩:=Qcx _ _ _ h;refine⟨Nm h1,fun j v hj=>?_⟩
  have ah:j<n:=by
   have:=(zza.1 hj).1;simp at h1;omega
  exact h2 j j v (by simp[ah]) hj
 cases h
def DA{γ:G}:∀(l:T5)(ZY:List (PQ)),l.length=ZY.length->(∀(i:Nat)(as':P2)(vs:PQ),l[i]?=some as'->ZY[i]?=some vs->ak w γ as' vs)->ak w γ l.flatten ZY.flatten
 |[],[],_,_=>ak.nil
 |[],_::_,h,_=>by simp at h
 |_::_,[],h,_=>by simp at h
 |as'::l,vs::ZY,h,hr=>by
  rw[zzch,zzch];exact(hr 0 as' vs rfl rfl).append (DA l ZY (Nm h) fun i as' vs h1 h2=>hr (i+1) as' vs (Nm h1) (Nm h2))
def td{cs:PQ}:∀(fs:List Field)(n m:Nat),jJ P fs n=some m->m=cs.length->n<=cs.length->(fs.map fun f=>(cs.drop f.offset).take (P.cellsOf f.type)).flatten=cs.drop n
 |[],n,m,h,hm,hn=>by simp[jJ]at h;subst h;subst hm;simp
 |f::fs,n,m,h,hm,hn=>by
  simp only[jJ]at h;split at h
  ·rename_i ho;subst ho
   have cw:∀(fs:List Field)(n m:Nat),jJ P fs n=some m->n<=m:=by
    intro fs;induction fs with
    |nil=>intro n m h;simp[jJ]at h;omega
    |cons f fs ih=>
     intro n m h;simp only[jJ]at h;split at h
     ·have:=ih _ _ h;omega
     cases h
   have h1:=cw _ _ _ h;have ih:=td fs _ m h hm zE;rw[zzar,zzch,ih];rw[<- zzdr,zzdt]
  cases h
def Lw{cs:PQ}{k:Nat}:∀(n:Nat),cs.length=n*k->((List.range n).map fun i=>(cs.drop (i*k)).take k).flatten=cs:=by
 intro n hn
 have key:∀m,m<=n->((List.range m).map fun i=>(cs.drop (i*k)).take k).flatten=cs.take (m*k):=by
  intro m;induction m with
  |zero=>simp
  |succ m ih=>
   intro hm;rw[zzfj,zzcb,zzer,ih zE];simp only[zzar,zzct,zzch,List.flatten_nil,zzat];rw[zzbr,zzdv,List.take_add]
 rw[key n (zzab _),<- hn,zzbu]
def trod_bool{t:TypeId}{aT:Nat}{cs:PQ}{x:DataW H}{ps:List MemPlace}(hu:P.underlying t=some .bool)(h:DataW.trod enc P w base sp held (aT+1) t cs=some (x,ps)):∃b,cs=[.bool b]/\x=.lit (.bool b):=by
 unfold DataW.trod at h;rw[hu]at h;obtain _|⟨v,_|⟨_,_⟩⟩:=cs
 ·cases h
 ·cases v<;>first|(cases h;done)|(cases h;exact⟨_,rfl,rfl⟩)
 cases v<;>first|(cases h;done)|(simp at h;done)
def trod_int{t:TypeId}{k:IntKind}{aT:Nat}{cs:PQ}{x:DataW H}{ps:List MemPlace}(hu:P.underlying t=some (.int k))(h:DataW.trod enc P w base sp held (aT+1) t cs=some (x,ps)):∃n,cs=[.int k n]/\x=.lit (.int k n)/\(Lit.int k n).wf=true:=by
 unfold DataW.trod at h;rw[hu]at h;obtain _|⟨v,_|⟨_,_⟩⟩:=cs
 ·cases h
 ·cases v<;>first|(cases h;done)|skip
  simp only at h;split at h
  ·rename_i hk;cases h;rw[hk.1];exact⟨_,rfl,rfl,hk.2⟩
  cases h
 cases v<;>first|(cases h;done)|(simp at h;done)
def ZZ{t:TypeId}{aT:Nat}{cs:PQ}{x:DataW H}{ps:List MemPlace}(hu:P.underlying t=some .string)(h:DataW.trod enc P w base sp held (aT+1) t cs=some (x,ps)):∃s,cs=[.string s]/\x=.lit (.string s.data.toList)/\s.size<=maxLen:=by
 unfold DataW.trod at h;rw[hu]at h;obtain _|⟨v,_|⟨_,_⟩⟩:=cs
 ·cases h
 ·cases v<;>first|(cases h;done)|skip
  simp only at h;split at h
  ·rename_i hk;cases h;exact⟨_,rfl,rfl,hk⟩
  cases h
 cases v<;>first|(cases h;done)|(simp at h;done)
def afv{t e:TypeId}{aT:Nat}{cs:PQ}{x:DataW H}{ps:List MemPlace}(hu:P.underlying t=some (.slice e))(h:DataW.trod enc P w base sp held (aT+1) t cs=some (x,ps)):
  (
   cs=[.slice none 0 0]/\x=.nil)\/∃a len cap bL rest,cs=[.slice (some a) len cap]/\len<=cap/\cap<=maxLen/\x=.slice (bL.map (·.1)) rest/\
   (List.range len).mapM (fun i=>(w.cells? base (a.add (i*P.cellsOf e)) (P.cellsOf e)).bind (DataW.trod enc P w base sp held aT e))=some bL:=by
 unfold DataW.trod at h;rw[hu]at h;obtain _|⟨v,_|⟨_,_⟩⟩:=cs
 ·cases h
 ·cases v<;>first|(cases h;done)|skip
  rename_i a len cap;cases a with
  |none=>cases len<;>cases cap<;>first|(cases h;done)|(cases h;exact .inl ⟨rfl,rfl⟩)
  |some a=>
   simp only at h;split at h
   case isFalse=>cases h
   rename_i hc;cases hm:(List.range len).mapM (fun i=>(w.cells? base (a.add (i*P.cellsOf e)) (P.cellsOf e)).bind (DataW.trod enc P w base sp held aT e))with
   |none=>rw[hm]at h;cases h
   |some bL=>
    rw[hm]at h;simp only[zzcx,zzca]at h;obtain⟨rest,_,h2⟩:=h;cases h2;exact .inr ⟨a,len,cap,bL,_,rfl,hc.2.1,hc.2.2,rfl,hm⟩
 cases v<;>first|(cases h;done)|skip
 rename_i a len cap;cases a with
 |none=>cases len<;>cases cap<;>first|(cases h;done)|(simp at h;done)
 |some a=>first|(cases h;done)|(simp at h;done)
def trod_struct{t:TypeId}{fs:Array Field}{aT:Nat}{cs:PQ}{x:DataW H}{ps:List MemPlace}(hu:P.underlying t=some (.struct fs))(h:DataW.trod enc P w base sp held (aT+1) t cs=some (x,ps)):
  cs.length=P.cellsOf t/\∃xs,x=.agg (xs.map (·.1))/\fs.toList.mapM (fun f=>DataW.trod enc P w base sp held aT f.type ((cs.drop f.offset).take (P.cellsOf f.type)))=some xs:=by
 unfold DataW.trod at h;rw[hu]at h;simp only at h;split at h
 case isFalse=>cases h
 rename_i hc;simp only[zzca]at h;obtain⟨xs,h1,h2⟩:=h;cases h2;exact⟨hc,xs,rfl,h1⟩
def trod_array{t e:TypeId}{n:Nat}{aT:Nat}{cs:PQ}{x:DataW H}{ps:List MemPlace}(hu:P.underlying t=some (.array n e))(h:DataW.trod enc P w base sp held (aT+1) t cs=some (x,ps)):
  cs.length=P.cellsOf t/\∃xs,x=.agg (xs.map (·.1))/\(List.range n).mapM (fun i=>DataW.trod enc P w base sp held aT e ((cs.drop (i*P.cellsOf e)).take (P.cellsOf e)))=some xs:=by
 unfold DataW.trod at h;rw[hu]at h;simp only at h;split at h
 case isFalse=>cases h
 rename_i hc;simp only[zzca]at h;obtain⟨xs,h1,h2⟩:=h;cases h2;exact⟨hc,xs,rfl,h1⟩
def jK:∀(d aT:Nat)(t:TypeId)(cs:PQ)(x:DataW H)(ps:List MemPlace),DataW.trod enc P w base sp held aT t cs=some (x,ps)->ZX P d t=true->
  Typed P d t x/\ak w (G0 G1) (cB P d t x) cs/\(cB P d t x).all Qx=true/\cs.length=P.cellsOf t
 |0,_,_,_,_,_,_,h=>by cases h
 |d+1,0,_,_,_,_,h,_=>by cases h
 |d+1,aT+1,t,cs,x,ps,h,bV=>by
  unfold ZX at bV;cases hu:P.underlying t with
  |none=>simp[hu]at bV
  |some desc=>
   rw[hu]at bV;cases desc with
   |bool=>
    obtain⟨b,rfl,rfl⟩:=trod_bool hu h;exact⟨by simp[Typed,hu],by simp only[cB,hu];exact ak.cons (.bool b) ak.nil,by simp[cB,hu,Qx],(eq_of_beq bV).symm⟩
   |int k=>
    obtain⟨n,rfl,rfl,hw⟩:=trod_int hu h;exact⟨by simp[Typed,hu,hw],by simp only[cB,hu];exact ak.cons (.int k n) ak.nil,by simp[cB,hu,Qx],(eq_of_beq bV).symm⟩
   |string=>
    obtain⟨s,rfl,rfl,hw⟩:=ZZ hu h;refine⟨by simpa[Typed,hu]using hw,?_,by simp[cB,hu,Qx],(eq_of_beq bV).symm⟩;simp only[cB,hu];have:(⟨s.data.toList.toArray⟩:ByteArray)=s:=by cases s;simp
    rw[this];exact ak.cons (.str s) ak.nil
   |slice e=>
    simp only[zzac]at bV;rcases afv hu h with⟨rfl,rfl⟩|⟨a,len,cap,bL,rest,rfl,hlc,hcm,rfl,hm⟩
    ·exact⟨by simp[Typed,hu],by simp only[cB,hu];exact ak.cons Cm ak.nil,by simp[cB,hu,Qx],(eq_of_beq bV.1.1).symm⟩
    obtain⟨hl,hg⟩:=Qcx _ _ _ hm;have eH:bL.length=len:=by simpa using hl
    have SU:∀(i:Nat)(y:DataW H×List MemPlace),bL[i]?=some y->∃ec,ec.length=P.cellsOf e/\(∀(j:Nat)(v:Value),ec[j]?=some v->w.cell? ((a.add (i*P.cellsOf e)).add j)=some v)/\Typed P d e y.1/\ak w (G0 G1) (cB P d e y.1) ec/\(cB P d e y.1).all Qx=true:=fun i y hy=>by
     have hi:i<len:=by rw[<- eH];exact(zza.1 hy).1
     have:=hg i i y (by simp[hi]) hy;cases hc:w.cells? base (a.add (i*P.cellsOf e)) (P.cellsOf e)with
     |none=>rw[hc]at this;cases this
     |some ec=>
      rw[hc]at this;obtain⟨y1,y2⟩:=y;obtain⟨g1,g2,g3,g4⟩:=jK d aT e ec y1 y2 this bV.2;obtain⟨c1,c2⟩:=Lv hc;exact⟨ec,c1,c2,g1,g2,g3⟩
    refine⟨?_,?_,by simp[cB,hu,Qx],(eq_of_beq bV.1.1).symm⟩
    ·simp only[Typed,hu];refine⟨by simp;omega,fun y hy=>?_⟩;simp only[zzan]at hy;obtain⟨p,hp,rfl⟩:=hy;obtain⟨i,hi⟩:=zzcp.1 hp;obtain⟨ec,_,_,g1,_⟩:=SU i p hi;exact g1
    simp only[cB,hu];refine ak.cons ?_ ak.nil;have ee:((bL.map (·.1)).map (cB P d e)).length=len:=by simp[eH]
    have hz:P.cellsOf e≠0:=by simpa using bV.1.2
    have Z0:((bL.map (·.1)).map (cB P d e))≠[]->a=⟨a.block,a.off,none⟩/\a.block<w.heap.size:=fun hn=>by
     cases helems:bL with
     |nil=>simp[helems]at hn
     |cons y ys=>
      obtain⟨ec,c1,c2,_,g2,_⟩:=SU 0 y (by simp[helems]);cases hec:ec with
      |nil=>rw[hec]at c1;exact absurd c1.symm hz
      |cons v vs=>
       have:=c2 0 v (by simp[hec]);simp only[zzhk,Addr.add,if_true]at this;unfold World.cell? at this;split at this
       ·rename_i hb;split at this
        ·cases this
        rename_i hs;refine⟨?_,aR hb⟩;cases a;simp at hs;simp[hs]
       cases this
    have nW:∀(i j:Nat)(c:AV),Qu ((bL.map (·.1)).map (cB P d e)) i j=some c->∃v,w.cell? ⟨a.block,a.off+i*P.cellsOf e+j,none⟩=some v/\aA w (G0 G1) c v/\Qx c=true:=fun i j c hc=>by
     have aO:((bL.map (·.1)).map (cB P d e))≠[]:=by rintro h0;rw[h0]at hc;simp[Qu]at hc
     obtain⟨ha,_⟩:=Z0 aO;unfold Qu at hc;cases hy:bL[i]? with
     |none=>simp[hy]at hc
     |some y=>
      simp[hy]at hc;obtain⟨ec,c1,c2,_,g2,g3⟩:=SU i y hy;have hj:j<ec.length:=by rw[<- g2.1];exact(zza.1 hc).1
      have hv:ec[j]?=some ec[j]:=zzaf hj;refine⟨ec[j],?_,g2.2 j c _ hc hv,zzax.1 g3 c (zzad hc)⟩;have:=c2 j _ hv;rw[ha,bq,bq]at this;exact this
    have:=aA.sl (w:=w) (γ:=G0 G1) (rt:=.nn) (rows:=(bL.map (·.1)).map (cB P d e)) (a:=some a) (cap:=cap) a.block a.off (P.cellsOf e) (fun i j=>(w.cell? ⟨a.block,a.off+i*P.cellsOf e+j,none⟩).getD undef)
     (by rw[ee];exact hlc) (fun h=>by cases h) (fun hn=>⟨by rw[<- (Z0 hn).1],(Z0 hn).2⟩) (fun row ai=>?_) (fun i j c hc=>?_) (fun i j c hc=>?_) (by simp[qx])
    ·rwa [ee]at this
    ·simp only[zzcw,zzan]at ai;obtain⟨p,hp,rfl⟩:=ai;obtain⟨i,hi⟩:=zzcp.1 hp;obtain⟨ec',c1',_,_,g2',_⟩:=SU i p hi;have:=g2'.1;simp only[Function.comp];omega
    ·obtain⟨v,h1,h2,h3⟩:=nW i j c hc;rw[h1];exact⟨rfl,trivial,uf h2 h3⟩
    obtain⟨v,h1,h2,h3⟩:=nW i j c hc;rw[h1];exact h2
   |struct fs=>
    simp only[zzac,zzax]at bV;obtain⟨aH,xs,rfl,hm⟩:=trod_struct hu h;obtain⟨hl,hg⟩:=Qcx _ _ _ hm
    have SU:∀(i:Nat)(f:Field)(y:DataW H×List MemPlace),fs.toList[i]?=some f->xs[i]?=some y->Typed P d f.type y.1/\ak w (G0 G1) (cB P d f.type y.1) ((cs.drop f.offset).take (P.cellsOf f.type))/\(cB P d f.type y.1).all Qx=true:=fun i f y hf hy=>by
     obtain⟨y1,y2⟩:=y;obtain⟨g1,g2,g3,_⟩:=jK d aT f.type _ y1 y2 (hg i f (y1,y2) hf hy) (bV.2 f (zzad hf));exact⟨g1,g2,g3⟩
    have atp:∀p∈fs.toList.zip (xs.map (·.1)),∃(i:Nat)(f:Field)(y:DataW H×List MemPlace),fs.toList[i]?=some f/\xs[i]?=some y/\p=(f,y.1):=fun p hp=>by
     obtain⟨i,hi⟩:=zzcp.1 hp;rw[zzgt]at hi;obtain⟨h1,h2⟩:=hi;simp only[zzbn,zzca]at h2;obtain⟨y,h2,h3⟩:=h2;exact⟨i,p.1,y,h1,h2,by rw[h3]⟩
    refine⟨?_,?_,?_,aH⟩
    ·simp only[Typed,hu];refine⟨Nm hl,fun p hp=>?_⟩;obtain⟨i,f,y,h1,h2,rfl⟩:=atp p hp;exact(SU i f y h1 h2).1
    ·simp only[cB,hu];have afw:=td (P:=P) (cs:=cs) fs.toList 0 (P.cellsOf t) (eq_of_beq bV.1) aH.symm (zzbv _);rw[zzdd]at afw
     have:ak w (G0 G1) ((fs.toList.zip (xs.map (·.1))).map fun p=>cB P d p.1.type p.2).flatten (fs.toList.map fun f=>(cs.drop f.offset).take (P.cellsOf f.type)).flatten:=by
      refine DA _ _ (by simp at hl |-;omega) fun i as' vs h1 h2=>?_;simp only[zzbn,zzca]at h1 h2;obtain⟨p,hp,rfl⟩:=h1;obtain⟨f,hf,rfl⟩:=h2;rw[zzgt]at hp;obtain⟨q1,q2⟩:=hp;rw[hf]at q1;simp only[zzbn,zzca]at q2;obtain⟨y,hy,q2⟩:=q2;rw[<- ap q1,<- q2];exact(SU i f y hf hy).2.1
     rw[afw]at this;rwa [List.flatMap_def]
    simp only[cB,hu,zzax,List.mem_flatMap];rintro v ⟨p,hp,hv⟩;obtain⟨i,f,y,h1,h2,rfl⟩:=atp p hp;exact zzax.1 (SU i f y h1 h2).2.2 v hv
   |array n e=>
    simp only[zzac]at bV;obtain⟨aH,xs,rfl,hm⟩:=trod_array hu h;obtain⟨hl,hg⟩:=Qcx _ _ _ hm;have eH:xs.length=n:=by simpa using hl
    have SU:∀(i:Nat)(y:DataW H×List MemPlace),xs[i]?=some y->Typed P d e y.1/\ak w (G0 G1) (cB P d e y.1) ((cs.drop (i*P.cellsOf e)).take (P.cellsOf e))/\(cB P d e y.1).all Qx=true:=fun i y hy=>by
     have hi:i<n:=by rw[<- eH];exact(zza.1 hy).1
     obtain⟨y1,y2⟩:=y;obtain⟨g1,g2,g3,_⟩:=jK d aT e _ y1 y2 (hg i i (y1,y2) (by simp[hi]) hy) bV.2;exact⟨g1,g2,g3⟩
    refine⟨?_,?_,?_,aH⟩
    ·simp only[Typed,hu];refine⟨Nm eH,fun y hy=>?_⟩;simp only[zzan]at hy;obtain⟨p,hp,rfl⟩:=hy;obtain⟨i,hi⟩:=zzcp.1 hp;exact(SU i p hi).1
    ·simp only[cB,hu];have afw:=Lw (cs:=cs) (k:=P.cellsOf e) n (by rw[aH];exact eq_of_beq bV.1)
     have:ak w (G0 G1) ((xs.map (·.1)).map (cB P d e)).flatten ((List.range n).map fun i=>(cs.drop (i*P.cellsOf e)).take (P.cellsOf e)).flatten:=by
      refine DA _ _ (by simp[eH]) fun i as' vs h1 h2=>?_;simp only[zzcw,zzbn,zzca]at h1 h2;obtain⟨y,hy,rfl⟩:=h1;obtain⟨j,hj,rfl⟩:=h2;have hi:i<n:=by rw[<- eH];exact(zza.1 hy).1
      simp[hi]at hj;subst hj;exact(SU i y hy).2.1
     rw[afw]at this;rwa [List.flatMap_def]
    simp only[cB,hu,zzax,List.mem_flatMap,zzan];rintro v ⟨y,⟨p,hp,rfl⟩,hv⟩;obtain⟨i,hi⟩:=zzcp.1 hp;exact zzax.1 (SU i p hi).2.2 v hv
   |_=>simp at bV
def mh(P:Program)(d:Nat)(t:TypeId)(x:DataW H):AV:=if Jq P t then .agg (cB P d t x)else(cB P d t x).headD .junk
def afx{r:Reach}{b0:Nat}{t:TypeId}{v:Value}(dg:Value.okWide P w r b0 t v)(ha:Jq P t=false)(bV:∃d,ZX P d t=true):v.cells.toList=[v]:=by
 unfold Value.okWide at dg;unfold Jq at ha;obtain⟨d,bV⟩:=bV;cases d with
 |zero=>cases bV
 |succ d=>
  unfold ZX at bV;cases hu:P.underlying t with
  |none=>simp[hu]at bV
  |some desc=>
   rw[hu]at dg ha bV;cases desc<;>simp at ha bV dg
   all_goals
    unfold Cell.okWide at dg;rw[hu]at dg;cases v<;>first|rfl|(simp[Cell.ok,hu]at dg)
def afy{d:Nat}{r:Reach}{b0:Nat}{t:TypeId}{v:Value}{x:DataW H}{ps:List MemPlace}(bV:ZX P d t=true)(dg:Value.okWide P w r b0 t v)(h:DataW.Trod enc P w base sp held t v x ps):
  Typed P d t x/\aA w (G0 G1) (mh P d t x) v:=by
 obtain⟨aT,h⟩:=h;obtain⟨h1,h2,h3,h4⟩:=jK d aT t _ x ps h bV;refine⟨h1,?_⟩;unfold mh;cases ha:Jq P t with
 |true=>
  simp only[if_true];unfold Value.okWide at dg;unfold Jq at ha;split at ha
  ·rename_i hu;rw[hu]at dg;obtain⟨cs,rfl,_⟩:=dg;exact ak.Pz h2
  ·rename_i hu;rw[hu]at dg;obtain⟨cs,rfl,_⟩:=dg;exact ak.Pz h2
  cases ha
 |false=>
  simp only[zzbi,if_false];rw[afx dg ha ⟨d,bV⟩]at h2;cases hl:cB P d t x with
  |nil=>rw[hl]at h2;have:=h2.1;simp at this
  |cons a l=>rw[hl]at h2;exact h2.2 0 a v rfl rfl
def pQ(P:Program)(d:Nat):List TypeId->List (DataW H)->Prop
 |[],[]=>True
 |t::ts,x::xs=>Typed P d t x/\pQ P d ts xs
 |_,_=>False
def DB(P:Program)(d:Nat):List TypeId->List (DataW H)->P2
 |t::ts,x::xs=>mh P d t x::DB P d ts xs
 |_,_=>[]
def G2{d:Nat}{r:Reach}{b0:Nat}:∀{ts:List TypeId}{vs:PQ}{xs:List (DataW H)}{ps:List MemPlace},(∀t∈ts,ZX P d t=true)->(∀(j:Nat)(t:TypeId)(v:Value),ts[j]?=some t->vs[j]?=some v->Value.okWide P w r b0 t v)->
  DataW.TrodAll enc P w base sp held ts vs xs ps->pQ P d ts xs/\ak w (G0 G1) (DB P d ts xs) vs
 |[],[],[],_,_,_,_=>⟨trivial,ak.nil⟩
 |[],_::_,_,_,_,_,h=>by cases h
 |[],[],_::_,_,_,_,h=>by cases h
 |_::_,[],_,_,_,_,h=>by cases h
 |_::_,_::_,[],_,_,_,h=>by cases h
 |t::ts,v::vs,x::xs,ps,bV,dg,h=>by
  obtain⟨p,q,h1,h2,_⟩:=h;obtain⟨g1,g2⟩:=afy (bV t zd) (dg 0 t v rfl rfl) h1;obtain⟨k1,k2⟩:=G2 (fun t ht=>bV t (by simp[ht])) (fun j t v h1 h2=>dg (j+1) t v (Nm h1) (Nm h2)) h2;exact⟨⟨g1,k1⟩,ak.cons g2 k2⟩
def mj{W W':World}(hl:laidOutB P=true)(hb:Below W.heap.size W W'){sp':Nat->Bool}:∀{ts:List TypeId}{vs:PQ}{xs:List (DataW H)}{ps:List MemPlace},(∀t∈ts,P.readableRec t=true/\t<P.types.size)->
  DataW.TrodAll enc P W 0 (fun _=>true) true ts vs xs ps->(∀p∈ps,p.block<W.heap.size/\sp' p.block=true)->DataW.TrodAll enc P W' 0 sp' true ts vs xs ps
 |[],[],[],_,_,h,_=>h
 |[],_::_,_,_,_,h,_=>by cases h
 |[],[],_::_,_,_,h,_=>by cases h
 |_::_,[],_,_,_,h,_=>by cases h
 |_::_,_::_,[],_,_,h,_=>by cases h
 |t::ts,v::vs,x::xs,ps,hr,h,hp=>by
  obtain⟨p,q,h1,h2,rfl⟩:=h;refine⟨p,q,WideElems.Trod_stays hl (hr t zd).1 (hr t zd).2 h1 (fun y hy=>hb.same (hp y (by simp[hy])).1) (fun y hy=>(hp y (by simp[hy])).2),mj hl hb (fun t ht=>hr t (by simp[ht])) h2 fun y hy=>hp y (by simp[hy]),rfl⟩
def DC{gl:Nat->AV}{fid:FuncId}{fn:Func}{s:ChangeSpec}{bt:TypeId}{d:Nat}(ajs:s.vars=[])(amP:fn.resultTypes=#[bt])(hbt:P.underlying bt=some .bool)(hl:laidOutB P=true)
  (hts:(fn.params.toList.all fun t=>ZX P d t&&P.readableRec t&&decide (t<P.types.size))=true)(atq:∀ds:List (DataW H),ds.length=fn.params.size->(s.fn H ds).results=[.lit (.bool true)]/\(s.fn H ds).args=ds/\(s.fn H ds).vars=[])
  {W:World}{args:P1}{ds gs:List (DataW H)}{before:List MemPlace}{r:Reach}{b0:Nat}(iN:∀g,aA W (G0 G1) (gl g) (.pointer (some ⟨g,0,none⟩)))
  (dg:∀(j:Nat)(t:TypeId)(v:Value),fn.params[j]?=some t->args[j]?=some v->Value.okWide P W r b0 t v)
  (hW:DataW.Whole enc P fn.params.toList s.vars false W args.toList ds gs before)
  (hp:pQ P d fn.params.toList ds->Pure P gl fid (DB P d fn.params.toList ds) (.bool true)):
  Calls P fid args W fun e W'=>∃v,e=.returned v/\s.post enc P fn false true false false W args v W':=by
 have hW':=hW;obtain⟨p,q,hA,hV,rfl,hfz,nX⟩:=hW;rw[ajs]at hV;obtain⟨rfl,rfl⟩:=ChangeShapes.trodVars_none hV;simp only[zzax,zzac,am]at hts;obtain⟨h1,h2⟩:=G2 (fun t ht=>(hts t ht).1.1) (fun j t v q1 q2=>dg j t v (Nm q1) (Nm q2)) hA
 have aH:ds.length=fn.params.size:=by
  have:∀{ts:List TypeId}{vs:PQ}{xs:List (DataW H)}{ps:List MemPlace},DataW.TrodAll enc P W 0 (fun _=>true) true ts vs xs ps->xs.length=ts.length:=by
   intro ts;induction ts with
   |nil=>intro vs xs ps h;cases vs<;>cases xs<;>first|rfl|cases h
   |cons t ts ih=>
    intro vs xs ps h;cases vs<;>cases xs<;>first|(cases h;done)|skip
    obtain⟨_,_,_,h,_⟩:=h;simp[ih h]
  simpa using this hA
 obtain⟨k1,k2,k3⟩:=atq ds aH;have ah:∀x∈p,x.block<W.heap.size:=fun x hx=>hW'.lt x (by simp[hx]);refine((hp h1).2 G1 W args.toList iN h2).mono ?_;rintro e W' ⟨v,rfl,hb,hr⟩;obtain rfl:=hr.bw;refine⟨_,rfl,ds,[],p++[],[],p,[],hW',?_,?_,?_,World.keptBut_mono (fun x hx=>⟨hx,?_⟩) (hb.frame (·∈p++[])),fun h=>by cases h⟩
 ·rw[amP,zzat,k1];exact⟨[],[],shut_bool hbt true,rfl,rfl⟩
 ·rw[zzat,k2];exact mj hl hb (fun t ht=>⟨(hts t ht).1.2,(hts t ht).2⟩) hA fun x hx=>⟨ah x hx,by simpa using ah x hx⟩
 ·rw[ajs,zzat,k3];rfl
 simp at hx;exact .inr (.inl hx)
end
section
variable (P:Program) (gl:Nat->AV) (orc:UV) (Y:YT) (l2:List SO) (K:AS->Prop) (m:AM) (ms q:QP) (mc:AM) (r:List SO) (fl:List Fg) (T:P2) (o:SO) (x:AV×AM)
@[simp] def amQ(d:Option Nat)(op:aF)(xs:List bE):Vb T ⟨d,op,none,xs⟩=True:=nd rfl
@[simp] def amR(d:Option Nat)(op:aF)(t:Nat)(b:Bool)(xs:List bE):Vb T ⟨d,op,some (some t,b),xs⟩=(T.getD t .junk=.bool b):=nd rfl
@[simp] def av5:mT P gl orc Y l2 K m ms [] fl q mc T=(q=[]/\Zo P gl orc Y l2 ⟨T,mc⟩ K):=nd (by simp only[mT])
@[simp] def atr:mT P gl orc Y l2 K m ms (o::r) (.eff::fl) (x::q) mc T=(Vb T o/\effC P gl orc Y (ev gl T) mc o.dst x.1 x.2 o.op/\mT P gl orc Y l2 K m ms r fl q x.2 (put T o.dst x.1)):=nd (by simp only[mT])
@[simp] def av6:mT P gl orc Y l2 K m ms (o::r) (.pre::fl) q mc T=(Vb T o/\(rop P gl orc (ev gl T) m o.dst o.op).1/\mT P gl orc Y l2 K m ms r fl q mc (put T o.dst (rop P gl orc (ev gl T) m o.dst o.op).2)):=nd (by simp only[mT])
@[simp] def aoN:mT P gl orc Y l2 K m ms (o::r) (.oth::fl) q mc T=(Vb T o/\(rop P gl orc (ev gl T) m o.dst o.op).1/\(∀x∈ms,rop P gl orc (ev gl T) x.2 o.dst o.op=rop P gl orc (ev gl T) m o.dst o.op)/\mT P gl orc Y l2 K m ms r fl q mc (put T o.dst (rop P gl orc (ev gl T) m o.dst o.op).2)):=nd (by simp only[mT])
def Qaz{P:Program}{gl:Nat->AV}{orc:UV}{Y:YT}{fl:List Fg}{l l2:List SO}{s:AS}{Q:R0}(ms:QP)(h:mT P gl orc Y l2 (Q .normal) s.m ms l fl ms s.m s.T):vc P gl orc Y (.drawE fl l l2) s Q:=.inr (.inl ⟨ms,h⟩)
@[simp] def av7:iB P gl orc Y l2 K m ms [] fl q mc T=(q=[]/\Zo P gl orc Y l2 ⟨T,mc⟩ K):=nd (by simp only[iB])
@[simp] def att:iB P gl orc Y l2 K m ms (o::r) (.eff::fl) (x::q) mc T=(Vb T o/\effC P gl orc Y (ev gl T) mc o.dst x.1 x.2 o.op/\iB P gl orc Y l2 K m ms r fl q x.2 (put T o.dst x.1)):=nd (by simp only[iB])
@[simp] def av8:iB P gl orc Y l2 K m ms (o::r) (.pre::fl) q mc T=(Vb T o/\(rop P gl orc (ev gl T) m o.dst o.op).1/\iB P gl orc Y l2 K m ms r fl q mc (put T o.dst (rop P gl orc (ev gl T) m o.dst o.op).2)):=nd (by simp only[iB])
@[simp] def av9:iB P gl orc Y l2 K m ms (o::r) (.oth::fl) q mc T=(Vb T o/\(((rop P gl orc (ev gl T) m o.dst o.op).1/\∀x∈ms,rop P gl orc (ev gl T) x.2 o.dst o.op=rop P gl orc (ev gl T) m o.dst o.op)\/(rdC P gl orc Y (ev gl T) m o.dst m o.op/\∀x∈ms,rdC P gl orc Y (ev gl T) m o.dst x.2 o.op))/\iB P gl orc Y l2 K m ms r fl q mc (put T o.dst (rop P gl orc (ev gl T) m o.dst o.op).2)):=nd (by simp only[iB,arp])
variable (R:So)
@[simp] def awa:kj P gl orc Y R l2 K m ms [] fl q mc T=(q=[]/\Zo P gl orc Y l2 ⟨T,mc⟩ K):=nd (by simp only[kj])
@[simp] def atu:kj P gl orc Y R l2 K m ms (o::r) (.eff::fl) [x] mc T=(Vb T o/\effR P gl Y (ev gl T) mc R o.op/\kj P gl orc Y R l2 K m ms r fl [] x.2 (put T o.dst x.1)):=nd (by simp only[kj];simp)
@[simp] def atv(y:AV×AM):kj P gl orc Y R l2 K m ms (o::r) (.eff::fl) (x::y::q) mc T=(Vb T o/\effC P gl orc Y (ev gl T) mc o.dst x.1 x.2 o.op/\kj P gl orc Y R l2 K m ms r fl (y::q) x.2 (put T o.dst x.1)):=nd (by simp only[kj];simp)
@[simp] def awb:kj P gl orc Y R l2 K m ms (o::r) (.pre::fl) q mc T=(Vb T o/\(rop P gl orc (ev gl T) m o.dst o.op).1/\kj P gl orc Y R l2 K m ms r fl q mc (put T o.dst (rop P gl orc (ev gl T) m o.dst o.op).2)):=nd (by simp only[kj])
@[simp] def aoO:kj P gl orc Y R l2 K m ms (o::r) (.oth::fl) q mc T=(Vb T o/\(rop P gl orc (ev gl T) m o.dst o.op).1/\(∀x∈ms,rop P gl orc (ev gl T) x.2 o.dst o.op=rop P gl orc (ev gl T) m o.dst o.op)/\kj P gl orc Y R l2 K m ms r fl q mc (put T o.dst (rop P gl orc (ev gl T) m o.dst o.op).2)):=nd (by simp only[kj])
def Z1{P:Program}{gl:Nat->AV}{orc:UV}{Y:YT}{fl:List Fg}{l l2:List SO}{s:AS}{Q:R0}(hb:aec fl l=true)(ms:QP)(R:So)(hR:∃x:AV×AM,R x.1 x.2)
  (h:∀v m',R v m'->kj P gl orc Y R l2 (Q .normal) s.m (ms++[(v,m')]) l fl (ms++[(v,m')]) s.m s.T):vc P gl orc Y (.drawE fl l l2) s Q:=.inr (.inr ⟨hb,ms,R,hR,fun x hx=>h x.1 x.2 hx⟩)
def lD(P:Program)(gl:Nat->AV)(orc:UV)(m:AM):List SO->List Fg->AM->P2->QP
 |o::r,.eff::fl,mc,T=>(effV (sop P gl orc (ev gl T) mc o.dst o.op).2.1 o.op,(sop P gl orc (ev gl T) mc o.dst o.op).2.2)::lD P gl orc m r fl (sop P gl orc (ev gl T) mc o.dst o.op).2.2 (put T o.dst (effV (sop P gl orc (ev gl T) mc o.dst o.op).2.1 o.op))
 |o::r,.pre::fl,mc,T=>lD P gl orc m r fl mc (put T o.dst (rop P gl orc (ev gl T) m o.dst o.op).2)
 |o::r,.oth::fl,mc,T=>lD P gl orc m r fl mc (put T o.dst (rop P gl orc (ev gl T) m o.dst o.op).2)
 |_,_,_,_=>[]
@[simp] def atw:lD P gl orc m [] fl mc T=[]:=nd (by simp only[lD])
@[simp] def aoP:lD P gl orc m (o::r) (.eff::fl) mc T=(effV (sop P gl orc (ev gl T) mc o.dst o.op).2.1 o.op,(sop P gl orc (ev gl T) mc o.dst o.op).2.2)::lD P gl orc m r fl (sop P gl orc (ev gl T) mc o.dst o.op).2.2 (put T o.dst (effV (sop P gl orc (ev gl T) mc o.dst o.op).2.1 o.op)):=nd (by simp only[lD])
@[simp] def atx:lD P gl orc m (o::r) (.pre::fl) mc T=lD P gl orc m r fl mc (put T o.dst (rop P gl orc (ev gl T) m o.dst o.op).2):=nd (by simp only[lD])
@[simp] def amS:lD P gl orc m (o::r) (.oth::fl) mc T=lD P gl orc m r fl mc (put T o.dst (rop P gl orc (ev gl T) m o.dst o.op).2):=nd (by simp only[lD])
def Yz{P:Program}{gl:Nat->AV}{orc:UV}{Y:YT}{fl:List Fg}{l l2:List SO}{s:AS}{Q:R0}(h:mT P gl orc Y l2 (Q .normal) s.m (lD P gl orc s.m l fl s.m s.T) l fl (lD P gl orc s.m l fl s.m s.T) s.m s.T):vc P gl orc Y (.drawE fl l l2) s Q:=.inr (.inl ⟨_,h⟩)
def G3{P:Program}{gl:Nat->AV}{orc:UV}{z:Nat}{fl:List Fg}{l l2:List SO}{s:AS}{Q:R0}(hT:s.T.getD z .junk=.junk)(ms:QP)(h:iB P gl orc Y0 l2 (Q .normal) s.m ms l fl ms s.m s.T):vc P gl orc Y0 (.drawZ z fl l l2) s Q:=⟨fun _ _ _ _ h=>h,hT,ms,h⟩
end
attribute [simp] effC memEff effV effR rdC
def AM.wr(m:AM)(id:Nat)(cs:P2):AM:={m with boxes:=m.boxes.set id cs}
def ax2(m:AM)(id:Nat)(cs:P2){c:P2}(h:m.boxes[id]?=some c):(m.wr id cs).B=fun i=>if i=id then some cs else m.B i:=by
 funext i;simp only[AM.B,AM.wr];have ah:id<m.boxes.length:=(zza.1 h).1;by_cases hi:i=id
 ·subst hi;simp[ah]
 rw[zzbo (fun h=>hi h.symm),ab hi]
def aj(zs:Pi):P2:=zs.map (AV.int .i64)
def aB.fP{P:Program}{gl:Nat->AV}{Y:YT}{f:FuncId}{xs:P2}{m:AM}{K:So}(hc:bA P f)
  (
   h:∀(N:Nat)(w0:eO)(an:Nat->Nat->Prop)(γ:G)(w:World)(vs:PQ),au N w0 an γ w m.B m.L->cQ γ w m->ak w γ xs vs->
   Calls P f vs.toArray w fun e w'=>∃v γ' r m',e=.returned v/\ey w γ w' γ'/\au N w0 an γ' w' m'.B m'.L/\cQ γ' w' m'/\aA w' γ' r v/\K r m'):aB P gl Y f xs m K:=
 ⟨hc,fun N w0 an γ w vs hm hl _ _ hr=>(callsIn_wide (n:=0)).2 (h N w0 an γ w vs hm hl hr)⟩
def ym{w:World}{γ:G}:aA w γ (.aS []) (.tuple #[]):=.aS rfl fun i c v h=>by simp at h
abbrev I(n:Int):AV:=.int .i64 n
section
variable {H:Type} {P:Program} {n:Nat} {t e:TypeId} {x:DataW H}
def Xp{k:IntKind}(hu:P.underlying t=some (.int k))(h:Typed P (n+1) t x):∃m,x=.lit (.int k m)/\(Lit.int k m).wf=true:=by
 unfold Typed at h;rw[hu]at h;cases x with
 |lit l=>cases l<;>first|(cases h;done)|(obtain⟨rfl,h⟩:=h;exact⟨_,rfl,h⟩)
 |_=>cases h
def Ry(hu:P.underlying t=some .string)(h:Typed P (n+1) t x):∃s,x=.lit (.string s)/\s.length<=maxLen:=by
 unfold Typed at h;rw[hu]at h;cases x with
 |lit l=>cases l<;>first|(cases h;done)|exact⟨_,rfl,h⟩
 |_=>cases h
def G4(hu:P.underlying t=some (.slice e))(h:Typed P (n+1) t x):x=.nil\/∃bL spare,x=.slice bL spare/\bL.length<=maxLen/\∀y∈bL,Typed P n e y:=by
 unfold Typed at h;rw[hu]at h;cases x<;>first|(cases h;done)|exact .inl rfl|exact .inr ⟨_,_,rfl,h.1,h.2⟩
def Uw{fs:Array Field}(hu:P.underlying t=some (.struct fs))(h:Typed P (n+1) t x):∃parts,x=.agg parts/\parts.length=fs.size/\∀p∈fs.toList.zip parts,Typed P n p.1.type p.2:=by
 unfold Typed at h;rw[hu]at h;cases x<;>first|(cases h;done)|exact⟨_,rfl,h.1,h.2⟩
def Zf{k:IntKind}(hu:P.underlying t=some (.int k))(k':IntKind)(m:Int):cB P (n+1) t (.lit (.int k' m):DataW H)=[.int k' m]:=by simp only[cB,hu]
def afz(hu:P.underlying t=some .string)(l:List UInt8):cB P (n+1) t (.lit (.string l):DataW H)=[.str ⟨l.toArray⟩]:=by simp only[cB,hu]
def afA(hu:P.underlying t=some (.slice e)):cB P (n+1) t (.nil:DataW H)=[.sl .nil []]:=by simp only[cB,hu]
def amT(hu:P.underlying t=some (.slice e))(l sp:List (DataW H)):cB P (n+1) t (.slice l sp)=[.sl .nn (l.map (cB P n e))]:=by simp only[cB,hu]
def Uv{fs:Array Field}(hu:P.underlying t=some (.struct fs))(l:List (DataW H)):cB P (n+1) t (.agg l)=(fs.toList.zip l).flatMap fun p=>cB P n p.1.type p.2:=by simp only[cB,hu]
def Rz{k:Nat}(hu:P.underlying t=some (.array k e))(l:List (DataW H)):cB P (n+1) t (.agg l)=l.flatMap (cB P n e):=by simp only[cB,hu]
def Ov{d:Nat}(h:Jq P t=true):mh P d t x=.agg (cB P d t x):=by unfold mh;rw[h];rfl
def afB{d:Nat}(h:Jq P t=false){a:AV}(ha:cB P d t x=[a]):mh P d t x=a:=by unfold mh;rw[h,ha];rfl
end
def Wk(a b:AV):Prop:=∀(w:World)(γ:G)(v:Value),aA w γ a v->aA w γ b v
def Wk.refl(a:AV):Wk a a:=fun _ _ _ h=>h
def Ps{a:AV}:Wk a a:=Wk.refl a
def Wk.sl(rt:Rt)(rows:T5):Wk (.sl rt rows) (.sl .ro rows):=fun w γ v h=>by
 cases h with
 |sl b off sz cv hcap hnil ha hsz hc hr aY=>exact .sl b off sz cv hcap hnil ha hsz hc hr trivial
def WkL:P2->P2->Prop
 |[],[]=>True
 |a::r,b::s=>Wk a b/\WkL r s
 |_,_=>False
def WkL.rep{w:World}{γ:G}:∀{l l':P2}{vs:PQ},WkL l l'->ak w γ l vs->ak w γ l' vs
 |[],[],_,_,h=>h
 |[],_::_,_,h,_=>by cases h
 |_::_,[],_,h,_=>by cases h
 |a::l,b::l',[],_,h=>by have:=h.1;simp at this
 |a::l,b::l',v::vs,hk,h=>by
  have h0:aA w γ a v:=h.2 0 a v rfl rfl;have hs:ak w γ l vs:=⟨by have:=h.1;simpa using this,fun i x y h1 h2=>h.2 (i+1) x y (Nm h1) (Nm h2)⟩;exact ak.cons (hk.1 w γ v h0) (WkL.rep hk.2 hs)
def Zb{P:Program}{gl:Nat->AV}{f:FuncId}{l l':P2}{r:AV}(h:Pure P gl f l' r)(hk:WkL l l'):Pure P gl f l r:=
 ⟨h.1,fun ro w vs iN hr=>h.2 ro w vs iN (hk.rep hr)⟩
def Wk.rows{α:Type}(l:List α)(f g:α->P2)(hl:∀a,(g a).length=(f a).length)(hc:∀(a:α)(j:Nat)(c':AV),(g a)[j]?=some c'->∃c,(f a)[j]?=some c/\Wk c c'):Wk (.sl .ro (l.map f)) (.sl .ro (l.map g)):=fun w γ v h=>by
 have key:∀(i j:Nat)(c':AV),Qu (l.map g) i j=some c'->∃c,Qu (l.map f) i j=some c/\Wk c c':=fun i j c' h=>by
  unfold Qu at h |-
  rw[zzbn]at h |-
  cases hi:l[i]? with
  |none=>rw[hi]at h;cases h
  |some a=>
   rw[hi]at h;simpa using hc a j c' (Nm h)
 obtain⟨a,cap,b,off,sz,cv,rfl,s1,_⟩:=h.bZ;have e1:(l.map f).length=(l.map g).length:=zd
 rw[e1];refine qd.mk' (b:=b) (off:=off) (sz:=sz) (cv:=cv) ⟨by rw[<- e1];exact s1.hcap,s1.hnil,fun hn=>s1.at_ (Nm hn),fun row hr=>?_,fun i j c' h=>?_,fun i j c' h=>?_⟩ trivial
 ·simp at hr;obtain⟨x,hx,rfl⟩:=hr;rw[hl x];exact s1.hsz _ (by simp;exact⟨x,hx,rfl⟩)
 ·obtain⟨c,h1,h2⟩:=key i j c' h;exact s1.cell i j c h1
 obtain⟨c,h1,h2⟩:=key i j c' h;exact h2 _ _ _ (s1.rep i j c h1)
def Zk{P:Program}{gl:Nat->AV}{f:FuncId}{l:P2}{r r':AV}(h:Pure P gl f l r)(hk:Wk r r'):Pure P gl f l r':=
 ⟨h.1,fun ro w vs hg hr=>(h.2 ro w vs hg hr).mono fun _ _⟨v,h1,h2,h3⟩=>⟨v,h1,h2,hk _ _ _ h3⟩⟩
def Qdq{l l':P2}(h:WkL l l'):Wk (.agg l) (.agg l'):=fun w γ v hr=>by
 have key:∀{l l':P2},WkL l l'->l.length=l'.length/\∀(i:Nat)(c':AV),l'[i]?=some c'->∃c,l[i]?=some c/\Wk c c':=by
  intro l;induction l with
  |nil=>intro l' h;cases l' with
   |nil=>exact⟨rfl,fun i c' h=>by simp at h⟩
   |cons _ _=>exact h.elim
  |cons a l ih=>intro l' h;cases l' with
   |nil=>exact h.elim
   |cons b l'=>
    obtain⟨h1,h2⟩:=ih h.2;refine⟨by simp[h1],fun i c' hc=>?_⟩;cases i with
    |zero=>simp at hc;subst hc;exact⟨a,rfl,h.1⟩
    |succ i=>simpa using h2 i c' (Nm hc)
 obtain⟨h1,h2⟩:=key h;cases hr with
 |agg hl hc=>
  refine .agg zE fun i c' v uh hv=>?_;obtain⟨c,g1,g2⟩:=h2 i c' uh;exact g2 _ _ _ (hc i c v g1 hv)
section
variable {B l:T5} {i j:Nat}
def Qn(h:i<B.length):Qi (B++l) i=Qi B i:=by simp[Qi,zzaw,-Yd,zzak h]
def Yl(v:P2)(h:i<B.length):(B++l).set i v=B.set i v++l:=by rw[List.set_append_left _ _ h]
def Ya(v:P2)(h:i≠j):Qi (B.set i v) j=Qi B j:=by simp[Qi,zzaw,-Yd,zzbo h]
def Yi(v:P2)(h:i<B.length):Qi (B.set i v) i=v:=by simp[Qi,zzaw,-Yd,zzbh h]
def Jn(h:i<B.length):B[i]?=some (Qi B i):=by
 rw[zzaf h];simp[Qi,zzaw,-Yd,h]
end
def bC(S:Nat->Prop)(B B':T5):Prop:=B.length<=B'.length/\∀j,j<B.length->¬S j->Qi B' j=Qi B j
def bC.refl(S:Nat->Prop)(B:T5):bC S B B:=⟨zzab _,fun _ _ _=>rfl⟩
def bC.app{S:Nat->Prop}{B B':T5}(h:bC S B B')(l:T5):bC S B (B'++l):=
 ⟨by have:=h.1;simp;omega,fun j hj hs=>by rw[Qn (by have:=h.1;omega)];exact h.2 j hj hs⟩
def bC.set{S:Nat->Prop}{B B':T5}(h:bC S B B'){i:Nat}(hi:S i\/B.length<=i)(v:P2):bC S B (B'.set i v):=
 ⟨by have:=h.1;simpa using this,fun j hj hs=>by rw[Ya v (by rintro rfl;obtain hi|hi:=hi;exact hs hi;omega)];exact h.2 j hj hs⟩
def bC.trans{S:Nat->Prop}{B B' B'':T5}(h:bC S B B')(k:bC (fun i=>S i\/B.length<=i) B' B''):bC S B B'':=
 ⟨zzbb h.1 k.1,fun j hj hs=>by rw[k.2 j (by have:=h.1;omega) (by rintro(h|h);exact hs h;omega)];exact h.2 j hj hs⟩
def bC.mono{S S':Nat->Prop}{B B':T5}(h:bC S B B')(hs:∀i,S i->S' i):bC S' B B':=⟨h.1,fun j hj hn=>h.2 j hj fun k=>hn (hs j k)⟩
def Qe(s:Int×Int):P2:=[I s.1,I s.2]
def cE:List (Int×Int)->P2
 |[]=>[]
 |s::r=>I s.1::I s.2::cE r
@[simp] theorem awc:cE []=[]:=rfl
@[simp] theorem pR(s:Int×Int)(r:List (Int×Int)):cE (s::r)=I s.1::I s.2::cE r:=rfl
def Yh:∀l,(cE l).length=l.length*2
 |[]=>rfl
 |s::r=>by simp[Yh r];omega
def Qcc:∀a b,cE (a++b)=cE a++cE b
 |[],_=>rfl
 |s::r,b=>by simp[Qcc r b]
def G5:∀(l:List (Int×Int))(i:Nat),(cE l).drop (i*2)=cE (l.drop i)
 |[],i=>zd
 |s::r,0=>zd
 |s::r,i+1=>by rw[show(i+1)*2=i*2+1+1 by omega];simp[G5 r i]
def uD{l:List (Int×Int)}{i:Nat}{s:Int×Int}(h:l[i]?=some s):(cE l).drop (i*2)=I s.1::I s.2::cE (l.drop (i+1)):=by
 rw[G5];have ah:=(zza.1 h).1;rw[zzai ah];have:l[i]=s:=(zza.1 h).2;rw[this,pR]
def FT{l:List (Int×Int)}{i:Nat}{s:Int×Int}(h:l[i]?=some s):(cE l).drop (i*2+1)=I s.2::cE (l.drop (i+1)):=by
 rw[<- zzdr,uD h];rfl
def Ow:∀(l:List (Int×Int))(i:Nat)(s:Int×Int),i<l.length->setA (cE l) (i*2) [I s.1,I s.2]=cE (l.set i s)
 |[],i,s,h=>by simp at h
 |t::r,0,s,h=>by simp[setA]
 |t::r,i+1,s,h=>by
  have ih:=Ow r i s (Nm h);simp only[setA]at ih |-
  rw[show(i+1)*2=i*2+1+1 by omega,show i*2+1+1+1=i*2+1+1+1 from rfl];simp only[pR,zzec];rw[ih]
def w8:∀(l:List (Int×Int))(i:Nat)(s:Int×Int)(y:Int),l[i]?=some s->(cE l).set (i*2+1) (I y)=cE (l.set i (s.1,y))
 |[],i,s,y,h=>by simp at h
 |t::r,0,s,y,h=>by simp at h;subst h;simp
 |t::r,i+1,s,y,h=>by
  have ih:=w8 r i s y (Nm h);rw[show(i+1)*2+1=i*2+1+1+1 by omega];simp only[pR,zzec];rw[ih]
def Bv:∀(l:List (Int×Int))(r:P2),aZ 2 l.length (cE l++r)=l.map Qe
 |[],_=>rfl
 |s::l,r=>by simp[Qe,Bv l r]
def Qef(l:List (Int×Int)):aZ 2 l.length (cE l)=l.map Qe:=by simpa using Bv l []
def C5(l:List (Int×Int)):Zl (cE l)=true:=by
 induction l with
 |nil=>rfl
 |cons s r ih=>simp only[pR,Zl,List.all_cons,zzac]at ih |-;exact⟨rfl,rfl,ih⟩
def Ri{a b:P2}(ha:Zl a=true)(hb:Zl b=true):Zl (a++b)=true:=by
 simp only[Zl,zzfm,zzac]at*;exact⟨ha,hb⟩
def G6(l:List (Int×Int)):(l.map Qe).flatten=cE l:=by
 induction l with
 |nil=>rfl
 |cons s r ih=>simp[Qe,ih]
def RA(n:Nat):bF n [I 0,I 0]=cE (List.replicate n (0,0)):=by
 induction n with
 |zero=>rfl
 |succ n ih=>rw[bF,ih];rfl
def Zy{l:List (Int×Int)}{i:Nat}{s:Int×Int}(h:l[i]?=some s):Qi (l.map Qe) i=[I s.1,I s.2]:=Qw (by simp[h,Qe])
def oQ:∀(bs:P2)(a b:P2),bs.length=b.length->setA (a++b) a.length bs=a++bs
 |[],a,b,h=>by cases b with
  |nil=>rfl
  |cons _ _=>simp at h
 |x::bs,a,[],h=>by simp at h
 |x::bs,a,y::b,h=>by
  have ih:=oQ bs (a++[x]) b (Nm h);rw[setA];have:(a++y::b).set a.length x=a++[x]++b:=zd
  rw[this];simpa using ih
def jL(bs a r:P2)(h:bs.length=a.length):setA (a++r) 0 bs=bs++r:=by
 have uk:∀(bs pre a r:P2),bs.length=a.length->setA (pre++a++r) pre.length bs=pre++bs++r:=by
  intro bs;induction bs with
  |nil=>intro pre a r h;cases a with
   |nil=>rfl
   |cons _ _=>simp at h
  |cons x bs ih=>intro pre a r h;cases a with
   |nil=>simp at h
   |cons y a=>
    rw[setA];have e:(pre++y::a++r).set pre.length x=pre++[x]++a++r:=zd
    rw[e];have:=ih (pre++[x]) a r (Nm h);rw[show(pre++[x]).length=pre.length+1 by simp]at this;rw[this];simp
 have:=uk bs [] a r h;simpa using this
def aty(S:T5->Prop)(y:P2->AM->(Bool->AM->Prop)->Prop)(K:AM->Prop):T5->AM->Prop
 |[],m=>∀m',fB m m'->K m'
 |x::xs,m=>∀m',fB m m'->∀K':Bool->AM->Prop,(∀kX,S kX.boxes->aty S y K xs kX->K' true kX)->(∀kX,(∀m3,fB kX m3->K m3)->K' false kX)->y x m' K'
def bW(O:Nat->Prop)(m m':AM):Prop:=m.boxes.length<=m'.boxes.length/\(∀j,j<m.boxes.length->¬O j->Qi m'.boxes j=Qi m.boxes j)/\(∃lx,m'.lens=m.lens++lx)/\∀l,m.st l≠.gone->m'.st l=m.st l
def fB.toO{m m':AM}(h:fB m m')(O:Nat->Prop):bW O m m':=by
 obtain⟨⟨bx,h1⟩,h2,h3⟩:=h;exact⟨by rw[h1];simp,fun j hj _=>by rw[h1,Qn hj],h2,h3⟩
def bW.refl(O:Nat->Prop)(m:AM):bW O m m:=(fB.refl m).toO O
def bW.trans{O:Nat->Prop}{m m' kX:AM}(h:bW O m m')(k:bW O m' kX):bW O m kX:=by
 obtain⟨h1,h2,⟨c,h3⟩,h4⟩:=h;obtain⟨k1,k2,⟨c',k3⟩,k4⟩:=k;exact⟨zzbb h1 k1,fun j hj ho=>by rw[k2 j zE ho,h2 j hj ho],⟨c++c',by rw[k3,h3,zzbg]⟩,fun l hl=>by rw[k4 l (by rw[h4 l hl];exact hl),h4 l hl]⟩
def bW.gone{O:Nat->Prop}{m m':AM}(h:bW O m m')(l:Nat):bW O (m.at_ l .gone) (m'.at_ l .gone):=
 ⟨h.1,h.2.1,h.2.2.1,fun l' eH=>by
  by_cases e:l'=l
  ·subst e;simp at eH
  simp only[ajp,uw,e,if_false]at eH |-;exact h.2.2.2 l' eH⟩
def N1(O:Nat->Prop)(m m':AM):Prop:=m.boxes.length<=m'.boxes.length/\∀j,O j->Qi m'.boxes j=Qi m.boxes j
def OU(O:Nat->Prop)(n n':Nat)(j:Nat):Prop:=O j\/(n<=j/\j<n')
def atz{O:Nat->Prop}{a b c:Nat}(h1:a<=b)(h2:b<=c):OU (OU O a b) b c=OU O a c:=by
 funext j;unfold OU;apply propext;constructor
 ·rintro((h|h)|h)
  ·exact .inl h
  ·exact .inr ⟨h.1,zE⟩
  exact .inr ⟨zE,h.2⟩
 rintro(h|h)
 ·exact .inl (.inl h)
 rcases zzaa j b with h3|h3
 ·exact .inl (.inr ⟨h.1,h3⟩)
 exact .inr ⟨h3,h.2⟩
def bW.Z2{O:Nat->Prop}{m m' kX:AM}(h:bW O m m')(k:bW (OU O m.boxes.length m'.boxes.length) m' kX):bW O m kX:=by
 obtain⟨h1,h2,⟨c,h3⟩,h4⟩:=h;obtain⟨k1,k2,⟨c',k3⟩,k4⟩:=k;exact⟨zzbb h1 k1,fun j hj ho=>by rw[k2 j zE (by rintro(h|h);exact ho h;omega),h2 j hj ho],⟨c++c',by rw[k3,h3,zzbg]⟩,fun l hl=>by rw[k4 l (by rw[h4 l hl];exact hl),h4 l hl]⟩
def sE(y:P2->AM->(Bool->AM->Prop)->Prop)(K:AM->Prop):T5->(Nat->Prop)->AM->Prop
 |[],O,m=>∀m',bW O m m'->K m'
 |x::xs,O,m=>∀m',bW O m m'->∀K':Bool->AM->Prop,(∀kX,N1 (OU O m.boxes.length m'.boxes.length) m' kX->sE y K xs (OU O m.boxes.length m'.boxes.length) kX->K' true kX)->
   (∀kX,(∀m3,bW (OU O m.boxes.length m'.boxes.length) kX m3->K m3)->K' false kX)->y x m' K'
def sE.ext{O:Nat->Prop}{y:P2->AM->(Bool->AM->Prop)->Prop}{K:AM->Prop}{xs:T5}{m m':AM}(h:sE y K xs O m)(e:bW O m m'):sE y K xs (OU O m.boxes.length m'.boxes.length) m':=by
 cases xs with
 |nil=>exact fun m2 e2=>h m2 (e.Z2 e2)
 |cons x xs=>
  intro m2 e2;rw[atz e.1 e2.1];exact h m2 (e.Z2 e2)
def XP(P:Program)(gl:Nat->AV)(f:FuncId)(first cap:P2)(xs:T5):Prop:=
 ∀(Y:YT)(l:Nat)(m:AM)(K:AM->Prop),sE (Y l) K xs (fun _=>False) m->aB P gl Y f (first++[.yld l]++cap) m fun _ m'=>K m'
def qW{P:Program}{gl:Nat->AV}{orc:UV}{Y:YT}{s:AS}{Q:R0}{g:bE}{ps:Pa}{gZ body:SC}{f:FuncId}{first cap:P2}{xs:T5}
  (hg:ev gl s.T g=.fn f first cap)(cR:XP P gl f first cap xs)(aH:∀x∈xs,x.length=ps.length)(I:(Nat->Prop)->Nat->AM->Prop)(X:(Nat->Prop)->Exit->AM->Prop)
  (h0:I (fun _=>False) 0 s.m)
  (hI:∀O i m m',I O i m->bW O m m'->I (OU O m.boxes.length m'.boxes.length) i m')(hX:∀O ex m m',X O ex m->bW O m m'->X O ex m')
  (
   hb:∀(O:Nat->Prop)(l i:Nat)(m:AM)(x:P2),(∀j,O j->s.m.boxes.length<=j/\j<m.boxes.length)->s.m.boxes.length<=m.boxes.length->s.m.st l=.gone->m.st l=.ready->I O i (m.at_ l .gone)->xs[i]?=some x->∀K':R0,
   (∀s',N1 O m s'.m->I O (i+1) (s'.m.at_ l .gone)->K' .normal s')->(∀s',m.boxes.length<=s'.m.boxes.length->X O .ret (s'.m.at_ l .gone)->K' .ret s')->(∀id s',m.boxes.length<=s'.m.boxes.length->X O (.exit id) (s'.m.at_ l .gone)->K' (.exit id) s')->
   vc P gl orc Y gZ ⟨Qaj s.T ps x,m⟩ (J4 l fun s'=>vc P gl orc Y body s' K'))
  (ZV:∀O m,I O xs.length m->Q .normal ⟨s.T,m⟩)(hex:∀O ex m,X O ex m->Q ex ⟨s.T,m⟩):vc P gl orc Y (.rfunc g ps gZ body) s Q:=by
 simp only[vc,hg];intro hl;generalize dQ:s.m.ln=l at hl;refine cR _ l s.m.bJ (fun m'=>CQ l s.T m' Q (m'.st l)) ?_;have iC:∀{O:Nat->Prop}{m m':AM},m.st l=.ready->bW O m m'->m'.st l=.ready:=fun h e=>by rw[e.2.2.2 l (by rw[h];simp),h]
 have key:∀(n i:Nat)(O:Nat->Prop)(m:AM),i+n=xs.length->I O i (m.at_ l .gone)->(∀j,O j->s.m.boxes.length<=j/\j<m.boxes.length)->s.m.boxes.length<=m.boxes.length->m.st l=.ready->
   sE (Yin Y l ps.length (fun args m K=>vc P gl orc Y gZ ⟨Qaj s.T ps args,m⟩ (J4 l fun s'=>vc P gl orc Y body s' (QD l K))) l) (fun m'=>CQ l s.T m' Q (m'.st l)) (xs.drop i) O m:=by
  intro n;induction n with
  |zero=>
   intro i O m hi hIm C3 gL hm;rw[zzam zE];intro m' e;simp only[iC hm e,CQ];obtain rfl:i=xs.length:=zE
   exact ZV _ _ (hI _ _ _ _ hIm (e.gone l))
  |succ n ih=>
   intro i O m hi hIm C3 gL hm;have ah:i<xs.length:=zE
   rw[zzai ah];intro m' e K' hT hF;have atA:s.m.boxes.length<=m'.boxes.length:=zzbb gL e.1
   have amU:∀j,OU O m.boxes.length m'.boxes.length j->s.m.boxes.length<=j/\j<m'.boxes.length:=by
    rintro j (h|h)
    ·exact⟨(C3 j h).1,zzaz (C3 j h).2 e.1⟩
    exact⟨zE,h.2⟩
   have kZ:=hI _ _ _ _ hIm (e.gone l);simp only[Jp]at kZ;simp only[Yin,if_true];refine⟨iC hm e,aH _ (zzdi ah),?_⟩;refine hb (OU O m.boxes.length m'.boxes.length) l i m' xs[i] amU atA hl (iC hm e) kZ (zzaf ah) (QD l K') (fun s' hS' kZ=>?_) (fun s' cw hQ=>?_) fun id s' cw hQ=>?_
   ·refine hT _ (by simpa[N1]using hS') (ih (i+1) _ _ zE ?_ (fun j hj=>⟨(amU j hj).1,by simpa using zzaz (amU j hj).2 hS'.1⟩) (by simpa using zzbb atA hS'.1) zd);simpa using kZ
   ·refine hF _ fun m3 e3=>?_;have h3:m3.st l=.done .ret:=by have:=e3.2.2.2 l zd;simpa using this
    simp only[h3];exact hex _ _ _ (hX _ _ _ _ hQ (by have:=e3.gone l;simpa using this))
   refine hF _ fun m3 e3=>?_;have h3:m3.st l=.done (.exit id):=by have:=e3.2.2.2 l zd;simpa using this
   simp only[h3];exact hex _ _ _ (hX _ _ _ _ hQ (by have:=e3.gone l;simpa using this))
 have hI0:I (fun _=>False) 0 (s.m.bJ.at_ l .gone):=by
  have:=hI (fun _=>False) 0 s.m (s.m.bJ.at_ l .gone) h0 ⟨by simp[AM.bJ],fun j _ _=>by simp[AM.bJ],⟨[],by simp[AM.bJ]⟩,fun l' eH=>by
   have aO:l'≠l:=by rintro rfl;exact eH hl
   simp[AM.bJ,dQ,uw,aO]⟩
  have e:OU (fun _=>False) s.m.boxes.length (s.m.bJ.at_ l .gone).boxes.length=fun _=>False:=by
   funext j;simp[OU,AM.bJ]
  rw[e]at this;exact this
 have:=key xs.length 0 (fun _=>False) s.m.bJ zd hI0 (fun _ h=>h.elim) (by simp[AM.bJ]) (by simp[AM.bJ,dQ]);simpa using this
end Go.Abs
namespace Go.Proofs.YthjppoincojfkaaGreatDoor
open Go Go.Abs Go.RowKit Go.Lib
def RB{P:Program}(w:World)(dT sT ty elem:TypeId)(i:TypeInfo)(b o Lx afC:Nat)(a:Addr)(LA afD:Nat)(cs:PQ)
  (hu:P.underlying dT=some (.slice elem))(hi:P.info? elem=some i)(hn:cs.length=Nat.min LA Lx*i.size)
  (ax3:∀j v,cs[j]?=some v->w.cell? (a.add j)=some v)(hc:∀j,j<cs.length->(w.cell? ⟨b,o+j,none⟩).isSome=true)(hf:∀j,j<cs.length->w.frozen? ⟨b,o+j,none⟩=false)(h1:∀v∈cs,v.oneCell'=true):
  (Builtin.copy_ #[dT,sT] ty #[.slice (some ⟨b,o,none⟩) Lx afC,.slice (some a) LA afD]).run P w=.ok (goInt (Nat.min LA Lx)) (w.setCells b o cs):=by
 have hl:=run_loadCells_list (P:=P) w a cs ax3;have bM:=run_storeCells_cells (P:=P) b o cs 0 w (Nm hc) (Nm hf) h1;simp only[zzcm]at bM;simp[Builtin.copy_,run_underlying hu,Builtin.lenOf,Builtin.firstCells,sizeOf,typeInfo,hi,<- hn,hl,bM]
def kP{P:Program}(w:World)(dT sT ty elem:TypeId)(i:TypeInfo)(b o Lx afC b2 o2 LA afD k:Nat)(hu:P.underlying dT=some (.slice elem))(hi:P.info? elem=some i)
  {arr RC:P1}{e e2:TypeId}(hb:w.heap[b]?=some (.cells arr e (0,0)))(fh:w.heap[b2]?=some (.cells RC e2 (0,0)))(hk:Nat.min LA Lx=k)
  (h1:o+k*i.size<=arr.size)(h2:o2+k*i.size<=RC.size)(ho:∀v∈RC.toList,v.oneCell'=true):
  (Builtin.copy_ #[dT,sT] ty #[.slice (some ⟨b,o,none⟩) Lx afC,.slice (some ⟨b2,o2,none⟩) LA afD]).run P w=.ok (goInt k) (w.setCells b o ((RC.toList.drop o2).take (k*i.size))):=by
 have aH:((RC.toList.drop o2).take (k*i.size)).length=k*i.size:=by rw[zzas,zzcy,zzbj];omega
 have:=RB (P:=P) w dT sT ty elem i b o Lx afC ⟨b2,o2,none⟩ LA afD ((RC.toList.drop o2).take (k*i.size)) hu hi (by rw[aH,hk])
  (
   fun j v hj=>by
   rw[Go.Abs.bq];show w.cell? ⟨b2,o2+j,none⟩=_;rw[aN fh];rw[zzbk]at hj;split at hj
   ·rw[zzbl]at hj;simpa using hj
   cases hj)
  (fun j hj=>by rw[aN hb,zzah zE];rfl) (fun j hj=>Zp hb)
  (fun v hv=>ho v (zzdk (zzcc hv)))
 rw[hk]at this;exact this
def pS{P:Program}(w:World){ops:Array Oper}{rest:List Oper}{o:Oper}{a:Act}{Q:PP}(JN:o.guard=none)(d s:Operand)(t t':TypeId)
  (ho:o.op=.call {callee:=.builtin .copy,args:=#[d,s],argTypes:=#[t,t']})(v u:Value)(hd:a.eval d=v)(hs:a.eval s=u){v':Value}{w':World}
  (hr:(Builtin.copy_ #[t,t'] o.type #[v,u]).run P w=.ok v' w')(h:wpList P ops Q rest (a.put o.dst v') w'):wpList P ops Q (o::rest) a w:=
 wpList_plain JN fun _ hK=>by
  unfold Oper.wp execOp;simp only[ho,resolve,invoke,builtin,Sem.run_bind,Sem.run_pure,Result.andThen_ok,List.map_toArray,zzar,zzct,hd,hs,hr];exact hK _ _ h
def yo{P:Program}{ops:Array Oper}{o:Oper}{a:Act}{w:World}{K:Act->World->Prop}{Q:PP}{E:Prop}
  (hg:o.guard=none)(d x:Operand)(dT sT:TypeId)(dh:o.op=Op.call {callee:=Callee.builtin Builtin.copy,args:=#[d,x],argTypes:=#[dT,sT]})
  (v u:Value)(hd:a.eval d=v)(hx:a.eval x=u){v':Value}{w':World}(hr:(Builtin.copy_ #[dT,sT] o.type #[v,u]).run P w=.ok v' w')(hK:K (a.put o.dst v') w'):
  if Region.wanted o (yielded ops a.tmps)=true then Oper.wp P o a w K Q else E:=by
 have hw:Region.wanted o (yielded ops a.tmps)=true:=by simp[Region.wanted,hg]
 rw[ac hw];unfold Oper.wp;simp[execOp,dh,resolve,invoke,builtin,hd,hx,hr,Result.andThen];exact hK
def G7{w:World}{b:Nat}{arr:P1}{te:TypeId}{f:Nat×Nat}(h:w.heap[b]?=some (.cells arr te f)):w.shape? b=some (te,arr.size):=by
 simp[World.shape?,h]
def RD(b n c i vb vc:Nat)(arr uT:P1)(te tv:TypeId)(w:World)(hi:i<n)(cA:n+1<=c)(hn:n+1<=1000000000)(hvb:vb≠b)
  (hb:w.heap[b]?=some (.cells arr te (0,0)))(hv:w.heap[vb]?=some (.cells uT tv (0,0)))(hs:c*7<=arr.size)(hsv:7<=uT.size)(ho:∀v∈arr.toList,v.oneCell'=true)(hov:∀v∈uT.toList,v.oneCell'=true):
  Calls Tryz.prog 150 #[.slice (some ⟨b,0,none⟩) n c,.int .i64 i,.slice (some ⟨vb,0,none⟩) 1 vc] w fun e w'=>
   e=.returned (.slice (some ⟨b,0,none⟩) (n+1) c)/\w'=(w.drew.setCells b ((i+1)*7) ((arr.toList.drop (i*7)).take ((n-i)*7))).setCells b (i*7) (uT.toList.take 7):=by
 obtain⟨i36,DD,dO⟩:∃x,Tryz.prog.info? 47=some x/\x.size=7:=⟨_,rfl,rfl⟩;have lu:=G7 hv;have hsb:=G7 hb;have Ek:w.frozen? ⟨vb,0,none⟩=false:=Zp hv;have hfe:w.frozen? ⟨vb,uT.size,none⟩=false:=Zp hv
 have ax4:∀lb cb,(callFunc 202 #[.slice (some ⟨vb,0,none⟩) 1 vc,.slice (some ⟨b,(i+1)*7,none⟩) lb cb]).run Tryz.prog w=.ok (.value (.bool false)) w:=fun lb cb=>by
  rw[run_callFunc_extern Tryz.func202 (by kernel_rfl) (by kernel_rfl) (by kernel_rfl) (e:=Extern.SlicesOverlaps.overlaps #[28,28] #[4]) (by kernel_rfl),
   Lib.run_overlaps_apart w 28 4 47 Tryz.underlying28 7 (fun w=>by simp[Go.sizeOf,typeInfo,DD,dO]) ⟨vb,0,none⟩ ⟨b,(i+1)*7,none⟩ 1 vc lb cb hvb tv te uT.size arr.size lu hsb zE Ek hfe]
  rfl
 have lq:IntKind.i64.wrap ((i:Int)+1)=(i:Int)+1:=by rw[IntKind.wrap_i64];omega
 have hz2:¬((i:Int)=(n:Int)):=zE
 have fV:IntKind.i64.wrap ((n:Int)+1)=(n:Int)+1:=by rw[IntKind.wrap_i64];omega
 have htn:((i:Int)+1).toNat=i+1:=zE
 have alH:((n:Int)+1).toNat=n+1:=zE
 have dx:(0:Int)<=(i:Int)+1:=zE
 have fh:¬(c=i+1):=zE
 have hb3:(i:Int)<=(n:Int)+1:=zE
 have hb4:¬(c=i):=zE
 have PA:(n+1)*7<=c*7:=zzbc _ cA;have dU:w.drew.heap[b]?=some (.cells arr te (0,0)):=hb
 have atB:∀ty dc sc,(Builtin.copy_ #[28,28] ty #[.slice (some ⟨b,(i+1)*7,none⟩) (n-i) dc,.slice (some ⟨b,i*7,none⟩) (n+1-i) sc]).run Tryz.prog w.drew=
   .ok (goInt (n-i:Nat)) (w.drew.setCells b ((i+1)*7) ((arr.toList.drop (i*7)).take ((n-i)*7))):=fun ty dc sc=>by
  have:=kP (P:=Tryz.prog) w.drew 28 28 ty 47 i36 b ((i+1)*7) (n-i) dc b (i*7) (n+1-i) sc (n-i) Tryz.underlying28 DD dU dU (by simp only[zzhc];split<;>omega) (by rw[dO];omega) (by rw[dO];omega) ho;rw[dO]at this;exact this
 obtain⟨W1,QS⟩:∃W1,W1=w.drew.setCells b ((i+1)*7) ((arr.toList.drop (i*7)).take ((n-i)*7)):=⟨_,rfl⟩;have hb5:W1.heap[b]?=some (.cells (tF arr ((i+1)*7) ((arr.toList.drop (i*7)).take ((n-i)*7))) te (0,0)):=by rw[QS];exact Xb b _ _ w.drew arr te _ dU
 have hv5:W1.heap[vb]?=some (.cells uT tv (0,0)):=by rw[QS,Qy b _ _ w.drew vb hvb];exact hv
 have ax5:∀ty dc,(Builtin.copy_ #[28,28] ty #[.slice (some ⟨b,i*7,none⟩) (n+1-i) dc,.slice (some ⟨vb,0,none⟩) 1 vc]).run Tryz.prog W1=.ok (goInt (1:Nat)) (W1.setCells b (i*7) (uT.toList.take 7)):=fun ty dc=>by
  have:=kP (P:=Tryz.prog) W1 28 28 ty 47 i36 b (i*7) (n+1-i) dc vb 0 1 vc 1 Tryz.underlying28 DD hb5 hv5 (by simp only[zzhc];split<;>omega) (by rw[dO,Vd];omega) (by rw[dO];omega) hov;rw[dO,zzdd,zzdv]at this;exact this
 rw[<- QS]at atB |-
 clear DD dO QS;have bP:i<=n:=zE
 have mixed:Tryz.prog.follows Departure.mixedOrders=true:=by kernel_rfl
 go_enter Tryz.func150,Tryz.ntmps150
 go_wp2_with (simp only[ax4])
 go_region_law_o (refine yo rfl _ _ 28 28 rfl _ _ (by simp[Act.eval,Act.put]) (by simp[Act.eval,Act.put]) (atB _ _ _) ?_)
 go_wp2_with (at_builtin;refine pS _ rfl _ _ 28 28 rfl _ _ rfl rfl (ax5 _ _) ?_)
 go_ret
 exact⟨rfl,rfl⟩
def afE{n c:Nat}(h:c<n)(hn:n<=1000000000):Builtin.nextslicecap n c*72<=281474976710656:=by
 have:=JE h;omega
def Z3(b n c i vb vc:Nat)(arr uT:P1)(te tv:TypeId)(w:World)(hi:i<n)(hnc:n<=c)(cA:c<n+1)(vJ:n+1<=1000000000)(hvb:vb≠b)
  (hb:w.heap[b]?=some (.cells arr te (0,0)))(hv:w.heap[vb]?=some (.cells uT tv (0,0)))(hs:c*7<=arr.size)(hsv:7<=uT.size)(ho:∀v∈arr.toList,v.oneCell'=true)(hov:∀v∈uT.toList,v.oneCell'=true):
  Calls Tryz.prog 150 #[.slice (some ⟨b,0,none⟩) n c,.int .i64 i,.slice (some ⟨vb,0,none⟩) 1 vc] w fun e w'=>
   ∃(G:Nat)(nK:P1)(zs:PQ),n+1<=G/\e=.returned (.slice (some ⟨w.heap.size,0,none⟩) (n+1) G)/\nK.toList=arr.toList.take (i*7)++zs/\(n+1-i)*7<=zs.length/\G*7<=nK.size/\(∀v∈zs,v.oneCell'=true)/\
    w'=(((w.drew.alloc (.cells nK 47)).setCells w.heap.size (i*7) (uT.toList.take 7)).drew).setCells w.heap.size ((i+1)*7) ((arr.toList.drop (i*7)).take ((n-i)*7)):=by
 obtain⟨i36,z36,DD,dO,ax6,atC,E4,hzo⟩:∃x z,Tryz.prog.info? 47=some x/\x.size=7/\x.zero=some z/\x.bytes=72/\z.cells.size=7/\∀u∈z.cells,u.oneCell'=true:=⟨_,_,rfl,rfl,rfl,rfl,rfl,by decide⟩;have hz2:¬((i:Int)=(n:Int)):=zE
 have hz3:(c:Int)<(n:Int)+1:=zE
 have hbw:b<w.heap.size:=aR hb;have hvw:vb<w.heap.size:=aR hv;have hkk:(n:Int)+1-(i:Int)=((n+1-i:Nat):Int):=zE
 have qJ:i+(n+1-i)=n+1:=zE
 have PA:n*7<=c*7:=zzbc _ hnc;have iT:(arr.toList.take (i*7)).length=i*7:=by rw[zzas,zzbj];omega
 have eC:(Builtin.firstCells i36.size i (.slice (some ⟨b,0,none⟩) i c)).run Tryz.prog w.drew=.ok (arr.toList.take (i*7)).toArray w.drew:=by
  rw[dO];refine run_firstCells_some w.drew 7 i ⟨b,0,none⟩ i c _ iT (fun j v hj=>?_);rw[Go.Abs.bq];show w.cell? _=_;rw[aN hb];rw[zzbk]at hj;split at hj
  ·simpa using hj
  cases hj
 have hrz:∀ty,(Builtin.append_ #[28,3] ty #[.slice (some ⟨b,0,none⟩) i c,.int .i64 ((n:Int)+1-(i:Int))]).run Tryz.prog w=
   .ok (.slice (some ⟨w.heap.size,0,none⟩) (n+1) (grownCap w (n+1) c 47)) (w.drew.alloc (.cells ((arr.toList.take (i*7)).toArray++Builtin.zeroCells z36.cells (n+1-i)++Builtin.zeroCells z36.cells (grownCap w (n+1) c 47-(n+1))) 47)):=fun ty=>by
  have h:=Lib.run_append_grow_zeros w 28 3 ty 47 i36 z36 .i64 .i64 Tryz.underlying28 Tryz.underlying3 DD ax6 (some ⟨b,0,none⟩) i c (arr.toList.take (i*7)) eC (n+1-i) zE zE zE zE (by rw[atC];omega) (by rw[atC,qJ];exact afE cA vJ);rw[qJ]at h;rw[hkk];exact h
 obtain⟨G,hG⟩:∃G,G=grownCap w (n+1) c 47:=⟨_,rfl⟩;have hGn:n+1<=G:=by rw[hG];exact grownCap_ge w _ _ _
 have azp:G<=9223372036854775807:=by
  have:=grownCap_le_maxLen w (n+1) c 47 (by unfold maxLen;omega);rw[<- hG]at this;unfold maxLen at this;omega
 rw[<- hG]at hrz;obtain⟨nK,G8⟩:∃nK:P1,nK=(arr.toList.take (i*7)).toArray++Builtin.zeroCells z36.cells (n+1-i)++Builtin.zeroCells z36.cells (G-(n+1)):=⟨_,rfl⟩;rw[<- G8]at hrz;have hRs:nK.size=i*7+(n+1-i)*7+(G-(n+1))*7:=by rw[G8];simp only[zzew,zzev,iT,size_zeroCells,E4]
 have hRt:nK.toList=arr.toList.take (i*7)++((Builtin.zeroCells z36.cells (n+1-i)).toList++(Builtin.zeroCells z36.cells (G-(n+1))).toList):=by rw[G8];simp
 have hRo:∀v∈(Builtin.zeroCells z36.cells (n+1-i)).toList++(Builtin.zeroCells z36.cells (G-(n+1))).toList,v.oneCell'=true:=fun v hv=>by
  rcases zzaj.1 hv with hv|hv
  ·exact Wm hzo _ v hv
  exact Wm hzo _ v hv
 have hRl:(n+1-i)*7<=((Builtin.zeroCells z36.cells (n+1-i)).toList++(Builtin.zeroCells z36.cells (G-(n+1))).toList).length:=by
  simp only[zzal,zzbj,size_zeroCells,E4];omega
 obtain⟨zs,Cr⟩:∃zs,zs=(Builtin.zeroCells z36.cells (n+1-i)).toList++(Builtin.zeroCells z36.cells (G-(n+1))).toList:=⟨_,rfl⟩;rw[<- Cr]at hRt hRo hRl;have hGR:G*7<=nK.size:=by rw[hRs];omega
 clear G8 Cr eC hG;obtain⟨W1,QS⟩:∃W1,W1=w.drew.alloc (.cells nK 47):=⟨_,rfl⟩;have hN1:W1.heap[w.heap.size]?=some (.cells nK 47 (0,0)):=by rw[QS];exact Yk w _
 have hO1:∀x,x<w.heap.size->W1.heap[x]?=w.heap[x]?:=fun x hx=>by rw[QS];exact Below.heap_alloc w.drew _ x hx
 have dx:=(hO1 b hbw).trans hb;have hv1:=(hO1 vb hvw).trans hv
 have ax7:∀ty dc,(Builtin.copy_ #[28,28] ty #[.slice (some ⟨w.heap.size,i*7,none⟩) (n+1-i) dc,.slice (some ⟨vb,0,none⟩) 1 vc]).run Tryz.prog W1=.ok (goInt (1:Nat)) (W1.setCells w.heap.size (i*7) (uT.toList.take 7)):=fun ty dc=>by
  have:=kP (P:=Tryz.prog) W1 28 28 ty 47 i36 w.heap.size (i*7) (n+1-i) dc vb 0 1 vc 1 Tryz.underlying28 DD hN1 hv1 (by simp only[zzhc];split<;>omega) (by rw[dO];omega) (by rw[dO];omega) hov;rw[dO,zzdd,zzdv]at this;exact this
 obtain⟨W2,QT⟩:∃W2,W2=(W1.setCells w.heap.size (i*7) (uT.toList.take 7)).drew:=⟨_,rfl⟩;have hN2:W2.heap[w.heap.size]?=some (.cells (tF nK (i*7) (uT.toList.take 7)) 47 (0,0)):=by rw[QT];exact Xb _ _ _ W1 nK 47 _ hN1
 have fh:W2.heap[b]?=some (.cells arr te (0,0)):=by
  rw[QT];exact(Qy w.heap.size _ _ W1 b zE).trans dx
 have atD:∀ty dc sc,(Builtin.copy_ #[28,28] ty #[.slice (some ⟨w.heap.size,(i+1)*7,none⟩) (n-i) dc,.slice (some ⟨b,i*7,none⟩) (n-i) sc]).run Tryz.prog W2=
   .ok (goInt (n-i:Nat)) (W2.setCells w.heap.size ((i+1)*7) ((arr.toList.drop (i*7)).take ((n-i)*7))):=fun ty dc sc=>by
  have:=kP (P:=Tryz.prog) W2 28 28 ty 47 i36 w.heap.size ((i+1)*7) (n-i) dc b (i*7) (n-i) sc (n-i) Tryz.underlying28 DD hN2 fh (by simp only[zzhc];split<;>omega) (by rw[dO,Vd];omega) (by rw[dO];omega) ho;rw[dO]at this;exact this
 have FQ:((((w.drew.alloc (.cells nK 47)).setCells w.heap.size (i*7) (uT.toList.take 7)).drew).setCells w.heap.size ((i+1)*7) ((arr.toList.drop (i*7)).take ((n-i)*7)))=
   W2.setCells w.heap.size ((i+1)*7) ((arr.toList.drop (i*7)).take ((n-i)*7)):=by rw[QT,QS]
 have ax8:∀ty,(Builtin.append_ #[28,3] ty #[.slice (some ⟨b,0,none⟩) i c,.int .i64 ((n:Int)+1-(i:Int))]).run Tryz.prog w=.ok (.slice (some ⟨w.heap.size,0,none⟩) (n+1) G) W1:=by rw[QS];exact hrz
 have ax9:W2=(W1.setCells w.heap.size (i*7) (uT.toList.take 7)).drew:=QT;have lq:IntKind.i64.wrap ((i:Int)+1)=(i:Int)+1:=by rw[IntKind.wrap_i64];omega
 have fV:IntKind.i64.wrap ((n:Int)+1)=(n:Int)+1:=by rw[IntKind.wrap_i64];omega
 have SK:IntKind.i64.wrap ((n:Int)+1-(i:Int))=(n:Int)+1-(i:Int):=by rw[IntKind.wrap_i64];omega
 have htn:((i:Int)+1).toNat=i+1:=zE
 have azq:(0:Int)<=(i:Int)+1:=zE
 have hb3:(i:Int)<=(n:Int)+1:=zE
 have bP:i<=n:=zE
 have hci:¬(c=i):=zE
 have hGi:¬(G=i):=zE
 have azr:¬(G=i+1):=zE
 have mixed:Tryz.prog.follows Departure.mixedOrders=true:=by kernel_rfl
 suffices aiQ:Calls Tryz.prog 150 #[.slice (some ⟨b,0,none⟩) n c,.int .i64 i,.slice (some ⟨vb,0,none⟩) 1 vc] w fun e w'=>e=.returned (.slice (some ⟨w.heap.size,0,none⟩) (n+1) G)/\w'=((W1.setCells w.heap.size (i*7) (uT.toList.take 7)).drew).setCells w.heap.size ((i+1)*7) ((arr.toList.drop (i*7)).take ((n-i)*7))from
  aiQ.mono fun e w'⟨h1,h2⟩=>⟨G,nK,zs,hGn,h1,hRt,hRl,hGR,hRo,by rw[h2,QS]⟩
 rw[QT]at atD;clear DD dO hrz QS QT ax9 FQ hkk qJ hRt hRl hGR hRo hRs hN1 hN2 hO1 dx hv1 fh
 go_enter Tryz.func150,Tryz.ntmps150
 go_wp2_with (first
  |(at_builtin;refine Lib.wpList_append_run _ rfl _ _ _ _ rfl _ _ rfl rfl _ _ (ax8 _) ?_)
  |(at_builtin;refine pS _ rfl _ _ 28 28 rfl _ _ rfl rfl (ax7 _ _) ?_))
 go_region_law_o (refine yo rfl _ _ 28 28 rfl _ _ (by simp[Act.eval,Act.put]) (by simp[Act.eval,Act.put]) (atD _ _ _) ?_)
 go_wp2
 go_ret
 exact⟨rfl,rfl⟩
def Ox(y:AV):∀(xs l:P2)(n:Nat),setA (y::l) (n+1) xs=y::setA l n xs
 |[],_,_=>rfl
 |x::xs,l,n=>by rw[setA,setA,zzec,Ox y xs]
def kQ(pre X Y:P2)(n:Nat)(k:Nat)(h:pre.length=n):setA (pre++X) (n+k) Y=pre++setA X k Y:=by
 subst h;induction pre with
 |nil=>simp
 |cons a r ih=>rw[zzae,zzbf,show r.length+1+k=r.length+k+1 by omega,Ox,ih];rfl
section
variable {N:Nat} {w0:eO} {an:Nat->Nat->Prop} {γ:G} {w:World} {m:AM}
def ajt(m:AM){id:Nat}(aK:id<m.boxes.length)(cells:P2):({m with boxes:=m.boxes.set id []++[cells]}:AM).B=fun i=>if i=m.boxes.length then some cells else if i=id then some []else m.B i:=by
 have e1:=Sx {m with boxes:=m.boxes.set id []} cells;rw[lK m id aK]at e1;simpa using e1
def aju{A C:P2}{arr:P1}(q3:cq w γ (A++C) arr.toList):ak w γ C ((arr.toList.drop A.length).take C.length):=by
 have h:=q3.1;simp only[zzal,zzbj]at h;refine⟨by simp only[zzas,zzcy,zzbj];omega,fun k c v g1 g2=>?_⟩;have hk:=(zza.1 g1).1;rw[zzbk,ac hk,zzbl]at g2;refine q3.2 (A.length+k) c v ?_ g2;rw[zzaq zE,zze];exact g1
def RE(hm:au N w0 an γ w m.B m.L){id b:Nat}{A C V:P2}(aK:m.boxes[id]?=some (A++C))(aO:A++C≠[])(hb:γ.β id=some b){arr:P1}{te:TypeId}(hh:w.heap[b]?=some (.cells arr te (0,0)))
  {vs:PQ}(hV:ak w γ V vs)(hvo:∀v∈vs,v.oneCell'=true)(hsz:A.length+V.length+C.length<=arr.size):
  Ev w γ ((w.drew.setCells b (A.length+V.length) ((arr.toList.drop A.length).take C.length)).setCells b A.length vs) (γ.box m.boxes.length b)/\
  au N w0 an (γ.box m.boxes.length b) ((w.drew.setCells b (A.length+V.length) ((arr.toList.drop A.length).take C.length)).setCells b A.length vs) ({m with boxes:=m.boxes.set id []++[A++(V++C)]}:AM).B m.L:=by
 have ah:id<m.boxes.length:=(zza.1 aK).1;have hB:m.B id=some (A++C):=aK;obtain⟨bN,e',q2,q3,q4⟩:=hm.box id _ b hB hb;rw[hh]at q2;cases q2;have cG:m.B m.boxes.length=none:=by simp[AM.B]
 have hD:=aju q3;have hDl:=hD.1;have hh':w.drew.heap[b]?=some (.cells arr te (0,0)):=hh;have gr:∀v∈(arr.toList.drop A.length).take C.length,v.oneCell'=true:=fun v hv=>q4 v (zzdk (zzcc hv));generalize(arr.toList.drop A.length).take C.length=D at*
 have hr:cq w γ (A++(List.replicate V.length .junk++C)) (tF arr (A.length+V.length) D).toList:=by
  refine⟨by simp only[zzal,zzee,zzbj,Vd];omega,fun k c v g1 g2=>?_⟩;rw[zzce,vV]at g2;rcases zzaa k A.length with h1|h1
  ·rw[zzak h1]at g1;rw[ab zE]at g2;exact q3.2 k c v (by rw[zzak h1];exact g1) (by rw[zzce];exact g2)
  rw[zzaq h1]at g1;rcases zzaa (k-A.length) V.length with h2|h2
  ·rw[zzak (Nm h2),zzck,ac h2]at g1;cases g1;exact .junk _
  rw[zzaq (Nm h2),zzee]at g1;have h3:=(zza.1 g1).1;rw[ac zE]at g2;refine hD.2 _ c v g1 ?_;rw[<- g2];congr 1;omega
 obtain⟨e1,m1⟩:=hm.drew.share (id':=m.boxes.length) (new:=A++(List.replicate V.length .junk++C)) hb hB aO cG hh' (p:=A.length+V.length) (vs:=D) (hr.mono (Ev.drew w γ)) q4 gr;have dx:(γ.box m.boxes.length b).β m.boxes.length=some b:=by simp[G.box]
 have hh1:=Xb b D (A.length+V.length) w.drew arr te _ hh';have SA:=(hr.mono (Ev.drew w γ)).mono e1;have hV1:=(hV.mono (Ev.drew w γ)).mono e1
 have RF:A++(List.replicate V.length AV.junk++C)≠[]:=by
  intro h;simp only[zzhd]at h;exact aO (by simp[h.1,h.2.2])
 have m2:=m1.store (id:=m.boxes.length) zd dx hh1 SA (Wv D _ arr q4 gr) (o:=A.length) hV1 hvo RF;refine⟨((Ev.drew w γ).trans e1).trans (m1.cz dx A.length vs),?_⟩;rw[ajt m ah]
 have lu:setA (A++(List.replicate V.length AV.junk++C)) A.length V=A++(V++C):=by
  have:=kQ A (List.replicate V.length AV.junk++C) V A.length 0 rfl;rw[zzcm,jL V (List.replicate V.length AV.junk) C zd]at this;exact this
 rw[lu]at m2;refine(congrArg (fun B=>au N w0 an _ _ B m.L) (funext fun i=>?_)).mp m2;by_cases hi:i=m.boxes.length<;>simp[hi]
def afF(hm:au N w0 an γ w m.B m.L){id b:Nat}{A C V:P2}(aK:m.boxes[id]?=some (A++C))(hb:γ.β id=some b){arr:P1}{te te2:TypeId}(hh:w.heap[b]?=some (.cells arr te (0,0)))
  {vs zs:PQ}(hV:ak w γ V vs)(hvo:∀v∈vs,v.oneCell'=true){nK:P1}(G8:nK.toList=arr.toList.take A.length++zs)(Cr:V.length+C.length<=zs.length)(hzo:∀v∈zs,v.oneCell'=true)(aO:A++(V++C)≠[]):
  Ev w γ ((((w.drew.alloc (.cells nK te2)).setCells w.heap.size A.length vs).drew).setCells w.heap.size (A.length+V.length) ((arr.toList.drop A.length).take C.length)) (γ.box m.boxes.length w.heap.size)/\
  au N w0 an (γ.box m.boxes.length w.heap.size) ((((w.drew.alloc (.cells nK te2)).setCells w.heap.size A.length vs).drew).setCells w.heap.size (A.length+V.length) ((arr.toList.drop A.length).take C.length)) ({m with boxes:=m.boxes.set id []++[A++(V++C)]}:AM).B m.L:=by
 have ah:id<m.boxes.length:=(zza.1 aK).1;have hB:m.B id=some (A++C):=aK;obtain⟨bN,e',q2,q3,q4⟩:=hm.box id _ b hB hb;rw[hh]at q2;cases q2;have hq:=q3.1;simp only[zzal,zzbj]at hq;have cG:m.B m.boxes.length=none:=by simp[AM.B]
 have hD:=aju q3;have hDl:=hD.1;have gr:∀v∈(arr.toList.drop A.length).take C.length,v.oneCell'=true:=fun v hv=>q4 v (zzdk (zzcc hv));generalize(arr.toList.drop A.length).take C.length=D at*
 have hmk:=(hm.kill hb).drew
 have fJ:(fun i=>if i=id then some []else m.B i) m.boxes.length=none:=by
  have:m.boxes.length≠id:=zE
  simp only[ab this];exact cG
 have ay6:nK.size=A.length+zs.length:=by
  have:=congrArg List.length G8;simp only[zzbj,zzal,zzas]at this;omega
 have hP:cq w γ (A++(List.replicate V.length .junk++List.replicate C.length .junk)) nK.toList:=by
  refine⟨by simp only[zzal,zzee,zzbj];omega,fun k c v g1 g2=>?_⟩;rcases zzaa k A.length with h1|h1
  ·rw[zzak h1]at g1;rw[G8,zzak (by simp only[zzas,zzbj];omega),zzbk,ac h1]at g2;exact q3.2 k c v (by rw[zzak h1];exact g1) g2
  rw[zzaq h1]at g1;rw[List.replicate_append_replicate,zzck]at g1;split at g1
  ·cases g1;exact .junk _
  cases g1
 have hRo:∀v∈nK.toList,v.oneCell'=true:=fun v hv=>by
  rw[G8]at hv;rcases zzaj.1 hv with hv|hv
  ·exact q4 v (zzcc hv)
  exact hzo v hv
 have e1:=hmk.dn _ fJ (.cells nK te2);have m1:=hmk.eW _ fJ (e:=te2) (arr:=nK) (hP.mono (Ev.drew w γ)) hRo;have amV:w.drew.heap.size=w.heap.size:=rfl;rw[amV]at e1 m1;have dx:(γ.box m.boxes.length w.heap.size).β m.boxes.length=some w.heap.size:=by simp[G.box]
 have hh1:(w.drew.alloc (.cells nK te2)).heap[w.heap.size]?=some (.cells nK te2 (0,0)):=Yk w _;have hP1:=(hP.mono (Ev.drew w γ)).mono e1;have hV1:=(hV.mono (Ev.drew w γ)).mono e1;have hD1:=(hD.mono (Ev.drew w γ)).mono e1
 have hX:A++(List.replicate V.length AV.junk++List.replicate C.length AV.junk)≠[]:=by
  intro hX;apply aO;have h:=congrArg List.length hX;simp only[zzal,zzee,zzcn]at h;apply zzbe;simp only[zzal];omega
 have m2:=m1.store (id:=m.boxes.length) zd dx hh1 hP1 hRo (o:=A.length) hV1 hvo hX;have e2:=m1.cz dx A.length vs
 have lu:setA (A++(List.replicate V.length AV.junk++List.replicate C.length AV.junk)) A.length V=A++(V++List.replicate C.length AV.junk):=by
  have:=kQ A (List.replicate V.length AV.junk++List.replicate C.length AV.junk) V A.length 0 rfl;rw[zzcm,jL V (List.replicate V.length AV.junk) _ zd]at this;exact this
 have hh2:=Xb w.heap.size vs A.length _ nK te2 _ hh1;have m3:=m2.drew
 have hX2:setA (A++(List.replicate V.length AV.junk++List.replicate C.length AV.junk)) A.length V≠[]:=by
  intro h;have h:=congrArg List.length h;rw[og]at h;exact hX (zzbe h)
 have hP2:=((cq.setA (o:=A.length) hV1 hP1).mono e2).mono (Ev.drew _ _);have hD2:=(hD1.mono e2).mono (Ev.drew _ _);have m4:=m3.store (id:=m.boxes.length) zd dx hh2 hP2 (Wv vs _ nK hRo hvo) (o:=A.length+V.length) hD2 gr hX2;have e4:=m3.cz dx (A.length+V.length) D;refine⟨((((Ev.drew w γ).trans e1).trans e2).trans (Ev.drew _ _)).trans e4,?_⟩;rw[ajt m ah]
 have hsb:setA (A++(V++List.replicate C.length AV.junk)) (A.length+V.length) C=A++(V++C):=by
  rw[kQ A (V++List.replicate C.length AV.junk) C A.length V.length rfl];have:=kQ V (List.replicate C.length AV.junk) C V.length 0 rfl;rw[zzcm]at this;rw[this];have:=jL C (List.replicate C.length AV.junk) [] zd;simp only[zzat]at this;rw[this]
 rw[lu,hsb]at m4;refine(congrArg (fun B=>au N w0 an _ _ B m.L) (funext fun i=>?_)).mp m4;by_cases hi:i=m.boxes.length<;>simp[hi]
end
