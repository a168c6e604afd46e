import Derived.Test.YthjppoincojfkaaGreatDoorRSME
import Derived.ProofKit
import Derived.OpenShut
import Derived.OpenVars
import Derived.Test.YthjppoincojfkaaGreatDoorProg
import Derived.Lib.AppendZerosOnto
import Derived.Shelf.RegionOpenPlain
import Derived.Lib.Walk
import Derived.Lib.JoinLaws
import Derived.Lib.Overlaps
set_option linter.all false
set_option maxRecDepth 100000
set_option maxHeartbeats 64000000
namespace Go.Abs
open Go Go.RowKit
def nd{α:Type}{a b:α}(h:a=b):a=b:=h
section
variable (P:Program) (gl:Nat->AV) (orc:UV) (Y:YT) (s:AS) (Q:R0)
@[simp] def avh:vc P gl orc Y .skip s Q=Q .normal s:=nd rfl
@[simp] def axy(l:List SO):vc P gl orc Y (.ops l) s Q=Zo P gl orc Y l s (Q .normal):=nd rfl
@[simp] def axz(a b:SC):vc P gl orc Y (.seq a b) s Q=vc P gl orc Y a s (Wc (vc P gl orc Y b) Q):=nd rfl
def ae1(x:bE)(a b:SC):vc P gl orc Y (.cond x a b) s Q=match ev gl s.T x with|.bool t=>(t=true->vc P gl orc Y a s Q)/\(t=false->vc P gl orc Y b s Q)|_=>False:=nd rfl
@[simp] def asr(x:bE)(a b:SC):vc P gl orc Y (.cond x a b) s Q=match ev gl s.T x with|.bool t=>(if t=true then vc P gl orc Y a s Q else vc P gl orc Y b s Q)|_=>False:=by
 rw[ae1];cases ev gl s.T x<;>try rfl
 rename_i t;cases t<;>simp
@[simp] def ass(id:Nat)(c:SC):vc P gl orc Y (.block id c) s Q=vc P gl orc Y c s (nq id Q):=nd rfl
@[simp] def avi(id:Nat):vc P gl orc Y (.exit id) s Q=Q (.exit id) s:=nd rfl
@[simp] def ast(c:SC):vc P gl orc Y (.scope c) s Q=vc P gl orc Y c s (wP Q):=nd rfl
@[simp] def axA:vc P gl orc Y .ret s Q=Q .ret s:=nd rfl
@[simp] def axB:vc P gl orc Y .bad s Q=False:=nd rfl
def ae2{c:SC}(I:AS->Prop)(μ:AS->Nat)(h0:I s)(hr:∀s',I s'->vc P gl orc Y c s' (nr I μ s' Q)):vc P gl orc Y (.loop c) s Q:=⟨I,μ,h0,hr⟩
variable (k:AS->(R0)->Prop) (id id':Nat) (I:AS->Prop) (μ:AS->Nat) (s0:AS)
@[simp] def aiK:Wc k Q .normal s=k s Q:=nd rfl
@[simp] def anX:Wc k Q (.exit id) s=Q (.exit id) s:=nd rfl
@[simp] def asu:Wc k Q .ret s=Q .ret s:=nd rfl
@[simp] def abg:nq id Q .normal s=Q .normal s:=nd rfl
@[simp] def aiL:nq id Q (.exit id') s=if id'=id then Q .normal s else Q (.exit id') s:=nd rfl
@[simp] def al3:nq id Q .ret s=Q .ret s:=nd rfl
@[simp] def abh:wP Q .normal s=Q .normal s:=nd rfl
@[simp] def aiM:wP Q (.exit id) s=Q (.exit id) s:=nd rfl
@[simp] def al4:wP Q .ret s=Q .ret s:=nd rfl
@[simp] def abi:nr I μ s0 Q .normal s=(I s/\μ s<μ s0):=nd rfl
@[simp] def aiN:nr I μ s0 Q (.exit id) s=Q (.exit id) s:=nd rfl
@[simp] def al5:nr I μ s0 Q .ret s=Q .ret s:=nd rfl
end
@[simp] def avj(P:Program)(gl:Nat->AV)(orc:UV)(Y:YT)(s:AS)(Q:R0)(l l2:List SO):vc P gl orc Y (.draw l l2) s Q=SB P gl orc Y l2 (Q .normal) l s.T s.m []:=nd rfl
def al6(T:P2)(f:Nat->AV):Pa->P2
 |[]=>T
 |i::W=>al6 (T.set i (f i)) f W
def DA(T:P2)(W:Pa)(R:(Nat->AV)->AM->Prop)(μ:(Nat->AV)->AM->Nat)(f:Nat->AV)(m:AM)(Q:R0):R0
 |.normal,s'=>s'.T=al6 T (fun i=>s'.T.getD i .junk) W/\R (fun i=>s'.T.getD i .junk) s'.m/\μ (fun i=>s'.T.getD i .junk) s'.m<μ f m
 |ex,s'=>Q ex s'
section
variable (T:P2) (W:Pa) (R:(Nat->AV)->AM->Prop) (μ:(Nat->AV)->AM->Nat) (f:Nat->AV) (m:AM) (Q:R0) (s:AS) (id:Nat)
@[simp] def ZL:DA T W R μ f m Q .normal s=(s.T=al6 T (fun i=>s.T.getD i .junk) W/\R (fun i=>s.T.getD i .junk) s.m/\μ (fun i=>s.T.getD i .junk) s.m<μ f m):=nd rfl
@[simp] def ae3:DA T W R μ f m Q (.exit id) s=Q (.exit id) s:=nd rfl
@[simp] def aiO:DA T W R μ f m Q .ret s=Q .ret s:=nd rfl
end
def nth(l:P2)(n:Nat):AV:=l.getD n .junk
def Qh(l:T5)(n:Nat):P2:=l.getD n []
@[simp high] theorem Qbp(l:P2)(n:Nat):l.getD n .junk=nth l n:=rfl
@[simp high] theorem Yb(l:T5)(n:Nat):l.getD n []=Qh l n:=rfl
@[simp] theorem avk(n:Nat):nth [] n=.junk:=rfl
@[simp] theorem asv(a:AV)(l:P2):nth (a::l) 0=a:=rfl
@[simp] theorem asw(a:AV)(l:P2)(n:Nat):nth (a::l) (n+1)=nth l n:=rfl
@[simp] theorem asx(n:Nat):Qh [] n=[]:=rfl
@[simp] theorem anY(a:P2)(l:T5):Qh (a::l) 0=a:=rfl
@[simp] theorem anZ(a:P2)(l:T5)(n:Nat):Qh (a::l) (n+1)=Qh l n:=rfl
@[simp] def ZB(l l':T5):Qh (l++l') l.length=Qh l' 0:=by simp[Qh,zzax,-Yb,zzap]
@[simp] def Vm(l l':T5)(k:Nat):Qh (l++l') (l.length+k)=Qh l' k:=by simp[Qh,zzax,-Yb,zzap]
@[simp] def avl(l l':T5)(x:P2):(l++l').set l.length x=l++l'.set 0 x:=by simp[zzdi]
@[simp] def aiP(l l':T5)(k:Nat)(x:P2):(l++l').set (l.length+k) x=l++l'.set k x:=by simp[zzdi]
def Qu{l:T5}{n:Nat}{x:P2}(h:l[n]?=some x):Qh l n=x:=by simp[Qh,zzax,-Yb,h]
def al7{l:P2}{n:Nat}{x:AV}(h:l[n]?=some x):nth l n=x:=by simp[nth,zzax,-Qbp,h]
def numOf:AV->Int
 |.int _ n=>n
 |_=>0
@[simp] theorem an0(k:IntKind)(n:Int):numOf (.int k n)=n:=rfl
@[simp] theorem aiQ:Jg .full=true:=rfl
@[simp] theorem al8:Jg .nil=true:=rfl
@[simp] theorem an1:Jg .ro=false:=rfl
@[simp] theorem an2:Jg .nn=false:=rfl
@[simp] theorem al9(i s:Nat):Jg (.own i s)=false:=rfl
@[simp] theorem ama(sz:Nat)(l:P2):aY sz 0 l=[]:=rfl
@[simp] theorem yf(sz n:Nat)(l:P2):aY sz (n+1) l=l.take sz::aY sz n (l.drop sz):=rfl
@[simp] theorem amb:Jr []=some []:=rfl
@[simp] def aiR(n:Int)(r:T5):Jr ([.int .u8 n]::r)=(match Jr r with|some l=>some (UInt8.ofNat n.toNat::l)|_=>none):=by
 simp only[Jr,byteOf];cases Jr r<;>rfl
@[simp] theorem asy(b:Bool):JC (.bool b)=some (true,b):=rfl
@[simp] theorem asz(b:Bool):isB (.bool b)=true:=rfl
@[simp] theorem asA(b:Bool):bOf (.bool b)=b:=rfl
@[simp] theorem avm(a:AV):JC (.gd false a)=some (false,bOf a):=rfl
@[simp] theorem avn(a:AV):JC (.gd true a)=some (isB a,bOf a):=rfl
@[simp] def axC(g b:Bool):JC (.gd g (.bool b))=some (g,b):=by cases g<;>rfl
@[simp] theorem asC(want g:Bool):Eh want (.bool g)=some (g==want):=rfl
@[simp] theorem axD(want d b:Bool):Eh want (.gd d (.bool b))=some (d&&(b==want)):=rfl
@[simp] def avo(want:Bool)(a:AV):Eh want (.gd false a)=some false:=by cases a<;>rfl
@[simp] theorem avp(gl:Nat->AV)(T:P2)(t:Nat):evS gl T (.tmp t)=strip (nth T t):=rfl
@[simp] theorem an3(gl:Nat->AV)(T:P2)(a:AV):evS gl T (.const a)=strip a:=rfl
@[simp] theorem asD(gl:Nat->AV)(T:P2)(f:FuncId):evS gl T (.func f)=.fn f [] []:=rfl
@[simp] theorem asE(gl:Nat->AV)(T:P2)(g:Nat):evS gl T (.glob g)=strip (gl g):=rfl
section
variable (P:Program) (gl:Nat->AV) (orc:UV) (Y:YT) (K:AS->Prop) (r:List SO) (T:P2) (m:AM) (d:Option Nat) (op:aF) (xs:List bE) (s:AS)
@[simp] def an4:Zo P gl orc Y [] s K=K s:=nd rfl
@[simp] def amc:Zo P gl orc Y (⟨d,op,none,xs⟩::r) s K=(if effy orc (ev gl s.T) s.m d op=true then Qao P gl Y (ev gl s.T) s.m (fun av m'=>Zo P gl orc Y r ⟨put s.T d av,m'⟩ K) op
   else(sop P gl orc (ev gl s.T) s.m d op).1/\Zo P gl orc Y r ⟨put s.T d (sop P gl orc (ev gl s.T) s.m d op).2.1,(sop P gl orc (ev gl s.T) s.m d op).2.2⟩ K):=nd rfl
@[simp] def amd(t:Nat)(want:Bool):Zo P gl orc Y (⟨d,op,some (some t,want),xs⟩::r) s K=(match Eh want (s.T.getD t .junk)with
   |some gw=>gok gl s.T gw (gxs op xs)/\
     if effy orc (evG gl s.T op) s.m d op=true then
      (gw=true->Qao P gl Y (evG gl s.T op) s.m (fun av m'=>Zo P gl orc Y r ⟨put s.T d (.gd true av),m'⟩ K) op)/\(gw=false->Zo P gl orc Y r ⟨put s.T d (.gd false (.bool false)),s.m⟩ K)
     else(gw=true->(rop P gl orc (evG gl s.T op) s.m d op).1)/\
      Zo P gl orc Y r ⟨put s.T d (.gd gw (rop P gl orc (evG gl s.T op) s.m d op).2),s.m⟩ K
   |none=>False):=nd rfl
variable (l2:List SO) (nb:T5) (o:SO)
@[simp] def avq:SB P gl orc Y l2 K [] T m nb=Zo P gl orc Y l2 ⟨T,{m with boxes:=m.boxes++nb}⟩ K:=nd rfl
@[simp] def asF:SB P gl orc Y l2 K (o::r) T m nb=((dop P gl orc o T m nb).1/\SB P gl orc Y l2 K r (put T o.dst (dop P gl orc o T m nb).2.1) m (dop P gl orc o T m nb).2.2):=nd rfl
end
attribute [simp] rawOp evG gxs effy Qao callV dop ev Jq oneOf strip gok setA Qdj sop rop binV binI binS binBool Vi kindF eqF Qbn eqFs loOf hiOf lenS cellsS mutO vcNxt keyA intsA keyAV
def rF(n:Nat)(a:AV):bF n [a]=List.replicate n a:=by
 induction n with
 |zero=>rfl
 |succ n ih=>rw[bF,ih];rfl
@[simp] theorem aiS(P:Program)(gl:Nat->AV)(orc:UV)(rs:List aF)(r:AV)(s:AS):post P gl orc rs r .normal s=((Jq P gl orc s rs).1/\bA s.m 6 (oneOf (Jq P gl orc s rs).2)=r):=rfl
@[simp] theorem asG(P:Program)(gl:Nat->AV)(orc:UV)(rs:List aF)(r:AV)(s:AS):post P gl orc rs r .ret s=((Jq P gl orc s rs).1/\bA s.m 6 (oneOf (Jq P gl orc s rs).2)=r):=rfl
@[simp] theorem ae4(P:Program)(gl:Nat->AV)(orc:UV)(rs:List aF)(K:So)(s:AS):wQ P gl orc rs K .normal s=((Jq P gl orc s rs).1/\K (oneOf (Jq P gl orc s rs).2) s.m):=rfl
@[simp] theorem an5(P:Program)(gl:Nat->AV)(orc:UV)(rs:List aF)(K:So)(s:AS):wQ P gl orc rs K .ret s=((Jq P gl orc s rs).1/\K (oneOf (Jq P gl orc s rs).2) s.m):=rfl
section
variable (m:AM) (d:Nat)
@[simp] theorem aiT(b:Bool):Qx (.bool b)=true:=rfl
@[simp] theorem ame(k:IntKind)(n:Int):Qx (.int k n)=true:=rfl
@[simp] theorem amf(s:ByteArray):Qx (.str s)=true:=rfl
@[simp] theorem an6(rt:Rt)(r:T5):Qx (.sl rt r)=true:=rfl
@[simp] theorem an7(r:P2)(o:Nat):Qx (.ep r o)=true:=rfl
@[simp] theorem amg(i o:Nat):Qx (.ptr i o)=true:=rfl
@[simp] theorem an8(i o n z:Nat):Qx (.bs i o n z)=true:=rfl
@[simp] theorem an9(f:FuncId)(a b:P2):Qx (.fn f a b)=true:=rfl
@[simp] theorem aiU(p:Bool):Qx (.nilv p)=true:=rfl
@[simp] theorem ae5:Qx .nilfn=true:=rfl
@[simp] theorem amh(l:Nat):Qx (.yld l)=true:=rfl
@[simp] theorem aoa(i:Nat):Qx (.mp i)=true:=rfl
@[simp] theorem aob(i:Nat):Qx (.it i)=true:=rfl
@[simp] theorem aiV(k:Nat)(l:List (Pi×AV)):Qx (.aJ k l)=false:=rfl
@[simp] theorem aiW(i n:Nat)(l:Pa):Qx (.mitr i n l)=false:=rfl
@[simp] theorem aiX:Qx .junk=false:=rfl
@[simp] theorem ami(cs:P2):Qx (.agg cs)=false:=rfl
@[simp] theorem amj(cs:P2):Qx (.aS cs)=false:=rfl
@[simp] theorem aoc(g:Bool)(a:AV):Qx (.gd g a)=false:=rfl
@[simp] theorem aod(b:Bool):bare (.bool b)=true:=rfl
@[simp] theorem asH(k:IntKind)(n:Int):bare (.int k n)=true:=rfl
@[simp] theorem asI(s:ByteArray):bare (.str s)=true:=rfl
@[simp] theorem avr(rt:Rt)(r:T5):bare (.sl rt r)=true:=rfl
@[simp] theorem avt(r:P2)(o:Nat):bare (.ep r o)=true:=rfl
@[simp] theorem asJ(i o:Nat):bare (.ptr i o)=true:=rfl
@[simp] theorem avu(i o n z:Nat):bare (.bs i o n z)=true:=rfl
@[simp] theorem avv(f:FuncId)(a b:P2):bare (.fn f a b)=true:=rfl
@[simp] theorem aoe(p:Bool):bare (.nilv p)=true:=rfl
@[simp] theorem amk:bare .nilfn=true:=rfl
@[simp] theorem asK(l:Nat):bare (.yld l)=true:=rfl
@[simp] theorem avw(i:Nat):bare (.mp i)=true:=rfl
@[simp] theorem avx(i:Nat):bare (.it i)=true:=rfl
@[simp] theorem aof(k:Nat)(l:List (Pi×AV)):bare (.aJ k l)=false:=rfl
@[simp] theorem aog(i n:Nat)(l:Pa):bare (.mitr i n l)=false:=rfl
@[simp] theorem asL(cs:P2):bare (.agg cs)=true:=rfl
@[simp] theorem aoh:bare .junk=false:=rfl
@[simp] theorem asM(cs:P2):bare (.aS cs)=false:=rfl
@[simp] theorem avy(g:Bool)(a:AV):bare (.gd g a)=false:=rfl
@[simp] theorem ae6(b:Bool):cellsOf (.bool b)=[.bool b]:=rfl
@[simp] theorem aiY(k:IntKind)(n:Int):cellsOf (.int k n)=[.int k n]:=rfl
@[simp] theorem aiZ(s:ByteArray):cellsOf (.str s)=[.str s]:=rfl
@[simp] theorem aml(rt:Rt)(r:T5):cellsOf (.sl rt r)=[.sl rt r]:=rfl
@[simp] theorem amm(r:P2)(o:Nat):cellsOf (.ep r o)=[.ep r o]:=rfl
@[simp] theorem ai0(i o:Nat):cellsOf (.ptr i o)=[.ptr i o]:=rfl
@[simp] theorem amn(i o n z:Nat):cellsOf (.bs i o n z)=[.bs i o n z]:=rfl
@[simp] theorem amo(f:FuncId)(a b:P2):cellsOf (.fn f a b)=[.fn f a b]:=rfl
@[simp] theorem ae7(p:Bool):cellsOf (.nilv p)=[.nilv p]:=rfl
@[simp] theorem abj:cellsOf .nilfn=[.nilfn]:=rfl
@[simp] theorem ai1(l:Nat):cellsOf (.yld l)=[.yld l]:=rfl
@[simp] theorem amq(i:Nat):cellsOf (.mp i)=[.mp i]:=rfl
@[simp] theorem amr(i:Nat):cellsOf (.it i)=[.it i]:=rfl
@[simp] theorem ai2(cs:P2):cellsOf (.agg cs)=cs:=rfl
@[simp] theorem asN(b:Bool):bA m (d+1) (.bool b)=.bool b:=rfl
@[simp] theorem avz(k:IntKind)(n:Int):bA m (d+1) (.int k n)=.int k n:=rfl
@[simp] theorem avA(s:ByteArray):bA m (d+1) (.str s)=.str s:=rfl
@[simp] theorem asO(p:Bool):bA m (d+1) (.nilv p)=.nilv p:=rfl
@[simp] theorem aoi:bA m (d+1) .nilfn=.nilfn:=rfl
@[simp] theorem avB(l:Nat):bA m (d+1) (.yld l)=.junk:=rfl
@[simp] theorem axE(i:Nat):bA m (d+1) (.mp i)=.junk:=rfl
@[simp] theorem axF(i:Nat):bA m (d+1) (.it i)=.junk:=rfl
@[simp] theorem asP:bA m (d+1) .junk=.junk:=rfl
@[simp] theorem avC(cs:P2):bA m (d+1) (.agg cs)=.agg (cs.map (bA m d)):=rfl
@[simp] theorem avD(cs:P2):bA m (d+1) (.aS cs)=.aS (cs.map (bA m d)):=rfl
@[simp] theorem axG(f:FuncId)(a b:P2):bA m (d+1) (.fn f a b)=.fn f (a.map (bA m d)) (b.map (bA m d)):=rfl
@[simp] theorem axH(r:T5):bA m (d+1) (.sl .ro r)=.sl .ro r:=rfl
@[simp] theorem asQ(r:T5):bA m (d+1) (.sl .full r)=.sl .full r:=rfl
@[simp] theorem avE(r:T5):bA m (d+1) (.sl .nil r)=.sl .nil r:=rfl
@[simp] theorem axI(r:T5):bA m (d+1) (.sl .nn r)=.sl .nn r:=rfl
@[simp] theorem avF(i s:Nat)(r:T5):bA m (d+1) (.sl (.own i s) r)=.sl .ro r:=rfl
@[simp] theorem axJ(r:P2)(o:Nat):bA m (d+1) (.ep r o)=.ep r o:=rfl
@[simp] def ZK(i o n z:Nat):bA m (d+1) (.bs i o n z)=if o+n*z<=(m.boxes.getD i []).length then .sl .ro (aY z n (((m.boxes.getD i []).map (bA m d)).drop o))else .junk:=by
 simp only[bA];cases h:Nat.ble (o+n*z) (m.boxes.getD i []).length with
 |true=>rw[if_pos (zzbb h)];rfl
 |false=>rw[if_neg (fun h'=>by rw[Nat.ble_eq_true_of_le h']at h;cases h)];rfl
@[simp] theorem pX(i o:Nat):bA m (d+1) (.ptr i o)=.ep ((m.boxes.getD i []).map (bA m d)) o:=rfl
@[simp] theorem aoj(b:Bool):Vf (d+1) (.bool b)=false:=rfl
@[simp] theorem asR(k:IntKind)(n:Int):Vf (d+1) (.int k n)=false:=rfl
@[simp] theorem asS(s:ByteArray):Vf (d+1) (.str s)=false:=rfl
@[simp] theorem aok(p:Bool):Vf (d+1) (.nilv p)=false:=rfl
@[simp] theorem ams:Vf (d+1) .nilfn=false:=rfl
@[simp] theorem asT(l:Nat):Vf (d+1) (.yld l)=false:=rfl
@[simp] theorem avG(i:Nat):Vf (d+1) (.mp i)=false:=rfl
@[simp] theorem avH(i:Nat):Vf (d+1) (.it i)=false:=rfl
@[simp] theorem aol:Vf (d+1) .junk=false:=rfl
@[simp] theorem asU(cs:P2):Vf (d+1) (.agg cs)=cs.any (Vf d):=rfl
@[simp] theorem asV(cs:P2):Vf (d+1) (.aS cs)=cs.any (Vf d):=rfl
@[simp] theorem avI(f:FuncId)(a b:P2):Vf (d+1) (.fn f a b)=(a.any (Vf d)||b.any (Vf d)):=rfl
@[simp] theorem avJ(rt:Rt)(r:T5):Vf (d+1) (.sl rt r)=false:=rfl
@[simp] theorem avK(r:P2)(o:Nat):Vf (d+1) (.ep r o)=false:=rfl
@[simp] theorem avL(i o n z:Nat):Vf (d+1) (.bs i o n z)=true:=rfl
@[simp] theorem asW(i o:Nat):Vf (d+1) (.ptr i o)=true:=rfl
@[simp] theorem aom(b:Bool):flat (.bool b)=true:=rfl
@[simp] theorem asX(k:IntKind)(n:Int):flat (.int k n)=true:=rfl
@[simp] theorem asY(s:ByteArray):flat (.str s)=true:=rfl
@[simp] theorem amt(b:Bool):iX (.bool b)=true:=rfl
@[simp] theorem aon(k:IntKind)(n:Int):iX (.int k n)=true:=rfl
@[simp] theorem aoo(s:ByteArray):iX (.str s)=true:=rfl
@[simp] theorem asZ(cs:P2):flat (.aS cs)=cs.all iX:=rfl
end
def GP:AV->Bool
 |.bool _|.int _ _|.str _|.sl .ro _|.sl .full _|.sl .nil _|.sl .nn _|.nilfn|.ep _ _=>true
 |_=>false
@[simp] theorem as0(b:Bool):GP (.bool b)=true:=rfl
@[simp] theorem avM(k:IntKind)(n:Int):GP (.int k n)=true:=rfl
@[simp] theorem avN(s:ByteArray):GP (.str s)=true:=rfl
@[simp] theorem axK(r:T5):GP (.sl .ro r)=true:=rfl
@[simp] theorem as1(r:T5):GP (.sl .full r)=true:=rfl
@[simp] theorem avO(r:T5):GP (.sl .nil r)=true:=rfl
@[simp] theorem axL(r:T5):GP (.sl .nn r)=true:=rfl
@[simp] theorem axM(r:P2)(o:Nat):GP (.ep r o)=true:=rfl
def Oq(m:AM)(d:Nat){a:AV}(h:GP a=true):bA m (d+1) a=a:=by
 cases a<;>simp[GP]at h |-
 rename_i rt rows;cases rt<;>simp at h |-
def Zl(row:P2):Bool:=row.all GP
def Va(m:AM)(d:Nat){row:P2}(h:Zl row=true):row.map (bA m (d+1))=row:=by
 have:row.map (bA m (d+1))=row.map id:=zzcr fun a ha=>Oq m d (zzay.1 h a ha);rw[this,List.map_id]
def Ql{n:Int}(h1: -9223372036854775808<=n)(h2:n<=9223372036854775807):IntKind.i64.wrap n=n:=by
 rw[IntKind.wrap_i64];omega
def bO(i:Nat)(h:i<1000000000000000000):IntKind.i64.wrap ((i:Int)+1)=((i+1:Nat):Int):=by rw[Ql]<;>omega
def aV{α:Type}{l:List α}{i:Nat}(h:i<l.length):∃x,l[i]?=some x:=⟨_,zzaf h⟩
@[simp] theorem Jm(m:AM)(l:Nat)(x:LS):(m.at_ l x).boxes=m.boxes:=rfl
@[simp] theorem Oi(m:AM)(l:Nat)(x:LS):(m.at_ l x).lens=m.lens:=rfl
@[simp] theorem ai3(m:AM)(l:Nat)(x:LS):(m.at_ l x).st=uC m.st l x:=rfl
@[simp] def ayS(m:AM)(l:Nat)(x y:LS):(m.at_ l x).at_ l y=m.at_ l y:=by
 simp only[AM.at_];congr 1;funext i;simp only[uC];split<;>rfl
@[simp] def as2(st:Nat->LS)(l:Nat)(x:LS):uC st l x l=x:=by simp[uC]
@[simp] def avP(st:Nat->LS)(l:Nat)(x y:LS):uC (uC st l x) l y=uC st l y:=by funext i;simp only[uC];split<;>rfl
def fD(m m':AM):Prop:=(∃bx,m'.boxes=m.boxes++bx)/\(∃lx,m'.lens=m.lens++lx)/\∀l,m.st l≠.gone->m'.st l=m.st l
def fD.refl(m:AM):fD m m:=⟨⟨[],zd⟩,⟨[],zd⟩,fun _ _=>rfl⟩
def fD.trans{m m' lH:AM}(h:fD m m')(k:fD m' lH):fD m lH:=by
 obtain⟨⟨b,h1⟩,⟨c,h2⟩,h3⟩:=h;obtain⟨⟨b',k1⟩,⟨c',k2⟩,k3⟩:=k;exact⟨⟨b++b',by rw[k1,h1,zzbf]⟩,⟨c++c',by rw[k2,h2,zzbf]⟩,fun l hl=>by rw[k3 l (by rw[h3 l hl];exact hl),h3 l hl]⟩
def fD.box(m:AM)(b:T5):fD m {m with boxes:=m.boxes++b}:=⟨⟨b,rfl⟩,⟨[],zd⟩,fun _ _=>rfl⟩
def fD.gone{m m':AM}(h:fD m m')(l:Nat):fD (m.at_ l .gone) (m'.at_ l .gone):=
 ⟨h.1,h.2.1,fun l' eX=>by
  by_cases e:l'=l
  ·subst e;simp at eX
  simp only[ai3,uC,e,if_false]at eX |-;exact h.2.2 l' eX⟩
def wY(y:P2->AM->(Bool->AM->Prop)->Prop)(K:AM->Prop):T5->AM->Prop
 |[],m=>∀m',fD m m'->K m'
 |x::xs,m=>∀m',fD m m'->∀K':Bool->AM->Prop,(∀lH,wY y K xs lH->K' true lH)->(∀lH,(∀m3,fD lH m3->K m3)->K' false lH)->y x m' K'
def wY.ext{y:P2->AM->(Bool->AM->Prop)->Prop}{K:AM->Prop}{xs:T5}{m m':AM}(h:wY y K xs m)(e:fD m m'):wY y K xs m':=by
 cases xs with
 |nil=>exact fun m2 e2=>h m2 (e.trans e2)
 |cons x xs=>exact fun m2 e2=>h m2 (e.trans e2)
def Iter(P:Program)(gl:Nat->AV)(f:FuncId)(first cap:P2)(xs:T5):Prop:=
 ∀(Y:YT)(l:Nat)(m:AM)(K:AM->Prop),wY (Y l) K xs m->aB P gl Y f (first++[.yld l]++cap) m fun _ m'=>K m'
def jx{P:Program}{gl:Nat->AV}{orc:UV}{Y:YT}{s:AS}{Q:R0}{g:bE}{ps:Pa}{iw body:SC}{f:FuncId}{first cap:P2}{xs:T5}
  (hg:ev gl s.T g=.fn f first cap)(cT:Iter P gl f first cap xs)(aH:∀x∈xs,x.length=ps.length)(I:Nat->AM->Prop)(X:Exit->AM->Prop)(h0:I 0 s.m)
  (hI:∀i m m',I i m->fD m m'->I i m')(hX:∀ex m m',X ex m->fD m m'->X ex m')
  (
   hb:∀(l i:Nat)(m:AM)(x:P2),s.m.st l=.gone->m.st l=.ready->I i (m.at_ l .gone)->xs[i]?=some x->∀K':R0,
   (∀s',I (i+1) (s'.m.at_ l .gone)->K' .normal s')->(∀s',X .ret (s'.m.at_ l .gone)->K' .ret s')->(∀id s',X (.exit id) (s'.m.at_ l .gone)->K' (.exit id) s')->
   vc P gl orc Y iw ⟨Qaq s.T ps x,m⟩ (J6 l fun s'=>vc P gl orc Y body s' K'))
  (ZM:∀m,I xs.length m->Q .normal ⟨s.T,m⟩)(hex:∀ex m,X ex m->Q ex ⟨s.T,m⟩):vc P gl orc Y (.rfunc g ps iw body) s Q:=by
 simp only[vc,hg];intro hl;generalize dA:s.m.ln=l at hl;refine cT _ l s.m.bK (fun m'=>CS l s.T m' Q (m'.st l)) ?_;have iM:∀{m m':AM},m.st l=.ready->fD m m'->m'.st l=.ready:=fun h e=>by rw[e.2.2 l (by rw[h];simp),h]
 have key:∀(n i:Nat)(m:AM),i+n=xs.length->I i (m.at_ l .gone)->m.st l=.ready->wY (Yin Y l ps.length (fun args m K=>vc P gl orc Y iw ⟨Qaq s.T ps args,m⟩ (J6 l fun s'=>vc P gl orc Y body s' (P4 l K))) l) (fun m'=>CS l s.T m' Q (m'.st l)) (xs.drop i) m:=by
  intro n;induction n with
  |zero=>
   intro i m hi hIm hm;rw[zzal zE];intro m' e;simp only[iM hm e,CS];obtain rfl:i=xs.length:=zE
   exact ZM _ (hI _ _ _ hIm (e.gone l))
  |succ n ih=>
   intro i m hi hIm hm;have ah:i<xs.length:=zE
   rw[zzag ah];intro m' e K' hT hF;simp only[Yin,if_true];refine⟨iM hm e,aH _ (zzdj ah),?_⟩;refine hb l i m' xs[i] hl (iM hm e) (hI _ _ _ hIm (e.gone l)) (zzaf ah) (P4 l K') (fun s' lJ=>?_) (fun s' hQ=>?_) fun id s' hQ=>?_
   ·refine hT _ (ih (i+1) _ zE ?_ zd);simpa using lJ
   ·refine hF _ fun m3 e3=>?_;have h3:m3.st l=.done .ret:=by have:=e3.2.2 l zd;simpa using this
    simp only[h3];exact hex _ _ (hX _ _ _ hQ (by have:=e3.gone l;simpa using this))
   refine hF _ fun m3 e3=>?_;have h3:m3.st l=.done (.exit id):=by have:=e3.2.2 l zd;simpa using this
   simp only[h3];exact hex _ _ (hX _ _ _ hQ (by have:=e3.gone l;simpa using this))
 have:=key xs.length 0 s.m.bK zd (hI 0 s.m _ h0 ⟨⟨[],by simp[AM.bK]⟩,⟨[],by simp[AM.bK]⟩,fun l' eX=>by
  have:l'≠l:=by rintro rfl;exact eX hl
  simp[AM.bK,dA,uC,this]⟩) (by simp[AM.bK,dA])
 simpa using this
attribute [simp] Qaq
section
variable (l:Nat) (k:AS->Prop) (s:AS) (id:Nat)
@[simp] def ai4:J6 l k .normal s=(s.m.st l=.ready/\k ⟨s.T,s.m.at_ l .busy⟩):=nd rfl
end
open Go Go.RowKit
def look:QQ->Nat->AV
 |[],_=>.junk
 |(d,v)::r,t=>if d=t then v else look r t
def Vx(n:Nat)(E:QQ):P2:=(List.range n).map (look E)
def tg:Nat->P2->QQ
 |_,[]=>[]
 |i,a::r=>(i,a)::tg (i+1) r
@[simp] theorem rG(d:Nat)(v:AV)(r:QQ)(t:Nat):look ((d,v)::r) t=if d=t then v else look r t:=rfl
@[simp] theorem look_nil(t:Nat):look [] t=.junk:=rfl
@[simp] theorem aop(i:Nat):tg i []=[]:=rfl
@[simp] theorem Lt(i:Nat)(a:AV)(r:P2):tg i (a::r)=(i,a)::tg (i+1) r:=rfl
@[simp] def ae8{n t:Nat}{E:QQ}(h:t<n):nth (Vx n E) t=look E t:=by
 simp[nth,Vx,zzax,-Qbp,h]
def Zr{n d:Nat}{E:QQ}(h:d<n)(v:AV):(Vx n E).set d v=Vx n ((d,v)::E):=by
 apply zzey (by simp[Vx]);intro i h1 h2;rw[List.getElem_set];simp[Vx]
@[simp] def avQ{n d:Nat}{E:QQ}(h:d<n)(v:AV):put (Vx n E) (some d) v=Vx n ((d,v)::E):=Zr h v
@[simp] theorem as3(T:P2)(v:AV):put T none v=T:=rfl
@[simp] def aoq{n d:Nat}{E:QQ}(h:d<n)(ps:Pa)(x:AV)(xs:P2):Qaq (Vx n E) (d::ps) (x::xs)=Qaq (Vx n ((d,x)::E)) ps xs:=by
 rw[Qaq,Zr h]
def yx:∀(l:P2)(i t:Nat),look (tg i l) t=if i<=t then l.getD (t-i) .junk else .junk
 |[],i,t=>by simp[-Qbp]
 |a::r,i,t=>by
  rw[Lt,rG,yx r (i+1) t];by_cases h:i=t
  ·subst h;simp[-Qbp]
  rw[if_neg h];by_cases h':i<=t
  ·rw[if_pos zE,if_pos h',show t-i=(t-(i+1))+1 by omega];simp[-Qbp]
  rw[if_neg zE,if_neg h']
def By{n:Nat}{l:P2}(h:l.length<=n):l++List.replicate (n-l.length) .junk=Vx n (tg 0 l):=by
 apply zzey
 ·simp[Vx];omega
 intro i h1 h2;simp only[Vx,List.getElem_map,List.getElem_range,yx,zzbp,if_true,zzes];rw[List.getElem_append];split
 ·rename_i hi;simp[zzax,-Qbp,hi]
 rename_i hi;simp[zzax,-Qbp,hi]
section
variable {P:Program} {gl:Nat->AV} {Y:YT}
def Qp{f:FuncId}{sc:SC}{rs:List aF}{n:Nat}(hc:c9 P f sc rs n)(orc:UV){l:P2}{r:AV}(hn:l.length<=n)
  (h:vc P gl orc Y0 sc ⟨Vx n (tg 0 l),⟨[],[],fun _=>.gone,0⟩⟩ (post P gl orc rs r)):Pure P gl f l r:=ad0 hc orc (by rw[By hn];exact h)
def Xl{f:FuncId}{sc:SC}{rs:List aF}{n:Nat}(hc:c9 P f sc rs n)(orc:UV){l:P2}{m:AM}{K:So}(hn:l.length<=n)
  (h:vc P gl orc Y sc ⟨Vx n (tg 0 l),m⟩ (wQ P gl orc rs K)):aB P gl Y f l m K:=J8 hc orc (by rw[By hn];exact h)
end
def fN(W:Pa)(E' E:QQ):Prop:=∀t,W.contains t=false->look E' t=look E t
def Qb(W:Pa)(E:QQ):fN W E E:=fun _ _=>rfl
def Qc{W:Pa}{E' E:QQ}{k:Nat}(v:AV)(hk:W.contains k=true)(h:fN W E' E):fN W ((k,v)::E') E:=fun t ht=>by
 rw[rG,if_neg (by rintro rfl;rw[hk]at ht;cases ht)];exact h t ht
def kZ(n:Nat)(E:QQ)(W:Pa)(R:(Nat->AV)->AM->Prop)(μ:(Nat->AV)->AM->Nat)(f:Nat->AV)(m:AM)(Q:R0):R0
 |.normal,s'=>(∃E',s'.T=Vx n E'/\fN W E' E)/\R (nth s'.T) s'.m/\μ (nth s'.T) s'.m<μ f m
 |ex,s'=>Q ex s'
def Qcm(f:Nat->AV):Pa->QQ->QQ
 |[],E=>E
 |i::W,E=>(i,f i)::Qcm f W E
@[simp] theorem amu(f:Nat->AV)(E:QQ):Qcm f [] E=E:=rfl
@[simp] theorem GV(f:Nat->AV)(i:Nat)(W:Pa)(E:QQ):Qcm f (i::W) E=(i,f i)::Qcm f W E:=rfl
def jU(f:Nat->AV)(E:QQ)(t:Nat):∀W,look (Qcm f W E) t=if W.contains t then f t else look E t
 |[]=>zd
 |i::W=>by
  rw[GV,rG,jU f E t W];by_cases h:i=t
  ·subst h;simp
  have h':t≠i:=Ne.symm h;simp[h,h']
def DB(f:Nat->AV)(W:Pa)(E:QQ):fN W (Qcm f W E) E:=fun t ht=>by rw[jU,ht];rfl
def ae9{n:Nat}{E E':QQ}(h:∀t,t<n->look E t=look E' t):Vx n E=Vx n E':=zzcr fun t ht=>h t (zzaw.1 ht)
def Bz{n:Nat}{W:Pa}{E:QQ}{T:P2}:(∃E',T=Vx n E'/\fN W E' E)<->T=Vx n (Qcm (nth T) W E):=by
 constructor
 ·rintro⟨E',rfl,h⟩;refine ae9 fun t ht=>?_;rw[jU];cases hc:W.contains t with
  |true=>simp only[if_true];rw[ae8 ht]
  |false=>simp only[zzbh,if_false];exact h t hc
 exact fun h=>⟨_,h,DB _ _ _⟩
def Qi{P:Program}{gl:Nat->AV}{orc:UV}{Y:YT}{n:Nat}{E:QQ}{m0:AM}{Q:R0}{c:SC}(W:Pa)(R:(Nat->AV)->AM->Prop)(μ:(Nat->AV)->AM->Nat)
  (h0:R (nth (Vx n E)) m0)(hr:∀f m,R f m->vc P gl orc Y c ⟨Vx n (Qcm f W E),m⟩ (kZ n E W R μ f m Q)):vc P gl orc Y (.loop c) ⟨Vx n E,m0⟩ Q:=by
 refine ae2 P gl orc Y ⟨Vx n E,m0⟩ Q (fun s'=>s'.T=Vx n (Qcm (nth s'.T) W E)/\R (nth s'.T) s'.m) (fun s'=>μ (nth s'.T) s'.m) ⟨Bz.1 ⟨E,rfl,Qb _ _⟩,h0⟩ ?_;rintro⟨T',m'⟩ ⟨h1,h2⟩;have:=hr _ m' h2;rw[<- h1]at this
 have e:kZ n E W R μ (nth T') m' Q=nr (fun s'=>s'.T=Vx n (Qcm (nth s'.T) W E)/\R (nth s'.T) s'.m) (fun s'=>μ (nth s'.T) s'.m) ⟨T',m'⟩ Q:=by
  funext ex s';cases ex<;>simp[kZ,nr,and_assoc,Bz]
 rwa [e]at this
section
variable (n:Nat) (E:QQ) (W:Pa) (R:(Nat->AV)->AM->Prop) (μ:(Nat->AV)->AM->Nat) (f:Nat->AV) (m:AM) (Q:R0) (s:AS) (id:Nat)
@[simp] theorem ZN:kZ n E W R μ f m Q .normal s=((∃E',s.T=Vx n E'/\fN W E' E)/\R (nth s.T) s.m/\μ (nth s.T) s.m<μ f m):=rfl
@[simp] theorem afa:kZ n E W R μ f m Q (.exit id) s=Q (.exit id) s:=rfl
@[simp] theorem ai5:kZ n E W R μ f m Q .ret s=Q .ret s:=rfl
end
def ag{n:Nat}{E' E:QQ}{W:Pa}(h:fN W E' E):∃E1,Vx n E'=Vx n E1/\fN W E1 E:=⟨E',rfl,h⟩
def aQ{n:Nat}{E' E:QQ}{W:Pa}(h:fN W E' E:=by repeat(first|exact Qb _ _|refine Qc _ rfl ?_)):∃E1,Vx n E'=Vx n E1/\fN W E1 E:=ag h
open Go Go.RowKit
def jV(P:Program):List Field->Nat->Option Nat
 |[],n=>some n
 |f::r,n=>if f.offset=n then jV P r (n+P.cellsOf f.type)else none
def ZO(P:Program):Nat->TypeId->Bool
 |0,_=>false
 |d+1,t=>match P.underlying t with
  |some .bool|some (.int _)|some .string=>P.cellsOf t==1
  |some (.slice e)=>((P.cellsOf t==1)&&!(P.cellsOf e==0))&&ZO P d e
  |some (.struct fs)=>(jV P fs.toList 0==some (P.cellsOf t))&&fs.toList.all fun f=>ZO P d f.type
  |some (.array n e)=>(P.cellsOf t==n*P.cellsOf e)&&ZO P d e
  |_=>false
def cD{H:Type}(P:Program):Nat->TypeId->DataW H->P2
 |0,_,_=>[]
 |d+1,t,x=>match P.underlying t,x with
  |some .bool,.lit (.bool b)=>[.bool b]
  |some (.int _),.lit (.int k n)=>[.int k n]
  |some .string,.lit (.string s)=>[.str ⟨s.toArray⟩]
  |some (.slice _),.nil=>[.sl .nil []]
  |some (.slice e),.slice bM _=>[.sl .nn (bM.map (cD P d e))]
  |some (.struct fs),.agg parts=>(fs.toList.zip parts).flatMap fun p=>cD P d p.1.type p.2
  |some (.array _ e),.agg parts=>parts.flatMap (cD P d e)
  |_,_=>[]
def Typed{H:Type}(P:Program):Nat->TypeId->DataW H->Prop
 |0,_,_=>False
 |d+1,t,x=>match P.underlying t,x with
  |some .bool,.lit (.bool _)=>True
  |some (.int k),.lit (.int k' n)=>k'=k/\(Lit.int k n).wf=true
  |some .string,.lit (.string s)=>s.length<=maxLen
  |some (.slice _),.nil=>True
  |some (.slice e),.slice bM _=>bM.length<=maxLen/\∀y∈bM,Typed P d e y
  |some (.struct fs),.agg parts=>parts.length=fs.size/\∀p∈fs.toList.zip parts,Typed P d p.1.type p.2
  |some (.array n e),.agg parts=>parts.length=n/\∀y∈parts,Typed P d e y
  |_,_=>False
def GW:Nat->Nat->Prop:=fun _ _=>True
section
variable {H:Type} {enc:TypeId×Value->H} {P:Program} {w:World} {base:Nat} {sp:Nat->Bool} {held:Bool}
def Lu{a:Addr}{n:Nat}{cs:PQ}(h:w.cells? base a n=some cs):cs.length=n/\∀(j:Nat)(v:Value),cs[j]?=some v->w.cell? (a.add j)=some v:=by
 unfold World.cells? at h;split at h
 ·obtain⟨h1,h2⟩:=Qdd _ _ _ h;refine⟨Nm h1,fun j v hj=>?_⟩
  have ah:j<n:=by
   have:=(zza.1 hj).1;simp at h1;omega
  exact h2 j j v (by simp[ah]) hj
 cases h
def DC{γ:G}:∀(l:T5)(ZP:List (PQ)),l.length=ZP.length->(∀(i:Nat)(as':P2)(vs:PQ),l[i]?=some as'->ZP[i]?=some vs->ak w γ as' vs)->ak w γ l.flatten ZP.flatten
 |[],[],_,_=>ak.nil
 |[],_::_,h,_=>by simp at h
 |_::_,[],h,_=>by simp at h
 |as'::l,vs::ZP,h,hr=>by
  rw[zzcj,zzcj];exact(hr 0 as' vs rfl rfl).append (DC l ZP (Nm h) fun i as' vs h1 h2=>hr (i+1) as' vs (Nm h1) (Nm h2))
def th{cs:PQ}:∀(fs:List Field)(n m:Nat),jV P fs n=some m->m=cs.length->n<=cs.length->(fs.map fun f=>(cs.drop f.offset).take (P.cellsOf f.type)).flatten=cs.drop n
 |[],n,m,h,hm,hn=>by simp[jV]at h;subst h;subst hm;simp
 |f::fs,n,m,h,hm,hn=>by
  simp only[jV]at h;split at h
  ·rename_i ho;subst ho
   have cE:∀(fs:List Field)(n m:Nat),jV P fs n=some m->n<=m:=by
    intro fs;induction fs with
    |nil=>intro n m h;simp[jV]at h;omega
    |cons f fs ih=>
     intro n m h;simp only[jV]at h;split at h
     ·have:=ih _ _ h;omega
     cases h
   have h1:=cE _ _ _ h;have ih:=th fs _ m h hm zE;rw[zzas,zzcj,ih];rw[<- zze,zzec]
  cases h
def Lv{cs:PQ}{k:Nat}:∀(n:Nat),cs.length=n*k->((List.range n).map fun i=>(cs.drop (i*k)).take k).flatten=cs:=by
 intro n hn
 have key:∀m,m<=n->((List.range m).map fun i=>(cs.drop (i*k)).take k).flatten=cs.take (m*k):=by
  intro m;induction m with
  |zero=>simp
  |succ m ih=>
   intro hm;rw[zzfc,zzci,zzek,ih zE];simp only[zzas,zzcs,zzcj,List.flatten_nil,zzar];rw[zzbr,zzdu,List.take_add]
 rw[key n (zzab _),<- hn,zzbu]
def trod_bool{t:TypeId}{aT:Nat}{cs:PQ}{x:DataW H}{ps:List MemPlace}(hu:P.underlying t=some .bool)(h:DataW.trod enc P w base sp held (aT+1) t cs=some (x,ps)):∃b,cs=[.bool b]/\x=.lit (.bool b):=by
 unfold DataW.trod at h;rw[hu]at h;obtain _|⟨v,_|⟨_,_⟩⟩:=cs
 ·cases h
 ·cases v<;>first|(cases h;done)|(cases h;exact⟨_,rfl,rfl⟩)
 cases v<;>first|(cases h;done)|(simp at h;done)
def trod_int{t:TypeId}{k:IntKind}{aT:Nat}{cs:PQ}{x:DataW H}{ps:List MemPlace}(hu:P.underlying t=some (.int k))(h:DataW.trod enc P w base sp held (aT+1) t cs=some (x,ps)):∃n,cs=[.int k n]/\x=.lit (.int k n)/\(Lit.int k n).wf=true:=by
 unfold DataW.trod at h;rw[hu]at h;obtain _|⟨v,_|⟨_,_⟩⟩:=cs
 ·cases h
 ·cases v<;>first|(cases h;done)|skip
  simp only at h;split at h
  ·rename_i hk;cases h;rw[hk.1];exact⟨_,rfl,rfl,hk.2⟩
  cases h
 cases v<;>first|(cases h;done)|(simp at h;done)
def ZQ{t:TypeId}{aT:Nat}{cs:PQ}{x:DataW H}{ps:List MemPlace}(hu:P.underlying t=some .string)(h:DataW.trod enc P w base sp held (aT+1) t cs=some (x,ps)):∃s,cs=[.string s]/\x=.lit (.string s.data.toList)/\s.size<=maxLen:=by
 unfold DataW.trod at h;rw[hu]at h;obtain _|⟨v,_|⟨_,_⟩⟩:=cs
 ·cases h
 ·cases v<;>first|(cases h;done)|skip
  simp only at h;split at h
  ·rename_i hk;cases h;exact⟨_,rfl,rfl,hk⟩
  cases h
 cases v<;>first|(cases h;done)|(simp at h;done)
def afb{t e:TypeId}{aT:Nat}{cs:PQ}{x:DataW H}{ps:List MemPlace}(hu:P.underlying t=some (.slice e))(h:DataW.trod enc P w base sp held (aT+1) t cs=some (x,ps)):
  (
   cs=[.slice none 0 0]/\x=.nil)\/∃a len cap bM rest,cs=[.slice (some a) len cap]/\len<=cap/\cap<=maxLen/\x=.slice (bM.map (·.1)) rest/\
   (List.range len).mapM (fun i=>(w.cells? base (a.add (i*P.cellsOf e)) (P.cellsOf e)).bind (DataW.trod enc P w base sp held aT e))=some bM:=by
 unfold DataW.trod at h;rw[hu]at h;obtain _|⟨v,_|⟨_,_⟩⟩:=cs
 ·cases h
 ·cases v<;>first|(cases h;done)|skip
  rename_i a len cap;cases a with
  |none=>cases len<;>cases cap<;>first|(cases h;done)|(cases h;exact .inl ⟨rfl,rfl⟩)
  |some a=>
   simp only at h;split at h
   case isFalse=>cases h
   rename_i hc;cases hm:(List.range len).mapM (fun i=>(w.cells? base (a.add (i*P.cellsOf e)) (P.cellsOf e)).bind (DataW.trod enc P w base sp held aT e))with
   |none=>rw[hm]at h;cases h
   |some bM=>
    rw[hm]at h;simp only[zzcv,zzc]at h;obtain⟨rest,_,h2⟩:=h;cases h2;exact .inr ⟨a,len,cap,bM,_,rfl,hc.2.1,hc.2.2,rfl,hm⟩
 cases v<;>first|(cases h;done)|skip
 rename_i a len cap;cases a with
 |none=>cases len<;>cases cap<;>first|(cases h;done)|(simp at h;done)
 |some a=>first|(cases h;done)|(simp at h;done)
def trod_struct{t:TypeId}{fs:Array Field}{aT:Nat}{cs:PQ}{x:DataW H}{ps:List MemPlace}(hu:P.underlying t=some (.struct fs))(h:DataW.trod enc P w base sp held (aT+1) t cs=some (x,ps)):
  cs.length=P.cellsOf t/\∃xs,x=.agg (xs.map (·.1))/\fs.toList.mapM (fun f=>DataW.trod enc P w base sp held aT f.type ((cs.drop f.offset).take (P.cellsOf f.type)))=some xs:=by
 unfold DataW.trod at h;rw[hu]at h;simp only at h;split at h
 case isFalse=>cases h
 rename_i hc;simp only[zzc]at h;obtain⟨xs,h1,h2⟩:=h;cases h2;exact⟨hc,xs,rfl,h1⟩
def trod_array{t e:TypeId}{n:Nat}{aT:Nat}{cs:PQ}{x:DataW H}{ps:List MemPlace}(hu:P.underlying t=some (.array n e))(h:DataW.trod enc P w base sp held (aT+1) t cs=some (x,ps)):
  cs.length=P.cellsOf t/\∃xs,x=.agg (xs.map (·.1))/\(List.range n).mapM (fun i=>DataW.trod enc P w base sp held aT e ((cs.drop (i*P.cellsOf e)).take (P.cellsOf e)))=some xs:=by
 unfold DataW.trod at h;rw[hu]at h;simp only at h;split at h
 case isFalse=>cases h
 rename_i hc;simp only[zzc]at h;obtain⟨xs,h1,h2⟩:=h;cases h2;exact⟨hc,xs,rfl,h1⟩
def jW:∀(d aT:Nat)(t:TypeId)(cs:PQ)(x:DataW H)(ps:List MemPlace),DataW.trod enc P w base sp held aT t cs=some (x,ps)->ZO P d t=true->
  Typed P d t x/\ak w (G0 GW) (cD P d t x) cs/\(cD P d t x).all Qx=true/\cs.length=P.cellsOf t
 |0,_,_,_,_,_,_,h=>by cases h
 |d+1,0,_,_,_,_,h,_=>by cases h
 |d+1,aT+1,t,cs,x,ps,h,bV=>by
  unfold ZO at bV;cases hu:P.underlying t with
  |none=>simp[hu]at bV
  |some desc=>
   rw[hu]at bV;cases desc with
   |bool=>
    obtain⟨b,rfl,rfl⟩:=trod_bool hu h;exact⟨by simp[Typed,hu],by simp only[cD,hu];exact ak.cons (.bool b) ak.nil,by simp[cD,hu,Qx],(eq_of_beq bV).symm⟩
   |int k=>
    obtain⟨n,rfl,rfl,hw⟩:=trod_int hu h;exact⟨by simp[Typed,hu,hw],by simp only[cD,hu];exact ak.cons (.int k n) ak.nil,by simp[cD,hu,Qx],(eq_of_beq bV).symm⟩
   |string=>
    obtain⟨s,rfl,rfl,hw⟩:=ZQ hu h;refine⟨by simpa[Typed,hu]using hw,?_,by simp[cD,hu,Qx],(eq_of_beq bV).symm⟩;simp only[cD,hu];have:(⟨s.data.toList.toArray⟩:ByteArray)=s:=by cases s;simp
    rw[this];exact ak.cons (.str s) ak.nil
   |slice e=>
    simp only[zzac]at bV;rcases afb hu h with⟨rfl,rfl⟩|⟨a,len,cap,bM,rest,rfl,hlc,hcm,rfl,hm⟩
    ·exact⟨by simp[Typed,hu],by simp only[cD,hu];exact ak.cons Cr ak.nil,by simp[cD,hu,Qx],(eq_of_beq bV.1.1).symm⟩
    obtain⟨hl,hg⟩:=Qdd _ _ _ hm;have eX:bM.length=len:=by simpa using hl
    have Rm:∀(i:Nat)(y:DataW H×List MemPlace),bM[i]?=some y->∃ec,ec.length=P.cellsOf e/\(∀(j:Nat)(v:Value),ec[j]?=some v->w.cell? ((a.add (i*P.cellsOf e)).add j)=some v)/\Typed P d e y.1/\ak w (G0 GW) (cD P d e y.1) ec/\(cD P d e y.1).all Qx=true:=fun i y hy=>by
     have hi:i<len:=by rw[<- eX];exact(zza.1 hy).1
     have:=hg i i y (by simp[hi]) hy;cases hc:w.cells? base (a.add (i*P.cellsOf e)) (P.cellsOf e)with
     |none=>rw[hc]at this;cases this
     |some ec=>
      rw[hc]at this;obtain⟨y1,y2⟩:=y;obtain⟨g1,g2,g3,g4⟩:=jW d aT e ec y1 y2 this bV.2;obtain⟨c1,c2⟩:=Lu hc;exact⟨ec,c1,c2,g1,g2,g3⟩
    refine⟨?_,?_,by simp[cD,hu,Qx],(eq_of_beq bV.1.1).symm⟩
    ·simp only[Typed,hu];refine⟨by simp;omega,fun y hy=>?_⟩;simp only[zzav]at hy;obtain⟨p,hp,rfl⟩:=hy;obtain⟨i,hi⟩:=zzcq.1 hp;obtain⟨ec,_,_,g1,_⟩:=Rm i p hi;exact g1
    simp only[cD,hu];refine ak.cons ?_ ak.nil;have ee:((bM.map (·.1)).map (cD P d e)).length=len:=by simp[eX]
    have hz:P.cellsOf e≠0:=by simpa using bV.1.2
    have ZR:((bM.map (·.1)).map (cD P d e))≠[]->a=⟨a.block,a.off,none⟩/\a.block<w.heap.size:=fun hn=>by
     cases helems:bM with
     |nil=>simp[helems]at hn
     |cons y ys=>
      obtain⟨ec,c1,c2,_,g2,_⟩:=Rm 0 y (by simp[helems]);cases hec:ec with
      |nil=>rw[hec]at c1;exact absurd c1.symm hz
      |cons v vs=>
       have:=c2 0 v (by simp[hec]);simp only[zzhf,Addr.add,if_true]at this;unfold World.cell? at this;split at this
       ·rename_i hb;split at this
        ·cases this
        rename_i hs;refine⟨?_,aR hb⟩;cases a;simp at hs;simp[hs]
       cases this
    have ot:∀(i j:Nat)(c:AV),Qv ((bM.map (·.1)).map (cD P d e)) i j=some c->∃v,w.cell? ⟨a.block,a.off+i*P.cellsOf e+j,none⟩=some v/\aA w (G0 GW) c v/\Qx c=true:=fun i j c hc=>by
     have aO:((bM.map (·.1)).map (cD P d e))≠[]:=by rintro h0;rw[h0]at hc;simp[Qv]at hc
     obtain⟨ha,_⟩:=ZR aO;unfold Qv at hc;cases hy:bM[i]? with
     |none=>simp[hy]at hc
     |some y=>
      simp[hy]at hc;obtain⟨ec,c1,c2,_,g2,g3⟩:=Rm i y hy;have hj:j<ec.length:=by rw[<- g2.1];exact(zza.1 hc).1
      have hv:ec[j]?=some ec[j]:=zzaf hj;refine⟨ec[j],?_,g2.2 j c _ hc hv,zzay.1 g3 c (zzad hc)⟩;have:=c2 j _ hv;rw[ha,bu,bu]at this;exact this
    have:=aA.sl (w:=w) (γ:=G0 GW) (rt:=.nn) (rows:=(bM.map (·.1)).map (cD P d e)) (a:=some a) (cap:=cap) a.block a.off (P.cellsOf e) (fun i j=>(w.cell? ⟨a.block,a.off+i*P.cellsOf e+j,none⟩).getD undef)
     (by rw[ee];exact hlc) (fun h=>by cases h) (fun hn=>⟨by rw[<- (ZR hn).1],(ZR hn).2⟩) (fun row ai=>?_) (fun i j c hc=>?_) (fun i j c hc=>?_) (by simp[qD])
    ·rwa [ee]at this
    ·simp only[zzcu,zzav]at ai;obtain⟨p,hp,rfl⟩:=ai;obtain⟨i,hi⟩:=zzcq.1 hp;obtain⟨ec',c1',_,_,g2',_⟩:=Rm i p hi;have:=g2'.1;simp only[Function.comp];omega
    ·obtain⟨v,h1,h2,h3⟩:=ot i j c hc;rw[h1];exact⟨rfl,trivial,ur h2 h3⟩
    obtain⟨v,h1,h2,h3⟩:=ot i j c hc;rw[h1];exact h2
   |struct fs=>
    simp only[zzac,zzay]at bV;obtain⟨aH,xs,rfl,hm⟩:=trod_struct hu h;obtain⟨hl,hg⟩:=Qdd _ _ _ hm
    have Rm:∀(i:Nat)(f:Field)(y:DataW H×List MemPlace),fs.toList[i]?=some f->xs[i]?=some y->Typed P d f.type y.1/\ak w (G0 GW) (cD P d f.type y.1) ((cs.drop f.offset).take (P.cellsOf f.type))/\(cD P d f.type y.1).all Qx=true:=fun i f y hf hy=>by
     obtain⟨y1,y2⟩:=y;obtain⟨g1,g2,g3,_⟩:=jW d aT f.type _ y1 y2 (hg i f (y1,y2) hf hy) (bV.2 f (zzad hf));exact⟨g1,g2,g3⟩
    have as4:∀p∈fs.toList.zip (xs.map (·.1)),∃(i:Nat)(f:Field)(y:DataW H×List MemPlace),fs.toList[i]?=some f/\xs[i]?=some y/\p=(f,y.1):=fun p hp=>by
     obtain⟨i,hi⟩:=zzcq.1 hp;rw[zzgj]at hi;obtain⟨h1,h2⟩:=hi;simp only[zzbm,zzc]at h2;obtain⟨y,h2,h3⟩:=h2;exact⟨i,p.1,y,h1,h2,by rw[h3]⟩
    refine⟨?_,?_,?_,aH⟩
    ·simp only[Typed,hu];refine⟨Nm hl,fun p hp=>?_⟩;obtain⟨i,f,y,h1,h2,rfl⟩:=as4 p hp;exact(Rm i f y h1 h2).1
    ·simp only[cD,hu];have afc:=th (P:=P) (cs:=cs) fs.toList 0 (P.cellsOf t) (eq_of_beq bV.1) aH.symm (zzbp _);rw[zzdc]at afc
     have:ak w (G0 GW) ((fs.toList.zip (xs.map (·.1))).map fun p=>cD P d p.1.type p.2).flatten (fs.toList.map fun f=>(cs.drop f.offset).take (P.cellsOf f.type)).flatten:=by
      refine DC _ _ (by simp at hl |-;omega) fun i as' vs h1 h2=>?_;simp only[zzbm,zzc]at h1 h2;obtain⟨p,hp,rfl⟩:=h1;obtain⟨f,hf,rfl⟩:=h2;rw[zzgj]at hp;obtain⟨q1,q2⟩:=hp;rw[hf]at q1;simp only[zzbm,zzc]at q2;obtain⟨y,hy,q2⟩:=q2;rw[<- Option.some.inj q1,<- q2];exact(Rm i f y hf hy).2.1
     rw[afc]at this;rwa [List.flatMap_def]
    simp only[cD,hu,zzay,List.mem_flatMap];rintro v ⟨p,hp,hv⟩;obtain⟨i,f,y,h1,h2,rfl⟩:=as4 p hp;exact zzay.1 (Rm i f y h1 h2).2.2 v hv
   |array n e=>
    simp only[zzac]at bV;obtain⟨aH,xs,rfl,hm⟩:=trod_array hu h;obtain⟨hl,hg⟩:=Qdd _ _ _ hm;have eX:xs.length=n:=by simpa using hl
    have Rm:∀(i:Nat)(y:DataW H×List MemPlace),xs[i]?=some y->Typed P d e y.1/\ak w (G0 GW) (cD P d e y.1) ((cs.drop (i*P.cellsOf e)).take (P.cellsOf e))/\(cD P d e y.1).all Qx=true:=fun i y hy=>by
     have hi:i<n:=by rw[<- eX];exact(zza.1 hy).1
     obtain⟨y1,y2⟩:=y;obtain⟨g1,g2,g3,_⟩:=jW d aT e _ y1 y2 (hg i i (y1,y2) (by simp[hi]) hy) bV.2;exact⟨g1,g2,g3⟩
    refine⟨?_,?_,?_,aH⟩
    ·simp only[Typed,hu];refine⟨Nm eX,fun y hy=>?_⟩;simp only[zzav]at hy;obtain⟨p,hp,rfl⟩:=hy;obtain⟨i,hi⟩:=zzcq.1 hp;exact(Rm i p hi).1
    ·simp only[cD,hu];have afc:=Lv (cs:=cs) (k:=P.cellsOf e) n (by rw[aH];exact eq_of_beq bV.1)
     have:ak w (G0 GW) ((xs.map (·.1)).map (cD P d e)).flatten ((List.range n).map fun i=>(cs.drop (i*P.cellsOf e)).take (P.cellsOf e)).flatten:=by
      refine DC _ _ (by simp[eX]) fun i as' vs h1 h2=>?_;simp only[zzcu,zzbm,zzc]at h1 h2;obtain⟨y,hy,rfl⟩:=h1;obtain⟨j,hj,rfl⟩:=h2;have hi:i<n:=by rw[<- eX];exact(zza.1 hy).1
      simp[hi]at hj;subst hj;exact(Rm i y hy).2.1
     rw[afc]at this;rwa [List.flatMap_def]
    simp only[cD,hu,zzay,List.mem_flatMap,zzav];rintro v ⟨y,⟨p,hp,rfl⟩,hv⟩;obtain⟨i,hi⟩:=zzcq.1 hp;exact zzay.1 (Rm i p hi).2.2 v hv
   |_=>simp at bV
def pY(P:Program)(d:Nat)(t:TypeId)(x:DataW H):AV:=if Ki P t then .agg (cD P d t x)else(cD P d t x).headD .junk
def afd{r:Reach}{b0:Nat}{t:TypeId}{v:Value}(cB:Value.okWide P w r b0 t v)(ha:Ki P t=false)(bV:∃d,ZO P d t=true):v.cells.toList=[v]:=by
 unfold Value.okWide at cB;unfold Ki at ha;obtain⟨d,bV⟩:=bV;cases d with
 |zero=>cases bV
 |succ d=>
  unfold ZO at bV;cases hu:P.underlying t with
  |none=>simp[hu]at bV
  |some desc=>
   rw[hu]at cB ha bV;cases desc<;>simp at ha bV cB
   all_goals
    unfold Cell.okWide at cB;rw[hu]at cB;cases v<;>first|rfl|(simp[Cell.ok,hu]at cB)
def afe{d:Nat}{r:Reach}{b0:Nat}{t:TypeId}{v:Value}{x:DataW H}{ps:List MemPlace}(bV:ZO P d t=true)(cB:Value.okWide P w r b0 t v)(h:DataW.Trod enc P w base sp held t v x ps):
  Typed P d t x/\aA w (G0 GW) (pY P d t x) v:=by
 obtain⟨aT,h⟩:=h;obtain⟨h1,h2,h3,h4⟩:=jW d aT t _ x ps h bV;refine⟨h1,?_⟩;unfold pY;cases ha:Ki P t with
 |true=>
  simp only[if_true];unfold Value.okWide at cB;unfold Ki at ha;split at ha
  ·rename_i hu;rw[hu]at cB;obtain⟨cs,rfl,_⟩:=cB;exact ak.Pq h2
  ·rename_i hu;rw[hu]at cB;obtain⟨cs,rfl,_⟩:=cB;exact ak.Pq h2
  cases ha
 |false=>
  simp only[zzbh,if_false];rw[afd cB ha ⟨d,bV⟩]at h2;cases hl:cD P d t x with
  |nil=>rw[hl]at h2;have:=h2.1;simp at this
  |cons a l=>rw[hl]at h2;exact h2.2 0 a v rfl rfl
def pZ(P:Program)(d:Nat):List TypeId->List (DataW H)->Prop
 |[],[]=>True
 |t::ts,x::xs=>Typed P d t x/\pZ P d ts xs
 |_,_=>False
def DD(P:Program)(d:Nat):List TypeId->List (DataW H)->P2
 |t::ts,x::xs=>pY P d t x::DD P d ts xs
 |_,_=>[]
def GX{d:Nat}{r:Reach}{b0:Nat}:∀{ts:List TypeId}{vs:PQ}{xs:List (DataW H)}{ps:List MemPlace},(∀t∈ts,ZO P d t=true)->(∀(j:Nat)(t:TypeId)(v:Value),ts[j]?=some t->vs[j]?=some v->Value.okWide P w r b0 t v)->
  DataW.TrodAll enc P w base sp held ts vs xs ps->pZ P d ts xs/\ak w (G0 GW) (DD P d ts xs) vs
 |[],[],[],_,_,_,_=>⟨trivial,ak.nil⟩
 |[],_::_,_,_,_,_,h=>by cases h
 |[],[],_::_,_,_,_,h=>by cases h
 |_::_,[],_,_,_,_,h=>by cases h
 |_::_,_::_,[],_,_,_,h=>by cases h
 |t::ts,v::vs,x::xs,ps,bV,cB,h=>by
  obtain⟨p,q,h1,h2,_⟩:=h;obtain⟨g1,g2⟩:=afe (bV t zd) (cB 0 t v rfl rfl) h1;obtain⟨k1,k2⟩:=GX (fun t ht=>bV t (by simp[ht])) (fun j t v h1 h2=>cB (j+1) t v (Nm h1) (Nm h2)) h2;exact⟨⟨g1,k1⟩,ak.cons g2 k2⟩
def mD{W W':World}(hl:laidOutB P=true)(hb:Below W.heap.size W W'){sp':Nat->Bool}:∀{ts:List TypeId}{vs:PQ}{xs:List (DataW H)}{ps:List MemPlace},(∀t∈ts,P.readableRec t=true/\t<P.types.size)->
  DataW.TrodAll enc P W 0 (fun _=>true) true ts vs xs ps->(∀p∈ps,p.block<W.heap.size/\sp' p.block=true)->DataW.TrodAll enc P W' 0 sp' true ts vs xs ps
 |[],[],[],_,_,h,_=>h
 |[],_::_,_,_,_,h,_=>by cases h
 |[],[],_::_,_,_,h,_=>by cases h
 |_::_,[],_,_,_,h,_=>by cases h
 |_::_,_::_,[],_,_,h,_=>by cases h
 |t::ts,v::vs,x::xs,ps,hr,h,hp=>by
  obtain⟨p,q,h1,h2,rfl⟩:=h;refine⟨p,q,WideElems.Trod_stays hl (hr t zd).1 (hr t zd).2 h1 (fun y hy=>hb.same (hp y (by simp[hy])).1) (fun y hy=>(hp y (by simp[hy])).2),mD hl hb (fun t ht=>hr t (by simp[ht])) h2 fun y hy=>hp y (by simp[hy]),rfl⟩
def DE{gl:Nat->AV}{fid:FuncId}{fn:Func}{s:ChangeSpec}{bt:TypeId}{d:Nat}(ai6:s.vars=[])(amv:fn.resultTypes=#[bt])(hbt:P.underlying bt=some .bool)(hl:laidOutB P=true)
  (hts:(fn.params.toList.all fun t=>ZO P d t&&P.readableRec t&&decide (t<P.types.size))=true)(as5:∀ds:List (DataW H),ds.length=fn.params.size->(s.fn H ds).results=[.lit (.bool true)]/\(s.fn H ds).args=ds/\(s.fn H ds).vars=[])
  {W:World}{args:P1}{ds gs:List (DataW H)}{before:List MemPlace}{r:Reach}{b0:Nat}(lG:∀g,aA W (G0 GW) (gl g) (.pointer (some ⟨g,0,none⟩)))
  (cB:∀(j:Nat)(t:TypeId)(v:Value),fn.params[j]?=some t->args[j]?=some v->Value.okWide P W r b0 t v)
  (hW:DataW.Whole enc P fn.params.toList s.vars false W args.toList ds gs before)
  (hp:pZ P d fn.params.toList ds->Pure P gl fid (DD P d fn.params.toList ds) (.bool true)):
  Calls P fid args W fun e W'=>∃v,e=.returned v/\s.post enc P fn false true false false W args v W':=by
 have hW':=hW;obtain⟨p,q,hA,hV,rfl,hfz,iL⟩:=hW;rw[ai6]at hV;obtain⟨rfl,rfl⟩:=ChangeShapes.trodVars_none hV;simp only[zzay,zzac,decide_eq_true_eq]at hts;obtain⟨h1,h2⟩:=GX (fun t ht=>(hts t ht).1.1) (fun j t v q1 q2=>cB j t v (Nm q1) (Nm q2)) hA
 have aH:ds.length=fn.params.size:=by
  have:∀{ts:List TypeId}{vs:PQ}{xs:List (DataW H)}{ps:List MemPlace},DataW.TrodAll enc P W 0 (fun _=>true) true ts vs xs ps->xs.length=ts.length:=by
   intro ts;induction ts with
   |nil=>intro vs xs ps h;cases vs<;>cases xs<;>first|rfl|cases h
   |cons t ts ih=>
    intro vs xs ps h;cases vs<;>cases xs<;>first|(cases h;done)|skip
    obtain⟨_,_,_,h,_⟩:=h;simp[ih h]
  simpa using this hA
 obtain⟨k1,k2,k3⟩:=as5 ds aH;have ah:∀x∈p,x.block<W.heap.size:=fun x hx=>hW'.lt x (by simp[hx]);refine((hp h1).2 GW W args.toList lG h2).mono ?_;rintro e W' ⟨v,rfl,hb,hr⟩;obtain rfl:=hr.bw;refine⟨_,rfl,ds,[],p++[],[],p,[],hW',?_,?_,?_,World.keptBut_mono (fun x hx=>⟨hx,?_⟩) (hb.frame (·∈p++[])),fun h=>by cases h⟩
 ·rw[amv,zzar,k1];exact⟨[],[],shut_bool hbt true,rfl,rfl⟩
 ·rw[zzar,k2];exact mD hl hb (fun t ht=>⟨(hts t ht).1.2,(hts t ht).2⟩) hA fun x hx=>⟨ah x hx,by simpa using ah x hx⟩
 ·rw[ai6,zzar,k3];rfl
 simp at hx;exact .inr (.inl hx)
end
open Go
section
variable (P:Program) (gl:Nat->AV) (orc:UV) (Y:YT) (l2:List SO) (K:AS->Prop) (m:AM) (ms q:QP) (mc:AM) (r:List SO) (fl:List Fg) (T:P2) (o:SO) (x:AV×AM)
@[simp] def amw(d:Option Nat)(op:aF)(xs:List bE):Zy T ⟨d,op,none,xs⟩=True:=nd rfl
@[simp] def amx(d:Option Nat)(op:aF)(t:Nat)(b:Bool)(xs:List bE):Zy T ⟨d,op,some (some t,b),xs⟩=(T.getD t .junk=.bool b):=nd rfl
@[simp] def avR:nh P gl orc Y l2 K m ms [] fl q mc T=(q=[]/\Zo P gl orc Y l2 ⟨T,mc⟩ K):=nd (by simp only[nh])
@[simp] def as6:nh P gl orc Y l2 K m ms (o::r) (.eff::fl) (x::q) mc T=(Zy T o/\effC P gl orc Y (ev gl T) mc o.dst x.1 x.2 o.op/\nh P gl orc Y l2 K m ms r fl q x.2 (put T o.dst x.1)):=nd (by simp only[nh])
@[simp] def avS:nh P gl orc Y l2 K m ms (o::r) (.pre::fl) q mc T=(Zy T o/\(rop P gl orc (ev gl T) m o.dst o.op).1/\nh P gl orc Y l2 K m ms r fl q mc (put T o.dst (rop P gl orc (ev gl T) m o.dst o.op).2)):=nd (by simp only[nh])
@[simp] def aor:nh P gl orc Y l2 K m ms (o::r) (.oth::fl) q mc T=(Zy T o/\(rop P gl orc (ev gl T) m o.dst o.op).1/\(∀x∈ms,rop P gl orc (ev gl T) x.2 o.dst o.op=rop P gl orc (ev gl T) m o.dst o.op)/\nh P gl orc Y l2 K m ms r fl q mc (put T o.dst (rop P gl orc (ev gl T) m o.dst o.op).2)):=nd (by simp only[nh])
def Qbj{P:Program}{gl:Nat->AV}{orc:UV}{Y:YT}{fl:List Fg}{l l2:List SO}{s:AS}{Q:R0}(ms:QP)(h:nh P gl orc Y l2 (Q .normal) s.m ms l fl ms s.m s.T):vc P gl orc Y (.drawE fl l l2) s Q:=.inr (.inl ⟨ms,h⟩)
@[simp] def avT:ir P gl orc Y l2 K m ms [] fl q mc T=(q=[]/\Zo P gl orc Y l2 ⟨T,mc⟩ K):=nd (by simp only[ir])
@[simp] def as7:ir P gl orc Y l2 K m ms (o::r) (.eff::fl) (x::q) mc T=(Zy T o/\effC P gl orc Y (ev gl T) mc o.dst x.1 x.2 o.op/\ir P gl orc Y l2 K m ms r fl q x.2 (put T o.dst x.1)):=nd (by simp only[ir])
@[simp] def avU:ir P gl orc Y l2 K m ms (o::r) (.pre::fl) q mc T=(Zy T o/\(rop P gl orc (ev gl T) m o.dst o.op).1/\ir P gl orc Y l2 K m ms r fl q mc (put T o.dst (rop P gl orc (ev gl T) m o.dst o.op).2)):=nd (by simp only[ir])
@[simp] def avV:ir P gl orc Y l2 K m ms (o::r) (.oth::fl) q mc T=(Zy T o/\(((rop P gl orc (ev gl T) m o.dst o.op).1/\∀x∈ms,rop P gl orc (ev gl T) x.2 o.dst o.op=rop P gl orc (ev gl T) m o.dst o.op)\/(rdC P gl orc Y (ev gl T) m o.dst m o.op/\∀x∈ms,rdC P gl orc Y (ev gl T) m o.dst x.2 o.op))/\ir P gl orc Y l2 K m ms r fl q mc (put T o.dst (rop P gl orc (ev gl T) m o.dst o.op).2)):=nd (by simp only[ir,aq5])
variable (R:So)
@[simp] def avW:iN P gl orc Y R l2 K m ms [] fl q mc T=(q=[]/\Zo P gl orc Y l2 ⟨T,mc⟩ K):=nd (by simp only[iN])
@[simp] def as8:iN P gl orc Y R l2 K m ms (o::r) (.eff::fl) [x] mc T=(Zy T o/\effR P gl Y (ev gl T) mc R o.op/\iN P gl orc Y R l2 K m ms r fl [] x.2 (put T o.dst x.1)):=nd (by simp only[iN];simp)
@[simp] def as9(y:AV×AM):iN P gl orc Y R l2 K m ms (o::r) (.eff::fl) (x::y::q) mc T=(Zy T o/\effC P gl orc Y (ev gl T) mc o.dst x.1 x.2 o.op/\iN P gl orc Y R l2 K m ms r fl (y::q) x.2 (put T o.dst x.1)):=nd (by simp only[iN];simp)
@[simp] def avX:iN P gl orc Y R l2 K m ms (o::r) (.pre::fl) q mc T=(Zy T o/\(rop P gl orc (ev gl T) m o.dst o.op).1/\iN P gl orc Y R l2 K m ms r fl q mc (put T o.dst (rop P gl orc (ev gl T) m o.dst o.op).2)):=nd (by simp only[iN])
@[simp] def aos:iN P gl orc Y R l2 K m ms (o::r) (.oth::fl) q mc T=(Zy T o/\(rop P gl orc (ev gl T) m o.dst o.op).1/\(∀x∈ms,rop P gl orc (ev gl T) x.2 o.dst o.op=rop P gl orc (ev gl T) m o.dst o.op)/\iN P gl orc Y R l2 K m ms r fl q mc (put T o.dst (rop P gl orc (ev gl T) m o.dst o.op).2)):=nd (by simp only[iN])
@[simp] def aot:Zk P gl orc m [] fl q T=[]:=nd (by simp only[Zk])
@[simp] def aou:Zk P gl orc m (o::r) (.eff::fl) (x::q) T=Zk P gl orc m r fl q (put T o.dst x.1):=nd (by simp only[Zk])
@[simp] def amy:Zk P gl orc m (o::r) (.pre::fl) [] T=(rop P gl orc (ev gl T) m o.dst o.op).2::Zk P gl orc m r fl [] (put T o.dst (rop P gl orc (ev gl T) m o.dst o.op).2):=nd (by simp only[Zk])
@[simp] def aov:Zk P gl orc m (o::r) (.pre::fl) (x::q) T=Zk P gl orc m r fl (x::q) (put T o.dst (rop P gl orc (ev gl T) m o.dst o.op).2):=nd (by simp only[Zk])
@[simp] def amz:Zk P gl orc m (o::r) (.oth::fl) [] T=(rop P gl orc (ev gl T) m o.dst o.op).2::Zk P gl orc m r fl [] (put T o.dst (rop P gl orc (ev gl T) m o.dst o.op).2):=nd (by simp only[Zk])
@[simp] def aow:Zk P gl orc m (o::r) (.oth::fl) (x::q) T=Zk P gl orc m r fl (x::q) (put T o.dst (rop P gl orc (ev gl T) m o.dst o.op).2):=nd (by simp only[Zk])
def ZS{P:Program}{gl:Nat->AV}{orc:UV}{Y:YT}{fl:List Fg}{l l2:List SO}{s:AS}{Q:R0}(hb:adU fl l=true)(ms:QP)(R:So)(hR:∃x:AV×AM,R x.1 x.2)
  (h:∀v m',R v m'->iN P gl orc Y R l2 (Q .normal) s.m (ms++[(v,m')]) l fl (ms++[(v,m')]) s.m s.T):vc P gl orc Y (.drawE fl l l2) s Q:=.inr (.inr (.inl ⟨hb,ms,R,hR,fun x hx=>h x.1 x.2 hx⟩))
def lR(P:Program)(gl:Nat->AV)(orc:UV)(m:AM):List SO->List Fg->AM->P2->QP
 |o::r,.eff::fl,mc,T=>(effV (sop P gl orc (ev gl T) mc o.dst o.op).2.1 o.op,(sop P gl orc (ev gl T) mc o.dst o.op).2.2)::lR P gl orc m r fl (sop P gl orc (ev gl T) mc o.dst o.op).2.2 (put T o.dst (effV (sop P gl orc (ev gl T) mc o.dst o.op).2.1 o.op))
 |o::r,.pre::fl,mc,T=>lR P gl orc m r fl mc (put T o.dst (rop P gl orc (ev gl T) m o.dst o.op).2)
 |o::r,.oth::fl,mc,T=>lR P gl orc m r fl mc (put T o.dst (rop P gl orc (ev gl T) m o.dst o.op).2)
 |_,_,_,_=>[]
@[simp] def ata:lR P gl orc m [] fl mc T=[]:=nd (by simp only[lR])
@[simp] def aox:lR P gl orc m (o::r) (.eff::fl) mc T=(effV (sop P gl orc (ev gl T) mc o.dst o.op).2.1 o.op,(sop P gl orc (ev gl T) mc o.dst o.op).2.2)::lR P gl orc m r fl (sop P gl orc (ev gl T) mc o.dst o.op).2.2 (put T o.dst (effV (sop P gl orc (ev gl T) mc o.dst o.op).2.1 o.op)):=nd (by simp only[lR])
@[simp] def atb:lR P gl orc m (o::r) (.pre::fl) mc T=lR P gl orc m r fl mc (put T o.dst (rop P gl orc (ev gl T) m o.dst o.op).2):=nd (by simp only[lR])
@[simp] def amA:lR P gl orc m (o::r) (.oth::fl) mc T=lR P gl orc m r fl mc (put T o.dst (rop P gl orc (ev gl T) m o.dst o.op).2):=nd (by simp only[lR])
def Uh{P:Program}{gl:Nat->AV}{orc:UV}{Y:YT}{fl:List Fg}{l l2:List SO}{s:AS}{Q:R0}(h:nh P gl orc Y l2 (Q .normal) s.m (lR P gl orc s.m l fl s.m s.T) l fl (lR P gl orc s.m l fl s.m s.T) s.m s.T):vc P gl orc Y (.drawE fl l l2) s Q:=.inr (.inl ⟨_,h⟩)
def GY{P:Program}{gl:Nat->AV}{orc:UV}{z:Nat}{fl:List Fg}{l l2:List SO}{s:AS}{Q:R0}(hT:s.T.getD z .junk=.junk)(ms:QP)(h:ir P gl orc Y0 l2 (Q .normal) s.m ms l fl ms s.m s.T):vc P gl orc Y0 (.drawZ z fl l l2) s Q:=⟨fun _ _ _ _ h=>h,hT,ms,h⟩
end
attribute [simp] effC memEff effV effR rdC
open Go Go.RowKit
def AM.wr(m:AM)(id:Nat)(cs:P2):AM:={m with boxes:=m.boxes.set id cs}
def axN(m:AM)(id:Nat)(cs:P2){c:P2}(h:m.boxes[id]?=some c):(m.wr id cs).B=fun i=>if i=id then some cs else m.B i:=by
 funext i;simp only[AM.B,AM.wr];have ah:id<m.boxes.length:=(zza.1 h).1;by_cases hi:i=id
 ·subst hi;simp[ah]
 rw[zzbn (fun h=>hi h.symm),if_neg hi]
def aj(zs:Pi):P2:=zs.map (AV.int .i64)
def aB.fQ{P:Program}{gl:Nat->AV}{Y:YT}{f:FuncId}{xs:P2}{m:AM}{K:So}(hc:bz P f)
  (
   h:∀(N:Nat)(w0:eR)(an:Nat->Nat->Prop)(γ:G)(w:World)(vs:PQ),au N w0 an γ w m.B m.L->cS γ w m->ak w γ xs vs->
   Calls P f vs.toArray w fun e w'=>∃v γ' r m',e=.returned v/\eD w γ w' γ'/\au N w0 an γ' w' m'.B m'.L/\cS γ' w' m'/\aA w' γ' r v/\K r m'):aB P gl Y f xs m K:=
 ⟨hc,fun N w0 an γ w vs hm hl _ _ hr=>(callsIn_wide (n:=0)).2 (h N w0 an γ w vs hm hl hr)⟩
def yy{w:World}{γ:G}:aA w γ (.aS []) (.tuple #[]):=.aS rfl fun i c v h=>by simp at h
open Go Go.RowKit
abbrev I(n:Int):AV:=.int .i64 n
section
variable {H:Type} {P:Program} {n:Nat} {t e:TypeId} {x:DataW H}
def Xm{k:IntKind}(hu:P.underlying t=some (.int k))(h:Typed P (n+1) t x):∃m,x=.lit (.int k m)/\(Lit.int k m).wf=true:=by
 unfold Typed at h;rw[hu]at h;cases x with
 |lit l=>cases l<;>first|(cases h;done)|(obtain⟨rfl,h⟩:=h;exact⟨_,rfl,h⟩)
 |_=>cases h
def Rn(hu:P.underlying t=some .string)(h:Typed P (n+1) t x):∃s,x=.lit (.string s)/\s.length<=maxLen:=by
 unfold Typed at h;rw[hu]at h;cases x with
 |lit l=>cases l<;>first|(cases h;done)|exact⟨_,rfl,h⟩
 |_=>cases h
def GZ(hu:P.underlying t=some (.slice e))(h:Typed P (n+1) t x):x=.nil\/∃bM spare,x=.slice bM spare/\bM.length<=maxLen/\∀y∈bM,Typed P n e y:=by
 unfold Typed at h;rw[hu]at h;cases x<;>first|(cases h;done)|exact .inl rfl|exact .inr ⟨_,_,rfl,h.1,h.2⟩
def Uw{fs:Array Field}(hu:P.underlying t=some (.struct fs))(h:Typed P (n+1) t x):∃parts,x=.agg parts/\parts.length=fs.size/\∀p∈fs.toList.zip parts,Typed P n p.1.type p.2:=by
 unfold Typed at h;rw[hu]at h;cases x<;>first|(cases h;done)|exact⟨_,rfl,h.1,h.2⟩
def Zf{k:IntKind}(hu:P.underlying t=some (.int k))(k':IntKind)(m:Int):cD P (n+1) t (.lit (.int k' m):DataW H)=[.int k' m]:=by simp only[cD,hu]
def aff(hu:P.underlying t=some .string)(l:List UInt8):cD P (n+1) t (.lit (.string l):DataW H)=[.str ⟨l.toArray⟩]:=by simp only[cD,hu]
def afg(hu:P.underlying t=some (.slice e)):cD P (n+1) t (.nil:DataW H)=[.sl .nil []]:=by simp only[cD,hu]
def amB(hu:P.underlying t=some (.slice e))(l sp:List (DataW H)):cD P (n+1) t (.slice l sp)=[.sl .nn (l.map (cD P n e))]:=by simp only[cD,hu]
def Uv{fs:Array Field}(hu:P.underlying t=some (.struct fs))(l:List (DataW H)):cD P (n+1) t (.agg l)=(fs.toList.zip l).flatMap fun p=>cD P n p.1.type p.2:=by simp only[cD,hu]
def Ro{k:Nat}(hu:P.underlying t=some (.array k e))(l:List (DataW H)):cD P (n+1) t (.agg l)=l.flatMap (cD P n e):=by simp only[cD,hu]
def afh{d:Nat}(h:Ki P t=true):pY P d t x=.agg (cD P d t x):=by unfold pY;rw[h];rfl
def afi{d:Nat}(h:Ki P t=false){a:AV}(ha:cD P d t x=[a]):pY P d t x=a:=by unfold pY;rw[h,ha];rfl
end
def Wk(a b:AV):Prop:=∀(w:World)(γ:G)(v:Value),aA w γ a v->aA w γ b v
def Wk.refl(a:AV):Wk a a:=fun _ _ _ h=>h
def Ps{a:AV}:Wk a a:=Wk.refl a
def Wk.sl(rt:Rt)(rows:T5):Wk (.sl rt rows) (.sl .ro rows):=fun w γ v h=>by
 cases h with
 |sl b off sz cv hcap hnil ha hsz hc hr aX=>exact .sl b off sz cv hcap hnil ha hsz hc hr trivial
def WkL:P2->P2->Prop
 |[],[]=>True
 |a::r,b::s=>Wk a b/\WkL r s
 |_,_=>False
def WkL.rep{w:World}{γ:G}:∀{l l':P2}{vs:PQ},WkL l l'->ak w γ l vs->ak w γ l' vs
 |[],[],_,_,h=>h
 |[],_::_,_,h,_=>by cases h
 |_::_,[],_,h,_=>by cases h
 |a::l,b::l',[],_,h=>by have:=h.1;simp at this
 |a::l,b::l',v::vs,hk,h=>by
  have h0:aA w γ a v:=h.2 0 a v rfl rfl;have hs:ak w γ l vs:=⟨by have:=h.1;simpa using this,fun i x y h1 h2=>h.2 (i+1) x y (Nm h1) (Nm h2)⟩;exact ak.cons (hk.1 w γ v h0) (WkL.rep hk.2 hs)
def Xz{P:Program}{gl:Nat->AV}{f:FuncId}{l l':P2}{r:AV}(h:Pure P gl f l' r)(hk:WkL l l'):Pure P gl f l r:=
 ⟨h.1,fun ro w vs lG hr=>h.2 ro w vs lG (hk.rep hr)⟩
def Wk.rows{α:Type}(l:List α)(f g:α->P2)(hl:∀a,(g a).length=(f a).length)(hc:∀(a:α)(j:Nat)(c':AV),(g a)[j]?=some c'->∃c,(f a)[j]?=some c/\Wk c c'):Wk (.sl .ro (l.map f)) (.sl .ro (l.map g)):=fun w γ v h=>by
 have key:∀(i j:Nat)(c':AV),Qv (l.map g) i j=some c'->∃c,Qv (l.map f) i j=some c/\Wk c c':=fun i j c' h=>by
  unfold Qv at h |-
  rw[zzbm]at h |-
  cases hi:l[i]? with
  |none=>rw[hi]at h;cases h
  |some a=>
   rw[hi]at h;simpa using hc a j c' (Nm h)
 obtain⟨a,cap,b,off,sz,cv,rfl,s1,_⟩:=h.b9;have e1:(l.map f).length=(l.map g).length:=zd
 rw[e1];refine qo.mk' (b:=b) (off:=off) (sz:=sz) (cv:=cv) ⟨by rw[<- e1];exact s1.hcap,s1.hnil,fun hn=>s1.at_ (Nm hn),fun row hr=>?_,fun i j c' h=>?_,fun i j c' h=>?_⟩ trivial
 ·simp at hr;obtain⟨x,hx,rfl⟩:=hr;rw[hl x];exact s1.hsz _ (by simp;exact⟨x,hx,rfl⟩)
 ·obtain⟨c,h1,h2⟩:=key i j c' h;exact s1.cell i j c h1
 obtain⟨c,h1,h2⟩:=key i j c' h;exact h2 _ _ _ (s1.rep i j c h1)
def Zh{P:Program}{gl:Nat->AV}{f:FuncId}{l:P2}{r r':AV}(h:Pure P gl f l r)(hk:Wk r r'):Pure P gl f l r':=
 ⟨h.1,fun ro w vs hg hr=>(h.2 ro w vs hg hr).mono fun _ _⟨v,h1,h2,h3⟩=>⟨v,h1,h2,hk _ _ _ h3⟩⟩
def jN{l l':P2}(h:WkL l l'):Wk (.agg l) (.agg l'):=fun w γ v hr=>by
 have key:∀{l l':P2},WkL l l'->l.length=l'.length/\∀(i:Nat)(c':AV),l'[i]?=some c'->∃c,l[i]?=some c/\Wk c c':=by
  intro l;induction l with
  |nil=>intro l' h;cases l' with
   |nil=>exact⟨rfl,fun i c' h=>by simp at h⟩
   |cons _ _=>exact h.elim
  |cons a l ih=>intro l' h;cases l' with
   |nil=>exact h.elim
   |cons b l'=>
    obtain⟨h1,h2⟩:=ih h.2;refine⟨by simp[h1],fun i c' hc=>?_⟩;cases i with
    |zero=>simp at hc;subst hc;exact⟨a,rfl,h.1⟩
    |succ i=>simpa using h2 i c' (Nm hc)
 obtain⟨h1,h2⟩:=key h;cases hr with
 |agg hl hc=>
  refine .agg zE fun i c' v uv hv=>?_;obtain⟨c,g1,g2⟩:=h2 i c' uv;exact g2 _ _ _ (hc i c v g1 hv)
open Go Go.RowKit
section
variable {B l:T5} {i j:Nat}
def Qn(h:i<B.length):Qh (B++l) i=Qh B i:=by simp[Qh,zzax,-Yb,zzaj h]
def Yi(v:P2)(h:i<B.length):(B++l).set i v=B.set i v++l:=by rw[List.set_append_left _ _ h]
def Ya(v:P2)(h:i≠j):Qh (B.set i v) j=Qh B j:=by simp[Qh,zzax,-Yb,zzbn h]
def Yf(v:P2)(h:i<B.length):Qh (B.set i v) i=v:=by simp[Qh,zzax,-Yb,zzbg h]
def Jj(h:i<B.length):B[i]?=some (Qh B i):=by
 rw[zzaf h];simp[Qh,zzax,-Yb,h]
end
def bC(S:Nat->Prop)(B B':T5):Prop:=B.length<=B'.length/\∀j,j<B.length->¬S j->Qh B' j=Qh B j
def bC.refl(S:Nat->Prop)(B:T5):bC S B B:=⟨zzab _,fun _ _ _=>rfl⟩
def bC.app{S:Nat->Prop}{B B':T5}(h:bC S B B')(l:T5):bC S B (B'++l):=
 ⟨by have:=h.1;simp;omega,fun j hj hs=>by rw[Qn (by have:=h.1;omega)];exact h.2 j hj hs⟩
def bC.set{S:Nat->Prop}{B B':T5}(h:bC S B B'){i:Nat}(hi:S i\/B.length<=i)(v:P2):bC S B (B'.set i v):=
 ⟨by have:=h.1;simpa using this,fun j hj hs=>by rw[Ya v (by rintro rfl;obtain hi|hi:=hi;exact hs hi;omega)];exact h.2 j hj hs⟩
def bC.trans{S:Nat->Prop}{B B' B'':T5}(h:bC S B B')(k:bC (fun i=>S i\/B.length<=i) B' B''):bC S B B'':=
 ⟨zzbc h.1 k.1,fun j hj hs=>by rw[k.2 j (by have:=h.1;omega) (by rintro(h|h);exact hs h;omega)];exact h.2 j hj hs⟩
def bC.mono{S S':Nat->Prop}{B B':T5}(h:bC S B B')(hs:∀i,S i->S' i):bC S' B B':=⟨h.1,fun j hj hn=>h.2 j hj fun k=>hn (hs j k)⟩
def Qe(s:Int×Int):P2:=[I s.1,I s.2]
def cG:List (Int×Int)->P2
 |[]=>[]
 |s::r=>I s.1::I s.2::cG r
@[simp] theorem avY:cG []=[]:=rfl
@[simp] theorem p6(s:Int×Int)(r:List (Int×Int)):cG (s::r)=I s.1::I s.2::cG r:=rfl
def Yd:∀l,(cG l).length=l.length*2
 |[]=>rfl
 |s::r=>by simp[Yd r];omega
def Qci:∀a b,cG (a++b)=cG a++cG b
 |[],_=>rfl
 |s::r,b=>by simp[Qci r b]
def G1:∀(l:List (Int×Int))(i:Nat),(cG l).drop (i*2)=cG (l.drop i)
 |[],i=>zd
 |s::r,0=>zd
 |s::r,i+1=>by rw[show(i+1)*2=i*2+1+1 by omega];simp[G1 r i]
def uK{l:List (Int×Int)}{i:Nat}{s:Int×Int}(h:l[i]?=some s):(cG l).drop (i*2)=I s.1::I s.2::cG (l.drop (i+1)):=by
 rw[G1];have ah:=(zza.1 h).1;rw[zzag ah];have:l[i]=s:=(zza.1 h).2;rw[this,p6]
def FR{l:List (Int×Int)}{i:Nat}{s:Int×Int}(h:l[i]?=some s):(cG l).drop (i*2+1)=I s.2::cG (l.drop (i+1)):=by
 rw[<- zze,uK h];rfl
def Ot:∀(l:List (Int×Int))(i:Nat)(s:Int×Int),i<l.length->setA (cG l) (i*2) [I s.1,I s.2]=cG (l.set i s)
 |[],i,s,h=>by simp at h
 |t::r,0,s,h=>by simp[setA]
 |t::r,i+1,s,h=>by
  have ih:=Ot r i s (Nm h);simp only[setA]at ih |-
  rw[show(i+1)*2=i*2+1+1 by omega,show i*2+1+1+1=i*2+1+1+1 from rfl];simp only[p6,zzea];rw[ih]
def xw:∀(l:List (Int×Int))(i:Nat)(s:Int×Int)(y:Int),l[i]?=some s->(cG l).set (i*2+1) (I y)=cG (l.set i (s.1,y))
 |[],i,s,y,h=>by simp at h
 |t::r,0,s,y,h=>by simp at h;subst h;simp
 |t::r,i+1,s,y,h=>by
  have ih:=xw r i s y (Nm h);rw[show(i+1)*2+1=i*2+1+1+1 by omega];simp only[p6,zzea];rw[ih]
def BA:∀(l:List (Int×Int))(r:P2),aY 2 l.length (cG l++r)=l.map Qe
 |[],_=>rfl
 |s::l,r=>by simp[Qe,BA l r]
def Qef(l:List (Int×Int)):aY 2 l.length (cG l)=l.map Qe:=by simpa using BA l []
def C9(l:List (Int×Int)):Zl (cG l)=true:=by
 induction l with
 |nil=>rfl
 |cons s r ih=>simp only[p6,Zl,List.all_cons,zzac]at ih |-;exact⟨rfl,rfl,ih⟩
def Q7{a b:P2}(ha:Zl a=true)(hb:Zl b=true):Zl (a++b)=true:=by
 simp only[Zl,zzfe,zzac]at*;exact⟨ha,hb⟩
def G2(l:List (Int×Int)):(l.map Qe).flatten=cG l:=by
 induction l with
 |nil=>rfl
 |cons s r ih=>simp[Qe,ih]
def Rp(n:Nat):bF n [I 0,I 0]=cG (List.replicate n (0,0)):=by
 induction n with
 |zero=>rfl
 |succ n ih=>rw[bF,ih];rfl
def Zw{l:List (Int×Int)}{i:Nat}{s:Int×Int}(h:l[i]?=some s):Qh (l.map Qe) i=[I s.1,I s.2]:=Qu (by simp[h,Qe])
def o6:∀(bs:P2)(a b:P2),bs.length=b.length->setA (a++b) a.length bs=a++bs
 |[],a,b,h=>by cases b with
  |nil=>rfl
  |cons _ _=>simp at h
 |x::bs,a,[],h=>by simp at h
 |x::bs,a,y::b,h=>by
  have ih:=o6 bs (a++[x]) b (Nm h);rw[setA];have:(a++y::b).set a.length x=a++[x]++b:=zd
  rw[this];simpa using ih
def jX(bs a r:P2)(h:bs.length=a.length):setA (a++r) 0 bs=bs++r:=by
 have ux:∀(bs pre a r:P2),bs.length=a.length->setA (pre++a++r) pre.length bs=pre++bs++r:=by
  intro bs;induction bs with
  |nil=>intro pre a r h;cases a with
   |nil=>rfl
   |cons _ _=>simp at h
  |cons x bs ih=>intro pre a r h;cases a with
   |nil=>simp at h
   |cons y a=>
    rw[setA];have e:(pre++y::a++r).set pre.length x=pre++[x]++a++r:=zd
    rw[e];have:=ih (pre++[x]) a r (Nm h);rw[show(pre++[x]).length=pre.length+1 by simp]at this;rw[this];simp
 have:=ux bs [] a r h;simpa using this
open Go Go.RowKit
def atc(S:T5->Prop)(y:P2->AM->(Bool->AM->Prop)->Prop)(K:AM->Prop):T5->AM->Prop
 |[],m=>∀m',fD m m'->K m'
 |x::xs,m=>∀m',fD m m'->∀K':Bool->AM->Prop,(∀lH,S lH.boxes->atc S y K xs lH->K' true lH)->(∀lH,(∀m3,fD lH m3->K m3)->K' false lH)->y x m' K'
open Go Go.RowKit
def bU(O:Nat->Prop)(m m':AM):Prop:=m.boxes.length<=m'.boxes.length/\(∀j,j<m.boxes.length->¬O j->Qh m'.boxes j=Qh m.boxes j)/\(∃lx,m'.lens=m.lens++lx)/\∀l,m.st l≠.gone->m'.st l=m.st l
def fD.toO{m m':AM}(h:fD m m')(O:Nat->Prop):bU O m m':=by
 obtain⟨⟨bx,h1⟩,h2,h3⟩:=h;exact⟨by rw[h1];simp,fun j hj _=>by rw[h1,Qn hj],h2,h3⟩
def bU.refl(O:Nat->Prop)(m:AM):bU O m m:=(fD.refl m).toO O
def bU.trans{O:Nat->Prop}{m m' lH:AM}(h:bU O m m')(k:bU O m' lH):bU O m lH:=by
 obtain⟨h1,h2,⟨c,h3⟩,h4⟩:=h;obtain⟨k1,k2,⟨c',k3⟩,k4⟩:=k;exact⟨zzbc h1 k1,fun j hj ho=>by rw[k2 j zE ho,h2 j hj ho],⟨c++c',by rw[k3,h3,zzbf]⟩,fun l hl=>by rw[k4 l (by rw[h4 l hl];exact hl),h4 l hl]⟩
def bU.gone{O:Nat->Prop}{m m':AM}(h:bU O m m')(l:Nat):bU O (m.at_ l .gone) (m'.at_ l .gone):=
 ⟨h.1,h.2.1,h.2.2.1,fun l' eX=>by
  by_cases e:l'=l
  ·subst e;simp at eX
  simp only[ai3,uC,e,if_false]at eX |-;exact h.2.2.2 l' eX⟩
def NY(O:Nat->Prop)(m m':AM):Prop:=m.boxes.length<=m'.boxes.length/\∀j,O j->Qh m'.boxes j=Qh m.boxes j
def OU(O:Nat->Prop)(n n':Nat)(j:Nat):Prop:=O j\/(n<=j/\j<n')
def atd{O:Nat->Prop}{a b c:Nat}(h1:a<=b)(h2:b<=c):OU (OU O a b) b c=OU O a c:=by
 funext j;unfold OU;apply propext;constructor
 ·rintro((h|h)|h)
  ·exact .inl h
  ·exact .inr ⟨h.1,zE⟩
  exact .inr ⟨zE,h.2⟩
 rintro(h|h)
 ·exact .inl (.inl h)
 rcases zzaa j b with h3|h3
 ·exact .inl (.inr ⟨h.1,h3⟩)
 exact .inr ⟨h3,h.2⟩
def bU.ZT{O:Nat->Prop}{m m' lH:AM}(h:bU O m m')(k:bU (OU O m.boxes.length m'.boxes.length) m' lH):bU O m lH:=by
 obtain⟨h1,h2,⟨c,h3⟩,h4⟩:=h;obtain⟨k1,k2,⟨c',k3⟩,k4⟩:=k;exact⟨zzbc h1 k1,fun j hj ho=>by rw[k2 j zE (by rintro(h|h);exact ho h;omega),h2 j hj ho],⟨c++c',by rw[k3,h3,zzbf]⟩,fun l hl=>by rw[k4 l (by rw[h4 l hl];exact hl),h4 l hl]⟩
def sI(y:P2->AM->(Bool->AM->Prop)->Prop)(K:AM->Prop):T5->(Nat->Prop)->AM->Prop
 |[],O,m=>∀m',bU O m m'->K m'
 |x::xs,O,m=>∀m',bU O m m'->∀K':Bool->AM->Prop,(∀lH,NY (OU O m.boxes.length m'.boxes.length) m' lH->sI y K xs (OU O m.boxes.length m'.boxes.length) lH->K' true lH)->
   (∀lH,(∀m3,bU (OU O m.boxes.length m'.boxes.length) lH m3->K m3)->K' false lH)->y x m' K'
def sI.ext{O:Nat->Prop}{y:P2->AM->(Bool->AM->Prop)->Prop}{K:AM->Prop}{xs:T5}{m m':AM}(h:sI y K xs O m)(e:bU O m m'):sI y K xs (OU O m.boxes.length m'.boxes.length) m':=by
 cases xs with
 |nil=>exact fun m2 e2=>h m2 (e.ZT e2)
 |cons x xs=>
  intro m2 e2;rw[atd e.1 e2.1];exact h m2 (e.ZT e2)
def XI(P:Program)(gl:Nat->AV)(f:FuncId)(first cap:P2)(xs:T5):Prop:=
 ∀(Y:YT)(l:Nat)(m:AM)(K:AM->Prop),sI (Y l) K xs (fun _=>False) m->aB P gl Y f (first++[.yld l]++cap) m fun _ m'=>K m'
def rf{P:Program}{gl:Nat->AV}{orc:UV}{Y:YT}{s:AS}{Q:R0}{g:bE}{ps:Pa}{iw body:SC}{f:FuncId}{first cap:P2}{xs:T5}
  (hg:ev gl s.T g=.fn f first cap)(cT:XI P gl f first cap xs)(aH:∀x∈xs,x.length=ps.length)(I:(Nat->Prop)->Nat->AM->Prop)(X:(Nat->Prop)->Exit->AM->Prop)
  (h0:I (fun _=>False) 0 s.m)
  (hI:∀O i m m',I O i m->bU O m m'->I (OU O m.boxes.length m'.boxes.length) i m')(hX:∀O ex m m',X O ex m->bU O m m'->X O ex m')
  (
   hb:∀(O:Nat->Prop)(l i:Nat)(m:AM)(x:P2),(∀j,O j->s.m.boxes.length<=j/\j<m.boxes.length)->s.m.boxes.length<=m.boxes.length->s.m.st l=.gone->m.st l=.ready->I O i (m.at_ l .gone)->xs[i]?=some x->∀K':R0,
   (∀s',NY O m s'.m->I O (i+1) (s'.m.at_ l .gone)->K' .normal s')->(∀s',m.boxes.length<=s'.m.boxes.length->X O .ret (s'.m.at_ l .gone)->K' .ret s')->(∀id s',m.boxes.length<=s'.m.boxes.length->X O (.exit id) (s'.m.at_ l .gone)->K' (.exit id) s')->
   vc P gl orc Y iw ⟨Qaq s.T ps x,m⟩ (J6 l fun s'=>vc P gl orc Y body s' K'))
  (ZM:∀O m,I O xs.length m->Q .normal ⟨s.T,m⟩)(hex:∀O ex m,X O ex m->Q ex ⟨s.T,m⟩):vc P gl orc Y (.rfunc g ps iw body) s Q:=by
 simp only[vc,hg];intro hl;generalize dA:s.m.ln=l at hl;refine cT _ l s.m.bK (fun m'=>CS l s.T m' Q (m'.st l)) ?_;have iM:∀{O:Nat->Prop}{m m':AM},m.st l=.ready->bU O m m'->m'.st l=.ready:=fun h e=>by rw[e.2.2.2 l (by rw[h];simp),h]
 have key:∀(n i:Nat)(O:Nat->Prop)(m:AM),i+n=xs.length->I O i (m.at_ l .gone)->(∀j,O j->s.m.boxes.length<=j/\j<m.boxes.length)->s.m.boxes.length<=m.boxes.length->m.st l=.ready->
   sI (Yin Y l ps.length (fun args m K=>vc P gl orc Y iw ⟨Qaq s.T ps args,m⟩ (J6 l fun s'=>vc P gl orc Y body s' (P4 l K))) l) (fun m'=>CS l s.T m' Q (m'.st l)) (xs.drop i) O m:=by
  intro n;induction n with
  |zero=>
   intro i O m hi hIm C7 gR hm;rw[zzal zE];intro m' e;simp only[iM hm e,CS];obtain rfl:i=xs.length:=zE
   exact ZM _ _ (hI _ _ _ _ hIm (e.gone l))
  |succ n ih=>
   intro i O m hi hIm C7 gR hm;have ah:i<xs.length:=zE
   rw[zzag ah];intro m' e K' hT hF;have ate:s.m.boxes.length<=m'.boxes.length:=zzbc gR e.1
   have amC:∀j,OU O m.boxes.length m'.boxes.length j->s.m.boxes.length<=j/\j<m'.boxes.length:=by
    rintro j (h|h)
    ·exact⟨(C7 j h).1,zzba (C7 j h).2 e.1⟩
    exact⟨zE,h.2⟩
   have lJ:=hI _ _ _ _ hIm (e.gone l);simp only[Jm]at lJ;simp only[Yin,if_true];refine⟨iM hm e,aH _ (zzdj ah),?_⟩;refine hb (OU O m.boxes.length m'.boxes.length) l i m' xs[i] amC ate hl (iM hm e) lJ (zzaf ah) (P4 l K') (fun s' hS' lJ=>?_) (fun s' cE hQ=>?_) fun id s' cE hQ=>?_
   ·refine hT _ (by simpa[NY]using hS') (ih (i+1) _ _ zE ?_ (fun j hj=>⟨(amC j hj).1,by simpa using zzba (amC j hj).2 hS'.1⟩) (by simpa using zzbc ate hS'.1) zd);simpa using lJ
   ·refine hF _ fun m3 e3=>?_;have h3:m3.st l=.done .ret:=by have:=e3.2.2.2 l zd;simpa using this
    simp only[h3];exact hex _ _ _ (hX _ _ _ _ hQ (by have:=e3.gone l;simpa using this))
   refine hF _ fun m3 e3=>?_;have h3:m3.st l=.done (.exit id):=by have:=e3.2.2.2 l zd;simpa using this
   simp only[h3];exact hex _ _ _ (hX _ _ _ _ hQ (by have:=e3.gone l;simpa using this))
 have hI0:I (fun _=>False) 0 (s.m.bK.at_ l .gone):=by
  have:=hI (fun _=>False) 0 s.m (s.m.bK.at_ l .gone) h0 ⟨by simp[AM.bK],fun j _ _=>by simp[AM.bK],⟨[],by simp[AM.bK]⟩,fun l' eX=>by
   have aO:l'≠l:=by rintro rfl;exact eX hl
   simp[AM.bK,dA,uC,aO]⟩
  have e:OU (fun _=>False) s.m.boxes.length (s.m.bK.at_ l .gone).boxes.length=fun _=>False:=by
   funext j;simp[OU,AM.bK]
  rw[e]at this;exact this
 have:=key xs.length 0 (fun _=>False) s.m.bK zd hI0 (fun _ h=>h.elim) (by simp[AM.bK]) (by simp[AM.bK,dA]);simpa using this
end Go.Abs
namespace Go.Proofs.YthjppoincojfkaaGreatDoor
open Go Go.Abs Go.RowKit Go.Lib
def Rq{P:Program}(w:World)(dT sT ty elem:TypeId)(i:TypeInfo)(b o Lw afj:Nat)(a:Addr)(Lx afk:Nat)(cs:PQ)
  (hu:P.underlying dT=some (.slice elem))(hi:P.info? elem=some i)(hn:cs.length=Nat.min Lx Lw*i.size)
  (axO:∀j v,cs[j]?=some v->w.cell? (a.add j)=some v)(hc:∀j,j<cs.length->(w.cell? ⟨b,o+j,none⟩).isSome=true)(hf:∀j,j<cs.length->w.frozen? ⟨b,o+j,none⟩=false)(h1:∀v∈cs,v.oneCell'=true):
  (Builtin.copy_ #[dT,sT] ty #[.slice (some ⟨b,o,none⟩) Lw afj,.slice (some a) Lx afk]).run P w=.ok (goInt (Nat.min Lx Lw)) (w.setCells b o cs):=by
 have hl:=run_loadCells_list (P:=P) w a cs axO;have bY:=run_storeCells_cells (P:=P) b o cs 0 w (Nm hc) (Nm hf) h1;simp only[zzcn]at bY;simp[Builtin.copy_,run_underlying hu,Builtin.lenOf,Builtin.firstCells,sizeOf,typeInfo,hi,<- hn,hl,bY]
def lg{P:Program}(w:World)(dT sT ty elem:TypeId)(i:TypeInfo)(b o Lw afj b2 o2 Lx afk k:Nat)(hu:P.underlying dT=some (.slice elem))(hi:P.info? elem=some i)
  {arr Rr:P1}{e e2:TypeId}(hb:w.heap[b]?=some (.cells arr e (0,0)))(fV:w.heap[b2]?=some (.cells Rr e2 (0,0)))(hk:Nat.min Lx Lw=k)
  (h1:o+k*i.size<=arr.size)(h2:o2+k*i.size<=Rr.size)(ho:∀v∈Rr.toList,v.oneCell'=true):
  (Builtin.copy_ #[dT,sT] ty #[.slice (some ⟨b,o,none⟩) Lw afj,.slice (some ⟨b2,o2,none⟩) Lx afk]).run P w=.ok (goInt k) (w.setCells b o ((Rr.toList.drop o2).take (k*i.size))):=by
 have aH:((Rr.toList.drop o2).take (k*i.size)).length=k*i.size:=by rw[zzaq,zzcw,zzbi];omega
 have:=Rq (P:=P) w dT sT ty elem i b o Lw afj ⟨b2,o2,none⟩ Lx afk ((Rr.toList.drop o2).take (k*i.size)) hu hi (by rw[aH,hk])
  (
   fun j v hj=>by
   rw[Go.Abs.bu];show w.cell? ⟨b2,o2+j,none⟩=_;rw[aM fV];rw[zzbj]at hj;split at hj
   ·rw[zzbl]at hj;simpa using hj
   cases hj)
  (fun j hj=>by rw[aM hb,zzah zE];rfl) (fun j hj=>Zp hb)
  (fun v hv=>ho v (zzdv (zzce hv)))
 rw[hk]at this;exact this
def p7{P:Program}(w:World){ops:Array Oper}{rest:List Oper}{o:Oper}{a:Act}{Q:PP}(JM:o.guard=none)(d s:Operand)(t t':TypeId)
  (ho:o.op=.call {callee:=.builtin .copy,args:=#[d,s],argTypes:=#[t,t']})(v u:Value)(hd:a.eval d=v)(hs:a.eval s=u){v':Value}{w':World}
  (hr:(Builtin.copy_ #[t,t'] o.type #[v,u]).run P w=.ok v' w')(h:wpList P ops Q rest (a.put o.dst v') w'):wpList P ops Q (o::rest) a w:=
 wpList_plain JM fun _ hK=>by
  unfold Oper.wp execOp;simp only[ho,resolve,invoke,builtin,Sem.run_bind,Sem.run_pure,Result.andThen_ok,List.map_toArray,zzas,zzcs,hd,hs,hr];exact hK _ _ h
def yz{P:Program}{ops:Array Oper}{o:Oper}{a:Act}{w:World}{K:Act->World->Prop}{Q:PP}{E:Prop}
  (hg:o.guard=none)(d x:Operand)(dT sT:TypeId)(dw:o.op=Op.call {callee:=Callee.builtin Builtin.copy,args:=#[d,x],argTypes:=#[dT,sT]})
  (v u:Value)(hd:a.eval d=v)(hx:a.eval x=u){v':Value}{w':World}(hr:(Builtin.copy_ #[dT,sT] o.type #[v,u]).run P w=.ok v' w')(hK:K (a.put o.dst v') w'):
  if Region.wanted o (yielded ops a.tmps)=true then Oper.wp P o a w K Q else E:=by
 have hw:Region.wanted o (yielded ops a.tmps)=true:=by simp[Region.wanted,hg]
 rw[if_pos hw];unfold Oper.wp;simp[execOp,dw,resolve,invoke,builtin,hd,hx,hr,Result.andThen];exact hK
def G3{w:World}{b:Nat}{arr:P1}{te:TypeId}{f:Nat×Nat}(h:w.heap[b]?=some (.cells arr te f)):w.shape? b=some (te,arr.size):=by
 simp[World.shape?,h]
def Ru(b n c i vb vc:Nat)(arr uZ:P1)(te tv:TypeId)(w:World)(hi:i<n)(cA:n+1<=c)(hn:n+1<=1000000000)(hvb:vb≠b)
  (hb:w.heap[b]?=some (.cells arr te (0,0)))(hv:w.heap[vb]?=some (.cells uZ tv (0,0)))(hs:c*7<=arr.size)(hsv:7<=uZ.size)(ho:∀v∈arr.toList,v.oneCell'=true)(hov:∀v∈uZ.toList,v.oneCell'=true):
  Calls Tryz.prog 150 #[.slice (some ⟨b,0,none⟩) n c,.int .i64 i,.slice (some ⟨vb,0,none⟩) 1 vc] w fun e w'=>
   e=.returned (.slice (some ⟨b,0,none⟩) (n+1) c)/\w'=(w.drew.setCells b ((i+1)*7) ((arr.toList.drop (i*7)).take ((n-i)*7))).setCells b (i*7) (uZ.toList.take 7):=by
 obtain⟨i36,DF,dU⟩:∃x,Tryz.prog.info? 47=some x/\x.size=7:=⟨_,rfl,rfl⟩;have lM:=G3 hv;have hsb:=G3 hb;have Ej:w.frozen? ⟨vb,0,none⟩=false:=Zp hv;have hfe:w.frozen? ⟨vb,uZ.size,none⟩=false:=Zp hv
 have axP:∀lb cb,(callFunc 202 #[.slice (some ⟨vb,0,none⟩) 1 vc,.slice (some ⟨b,(i+1)*7,none⟩) lb cb]).run Tryz.prog w=.ok (.value (.bool false)) w:=fun lb cb=>by
  rw[run_callFunc_extern Tryz.func202 (by kernel_rfl) (by kernel_rfl) (by kernel_rfl) (e:=Extern.SlicesOverlaps.overlaps #[28,28] #[4]) (by kernel_rfl),
   Lib.run_overlaps_apart w 28 4 47 Tryz.underlying28 7 (fun w=>by simp[Go.sizeOf,typeInfo,DF,dU]) ⟨vb,0,none⟩ ⟨b,(i+1)*7,none⟩ 1 vc lb cb hvb tv te uZ.size arr.size lM hsb zE Ej hfe]
  rfl
 have gU:IntKind.i64.wrap ((i:Int)+1)=(i:Int)+1:=by rw[IntKind.wrap_i64];omega
 have hz2:¬((i:Int)=(n:Int)):=zE
 have eL:IntKind.i64.wrap ((n:Int)+1)=(n:Int)+1:=by rw[IntKind.wrap_i64];omega
 have htn:((i:Int)+1).toNat=i+1:=zE
 have alp:((n:Int)+1).toNat=n+1:=zE
 have dz:(0:Int)<=(i:Int)+1:=zE
 have fV:¬(c=i+1):=zE
 have hb3:(i:Int)<=(n:Int)+1:=zE
 have hb4:¬(c=i):=zE
 have Pt:(n+1)*7<=c*7:=zzbd _ cA;have ek:w.drew.heap[b]?=some (.cells arr te (0,0)):=hb
 have atf:∀ty dc sc,(Builtin.copy_ #[28,28] ty #[.slice (some ⟨b,(i+1)*7,none⟩) (n-i) dc,.slice (some ⟨b,i*7,none⟩) (n+1-i) sc]).run Tryz.prog w.drew=
   .ok (goInt (n-i:Nat)) (w.drew.setCells b ((i+1)*7) ((arr.toList.drop (i*7)).take ((n-i)*7))):=fun ty dc sc=>by
  have:=lg (P:=Tryz.prog) w.drew 28 28 ty 47 i36 b ((i+1)*7) (n-i) dc b (i*7) (n+1-i) sc (n-i) Tryz.underlying28 DF ek ek (by simp only[zzgv];split<;>omega) (by rw[dU];omega) (by rw[dU];omega) ho;rw[dU]at this;exact this
 obtain⟨W1,QF⟩:∃W1,W1=w.drew.setCells b ((i+1)*7) ((arr.toList.drop (i*7)).take ((n-i)*7)):=⟨_,rfl⟩;have hb5:W1.heap[b]?=some (.cells (tK arr ((i+1)*7) ((arr.toList.drop (i*7)).take ((n-i)*7))) te (0,0)):=by rw[QF];exact Xd b _ _ w.drew arr te _ ek
 have hv5:W1.heap[vb]?=some (.cells uZ tv (0,0)):=by rw[QF,Qz b _ _ w.drew vb hvb];exact hv
 have axQ:∀ty dc,(Builtin.copy_ #[28,28] ty #[.slice (some ⟨b,i*7,none⟩) (n+1-i) dc,.slice (some ⟨vb,0,none⟩) 1 vc]).run Tryz.prog W1=.ok (goInt (1:Nat)) (W1.setCells b (i*7) (uZ.toList.take 7)):=fun ty dc=>by
  have:=lg (P:=Tryz.prog) W1 28 28 ty 47 i36 b (i*7) (n+1-i) dc vb 0 1 vc 1 Tryz.underlying28 DF hb5 hv5 (by simp only[zzgv];split<;>omega) (by rw[dU,Zz];omega) (by rw[dU];omega) hov;rw[dU,zzdc,zzdu]at this;exact this
 rw[<- QF]at atf |-
 clear DF dU QF;have bQ:i<=n:=zE
 have mixed:Tryz.prog.follows Departure.mixedOrders=true:=by kernel_rfl
 go_enter Tryz.func150,Tryz.ntmps150
 go_wp2_with (simp only[axP])
 go_region_law_o (refine yz rfl _ _ 28 28 rfl _ _ (by simp[Act.eval,Act.put]) (by simp[Act.eval,Act.put]) (atf _ _ _) ?_)
 go_wp2_with (at_builtin;refine p7 _ rfl _ _ 28 28 rfl _ _ rfl rfl (axQ _ _) ?_)
 go_ret
 exact⟨rfl,rfl⟩
def afl{n c:Nat}(h:c<n)(hn:n<=1000000000):Builtin.nextslicecap n c*72<=281474976710656:=by
 have:=JE h;omega
def ZU(b n c i vb vc:Nat)(arr uZ:P1)(te tv:TypeId)(w:World)(hi:i<n)(hnc:n<=c)(cA:c<n+1)(vT:n+1<=1000000000)(hvb:vb≠b)
  (hb:w.heap[b]?=some (.cells arr te (0,0)))(hv:w.heap[vb]?=some (.cells uZ tv (0,0)))(hs:c*7<=arr.size)(hsv:7<=uZ.size)(ho:∀v∈arr.toList,v.oneCell'=true)(hov:∀v∈uZ.toList,v.oneCell'=true):
  Calls Tryz.prog 150 #[.slice (some ⟨b,0,none⟩) n c,.int .i64 i,.slice (some ⟨vb,0,none⟩) 1 vc] w fun e w'=>
   ∃(G:Nat)(nS:P1)(zs:PQ),n+1<=G/\e=.returned (.slice (some ⟨w.heap.size,0,none⟩) (n+1) G)/\nS.toList=arr.toList.take (i*7)++zs/\(n+1-i)*7<=zs.length/\G*7<=nS.size/\(∀v∈zs,v.oneCell'=true)/\
    w'=(((w.drew.alloc (.cells nS 47)).setCells w.heap.size (i*7) (uZ.toList.take 7)).drew).setCells w.heap.size ((i+1)*7) ((arr.toList.drop (i*7)).take ((n-i)*7)):=by
 obtain⟨i36,z36,DF,dU,axR,atg,EZ,hzo⟩:∃x z,Tryz.prog.info? 47=some x/\x.size=7/\x.zero=some z/\x.bytes=72/\z.cells.size=7/\∀u∈z.cells,u.oneCell'=true:=⟨_,_,rfl,rfl,rfl,rfl,rfl,by decide⟩;have hz2:¬((i:Int)=(n:Int)):=zE
 have hz3:(c:Int)<(n:Int)+1:=zE
 have hbw:b<w.heap.size:=aR hb;have hvw:vb<w.heap.size:=aR hv;have hkk:(n:Int)+1-(i:Int)=((n+1-i:Nat):Int):=zE
 have qP:i+(n+1-i)=n+1:=zE
 have Pt:n*7<=c*7:=zzbd _ hnc;have je:(arr.toList.take (i*7)).length=i*7:=by rw[zzaq,zzbi];omega
 have oP:(Builtin.firstCells i36.size i (.slice (some ⟨b,0,none⟩) i c)).run Tryz.prog w.drew=.ok (arr.toList.take (i*7)).toArray w.drew:=by
  rw[dU];refine run_firstCells_some w.drew 7 i ⟨b,0,none⟩ i c _ je (fun j v hj=>?_);rw[Go.Abs.bu];show w.cell? _=_;rw[aM hb];rw[zzbj]at hj;split at hj
  ·simpa using hj
  cases hj
 have hrz:∀ty,(Builtin.append_ #[28,3] ty #[.slice (some ⟨b,0,none⟩) i c,.int .i64 ((n:Int)+1-(i:Int))]).run Tryz.prog w=
   .ok (.slice (some ⟨w.heap.size,0,none⟩) (n+1) (grownCap w (n+1) c 47)) (w.drew.alloc (.cells ((arr.toList.take (i*7)).toArray++Builtin.zeroCells z36.cells (n+1-i)++Builtin.zeroCells z36.cells (grownCap w (n+1) c 47-(n+1))) 47)):=fun ty=>by
  have h:=Lib.run_append_grow_zeros w 28 3 ty 47 i36 z36 .i64 .i64 Tryz.underlying28 Tryz.underlying3 DF axR (some ⟨b,0,none⟩) i c (arr.toList.take (i*7)) oP (n+1-i) zE zE zE zE (by rw[atg];omega) (by rw[atg,qP];exact afl cA vT);rw[qP]at h;rw[hkk];exact h
 obtain⟨G,hG⟩:∃G,G=grownCap w (n+1) c 47:=⟨_,rfl⟩;have hGn:n+1<=G:=by rw[hG];exact grownCap_ge w _ _ _
 have azd:G<=9223372036854775807:=by
  have:=grownCap_le_maxLen w (n+1) c 47 (by unfold maxLen;omega);rw[<- hG]at this;unfold maxLen at this;omega
 rw[<- hG]at hrz;obtain⟨nS,G4⟩:∃nS:P1,nS=(arr.toList.take (i*7)).toArray++Builtin.zeroCells z36.cells (n+1-i)++Builtin.zeroCells z36.cells (G-(n+1)):=⟨_,rfl⟩;rw[<- G4]at hrz;have hRs:nS.size=i*7+(n+1-i)*7+(G-(n+1))*7:=by rw[G4];simp only[zzeq,zzep,je,size_zeroCells,EZ]
 have hRt:nS.toList=arr.toList.take (i*7)++((Builtin.zeroCells z36.cells (n+1-i)).toList++(Builtin.zeroCells z36.cells (G-(n+1))).toList):=by rw[G4];simp
 have hRo:∀v∈(Builtin.zeroCells z36.cells (n+1-i)).toList++(Builtin.zeroCells z36.cells (G-(n+1))).toList,v.oneCell'=true:=fun v hv=>by
  rcases zzao.1 hv with hv|hv
  ·exact Wp hzo _ v hv
  exact Wp hzo _ v hv
 have hRl:(n+1-i)*7<=((Builtin.zeroCells z36.cells (n+1-i)).toList++(Builtin.zeroCells z36.cells (G-(n+1))).toList).length:=by
  simp only[zzak,zzbi,size_zeroCells,EZ];omega
 obtain⟨zs,Cw⟩:∃zs,zs=(Builtin.zeroCells z36.cells (n+1-i)).toList++(Builtin.zeroCells z36.cells (G-(n+1))).toList:=⟨_,rfl⟩;rw[<- Cw]at hRt hRo hRl;have hGR:G*7<=nS.size:=by rw[hRs];omega
 clear G4 Cw oP hG;obtain⟨W1,QF⟩:∃W1,W1=w.drew.alloc (.cells nS 47):=⟨_,rfl⟩;have hN1:W1.heap[w.heap.size]?=some (.cells nS 47 (0,0)):=by rw[QF];exact Yh w _
 have hO1:∀x,x<w.heap.size->W1.heap[x]?=w.heap[x]?:=fun x hx=>by rw[QF];exact Below.heap_alloc w.drew _ x hx
 have dz:=(hO1 b hbw).trans hb;have hv1:=(hO1 vb hvw).trans hv
 have axS:∀ty dc,(Builtin.copy_ #[28,28] ty #[.slice (some ⟨w.heap.size,i*7,none⟩) (n+1-i) dc,.slice (some ⟨vb,0,none⟩) 1 vc]).run Tryz.prog W1=.ok (goInt (1:Nat)) (W1.setCells w.heap.size (i*7) (uZ.toList.take 7)):=fun ty dc=>by
  have:=lg (P:=Tryz.prog) W1 28 28 ty 47 i36 w.heap.size (i*7) (n+1-i) dc vb 0 1 vc 1 Tryz.underlying28 DF hN1 hv1 (by simp only[zzgv];split<;>omega) (by rw[dU];omega) (by rw[dU];omega) hov;rw[dU,zzdc,zzdu]at this;exact this
 obtain⟨W2,QG⟩:∃W2,W2=(W1.setCells w.heap.size (i*7) (uZ.toList.take 7)).drew:=⟨_,rfl⟩;have hN2:W2.heap[w.heap.size]?=some (.cells (tK nS (i*7) (uZ.toList.take 7)) 47 (0,0)):=by rw[QG];exact Xd _ _ _ W1 nS 47 _ hN1
 have fV:W2.heap[b]?=some (.cells arr te (0,0)):=by
  rw[QG];exact(Qz w.heap.size _ _ W1 b zE).trans dz
 have ath:∀ty dc sc,(Builtin.copy_ #[28,28] ty #[.slice (some ⟨w.heap.size,(i+1)*7,none⟩) (n-i) dc,.slice (some ⟨b,i*7,none⟩) (n-i) sc]).run Tryz.prog W2=
   .ok (goInt (n-i:Nat)) (W2.setCells w.heap.size ((i+1)*7) ((arr.toList.drop (i*7)).take ((n-i)*7))):=fun ty dc sc=>by
  have:=lg (P:=Tryz.prog) W2 28 28 ty 47 i36 w.heap.size ((i+1)*7) (n-i) dc b (i*7) (n-i) sc (n-i) Tryz.underlying28 DF hN2 fV (by simp only[zzgv];split<;>omega) (by rw[dU,Zz];omega) (by rw[dU];omega) ho;rw[dU]at this;exact this
 have FP:((((w.drew.alloc (.cells nS 47)).setCells w.heap.size (i*7) (uZ.toList.take 7)).drew).setCells w.heap.size ((i+1)*7) ((arr.toList.drop (i*7)).take ((n-i)*7)))=
   W2.setCells w.heap.size ((i+1)*7) ((arr.toList.drop (i*7)).take ((n-i)*7)):=by rw[QG,QF]
 have axT:∀ty,(Builtin.append_ #[28,3] ty #[.slice (some ⟨b,0,none⟩) i c,.int .i64 ((n:Int)+1-(i:Int))]).run Tryz.prog w=.ok (.slice (some ⟨w.heap.size,0,none⟩) (n+1) G) W1:=by rw[QF];exact hrz
 have axU:W2=(W1.setCells w.heap.size (i*7) (uZ.toList.take 7)).drew:=QG;have gU:IntKind.i64.wrap ((i:Int)+1)=(i:Int)+1:=by rw[IntKind.wrap_i64];omega
 have eL:IntKind.i64.wrap ((n:Int)+1)=(n:Int)+1:=by rw[IntKind.wrap_i64];omega
 have SK:IntKind.i64.wrap ((n:Int)+1-(i:Int))=(n:Int)+1-(i:Int):=by rw[IntKind.wrap_i64];omega
 have htn:((i:Int)+1).toNat=i+1:=zE
 have aze:(0:Int)<=(i:Int)+1:=zE
 have hb3:(i:Int)<=(n:Int)+1:=zE
 have bQ:i<=n:=zE
 have hci:¬(c=i):=zE
 have hGi:¬(G=i):=zE
 have azf:¬(G=i+1):=zE
 have mixed:Tryz.prog.follows Departure.mixedOrders=true:=by kernel_rfl
 suffices aiu:Calls Tryz.prog 150 #[.slice (some ⟨b,0,none⟩) n c,.int .i64 i,.slice (some ⟨vb,0,none⟩) 1 vc] w fun e w'=>e=.returned (.slice (some ⟨w.heap.size,0,none⟩) (n+1) G)/\w'=((W1.setCells w.heap.size (i*7) (uZ.toList.take 7)).drew).setCells w.heap.size ((i+1)*7) ((arr.toList.drop (i*7)).take ((n-i)*7))from
  aiu.mono fun e w'⟨h1,h2⟩=>⟨G,nS,zs,hGn,h1,hRt,hRl,hGR,hRo,by rw[h2,QF]⟩
 rw[QG]at ath;clear DF dU hrz QF QG axU FP hkk qP hRt hRl hGR hRo hRs hN1 hN2 hO1 dz hv1 fV
 go_enter Tryz.func150,Tryz.ntmps150
 go_wp2_with (first
  |(at_builtin;refine Lib.wpList_append_run _ rfl _ _ _ _ rfl _ _ rfl rfl _ _ (axT _) ?_)
  |(at_builtin;refine p7 _ rfl _ _ 28 28 rfl _ _ rfl rfl (axS _ _) ?_))
 go_region_law_o (refine yz rfl _ _ 28 28 rfl _ _ (by simp[Act.eval,Act.put]) (by simp[Act.eval,Act.put]) (ath _ _ _) ?_)
 go_wp2
 go_ret
 exact⟨rfl,rfl⟩
open Go Go.Abs Go.RowKit
def Ou(y:AV):∀(xs l:P2)(n:Nat),setA (y::l) (n+1) xs=y::setA l n xs
 |[],_,_=>rfl
 |x::xs,l,n=>by rw[setA,setA,zzea,Ou y xs]
def lq(pre X Y:P2)(n:Nat)(k:Nat)(h:pre.length=n):setA (pre++X) (n+k) Y=pre++setA X k Y:=by
 subst h;induction pre with
 |nil=>simp
 |cons a r ih=>rw[zzae,zzaz,show r.length+1+k=r.length+k+1 by omega,Ou,ih];rfl
section
variable {N:Nat} {w0:eR} {an:Nat->Nat->Prop} {γ:G} {w:World} {m:AM}
def ai7(m:AM){id:Nat}(aL:id<m.boxes.length)(cells:P2):({m with boxes:=m.boxes.set id []++[cells]}:AM).B=fun i=>if i=m.boxes.length then some cells else if i=id then some []else m.B i:=by
 have e1:=Sw {m with boxes:=m.boxes.set id []} cells;rw[lX m id aL]at e1;simpa using e1
def ai8{A C:P2}{arr:P1}(q3:cq w γ (A++C) arr.toList):ak w γ C ((arr.toList.drop A.length).take C.length):=by
 have h:=q3.1;simp only[zzak,zzbi]at h;refine⟨by simp only[zzaq,zzcw,zzbi];omega,fun k c v g1 g2=>?_⟩;have hk:=(zza.1 g1).1;rw[zzbj,if_pos hk,zzbl]at g2;refine q3.2 (A.length+k) c v ?_ g2;rw[zzap zE,zzdz];exact g1
def Rv(hm:au N w0 an γ w m.B m.L){id b:Nat}{A C V:P2}(aL:m.boxes[id]?=some (A++C))(aO:A++C≠[])(hb:γ.β id=some b){arr:P1}{te:TypeId}(hh:w.heap[b]?=some (.cells arr te (0,0)))
  {vs:PQ}(hV:ak w γ V vs)(hvo:∀v∈vs,v.oneCell'=true)(hsz:A.length+V.length+C.length<=arr.size):
  Ev w γ ((w.drew.setCells b (A.length+V.length) ((arr.toList.drop A.length).take C.length)).setCells b A.length vs) (γ.box m.boxes.length b)/\
  au N w0 an (γ.box m.boxes.length b) ((w.drew.setCells b (A.length+V.length) ((arr.toList.drop A.length).take C.length)).setCells b A.length vs) ({m with boxes:=m.boxes.set id []++[A++(V++C)]}:AM).B m.L:=by
 have ah:id<m.boxes.length:=(zza.1 aL).1;have hB:m.B id=some (A++C):=aL;obtain⟨bN,e',q2,q3,q4⟩:=hm.box id _ b hB hb;rw[hh]at q2;cases q2;have cI:m.B m.boxes.length=none:=by simp[AM.B]
 have hD:=ai8 q3;have hDl:=hD.1;have hh':w.drew.heap[b]?=some (.cells arr te (0,0)):=hh;have gz:∀v∈(arr.toList.drop A.length).take C.length,v.oneCell'=true:=fun v hv=>q4 v (zzdv (zzce hv));generalize(arr.toList.drop A.length).take C.length=D at*
 have hr:cq w γ (A++(List.replicate V.length .junk++C)) (tK arr (A.length+V.length) D).toList:=by
  refine⟨by simp only[zzak,zzeb,zzbi,Zz];omega,fun k c v g1 g2=>?_⟩;rw[zzcb,wk]at g2;rcases zzaa k A.length with h1|h1
  ·rw[zzaj h1]at g1;rw[if_neg zE]at g2;exact q3.2 k c v (by rw[zzaj h1];exact g1) (by rw[zzcb];exact g2)
  rw[zzap h1]at g1;rcases zzaa (k-A.length) V.length with h2|h2
  ·rw[zzaj (Nm h2),zzcm,if_pos h2]at g1;cases g1;exact .junk _
  rw[zzap (Nm h2),zzeb]at g1;have h3:=(zza.1 g1).1;rw[if_pos zE]at g2;refine hD.2 _ c v g1 ?_;rw[<- g2];congr 1;omega
 obtain⟨e1,m1⟩:=hm.drew.share (id':=m.boxes.length) (new:=A++(List.replicate V.length .junk++C)) hb hB aO cI hh' (p:=A.length+V.length) (vs:=D) (hr.mono (Ev.drew w γ)) q4 gz;have dz:(γ.box m.boxes.length b).β m.boxes.length=some b:=by simp[G.box]
 have hh1:=Xd b D (A.length+V.length) w.drew arr te _ hh';have Sy:=(hr.mono (Ev.drew w γ)).mono e1;have hV1:=(hV.mono (Ev.drew w γ)).mono e1
 have Rw:A++(List.replicate V.length AV.junk++C)≠[]:=by
  intro h;simp only[zzgw]at h;exact aO (by simp[h.1,h.2.2])
 have m2:=m1.store (id:=m.boxes.length) zd dz hh1 Sy (Wy D _ arr q4 gz) (o:=A.length) hV1 hvo Rw;refine⟨((Ev.drew w γ).trans e1).trans (m1.cw dz A.length vs),?_⟩;rw[ai7 m ah]
 have lM:setA (A++(List.replicate V.length AV.junk++C)) A.length V=A++(V++C):=by
  have:=lq A (List.replicate V.length AV.junk++C) V A.length 0 rfl;rw[zzcn,jX V (List.replicate V.length AV.junk) C zd]at this;exact this
 rw[lM]at m2;refine(congrArg (fun B=>au N w0 an _ _ B m.L) (funext fun i=>?_)).mp m2;by_cases hi:i=m.boxes.length<;>simp[hi]
def afm(hm:au N w0 an γ w m.B m.L){id b:Nat}{A C V:P2}(aL:m.boxes[id]?=some (A++C))(hb:γ.β id=some b){arr:P1}{te te2:TypeId}(hh:w.heap[b]?=some (.cells arr te (0,0)))
  {vs zs:PQ}(hV:ak w γ V vs)(hvo:∀v∈vs,v.oneCell'=true){nS:P1}(G4:nS.toList=arr.toList.take A.length++zs)(Cw:V.length+C.length<=zs.length)(hzo:∀v∈zs,v.oneCell'=true)(aO:A++(V++C)≠[]):
  Ev w γ ((((w.drew.alloc (.cells nS te2)).setCells w.heap.size A.length vs).drew).setCells w.heap.size (A.length+V.length) ((arr.toList.drop A.length).take C.length)) (γ.box m.boxes.length w.heap.size)/\
  au N w0 an (γ.box m.boxes.length w.heap.size) ((((w.drew.alloc (.cells nS te2)).setCells w.heap.size A.length vs).drew).setCells w.heap.size (A.length+V.length) ((arr.toList.drop A.length).take C.length)) ({m with boxes:=m.boxes.set id []++[A++(V++C)]}:AM).B m.L:=by
 have ah:id<m.boxes.length:=(zza.1 aL).1;have hB:m.B id=some (A++C):=aL;obtain⟨bN,e',q2,q3,q4⟩:=hm.box id _ b hB hb;rw[hh]at q2;cases q2;have hq:=q3.1;simp only[zzak,zzbi]at hq;have cI:m.B m.boxes.length=none:=by simp[AM.B]
 have hD:=ai8 q3;have hDl:=hD.1;have gz:∀v∈(arr.toList.drop A.length).take C.length,v.oneCell'=true:=fun v hv=>q4 v (zzdv (zzce hv));generalize(arr.toList.drop A.length).take C.length=D at*
 have hmk:=(hm.kill hb).drew
 have fL:(fun i=>if i=id then some []else m.B i) m.boxes.length=none:=by
  have:m.boxes.length≠id:=zE
  simp only[if_neg this];exact cI
 have ayT:nS.size=A.length+zs.length:=by
  have:=congrArg List.length G4;simp only[zzbi,zzak,zzaq]at this;omega
 have hP:cq w γ (A++(List.replicate V.length .junk++List.replicate C.length .junk)) nS.toList:=by
  refine⟨by simp only[zzak,zzeb,zzbi];omega,fun k c v g1 g2=>?_⟩;rcases zzaa k A.length with h1|h1
  ·rw[zzaj h1]at g1;rw[G4,zzaj (by simp only[zzaq,zzbi];omega),zzbj,if_pos h1]at g2;exact q3.2 k c v (by rw[zzaj h1];exact g1) g2
  rw[zzap h1]at g1;rw[List.replicate_append_replicate,zzcm]at g1;split at g1
  ·cases g1;exact .junk _
  cases g1
 have hRo:∀v∈nS.toList,v.oneCell'=true:=fun v hv=>by
  rw[G4]at hv;rcases zzao.1 hv with hv|hv
  ·exact q4 v (zzce hv)
  exact hzo v hv
 have e1:=hmk.dy _ fL (.cells nS te2);have m1:=hmk.eY _ fL (e:=te2) (arr:=nS) (hP.mono (Ev.drew w γ)) hRo;have amD:w.drew.heap.size=w.heap.size:=rfl;rw[amD]at e1 m1;have dz:(γ.box m.boxes.length w.heap.size).β m.boxes.length=some w.heap.size:=by simp[G.box]
 have hh1:(w.drew.alloc (.cells nS te2)).heap[w.heap.size]?=some (.cells nS te2 (0,0)):=Yh w _;have hP1:=(hP.mono (Ev.drew w γ)).mono e1;have hV1:=(hV.mono (Ev.drew w γ)).mono e1;have hD1:=(hD.mono (Ev.drew w γ)).mono e1
 have hX:A++(List.replicate V.length AV.junk++List.replicate C.length AV.junk)≠[]:=by
  intro hX;apply aO;have h:=congrArg List.length hX;simp only[zzak,zzeb,zzco]at h;apply zzbe;simp only[zzak];omega
 have m2:=m1.store (id:=m.boxes.length) zd dz hh1 hP1 hRo (o:=A.length) hV1 hvo hX;have e2:=m1.cw dz A.length vs
 have lM:setA (A++(List.replicate V.length AV.junk++List.replicate C.length AV.junk)) A.length V=A++(V++List.replicate C.length AV.junk):=by
  have:=lq A (List.replicate V.length AV.junk++List.replicate C.length AV.junk) V A.length 0 rfl;rw[zzcn,jX V (List.replicate V.length AV.junk) _ zd]at this;exact this
 have hh2:=Xd w.heap.size vs A.length _ nS te2 _ hh1;have m3:=m2.drew
 have hX2:setA (A++(List.replicate V.length AV.junk++List.replicate C.length AV.junk)) A.length V≠[]:=by
  intro h;have h:=congrArg List.length h;rw[oE]at h;exact hX (zzbe h)
 have hP2:=((cq.setA (o:=A.length) hV1 hP1).mono e2).mono (Ev.drew _ _);have hD2:=(hD1.mono e2).mono (Ev.drew _ _);have m4:=m3.store (id:=m.boxes.length) zd dz hh2 hP2 (Wy vs _ nS hRo hvo) (o:=A.length+V.length) hD2 gz hX2;have e4:=m3.cw dz (A.length+V.length) D;refine⟨((((Ev.drew w γ).trans e1).trans e2).trans (Ev.drew _ _)).trans e4,?_⟩;rw[ai7 m ah]
 have hsb:setA (A++(V++List.replicate C.length AV.junk)) (A.length+V.length) C=A++(V++C):=by
  rw[lq A (V++List.replicate C.length AV.junk) C A.length V.length rfl];have:=lq V (List.replicate C.length AV.junk) C V.length 0 rfl;rw[zzcn]at this;rw[this];have:=jX C (List.replicate C.length AV.junk) [] zd;simp only[zzar]at this;rw[this]
 rw[lM,hsb]at m4;refine(congrArg (fun B=>au N w0 an _ _ B m.L) (funext fun i=>?_)).mp m4;by_cases hi:i=m.boxes.length<;>simp[hi]
end
