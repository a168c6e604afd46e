import Derived.Test.YthjppoincojfkaaGreatDoorRAME
import Derived.ProofKit
import Derived.OpenShut
import Derived.OpenVars
set_option linter.all false
namespace Go.Abs
open Go Go.RowKit
def nd{α:Type}{a b:α}(h:a=b):a=b:=h
section
variable (P:Program) (gl:Nat->AV) (orc:UV) (Y:YT) (s:AS) (Q:R0)
@[simp] def auV:vc P gl orc Y .skip s Q=Q .normal s:=nd rfl
@[simp] def aws(l:List SO):vc P gl orc Y (.ops l) s Q=Zn P gl orc Y l s (Q .normal):=nd rfl
@[simp] def awt(a b:SC):vc P gl orc Y (.seq a b) s Q=vc P gl orc Y a s (VY (vc P gl orc Y b) Q):=nd rfl
def adM(x:bE)(a b:SC):vc P gl orc Y (.cond x a b) s Q=match ev gl s.T x with|.bool t=>(t=true->vc P gl orc Y a s Q)/\(t=false->vc P gl orc Y b s Q)|_=>False:=nd rfl
@[simp] def arc(x:bE)(a b:SC):vc P gl orc Y (.cond x a b) s Q=match ev gl s.T x with|.bool t=>(if t=true then vc P gl orc Y a s Q else vc P gl orc Y b s Q)|_=>False:=by
 rw[adM];cases ev gl s.T x<;>try rfl
 rename_i t;cases t<;>simp
@[simp] def ard(id:Nat)(c:SC):vc P gl orc Y (.block id c) s Q=vc P gl orc Y c s (nt id Q):=nd rfl
@[simp] def auW(id:Nat):vc P gl orc Y (.exit id) s Q=Q (.exit id) s:=nd rfl
@[simp] def are(c:SC):vc P gl orc Y (.scope c) s Q=vc P gl orc Y c s (wO Q):=nd rfl
@[simp] def awu:vc P gl orc Y .ret s Q=Q .ret s:=nd rfl
@[simp] def awv:vc P gl orc Y .bad s Q=False:=nd rfl
def adN{c:SC}(I:AS->Prop)(μ:AS->Nat)(h0:I s)(hr:∀s',I s'->vc P gl orc Y c s' (nx I μ s' Q)):vc P gl orc Y (.loop c) s Q:=⟨I,μ,h0,hr⟩
variable (k:AS->(R0)->Prop) (id id':Nat) (I:AS->Prop) (μ:AS->Nat) (s0:AS)
@[simp] def aic:VY k Q .normal s=k s Q:=nd rfl
@[simp] def anz:VY k Q (.exit id) s=Q (.exit id) s:=nd rfl
@[simp] def arf:VY k Q .ret s=Q .ret s:=nd rfl
@[simp] def aa2:nt id Q .normal s=Q .normal s:=nd rfl
@[simp] def aid:nt id Q (.exit id') s=if id'=id then Q .normal s else Q (.exit id') s:=nd rfl
@[simp] def ak6:nt id Q .ret s=Q .ret s:=nd rfl
@[simp] def aa3:wO Q .normal s=Q .normal s:=nd rfl
@[simp] def aie:wO Q (.exit id) s=Q (.exit id) s:=nd rfl
@[simp] def ak7:wO Q .ret s=Q .ret s:=nd rfl
@[simp] def aa4:nx I μ s0 Q .normal s=(I s/\μ s<μ s0):=nd rfl
@[simp] def aif:nx I μ s0 Q (.exit id) s=Q (.exit id) s:=nd rfl
@[simp] def ak8:nx I μ s0 Q .ret s=Q .ret s:=nd rfl
end
@[simp] def auX(P:Program)(gl:Nat->AV)(orc:UV)(Y:YT)(s:AS)(Q:R0)(l l2:List SO):vc P gl orc Y (.draw l l2) s Q=Sf P gl orc Y l2 (Q .normal) l s.T s.m []:=nd rfl
def ak9(T:P2)(f:Nat->AV):Pa->P2
 |[]=>T
 |i::W=>ak9 (T.set i (f i)) f W
def CQ(T:P2)(W:Pa)(R:(Nat->AV)->AM->Prop)(μ:(Nat->AV)->AM->Nat)(f:Nat->AV)(m:AM)(Q:R0):R0
 |.normal,s'=>s'.T=ak9 T (fun i=>s'.T.getD i .junk) W/\R (fun i=>s'.T.getD i .junk) s'.m/\μ (fun i=>s'.T.getD i .junk) s'.m<μ f m
 |ex,s'=>Q ex s'
section
variable (T:P2) (W:Pa) (R:(Nat->AV)->AM->Prop) (μ:(Nat->AV)->AM->Nat) (f:Nat->AV) (m:AM) (Q:R0) (s:AS) (id:Nat)
@[simp] def Wa:CQ T W R μ f m Q .normal s=(s.T=ak9 T (fun i=>s.T.getD i .junk) W/\R (fun i=>s.T.getD i .junk) s.m/\μ (fun i=>s.T.getD i .junk) s.m<μ f m):=nd rfl
@[simp] def adO:CQ T W R μ f m Q (.exit id) s=Q (.exit id) s:=nd rfl
@[simp] def aih:CQ T W R μ f m Q .ret s=Q .ret s:=nd rfl
end
def nth(l:P2)(n:Nat):AV:=l.getD n .junk
def Qj(l:T5)(n:Nat):P2:=l.getD n []
@[simp high] theorem Qbr(l:P2)(n:Nat):l.getD n .junk=nth l n:=rfl
@[simp high] theorem Yd(l:T5)(n:Nat):l.getD n []=Qj l n:=rfl
@[simp] theorem auY(n:Nat):nth [] n=.junk:=rfl
@[simp] theorem arh(a:AV)(l:P2):nth (a::l) 0=a:=rfl
@[simp] theorem ari(a:AV)(l:P2)(n:Nat):nth (a::l) (n+1)=nth l n:=rfl
@[simp] theorem arj(n:Nat):Qj [] n=[]:=rfl
@[simp] theorem anA(a:P2)(l:T5):Qj (a::l) 0=a:=rfl
@[simp] theorem anB(a:P2)(l:T5)(n:Nat):Qj (a::l) (n+1)=Qj l n:=rfl
@[simp] def Wb(l l':T5):Qj (l++l') l.length=Qj l' 0:=by simp[Qj,zzaw,-Yd,zzap]
@[simp] def Vq(l l':T5)(k:Nat):Qj (l++l') (l.length+k)=Qj l' k:=by simp[Qj,zzaw,-Yd,zzap]
@[simp] def auZ(l l':T5)(x:P2):(l++l').set l.length x=l++l'.set 0 x:=by simp[zzde]
@[simp] def aii(l l':T5)(k:Nat)(x:P2):(l++l').set (l.length+k) x=l++l'.set k x:=by simp[zzde]
def Qu{l:T5}{n:Nat}{x:P2}(h:l[n]?=some x):Qj l n=x:=by simp[Qj,zzaw,-Yd,h]
def ala{l:P2}{n:Nat}{x:AV}(h:l[n]?=some x):nth l n=x:=by simp[nth,zzaw,-Qbr,h]
def numOf:AV->Int
 |.int _ n=>n
 |_=>0
@[simp] theorem anC(k:IntKind)(n:Int):numOf (.int k n)=n:=rfl
@[simp] theorem aij:Jg .full=true:=rfl
@[simp] theorem alb:Jg .nil=true:=rfl
@[simp] theorem anD:Jg .ro=false:=rfl
@[simp] theorem anE:Jg .nn=false:=rfl
@[simp] theorem alc(i s:Nat):Jg (.own i s)=false:=rfl
@[simp] theorem ald(sz:Nat)(l:P2):aY sz 0 l=[]:=rfl
@[simp] theorem wQ(sz n:Nat)(l:P2):aY sz (n+1) l=l.take sz::aY sz n (l.drop sz):=rfl
@[simp] theorem ale:Jt []=some []:=rfl
@[simp] def aik(n:Int)(r:T5):Jt ([.int .u8 n]::r)=(match Jt r with|some l=>some (UInt8.ofNat n.toNat::l)|_=>none):=by
 simp only[Jt,byteOf];cases Jt r<;>rfl
@[simp] theorem ark(b:Bool):I8 (.bool b)=some (true,b):=rfl
@[simp] theorem arl(b:Bool):isB (.bool b)=true:=rfl
@[simp] theorem arn(b:Bool):bOf (.bool b)=b:=rfl
@[simp] theorem au0(a:AV):I8 (.gd false a)=some (false,bOf a):=rfl
@[simp] theorem au1(a:AV):I8 (.gd true a)=some (isB a,bOf a):=rfl
@[simp] def aww(g b:Bool):I8 (.gd g (.bool b))=some (g,b):=by cases g<;>rfl
@[simp] theorem aro(want g:Bool):D9 want (.bool g)=some (g==want):=rfl
@[simp] theorem awx(want d b:Bool):D9 want (.gd d (.bool b))=some (d&&(b==want)):=rfl
@[simp] def au2(want:Bool)(a:AV):D9 want (.gd false a)=some false:=by cases a<;>rfl
@[simp] theorem au3(gl:Nat->AV)(T:P2)(t:Nat):evS gl T (.tmp t)=strip (nth T t):=rfl
@[simp] theorem anF(gl:Nat->AV)(T:P2)(a:AV):evS gl T (.const a)=strip a:=rfl
@[simp] theorem arp(gl:Nat->AV)(T:P2)(f:FuncId):evS gl T (.func f)=.fn f [] []:=rfl
@[simp] theorem arq(gl:Nat->AV)(T:P2)(g:Nat):evS gl T (.glob g)=strip (gl g):=rfl
section
variable (P:Program) (gl:Nat->AV) (orc:UV) (Y:YT) (K:AS->Prop) (r:List SO) (T:P2) (m:AM) (d:Option Nat) (op:aF) (xs:List bE) (s:AS)
@[simp] def anG:Zn P gl orc Y [] s K=K s:=nd rfl
@[simp] def alf:Zn P gl orc Y (⟨d,op,none,xs⟩::r) s K=(if effy orc (ev gl s.T) s.m d op=true then Qam P gl Y (ev gl s.T) s.m (fun av m'=>Zn P gl orc Y r ⟨put s.T d av,m'⟩ K) op
   else(sop P gl orc (ev gl s.T) s.m d op).1/\Zn P gl orc Y r ⟨put s.T d (sop P gl orc (ev gl s.T) s.m d op).2.1,(sop P gl orc (ev gl s.T) s.m d op).2.2⟩ K):=nd rfl
@[simp] def alg(t:Nat)(want:Bool):Zn P gl orc Y (⟨d,op,some (some t,want),xs⟩::r) s K=(match D9 want (s.T.getD t .junk)with
   |some gw=>gok gl s.T gw (gxs op xs)/\
     if effy orc (evG gl s.T op) s.m d op=true then
      (gw=true->Qam P gl Y (evG gl s.T op) s.m (fun av m'=>Zn P gl orc Y r ⟨put s.T d (.gd true av),m'⟩ K) op)/\(gw=false->Zn P gl orc Y r ⟨put s.T d (.gd false (.bool false)),s.m⟩ K)
     else(gw=true->(rop P gl orc (evG gl s.T op) s.m d op).1)/\
      Zn P gl orc Y r ⟨put s.T d (.gd gw (rop P gl orc (evG gl s.T op) s.m d op).2),s.m⟩ K
   |none=>False):=nd rfl
variable (l2:List SO) (nb:T5) (o:SO)
@[simp] def au4:Sf P gl orc Y l2 K [] T m nb=Zn P gl orc Y l2 ⟨T,{m with boxes:=m.boxes++nb}⟩ K:=nd rfl
@[simp] def ars:Sf P gl orc Y l2 K (o::r) T m nb=((dop P gl orc o T m nb).1/\Sf P gl orc Y l2 K r (put T o.dst (dop P gl orc o T m nb).2.1) m (dop P gl orc o T m nb).2.2):=nd rfl
end
attribute [simp] rawOp evG gxs effy Qam callV dop ev Jr oneOf strip gok setA Qdf sop rop binV binI binS binBool Vl kindF eqF Qbp eqFs loOf hiOf lenS cellsS mutO vcNxt keyA intsA keyAV
def qT(n:Nat)(a:AV):bF n [a]=List.replicate n a:=by
 induction n with
 |zero=>rfl
 |succ n ih=>rw[bF,ih];rfl
@[simp] theorem ail(P:Program)(gl:Nat->AV)(orc:UV)(rs:List aF)(r:AV)(s:AS):post P gl orc rs r .normal s=((Jr P gl orc s rs).1/\bz s.m 6 (oneOf (Jr P gl orc s rs).2)=r):=rfl
@[simp] theorem art(P:Program)(gl:Nat->AV)(orc:UV)(rs:List aF)(r:AV)(s:AS):post P gl orc rs r .ret s=((Jr P gl orc s rs).1/\bz s.m 6 (oneOf (Jr P gl orc s rs).2)=r):=rfl
@[simp] theorem adP(P:Program)(gl:Nat->AV)(orc:UV)(rs:List aF)(K:So)(s:AS):wP P gl orc rs K .normal s=((Jr P gl orc s rs).1/\K (oneOf (Jr P gl orc s rs).2) s.m):=rfl
@[simp] theorem anH(P:Program)(gl:Nat->AV)(orc:UV)(rs:List aF)(K:So)(s:AS):wP P gl orc rs K .ret s=((Jr P gl orc s rs).1/\K (oneOf (Jr P gl orc s rs).2) s.m):=rfl
section
variable (m:AM) (d:Nat)
@[simp] theorem aim(b:Bool):Qx (.bool b)=true:=rfl
@[simp] theorem alh(k:IntKind)(n:Int):Qx (.int k n)=true:=rfl
@[simp] theorem ali(s:ByteArray):Qx (.str s)=true:=rfl
@[simp] theorem anI(rt:Rt)(r:T5):Qx (.sl rt r)=true:=rfl
@[simp] theorem anJ(r:P2)(o:Nat):Qx (.ep r o)=true:=rfl
@[simp] theorem alj(i o:Nat):Qx (.ptr i o)=true:=rfl
@[simp] theorem anK(i o n z:Nat):Qx (.bs i o n z)=true:=rfl
@[simp] theorem anL(f:FuncId)(a b:P2):Qx (.fn f a b)=true:=rfl
@[simp] theorem ain(p:Bool):Qx (.nilv p)=true:=rfl
@[simp] theorem adQ:Qx .nilfn=true:=rfl
@[simp] theorem alk(l:Nat):Qx (.yld l)=true:=rfl
@[simp] theorem anM(i:Nat):Qx (.mp i)=true:=rfl
@[simp] theorem anN(i:Nat):Qx (.it i)=true:=rfl
@[simp] theorem aio(k:Nat)(l:List (Pi×AV)):Qx (.aJ k l)=false:=rfl
@[simp] theorem aip(i n:Nat)(l:Pa):Qx (.mitr i n l)=false:=rfl
@[simp] theorem aiq:Qx .junk=false:=rfl
@[simp] theorem alm(cs:P2):Qx (.agg cs)=false:=rfl
@[simp] theorem aln(cs:P2):Qx (.aS cs)=false:=rfl
@[simp] theorem anO(g:Bool)(a:AV):Qx (.gd g a)=false:=rfl
@[simp] theorem anP(b:Bool):bare (.bool b)=true:=rfl
@[simp] theorem aru(k:IntKind)(n:Int):bare (.int k n)=true:=rfl
@[simp] theorem arw(s:ByteArray):bare (.str s)=true:=rfl
@[simp] theorem au5(rt:Rt)(r:T5):bare (.sl rt r)=true:=rfl
@[simp] theorem au6(r:P2)(o:Nat):bare (.ep r o)=true:=rfl
@[simp] theorem arx(i o:Nat):bare (.ptr i o)=true:=rfl
@[simp] theorem au7(i o n z:Nat):bare (.bs i o n z)=true:=rfl
@[simp] theorem au8(f:FuncId)(a b:P2):bare (.fn f a b)=true:=rfl
@[simp] theorem anQ(p:Bool):bare (.nilv p)=true:=rfl
@[simp] theorem alo:bare .nilfn=true:=rfl
@[simp] theorem ary(l:Nat):bare (.yld l)=true:=rfl
@[simp] theorem au9(i:Nat):bare (.mp i)=true:=rfl
@[simp] theorem ava(i:Nat):bare (.it i)=true:=rfl
@[simp] theorem anR(k:Nat)(l:List (Pi×AV)):bare (.aJ k l)=false:=rfl
@[simp] theorem anS(i n:Nat)(l:Pa):bare (.mitr i n l)=false:=rfl
@[simp] theorem arz(cs:P2):bare (.agg cs)=true:=rfl
@[simp] theorem anT:bare .junk=false:=rfl
@[simp] theorem arA(cs:P2):bare (.aS cs)=false:=rfl
@[simp] theorem avb(g:Bool)(a:AV):bare (.gd g a)=false:=rfl
@[simp] theorem adR(b:Bool):cellsOf (.bool b)=[.bool b]:=rfl
@[simp] theorem air(k:IntKind)(n:Int):cellsOf (.int k n)=[.int k n]:=rfl
@[simp] theorem ais(s:ByteArray):cellsOf (.str s)=[.str s]:=rfl
@[simp] theorem alp(rt:Rt)(r:T5):cellsOf (.sl rt r)=[.sl rt r]:=rfl
@[simp] theorem alq(r:P2)(o:Nat):cellsOf (.ep r o)=[.ep r o]:=rfl
@[simp] theorem ait(i o:Nat):cellsOf (.ptr i o)=[.ptr i o]:=rfl
@[simp] theorem alr(i o n z:Nat):cellsOf (.bs i o n z)=[.bs i o n z]:=rfl
@[simp] theorem alu(f:FuncId)(a b:P2):cellsOf (.fn f a b)=[.fn f a b]:=rfl
@[simp] theorem adS(p:Bool):cellsOf (.nilv p)=[.nilv p]:=rfl
@[simp] theorem aa5:cellsOf .nilfn=[.nilfn]:=rfl
@[simp] theorem aiu(l:Nat):cellsOf (.yld l)=[.yld l]:=rfl
@[simp] theorem alv(i:Nat):cellsOf (.mp i)=[.mp i]:=rfl
@[simp] theorem alw(i:Nat):cellsOf (.it i)=[.it i]:=rfl
@[simp] theorem aiv(cs:P2):cellsOf (.agg cs)=cs:=rfl
@[simp] theorem arB(b:Bool):bz m (d+1) (.bool b)=.bool b:=rfl
@[simp] theorem avc(k:IntKind)(n:Int):bz m (d+1) (.int k n)=.int k n:=rfl
@[simp] theorem avd(s:ByteArray):bz m (d+1) (.str s)=.str s:=rfl
@[simp] theorem arC(p:Bool):bz m (d+1) (.nilv p)=.nilv p:=rfl
@[simp] theorem anU:bz m (d+1) .nilfn=.nilfn:=rfl
@[simp] theorem ave(l:Nat):bz m (d+1) (.yld l)=.junk:=rfl
@[simp] theorem awy(i:Nat):bz m (d+1) (.mp i)=.junk:=rfl
@[simp] theorem awz(i:Nat):bz m (d+1) (.it i)=.junk:=rfl
@[simp] theorem arD:bz m (d+1) .junk=.junk:=rfl
@[simp] theorem avf(cs:P2):bz m (d+1) (.agg cs)=.agg (cs.map (bz m d)):=rfl
@[simp] theorem avg(cs:P2):bz m (d+1) (.aS cs)=.aS (cs.map (bz m d)):=rfl
@[simp] theorem awA(f:FuncId)(a b:P2):bz m (d+1) (.fn f a b)=.fn f (a.map (bz m d)) (b.map (bz m d)):=rfl
@[simp] theorem awB(r:T5):bz m (d+1) (.sl .ro r)=.sl .ro r:=rfl
@[simp] theorem arE(r:T5):bz m (d+1) (.sl .full r)=.sl .full r:=rfl
@[simp] theorem avh(r:T5):bz m (d+1) (.sl .nil r)=.sl .nil r:=rfl
@[simp] theorem awC(r:T5):bz m (d+1) (.sl .nn r)=.sl .nn r:=rfl
@[simp] theorem avi(i s:Nat)(r:T5):bz m (d+1) (.sl (.own i s) r)=.sl .ro r:=rfl
@[simp] theorem awD(r:P2)(o:Nat):bz m (d+1) (.ep r o)=.ep r o:=rfl
@[simp] def Wc(i o n z:Nat):bz m (d+1) (.bs i o n z)=if o+n*z<=(m.boxes.getD i []).length then .sl .ro (aY z n (((m.boxes.getD i []).map (bz m d)).drop o))else .junk:=by
 simp only[bz];cases h:Nat.ble (o+n*z) (m.boxes.getD i []).length with
 |true=>rw[if_pos (zzb h)];rfl
 |false=>rw[if_neg (fun h'=>by rw[Nat.ble_eq_true_of_le h']at h;cases h)];rfl
@[simp] theorem oV(i o:Nat):bz m (d+1) (.ptr i o)=.ep ((m.boxes.getD i []).map (bz m d)) o:=rfl
@[simp] theorem anV(b:Bool):Vj (d+1) (.bool b)=false:=rfl
@[simp] theorem arF(k:IntKind)(n:Int):Vj (d+1) (.int k n)=false:=rfl
@[simp] theorem arG(s:ByteArray):Vj (d+1) (.str s)=false:=rfl
@[simp] theorem anW(p:Bool):Vj (d+1) (.nilv p)=false:=rfl
@[simp] theorem alx:Vj (d+1) .nilfn=false:=rfl
@[simp] theorem arH(l:Nat):Vj (d+1) (.yld l)=false:=rfl
@[simp] theorem avj(i:Nat):Vj (d+1) (.mp i)=false:=rfl
@[simp] theorem avk(i:Nat):Vj (d+1) (.it i)=false:=rfl
@[simp] theorem anX:Vj (d+1) .junk=false:=rfl
@[simp] theorem arI(cs:P2):Vj (d+1) (.agg cs)=cs.any (Vj d):=rfl
@[simp] theorem arJ(cs:P2):Vj (d+1) (.aS cs)=cs.any (Vj d):=rfl
@[simp] theorem avl(f:FuncId)(a b:P2):Vj (d+1) (.fn f a b)=(a.any (Vj d)||b.any (Vj d)):=rfl
@[simp] theorem avm(rt:Rt)(r:T5):Vj (d+1) (.sl rt r)=false:=rfl
@[simp] theorem avn(r:P2)(o:Nat):Vj (d+1) (.ep r o)=false:=rfl
@[simp] theorem avo(i o n z:Nat):Vj (d+1) (.bs i o n z)=true:=rfl
@[simp] theorem arK(i o:Nat):Vj (d+1) (.ptr i o)=true:=rfl
@[simp] theorem anY(b:Bool):flat (.bool b)=true:=rfl
@[simp] theorem arL(k:IntKind)(n:Int):flat (.int k n)=true:=rfl
@[simp] theorem arM(s:ByteArray):flat (.str s)=true:=rfl
@[simp] theorem aly(b:Bool):iU (.bool b)=true:=rfl
@[simp] theorem anZ(k:IntKind)(n:Int):iU (.int k n)=true:=rfl
@[simp] theorem an0(s:ByteArray):iU (.str s)=true:=rfl
@[simp] theorem arN(cs:P2):flat (.aS cs)=cs.all iU:=rfl
end
def Ft:AV->Bool
 |.bool _|.int _ _|.str _|.sl .ro _|.sl .full _|.sl .nil _|.sl .nn _|.nilfn|.ep _ _=>true
 |_=>false
@[simp] theorem arO(b:Bool):Ft (.bool b)=true:=rfl
@[simp] theorem avp(k:IntKind)(n:Int):Ft (.int k n)=true:=rfl
@[simp] theorem avq(s:ByteArray):Ft (.str s)=true:=rfl
@[simp] theorem awE(r:T5):Ft (.sl .ro r)=true:=rfl
@[simp] theorem arP(r:T5):Ft (.sl .full r)=true:=rfl
@[simp] theorem avr(r:T5):Ft (.sl .nil r)=true:=rfl
@[simp] theorem awF(r:T5):Ft (.sl .nn r)=true:=rfl
@[simp] theorem awG(r:P2)(o:Nat):Ft (.ep r o)=true:=rfl
def NB(m:AM)(d:Nat){a:AV}(h:Ft a=true):bz m (d+1) a=a:=by
 cases a<;>simp[Ft]at h |-
 rename_i rt rows;cases rt<;>simp at h |-
def Zm(row:P2):Bool:=row.all Ft
def Ve(m:AM)(d:Nat){row:P2}(h:Zm row=true):row.map (bz m (d+1))=row:=by
 have:row.map (bz m (d+1))=row.map id:=zzct fun a ha=>NB m d (zzas.1 h a ha);rw[this,List.map_id]
def Ql{n:Int}(h1: -9223372036854775808<=n)(h2:n<=9223372036854775807):IntKind.i64.wrap n=n:=by
 rw[IntKind.wrap_i64];omega
def bO(i:Nat)(h:i<1000000000000000000):IntKind.i64.wrap ((i:Int)+1)=((i+1:Nat):Int):=by rw[Ql]<;>omega
def aV{α:Type}{l:List α}{i:Nat}(h:i<l.length):∃x,l[i]?=some x:=⟨_,zzaf h⟩
@[simp] theorem Jm(m:AM)(l:Nat)(x:LS):(m.at_ l x).boxes=m.boxes:=rfl
@[simp] theorem NC(m:AM)(l:Nat)(x:LS):(m.at_ l x).lens=m.lens:=rfl
@[simp] theorem aiw(m:AM)(l:Nat)(x:LS):(m.at_ l x).st=uC m.st l x:=rfl
@[simp] def ayw(m:AM)(l:Nat)(x y:LS):(m.at_ l x).at_ l y=m.at_ l y:=by
 simp only[AM.at_];congr 1;funext i;simp only[uC];split<;>rfl
@[simp] def arQ(st:Nat->LS)(l:Nat)(x:LS):uC st l x l=x:=by simp[uC]
@[simp] def avt(st:Nat->LS)(l:Nat)(x y:LS):uC (uC st l x) l y=uC st l y:=by funext i;simp only[uC];split<;>rfl
def fF(m m':AM):Prop:=(∃bx,m'.boxes=m.boxes++bx)/\(∃lx,m'.lens=m.lens++lx)/\∀l,m.st l≠.gone->m'.st l=m.st l
def fF.refl(m:AM):fF m m:=⟨⟨[],zd⟩,⟨[],zd⟩,fun _ _=>rfl⟩
def fF.trans{m m' lE:AM}(h:fF m m')(k:fF m' lE):fF m lE:=by
 obtain⟨⟨b,h1⟩,⟨c,h2⟩,h3⟩:=h;obtain⟨⟨b',k1⟩,⟨c',k2⟩,k3⟩:=k;exact⟨⟨b++b',by rw[k1,h1,zzbe]⟩,⟨c++c',by rw[k2,h2,zzbe]⟩,fun l hl=>by rw[k3 l (by rw[h3 l hl];exact hl),h3 l hl]⟩
def fF.box(m:AM)(b:T5):fF m {m with boxes:=m.boxes++b}:=⟨⟨b,rfl⟩,⟨[],zd⟩,fun _ _=>rfl⟩
def fF.gone{m m':AM}(h:fF m m')(l:Nat):fF (m.at_ l .gone) (m'.at_ l .gone):=
 ⟨h.1,h.2.1,fun l' eZ=>by
  by_cases e:l'=l
  ·subst e;simp at eZ
  simp only[aiw,uC,e,if_false]at eZ |-;exact h.2.2 l' eZ⟩
def wR(y:P2->AM->(Bool->AM->Prop)->Prop)(K:AM->Prop):T5->AM->Prop
 |[],m=>∀m',fF m m'->K m'
 |x::xs,m=>∀m',fF m m'->∀K':Bool->AM->Prop,(∀lE,wR y K xs lE->K' true lE)->(∀lE,(∀m3,fF lE m3->K m3)->K' false lE)->y x m' K'
def wR.ext{y:P2->AM->(Bool->AM->Prop)->Prop}{K:AM->Prop}{xs:T5}{m m':AM}(h:wR y K xs m)(e:fF m m'):wR y K xs m':=by
 cases xs with
 |nil=>exact fun m2 e2=>h m2 (e.trans e2)
 |cons x xs=>exact fun m2 e2=>h m2 (e.trans e2)
def Iter(P:Program)(gl:Nat->AV)(f:FuncId)(first cap:P2)(xs:T5):Prop:=
 ∀(Y:YT)(l:Nat)(m:AM)(K:AM->Prop),wR (Y l) K xs m->aB P gl Y f (first++[.yld l]++cap) m fun _ m'=>K m'
def jk{P:Program}{gl:Nat->AV}{orc:UV}{Y:YT}{s:AS}{Q:R0}{g:bE}{ps:Pa}{ij body:SC}{f:FuncId}{first cap:P2}{xs:T5}
  (hg:ev gl s.T g=.fn f first cap)(cU:Iter P gl f first cap xs)(aH:∀x∈xs,x.length=ps.length)(I:Nat->AM->Prop)(X:Exit->AM->Prop)(h0:I 0 s.m)
  (hI:∀i m m',I i m->fF m m'->I i m')(hX:∀ex m m',X ex m->fF m m'->X ex m')
  (
   hb:∀(l i:Nat)(m:AM)(x:P2),s.m.st l=.gone->m.st l=.ready->I i (m.at_ l .gone)->xs[i]?=some x->∀K':R0,
   (∀s',I (i+1) (s'.m.at_ l .gone)->K' .normal s')->(∀s',X .ret (s'.m.at_ l .gone)->K' .ret s')->(∀id s',X (.exit id) (s'.m.at_ l .gone)->K' (.exit id) s')->
   vc P gl orc Y ij ⟨Qao s.T ps x,m⟩ (JZ l fun s'=>vc P gl orc Y body s' K'))
  (Wf:∀m,I xs.length m->Q .normal ⟨s.T,m⟩)(hex:∀ex m,X ex m->Q ex ⟨s.T,m⟩):vc P gl orc Y (.rfunc g ps ij body) s Q:=by
 simp only[vc,hg];intro hl;generalize dG:s.m.ln=l at hl;refine cU _ l s.m.bK (fun m'=>CO l s.T m' Q (m'.st l)) ?_;have iI:∀{m m':AM},m.st l=.ready->fF m m'->m'.st l=.ready:=fun h e=>by rw[e.2.2 l (by rw[h];simp),h]
 have key:∀(n i:Nat)(m:AM),i+n=xs.length->I i (m.at_ l .gone)->m.st l=.ready->wR (Yin Y l ps.length (fun args m K=>vc P gl orc Y ij ⟨Qao s.T ps args,m⟩ (JZ l fun s'=>vc P gl orc Y body s' (PM l K))) l) (fun m'=>CO l s.T m' Q (m'.st l)) (xs.drop i) m:=by
  intro n;induction n with
  |zero=>
   intro i m hi hIm hm;rw[zzal zE];intro m' e;simp only[iI hm e,CO];obtain rfl:i=xs.length:=zE
   exact Wf _ (hI _ _ _ hIm (e.gone l))
  |succ n ih=>
   intro i m hi hIm hm;have ai:i<xs.length:=zE
   rw[zzag ai];intro m' e K' hT hF;simp only[Yin,if_true];refine⟨iI hm e,aH _ (zzdf ai),?_⟩;refine hb l i m' xs[i] hl (iI hm e) (hI _ _ _ hIm (e.gone l)) (zzaf ai) (PM l K') (fun s' lG=>?_) (fun s' hQ=>?_) fun id s' hQ=>?_
   ·refine hT _ (ih (i+1) _ zE ?_ zd);simpa using lG
   ·refine hF _ fun m3 e3=>?_;have h3:m3.st l=.done .ret:=by have:=e3.2.2 l zd;simpa using this
    simp only[h3];exact hex _ _ (hX _ _ _ hQ (by have:=e3.gone l;simpa using this))
   refine hF _ fun m3 e3=>?_;have h3:m3.st l=.done (.exit id):=by have:=e3.2.2 l zd;simpa using this
   simp only[h3];exact hex _ _ (hX _ _ _ hQ (by have:=e3.gone l;simpa using this))
 have:=key xs.length 0 s.m.bK zd (hI 0 s.m _ h0 ⟨⟨[],by simp[AM.bK]⟩,⟨[],by simp[AM.bK]⟩,fun l' eZ=>by
  have:l'≠l:=by rintro rfl;exact eZ hl
  simp[AM.bK,dG,uC,this]⟩) (by simp[AM.bK,dG])
 simpa using this
attribute [simp] Qao
section
variable (l:Nat) (k:AS->Prop) (s:AS) (id:Nat)
@[simp] def aix:JZ l k .normal s=(s.m.st l=.ready/\k ⟨s.T,s.m.at_ l .busy⟩):=nd rfl
end
open Go Go.RowKit
def look:QQ->Nat->AV
 |[],_=>.junk
 |(d,v)::r,t=>if d=t then v else look r t
def Vy(n:Nat)(E:QQ):P2:=(List.range n).map (look E)
def sG:Nat->P2->QQ
 |_,[]=>[]
 |i,a::r=>(i,a)::sG (i+1) r
@[simp] theorem qU(d:Nat)(v:AV)(r:QQ)(t:Nat):look ((d,v)::r) t=if d=t then v else look r t:=rfl
@[simp] theorem look_nil(t:Nat):look [] t=.junk:=rfl
@[simp] theorem an1(i:Nat):sG i []=[]:=rfl
@[simp] theorem J2(i:Nat)(a:AV)(r:P2):sG i (a::r)=(i,a)::sG (i+1) r:=rfl
@[simp] def adT{n t:Nat}{E:QQ}(h:t<n):nth (Vy n E) t=look E t:=by
 simp[nth,Vy,zzaw,-Qbr,h]
def Zr{n d:Nat}{E:QQ}(h:d<n)(v:AV):(Vy n E).set d v=Vy n ((d,v)::E):=by
 apply zzeu (by simp[Vy]);intro i h1 h2;rw[List.getElem_set];simp[Vy]
@[simp] def avu{n d:Nat}{E:QQ}(h:d<n)(v:AV):put (Vy n E) (some d) v=Vy n ((d,v)::E):=Zr h v
@[simp] theorem arR(T:P2)(v:AV):put T none v=T:=rfl
@[simp] def an2{n d:Nat}{E:QQ}(h:d<n)(ps:Pa)(x:AV)(xs:P2):Qao (Vy n E) (d::ps) (x::xs)=Qao (Vy n ((d,x)::E)) ps xs:=by
 rw[Qao,Zr h]
def wU:∀(l:P2)(i t:Nat),look (sG i l) t=if i<=t then l.getD (t-i) .junk else .junk
 |[],i,t=>by simp[-Qbr]
 |a::r,i,t=>by
  rw[J2,qU,wU r (i+1) t];by_cases h:i=t
  ·subst h;simp[-Qbr]
  rw[if_neg h];by_cases h':i<=t
  ·rw[if_pos zE,if_pos h',show t-i=(t-(i+1))+1 by omega];simp[-Qbr]
  rw[if_neg zE,if_neg h']
def AT{n:Nat}{l:P2}(h:l.length<=n):l++List.replicate (n-l.length) .junk=Vy n (sG 0 l):=by
 apply zzeu
 ·simp[Vy];omega
 intro i h1 h2;simp only[Vy,List.getElem_map,List.getElem_range,wU,zzbp,if_true,zzfc];rw[List.getElem_append];split
 ·rename_i hi;simp[zzaw,-Qbr,hi]
 rename_i hi;simp[zzaw,-Qbr,hi]
section
variable {P:Program} {gl:Nat->AV} {Y:YT}
def Qo{f:FuncId}{sc:SC}{rs:List aF}{n:Nat}(hc:c9 P f sc rs n)(orc:UV){l:P2}{r:AV}(hn:l.length<=n)
  (h:vc P gl orc Y0 sc ⟨Vy n (sG 0 l),⟨[],[],fun _=>.gone,0⟩⟩ (post P gl orc rs r)):Pure P gl f l r:=adL hc orc (by rw[AT hn];exact h)
def Xn{f:FuncId}{sc:SC}{rs:List aF}{n:Nat}(hc:c9 P f sc rs n)(orc:UV){l:P2}{m:AM}{K:So}(hn:l.length<=n)
  (h:vc P gl orc Y sc ⟨Vy n (sG 0 l),m⟩ (wP P gl orc rs K)):aB P gl Y f l m K:=J1 hc orc (by rw[AT hn];exact h)
end
def fP(W:Pa)(E' E:QQ):Prop:=∀t,W.contains t=false->look E' t=look E t
def Qb(W:Pa)(E:QQ):fP W E E:=fun _ _=>rfl
def Qc{W:Pa}{E' E:QQ}{k:Nat}(v:AV)(hk:W.contains k=true)(h:fP W E' E):fP W ((k,v)::E') E:=fun t ht=>by
 rw[qU,if_neg (by rintro rfl;rw[hk]at ht;cases ht)];exact h t ht
def kQ(n:Nat)(E:QQ)(W:Pa)(R:(Nat->AV)->AM->Prop)(μ:(Nat->AV)->AM->Nat)(f:Nat->AV)(m:AM)(Q:R0):R0
 |.normal,s'=>(∃E',s'.T=Vy n E'/\fP W E' E)/\R (nth s'.T) s'.m/\μ (nth s'.T) s'.m<μ f m
 |ex,s'=>Q ex s'
def Qcm(f:Nat->AV):Pa->QQ->QQ
 |[],E=>E
 |i::W,E=>(i,f i)::Qcm f W E
@[simp] theorem alz(f:Nat->AV)(E:QQ):Qcm f [] E=E:=rfl
@[simp] theorem Fu(f:Nat->AV)(i:Nat)(W:Pa)(E:QQ):Qcm f (i::W) E=(i,f i)::Qcm f W E:=rfl
def jm(f:Nat->AV)(E:QQ)(t:Nat):∀W,look (Qcm f W E) t=if W.contains t then f t else look E t
 |[]=>zd
 |i::W=>by
  rw[Fu,qU,jm f E t W];by_cases h:i=t
  ·subst h;simp
  have h':t≠i:=Ne.symm h;simp[h,h']
def CR(f:Nat->AV)(W:Pa)(E:QQ):fP W (Qcm f W E) E:=fun t ht=>by rw[jm,ht];rfl
def adU{n:Nat}{E E':QQ}(h:∀t,t<n->look E t=look E' t):Vy n E=Vy n E':=zzct fun t ht=>h t (zzav.1 ht)
def AU{n:Nat}{W:Pa}{E:QQ}{T:P2}:(∃E',T=Vy n E'/\fP W E' E)<->T=Vy n (Qcm (nth T) W E):=by
 constructor
 ·rintro⟨E',rfl,h⟩;refine adU fun t ht=>?_;rw[jm];cases hc:W.contains t with
  |true=>simp only[if_true];rw[adT ht]
  |false=>simp only[zzbh,if_false];exact h t hc
 exact fun h=>⟨_,h,CR _ _ _⟩
def Qk{P:Program}{gl:Nat->AV}{orc:UV}{Y:YT}{n:Nat}{E:QQ}{m0:AM}{Q:R0}{c:SC}(W:Pa)(R:(Nat->AV)->AM->Prop)(μ:(Nat->AV)->AM->Nat)
  (h0:R (nth (Vy n E)) m0)(hr:∀f m,R f m->vc P gl orc Y c ⟨Vy n (Qcm f W E),m⟩ (kQ n E W R μ f m Q)):vc P gl orc Y (.loop c) ⟨Vy n E,m0⟩ Q:=by
 refine adN P gl orc Y ⟨Vy n E,m0⟩ Q (fun s'=>s'.T=Vy n (Qcm (nth s'.T) W E)/\R (nth s'.T) s'.m) (fun s'=>μ (nth s'.T) s'.m) ⟨AU.1 ⟨E,rfl,Qb _ _⟩,h0⟩ ?_;rintro⟨T',m'⟩ ⟨h1,h2⟩;have:=hr _ m' h2;rw[<- h1]at this
 have e:kQ n E W R μ (nth T') m' Q=nx (fun s'=>s'.T=Vy n (Qcm (nth s'.T) W E)/\R (nth s'.T) s'.m) (fun s'=>μ (nth s'.T) s'.m) ⟨T',m'⟩ Q:=by
  funext ex s';cases ex<;>simp[kQ,nx,and_assoc,AU]
 rwa [e]at this
section
variable (n:Nat) (E:QQ) (W:Pa) (R:(Nat->AV)->AM->Prop) (μ:(Nat->AV)->AM->Nat) (f:Nat->AV) (m:AM) (Q:R0) (s:AS) (id:Nat)
@[simp] theorem Wg:kQ n E W R μ f m Q .normal s=((∃E',s.T=Vy n E'/\fP W E' E)/\R (nth s.T) s.m/\μ (nth s.T) s.m<μ f m):=rfl
@[simp] theorem adV:kQ n E W R μ f m Q (.exit id) s=Q (.exit id) s:=rfl
@[simp] theorem aiy:kQ n E W R μ f m Q .ret s=Q .ret s:=rfl
end
def ag{n:Nat}{E' E:QQ}{W:Pa}(h:fP W E' E):∃E1,Vy n E'=Vy n E1/\fP W E1 E:=⟨E',rfl,h⟩
def aQ{n:Nat}{E' E:QQ}{W:Pa}(h:fP W E' E:=by repeat(first|exact Qb _ _|refine Qc _ rfl ?_)):∃E1,Vy n E'=Vy n E1/\fP W E1 E:=ag h
open Go Go.RowKit
def jo(P:Program):List Field->Nat->Option Nat
 |[],n=>some n
 |f::r,n=>if f.offset=n then jo P r (n+P.cellsOf f.type)else none
def Wr(P:Program):Nat->TypeId->Bool
 |0,_=>false
 |d+1,t=>match P.underlying t with
  |some .bool|some (.int _)|some .string=>P.cellsOf t==1
  |some (.slice e)=>((P.cellsOf t==1)&&!(P.cellsOf e==0))&&Wr P d e
  |some (.struct fs)=>(jo P fs.toList 0==some (P.cellsOf t))&&fs.toList.all fun f=>Wr P d f.type
  |some (.array n e)=>(P.cellsOf t==n*P.cellsOf e)&&Wr P d e
  |_=>false
def cF{H:Type}(P:Program):Nat->TypeId->DataW H->P2
 |0,_,_=>[]
 |d+1,t,x=>match P.underlying t,x with
  |some .bool,.lit (.bool b)=>[.bool b]
  |some (.int _),.lit (.int k n)=>[.int k n]
  |some .string,.lit (.string s)=>[.str ⟨s.toArray⟩]
  |some (.slice _),.nil=>[.sl .nil []]
  |some (.slice e),.slice bN _=>[.sl .nn (bN.map (cF P d e))]
  |some (.struct fs),.agg parts=>(fs.toList.zip parts).flatMap fun p=>cF P d p.1.type p.2
  |some (.array _ e),.agg parts=>parts.flatMap (cF P d e)
  |_,_=>[]
def Typed{H:Type}(P:Program):Nat->TypeId->DataW H->Prop
 |0,_,_=>False
 |d+1,t,x=>match P.underlying t,x with
  |some .bool,.lit (.bool _)=>True
  |some (.int k),.lit (.int k' n)=>k'=k/\(Lit.int k n).wf=true
  |some .string,.lit (.string s)=>s.length<=maxLen
  |some (.slice _),.nil=>True
  |some (.slice e),.slice bN _=>bN.length<=maxLen/\∀y∈bN,Typed P d e y
  |some (.struct fs),.agg parts=>parts.length=fs.size/\∀p∈fs.toList.zip parts,Typed P d p.1.type p.2
  |some (.array n e),.agg parts=>parts.length=n/\∀y∈parts,Typed P d e y
  |_,_=>False
def AW:Nat->Nat->Prop:=fun _ _=>True
section
variable {H:Type} {enc:TypeId×Value->H} {P:Program} {w:World} {base:Nat} {sp:Nat->Bool} {held:Bool}
def J3{a:Addr}{n:Nat}{cs:PQ}(h:w.cells? base a n=some cs):cs.length=n/\∀(j:Nat)(v:Value),cs[j]?=some v->w.cell? (a.add j)=some v:=by
 unfold World.cells? at h;split at h
 ·obtain⟨h1,h2⟩:=Qdc _ _ _ h;refine⟨Nm h1,fun j v hj=>?_⟩
  have ai:j<n:=by
   have:=(zza.1 hj).1;simp at h1;omega
  exact h2 j j v (by simp[ai]) hj
 cases h
def CS{γ:G}:∀(l:T5)(WA:List (PQ)),l.length=WA.length->(∀(i:Nat)(as:P2)(vs:PQ),l[i]?=some as->WA[i]?=some vs->ak w γ as vs)->ak w γ l.flatten WA.flatten
 |[],[],_,_=>ak.nil
 |[],_::_,h,_=>by simp at h
 |_::_,[],h,_=>by simp at h
 |as::l,vs::WA,h,hr=>by
  rw[zzch,zzch];exact(hr 0 as vs rfl rfl).append (CS l WA (Nm h) fun i as vs h1 h2=>hr (i+1) as vs (Nm h1) (Nm h2))
def sH{cs:PQ}:∀(fs:List Field)(n m:Nat),jo P fs n=some m->m=cs.length->n<=cs.length->(fs.map fun f=>(cs.drop f.offset).take (P.cellsOf f.type)).flatten=cs.drop n
 |[],n,m,h,hm,hn=>by simp[jo]at h;subst h;subst hm;simp
 |f::fs,n,m,h,hm,hn=>by
  simp only[jo]at h;split at h
  ·rename_i ho;subst ho
   have cB:∀(fs:List Field)(n m:Nat),jo P fs n=some m->n<=m:=by
    intro fs;induction fs with
    |nil=>intro n m h;simp[jo]at h;omega
    |cons f fs ih=>
     intro n m h;simp only[jo]at h;split at h
     ·have:=ih _ _ h;omega
     cases h
   have h1:=cB _ _ _ h;have ih:=sH fs _ m h hm zE;rw[zzaz,zzch,ih];rw[<- zzdw,zzdy]
  cases h
def J4{cs:PQ}{k:Nat}:∀(n:Nat),cs.length=n*k->((List.range n).map fun i=>(cs.drop (i*k)).take k).flatten=cs:=by
 intro n hn
 have key:∀m,m<=n->((List.range m).map fun i=>(cs.drop (i*k)).take k).flatten=cs.take (m*k):=by
  intro m;induction m with
  |zero=>simp
  |succ m ih=>
   intro hm;rw[zzez,zzcg,zzei,ih zE];simp only[zzaz,zzcv,zzch,List.flatten_nil,zzar];rw[zzbq,zzdo,List.take_add]
 rw[key n (zzab _),<- hn,zzbx]
def trod_bool{t:TypeId}{aT:Nat}{cs:PQ}{x:DataW H}{ps:List MemPlace}(hu:P.underlying t=some .bool)(h:DataW.trod enc P w base sp held (aT+1) t cs=some (x,ps)):∃b,cs=[.bool b]/\x=.lit (.bool b):=by
 unfold DataW.trod at h;rw[hu]at h;obtain _|⟨v,_|⟨_,_⟩⟩:=cs
 ·cases h
 ·cases v<;>first|(cases h;done)|(cases h;exact⟨_,rfl,rfl⟩)
 cases v<;>first|(cases h;done)|(simp at h;done)
def trod_int{t:TypeId}{k:IntKind}{aT:Nat}{cs:PQ}{x:DataW H}{ps:List MemPlace}(hu:P.underlying t=some (.int k))(h:DataW.trod enc P w base sp held (aT+1) t cs=some (x,ps)):∃n,cs=[.int k n]/\x=.lit (.int k n)/\(Lit.int k n).wf=true:=by
 unfold DataW.trod at h;rw[hu]at h;obtain _|⟨v,_|⟨_,_⟩⟩:=cs
 ·cases h
 ·cases v<;>first|(cases h;done)|skip
  simp only at h;split at h
  ·rename_i hk;cases h;rw[hk.1];exact⟨_,rfl,rfl,hk.2⟩
  cases h
 cases v<;>first|(cases h;done)|(simp at h;done)
def WB{t:TypeId}{aT:Nat}{cs:PQ}{x:DataW H}{ps:List MemPlace}(hu:P.underlying t=some .string)(h:DataW.trod enc P w base sp held (aT+1) t cs=some (x,ps)):∃s,cs=[.string s]/\x=.lit (.string s.data.toList)/\s.size<=maxLen:=by
 unfold DataW.trod at h;rw[hu]at h;obtain _|⟨v,_|⟨_,_⟩⟩:=cs
 ·cases h
 ·cases v<;>first|(cases h;done)|skip
  simp only at h;split at h
  ·rename_i hk;cases h;exact⟨_,rfl,rfl,hk⟩
  cases h
 cases v<;>first|(cases h;done)|(simp at h;done)
def adW{t e:TypeId}{aT:Nat}{cs:PQ}{x:DataW H}{ps:List MemPlace}(hu:P.underlying t=some (.slice e))(h:DataW.trod enc P w base sp held (aT+1) t cs=some (x,ps)):
  (
   cs=[.slice none 0 0]/\x=.nil)\/∃a len cap bN rest,cs=[.slice (some a) len cap]/\len<=cap/\cap<=maxLen/\x=.slice (bN.map (·.1)) rest/\
   (List.range len).mapM (fun i=>(w.cells? base (a.add (i*P.cellsOf e)) (P.cellsOf e)).bind (DataW.trod enc P w base sp held aT e))=some bN:=by
 unfold DataW.trod at h;rw[hu]at h;obtain _|⟨v,_|⟨_,_⟩⟩:=cs
 ·cases h
 ·cases v<;>first|(cases h;done)|skip
  rename_i a len cap;cases a with
  |none=>cases len<;>cases cap<;>first|(cases h;done)|(cases h;exact .inl ⟨rfl,rfl⟩)
  |some a=>
   simp only at h;split at h
   case isFalse=>cases h
   rename_i hc;cases hm:(List.range len).mapM (fun i=>(w.cells? base (a.add (i*P.cellsOf e)) (P.cellsOf e)).bind (DataW.trod enc P w base sp held aT e))with
   |none=>rw[hm]at h;cases h
   |some bN=>
    rw[hm]at h;simp only[zzcw,zzby]at h;obtain⟨rest,_,h2⟩:=h;cases h2;exact .inr ⟨a,len,cap,bN,_,rfl,hc.2.1,hc.2.2,rfl,hm⟩
 cases v<;>first|(cases h;done)|skip
 rename_i a len cap;cases a with
 |none=>cases len<;>cases cap<;>first|(cases h;done)|(simp at h;done)
 |some a=>first|(cases h;done)|(simp at h;done)
def trod_struct{t:TypeId}{fs:Array Field}{aT:Nat}{cs:PQ}{x:DataW H}{ps:List MemPlace}(hu:P.underlying t=some (.struct fs))(h:DataW.trod enc P w base sp held (aT+1) t cs=some (x,ps)):
  cs.length=P.cellsOf t/\∃xs,x=.agg (xs.map (·.1))/\fs.toList.mapM (fun f=>DataW.trod enc P w base sp held aT f.type ((cs.drop f.offset).take (P.cellsOf f.type)))=some xs:=by
 unfold DataW.trod at h;rw[hu]at h;simp only at h;split at h
 case isFalse=>cases h
 rename_i hc;simp only[zzby]at h;obtain⟨xs,h1,h2⟩:=h;cases h2;exact⟨hc,xs,rfl,h1⟩
def trod_array{t e:TypeId}{n:Nat}{aT:Nat}{cs:PQ}{x:DataW H}{ps:List MemPlace}(hu:P.underlying t=some (.array n e))(h:DataW.trod enc P w base sp held (aT+1) t cs=some (x,ps)):
  cs.length=P.cellsOf t/\∃xs,x=.agg (xs.map (·.1))/\(List.range n).mapM (fun i=>DataW.trod enc P w base sp held aT e ((cs.drop (i*P.cellsOf e)).take (P.cellsOf e)))=some xs:=by
 unfold DataW.trod at h;rw[hu]at h;simp only at h;split at h
 case isFalse=>cases h
 rename_i hc;simp only[zzby]at h;obtain⟨xs,h1,h2⟩:=h;cases h2;exact⟨hc,xs,rfl,h1⟩
def jq:∀(d aT:Nat)(t:TypeId)(cs:PQ)(x:DataW H)(ps:List MemPlace),DataW.trod enc P w base sp held aT t cs=some (x,ps)->Wr P d t=true->
  Typed P d t x/\ak w (G0 AW) (cF P d t x) cs/\(cF P d t x).all Qx=true/\cs.length=P.cellsOf t
 |0,_,_,_,_,_,_,h=>by cases h
 |d+1,0,_,_,_,_,h,_=>by cases h
 |d+1,aT+1,t,cs,x,ps,h,bU=>by
  unfold Wr at bU;cases hu:P.underlying t with
  |none=>simp[hu]at bU
  |some desc=>
   rw[hu]at bU;cases desc with
   |bool=>
    obtain⟨b,rfl,rfl⟩:=trod_bool hu h;exact⟨by simp[Typed,hu],by simp only[cF,hu];exact ak.cons (.bool b) ak.nil,by simp[cF,hu,Qx],(eq_of_beq bU).symm⟩
   |int k=>
    obtain⟨n,rfl,rfl,hw⟩:=trod_int hu h;exact⟨by simp[Typed,hu,hw],by simp only[cF,hu];exact ak.cons (.int k n) ak.nil,by simp[cF,hu,Qx],(eq_of_beq bU).symm⟩
   |string=>
    obtain⟨s,rfl,rfl,hw⟩:=WB hu h;refine⟨by simpa[Typed,hu]using hw,?_,by simp[cF,hu,Qx],(eq_of_beq bU).symm⟩;simp only[cF,hu];have:(⟨s.data.toList.toArray⟩:ByteArray)=s:=by cases s;simp
    rw[this];exact ak.cons (.str s) ak.nil
   |slice e=>
    simp only[zzac]at bU;rcases adW hu h with⟨rfl,rfl⟩|⟨a,len,cap,bN,rest,rfl,hlc,hcm,rfl,hm⟩
    ·exact⟨by simp[Typed,hu],by simp only[cF,hu];exact ak.cons Cn ak.nil,by simp[cF,hu,Qx],(eq_of_beq bU.1.1).symm⟩
    obtain⟨hl,hg⟩:=Qdc _ _ _ hm;have eZ:bN.length=len:=by simpa using hl
    have PU:∀(i:Nat)(y:DataW H×List MemPlace),bN[i]?=some y->∃ec,ec.length=P.cellsOf e/\(∀(j:Nat)(v:Value),ec[j]?=some v->w.cell? ((a.add (i*P.cellsOf e)).add j)=some v)/\Typed P d e y.1/\ak w (G0 AW) (cF P d e y.1) ec/\(cF P d e y.1).all Qx=true:=fun i y hy=>by
     have hi:i<len:=by rw[<- eZ];exact(zza.1 hy).1
     have:=hg i i y (by simp[hi]) hy;cases hc:w.cells? base (a.add (i*P.cellsOf e)) (P.cellsOf e)with
     |none=>rw[hc]at this;cases this
     |some ec=>
      rw[hc]at this;obtain⟨y1,y2⟩:=y;obtain⟨g1,g2,g3,g4⟩:=jq d aT e ec y1 y2 this bU.2;obtain⟨c1,c2⟩:=J3 hc;exact⟨ec,c1,c2,g1,g2,g3⟩
    refine⟨?_,?_,by simp[cF,hu,Qx],(eq_of_beq bU.1.1).symm⟩
    ·simp only[Typed,hu];refine⟨by simp;omega,fun y hy=>?_⟩;simp only[zzbg]at hy;obtain⟨p,hp,rfl⟩:=hy;obtain⟨i,hi⟩:=zzcr.1 hp;obtain⟨ec,_,_,g1,_⟩:=PU i p hi;exact g1
    simp only[cF,hu];refine ak.cons ?_ ak.nil;have dZ:((bN.map (·.1)).map (cF P d e)).length=len:=by simp[eZ]
    have hz:P.cellsOf e≠0:=by simpa using bU.1.2
    have WC:((bN.map (·.1)).map (cF P d e))≠[]->a=⟨a.block,a.off,none⟩/\a.block<w.heap.size:=fun hn=>by
     cases helems:bN with
     |nil=>simp[helems]at hn
     |cons y ys=>
      obtain⟨ec,c1,c2,_,g2,_⟩:=PU 0 y (by simp[helems]);cases hec:ec with
      |nil=>rw[hec]at c1;exact absurd c1.symm hz
      |cons v vs=>
       have:=c2 0 v (by simp[hec]);simp only[zzhh,Addr.add,if_true]at this;unfold World.cell? at this;split at this
       ·rename_i hb;split at this
        ·cases this
        rename_i hs;refine⟨?_,aR hb⟩;cases a;simp at hs;simp[hs]
       cases this
    have ov:∀(i j:Nat)(c:AV),Qv ((bN.map (·.1)).map (cF P d e)) i j=some c->∃v,w.cell? ⟨a.block,a.off+i*P.cellsOf e+j,none⟩=some v/\aA w (G0 AW) c v/\Qx c=true:=fun i j c hc=>by
     have aO:((bN.map (·.1)).map (cF P d e))≠[]:=by rintro h0;rw[h0]at hc;simp[Qv]at hc
     obtain⟨ha,_⟩:=WC aO;unfold Qv at hc;cases hy:bN[i]? with
     |none=>simp[hy]at hc
     |some y=>
      simp[hy]at hc;obtain⟨ec,c1,c2,_,g2,g3⟩:=PU i y hy;have hj:j<ec.length:=by rw[<- g2.1];exact(zza.1 hc).1
      have hv:ec[j]?=some ec[j]:=zzaf hj;refine⟨ec[j],?_,g2.2 j c _ hc hv,zzas.1 g3 c (zzae hc)⟩;have:=c2 j _ hv;rw[ha,bq,bq]at this;exact this
    have:=aA.sl (w:=w) (γ:=G0 AW) (rt:=.nn) (rows:=(bN.map (·.1)).map (cF P d e)) (a:=some a) (cap:=cap) a.block a.off (P.cellsOf e) (fun i j=>(w.cell? ⟨a.block,a.off+i*P.cellsOf e+j,none⟩).getD undef)
     (by rw[dZ];exact hlc) (fun h=>by cases h) (fun hn=>⟨by rw[<- (WC hn).1],(WC hn).2⟩) (fun row ah=>?_) (fun i j c hc=>?_) (fun i j c hc=>?_) (by simp[qE])
    ·rwa [dZ]at this
    ·simp only[zzcu,zzbg]at ah;obtain⟨p,hp,rfl⟩:=ah;obtain⟨i,hi⟩:=zzcr.1 hp;obtain⟨ec',c1',_,_,g2',_⟩:=PU i p hi;have:=g2'.1;simp only[Function.comp];omega
    ·obtain⟨v,h1,h2,h3⟩:=ov i j c hc;rw[h1];exact⟨rfl,trivial,ur h2 h3⟩
    obtain⟨v,h1,h2,h3⟩:=ov i j c hc;rw[h1];exact h2
   |struct fs=>
    simp only[zzac,zzas]at bU;obtain⟨aH,xs,rfl,hm⟩:=trod_struct hu h;obtain⟨hl,hg⟩:=Qdc _ _ _ hm
    have PU:∀(i:Nat)(f:Field)(y:DataW H×List MemPlace),fs.toList[i]?=some f->xs[i]?=some y->Typed P d f.type y.1/\ak w (G0 AW) (cF P d f.type y.1) ((cs.drop f.offset).take (P.cellsOf f.type))/\(cF P d f.type y.1).all Qx=true:=fun i f y hf hy=>by
     obtain⟨y1,y2⟩:=y;obtain⟨g1,g2,g3,_⟩:=jq d aT f.type _ y1 y2 (hg i f (y1,y2) hf hy) (bU.2 f (zzae hf));exact⟨g1,g2,g3⟩
    have arS:∀p∈fs.toList.zip (xs.map (·.1)),∃(i:Nat)(f:Field)(y:DataW H×List MemPlace),fs.toList[i]?=some f/\xs[i]?=some y/\p=(f,y.1):=fun p hp=>by
     obtain⟨i,hi⟩:=zzcr.1 hp;rw[zzgk]at hi;obtain⟨h1,h2⟩:=hi;simp only[zzbm,zzby]at h2;obtain⟨y,h2,h3⟩:=h2;exact⟨i,p.1,y,h1,h2,by rw[h3]⟩
    refine⟨?_,?_,?_,aH⟩
    ·simp only[Typed,hu];refine⟨Nm hl,fun p hp=>?_⟩;obtain⟨i,f,y,h1,h2,rfl⟩:=arS p hp;exact(PU i f y h1 h2).1
    ·simp only[cF,hu];have adX:=sH (P:=P) (cs:=cs) fs.toList 0 (P.cellsOf t) (eq_of_beq bU.1) aH.symm (zzbp _);rw[zzdb]at adX
     have:ak w (G0 AW) ((fs.toList.zip (xs.map (·.1))).map fun p=>cF P d p.1.type p.2).flatten (fs.toList.map fun f=>(cs.drop f.offset).take (P.cellsOf f.type)).flatten:=by
      refine CS _ _ (by simp at hl |-;omega) fun i as vs h1 h2=>?_;simp only[zzbm,zzby]at h1 h2;obtain⟨p,hp,rfl⟩:=h1;obtain⟨f,hf,rfl⟩:=h2;rw[zzgk]at hp;obtain⟨q1,q2⟩:=hp;rw[hf]at q1;simp only[zzbm,zzby]at q2;obtain⟨y,hy,q2⟩:=q2;rw[<- Option.some.inj q1,<- q2];exact(PU i f y hf hy).2.1
     rw[adX]at this;rwa [List.flatMap_def]
    simp only[cF,hu,zzas,List.mem_flatMap];rintro v ⟨p,hp,hv⟩;obtain⟨i,f,y,h1,h2,rfl⟩:=arS p hp;exact zzas.1 (PU i f y h1 h2).2.2 v hv
   |array n e=>
    simp only[zzac]at bU;obtain⟨aH,xs,rfl,hm⟩:=trod_array hu h;obtain⟨hl,hg⟩:=Qdc _ _ _ hm;have eZ:xs.length=n:=by simpa using hl
    have PU:∀(i:Nat)(y:DataW H×List MemPlace),xs[i]?=some y->Typed P d e y.1/\ak w (G0 AW) (cF P d e y.1) ((cs.drop (i*P.cellsOf e)).take (P.cellsOf e))/\(cF P d e y.1).all Qx=true:=fun i y hy=>by
     have hi:i<n:=by rw[<- eZ];exact(zza.1 hy).1
     obtain⟨y1,y2⟩:=y;obtain⟨g1,g2,g3,_⟩:=jq d aT e _ y1 y2 (hg i i (y1,y2) (by simp[hi]) hy) bU.2;exact⟨g1,g2,g3⟩
    refine⟨?_,?_,?_,aH⟩
    ·simp only[Typed,hu];refine⟨Nm eZ,fun y hy=>?_⟩;simp only[zzbg]at hy;obtain⟨p,hp,rfl⟩:=hy;obtain⟨i,hi⟩:=zzcr.1 hp;exact(PU i p hi).1
    ·simp only[cF,hu];have adX:=J4 (cs:=cs) (k:=P.cellsOf e) n (by rw[aH];exact eq_of_beq bU.1)
     have:ak w (G0 AW) ((xs.map (·.1)).map (cF P d e)).flatten ((List.range n).map fun i=>(cs.drop (i*P.cellsOf e)).take (P.cellsOf e)).flatten:=by
      refine CS _ _ (by simp[eZ]) fun i as vs h1 h2=>?_;simp only[zzcu,zzbm,zzby]at h1 h2;obtain⟨y,hy,rfl⟩:=h1;obtain⟨j,hj,rfl⟩:=h2;have hi:i<n:=by rw[<- eZ];exact(zza.1 hy).1
      simp[hi]at hj;subst hj;exact(PU i y hy).2.1
     rw[adX]at this;rwa [List.flatMap_def]
    simp only[cF,hu,zzas,List.mem_flatMap,zzbg];rintro v ⟨y,⟨p,hp,rfl⟩,hv⟩;obtain⟨i,hi⟩:=zzcr.1 hp;exact zzas.1 (PU i p hi).2.2 v hv
   |_=>simp at bU
def mg(P:Program)(d:Nat)(t:TypeId)(x:DataW H):AV:=if Jn P t then .agg (cF P d t x)else(cF P d t x).headD .junk
def adY{r:Reach}{b0:Nat}{t:TypeId}{v:Value}(bM:Value.okWide P w r b0 t v)(ha:Jn P t=false)(bU:∃d,Wr P d t=true):v.cells.toList=[v]:=by
 unfold Value.okWide at bM;unfold Jn at ha;obtain⟨d,bU⟩:=bU;cases d with
 |zero=>cases bU
 |succ d=>
  unfold Wr at bU;cases hu:P.underlying t with
  |none=>simp[hu]at bU
  |some desc=>
   rw[hu]at bM ha bU;cases desc<;>simp at ha bU bM
   all_goals
    unfold Cell.okWide at bM;rw[hu]at bM;cases v<;>first|rfl|(simp[Cell.ok,hu]at bM)
def adZ{d:Nat}{r:Reach}{b0:Nat}{t:TypeId}{v:Value}{x:DataW H}{ps:List MemPlace}(bU:Wr P d t=true)(bM:Value.okWide P w r b0 t v)(h:DataW.Trod enc P w base sp held t v x ps):
  Typed P d t x/\aA w (G0 AW) (mg P d t x) v:=by
 obtain⟨aT,h⟩:=h;obtain⟨h1,h2,h3,h4⟩:=jq d aT t _ x ps h bU;refine⟨h1,?_⟩;unfold mg;cases ha:Jn P t with
 |true=>
  simp only[if_true];unfold Value.okWide at bM;unfold Jn at ha;split at ha
  ·rename_i hu;rw[hu]at bM;obtain⟨cs,rfl,_⟩:=bM;exact ak.O8 h2
  ·rename_i hu;rw[hu]at bM;obtain⟨cs,rfl,_⟩:=bM;exact ak.O8 h2
  cases ha
 |false=>
  simp only[zzbh,if_false];rw[adY bM ha ⟨d,bU⟩]at h2;cases hl:cF P d t x with
  |nil=>rw[hl]at h2;have:=h2.1;simp at this
  |cons a l=>rw[hl]at h2;exact h2.2 0 a v rfl rfl
def Qby(P:Program)(d:Nat):List TypeId->List (DataW H)->Prop
 |[],[]=>True
 |t::ts,x::xs=>Typed P d t x/\Qby P d ts xs
 |_,_=>False
def ny(P:Program)(d:Nat):List TypeId->List (DataW H)->P2
 |t::ts,x::xs=>mg P d t x::ny P d ts xs
 |_,_=>[]
def Fv{d:Nat}{r:Reach}{b0:Nat}:∀{ts:List TypeId}{vs:PQ}{xs:List (DataW H)}{ps:List MemPlace},(∀t∈ts,Wr P d t=true)->(∀(j:Nat)(t:TypeId)(v:Value),ts[j]?=some t->vs[j]?=some v->Value.okWide P w r b0 t v)->
  DataW.TrodAll enc P w base sp held ts vs xs ps->Qby P d ts xs/\ak w (G0 AW) (ny P d ts xs) vs
 |[],[],[],_,_,_,_=>⟨trivial,ak.nil⟩
 |[],_::_,_,_,_,_,h=>by cases h
 |[],[],_::_,_,_,_,h=>by cases h
 |_::_,[],_,_,_,_,h=>by cases h
 |_::_,_::_,[],_,_,_,h=>by cases h
 |t::ts,v::vs,x::xs,ps,bU,bM,h=>by
  obtain⟨p,q,h1,h2,_⟩:=h;obtain⟨g1,g2⟩:=adZ (bU t zd) (bM 0 t v rfl rfl) h1;obtain⟨k1,k2⟩:=Fv (fun t ht=>bU t (by simp[ht])) (fun j t v h1 h2=>bM (j+1) t v (Nm h1) (Nm h2)) h2;exact⟨⟨g1,k1⟩,ak.cons g2 k2⟩
def mh{W W':World}(hl:laidOutB P=true)(hb:Below W.heap.size W W'){sp':Nat->Bool}:∀{ts:List TypeId}{vs:PQ}{xs:List (DataW H)}{ps:List MemPlace},(∀t∈ts,P.readableRec t=true/\t<P.types.size)->
  DataW.TrodAll enc P W 0 (fun _=>true) true ts vs xs ps->(∀p∈ps,p.block<W.heap.size/\sp' p.block=true)->DataW.TrodAll enc P W' 0 sp' true ts vs xs ps
 |[],[],[],_,_,h,_=>h
 |[],_::_,_,_,_,h,_=>by cases h
 |[],[],_::_,_,_,h,_=>by cases h
 |_::_,[],_,_,_,h,_=>by cases h
 |_::_,_::_,[],_,_,h,_=>by cases h
 |t::ts,v::vs,x::xs,ps,hr,h,hp=>by
  obtain⟨p,q,h1,h2,rfl⟩:=h;refine⟨p,q,WideElems.Trod_stays hl (hr t zd).1 (hr t zd).2 h1 (fun y hy=>hb.same (hp y (by simp[hy])).1) (fun y hy=>(hp y (by simp[hy])).2),mh hl hb (fun t ht=>hr t (by simp[ht])) h2 fun y hy=>hp y (by simp[hy]),rfl⟩
def Qaz{gl:Nat->AV}{fid:FuncId}{fn:Func}{s:ChangeSpec}{bt:TypeId}{d:Nat}(aiz:s.vars=[])(alA:fn.resultTypes=#[bt])(hbt:P.underlying bt=some .bool)(hl:laidOutB P=true)
  (hts:(fn.params.toList.all fun t=>Wr P d t&&P.readableRec t&&decide (t<P.types.size))=true)(arT:∀ds:List (DataW H),ds.length=fn.params.size->(s.fn H ds).results=[.lit (.bool true)]/\(s.fn H ds).args=ds/\(s.fn H ds).vars=[])
  {W:World}{args:P1}{ds gs:List (DataW H)}{before:List MemPlace}{r:Reach}{b0:Nat}(gr:∀g,aA W (G0 AW) (gl g) (.pointer (some ⟨g,0,none⟩)))
  (bM:∀(j:Nat)(t:TypeId)(v:Value),fn.params[j]?=some t->args[j]?=some v->Value.okWide P W r b0 t v)
  (hW:DataW.Whole enc P fn.params.toList s.vars false W args.toList ds gs before)
  (hp:Qby P d fn.params.toList ds->Pure P gl fid (ny P d fn.params.toList ds) (.bool true)):
  Calls P fid args W fun e W'=>∃v,e=.returned v/\s.post enc P fn false true false false W args v W':=by
 have hW':=hW;obtain⟨p,q,hA,hV,rfl,hfz,nc⟩:=hW;rw[aiz]at hV;obtain⟨rfl,rfl⟩:=ChangeShapes.trodVars_none hV;simp only[zzas,zzac,decide_eq_true_eq]at hts;obtain⟨h1,h2⟩:=Fv (fun t ht=>(hts t ht).1.1) (fun j t v q1 q2=>bM j t v (Nm q1) (Nm q2)) hA
 have aH:ds.length=fn.params.size:=by
  have:∀{ts:List TypeId}{vs:PQ}{xs:List (DataW H)}{ps:List MemPlace},DataW.TrodAll enc P W 0 (fun _=>true) true ts vs xs ps->xs.length=ts.length:=by
   intro ts;induction ts with
   |nil=>intro vs xs ps h;cases vs<;>cases xs<;>first|rfl|cases h
   |cons t ts ih=>
    intro vs xs ps h;cases vs<;>cases xs<;>first|(cases h;done)|skip
    obtain⟨_,_,_,h,_⟩:=h;simp[ih h]
  simpa using this hA
 obtain⟨k1,k2,k3⟩:=arT ds aH;have ai:∀x∈p,x.block<W.heap.size:=fun x hx=>hW'.lt x (by simp[hx]);refine((hp h1).2 AW W args.toList gr h2).mono ?_;rintro e W' ⟨v,rfl,hb,hr⟩;obtain rfl:=hr.bu;refine⟨_,rfl,ds,[],p++[],[],p,[],hW',?_,?_,?_,World.keptBut_mono (fun x hx=>⟨hx,?_⟩) (hb.frame (·∈p++[])),fun h=>by cases h⟩
 ·rw[alA,zzar,k1];exact⟨[],[],shut_bool hbt true,rfl,rfl⟩
 ·rw[zzar,k2];exact mh hl hb (fun t ht=>⟨(hts t ht).1.2,(hts t ht).2⟩) hA fun x hx=>⟨ai x hx,by simpa using ai x hx⟩
 ·rw[aiz,zzar,k3];rfl
 simp at hx;exact .inr (.inl hx)
end
open Go
section
variable (P:Program) (gl:Nat->AV) (orc:UV) (Y:YT) (l2:List SO) (K:AS->Prop) (m:AM) (ms q:QP) (mc:AM) (r:List SO) (fl:List Fg) (T:P2) (o:SO) (x:AV×AM)
@[simp] def alB(d:Option Nat)(op:aF)(xs:List bE):Zz T ⟨d,op,none,xs⟩=True:=nd rfl
@[simp] def alC(d:Option Nat)(op:aF)(t:Nat)(b:Bool)(xs:List bE):Zz T ⟨d,op,some (some t,b),xs⟩=(T.getD t .junk=.bool b):=nd rfl
@[simp] def avv:nk P gl orc Y l2 K m ms [] fl q mc T=(q=[]/\Zn P gl orc Y l2 ⟨T,mc⟩ K):=nd (by simp only[nk])
@[simp] def arU:nk P gl orc Y l2 K m ms (o::r) (.eff::fl) (x::q) mc T=(Zz T o/\effC P gl orc Y (ev gl T) mc o.dst x.1 x.2 o.op/\nk P gl orc Y l2 K m ms r fl q x.2 (put T o.dst x.1)):=nd (by simp only[nk])
@[simp] def avw:nk P gl orc Y l2 K m ms (o::r) (.pre::fl) q mc T=(Zz T o/\(rop P gl orc (ev gl T) m o.dst o.op).1/\nk P gl orc Y l2 K m ms r fl q mc (put T o.dst (rop P gl orc (ev gl T) m o.dst o.op).2)):=nd (by simp only[nk])
@[simp] def an3:nk P gl orc Y l2 K m ms (o::r) (.oth::fl) q mc T=(Zz T o/\(rop P gl orc (ev gl T) m o.dst o.op).1/\(∀x∈ms,rop P gl orc (ev gl T) x.2 o.dst o.op=rop P gl orc (ev gl T) m o.dst o.op)/\nk P gl orc Y l2 K m ms r fl q mc (put T o.dst (rop P gl orc (ev gl T) m o.dst o.op).2)):=nd (by simp only[nk])
def Qbk{P:Program}{gl:Nat->AV}{orc:UV}{Y:YT}{fl:List Fg}{l l2:List SO}{s:AS}{Q:R0}(ms:QP)(h:nk P gl orc Y l2 (Q .normal) s.m ms l fl ms s.m s.T):vc P gl orc Y (.drawE fl l l2) s Q:=.inr (.inl ⟨ms,h⟩)
@[simp] def avx:ig P gl orc Y l2 K m ms [] fl q mc T=(q=[]/\Zn P gl orc Y l2 ⟨T,mc⟩ K):=nd (by simp only[ig])
@[simp] def arV:ig P gl orc Y l2 K m ms (o::r) (.eff::fl) (x::q) mc T=(Zz T o/\effC P gl orc Y (ev gl T) mc o.dst x.1 x.2 o.op/\ig P gl orc Y l2 K m ms r fl q x.2 (put T o.dst x.1)):=nd (by simp only[ig])
@[simp] def avy:ig P gl orc Y l2 K m ms (o::r) (.pre::fl) q mc T=(Zz T o/\(rop P gl orc (ev gl T) m o.dst o.op).1/\ig P gl orc Y l2 K m ms r fl q mc (put T o.dst (rop P gl orc (ev gl T) m o.dst o.op).2)):=nd (by simp only[ig])
@[simp] def avz:ig P gl orc Y l2 K m ms (o::r) (.oth::fl) q mc T=(Zz T o/\(((rop P gl orc (ev gl T) m o.dst o.op).1/\∀x∈ms,rop P gl orc (ev gl T) x.2 o.dst o.op=rop P gl orc (ev gl T) m o.dst o.op)\/(rdC P gl orc Y (ev gl T) m o.dst m o.op/\∀x∈ms,rdC P gl orc Y (ev gl T) m o.dst x.2 o.op))/\ig P gl orc Y l2 K m ms r fl q mc (put T o.dst (rop P gl orc (ev gl T) m o.dst o.op).2)):=nd (by simp only[ig,aqN])
variable (R:So)
@[simp] def avA:iJ P gl orc Y R l2 K m ms [] fl q mc T=(q=[]/\Zn P gl orc Y l2 ⟨T,mc⟩ K):=nd (by simp only[iJ])
@[simp] def arW:iJ P gl orc Y R l2 K m ms (o::r) (.eff::fl) [x] mc T=(Zz T o/\effR P gl Y (ev gl T) mc R o.op/\iJ P gl orc Y R l2 K m ms r fl [] x.2 (put T o.dst x.1)):=nd (by simp only[iJ];simp)
@[simp] def arX(y:AV×AM):iJ P gl orc Y R l2 K m ms (o::r) (.eff::fl) (x::y::q) mc T=(Zz T o/\effC P gl orc Y (ev gl T) mc o.dst x.1 x.2 o.op/\iJ P gl orc Y R l2 K m ms r fl (y::q) x.2 (put T o.dst x.1)):=nd (by simp only[iJ];simp)
@[simp] def avB:iJ P gl orc Y R l2 K m ms (o::r) (.pre::fl) q mc T=(Zz T o/\(rop P gl orc (ev gl T) m o.dst o.op).1/\iJ P gl orc Y R l2 K m ms r fl q mc (put T o.dst (rop P gl orc (ev gl T) m o.dst o.op).2)):=nd (by simp only[iJ])
@[simp] def an4:iJ P gl orc Y R l2 K m ms (o::r) (.oth::fl) q mc T=(Zz T o/\(rop P gl orc (ev gl T) m o.dst o.op).1/\(∀x∈ms,rop P gl orc (ev gl T) x.2 o.dst o.op=rop P gl orc (ev gl T) m o.dst o.op)/\iJ P gl orc Y R l2 K m ms r fl q mc (put T o.dst (rop P gl orc (ev gl T) m o.dst o.op).2)):=nd (by simp only[iJ])
@[simp] def an5:Zk P gl orc m [] fl q T=[]:=nd (by simp only[Zk])
@[simp] def an6:Zk P gl orc m (o::r) (.eff::fl) (x::q) T=Zk P gl orc m r fl q (put T o.dst x.1):=nd (by simp only[Zk])
@[simp] def alD:Zk P gl orc m (o::r) (.pre::fl) [] T=(rop P gl orc (ev gl T) m o.dst o.op).2::Zk P gl orc m r fl [] (put T o.dst (rop P gl orc (ev gl T) m o.dst o.op).2):=nd (by simp only[Zk])
@[simp] def an7:Zk P gl orc m (o::r) (.pre::fl) (x::q) T=Zk P gl orc m r fl (x::q) (put T o.dst (rop P gl orc (ev gl T) m o.dst o.op).2):=nd (by simp only[Zk])
@[simp] def alE:Zk P gl orc m (o::r) (.oth::fl) [] T=(rop P gl orc (ev gl T) m o.dst o.op).2::Zk P gl orc m r fl [] (put T o.dst (rop P gl orc (ev gl T) m o.dst o.op).2):=nd (by simp only[Zk])
@[simp] def an8:Zk P gl orc m (o::r) (.oth::fl) (x::q) T=Zk P gl orc m r fl (x::q) (put T o.dst (rop P gl orc (ev gl T) m o.dst o.op).2):=nd (by simp only[Zk])
def WD{P:Program}{gl:Nat->AV}{orc:UV}{Y:YT}{fl:List Fg}{l l2:List SO}{s:AS}{Q:R0}(hb:adD fl l=true)(ms:QP)(R:So)(hR:∃x:AV×AM,R x.1 x.2)
  (h:∀v m',R v m'->iJ P gl orc Y R l2 (Q .normal) s.m (ms++[(v,m')]) l fl (ms++[(v,m')]) s.m s.T):vc P gl orc Y (.drawE fl l l2) s Q:=.inr (.inr (.inl ⟨hb,ms,R,hR,fun x hx=>h x.1 x.2 hx⟩))
def lI(P:Program)(gl:Nat->AV)(orc:UV)(m:AM):List SO->List Fg->AM->P2->QP
 |o::r,.eff::fl,mc,T=>(effV (sop P gl orc (ev gl T) mc o.dst o.op).2.1 o.op,(sop P gl orc (ev gl T) mc o.dst o.op).2.2)::lI P gl orc m r fl (sop P gl orc (ev gl T) mc o.dst o.op).2.2 (put T o.dst (effV (sop P gl orc (ev gl T) mc o.dst o.op).2.1 o.op))
 |o::r,.pre::fl,mc,T=>lI P gl orc m r fl mc (put T o.dst (rop P gl orc (ev gl T) m o.dst o.op).2)
 |o::r,.oth::fl,mc,T=>lI P gl orc m r fl mc (put T o.dst (rop P gl orc (ev gl T) m o.dst o.op).2)
 |_,_,_,_=>[]
@[simp] def arY:lI P gl orc m [] fl mc T=[]:=nd (by simp only[lI])
@[simp] def an9:lI P gl orc m (o::r) (.eff::fl) mc T=(effV (sop P gl orc (ev gl T) mc o.dst o.op).2.1 o.op,(sop P gl orc (ev gl T) mc o.dst o.op).2.2)::lI P gl orc m r fl (sop P gl orc (ev gl T) mc o.dst o.op).2.2 (put T o.dst (effV (sop P gl orc (ev gl T) mc o.dst o.op).2.1 o.op)):=nd (by simp only[lI])
@[simp] def arZ:lI P gl orc m (o::r) (.pre::fl) mc T=lI P gl orc m r fl mc (put T o.dst (rop P gl orc (ev gl T) m o.dst o.op).2):=nd (by simp only[lI])
@[simp] def alF:lI P gl orc m (o::r) (.oth::fl) mc T=lI P gl orc m r fl mc (put T o.dst (rop P gl orc (ev gl T) m o.dst o.op).2):=nd (by simp only[lI])
def Ul{P:Program}{gl:Nat->AV}{orc:UV}{Y:YT}{fl:List Fg}{l l2:List SO}{s:AS}{Q:R0}(h:nk P gl orc Y l2 (Q .normal) s.m (lI P gl orc s.m l fl s.m s.T) l fl (lI P gl orc s.m l fl s.m s.T) s.m s.T):vc P gl orc Y (.drawE fl l l2) s Q:=.inr (.inl ⟨_,h⟩)
def Fw{P:Program}{gl:Nat->AV}{orc:UV}{z:Nat}{fl:List Fg}{l l2:List SO}{s:AS}{Q:R0}(hT:s.T.getD z .junk=.junk)(ms:QP)(h:ig P gl orc Y0 l2 (Q .normal) s.m ms l fl ms s.m s.T):vc P gl orc Y0 (.drawZ z fl l l2) s Q:=⟨fun _ _ _ _ h=>h,hT,ms,h⟩
end
attribute [simp] effC memEff effV effR rdC
end Go.Abs
