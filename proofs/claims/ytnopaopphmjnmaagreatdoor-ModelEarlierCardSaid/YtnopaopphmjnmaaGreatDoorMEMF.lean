import Derived.Test.YtnopaopphmjnmaaGreatDoorMEME
import Derived.ProofKit
import Derived.OpenShut
import Derived.OpenVars
set_option linter.all false
namespace Go.Abs
open Go Go.RowKit
def nd{α:Type}{a b:α}(h:a=b):a=b:=h
section
variable (P:Program) (gl:Nat->AV) (orc:Nat->FuncId->List AV->AV) (Y:YT) (s:AS) (Q:Exit->AS->Prop)
@[simp] def ava:vc P gl orc Y .skip s Q=Q .normal s:=nd rfl
@[simp] def av9(l:List SO):vc P gl orc Y (.ops l) s Q=Zx P gl orc Y l s (Q .normal):=nd rfl
@[simp] def awa(a b:SC):vc P gl orc Y (.seq a b) s Q=vc P gl orc Y a s (W4 (vc P gl orc Y b) Q):=nd rfl
def aeN(x:bL)(a b:SC):vc P gl orc Y (.cond x a b) s Q=match ev gl s.T x with|.bool t=>(t=true->vc P gl orc Y a s Q)/\(t=false->vc P gl orc Y b s Q)|_=>False:=nd rfl
@[simp] def ara(x:bL)(a b:SC):vc P gl orc Y (.cond x a b) s Q=match ev gl s.T x with|.bool t=>(if t=true then vc P gl orc Y a s Q else vc P gl orc Y b s Q)|_=>False:=by
 rw[aeN];cases ev gl s.T x<;>try rfl
 rename_i t;cases t<;>simp
@[simp] def arb(id:Nat)(c:SC):vc P gl orc Y (.block id c) s Q=vc P gl orc Y c s (qY id Q):=nd rfl
@[simp] def avb(id:Nat):vc P gl orc Y (.exit id) s Q=Q (.exit id) s:=nd rfl
@[simp] def arc(c:SC):vc P gl orc Y (.scope c) s Q=vc P gl orc Y c s (wM Q):=nd rfl
@[simp] def awb:vc P gl orc Y .ret s Q=Q .ret s:=nd rfl
@[simp] def awc:vc P gl orc Y .bad s Q=False:=nd rfl
def aeO{c:SC}(I:AS->Prop)(μ:AS->Nat)(h0:I s)(hr:∀s',I s'->vc P gl orc Y c s' (nI I μ s' Q)):vc P gl orc Y (.loop c) s Q:=⟨I,μ,h0,hr⟩
variable (k:AS->(Exit->AS->Prop)->Prop) (id id':Nat) (I:AS->Prop) (μ:AS->Nat) (s0:AS)
@[simp] def ajs:W4 k Q .normal s=k s Q:=nd rfl
@[simp] def aof:W4 k Q (.exit id) s=Q (.exit id) s:=nd rfl
@[simp] def ard:W4 k Q .ret s=Q .ret s:=nd rfl
@[simp] def abL:qY id Q .normal s=Q .normal s:=nd rfl
@[simp] def ajt:qY id Q (.exit id') s=if id'=id then Q .normal s else Q (.exit id') s:=nd rfl
@[simp] def alX:qY id Q .ret s=Q .ret s:=nd rfl
@[simp] def abM:wM Q .normal s=Q .normal s:=nd rfl
@[simp] def aju:wM Q (.exit id) s=Q (.exit id) s:=nd rfl
@[simp] def alY:wM Q .ret s=Q .ret s:=nd rfl
@[simp] def abN:nI I μ s0 Q .normal s=(I s/\μ s<μ s0):=nd rfl
@[simp] def ajv:nI I μ s0 Q (.exit id) s=Q (.exit id) s:=nd rfl
@[simp] def alZ:nI I μ s0 Q .ret s=Q .ret s:=nd rfl
end
@[simp] def avc(P:Program)(gl:Nat->AV)(orc:Nat->FuncId->List AV->AV)(Y:YT)(s:AS)(Q:Exit->AS->Prop)(l l2:List SO):vc P gl orc Y (.draw l l2) s Q=vcD P gl orc Y l2 (Q .normal) l s.T s.m []:=nd rfl
def al0(T:List AV)(f:Nat->AV):List Nat->List AV
 |[]=>T
 |i::W=>al0 (T.set i (f i)) f W
def CR(T:List AV)(W:List Nat)(R:(Nat->AV)->AM->Prop)(μ:(Nat->AV)->AM->Nat)(f:Nat->AV)(m:AM)(Q:Exit->AS->Prop):Exit->AS->Prop
 |.normal,s'=>s'.T=al0 T (fun i=>s'.T.getD i .junk) W/\R (fun i=>s'.T.getD i .junk) s'.m/\μ (fun i=>s'.T.getD i .junk) s'.m<μ f m
 |ex,s'=>Q ex s'
section
variable (T:List AV) (W:List Nat) (R:(Nat->AV)->AM->Prop) (μ:(Nat->AV)->AM->Nat) (f:Nat->AV) (m:AM) (Q:Exit->AS->Prop) (s:AS) (id:Nat)
@[simp] def XH:CR T W R μ f m Q .normal s=(s.T=al0 T (fun i=>s.T.getD i .junk) W/\R (fun i=>s.T.getD i .junk) s.m/\μ (fun i=>s.T.getD i .junk) s.m<μ f m):=nd rfl
@[simp] def aeP:CR T W R μ f m Q (.exit id) s=Q (.exit id) s:=nd rfl
@[simp] def ajw:CR T W R μ f m Q .ret s=Q .ret s:=nd rfl
end
def nth(l:List AV)(n:Nat):AV:=l.getD n .junk
def Qh(l:List (List AV))(n:Nat):List AV:=l.getD n []
@[simp high] theorem Qbs(l:List AV)(n:Nat):l.getD n .junk=nth l n:=rfl
@[simp high] theorem Vp(l:List (List AV))(n:Nat):l.getD n []=Qh l n:=rfl
@[simp] theorem avd(n:Nat):nth [] n=.junk:=rfl
@[simp] theorem are(a:AV)(l:List AV):nth (a::l) 0=a:=rfl
@[simp] theorem arf(a:AV)(l:List AV)(n:Nat):nth (a::l) (n+1)=nth l n:=rfl
@[simp] theorem arh(n:Nat):Qh [] n=[]:=rfl
@[simp] theorem aog(a:List AV)(l:List (List AV)):Qh (a::l) 0=a:=rfl
@[simp] theorem aoh(a:List AV)(l:List (List AV))(n:Nat):Qh (a::l) (n+1)=Qh l n:=rfl
@[simp] def FC(l l':List (List AV)):Qh (l++l') l.length=Qh l' 0:=by simp[Qh,zzar,-Vp,zzan]
@[simp] def Vk(l l':List (List AV))(k:Nat):Qh (l++l') (l.length+k)=Qh l' k:=by simp[Qh,zzar,-Vp,zzan]
@[simp] def ave(l l':List (List AV))(x:List AV):(l++l').set l.length x=l++l'.set 0 x:=by simp[zzct]
@[simp] def ajx(l l':List (List AV))(k:Nat)(x:List AV):(l++l').set (l.length+k) x=l++l'.set k x:=by simp[zzct]
def Qs{l:List (List AV)}{n:Nat}{x:List AV}(h:l[n]?=some x):Qh l n=x:=by simp[Qh,zzar,-Vp,h]
def al1{l:List AV}{n:Nat}{x:AV}(h:l[n]?=some x):nth l n=x:=by simp[nth,zzar,-Qbs,h]
def numOf:AV->Int
 |.int _ n=>n
 |_=>0
@[simp] theorem aoi(k:IntKind)(n:Int):numOf (.int k n)=n:=rfl
@[simp] theorem ajy:VR .full=true:=rfl
@[simp] theorem al2:VR .nil=true:=rfl
@[simp] theorem aoj:VR .ro=false:=rfl
@[simp] theorem aok:VR .nn=false:=rfl
@[simp] theorem al3(i s:Nat):VR (.own i s)=false:=rfl
@[simp] theorem al4(sz:Nat)(l:List AV):aV sz 0 l=[]:=rfl
@[simp] theorem wO(sz n:Nat)(l:List AV):aV sz (n+1) l=l.take sz::aV sz n (l.drop sz):=rfl
@[simp] theorem al5:Wm []=some []:=rfl
@[simp] def ajz(n:Int)(r:List (List AV)):Wm ([.int .u8 n]::r)=(match Wm r with|some l=>some (UInt8.ofNat n.toNat::l)|_=>none):=by
 simp only[Wm,byteOf];cases Wm r<;>rfl
@[simp] theorem ari(b:Bool):asB (.bool b)=some (true,b):=rfl
@[simp] theorem arj(b:Bool):isB (.bool b)=true:=rfl
@[simp] theorem ark(b:Bool):bOf (.bool b)=b:=rfl
@[simp] theorem avf(a:AV):asB (.gd false a)=some (false,bOf a):=rfl
@[simp] theorem avg(a:AV):asB (.gd true a)=some (isB a,bOf a):=rfl
@[simp] def awd(g b:Bool):asB (.gd g (.bool b))=some (g,b):=by cases g<;>rfl
@[simp] theorem arl(want g:Bool):IF want (.bool g)=some (g==want):=rfl
@[simp] theorem awe(want d b:Bool):IF want (.gd d (.bool b))=some (d&&(b==want)):=rfl
@[simp] def avh(want:Bool)(a:AV):IF want (.gd false a)=some false:=by cases a<;>rfl
@[simp] theorem avi(gl:Nat->AV)(T:List AV)(t:Nat):evS gl T (.tmp t)=strip (nth T t):=rfl
@[simp] theorem aol(gl:Nat->AV)(T:List AV)(a:AV):evS gl T (.const a)=strip a:=rfl
@[simp] theorem arn(gl:Nat->AV)(T:List AV)(f:FuncId):evS gl T (.func f)=.fn f [] []:=rfl
@[simp] theorem aro(gl:Nat->AV)(T:List AV)(g:Nat):evS gl T (.glob g)=strip (gl g):=rfl
section
variable (P:Program) (gl:Nat->AV) (orc:Nat->FuncId->List AV->AV) (Y:YT) (K:AS->Prop) (r:List SO) (T:List AV) (m:AM) (d:Option Nat) (op:aD) (xs:List bL) (s:AS)
@[simp] def aom:Zx P gl orc Y [] s K=K s:=nd rfl
@[simp] def al6:Zx P gl orc Y (⟨d,op,none,xs⟩::r) s K=(if effy orc (ev gl s.T) s.m d op=true then Qcb P gl Y (ev gl s.T) s.m (fun av m'=>Zx P gl orc Y r ⟨put s.T d av,m'⟩ K) op
   else(sop P gl orc (ev gl s.T) s.m d op).1/\Zx P gl orc Y r ⟨put s.T d (sop P gl orc (ev gl s.T) s.m d op).2.1,(sop P gl orc (ev gl s.T) s.m d op).2.2⟩ K):=nd rfl
@[simp] def al7(t:Nat)(want:Bool):Zx P gl orc Y (⟨d,op,some (some t,want),xs⟩::r) s K=(match IF want (s.T.getD t .junk)with
   |some gw=>gok gl s.T gw (gxs op xs)/\
     if effy orc (evG gl s.T op) s.m d op=true then
      (gw=true->Qcb P gl Y (evG gl s.T op) s.m (fun av m'=>Zx P gl orc Y r ⟨put s.T d (.gd true av),m'⟩ K) op)/\(gw=false->Zx P gl orc Y r ⟨put s.T d (.gd false (.bool false)),s.m⟩ K)
     else(gw=true->(rop P gl orc (evG gl s.T op) s.m d op).1)/\
      Zx P gl orc Y r ⟨put s.T d (.gd gw (rop P gl orc (evG gl s.T op) s.m d op).2),s.m⟩ K
   |none=>False):=nd rfl
variable (l2:List SO) (nb:List (List AV)) (o:SO)
@[simp] def avj:vcD P gl orc Y l2 K [] T m nb=Zx P gl orc Y l2 ⟨T,{m with boxes:=m.boxes++nb}⟩ K:=nd rfl
@[simp] def arp:vcD P gl orc Y l2 K (o::r) T m nb=((dop P gl orc o T m nb).1/\vcD P gl orc Y l2 K r (put T o.dst (dop P gl orc o T m nb).2.1) m (dop P gl orc o T m nb).2.2):=nd rfl
end
attribute [simp] rawOp evG gxs effy Qcb callV dop ev Kr oneOf strip gok setA fillA sop rop binV binI binS binBool Yf kindF eqF Qcv eqFs loOf hiOf lenS cellsS mutO vcNxt keyA intsA keyAV
def qZ(n:Nat)(a:AV):bG n [a]=List.replicate n a:=by
 induction n with
 |zero=>rfl
 |succ n ih=>rw[bG,ih];rfl
@[simp] theorem ajA(P:Program)(gl:Nat->AV)(orc:Nat->FuncId->List AV->AV)(rs:List aD)(r:AV)(s:AS):post P gl orc rs r .normal s=((Kr P gl orc s rs).1/\bF s.m 6 (oneOf (Kr P gl orc s rs).2)=r):=rfl
@[simp] theorem arq(P:Program)(gl:Nat->AV)(orc:Nat->FuncId->List AV->AV)(rs:List aD)(r:AV)(s:AS):post P gl orc rs r .ret s=((Kr P gl orc s rs).1/\bF s.m 6 (oneOf (Kr P gl orc s rs).2)=r):=rfl
@[simp] theorem aeQ(P:Program)(gl:Nat->AV)(orc:Nat->FuncId->List AV->AV)(rs:List aD)(K:AV->AM->Prop)(s:AS):wN P gl orc rs K .normal s=((Kr P gl orc s rs).1/\K (oneOf (Kr P gl orc s rs).2) s.m):=rfl
@[simp] theorem aon(P:Program)(gl:Nat->AV)(orc:Nat->FuncId->List AV->AV)(rs:List aD)(K:AV->AM->Prop)(s:AS):wN P gl orc rs K .ret s=((Kr P gl orc s rs).1/\K (oneOf (Kr P gl orc s rs).2) s.m):=rfl
section
variable (m:AM) (d:Nat)
@[simp] theorem ajB(b:Bool):Qv (.bool b)=true:=rfl
@[simp] theorem al8(k:IntKind)(n:Int):Qv (.int k n)=true:=rfl
@[simp] theorem al9(s:ByteArray):Qv (.str s)=true:=rfl
@[simp] theorem aoo(rt:Rt)(r:List (List AV)):Qv (.sl rt r)=true:=rfl
@[simp] theorem aop(r:List AV)(o:Nat):Qv (.ep r o)=true:=rfl
@[simp] theorem ama(i o:Nat):Qv (.ptr i o)=true:=rfl
@[simp] theorem aoq(i o n z:Nat):Qv (.bs i o n z)=true:=rfl
@[simp] theorem aor(f:FuncId)(a b:List AV):Qv (.fn f a b)=true:=rfl
@[simp] theorem ajC(p:Bool):Qv (.nilv p)=true:=rfl
@[simp] theorem aeR:Qv .nilfn=true:=rfl
@[simp] theorem amb(l:Nat):Qv (.yld l)=true:=rfl
@[simp] theorem aos(i:Nat):Qv (.mp i)=true:=rfl
@[simp] theorem aot(i:Nat):Qv (.it i)=true:=rfl
@[simp] theorem ajD(k:Nat)(l:List (List Int×AV)):Qv (.aJ k l)=false:=rfl
@[simp] theorem ajE(i n:Nat)(l:List Nat):Qv (.mitr i n l)=false:=rfl
@[simp] theorem ajF:Qv .junk=false:=rfl
@[simp] theorem amc(cs:List AV):Qv (.agg cs)=false:=rfl
@[simp] theorem amd(cs:List AV):Qv (.aW cs)=false:=rfl
@[simp] theorem aou(g:Bool)(a:AV):Qv (.gd g a)=false:=rfl
@[simp] theorem aov(b:Bool):bare (.bool b)=true:=rfl
@[simp] theorem ars(k:IntKind)(n:Int):bare (.int k n)=true:=rfl
@[simp] theorem art(s:ByteArray):bare (.str s)=true:=rfl
@[simp] theorem avk(rt:Rt)(r:List (List AV)):bare (.sl rt r)=true:=rfl
@[simp] theorem avl(r:List AV)(o:Nat):bare (.ep r o)=true:=rfl
@[simp] theorem aru(i o:Nat):bare (.ptr i o)=true:=rfl
@[simp] theorem avm(i o n z:Nat):bare (.bs i o n z)=true:=rfl
@[simp] theorem avn(f:FuncId)(a b:List AV):bare (.fn f a b)=true:=rfl
@[simp] theorem aow(p:Bool):bare (.nilv p)=true:=rfl
@[simp] theorem ame:bare .nilfn=true:=rfl
@[simp] theorem arw(l:Nat):bare (.yld l)=true:=rfl
@[simp] theorem avo(i:Nat):bare (.mp i)=true:=rfl
@[simp] theorem avp(i:Nat):bare (.it i)=true:=rfl
@[simp] theorem aox(k:Nat)(l:List (List Int×AV)):bare (.aJ k l)=false:=rfl
@[simp] theorem aoy(i n:Nat)(l:List Nat):bare (.mitr i n l)=false:=rfl
@[simp] theorem arx(cs:List AV):bare (.agg cs)=true:=rfl
@[simp] theorem aoz:bare .junk=false:=rfl
@[simp] theorem ary(cs:List AV):bare (.aW cs)=false:=rfl
@[simp] theorem avq(g:Bool)(a:AV):bare (.gd g a)=false:=rfl
@[simp] theorem aeS(b:Bool):cellsOf (.bool b)=[.bool b]:=rfl
@[simp] theorem ajG(k:IntKind)(n:Int):cellsOf (.int k n)=[.int k n]:=rfl
@[simp] theorem ajH(s:ByteArray):cellsOf (.str s)=[.str s]:=rfl
@[simp] theorem amf(rt:Rt)(r:List (List AV)):cellsOf (.sl rt r)=[.sl rt r]:=rfl
@[simp] theorem amg(r:List AV)(o:Nat):cellsOf (.ep r o)=[.ep r o]:=rfl
@[simp] theorem ajI(i o:Nat):cellsOf (.ptr i o)=[.ptr i o]:=rfl
@[simp] theorem amh(i o n z:Nat):cellsOf (.bs i o n z)=[.bs i o n z]:=rfl
@[simp] theorem ami(f:FuncId)(a b:List AV):cellsOf (.fn f a b)=[.fn f a b]:=rfl
@[simp] theorem aeT(p:Bool):cellsOf (.nilv p)=[.nilv p]:=rfl
@[simp] theorem abO:cellsOf .nilfn=[.nilfn]:=rfl
@[simp] theorem ajJ(l:Nat):cellsOf (.yld l)=[.yld l]:=rfl
@[simp] theorem amj(i:Nat):cellsOf (.mp i)=[.mp i]:=rfl
@[simp] theorem amk(i:Nat):cellsOf (.it i)=[.it i]:=rfl
@[simp] theorem ajK(cs:List AV):cellsOf (.agg cs)=cs:=rfl
@[simp] theorem arz(b:Bool):bF m (d+1) (.bool b)=.bool b:=rfl
@[simp] theorem avr(k:IntKind)(n:Int):bF m (d+1) (.int k n)=.int k n:=rfl
@[simp] theorem avt(s:ByteArray):bF m (d+1) (.str s)=.str s:=rfl
@[simp] theorem arA(p:Bool):bF m (d+1) (.nilv p)=.nilv p:=rfl
@[simp] theorem aoA:bF m (d+1) .nilfn=.nilfn:=rfl
@[simp] theorem avu(l:Nat):bF m (d+1) (.yld l)=.junk:=rfl
@[simp] theorem awf(i:Nat):bF m (d+1) (.mp i)=.junk:=rfl
@[simp] theorem awg(i:Nat):bF m (d+1) (.it i)=.junk:=rfl
@[simp] theorem arB:bF m (d+1) .junk=.junk:=rfl
@[simp] theorem avv(cs:List AV):bF m (d+1) (.agg cs)=.agg (cs.map (bF m d)):=rfl
@[simp] theorem avw(cs:List AV):bF m (d+1) (.aW cs)=.aW (cs.map (bF m d)):=rfl
@[simp] theorem awh(f:FuncId)(a b:List AV):bF m (d+1) (.fn f a b)=.fn f (a.map (bF m d)) (b.map (bF m d)):=rfl
@[simp] theorem awi(r:List (List AV)):bF m (d+1) (.sl .ro r)=.sl .ro r:=rfl
@[simp] theorem arC(r:List (List AV)):bF m (d+1) (.sl .full r)=.sl .full r:=rfl
@[simp] theorem avx(r:List (List AV)):bF m (d+1) (.sl .nil r)=.sl .nil r:=rfl
@[simp] theorem awj(r:List (List AV)):bF m (d+1) (.sl .nn r)=.sl .nn r:=rfl
@[simp] theorem avy(i s:Nat)(r:List (List AV)):bF m (d+1) (.sl (.own i s) r)=.sl .ro r:=rfl
@[simp] theorem awk(r:List AV)(o:Nat):bF m (d+1) (.ep r o)=.ep r o:=rfl
@[simp] def XI(i o n z:Nat):bF m (d+1) (.bs i o n z)=if o+n*z<=(m.boxes.getD i []).length then .sl .ro (aV z n (((m.boxes.getD i []).map (bF m d)).drop o))else .junk:=by
 simp only[bF];cases h:Nat.ble (o+n*z) (m.boxes.getD i []).length with
 |true=>rw[if_pos (zzhg h)];rfl
 |false=>rw[if_neg (fun h'=>by rw[Nat.ble_eq_true_of_le h']at h;cases h)];rfl
@[simp] theorem oZ(i o:Nat):bF m (d+1) (.ptr i o)=.ep ((m.boxes.getD i []).map (bF m d)) o:=rfl
@[simp] theorem aoB(b:Bool):Yk (d+1) (.bool b)=false:=rfl
@[simp] theorem arD(k:IntKind)(n:Int):Yk (d+1) (.int k n)=false:=rfl
@[simp] theorem arE(s:ByteArray):Yk (d+1) (.str s)=false:=rfl
@[simp] theorem aoC(p:Bool):Yk (d+1) (.nilv p)=false:=rfl
@[simp] theorem aml:Yk (d+1) .nilfn=false:=rfl
@[simp] theorem arF(l:Nat):Yk (d+1) (.yld l)=false:=rfl
@[simp] theorem avz(i:Nat):Yk (d+1) (.mp i)=false:=rfl
@[simp] theorem avA(i:Nat):Yk (d+1) (.it i)=false:=rfl
@[simp] theorem aoD:Yk (d+1) .junk=false:=rfl
@[simp] theorem arG(cs:List AV):Yk (d+1) (.agg cs)=cs.any (Yk d):=rfl
@[simp] theorem arH(cs:List AV):Yk (d+1) (.aW cs)=cs.any (Yk d):=rfl
@[simp] theorem avB(f:FuncId)(a b:List AV):Yk (d+1) (.fn f a b)=(a.any (Yk d)||b.any (Yk d)):=rfl
@[simp] theorem avC(rt:Rt)(r:List (List AV)):Yk (d+1) (.sl rt r)=false:=rfl
@[simp] theorem avD(r:List AV)(o:Nat):Yk (d+1) (.ep r o)=false:=rfl
@[simp] theorem avE(i o n z:Nat):Yk (d+1) (.bs i o n z)=true:=rfl
@[simp] theorem arI(i o:Nat):Yk (d+1) (.ptr i o)=true:=rfl
@[simp] theorem aoE(b:Bool):flat (.bool b)=true:=rfl
@[simp] theorem arJ(k:IntKind)(n:Int):flat (.int k n)=true:=rfl
@[simp] theorem arK(s:ByteArray):flat (.str s)=true:=rfl
@[simp] theorem amm(b:Bool):jb (.bool b)=true:=rfl
@[simp] theorem aoF(k:IntKind)(n:Int):jb (.int k n)=true:=rfl
@[simp] theorem aoG(s:ByteArray):jb (.str s)=true:=rfl
@[simp] theorem arL(cs:List AV):flat (.aW cs)=cs.all jb:=rfl
end
def FD:AV->Bool
 |.bool _|.int _ _|.str _|.sl .ro _|.sl .full _|.sl .nil _|.sl .nn _|.nilfn|.ep _ _=>true
 |_=>false
@[simp] theorem arM(b:Bool):FD (.bool b)=true:=rfl
@[simp] theorem avF(k:IntKind)(n:Int):FD (.int k n)=true:=rfl
@[simp] theorem avG(s:ByteArray):FD (.str s)=true:=rfl
@[simp] theorem awl(r:List (List AV)):FD (.sl .ro r)=true:=rfl
@[simp] theorem arN(r:List (List AV)):FD (.sl .full r)=true:=rfl
@[simp] theorem avH(r:List (List AV)):FD (.sl .nil r)=true:=rfl
@[simp] theorem awm(r:List (List AV)):FD (.sl .nn r)=true:=rfl
@[simp] theorem awn(r:List AV)(o:Nat):FD (.ep r o)=true:=rfl
def Oi(m:AM)(d:Nat){a:AV}(h:FD a=true):bF m (d+1) a=a:=by
 cases a<;>simp[FD]at h |-
 rename_i rt rows;cases rt<;>simp at h |-
def Zg(row:List AV):Bool:=row.all FD
def Zm(m:AM)(d:Nat){row:List AV}(h:Zg row=true):row.map (bF m (d+1))=row:=by
 have:row.map (bF m (d+1))=row.map id:=zzda fun a ha=>Oi m d (zzbh.1 h a ha);rw[this,List.map_id]
def Qk{n:Int}(h1: -9223372036854775808<=n)(h2:n<=9223372036854775807):IntKind.i64.wrap n=n:=by
 rw[IntKind.wrap_i64];omega
def bK(i:Nat)(h:i<1000000000000000000):IntKind.i64.wrap ((i:Int)+1)=((i+1:Nat):Int):=by rw[Qk]<;>omega
def aR{α:Type}{l:List α}{i:Nat}(h:i<l.length):∃x,l[i]?=some x:=⟨_,zzad h⟩
@[simp] theorem Ui(m:AM)(l:Nat)(x:LS):(m.at_ l x).boxes=m.boxes:=rfl
@[simp] theorem CS(m:AM)(l:Nat)(x:LS):(m.at_ l x).lens=m.lens:=rfl
@[simp] theorem ajL(m:AM)(l:Nat)(x:LS):(m.at_ l x).st=qw m.st l x:=rfl
@[simp] def ax7(m:AM)(l:Nat)(x y:LS):(m.at_ l x).at_ l y=m.at_ l y:=by
 simp only[AM.at_];congr 1;funext i;simp only[qw];split<;>rfl
@[simp] def arO(st:Nat->LS)(l:Nat)(x:LS):qw st l x l=x:=by simp[qw]
@[simp] def avI(st:Nat->LS)(l:Nat)(x y:LS):qw (qw st l x) l y=qw st l y:=by funext i;simp only[qw];split<;>rfl
def fM(m m':AM):Prop:=(∃bx,m'.boxes=m.boxes++bx)/\(∃lx,m'.lens=m.lens++lx)/\∀l,m.st l≠.gone->m'.st l=m.st l
def fM.refl(m:AM):fM m m:=⟨⟨[],by simp⟩,⟨[],by simp⟩,fun _ _=>rfl⟩
def fM.trans{m m' lW:AM}(h:fM m m')(k:fM m' lW):fM m lW:=by
 obtain⟨⟨b,h1⟩,⟨c,h2⟩,h3⟩:=h;obtain⟨⟨b',k1⟩,⟨c',k2⟩,k3⟩:=k;exact⟨⟨b++b',by rw[k1,h1,zzax]⟩,⟨c++c',by rw[k2,h2,zzax]⟩,fun l hl=>by rw[k3 l (by rw[h3 l hl];exact hl),h3 l hl]⟩
def fM.box(m:AM)(b:List (List AV)):fM m {m with boxes:=m.boxes++b}:=⟨⟨b,rfl⟩,⟨[],by simp⟩,fun _ _=>rfl⟩
def fM.gone{m m':AM}(h:fM m m')(l:Nat):fM (m.at_ l .gone) (m'.at_ l .gone):=
 ⟨h.1,h.2.1,fun l' eF=>by
  by_cases e:l'=l
  ·subst e;simp at eF
  simp only[ajL,qw,e,if_false]at eF |-;exact h.2.2 l' eF⟩
def wP(y:List AV->AM->(Bool->AM->Prop)->Prop)(K:AM->Prop):List (List AV)->AM->Prop
 |[],m=>∀m',fM m m'->K m'
 |x::xs,m=>∀m',fM m m'->∀K':Bool->AM->Prop,(∀lW,wP y K xs lW->K' true lW)->(∀lW,(∀m3,fM lW m3->K m3)->K' false lW)->y x m' K'
def wP.ext{y:List AV->AM->(Bool->AM->Prop)->Prop}{K:AM->Prop}{xs:List (List AV)}{m m':AM}(h:wP y K xs m)(e:fM m m'):wP y K xs m':=by
 cases xs with
 |nil=>exact fun m2 e2=>h m2 (e.trans e2)
 |cons x xs=>exact fun m2 e2=>h m2 (e.trans e2)
def Iter(P:Program)(gl:Nat->AV)(f:FuncId)(first cap:List AV)(xs:List (List AV)):Prop:=
 ∀(Y:YT)(l:Nat)(m:AM)(K:AM->Prop),wP (Y l) K xs m->an P gl Y f (first++[.yld l]++cap) m fun _ m'=>K m'
def jI{P:Program}{gl:Nat->AV}{orc:Nat->FuncId->List AV->AV}{Y:YT}{s:AS}{Q:Exit->AS->Prop}{g:bL}{ps:List Nat}{lY body:SC}{f:FuncId}{first cap:List AV}{xs:List (List AV)}
  (hg:ev gl s.T g=.fn f first cap)(cI:Iter P gl f first cap xs)(aH:∀x∈xs,x.length=ps.length)(I:Nat->AM->Prop)(X:Exit->AM->Prop)(h0:I 0 s.m)
  (hI:∀i m m',I i m->fM m m'->I i m')(hX:∀ex m m',X ex m->fM m m'->X ex m')
  (
   hb:∀(l i:Nat)(m:AM)(x:List AV),s.m.st l=.gone->m.st l=.ready->I i (m.at_ l .gone)->xs[i]?=some x->∀K':Exit->AS->Prop,
   (∀s',I (i+1) (s'.m.at_ l .gone)->K' .normal s')->(∀s',X .ret (s'.m.at_ l .gone)->K' .ret s')->(∀id s',X (.exit id) (s'.m.at_ l .gone)->K' (.exit id) s')->
   vc P gl orc Y lY ⟨Qar s.T ps x,m⟩ (Fw l fun s'=>vc P gl orc Y body s' K'))
  (KP:∀m,I xs.length m->Q .normal ⟨s.T,m⟩)(hex:∀ex m,X ex m->Q ex ⟨s.T,m⟩):vc P gl orc Y (.rfunc g ps lY body) s Q:=by
 simp only[vc,hg];intro hl;generalize cS:s.m.ln=l at hl;refine cI _ l s.m.aY (fun m'=>zC l s.T m' Q (m'.st l)) ?_;have fI:∀{m m':AM},m.st l=.ready->fM m m'->m'.st l=.ready:=fun h e=>by rw[e.2.2 l (by rw[h];simp),h]
 have key:∀(n i:Nat)(m:AM),i+n=xs.length->I i (m.at_ l .gone)->m.st l=.ready->wP (Yin Y l ps.length (fun args m K=>vc P gl orc Y lY ⟨Qar s.T ps args,m⟩ (Fw l fun s'=>vc P gl orc Y body s' (KN l K))) l) (fun m'=>zC l s.T m' Q (m'.st l)) (xs.drop i) m:=by
  intro n;induction n with
  |zero=>
   intro i m hi XJ hm;rw[zzal (by omega)];intro m' e;simp only[fI hm e,zC];obtain rfl:i=xs.length:=by omega
   exact KP _ (hI _ _ _ XJ (e.gone l))
  |succ n ih=>
   intro i m hi XJ hm;have ai:i<xs.length:=by omega
   rw[zzaf ai];intro m' e K' hT hF;simp only[Yin,if_true];refine⟨fI hm e,aH _ (zzdj ai),?_⟩;refine hb l i m' xs[i] hl (fI hm e) (hI _ _ _ XJ (e.gone l)) (zzad ai) (KN l K') (fun s' zy=>?_) (fun s' hQ=>?_) fun id s' hQ=>?_
   ·refine hT _ (ih (i+1) _ (by omega) ?_ (by simp));simpa using zy
   ·refine hF _ fun m3 e3=>?_;have h3:m3.st l=.done .ret:=by have:=e3.2.2 l (by simp);simpa using this
    simp only[h3];exact hex _ _ (hX _ _ _ hQ (by have:=e3.gone l;simpa using this))
   refine hF _ fun m3 e3=>?_;have h3:m3.st l=.done (.exit id):=by have:=e3.2.2 l (by simp);simpa using this
   simp only[h3];exact hex _ _ (hX _ _ _ hQ (by have:=e3.gone l;simpa using this))
 have:=key xs.length 0 s.m.aY (by simp) (hI 0 s.m _ h0 ⟨⟨[],by simp[AM.aY]⟩,⟨[],by simp[AM.aY]⟩,fun l' eF=>by
  have:l'≠l:=by rintro rfl;exact eF hl
  simp[AM.aY,cS,qw,this]⟩) (by simp[AM.aY,cS])
 simpa using this
attribute [simp] Qar
section
variable (l:Nat) (k:AS->Prop) (s:AS) (id:Nat)
@[simp] def ajM:Fw l k .normal s=(s.m.st l=.ready/\k ⟨s.T,s.m.at_ l .busy⟩):=nd rfl
end
open Go Go.RowKit
def look:List (Nat×AV)->Nat->AV
 |[],_=>.junk
 |(d,v)::r,t=>if d=t then v else look r t
def Ze(n:Nat)(E:List (Nat×AV)):List AV:=(List.range n).map (look E)
def sC:Nat->List AV->List (Nat×AV)
 |_,[]=>[]
 |i,a::r=>(i,a)::sC (i+1) r
@[simp] theorem Qbk(d:Nat)(v:AV)(r:List (Nat×AV))(t:Nat):look ((d,v)::r) t=if d=t then v else look r t:=rfl
@[simp] theorem look_nil(t:Nat):look [] t=.junk:=rfl
@[simp] theorem aoH(i:Nat):sC i []=[]:=rfl
@[simp] theorem KQ(i:Nat)(a:AV)(r:List AV):sC i (a::r)=(i,a)::sC (i+1) r:=rfl
@[simp] def aeU{n t:Nat}{E:List (Nat×AV)}(h:t<n):nth (Ze n E) t=look E t:=by
 simp[nth,Ze,zzar,-Qbs,h]
def Zl{n d:Nat}{E:List (Nat×AV)}(h:d<n)(v:AV):(Ze n E).set d v=Ze n ((d,v)::E):=by
 apply zzee (by simp[Ze]);intro i h1 h2;rw[List.getElem_set];simp[Ze]
@[simp] def avJ{n d:Nat}{E:List (Nat×AV)}(h:d<n)(v:AV):put (Ze n E) (some d) v=Ze n ((d,v)::E):=Zl h v
@[simp] theorem arP(T:List AV)(v:AV):put T none v=T:=rfl
@[simp] def aoI{n d:Nat}{E:List (Nat×AV)}(h:d<n)(ps:List Nat)(x:AV)(xs:List AV):Qar (Ze n E) (d::ps) (x::xs)=Qar (Ze n ((d,x)::E)) ps xs:=by
 rw[Qar,Zl h]
def wQ:∀(l:List AV)(i t:Nat),look (sC i l) t=if i<=t then l.getD (t-i) .junk else .junk
 |[],i,t=>by simp[-Qbs]
 |a::r,i,t=>by
  rw[KQ,Qbk,wQ r (i+1) t];by_cases h:i=t
  ·subst h;simp[-Qbs]
  rw[if_neg h];by_cases h':i<=t
  ·rw[if_pos (by omega),if_pos h',show t-i=(t-(i+1))+1 by omega];simp[-Qbs]
  rw[if_neg (by omega),if_neg h']
def AX{n:Nat}{l:List AV}(h:l.length<=n):l++List.replicate (n-l.length) .junk=Ze n (sC 0 l):=by
 apply zzee
 ·simp[Ze];omega
 intro i h1 h2;simp only[Ze,List.getElem_map,List.getElem_range,wQ,zzbz,if_true,zzfg];rw[List.getElem_append];split
 ·rename_i hi;simp[zzar,-Qbs,hi]
 rename_i hi;simp[zzar,-Qbs,hi]
section
variable {P:Program} {gl:Nat->AV} {Y:YT}
def Qn{f:FuncId}{sc:SC}{rs:List aD}{n:Nat}(hc:dn P f sc rs n)(orc:Nat->FuncId->List AV->AV){l:List AV}{r:AV}(hn:l.length<=n)
  (h:vc P gl orc Y0 sc ⟨Ze n (sC 0 l),⟨[],[],fun _=>.gone,0⟩⟩ (post P gl orc rs r)):Pure P gl f l r:=aeM hc orc (by rw[AX hn];exact h)
def Xe{f:FuncId}{sc:SC}{rs:List aD}{n:Nat}(hc:dn P f sc rs n)(orc:Nat->FuncId->List AV->AV){l:List AV}{m:AM}{K:AV->AM->Prop}(hn:l.length<=n)
  (h:vc P gl orc Y sc ⟨Ze n (sC 0 l),m⟩ (wN P gl orc rs K)):an P gl Y f l m K:=XG hc orc (by rw[AX hn];exact h)
end
def dy(W:List Nat)(E' E:List (Nat×AV)):Prop:=∀t,W.contains t=false->look E' t=look E t
def Qb(W:List Nat)(E:List (Nat×AV)):dy W E E:=fun _ _=>rfl
def Qa{W:List Nat}{E' E:List (Nat×AV)}{k:Nat}(v:AV)(hk:W.contains k=true)(h:dy W E' E):dy W ((k,v)::E') E:=fun t ht=>by
 rw[Qbk,if_neg (by rintro rfl;rw[hk]at ht;cases ht)];exact h t ht
def lq(n:Nat)(E:List (Nat×AV))(W:List Nat)(R:(Nat->AV)->AM->Prop)(μ:(Nat->AV)->AM->Nat)(f:Nat->AV)(m:AM)(Q:Exit->AS->Prop):Exit->AS->Prop
 |.normal,s'=>(∃E',s'.T=Ze n E'/\dy W E' E)/\R (nth s'.T) s'.m/\μ (nth s'.T) s'.m<μ f m
 |ex,s'=>Q ex s'
def Qco(f:Nat->AV):List Nat->List (Nat×AV)->List (Nat×AV)
 |[],E=>E
 |i::W,E=>(i,f i)::Qco f W E
@[simp] theorem amn(f:Nat->AV)(E:List (Nat×AV)):Qco f [] E=E:=rfl
@[simp] theorem FE(f:Nat->AV)(i:Nat)(W:List Nat)(E:List (Nat×AV)):Qco f (i::W) E=(i,f i)::Qco f W E:=rfl
def jJ(f:Nat->AV)(E:List (Nat×AV))(t:Nat):∀W,look (Qco f W E) t=if W.contains t then f t else look E t
 |[]=>by simp
 |i::W=>by
  rw[FE,Qbk,jJ f E t W];by_cases h:i=t
  ·subst h;simp
  have h':t≠i:=Ne.symm h;simp[h,h']
def CT(f:Nat->AV)(W:List Nat)(E:List (Nat×AV)):dy W (Qco f W E) E:=fun t ht=>by rw[jJ,ht];rfl
def aeV{n:Nat}{E E':List (Nat×AV)}(h:∀t,t<n->look E t=look E' t):Ze n E=Ze n E':=zzda fun t ht=>h t (zzbd.1 ht)
def AY{n:Nat}{W:List Nat}{E:List (Nat×AV)}{T:List AV}:(∃E',T=Ze n E'/\dy W E' E)<->T=Ze n (Qco (nth T) W E):=by
 constructor
 ·rintro⟨E',rfl,h⟩;refine aeV fun t ht=>?_;rw[jJ];cases hc:W.contains t with
  |true=>simp only[if_true];rw[aeU ht]
  |false=>simp only[zzbq,if_false];exact h t hc
 exact fun h=>⟨_,h,CT _ _ _⟩
def Qj{P:Program}{gl:Nat->AV}{orc:Nat->FuncId->List AV->AV}{Y:YT}{n:Nat}{E:List (Nat×AV)}{m0:AM}{Q:Exit->AS->Prop}{c:SC}(W:List Nat)(R:(Nat->AV)->AM->Prop)(μ:(Nat->AV)->AM->Nat)
  (h0:R (nth (Ze n E)) m0)(hr:∀f m,R f m->vc P gl orc Y c ⟨Ze n (Qco f W E),m⟩ (lq n E W R μ f m Q)):vc P gl orc Y (.loop c) ⟨Ze n E,m0⟩ Q:=by
 refine aeO P gl orc Y ⟨Ze n E,m0⟩ Q (fun s'=>s'.T=Ze n (Qco (nth s'.T) W E)/\R (nth s'.T) s'.m) (fun s'=>μ (nth s'.T) s'.m) ⟨AY.1 ⟨E,rfl,Qb _ _⟩,h0⟩ ?_;rintro⟨T',m'⟩ ⟨h1,h2⟩;have:=hr _ m' h2;rw[<- h1]at this
 have e:lq n E W R μ (nth T') m' Q=nI (fun s'=>s'.T=Ze n (Qco (nth s'.T) W E)/\R (nth s'.T) s'.m) (fun s'=>μ (nth s'.T) s'.m) ⟨T',m'⟩ Q:=by
  funext ex s';cases ex<;>simp[lq,nI,and_assoc,AY]
 rwa [e]at this
section
variable (n:Nat) (E:List (Nat×AV)) (W:List Nat) (R:(Nat->AV)->AM->Prop) (μ:(Nat->AV)->AM->Nat) (f:Nat->AV) (m:AM) (Q:Exit->AS->Prop) (s:AS) (id:Nat)
@[simp] theorem XK:lq n E W R μ f m Q .normal s=((∃E',s.T=Ze n E'/\dy W E' E)/\R (nth s.T) s.m/\μ (nth s.T) s.m<μ f m):=rfl
@[simp] theorem aeW:lq n E W R μ f m Q (.exit id) s=Q (.exit id) s:=rfl
@[simp] theorem ajN:lq n E W R μ f m Q .ret s=Q .ret s:=rfl
end
def ag{n:Nat}{E' E:List (Nat×AV)}{W:List Nat}(h:dy W E' E):∃E1,Ze n E'=Ze n E1/\dy W E1 E:=⟨E',rfl,h⟩
def aO{n:Nat}{E' E:List (Nat×AV)}{W:List Nat}(h:dy W E' E:=by repeat(first|exact Qb _ _|refine Qa _ rfl ?_)):∃E1,Ze n E'=Ze n E1/\dy W E1 E:=ag h
open Go Go.RowKit
def jK(P:Program):List Field->Nat->Option Nat
 |[],n=>some n
 |f::r,n=>if f.offset=n then jK P r (n+P.cellsOf f.type)else none
def XL(P:Program):Nat->TypeId->Bool
 |0,_=>false
 |d+1,t=>match P.underlying t with
  |some .bool|some (.int _)|some .string=>P.cellsOf t==1
  |some (.slice e)=>((P.cellsOf t==1)&&!(P.cellsOf e==0))&&XL P d e
  |some (.struct fs)=>(jK P fs.toList 0==some (P.cellsOf t))&&fs.toList.all fun f=>XL P d f.type
  |some (.array n e)=>(P.cellsOf t==n*P.cellsOf e)&&XL P d e
  |_=>false
def cz{H:Type}(P:Program):Nat->TypeId->DataW H->List AV
 |0,_,_=>[]
 |d+1,t,x=>match P.underlying t,x with
  |some .bool,.lit (.bool b)=>[.bool b]
  |some (.int _),.lit (.int k n)=>[.int k n]
  |some .string,.lit (.string s)=>[.str ⟨s.toArray⟩]
  |some (.slice _),.nil=>[.sl .nil []]
  |some (.slice e),.slice bN _=>[.sl .nn (bN.map (cz P d e))]
  |some (.struct fs),.agg parts=>(fs.toList.zip parts).flatMap fun p=>cz P d p.1.type p.2
  |some (.array _ e),.agg parts=>parts.flatMap (cz P d e)
  |_,_=>[]
def Typed{H:Type}(P:Program):Nat->TypeId->DataW H->Prop
 |0,_,_=>False
 |d+1,t,x=>match P.underlying t,x with
  |some .bool,.lit (.bool _)=>True
  |some (.int k),.lit (.int k' n)=>k'=k/\(Lit.int k n).wf=true
  |some .string,.lit (.string s)=>s.length<=maxLen
  |some (.slice _),.nil=>True
  |some (.slice e),.slice bN _=>bN.length<=maxLen/\∀y∈bN,Typed P d e y
  |some (.struct fs),.agg parts=>parts.length=fs.size/\∀p∈fs.toList.zip parts,Typed P d p.1.type p.2
  |some (.array n e),.agg parts=>parts.length=n/\∀y∈parts,Typed P d e y
  |_,_=>False
def FF:Nat->Nat->Prop:=fun _ _=>True
section
variable {H:Type} {enc:TypeId×Value->H} {P:Program} {w:World} {base:Nat} {sp:Nat->Bool} {held:Bool}
def KR{a:Addr}{n:Nat}{cs:List Value}(h:w.cells? base a n=some cs):cs.length=n/\∀(j:Nat)(v:Value),cs[j]?=some v->w.cell? (a.add j)=some v:=by
 unfold World.cells? at h;split at h
 ·obtain⟨h1,h2⟩:=Qdi _ _ _ h;refine⟨by simpa using h1,fun j v hj=>?_⟩
  have ai:j<n:=by
   have:=(zza.1 hj).1;simp at h1;omega
  exact h2 j j v (by simp[ai]) hj
 cases h
def CU{γ:G}:∀(l:List (List AV))(XM:List (List Value)),l.length=XM.length->(∀(i:Nat)(as:List AV)(vs:List Value),l[i]?=some as->XM[i]?=some vs->ak w γ as vs)->ak w γ l.flatten XM.flatten
 |[],[],_,_=>ak.nil
 |[],_::_,h,_=>by simp at h
 |_::_,[],h,_=>by simp at h
 |as::l,vs::XM,h,hr=>by
  rw[zzcj,zzcj];exact(hr 0 as vs rfl rfl).append (CU l XM (by simpa using h) fun i as vs h1 h2=>hr (i+1) as vs (by simpa using h1) (by simpa using h2))
def sD{cs:List Value}:∀(fs:List Field)(n m:Nat),jK P fs n=some m->m=cs.length->n<=cs.length->(fs.map fun f=>(cs.drop f.offset).take (P.cellsOf f.type)).flatten=cs.drop n
 |[],n,m,h,hm,hn=>by simp[jK]at h;subst h;subst hm;simp
 |f::fs,n,m,h,hm,hn=>by
  simp only[jK]at h;split at h
  ·rename_i ho;subst ho
   have bZ:∀(fs:List Field)(n m:Nat),jK P fs n=some m->n<=m:=by
    intro fs;induction fs with
    |nil=>intro n m h;simp[jK]at h;omega
    |cons f fs ih=>
     intro n m h;simp only[jK]at h;split at h
     ·have:=ih _ _ h;omega
     cases h
   have h1:=bZ _ _ _ h;have ih:=sD fs _ m h hm (by omega);rw[zzay,zzcj,ih];rw[<- zzdv,zzdd]
  cases h
def KS{cs:List Value}{k:Nat}:∀(n:Nat),cs.length=n*k->((List.range n).map fun i=>(cs.drop (i*k)).take k).flatten=cs:=by
 intro n hn
 have key:∀m,m<=n->((List.range m).map fun i=>(cs.drop (i*k)).take k).flatten=cs.take (m*k):=by
  intro m;induction m with
  |zero=>simp
  |succ m ih=>
   intro hm;rw[zzfb,zzby,zzei,ih (by omega)];simp only[zzay,zzcg,zzcj,List.flatten_nil,zzat];rw[zzbp,zzdo,List.take_add]
 rw[key n (zzab _),<- hn,zzbs]
def trod_bool{t:TypeId}{bz:Nat}{cs:List Value}{x:DataW H}{ps:List MemPlace}(hu:P.underlying t=some .bool)(h:DataW.trod enc P w base sp held (bz+1) t cs=some (x,ps)):∃b,cs=[.bool b]/\x=.lit (.bool b):=by
 unfold DataW.trod at h;rw[hu]at h;obtain _|⟨v,_|⟨_,_⟩⟩:=cs
 ·cases h
 ·cases v<;>first|(cases h;done)|(cases h;exact⟨_,rfl,rfl⟩)
 cases v<;>first|(cases h;done)|(simp at h;done)
def trod_int{t:TypeId}{k:IntKind}{bz:Nat}{cs:List Value}{x:DataW H}{ps:List MemPlace}(hu:P.underlying t=some (.int k))(h:DataW.trod enc P w base sp held (bz+1) t cs=some (x,ps)):∃n,cs=[.int k n]/\x=.lit (.int k n)/\(Lit.int k n).wf=true:=by
 unfold DataW.trod at h;rw[hu]at h;obtain _|⟨v,_|⟨_,_⟩⟩:=cs
 ·cases h
 ·cases v<;>first|(cases h;done)|skip
  simp only at h;split at h
  ·rename_i hk;cases h;rw[hk.1];exact⟨_,rfl,rfl,hk.2⟩
  cases h
 cases v<;>first|(cases h;done)|(simp at h;done)
def XN{t:TypeId}{bz:Nat}{cs:List Value}{x:DataW H}{ps:List MemPlace}(hu:P.underlying t=some .string)(h:DataW.trod enc P w base sp held (bz+1) t cs=some (x,ps)):∃s,cs=[.string s]/\x=.lit (.string s.data.toList)/\s.size<=maxLen:=by
 unfold DataW.trod at h;rw[hu]at h;obtain _|⟨v,_|⟨_,_⟩⟩:=cs
 ·cases h
 ·cases v<;>first|(cases h;done)|skip
  simp only at h;split at h
  ·rename_i hk;cases h;exact⟨_,rfl,rfl,hk⟩
  cases h
 cases v<;>first|(cases h;done)|(simp at h;done)
def aeX{t e:TypeId}{bz:Nat}{cs:List Value}{x:DataW H}{ps:List MemPlace}(hu:P.underlying t=some (.slice e))(h:DataW.trod enc P w base sp held (bz+1) t cs=some (x,ps)):
  (
   cs=[.slice none 0 0]/\x=.nil)\/∃a len cap bN rest,cs=[.slice (some a) len cap]/\len<=cap/\cap<=maxLen/\x=.slice (bN.map (·.1)) rest/\
   (List.range len).mapM (fun i=>(w.cells? base (a.add (i*P.cellsOf e)) (P.cellsOf e)).bind (DataW.trod enc P w base sp held bz e))=some bN:=by
 unfold DataW.trod at h;rw[hu]at h;obtain _|⟨v,_|⟨_,_⟩⟩:=cs
 ·cases h
 ·cases v<;>first|(cases h;done)|skip
  rename_i a len cap;cases a with
  |none=>cases len<;>cases cap<;>first|(cases h;done)|(cases h;exact .inl ⟨rfl,rfl⟩)
  |some a=>
   simp only at h;split at h
   case isFalse=>cases h
   rename_i hc;cases hm:(List.range len).mapM (fun i=>(w.cells? base (a.add (i*P.cellsOf e)) (P.cellsOf e)).bind (DataW.trod enc P w base sp held bz e))with
   |none=>rw[hm]at h;cases h
   |some bN=>
    rw[hm]at h;simp only[zzcu,zzcf]at h;obtain⟨rest,_,h2⟩:=h;cases h2;exact .inr ⟨a,len,cap,bN,_,rfl,hc.2.1,hc.2.2,rfl,hm⟩
 cases v<;>first|(cases h;done)|skip
 rename_i a len cap;cases a with
 |none=>cases len<;>cases cap<;>first|(cases h;done)|(simp at h;done)
 |some a=>first|(cases h;done)|(simp at h;done)
def trod_struct{t:TypeId}{fs:Array Field}{bz:Nat}{cs:List Value}{x:DataW H}{ps:List MemPlace}(hu:P.underlying t=some (.struct fs))(h:DataW.trod enc P w base sp held (bz+1) t cs=some (x,ps)):
  cs.length=P.cellsOf t/\∃xs,x=.agg (xs.map (·.1))/\fs.toList.mapM (fun f=>DataW.trod enc P w base sp held bz f.type ((cs.drop f.offset).take (P.cellsOf f.type)))=some xs:=by
 unfold DataW.trod at h;rw[hu]at h;simp only at h;split at h
 case isFalse=>cases h
 rename_i hc;simp only[zzcf]at h;obtain⟨xs,h1,h2⟩:=h;cases h2;exact⟨hc,xs,rfl,h1⟩
def trod_array{t e:TypeId}{n:Nat}{bz:Nat}{cs:List Value}{x:DataW H}{ps:List MemPlace}(hu:P.underlying t=some (.array n e))(h:DataW.trod enc P w base sp held (bz+1) t cs=some (x,ps)):
  cs.length=P.cellsOf t/\∃xs,x=.agg (xs.map (·.1))/\(List.range n).mapM (fun i=>DataW.trod enc P w base sp held bz e ((cs.drop (i*P.cellsOf e)).take (P.cellsOf e)))=some xs:=by
 unfold DataW.trod at h;rw[hu]at h;simp only at h;split at h
 case isFalse=>cases h
 rename_i hc;simp only[zzcf]at h;obtain⟨xs,h1,h2⟩:=h;cases h2;exact⟨hc,xs,rfl,h1⟩
def jL:∀(d bz:Nat)(t:TypeId)(cs:List Value)(x:DataW H)(ps:List MemPlace),DataW.trod enc P w base sp held bz t cs=some (x,ps)->XL P d t=true->
  Typed P d t x/\ak w (G0 FF) (cz P d t x) cs/\(cz P d t x).all Qv=true/\cs.length=P.cellsOf t
 |0,_,_,_,_,_,_,h=>by cases h
 |d+1,0,_,_,_,_,h,_=>by cases h
 |d+1,bz+1,t,cs,x,ps,h,bV=>by
  unfold XL at bV;cases hu:P.underlying t with
  |none=>simp[hu]at bV
  |some desc=>
   rw[hu]at bV;cases desc with
   |bool=>
    obtain⟨b,rfl,rfl⟩:=trod_bool hu h;exact⟨by simp[Typed,hu],by simp only[cz,hu];exact ak.cons (.bool b) ak.nil,by simp[cz,hu,Qv],(eq_of_beq bV).symm⟩
   |int k=>
    obtain⟨n,rfl,rfl,hw⟩:=trod_int hu h;exact⟨by simp[Typed,hu,hw],by simp only[cz,hu];exact ak.cons (.int k n) ak.nil,by simp[cz,hu,Qv],(eq_of_beq bV).symm⟩
   |string=>
    obtain⟨s,rfl,rfl,hw⟩:=XN hu h;refine⟨by simpa[Typed,hu]using hw,?_,by simp[cz,hu,Qv],(eq_of_beq bV).symm⟩;simp only[cz,hu];have:(⟨s.data.toList.toArray⟩:ByteArray)=s:=by cases s;simp
    rw[this];exact ak.cons (.str s) ak.nil
   |slice e=>
    simp only[zzak]at bV;rcases aeX hu h with⟨rfl,rfl⟩|⟨a,len,cap,bN,rest,rfl,hlc,hcm,rfl,hm⟩
    ·exact⟨by simp[Typed,hu],by simp only[cz,hu];exact ak.cons Cr ak.nil,by simp[cz,hu,Qv],(eq_of_beq bV.1.1).symm⟩
    obtain⟨hl,hg⟩:=Qdi _ _ _ hm;have eF:bN.length=len:=by simpa using hl
    have Te:∀(i:Nat)(y:DataW H×List MemPlace),bN[i]?=some y->∃ec,ec.length=P.cellsOf e/\(∀(j:Nat)(v:Value),ec[j]?=some v->w.cell? ((a.add (i*P.cellsOf e)).add j)=some v)/\Typed P d e y.1/\ak w (G0 FF) (cz P d e y.1) ec/\(cz P d e y.1).all Qv=true:=fun i y hy=>by
     have hi:i<len:=by rw[<- eF];exact(zza.1 hy).1
     have:=hg i i y (by simp[hi]) hy;cases hc:w.cells? base (a.add (i*P.cellsOf e)) (P.cellsOf e)with
     |none=>rw[hc]at this;cases this
     |some ec=>
      rw[hc]at this;obtain⟨y1,y2⟩:=y;obtain⟨g1,g2,g3,g4⟩:=jL d bz e ec y1 y2 this bV.2;obtain⟨c1,c2⟩:=KR hc;exact⟨ec,c1,c2,g1,g2,g3⟩
    refine⟨?_,?_,by simp[cz,hu,Qv],(eq_of_beq bV.1.1).symm⟩
    ·simp only[Typed,hu];refine⟨by simp;omega,fun y hy=>?_⟩;simp only[zzbc]at hy;obtain⟨p,hp,rfl⟩:=hy;obtain⟨i,hi⟩:=zzcd.1 hp;obtain⟨ec,_,_,g1,_⟩:=Te i p hi;exact g1
    simp only[cz,hu];refine ak.cons ?_ ak.nil;have eu:((bN.map (·.1)).map (cz P d e)).length=len:=by simp[eF]
    have hz:P.cellsOf e≠0:=by simpa using bV.1.2
    have XO:((bN.map (·.1)).map (cz P d e))≠[]->a=⟨a.block,a.off,none⟩/\a.block<w.heap.size:=fun hn=>by
     cases helems:bN with
     |nil=>simp[helems]at hn
     |cons y ys=>
      obtain⟨ec,c1,c2,_,g2,_⟩:=Te 0 y (by simp[helems]);cases hec:ec with
      |nil=>rw[hec]at c1;exact absurd c1.symm hz
      |cons v vs=>
       have:=c2 0 v (by simp[hec]);simp only[zzhm,Addr.add,if_true]at this;unfold World.cell? at this;split at this
       ·rename_i hb;split at this
        ·cases this
        rename_i hs;refine⟨?_,aT hb⟩;cases a;simp at hs;simp[hs]
       cases this
    have oz:∀(i j:Nat)(c:AV),Qt ((bN.map (·.1)).map (cz P d e)) i j=some c->∃v,w.cell? ⟨a.block,a.off+i*P.cellsOf e+j,none⟩=some v/\aB w (G0 FF) c v/\Qv c=true:=fun i j c hc=>by
     have aK:((bN.map (·.1)).map (cz P d e))≠[]:=by rintro h0;rw[h0]at hc;simp[Qt]at hc
     obtain⟨ha,_⟩:=XO aK;unfold Qt at hc;cases hy:bN[i]? with
     |none=>simp[hy]at hc
     |some y=>
      simp[hy]at hc;obtain⟨ec,c1,c2,_,g2,g3⟩:=Te i y hy;have hj:j<ec.length:=by rw[<- g2.1];exact(zza.1 hc).1
      have hv:ec[j]?=some ec[j]:=zzad hj;refine⟨ec[j],?_,g2.2 j c _ hc hv,zzbh.1 g3 c (zzac hc)⟩;have:=c2 j _ hv;rw[ha,bw,bw]at this;exact this
    have:=aB.sl (w:=w) (γ:=G0 FF) (rt:=.nn) (rows:=(bN.map (·.1)).map (cz P d e)) (a:=some a) (cap:=cap) a.block a.off (P.cellsOf e) (fun i j=>(w.cell? ⟨a.block,a.off+i*P.cellsOf e+j,none⟩).getD undef)
     (by rw[eu];exact hlc) (fun h=>by cases h) (fun hn=>⟨by rw[<- (XO hn).1],(XO hn).2⟩) (fun row ah=>?_) (fun i j c hc=>?_) (fun i j c hc=>?_) (by simp[tL])
    ·rwa [eu]at this
    ·simp only[zzcz,zzbc]at ah;obtain⟨p,hp,rfl⟩:=ah;obtain⟨i,hi⟩:=zzcd.1 hp;obtain⟨ec',c1',_,_,g2',_⟩:=Te i p hi;have:=g2'.1;simp only[Function.comp];omega
    ·obtain⟨v,h1,h2,h3⟩:=oz i j c hc;rw[h1];exact⟨rfl,trivial,uw h2 h3⟩
    obtain⟨v,h1,h2,h3⟩:=oz i j c hc;rw[h1];exact h2
   |struct fs=>
    simp only[zzak,zzbh]at bV;obtain⟨aH,xs,rfl,hm⟩:=trod_struct hu h;obtain⟨hl,hg⟩:=Qdi _ _ _ hm
    have Te:∀(i:Nat)(f:Field)(y:DataW H×List MemPlace),fs.toList[i]?=some f->xs[i]?=some y->Typed P d f.type y.1/\ak w (G0 FF) (cz P d f.type y.1) ((cs.drop f.offset).take (P.cellsOf f.type))/\(cz P d f.type y.1).all Qv=true:=fun i f y hf hy=>by
     obtain⟨y1,y2⟩:=y;obtain⟨g1,g2,g3,_⟩:=jL d bz f.type _ y1 y2 (hg i f (y1,y2) hf hy) (bV.2 f (zzac hf));exact⟨g1,g2,g3⟩
    have arQ:∀p∈fs.toList.zip (xs.map (·.1)),∃(i:Nat)(f:Field)(y:DataW H×List MemPlace),fs.toList[i]?=some f/\xs[i]?=some y/\p=(f,y.1):=fun p hp=>by
     obtain⟨i,hi⟩:=zzcd.1 hp;rw[zzgl]at hi;obtain⟨h1,h2⟩:=hi;simp only[zzbm,zzcf]at h2;obtain⟨y,h2,h3⟩:=h2;exact⟨i,p.1,y,h1,h2,by rw[h3]⟩
    refine⟨?_,?_,?_,aH⟩
    ·simp only[Typed,hu];refine⟨by simpa using hl,fun p hp=>?_⟩;obtain⟨i,f,y,h1,h2,rfl⟩:=arQ p hp;exact(Te i f y h1 h2).1
    ·simp only[cz,hu];have aeY:=sD (P:=P) (cs:=cs) fs.toList 0 (P.cellsOf t) (eq_of_beq bV.1) aH.symm (zzbz _);rw[zzdb]at aeY
     have:ak w (G0 FF) ((fs.toList.zip (xs.map (·.1))).map fun p=>cz P d p.1.type p.2).flatten (fs.toList.map fun f=>(cs.drop f.offset).take (P.cellsOf f.type)).flatten:=by
      refine CU _ _ (by simp at hl |-;omega) fun i as vs h1 h2=>?_;simp only[zzbm,zzcf]at h1 h2;obtain⟨p,hp,rfl⟩:=h1;obtain⟨f,hf,rfl⟩:=h2;rw[zzgl]at hp;obtain⟨q1,q2⟩:=hp;rw[hf]at q1;simp only[zzbm,zzcf]at q2;obtain⟨y,hy,q2⟩:=q2;rw[<- Option.some.inj q1,<- q2];exact(Te i f y hf hy).2.1
     rw[aeY]at this;rwa [List.flatMap_def]
    simp only[cz,hu,zzbh,List.mem_flatMap];rintro v ⟨p,hp,hv⟩;obtain⟨i,f,y,h1,h2,rfl⟩:=arQ p hp;exact zzbh.1 (Te i f y h1 h2).2.2 v hv
   |array n e=>
    simp only[zzak]at bV;obtain⟨aH,xs,rfl,hm⟩:=trod_array hu h;obtain⟨hl,hg⟩:=Qdi _ _ _ hm;have eF:xs.length=n:=by simpa using hl
    have Te:∀(i:Nat)(y:DataW H×List MemPlace),xs[i]?=some y->Typed P d e y.1/\ak w (G0 FF) (cz P d e y.1) ((cs.drop (i*P.cellsOf e)).take (P.cellsOf e))/\(cz P d e y.1).all Qv=true:=fun i y hy=>by
     have hi:i<n:=by rw[<- eF];exact(zza.1 hy).1
     obtain⟨y1,y2⟩:=y;obtain⟨g1,g2,g3,_⟩:=jL d bz e _ y1 y2 (hg i i (y1,y2) (by simp[hi]) hy) bV.2;exact⟨g1,g2,g3⟩
    refine⟨?_,?_,?_,aH⟩
    ·simp only[Typed,hu];refine⟨by simpa using eF,fun y hy=>?_⟩;simp only[zzbc]at hy;obtain⟨p,hp,rfl⟩:=hy;obtain⟨i,hi⟩:=zzcd.1 hp;exact(Te i p hi).1
    ·simp only[cz,hu];have aeY:=KS (cs:=cs) (k:=P.cellsOf e) n (by rw[aH];exact eq_of_beq bV.1)
     have:ak w (G0 FF) ((xs.map (·.1)).map (cz P d e)).flatten ((List.range n).map fun i=>(cs.drop (i*P.cellsOf e)).take (P.cellsOf e)).flatten:=by
      refine CU _ _ (by simp[eF]) fun i as vs h1 h2=>?_;simp only[zzcz,zzbm,zzcf]at h1 h2;obtain⟨y,hy,rfl⟩:=h1;obtain⟨j,hj,rfl⟩:=h2;have hi:i<n:=by rw[<- eF];exact(zza.1 hy).1
      simp[hi]at hj;subst hj;exact(Te i y hy).2.1
     rw[aeY]at this;rwa [List.flatMap_def]
    simp only[cz,hu,zzbh,List.mem_flatMap,zzbc];rintro v ⟨y,⟨p,hp,rfl⟩,hv⟩;obtain⟨i,hi⟩:=zzcd.1 hp;exact zzbh.1 (Te i p hi).2.2 v hv
   |_=>simp at bV
def gV(P:Program)(d:Nat)(t:TypeId)(x:DataW H):AV:=if Uq P t then .agg (cz P d t x)else(cz P d t x).headD .junk
def aeZ{r:Reach}{b0:Nat}{t:TypeId}{v:Value}(cD:Value.okWide P w r b0 t v)(ha:Uq P t=false)(bV:∃d,XL P d t=true):v.cells.toList=[v]:=by
 unfold Value.okWide at cD;unfold Uq at ha;obtain⟨d,bV⟩:=bV;cases d with
 |zero=>cases bV
 |succ d=>
  unfold XL at bV;cases hu:P.underlying t with
  |none=>simp[hu]at bV
  |some desc=>
   rw[hu]at cD ha bV;cases desc<;>simp at ha bV cD
   all_goals
    unfold Cell.okWide at cD;rw[hu]at cD;cases v<;>first|rfl|(simp[Cell.ok,hu]at cD)
def ae0{d:Nat}{r:Reach}{b0:Nat}{t:TypeId}{v:Value}{x:DataW H}{ps:List MemPlace}(bV:XL P d t=true)(cD:Value.okWide P w r b0 t v)(h:DataW.Trod enc P w base sp held t v x ps):
  Typed P d t x/\aB w (G0 FF) (gV P d t x) v:=by
 obtain⟨bz,h⟩:=h;obtain⟨h1,h2,h3,h4⟩:=jL d bz t _ x ps h bV;refine⟨h1,?_⟩;unfold gV;cases ha:Uq P t with
 |true=>
  simp only[if_true];unfold Value.okWide at cD;unfold Uq at ha;split at ha
  ·rename_i hu;rw[hu]at cD;obtain⟨cs,rfl,_⟩:=cD;exact ak.P5 h2
  ·rename_i hu;rw[hu]at cD;obtain⟨cs,rfl,_⟩:=cD;exact ak.P5 h2
  cases ha
 |false=>
  simp only[zzbq,if_false];rw[aeZ cD ha ⟨d,bV⟩]at h2;cases hl:cz P d t x with
  |nil=>rw[hl]at h2;have:=h2.1;simp at this
  |cons a l=>rw[hl]at h2;exact h2.2 0 a v rfl rfl
def o6(P:Program)(d:Nat):List TypeId->List (DataW H)->Prop
 |[],[]=>True
 |t::ts,x::xs=>Typed P d t x/\o6 P d ts xs
 |_,_=>False
def CV(P:Program)(d:Nat):List TypeId->List (DataW H)->List AV
 |t::ts,x::xs=>gV P d t x::CV P d ts xs
 |_,_=>[]
def FG{d:Nat}{r:Reach}{b0:Nat}:∀{ts:List TypeId}{vs:List Value}{xs:List (DataW H)}{ps:List MemPlace},(∀t∈ts,XL P d t=true)->(∀(j:Nat)(t:TypeId)(v:Value),ts[j]?=some t->vs[j]?=some v->Value.okWide P w r b0 t v)->
  DataW.TrodAll enc P w base sp held ts vs xs ps->o6 P d ts xs/\ak w (G0 FF) (CV P d ts xs) vs
 |[],[],[],_,_,_,_=>⟨trivial,ak.nil⟩
 |[],_::_,_,_,_,_,h=>by cases h
 |[],[],_::_,_,_,_,h=>by cases h
 |_::_,[],_,_,_,_,h=>by cases h
 |_::_,_::_,[],_,_,_,h=>by cases h
 |t::ts,v::vs,x::xs,ps,bV,cD,h=>by
  obtain⟨p,q,h1,h2,_⟩:=h;obtain⟨g1,g2⟩:=ae0 (bV t (by simp)) (cD 0 t v rfl rfl) h1;obtain⟨k1,k2⟩:=FG (fun t ht=>bV t (by simp[ht])) (fun j t v h1 h2=>cD (j+1) t v (by simpa using h1) (by simpa using h2)) h2;exact⟨⟨g1,k1⟩,ak.cons g2 k2⟩
def mM{W W':World}(hl:laidOutB P=true)(hb:Below W.heap.size W W'){sp':Nat->Bool}:∀{ts:List TypeId}{vs:List Value}{xs:List (DataW H)}{ps:List MemPlace},(∀t∈ts,P.readableRec t=true/\t<P.types.size)->
  DataW.TrodAll enc P W 0 (fun _=>true) true ts vs xs ps->(∀p∈ps,p.block<W.heap.size/\sp' p.block=true)->DataW.TrodAll enc P W' 0 sp' true ts vs xs ps
 |[],[],[],_,_,h,_=>h
 |[],_::_,_,_,_,h,_=>by cases h
 |[],[],_::_,_,_,h,_=>by cases h
 |_::_,[],_,_,_,h,_=>by cases h
 |_::_,_::_,[],_,_,h,_=>by cases h
 |t::ts,v::vs,x::xs,ps,hr,h,hp=>by
  obtain⟨p,q,h1,h2,rfl⟩:=h;refine⟨p,q,WideElems.Trod_stays hl (hr t (by simp)).1 (hr t (by simp)).2 h1 (fun y hy=>hb.same (hp y (by simp[hy])).1) (fun y hy=>(hp y (by simp[hy])).2),mM hl hb (fun t ht=>hr t (by simp[ht])) h2 fun y hy=>hp y (by simp[hy]),rfl⟩
def CW{gl:Nat->AV}{fid:FuncId}{fn:Func}{s:ChangeSpec}{bt:TypeId}{d:Nat}(ajO:s.vars=[])(amo:fn.resultTypes=#[bt])(hbt:P.underlying bt=some .bool)(hl:laidOutB P=true)
  (hts:(fn.params.toList.all fun t=>XL P d t&&P.readableRec t&&decide (t<P.types.size))=true)(arR:∀ds:List (DataW H),ds.length=fn.params.size->(s.fn H ds).results=[.lit (.bool true)]/\(s.fn H ds).args=ds/\(s.fn H ds).vars=[])
  {W:World}{args:Array Value}{ds gs:List (DataW H)}{before:List MemPlace}{r:Reach}{b0:Nat}(lT:∀g,aB W (G0 FF) (gl g) (.pointer (some ⟨g,0,none⟩)))
  (cD:∀(j:Nat)(t:TypeId)(v:Value),fn.params[j]?=some t->args[j]?=some v->Value.okWide P W r b0 t v)
  (hW:DataW.Whole enc P fn.params.toList s.vars false W args.toList ds gs before)
  (hp:o6 P d fn.params.toList ds->Pure P gl fid (CV P d fn.params.toList ds) (.bool true)):
  Calls P fid args W fun e W'=>∃v,e=.returned v/\s.post enc P fn false true false false W args v W':=by
 have hW':=hW;obtain⟨p,q,hA,hV,rfl,hfz,we⟩:=hW;rw[ajO]at hV;obtain⟨rfl,rfl⟩:=ChangeShapes.trodVars_none hV;simp only[zzbh,zzak,decide_eq_true_eq]at hts;obtain⟨h1,h2⟩:=FG (fun t ht=>(hts t ht).1.1) (fun j t v q1 q2=>cD j t v (by simpa using q1) (by simpa using q2)) hA
 have aH:ds.length=fn.params.size:=by
  have:∀{ts:List TypeId}{vs:List Value}{xs:List (DataW H)}{ps:List MemPlace},DataW.TrodAll enc P W 0 (fun _=>true) true ts vs xs ps->xs.length=ts.length:=by
   intro ts;induction ts with
   |nil=>intro vs xs ps h;cases vs<;>cases xs<;>first|rfl|cases h
   |cons t ts ih=>
    intro vs xs ps h;cases vs<;>cases xs<;>first|(cases h;done)|skip
    obtain⟨_,_,_,h,_⟩:=h;simp[ih h]
  simpa using this hA
 obtain⟨k1,k2,k3⟩:=arR ds aH;have ai:∀x∈p,x.block<W.heap.size:=fun x hx=>hW'.lt x (by simp[hx]);refine((hp h1).2 FF W args.toList lT h2).mono ?_;rintro e W' ⟨v,rfl,hb,hr⟩;obtain rfl:=hr.bA;refine⟨_,rfl,ds,[],p++[],[],p,[],hW',?_,?_,?_,World.keptBut_mono (fun x hx=>⟨hx,?_⟩) (hb.frame (·∈p++[])),fun h=>by cases h⟩
 ·rw[amo,zzat,k1];exact⟨[],[],shut_bool hbt true,rfl,rfl⟩
 ·rw[zzat,k2];exact mM hl hb (fun t ht=>⟨(hts t ht).1.2,(hts t ht).2⟩) hA fun x hx=>⟨ai x hx,by simpa using ai x hx⟩
 ·rw[ajO,zzat,k3];rfl
 simp at hx;exact .inr (.inl hx)
end
open Go
section
variable (P:Program) (gl:Nat->AV) (orc:Nat->FuncId->List AV->AV) (Y:YT) (l2:List SO) (K:AS->Prop) (m:AM) (ms q:List (AV×AM)) (mc:AM) (r:List SO) (fl:List Fg) (T:List AV) (o:SO) (x:AV×AM)
@[simp] def amq(d:Option Nat)(op:aD)(xs:List bL):Yb T ⟨d,op,none,xs⟩=True:=nd rfl
@[simp] def amr(d:Option Nat)(op:aD)(t:Nat)(b:Bool)(xs:List bL):Yb T ⟨d,op,some (some t,b),xs⟩=(T.getD t .junk=.bool b):=nd rfl
@[simp] def avK:uB P gl orc Y l2 K m ms [] fl q mc T=(q=[]/\Zx P gl orc Y l2 ⟨T,mc⟩ K):=nd (by simp only[uB])
@[simp] def arS:uB P gl orc Y l2 K m ms (o::r) (.eff::fl) (x::q) mc T=(Yb T o/\effC P gl orc Y (ev gl T) mc o.dst x.1 x.2 o.op/\uB P gl orc Y l2 K m ms r fl q x.2 (put T o.dst x.1)):=nd (by simp only[uB])
@[simp] def avL:uB P gl orc Y l2 K m ms (o::r) (.pre::fl) q mc T=(Yb T o/\(rop P gl orc (ev gl T) m o.dst o.op).1/\uB P gl orc Y l2 K m ms r fl q mc (put T o.dst (rop P gl orc (ev gl T) m o.dst o.op).2)):=nd (by simp only[uB])
@[simp] def aoJ:uB P gl orc Y l2 K m ms (o::r) (.oth::fl) q mc T=(Yb T o/\(rop P gl orc (ev gl T) m o.dst o.op).1/\(∀x∈ms,rop P gl orc (ev gl T) x.2 o.dst o.op=rop P gl orc (ev gl T) m o.dst o.op)/\uB P gl orc Y l2 K m ms r fl q mc (put T o.dst (rop P gl orc (ev gl T) m o.dst o.op).2)):=nd (by simp only[uB])
def Qbn{P:Program}{gl:Nat->AV}{orc:Nat->FuncId->List AV->AV}{Y:YT}{fl:List Fg}{l l2:List SO}{s:AS}{Q:Exit->AS->Prop}(ms:List (AV×AM))(h:uB P gl orc Y l2 (Q .normal) s.m ms l fl ms s.m s.T):vc P gl orc Y (.drawE fl l l2) s Q:=.inr (.inl ⟨ms,h⟩)
@[simp] def avM:k6 P gl orc Y l2 K m ms [] fl q mc T=(q=[]/\Zx P gl orc Y l2 ⟨T,mc⟩ K):=nd (by simp only[k6])
@[simp] def arT:k6 P gl orc Y l2 K m ms (o::r) (.eff::fl) (x::q) mc T=(Yb T o/\effC P gl orc Y (ev gl T) mc o.dst x.1 x.2 o.op/\k6 P gl orc Y l2 K m ms r fl q x.2 (put T o.dst x.1)):=nd (by simp only[k6])
@[simp] def avN:k6 P gl orc Y l2 K m ms (o::r) (.pre::fl) q mc T=(Yb T o/\(rop P gl orc (ev gl T) m o.dst o.op).1/\k6 P gl orc Y l2 K m ms r fl q mc (put T o.dst (rop P gl orc (ev gl T) m o.dst o.op).2)):=nd (by simp only[k6])
@[simp] def avO:k6 P gl orc Y l2 K m ms (o::r) (.oth::fl) q mc T=(Yb T o/\(((rop P gl orc (ev gl T) m o.dst o.op).1/\∀x∈ms,rop P gl orc (ev gl T) x.2 o.dst o.op=rop P gl orc (ev gl T) m o.dst o.op)\/(rdC P gl orc Y (ev gl T) m o.dst m o.op/\∀x∈ms,rdC P gl orc Y (ev gl T) m o.dst x.2 o.op))/\k6 P gl orc Y l2 K m ms r fl q mc (put T o.dst (rop P gl orc (ev gl T) m o.dst o.op).2)):=nd (by simp only[k6,aqT])
variable (R:AV->AM->Prop)
@[simp] def avP:iB P gl orc Y R l2 K m ms [] fl q mc T=(q=[]/\Zx P gl orc Y l2 ⟨T,mc⟩ K):=nd (by simp only[iB])
@[simp] def arU:iB P gl orc Y R l2 K m ms (o::r) (.eff::fl) [x] mc T=(Yb T o/\effR P gl Y (ev gl T) mc R o.op/\iB P gl orc Y R l2 K m ms r fl [] x.2 (put T o.dst x.1)):=nd (by simp only[iB];simp)
@[simp] def arV(y:AV×AM):iB P gl orc Y R l2 K m ms (o::r) (.eff::fl) (x::y::q) mc T=(Yb T o/\effC P gl orc Y (ev gl T) mc o.dst x.1 x.2 o.op/\iB P gl orc Y R l2 K m ms r fl (y::q) x.2 (put T o.dst x.1)):=nd (by simp only[iB];simp)
@[simp] def avQ:iB P gl orc Y R l2 K m ms (o::r) (.pre::fl) q mc T=(Yb T o/\(rop P gl orc (ev gl T) m o.dst o.op).1/\iB P gl orc Y R l2 K m ms r fl q mc (put T o.dst (rop P gl orc (ev gl T) m o.dst o.op).2)):=nd (by simp only[iB])
@[simp] def aoK:iB P gl orc Y R l2 K m ms (o::r) (.oth::fl) q mc T=(Yb T o/\(rop P gl orc (ev gl T) m o.dst o.op).1/\(∀x∈ms,rop P gl orc (ev gl T) x.2 o.dst o.op=rop P gl orc (ev gl T) m o.dst o.op)/\iB P gl orc Y R l2 K m ms r fl q mc (put T o.dst (rop P gl orc (ev gl T) m o.dst o.op).2)):=nd (by simp only[iB])
@[simp] def aoL:Zj P gl orc m [] fl q T=[]:=nd (by simp only[Zj])
@[simp] def aoM:Zj P gl orc m (o::r) (.eff::fl) (x::q) T=Zj P gl orc m r fl q (put T o.dst x.1):=nd (by simp only[Zj])
@[simp] def ams:Zj P gl orc m (o::r) (.pre::fl) [] T=(rop P gl orc (ev gl T) m o.dst o.op).2::Zj P gl orc m r fl [] (put T o.dst (rop P gl orc (ev gl T) m o.dst o.op).2):=nd (by simp only[Zj])
@[simp] def aoN:Zj P gl orc m (o::r) (.pre::fl) (x::q) T=Zj P gl orc m r fl (x::q) (put T o.dst (rop P gl orc (ev gl T) m o.dst o.op).2):=nd (by simp only[Zj])
@[simp] def amt:Zj P gl orc m (o::r) (.oth::fl) [] T=(rop P gl orc (ev gl T) m o.dst o.op).2::Zj P gl orc m r fl [] (put T o.dst (rop P gl orc (ev gl T) m o.dst o.op).2):=nd (by simp only[Zj])
@[simp] def aoO:Zj P gl orc m (o::r) (.oth::fl) (x::q) T=Zj P gl orc m r fl (x::q) (put T o.dst (rop P gl orc (ev gl T) m o.dst o.op).2):=nd (by simp only[Zj])
def FH{P:Program}{gl:Nat->AV}{orc:Nat->FuncId->List AV->AV}{Y:YT}{fl:List Fg}{l l2:List SO}{s:AS}{Q:Exit->AS->Prop}(ms:List (AV×AM))(R:AV->AM->Prop)(Vs:List AV)(hR:∃x:AV×AM,R x.1 x.2)
  (h:∀v m',R v m'->iB P gl orc Y R l2 (Q .normal) s.m (ms++[(v,m')]) l fl (ms++[(v,m')]) s.m s.T/\Zj P gl orc s.m l fl (ms++[(v,m')]) s.T=Vs):vc P gl orc Y (.drawE fl l l2) s Q:=.inr (.inr (.inr (.inl ⟨ms,R,Vs,hR,fun x hx=>h x.1 x.2 hx⟩)))
def XP{P:Program}{gl:Nat->AV}{orc:Nat->FuncId->List AV->AV}{Y:YT}{fl:List Fg}{l l2:List SO}{s:AS}{Q:Exit->AS->Prop}(hb:aeH fl l=true)(ms:List (AV×AM))(R:AV->AM->Prop)(hR:∃x:AV×AM,R x.1 x.2)
  (h:∀v m',R v m'->iB P gl orc Y R l2 (Q .normal) s.m (ms++[(v,m')]) l fl (ms++[(v,m')]) s.m s.T):vc P gl orc Y (.drawE fl l l2) s Q:=.inr (.inr (.inl ⟨hb,ms,R,hR,fun x hx=>h x.1 x.2 hx⟩))
def me(P:Program)(gl:Nat->AV)(orc:Nat->FuncId->List AV->AV)(m:AM):List SO->List Fg->AM->List AV->List (AV×AM)
 |o::r,.eff::fl,mc,T=>(effV (sop P gl orc (ev gl T) mc o.dst o.op).2.1 o.op,(sop P gl orc (ev gl T) mc o.dst o.op).2.2)::me P gl orc m r fl (sop P gl orc (ev gl T) mc o.dst o.op).2.2 (put T o.dst (effV (sop P gl orc (ev gl T) mc o.dst o.op).2.1 o.op))
 |o::r,.pre::fl,mc,T=>me P gl orc m r fl mc (put T o.dst (rop P gl orc (ev gl T) m o.dst o.op).2)
 |o::r,.oth::fl,mc,T=>me P gl orc m r fl mc (put T o.dst (rop P gl orc (ev gl T) m o.dst o.op).2)
 |_,_,_,_=>[]
@[simp] def arW:me P gl orc m [] fl mc T=[]:=nd (by simp only[me])
@[simp] def aoP:me P gl orc m (o::r) (.eff::fl) mc T=(effV (sop P gl orc (ev gl T) mc o.dst o.op).2.1 o.op,(sop P gl orc (ev gl T) mc o.dst o.op).2.2)::me P gl orc m r fl (sop P gl orc (ev gl T) mc o.dst o.op).2.2 (put T o.dst (effV (sop P gl orc (ev gl T) mc o.dst o.op).2.1 o.op)):=nd (by simp only[me])
@[simp] def arX:me P gl orc m (o::r) (.pre::fl) mc T=me P gl orc m r fl mc (put T o.dst (rop P gl orc (ev gl T) m o.dst o.op).2):=nd (by simp only[me])
@[simp] def amu:me P gl orc m (o::r) (.oth::fl) mc T=me P gl orc m r fl mc (put T o.dst (rop P gl orc (ev gl T) m o.dst o.op).2):=nd (by simp only[me])
def Xy{P:Program}{gl:Nat->AV}{orc:Nat->FuncId->List AV->AV}{Y:YT}{fl:List Fg}{l l2:List SO}{s:AS}{Q:Exit->AS->Prop}(h:uB P gl orc Y l2 (Q .normal) s.m (me P gl orc s.m l fl s.m s.T) l fl (me P gl orc s.m l fl s.m s.T) s.m s.T):vc P gl orc Y (.drawE fl l l2) s Q:=.inr (.inl ⟨_,h⟩)
end
attribute [simp] effC memEff effV effR rdC
end Go.Abs
