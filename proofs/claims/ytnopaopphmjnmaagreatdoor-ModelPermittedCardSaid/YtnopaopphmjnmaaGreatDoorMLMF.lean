import Derived.Test.YtnopaopphmjnmaaGreatDoorMLME
import Derived.ProofKit
import Derived.OpenShut
import Derived.OpenVars
set_option linter.all false
namespace Go.Abs
open Go Go.RowKit
def nd{α:Type}{a b:α}(h:a=b):a=b:=h
section
variable (P:Program) (gl:Nat->AV) (orc:Nat->FuncId->List AV->AV) (Y:YT) (s:AS) (Q:Exit->AS->Prop)
@[simp] def au3:vc P gl orc Y .skip s Q=Q .normal s:=nd rfl
@[simp] def av4(l:List SO):vc P gl orc Y (.ops l) s Q=Zx P gl orc Y l s (Q .normal):=nd rfl
@[simp] def av5(a b:SC):vc P gl orc Y (.seq a b) s Q=vc P gl orc Y a s (W7 (vc P gl orc Y b) Q):=nd rfl
def aeL(x:bK)(a b:SC):vc P gl orc Y (.cond x a b) s Q=match ev gl s.T x with|.bool t=>(t=true->vc P gl orc Y a s Q)/\(t=false->vc P gl orc Y b s Q)|_=>False:=nd rfl
@[simp] def aq3(x:bK)(a b:SC):vc P gl orc Y (.cond x a b) s Q=match ev gl s.T x with|.bool t=>(if t=true then vc P gl orc Y a s Q else vc P gl orc Y b s Q)|_=>False:=by
 rw[aeL];cases ev gl s.T x<;>try rfl
 rename_i t;cases t<;>simp
@[simp] def aq4(id:Nat)(c:SC):vc P gl orc Y (.block id c) s Q=vc P gl orc Y c s (qV id Q):=nd rfl
@[simp] def au4(id:Nat):vc P gl orc Y (.exit id) s Q=Q (.exit id) s:=nd rfl
@[simp] def aq5(c:SC):vc P gl orc Y (.scope c) s Q=vc P gl orc Y c s (wH Q):=nd rfl
@[simp] def av6:vc P gl orc Y .ret s Q=Q .ret s:=nd rfl
@[simp] def av7:vc P gl orc Y .bad s Q=False:=nd rfl
def aeM{c:SC}(I:AS->Prop)(μ:AS->Nat)(h0:I s)(hr:∀s',I s'->vc P gl orc Y c s' (nD I μ s' Q)):vc P gl orc Y (.loop c) s Q:=⟨I,μ,h0,hr⟩
variable (k:AS->(Exit->AS->Prop)->Prop) (id id':Nat) (I:AS->Prop) (μ:AS->Nat) (s0:AS)
@[simp] def aju:W7 k Q .normal s=k s Q:=nd rfl
@[simp] def aod:W7 k Q (.exit id) s=Q (.exit id) s:=nd rfl
@[simp] def aq6:W7 k Q .ret s=Q .ret s:=nd rfl
@[simp] def abI:qV id Q .normal s=Q .normal s:=nd rfl
@[simp] def ajv:qV id Q (.exit id') s=if id'=id then Q .normal s else Q (.exit id') s:=nd rfl
@[simp] def alW:qV id Q .ret s=Q .ret s:=nd rfl
@[simp] def abJ:wH Q .normal s=Q .normal s:=nd rfl
@[simp] def ajw:wH Q (.exit id) s=Q (.exit id) s:=nd rfl
@[simp] def alX:wH Q .ret s=Q .ret s:=nd rfl
@[simp] def abK:nD I μ s0 Q .normal s=(I s/\μ s<μ s0):=nd rfl
@[simp] def ajx:nD I μ s0 Q (.exit id) s=Q (.exit id) s:=nd rfl
@[simp] def alY:nD I μ s0 Q .ret s=Q .ret s:=nd rfl
end
@[simp] def au5(P:Program)(gl:Nat->AV)(orc:Nat->FuncId->List AV->AV)(Y:YT)(s:AS)(Q:Exit->AS->Prop)(l l2:List SO):vc P gl orc Y (.draw l l2) s Q=vcD P gl orc Y l2 (Q .normal) l s.T s.m []:=nd rfl
def alZ(T:List AV)(f:Nat->AV):List Nat->List AV
 |[]=>T
 |i::W=>alZ (T.set i (f i)) f W
def CP(T:List AV)(W:List Nat)(R:(Nat->AV)->AM->Prop)(μ:(Nat->AV)->AM->Nat)(f:Nat->AV)(m:AM)(Q:Exit->AS->Prop):Exit->AS->Prop
 |.normal,s'=>s'.T=alZ T (fun i=>s'.T.getD i .junk) W/\R (fun i=>s'.T.getD i .junk) s'.m/\μ (fun i=>s'.T.getD i .junk) s'.m<μ f m
 |ex,s'=>Q ex s'
section
variable (T:List AV) (W:List Nat) (R:(Nat->AV)->AM->Prop) (μ:(Nat->AV)->AM->Nat) (f:Nat->AV) (m:AM) (Q:Exit->AS->Prop) (s:AS) (id:Nat)
@[simp] def XJ:CP T W R μ f m Q .normal s=(s.T=alZ T (fun i=>s.T.getD i .junk) W/\R (fun i=>s.T.getD i .junk) s.m/\μ (fun i=>s.T.getD i .junk) s.m<μ f m):=nd rfl
@[simp] def aeN:CP T W R μ f m Q (.exit id) s=Q (.exit id) s:=nd rfl
@[simp] def ajy:CP T W R μ f m Q .ret s=Q .ret s:=nd rfl
end
def nth(l:List AV)(n:Nat):AV:=l.getD n .junk
def Qh(l:List (List AV))(n:Nat):List AV:=l.getD n []
@[simp high] theorem Qbl(l:List AV)(n:Nat):l.getD n .junk=nth l n:=rfl
@[simp high] theorem Vn(l:List (List AV))(n:Nat):l.getD n []=Qh l n:=rfl
@[simp] theorem au6(n:Nat):nth [] n=.junk:=rfl
@[simp] theorem aq7(a:AV)(l:List AV):nth (a::l) 0=a:=rfl
@[simp] theorem aq8(a:AV)(l:List AV)(n:Nat):nth (a::l) (n+1)=nth l n:=rfl
@[simp] theorem aq9(n:Nat):Qh [] n=[]:=rfl
@[simp] theorem aoe(a:List AV)(l:List (List AV)):Qh (a::l) 0=a:=rfl
@[simp] theorem aof(a:List AV)(l:List (List AV))(n:Nat):Qh (a::l) (n+1)=Qh l n:=rfl
@[simp] def Fu(l l':List (List AV)):Qh (l++l') l.length=Qh l' 0:=by simp[Qh,zzar,-Vn,zzal]
@[simp] def Vj(l l':List (List AV))(k:Nat):Qh (l++l') (l.length+k)=Qh l' k:=by simp[Qh,zzar,-Vn,zzal]
@[simp] def au7(l l':List (List AV))(x:List AV):(l++l').set l.length x=l++l'.set 0 x:=by simp[zzcs]
@[simp] def ajz(l l':List (List AV))(k:Nat)(x:List AV):(l++l').set (l.length+k) x=l++l'.set k x:=by simp[zzcs]
def Qs{l:List (List AV)}{n:Nat}{x:List AV}(h:l[n]?=some x):Qh l n=x:=by simp[Qh,zzar,-Vn,h]
def al0{l:List AV}{n:Nat}{x:AV}(h:l[n]?=some x):nth l n=x:=by simp[nth,zzar,-Qbl,h]
def numOf:AV->Int
 |.int _ n=>n
 |_=>0
@[simp] theorem aog(k:IntKind)(n:Int):numOf (.int k n)=n:=rfl
@[simp] theorem ajA:VU .full=true:=rfl
@[simp] theorem al1:VU .nil=true:=rfl
@[simp] theorem aoh:VU .ro=false:=rfl
@[simp] theorem aoi:VU .nn=false:=rfl
@[simp] theorem al2(i s:Nat):VU (.own i s)=false:=rfl
@[simp] theorem al3(sz:Nat)(l:List AV):aV sz 0 l=[]:=rfl
@[simp] theorem wK(sz n:Nat)(l:List AV):aV sz (n+1) l=l.take sz::aV sz n (l.drop sz):=rfl
@[simp] theorem al4:Wh []=some []:=rfl
@[simp] def ajB(n:Int)(r:List (List AV)):Wh ([.int .u8 n]::r)=(match Wh r with|some l=>some (UInt8.ofNat n.toNat::l)|_=>none):=by
 simp only[Wh,byteOf];cases Wh r<;>rfl
@[simp] theorem ara(b:Bool):asB (.bool b)=some (true,b):=rfl
@[simp] theorem arb(b:Bool):isB (.bool b)=true:=rfl
@[simp] theorem arc(b:Bool):bOf (.bool b)=b:=rfl
@[simp] theorem au8(a:AV):asB (.gd false a)=some (false,bOf a):=rfl
@[simp] theorem au9(a:AV):asB (.gd true a)=some (isB a,bOf a):=rfl
@[simp] def av8(g b:Bool):asB (.gd g (.bool b))=some (g,b):=by cases g<;>rfl
@[simp] theorem ard(want g:Bool):Iw want (.bool g)=some (g==want):=rfl
@[simp] theorem av9(want d b:Bool):Iw want (.gd d (.bool b))=some (d&&(b==want)):=rfl
@[simp] def ava(want:Bool)(a:AV):Iw want (.gd false a)=some false:=by cases a<;>rfl
@[simp] theorem avb(gl:Nat->AV)(T:List AV)(t:Nat):evS gl T (.tmp t)=strip (nth T t):=rfl
@[simp] theorem aoj(gl:Nat->AV)(T:List AV)(a:AV):evS gl T (.const a)=strip a:=rfl
@[simp] theorem are(gl:Nat->AV)(T:List AV)(f:FuncId):evS gl T (.func f)=.fn f [] []:=rfl
@[simp] theorem arf(gl:Nat->AV)(T:List AV)(g:Nat):evS gl T (.glob g)=strip (gl g):=rfl
section
variable (P:Program) (gl:Nat->AV) (orc:Nat->FuncId->List AV->AV) (Y:YT) (K:AS->Prop) (r:List SO) (T:List AV) (m:AM) (d:Option Nat) (op:aD) (xs:List bK) (s:AS)
@[simp] def aok:Zx P gl orc Y [] s K=K s:=nd rfl
@[simp] def al5:Zx P gl orc Y (⟨d,op,none,xs⟩::r) s K=(if effy orc (ev gl s.T) s.m d op=true then Qbu P gl Y (ev gl s.T) s.m (fun av m'=>Zx P gl orc Y r ⟨put s.T d av,m'⟩ K) op
   else(sop P gl orc (ev gl s.T) s.m d op).1/\Zx P gl orc Y r ⟨put s.T d (sop P gl orc (ev gl s.T) s.m d op).2.1,(sop P gl orc (ev gl s.T) s.m d op).2.2⟩ K):=nd rfl
@[simp] def al6(t:Nat)(want:Bool):Zx P gl orc Y (⟨d,op,some (some t,want),xs⟩::r) s K=(match Iw want (s.T.getD t .junk)with
   |some gw=>gok gl s.T gw (gxs op xs)/\
     if effy orc (evG gl s.T op) s.m d op=true then
      (gw=true->Qbu P gl Y (evG gl s.T op) s.m (fun av m'=>Zx P gl orc Y r ⟨put s.T d (.gd true av),m'⟩ K) op)/\(gw=false->Zx P gl orc Y r ⟨put s.T d (.gd false (.bool false)),s.m⟩ K)
     else(gw=true->(rop P gl orc (evG gl s.T op) s.m d op).1)/\
      Zx P gl orc Y r ⟨put s.T d (.gd gw (rop P gl orc (evG gl s.T op) s.m d op).2),s.m⟩ K
   |none=>False):=nd rfl
variable (l2:List SO) (nb:List (List AV)) (o:SO)
@[simp] def avc:vcD P gl orc Y l2 K [] T m nb=Zx P gl orc Y l2 ⟨T,{m with boxes:=m.boxes++nb}⟩ K:=nd rfl
@[simp] def arh:vcD P gl orc Y l2 K (o::r) T m nb=((dop P gl orc o T m nb).1/\vcD P gl orc Y l2 K r (put T o.dst (dop P gl orc o T m nb).2.1) m (dop P gl orc o T m nb).2.2):=nd rfl
end
attribute [simp] rawOp evG gxs effy Qbu callV dop ev Km oneOf strip gok setA fillA sop rop binV binI binS binBool Ya kindF eqF Qcm eqFs loOf hiOf lenS cellsS mutO vcNxt keyA intsA keyAV
def qW(n:Nat)(a:AV):bG n [a]=List.replicate n a:=by
 induction n with
 |zero=>rfl
 |succ n ih=>rw[bG,ih];rfl
@[simp] theorem ajC(P:Program)(gl:Nat->AV)(orc:Nat->FuncId->List AV->AV)(rs:List aD)(r:AV)(s:AS):post P gl orc rs r .normal s=((Km P gl orc s rs).1/\bF s.m 6 (oneOf (Km P gl orc s rs).2)=r):=rfl
@[simp] theorem ari(P:Program)(gl:Nat->AV)(orc:Nat->FuncId->List AV->AV)(rs:List aD)(r:AV)(s:AS):post P gl orc rs r .ret s=((Km P gl orc s rs).1/\bF s.m 6 (oneOf (Km P gl orc s rs).2)=r):=rfl
@[simp] theorem aeO(P:Program)(gl:Nat->AV)(orc:Nat->FuncId->List AV->AV)(rs:List aD)(K:AV->AM->Prop)(s:AS):wJ P gl orc rs K .normal s=((Km P gl orc s rs).1/\K (oneOf (Km P gl orc s rs).2) s.m):=rfl
@[simp] theorem aol(P:Program)(gl:Nat->AV)(orc:Nat->FuncId->List AV->AV)(rs:List aD)(K:AV->AM->Prop)(s:AS):wJ P gl orc rs K .ret s=((Km P gl orc s rs).1/\K (oneOf (Km P gl orc s rs).2) s.m):=rfl
section
variable (m:AM) (d:Nat)
@[simp] theorem ajD(b:Bool):Qv (.bool b)=true:=rfl
@[simp] theorem al7(k:IntKind)(n:Int):Qv (.int k n)=true:=rfl
@[simp] theorem al8(s:ByteArray):Qv (.str s)=true:=rfl
@[simp] theorem aom(rt:Rt)(r:List (List AV)):Qv (.sl rt r)=true:=rfl
@[simp] theorem aon(r:List AV)(o:Nat):Qv (.ep r o)=true:=rfl
@[simp] theorem al9(i o:Nat):Qv (.ptr i o)=true:=rfl
@[simp] theorem aoo(i o n z:Nat):Qv (.bs i o n z)=true:=rfl
@[simp] theorem aop(f:FuncId)(a b:List AV):Qv (.fn f a b)=true:=rfl
@[simp] theorem ajE(p:Bool):Qv (.nilv p)=true:=rfl
@[simp] theorem aeP:Qv .nilfn=true:=rfl
@[simp] theorem ama(l:Nat):Qv (.yld l)=true:=rfl
@[simp] theorem aoq(i:Nat):Qv (.mp i)=true:=rfl
@[simp] theorem aor(i:Nat):Qv (.it i)=true:=rfl
@[simp] theorem ajF(k:Nat)(l:List (List Int×AV)):Qv (.aJ k l)=false:=rfl
@[simp] theorem ajG(i n:Nat)(l:List Nat):Qv (.mitr i n l)=false:=rfl
@[simp] theorem ajH:Qv .junk=false:=rfl
@[simp] theorem amb(cs:List AV):Qv (.agg cs)=false:=rfl
@[simp] theorem amc(cs:List AV):Qv (.aW cs)=false:=rfl
@[simp] theorem aos(g:Bool)(a:AV):Qv (.gd g a)=false:=rfl
@[simp] theorem aot(b:Bool):bare (.bool b)=true:=rfl
@[simp] theorem arj(k:IntKind)(n:Int):bare (.int k n)=true:=rfl
@[simp] theorem ark(s:ByteArray):bare (.str s)=true:=rfl
@[simp] theorem avd(rt:Rt)(r:List (List AV)):bare (.sl rt r)=true:=rfl
@[simp] theorem ave(r:List AV)(o:Nat):bare (.ep r o)=true:=rfl
@[simp] theorem arl(i o:Nat):bare (.ptr i o)=true:=rfl
@[simp] theorem avf(i o n z:Nat):bare (.bs i o n z)=true:=rfl
@[simp] theorem avg(f:FuncId)(a b:List AV):bare (.fn f a b)=true:=rfl
@[simp] theorem aou(p:Bool):bare (.nilv p)=true:=rfl
@[simp] theorem amd:bare .nilfn=true:=rfl
@[simp] theorem arn(l:Nat):bare (.yld l)=true:=rfl
@[simp] theorem avh(i:Nat):bare (.mp i)=true:=rfl
@[simp] theorem avi(i:Nat):bare (.it i)=true:=rfl
@[simp] theorem aov(k:Nat)(l:List (List Int×AV)):bare (.aJ k l)=false:=rfl
@[simp] theorem aow(i n:Nat)(l:List Nat):bare (.mitr i n l)=false:=rfl
@[simp] theorem aro(cs:List AV):bare (.agg cs)=true:=rfl
@[simp] theorem aox:bare .junk=false:=rfl
@[simp] theorem arp(cs:List AV):bare (.aW cs)=false:=rfl
@[simp] theorem avj(g:Bool)(a:AV):bare (.gd g a)=false:=rfl
@[simp] theorem aeQ(b:Bool):cellsOf (.bool b)=[.bool b]:=rfl
@[simp] theorem ajI(k:IntKind)(n:Int):cellsOf (.int k n)=[.int k n]:=rfl
@[simp] theorem ajJ(s:ByteArray):cellsOf (.str s)=[.str s]:=rfl
@[simp] theorem ame(rt:Rt)(r:List (List AV)):cellsOf (.sl rt r)=[.sl rt r]:=rfl
@[simp] theorem amf(r:List AV)(o:Nat):cellsOf (.ep r o)=[.ep r o]:=rfl
@[simp] theorem ajK(i o:Nat):cellsOf (.ptr i o)=[.ptr i o]:=rfl
@[simp] theorem amg(i o n z:Nat):cellsOf (.bs i o n z)=[.bs i o n z]:=rfl
@[simp] theorem amh(f:FuncId)(a b:List AV):cellsOf (.fn f a b)=[.fn f a b]:=rfl
@[simp] theorem aeR(p:Bool):cellsOf (.nilv p)=[.nilv p]:=rfl
@[simp] theorem abL:cellsOf .nilfn=[.nilfn]:=rfl
@[simp] theorem ajL(l:Nat):cellsOf (.yld l)=[.yld l]:=rfl
@[simp] theorem ami(i:Nat):cellsOf (.mp i)=[.mp i]:=rfl
@[simp] theorem amj(i:Nat):cellsOf (.it i)=[.it i]:=rfl
@[simp] theorem ajM(cs:List AV):cellsOf (.agg cs)=cs:=rfl
@[simp] theorem arq(b:Bool):bF m (d+1) (.bool b)=.bool b:=rfl
@[simp] theorem avk(k:IntKind)(n:Int):bF m (d+1) (.int k n)=.int k n:=rfl
@[simp] theorem avl(s:ByteArray):bF m (d+1) (.str s)=.str s:=rfl
@[simp] theorem ars(p:Bool):bF m (d+1) (.nilv p)=.nilv p:=rfl
@[simp] theorem aoy:bF m (d+1) .nilfn=.nilfn:=rfl
@[simp] theorem avm(l:Nat):bF m (d+1) (.yld l)=.junk:=rfl
@[simp] theorem awa(i:Nat):bF m (d+1) (.mp i)=.junk:=rfl
@[simp] theorem awb(i:Nat):bF m (d+1) (.it i)=.junk:=rfl
@[simp] theorem art:bF m (d+1) .junk=.junk:=rfl
@[simp] theorem avn(cs:List AV):bF m (d+1) (.agg cs)=.agg (cs.map (bF m d)):=rfl
@[simp] theorem avo(cs:List AV):bF m (d+1) (.aW cs)=.aW (cs.map (bF m d)):=rfl
@[simp] theorem awc(f:FuncId)(a b:List AV):bF m (d+1) (.fn f a b)=.fn f (a.map (bF m d)) (b.map (bF m d)):=rfl
@[simp] theorem awd(r:List (List AV)):bF m (d+1) (.sl .ro r)=.sl .ro r:=rfl
@[simp] theorem aru(r:List (List AV)):bF m (d+1) (.sl .full r)=.sl .full r:=rfl
@[simp] theorem avp(r:List (List AV)):bF m (d+1) (.sl .nil r)=.sl .nil r:=rfl
@[simp] theorem awe(r:List (List AV)):bF m (d+1) (.sl .nn r)=.sl .nn r:=rfl
@[simp] theorem avq(i s:Nat)(r:List (List AV)):bF m (d+1) (.sl (.own i s) r)=.sl .ro r:=rfl
@[simp] theorem awf(r:List AV)(o:Nat):bF m (d+1) (.ep r o)=.ep r o:=rfl
@[simp] def XK(i o n z:Nat):bF m (d+1) (.bs i o n z)=if o+n*z<=(m.boxes.getD i []).length then .sl .ro (aV z n (((m.boxes.getD i []).map (bF m d)).drop o))else .junk:=by
 simp only[bF];cases h:Nat.ble (o+n*z) (m.boxes.getD i []).length with
 |true=>rw[if_pos (zzhl h)];rfl
 |false=>rw[if_neg (fun h'=>by rw[Nat.ble_eq_true_of_le h']at h;cases h)];rfl
@[simp] theorem o6(i o:Nat):bF m (d+1) (.ptr i o)=.ep ((m.boxes.getD i []).map (bF m d)) o:=rfl
@[simp] theorem aoz(b:Bool):Yj (d+1) (.bool b)=false:=rfl
@[simp] theorem arw(k:IntKind)(n:Int):Yj (d+1) (.int k n)=false:=rfl
@[simp] theorem arx(s:ByteArray):Yj (d+1) (.str s)=false:=rfl
@[simp] theorem aoA(p:Bool):Yj (d+1) (.nilv p)=false:=rfl
@[simp] theorem amk:Yj (d+1) .nilfn=false:=rfl
@[simp] theorem ary(l:Nat):Yj (d+1) (.yld l)=false:=rfl
@[simp] theorem avr(i:Nat):Yj (d+1) (.mp i)=false:=rfl
@[simp] theorem avt(i:Nat):Yj (d+1) (.it i)=false:=rfl
@[simp] theorem aoB:Yj (d+1) .junk=false:=rfl
@[simp] theorem arz(cs:List AV):Yj (d+1) (.agg cs)=cs.any (Yj d):=rfl
@[simp] theorem arA(cs:List AV):Yj (d+1) (.aW cs)=cs.any (Yj d):=rfl
@[simp] theorem avu(f:FuncId)(a b:List AV):Yj (d+1) (.fn f a b)=(a.any (Yj d)||b.any (Yj d)):=rfl
@[simp] theorem avv(rt:Rt)(r:List (List AV)):Yj (d+1) (.sl rt r)=false:=rfl
@[simp] theorem avw(r:List AV)(o:Nat):Yj (d+1) (.ep r o)=false:=rfl
@[simp] theorem avx(i o n z:Nat):Yj (d+1) (.bs i o n z)=true:=rfl
@[simp] theorem arB(i o:Nat):Yj (d+1) (.ptr i o)=true:=rfl
@[simp] theorem aoC(b:Bool):flat (.bool b)=true:=rfl
@[simp] theorem arC(k:IntKind)(n:Int):flat (.int k n)=true:=rfl
@[simp] theorem arD(s:ByteArray):flat (.str s)=true:=rfl
@[simp] theorem aml(b:Bool):iV (.bool b)=true:=rfl
@[simp] theorem aoD(k:IntKind)(n:Int):iV (.int k n)=true:=rfl
@[simp] theorem aoE(s:ByteArray):iV (.str s)=true:=rfl
@[simp] theorem arE(cs:List AV):flat (.aW cs)=cs.all iV:=rfl
end
def Fv:AV->Bool
 |.bool _|.int _ _|.str _|.sl .ro _|.sl .full _|.sl .nil _|.sl .nn _|.nilfn|.ep _ _=>true
 |_=>false
@[simp] theorem arF(b:Bool):Fv (.bool b)=true:=rfl
@[simp] theorem avy(k:IntKind)(n:Int):Fv (.int k n)=true:=rfl
@[simp] theorem avz(s:ByteArray):Fv (.str s)=true:=rfl
@[simp] theorem awg(r:List (List AV)):Fv (.sl .ro r)=true:=rfl
@[simp] theorem arG(r:List (List AV)):Fv (.sl .full r)=true:=rfl
@[simp] theorem avA(r:List (List AV)):Fv (.sl .nil r)=true:=rfl
@[simp] theorem awh(r:List (List AV)):Fv (.sl .nn r)=true:=rfl
@[simp] theorem awi(r:List AV)(o:Nat):Fv (.ep r o)=true:=rfl
def N6(m:AM)(d:Nat){a:AV}(h:Fv a=true):bF m (d+1) a=a:=by
 cases a<;>simp[Fv]at h |-
 rename_i rt rows;cases rt<;>simp at h |-
def Zg(row:List AV):Bool:=row.all Fv
def Zk(m:AM)(d:Nat){row:List AV}(h:Zg row=true):row.map (bF m (d+1))=row:=by
 have:row.map (bF m (d+1))=row.map id:=zzd fun a ha=>N6 m d (zzbh.1 h a ha);rw[this,List.map_id]
def Qk{n:Int}(h1: -9223372036854775808<=n)(h2:n<=9223372036854775807):IntKind.i64.wrap n=n:=by
 rw[IntKind.wrap_i64];omega
def bJ(i:Nat)(h:i<1000000000000000000):IntKind.i64.wrap ((i:Int)+1)=((i+1:Nat):Int):=by rw[Qk]<;>omega
def aS{α:Type}{l:List α}{i:Nat}(h:i<l.length):∃x,l[i]?=some x:=⟨_,zzac h⟩
@[simp] theorem Ue(m:AM)(l:Nat)(x:LS):(m.at_ l x).boxes=m.boxes:=rfl
@[simp] theorem CQ(m:AM)(l:Nat)(x:LS):(m.at_ l x).lens=m.lens:=rfl
@[simp] theorem ajN(m:AM)(l:Nat)(x:LS):(m.at_ l x).st=qq m.st l x:=rfl
@[simp] def ax7(m:AM)(l:Nat)(x y:LS):(m.at_ l x).at_ l y=m.at_ l y:=by
 simp only[AM.at_];congr 1;funext i;simp only[qq];split<;>rfl
@[simp] def arH(st:Nat->LS)(l:Nat)(x:LS):qq st l x l=x:=by simp[qq]
@[simp] def avB(st:Nat->LS)(l:Nat)(x y:LS):qq (qq st l x) l y=qq st l y:=by funext i;simp only[qq];split<;>rfl
def fF(m m':AM):Prop:=(∃bx,m'.boxes=m.boxes++bx)/\(∃lx,m'.lens=m.lens++lx)/\∀l,m.st l≠.gone->m'.st l=m.st l
def fF.refl(m:AM):fF m m:=⟨⟨[],by simp⟩,⟨[],by simp⟩,fun _ _=>rfl⟩
def fF.trans{m m' lQ:AM}(h:fF m m')(k:fF m' lQ):fF m lQ:=by
 obtain⟨⟨b,h1⟩,⟨c,h2⟩,h3⟩:=h;obtain⟨⟨b',k1⟩,⟨c',k2⟩,k3⟩:=k;exact⟨⟨b++b',by rw[k1,h1,zzaw]⟩,⟨c++c',by rw[k2,h2,zzaw]⟩,fun l hl=>by rw[k3 l (by rw[h3 l hl];exact hl),h3 l hl]⟩
def fF.box(m:AM)(b:List (List AV)):fF m {m with boxes:=m.boxes++b}:=⟨⟨b,rfl⟩,⟨[],by simp⟩,fun _ _=>rfl⟩
def fF.gone{m m':AM}(h:fF m m')(l:Nat):fF (m.at_ l .gone) (m'.at_ l .gone):=
 ⟨h.1,h.2.1,fun l' ey=>by
  by_cases e:l'=l
  ·subst e;simp at ey
  simp only[ajN,qq,e,if_false]at ey |-;exact h.2.2 l' ey⟩
def wL(y:List AV->AM->(Bool->AM->Prop)->Prop)(K:AM->Prop):List (List AV)->AM->Prop
 |[],m=>∀m',fF m m'->K m'
 |x::xs,m=>∀m',fF m m'->∀K':Bool->AM->Prop,(∀lQ,wL y K xs lQ->K' true lQ)->(∀lQ,(∀m3,fF lQ m3->K m3)->K' false lQ)->y x m' K'
def wL.ext{y:List AV->AM->(Bool->AM->Prop)->Prop}{K:AM->Prop}{xs:List (List AV)}{m m':AM}(h:wL y K xs m)(e:fF m m'):wL y K xs m':=by
 cases xs with
 |nil=>exact fun m2 e2=>h m2 (e.trans e2)
 |cons x xs=>exact fun m2 e2=>h m2 (e.trans e2)
def Iter(P:Program)(gl:Nat->AV)(f:FuncId)(first cap:List AV)(xs:List (List AV)):Prop:=
 ∀(Y:YT)(l:Nat)(m:AM)(K:AM->Prop),wL (Y l) K xs m->an P gl Y f (first++[.yld l]++cap) m fun _ m'=>K m'
def jm{P:Program}{gl:Nat->AV}{orc:Nat->FuncId->List AV->AV}{Y:YT}{s:AS}{Q:Exit->AS->Prop}{g:bK}{ps:List Nat}{lT body:SC}{f:FuncId}{first cap:List AV}{xs:List (List AV)}
  (hg:ev gl s.T g=.fn f first cap)(cm:Iter P gl f first cap xs)(aH:∀x∈xs,x.length=ps.length)(I:Nat->AM->Prop)(X:Exit->AM->Prop)(h0:I 0 s.m)
  (hI:∀i m m',I i m->fF m m'->I i m')(hX:∀ex m m',X ex m->fF m m'->X ex m')
  (
   hb:∀(l i:Nat)(m:AM)(x:List AV),s.m.st l=.gone->m.st l=.ready->I i (m.at_ l .gone)->xs[i]?=some x->∀K':Exit->AS->Prop,
   (∀s',I (i+1) (s'.m.at_ l .gone)->K' .normal s')->(∀s',X .ret (s'.m.at_ l .gone)->K' .ret s')->(∀id s',X (.exit id) (s'.m.at_ l .gone)->K' (.exit id) s')->
   vc P gl orc Y lT ⟨Qam s.T ps x,m⟩ (Fm l fun s'=>vc P gl orc Y body s' K'))
  (KC:∀m,I xs.length m->Q .normal ⟨s.T,m⟩)(hex:∀ex m,X ex m->Q ex ⟨s.T,m⟩):vc P gl orc Y (.rfunc g ps lT body) s Q:=by
 simp only[vc,hg];intro hl;generalize dg:s.m.ln=l at hl;refine cm _ l s.m.aY (fun m'=>zA l s.T m' Q (m'.st l)) ?_;have fB:∀{m m':AM},m.st l=.ready->fF m m'->m'.st l=.ready:=fun h e=>by rw[e.2.2 l (by rw[h];simp),h]
 have key:∀(n i:Nat)(m:AM),i+n=xs.length->I i (m.at_ l .gone)->m.st l=.ready->wL (Yin Y l ps.length (fun args m K=>vc P gl orc Y lT ⟨Qam s.T ps args,m⟩ (Fm l fun s'=>vc P gl orc Y body s' (KA l K))) l) (fun m'=>zA l s.T m' Q (m'.st l)) (xs.drop i) m:=by
  intro n;induction n with
  |zero=>
   intro i m hi XL hm;rw[zzam (by omega)];intro m' e;simp only[fB hm e,zA];obtain rfl:i=xs.length:=by omega
   exact KC _ (hI _ _ _ XL (e.gone l))
  |succ n ih=>
   intro i m hi XL hm;have ai:i<xs.length:=by omega
   rw[zzaf ai];intro m' e K' hT hF;simp only[Yin,if_true];refine⟨fB hm e,aH _ (zzdi ai),?_⟩;refine hb l i m' xs[i] hl (fB hm e) (hI _ _ _ XL (e.gone l)) (zzac ai) (KA l K') (fun s' zw=>?_) (fun s' hQ=>?_) fun id s' hQ=>?_
   ·refine hT _ (ih (i+1) _ (by omega) ?_ (by simp));simpa using zw
   ·refine hF _ fun m3 e3=>?_;have h3:m3.st l=.done .ret:=by have:=e3.2.2 l (by simp);simpa using this
    simp only[h3];exact hex _ _ (hX _ _ _ hQ (by have:=e3.gone l;simpa using this))
   refine hF _ fun m3 e3=>?_;have h3:m3.st l=.done (.exit id):=by have:=e3.2.2 l (by simp);simpa using this
   simp only[h3];exact hex _ _ (hX _ _ _ hQ (by have:=e3.gone l;simpa using this))
 have:=key xs.length 0 s.m.aY (by simp) (hI 0 s.m _ h0 ⟨⟨[],by simp[AM.aY]⟩,⟨[],by simp[AM.aY]⟩,fun l' ey=>by
  have:l'≠l:=by rintro rfl;exact ey hl
  simp[AM.aY,dg,qq,this]⟩) (by simp[AM.aY,dg])
 simpa using this
attribute [simp] Qam
section
variable (l:Nat) (k:AS->Prop) (s:AS) (id:Nat)
@[simp] def ajO:Fm l k .normal s=(s.m.st l=.ready/\k ⟨s.T,s.m.at_ l .busy⟩):=nd rfl
end
open Go Go.RowKit
def look:List (Nat×AV)->Nat->AV
 |[],_=>.junk
 |(d,v)::r,t=>if d=t then v else look r t
def Zf(n:Nat)(E:List (Nat×AV)):List AV:=(List.range n).map (look E)
def sB:Nat->List AV->List (Nat×AV)
 |_,[]=>[]
 |i,a::r=>(i,a)::sB (i+1) r
@[simp] theorem Kw(d:Nat)(v:AV)(r:List (Nat×AV))(t:Nat):look ((d,v)::r) t=if d=t then v else look r t:=rfl
@[simp] theorem look_nil(t:Nat):look [] t=.junk:=rfl
@[simp] theorem aoF(i:Nat):sB i []=[]:=rfl
@[simp] theorem KD(i:Nat)(a:AV)(r:List AV):sB i (a::r)=(i,a)::sB (i+1) r:=rfl
@[simp] def aeS{n t:Nat}{E:List (Nat×AV)}(h:t<n):nth (Zf n E) t=look E t:=by
 simp[nth,Zf,zzar,-Qbl,h]
def Zj{n d:Nat}{E:List (Nat×AV)}(h:d<n)(v:AV):(Zf n E).set d v=Zf n ((d,v)::E):=by
 apply zzed (by simp[Zf]);intro i h1 h2;rw[List.getElem_set];simp[Zf]
@[simp] def avC{n d:Nat}{E:List (Nat×AV)}(h:d<n)(v:AV):put (Zf n E) (some d) v=Zf n ((d,v)::E):=Zj h v
@[simp] theorem arI(T:List AV)(v:AV):put T none v=T:=rfl
@[simp] def aoG{n d:Nat}{E:List (Nat×AV)}(h:d<n)(ps:List Nat)(x:AV)(xs:List AV):Qam (Zf n E) (d::ps) (x::xs)=Qam (Zf n ((d,x)::E)) ps xs:=by
 rw[Qam,Zj h]
def wM:∀(l:List AV)(i t:Nat),look (sB i l) t=if i<=t then l.getD (t-i) .junk else .junk
 |[],i,t=>by simp[-Qbl]
 |a::r,i,t=>by
  rw[KD,Kw,wM r (i+1) t];by_cases h:i=t
  ·subst h;simp[-Qbl]
  rw[if_neg h];by_cases h':i<=t
  ·rw[if_pos (by omega),if_pos h',show t-i=(t-(i+1))+1 by omega];simp[-Qbl]
  rw[if_neg (by omega),if_neg h']
def AU{n:Nat}{l:List AV}(h:l.length<=n):l++List.replicate (n-l.length) .junk=Zf n (sB 0 l):=by
 apply zzed
 ·simp[Zf];omega
 intro i h1 h2;simp only[Zf,List.getElem_map,List.getElem_range,wM,zzcc,if_true,zzfg];rw[List.getElem_append];split
 ·rename_i hi;simp[zzar,-Qbl,hi]
 rename_i hi;simp[zzar,-Qbl,hi]
section
variable {P:Program} {gl:Nat->AV} {Y:YT}
def Qn{f:FuncId}{sc:SC}{rs:List aD}{n:Nat}(hc:dh P f sc rs n)(orc:Nat->FuncId->List AV->AV){l:List AV}{r:AV}(hn:l.length<=n)
  (h:vc P gl orc Y0 sc ⟨Zf n (sB 0 l),⟨[],[],fun _=>.gone,0⟩⟩ (post P gl orc rs r)):Pure P gl f l r:=aeK hc orc (by rw[AU hn];exact h)
def Xe{f:FuncId}{sc:SC}{rs:List aD}{n:Nat}(hc:dh P f sc rs n)(orc:Nat->FuncId->List AV->AV){l:List AV}{m:AM}{K:AV->AM->Prop}(hn:l.length<=n)
  (h:vc P gl orc Y sc ⟨Zf n (sB 0 l),m⟩ (wJ P gl orc rs K)):an P gl Y f l m K:=XI hc orc (by rw[AU hn];exact h)
end
def fc(W:List Nat)(E' E:List (Nat×AV)):Prop:=∀t,W.contains t=false->look E' t=look E t
def Qc(W:List Nat)(E:List (Nat×AV)):fc W E E:=fun _ _=>rfl
def Qa{W:List Nat}{E' E:List (Nat×AV)}{k:Nat}(v:AV)(hk:W.contains k=true)(h:fc W E' E):fc W ((k,v)::E') E:=fun t ht=>by
 rw[Kw,if_neg (by rintro rfl;rw[hk]at ht;cases ht)];exact h t ht
def kX(n:Nat)(E:List (Nat×AV))(W:List Nat)(R:(Nat->AV)->AM->Prop)(μ:(Nat->AV)->AM->Nat)(f:Nat->AV)(m:AM)(Q:Exit->AS->Prop):Exit->AS->Prop
 |.normal,s'=>(∃E',s'.T=Zf n E'/\fc W E' E)/\R (nth s'.T) s'.m/\μ (nth s'.T) s'.m<μ f m
 |ex,s'=>Q ex s'
def Qcf(f:Nat->AV):List Nat->List (Nat×AV)->List (Nat×AV)
 |[],E=>E
 |i::W,E=>(i,f i)::Qcf f W E
@[simp] theorem amm(f:Nat->AV)(E:List (Nat×AV)):Qcf f [] E=E:=rfl
@[simp] theorem Fw(f:Nat->AV)(i:Nat)(W:List Nat)(E:List (Nat×AV)):Qcf f (i::W) E=(i,f i)::Qcf f W E:=rfl
def jo(f:Nat->AV)(E:List (Nat×AV))(t:Nat):∀W,look (Qcf f W E) t=if W.contains t then f t else look E t
 |[]=>by simp
 |i::W=>by
  rw[Fw,Kw,jo f E t W];by_cases h:i=t
  ·subst h;simp
  have h':t≠i:=Ne.symm h;simp[h,h']
def CR(f:Nat->AV)(W:List Nat)(E:List (Nat×AV)):fc W (Qcf f W E) E:=fun t ht=>by rw[jo,ht];rfl
def aeT{n:Nat}{E E':List (Nat×AV)}(h:∀t,t<n->look E t=look E' t):Zf n E=Zf n E':=zzd fun t ht=>h t (zzbf.1 ht)
def AW{n:Nat}{W:List Nat}{E:List (Nat×AV)}{T:List AV}:(∃E',T=Zf n E'/\fc W E' E)<->T=Zf n (Qcf (nth T) W E):=by
 constructor
 ·rintro⟨E',rfl,h⟩;refine aeT fun t ht=>?_;rw[jo];cases hc:W.contains t with
  |true=>simp only[if_true];rw[aeS ht]
  |false=>simp only[zzbq,if_false];exact h t hc
 exact fun h=>⟨_,h,CR _ _ _⟩
def Qi{P:Program}{gl:Nat->AV}{orc:Nat->FuncId->List AV->AV}{Y:YT}{n:Nat}{E:List (Nat×AV)}{m0:AM}{Q:Exit->AS->Prop}{c:SC}(W:List Nat)(R:(Nat->AV)->AM->Prop)(μ:(Nat->AV)->AM->Nat)
  (h0:R (nth (Zf n E)) m0)(hr:∀f m,R f m->vc P gl orc Y c ⟨Zf n (Qcf f W E),m⟩ (kX n E W R μ f m Q)):vc P gl orc Y (.loop c) ⟨Zf n E,m0⟩ Q:=by
 refine aeM P gl orc Y ⟨Zf n E,m0⟩ Q (fun s'=>s'.T=Zf n (Qcf (nth s'.T) W E)/\R (nth s'.T) s'.m) (fun s'=>μ (nth s'.T) s'.m) ⟨AW.1 ⟨E,rfl,Qc _ _⟩,h0⟩ ?_;rintro⟨T',m'⟩ ⟨h1,h2⟩;have:=hr _ m' h2;rw[<- h1]at this
 have e:kX n E W R μ (nth T') m' Q=nD (fun s'=>s'.T=Zf n (Qcf (nth s'.T) W E)/\R (nth s'.T) s'.m) (fun s'=>μ (nth s'.T) s'.m) ⟨T',m'⟩ Q:=by
  funext ex s';cases ex<;>simp[kX,nD,and_assoc,AW]
 rwa [e]at this
section
variable (n:Nat) (E:List (Nat×AV)) (W:List Nat) (R:(Nat->AV)->AM->Prop) (μ:(Nat->AV)->AM->Nat) (f:Nat->AV) (m:AM) (Q:Exit->AS->Prop) (s:AS) (id:Nat)
@[simp] theorem XM:kX n E W R μ f m Q .normal s=((∃E',s.T=Zf n E'/\fc W E' E)/\R (nth s.T) s.m/\μ (nth s.T) s.m<μ f m):=rfl
@[simp] theorem aeU:kX n E W R μ f m Q (.exit id) s=Q (.exit id) s:=rfl
@[simp] theorem ajP:kX n E W R μ f m Q .ret s=Q .ret s:=rfl
end
def ag{n:Nat}{E' E:List (Nat×AV)}{W:List Nat}(h:fc W E' E):∃E1,Zf n E'=Zf n E1/\fc W E1 E:=⟨E',rfl,h⟩
def aO{n:Nat}{E' E:List (Nat×AV)}{W:List Nat}(h:fc W E' E:=by repeat(first|exact Qc _ _|refine Qa _ rfl ?_)):∃E1,Zf n E'=Zf n E1/\fc W E1 E:=ag h
open Go Go.RowKit
def jq(P:Program):List Field->Nat->Option Nat
 |[],n=>some n
 |f::r,n=>if f.offset=n then jq P r (n+P.cellsOf f.type)else none
def XN(P:Program):Nat->TypeId->Bool
 |0,_=>false
 |d+1,t=>match P.underlying t with
  |some .bool|some (.int _)|some .string=>P.cellsOf t==1
  |some (.slice e)=>((P.cellsOf t==1)&&!(P.cellsOf e==0))&&XN P d e
  |some (.struct fs)=>(jq P fs.toList 0==some (P.cellsOf t))&&fs.toList.all fun f=>XN P d f.type
  |some (.array n e)=>(P.cellsOf t==n*P.cellsOf e)&&XN P d e
  |_=>false
def cz{H:Type}(P:Program):Nat->TypeId->DataW H->List AV
 |0,_,_=>[]
 |d+1,t,x=>match P.underlying t,x with
  |some .bool,.lit (.bool b)=>[.bool b]
  |some (.int _),.lit (.int k n)=>[.int k n]
  |some .string,.lit (.string s)=>[.str ⟨s.toArray⟩]
  |some (.slice _),.nil=>[.sl .nil []]
  |some (.slice e),.slice bM _=>[.sl .nn (bM.map (cz P d e))]
  |some (.struct fs),.agg parts=>(fs.toList.zip parts).flatMap fun p=>cz P d p.1.type p.2
  |some (.array _ e),.agg parts=>parts.flatMap (cz P d e)
  |_,_=>[]
def Typed{H:Type}(P:Program):Nat->TypeId->DataW H->Prop
 |0,_,_=>False
 |d+1,t,x=>match P.underlying t,x with
  |some .bool,.lit (.bool _)=>True
  |some (.int k),.lit (.int k' n)=>k'=k/\(Lit.int k n).wf=true
  |some .string,.lit (.string s)=>s.length<=maxLen
  |some (.slice _),.nil=>True
  |some (.slice e),.slice bM _=>bM.length<=maxLen/\∀y∈bM,Typed P d e y
  |some (.struct fs),.agg parts=>parts.length=fs.size/\∀p∈fs.toList.zip parts,Typed P d p.1.type p.2
  |some (.array n e),.agg parts=>parts.length=n/\∀y∈parts,Typed P d e y
  |_,_=>False
def Fx:Nat->Nat->Prop:=fun _ _=>True
section
variable {H:Type} {enc:TypeId×Value->H} {P:Program} {w:World} {base:Nat} {sp:Nat->Bool} {held:Bool}
def KE{a:Addr}{n:Nat}{cs:List Value}(h:w.cells? base a n=some cs):cs.length=n/\∀(j:Nat)(v:Value),cs[j]?=some v->w.cell? (a.add j)=some v:=by
 unfold World.cells? at h;split at h
 ·obtain⟨h1,h2⟩:=Qcy _ _ _ h;refine⟨by simpa using h1,fun j v hj=>?_⟩
  have ai:j<n:=by
   have:=(zza.1 hj).1;simp at h1;omega
  exact h2 j j v (by simp[ai]) hj
 cases h
def CS{γ:G}:∀(l:List (List AV))(XO:List (List Value)),l.length=XO.length->(∀(i:Nat)(as:List AV)(vs:List Value),l[i]?=some as->XO[i]?=some vs->ak w γ as vs)->ak w γ l.flatten XO.flatten
 |[],[],_,_=>ak.nil
 |[],_::_,h,_=>by simp at h
 |_::_,[],h,_=>by simp at h
 |as::l,vs::XO,h,hr=>by
  rw[zzcl,zzcl];exact(hr 0 as vs rfl rfl).append (CS l XO (by simpa using h) fun i as vs h1 h2=>hr (i+1) as vs (by simpa using h1) (by simpa using h2))
def sC{cs:List Value}:∀(fs:List Field)(n m:Nat),jq P fs n=some m->m=cs.length->n<=cs.length->(fs.map fun f=>(cs.drop f.offset).take (P.cellsOf f.type)).flatten=cs.drop n
 |[],n,m,h,hm,hn=>by simp[jq]at h;subst h;subst hm;simp
 |f::fs,n,m,h,hm,hn=>by
  simp only[jq]at h;split at h
  ·rename_i ho;subst ho
   have ck:∀(fs:List Field)(n m:Nat),jq P fs n=some m->n<=m:=by
    intro fs;induction fs with
    |nil=>intro n m h;simp[jq]at h;omega
    |cons f fs ih=>
     intro n m h;simp only[jq]at h;split at h
     ·have:=ih _ _ h;omega
     cases h
   have h1:=ck _ _ _ h;have ih:=sC fs _ m h hm (by omega);rw[zzaz,zzcl,ih];rw[<- zzds,zzdb]
  cases h
def KF{cs:List Value}{k:Nat}:∀(n:Nat),cs.length=n*k->((List.range n).map fun i=>(cs.drop (i*k)).take k).flatten=cs:=by
 intro n hn
 have key:∀m,m<=n->((List.range m).map fun i=>(cs.drop (i*k)).take k).flatten=cs.take (m*k):=by
  intro m;induction m with
  |zero=>simp
  |succ m ih=>
   intro hm;rw[zzfb,zzc,zzeg,ih (by omega)];simp only[zzaz,zzcf,zzcl,List.flatten_nil,zzau];rw[zzbp,zzdl,List.take_add]
 rw[key n (zzab _),<- hn,zzbs]
def trod_bool{t:TypeId}{bz:Nat}{cs:List Value}{x:DataW H}{ps:List MemPlace}(hu:P.underlying t=some .bool)(h:DataW.trod enc P w base sp held (bz+1) t cs=some (x,ps)):∃b,cs=[.bool b]/\x=.lit (.bool b):=by
 unfold DataW.trod at h;rw[hu]at h;obtain _|⟨v,_|⟨_,_⟩⟩:=cs
 ·cases h
 ·cases v<;>first|(cases h;done)|(cases h;exact⟨_,rfl,rfl⟩)
 cases v<;>first|(cases h;done)|(simp at h;done)
def trod_int{t:TypeId}{k:IntKind}{bz:Nat}{cs:List Value}{x:DataW H}{ps:List MemPlace}(hu:P.underlying t=some (.int k))(h:DataW.trod enc P w base sp held (bz+1) t cs=some (x,ps)):∃n,cs=[.int k n]/\x=.lit (.int k n)/\(Lit.int k n).wf=true:=by
 unfold DataW.trod at h;rw[hu]at h;obtain _|⟨v,_|⟨_,_⟩⟩:=cs
 ·cases h
 ·cases v<;>first|(cases h;done)|skip
  simp only at h;split at h
  ·rename_i hk;cases h;rw[hk.1];exact⟨_,rfl,rfl,hk.2⟩
  cases h
 cases v<;>first|(cases h;done)|(simp at h;done)
def XP{t:TypeId}{bz:Nat}{cs:List Value}{x:DataW H}{ps:List MemPlace}(hu:P.underlying t=some .string)(h:DataW.trod enc P w base sp held (bz+1) t cs=some (x,ps)):∃s,cs=[.string s]/\x=.lit (.string s.data.toList)/\s.size<=maxLen:=by
 unfold DataW.trod at h;rw[hu]at h;obtain _|⟨v,_|⟨_,_⟩⟩:=cs
 ·cases h
 ·cases v<;>first|(cases h;done)|skip
  simp only at h;split at h
  ·rename_i hk;cases h;exact⟨_,rfl,rfl,hk⟩
  cases h
 cases v<;>first|(cases h;done)|(simp at h;done)
def aeV{t e:TypeId}{bz:Nat}{cs:List Value}{x:DataW H}{ps:List MemPlace}(hu:P.underlying t=some (.slice e))(h:DataW.trod enc P w base sp held (bz+1) t cs=some (x,ps)):
  (
   cs=[.slice none 0 0]/\x=.nil)\/∃a len cap bM rest,cs=[.slice (some a) len cap]/\len<=cap/\cap<=maxLen/\x=.slice (bM.map (·.1)) rest/\
   (List.range len).mapM (fun i=>(w.cells? base (a.add (i*P.cellsOf e)) (P.cellsOf e)).bind (DataW.trod enc P w base sp held bz e))=some bM:=by
 unfold DataW.trod at h;rw[hu]at h;obtain _|⟨v,_|⟨_,_⟩⟩:=cs
 ·cases h
 ·cases v<;>first|(cases h;done)|skip
  rename_i a len cap;cases a with
  |none=>cases len<;>cases cap<;>first|(cases h;done)|(cases h;exact .inl ⟨rfl,rfl⟩)
  |some a=>
   simp only at h;split at h
   case isFalse=>cases h
   rename_i hc;cases hm:(List.range len).mapM (fun i=>(w.cells? base (a.add (i*P.cellsOf e)) (P.cellsOf e)).bind (DataW.trod enc P w base sp held bz e))with
   |none=>rw[hm]at h;cases h
   |some bM=>
    rw[hm]at h;simp only[zzcg,zzce]at h;obtain⟨rest,_,h2⟩:=h;cases h2;exact .inr ⟨a,len,cap,bM,_,rfl,hc.2.1,hc.2.2,rfl,hm⟩
 cases v<;>first|(cases h;done)|skip
 rename_i a len cap;cases a with
 |none=>cases len<;>cases cap<;>first|(cases h;done)|(simp at h;done)
 |some a=>first|(cases h;done)|(simp at h;done)
def trod_struct{t:TypeId}{fs:Array Field}{bz:Nat}{cs:List Value}{x:DataW H}{ps:List MemPlace}(hu:P.underlying t=some (.struct fs))(h:DataW.trod enc P w base sp held (bz+1) t cs=some (x,ps)):
  cs.length=P.cellsOf t/\∃xs,x=.agg (xs.map (·.1))/\fs.toList.mapM (fun f=>DataW.trod enc P w base sp held bz f.type ((cs.drop f.offset).take (P.cellsOf f.type)))=some xs:=by
 unfold DataW.trod at h;rw[hu]at h;simp only at h;split at h
 case isFalse=>cases h
 rename_i hc;simp only[zzce]at h;obtain⟨xs,h1,h2⟩:=h;cases h2;exact⟨hc,xs,rfl,h1⟩
def trod_array{t e:TypeId}{n:Nat}{bz:Nat}{cs:List Value}{x:DataW H}{ps:List MemPlace}(hu:P.underlying t=some (.array n e))(h:DataW.trod enc P w base sp held (bz+1) t cs=some (x,ps)):
  cs.length=P.cellsOf t/\∃xs,x=.agg (xs.map (·.1))/\(List.range n).mapM (fun i=>DataW.trod enc P w base sp held bz e ((cs.drop (i*P.cellsOf e)).take (P.cellsOf e)))=some xs:=by
 unfold DataW.trod at h;rw[hu]at h;simp only at h;split at h
 case isFalse=>cases h
 rename_i hc;simp only[zzce]at h;obtain⟨xs,h1,h2⟩:=h;cases h2;exact⟨hc,xs,rfl,h1⟩
def jr:∀(d bz:Nat)(t:TypeId)(cs:List Value)(x:DataW H)(ps:List MemPlace),DataW.trod enc P w base sp held bz t cs=some (x,ps)->XN P d t=true->
  Typed P d t x/\ak w (G0 Fx) (cz P d t x) cs/\(cz P d t x).all Qv=true/\cs.length=P.cellsOf t
 |0,_,_,_,_,_,_,h=>by cases h
 |d+1,0,_,_,_,_,h,_=>by cases h
 |d+1,bz+1,t,cs,x,ps,h,bQ=>by
  unfold XN at bQ;cases hu:P.underlying t with
  |none=>simp[hu]at bQ
  |some desc=>
   rw[hu]at bQ;cases desc with
   |bool=>
    obtain⟨b,rfl,rfl⟩:=trod_bool hu h;exact⟨by simp[Typed,hu],by simp only[cz,hu];exact ak.cons (.bool b) ak.nil,by simp[cz,hu,Qv],(eq_of_beq bQ).symm⟩
   |int k=>
    obtain⟨n,rfl,rfl,hw⟩:=trod_int hu h;exact⟨by simp[Typed,hu,hw],by simp only[cz,hu];exact ak.cons (.int k n) ak.nil,by simp[cz,hu,Qv],(eq_of_beq bQ).symm⟩
   |string=>
    obtain⟨s,rfl,rfl,hw⟩:=XP hu h;refine⟨by simpa[Typed,hu]using hw,?_,by simp[cz,hu,Qv],(eq_of_beq bQ).symm⟩;simp only[cz,hu];have:(⟨s.data.toList.toArray⟩:ByteArray)=s:=by cases s;simp
    rw[this];exact ak.cons (.str s) ak.nil
   |slice e=>
    simp only[zzak]at bQ;rcases aeV hu h with⟨rfl,rfl⟩|⟨a,len,cap,bM,rest,rfl,hlc,hcm,rfl,hm⟩
    ·exact⟨by simp[Typed,hu],by simp only[cz,hu];exact ak.cons Co ak.nil,by simp[cz,hu,Qv],(eq_of_beq bQ.1.1).symm⟩
    obtain⟨hl,hg⟩:=Qcy _ _ _ hm;have ey:bM.length=len:=by simpa using hl
    have Tj:∀(i:Nat)(y:DataW H×List MemPlace),bM[i]?=some y->∃ec,ec.length=P.cellsOf e/\(∀(j:Nat)(v:Value),ec[j]?=some v->w.cell? ((a.add (i*P.cellsOf e)).add j)=some v)/\Typed P d e y.1/\ak w (G0 Fx) (cz P d e y.1) ec/\(cz P d e y.1).all Qv=true:=fun i y hy=>by
     have hi:i<len:=by rw[<- ey];exact(zza.1 hy).1
     have:=hg i i y (by simp[hi]) hy;cases hc:w.cells? base (a.add (i*P.cellsOf e)) (P.cellsOf e)with
     |none=>rw[hc]at this;cases this
     |some ec=>
      rw[hc]at this;obtain⟨y1,y2⟩:=y;obtain⟨g1,g2,g3,g4⟩:=jr d bz e ec y1 y2 this bQ.2;obtain⟨c1,c2⟩:=KE hc;exact⟨ec,c1,c2,g1,g2,g3⟩
    refine⟨?_,?_,by simp[cz,hu,Qv],(eq_of_beq bQ.1.1).symm⟩
    ·simp only[Typed,hu];refine⟨by simp;omega,fun y hy=>?_⟩;simp only[zzax]at hy;obtain⟨p,hp,rfl⟩:=hy;obtain⟨i,hi⟩:=zzby.1 hp;obtain⟨ec,_,_,g1,_⟩:=Tj i p hi;exact g1
    simp only[cz,hu];refine ak.cons ?_ ak.nil;have dY:((bM.map (·.1)).map (cz P d e)).length=len:=by simp[ey]
    have hz:P.cellsOf e≠0:=by simpa using bQ.1.2
    have XQ:((bM.map (·.1)).map (cz P d e))≠[]->a=⟨a.block,a.off,none⟩/\a.block<w.heap.size:=fun hn=>by
     cases helems:bM with
     |nil=>simp[helems]at hn
     |cons y ys=>
      obtain⟨ec,c1,c2,_,g2,_⟩:=Tj 0 y (by simp[helems]);cases hec:ec with
      |nil=>rw[hec]at c1;exact absurd c1.symm hz
      |cons v vs=>
       have:=c2 0 v (by simp[hec]);simp only[zzhq,Addr.add,if_true]at this;unfold World.cell? at this;split at this
       ·rename_i hb;split at this
        ·cases this
        rename_i hs;refine⟨?_,aT hb⟩;cases a;simp at hs;simp[hs]
       cases this
    have ow:∀(i j:Nat)(c:AV),Qt ((bM.map (·.1)).map (cz P d e)) i j=some c->∃v,w.cell? ⟨a.block,a.off+i*P.cellsOf e+j,none⟩=some v/\aB w (G0 Fx) c v/\Qv c=true:=fun i j c hc=>by
     have aK:((bM.map (·.1)).map (cz P d e))≠[]:=by rintro h0;rw[h0]at hc;simp[Qt]at hc
     obtain⟨ha,_⟩:=XQ aK;unfold Qt at hc;cases hy:bM[i]? with
     |none=>simp[hy]at hc
     |some y=>
      simp[hy]at hc;obtain⟨ec,c1,c2,_,g2,g3⟩:=Tj i y hy;have hj:j<ec.length:=by rw[<- g2.1];exact(zza.1 hc).1
      have hv:ec[j]?=some ec[j]:=zzac hj;refine⟨ec[j],?_,g2.2 j c _ hc hv,zzbh.1 g3 c (zzad hc)⟩;have:=c2 j _ hv;rw[ha,bw,bw]at this;exact this
    have:=aB.sl (w:=w) (γ:=G0 Fx) (rt:=.nn) (rows:=(bM.map (·.1)).map (cz P d e)) (a:=some a) (cap:=cap) a.block a.off (P.cellsOf e) (fun i j=>(w.cell? ⟨a.block,a.off+i*P.cellsOf e+j,none⟩).getD undef)
     (by rw[dY];exact hlc) (fun h=>by cases h) (fun hn=>⟨by rw[<- (XQ hn).1],(XQ hn).2⟩) (fun row ah=>?_) (fun i j c hc=>?_) (fun i j c hc=>?_) (by simp[tF])
    ·rwa [dY]at this
    ·simp only[zzcy,zzax]at ah;obtain⟨p,hp,rfl⟩:=ah;obtain⟨i,hi⟩:=zzby.1 hp;obtain⟨ec',c1',_,_,g2',_⟩:=Tj i p hi;have:=g2'.1;simp only[Function.comp];omega
    ·obtain⟨v,h1,h2,h3⟩:=ow i j c hc;rw[h1];exact⟨rfl,trivial,uf h2 h3⟩
    obtain⟨v,h1,h2,h3⟩:=ow i j c hc;rw[h1];exact h2
   |struct fs=>
    simp only[zzak,zzbh]at bQ;obtain⟨aH,xs,rfl,hm⟩:=trod_struct hu h;obtain⟨hl,hg⟩:=Qcy _ _ _ hm
    have Tj:∀(i:Nat)(f:Field)(y:DataW H×List MemPlace),fs.toList[i]?=some f->xs[i]?=some y->Typed P d f.type y.1/\ak w (G0 Fx) (cz P d f.type y.1) ((cs.drop f.offset).take (P.cellsOf f.type))/\(cz P d f.type y.1).all Qv=true:=fun i f y hf hy=>by
     obtain⟨y1,y2⟩:=y;obtain⟨g1,g2,g3,_⟩:=jr d bz f.type _ y1 y2 (hg i f (y1,y2) hf hy) (bQ.2 f (zzad hf));exact⟨g1,g2,g3⟩
    have arJ:∀p∈fs.toList.zip (xs.map (·.1)),∃(i:Nat)(f:Field)(y:DataW H×List MemPlace),fs.toList[i]?=some f/\xs[i]?=some y/\p=(f,y.1):=fun p hp=>by
     obtain⟨i,hi⟩:=zzby.1 hp;rw[zzgs]at hi;obtain⟨h1,h2⟩:=hi;simp only[zzbl,zzce]at h2;obtain⟨y,h2,h3⟩:=h2;exact⟨i,p.1,y,h1,h2,by rw[h3]⟩
    refine⟨?_,?_,?_,aH⟩
    ·simp only[Typed,hu];refine⟨by simpa using hl,fun p hp=>?_⟩;obtain⟨i,f,y,h1,h2,rfl⟩:=arJ p hp;exact(Tj i f y h1 h2).1
    ·simp only[cz,hu];have aeW:=sC (P:=P) (cs:=cs) fs.toList 0 (P.cellsOf t) (eq_of_beq bQ.1) aH.symm (zzcc _);rw[zzde]at aeW
     have:ak w (G0 Fx) ((fs.toList.zip (xs.map (·.1))).map fun p=>cz P d p.1.type p.2).flatten (fs.toList.map fun f=>(cs.drop f.offset).take (P.cellsOf f.type)).flatten:=by
      refine CS _ _ (by simp at hl |-;omega) fun i as vs h1 h2=>?_;simp only[zzbl,zzce]at h1 h2;obtain⟨p,hp,rfl⟩:=h1;obtain⟨f,hf,rfl⟩:=h2;rw[zzgs]at hp;obtain⟨q1,q2⟩:=hp;rw[hf]at q1;simp only[zzbl,zzce]at q2;obtain⟨y,hy,q2⟩:=q2;rw[<- Option.some.inj q1,<- q2];exact(Tj i f y hf hy).2.1
     rw[aeW]at this;rwa [List.flatMap_def]
    simp only[cz,hu,zzbh,zzgz];rintro v ⟨p,hp,hv⟩;obtain⟨i,f,y,h1,h2,rfl⟩:=arJ p hp;exact zzbh.1 (Tj i f y h1 h2).2.2 v hv
   |array n e=>
    simp only[zzak]at bQ;obtain⟨aH,xs,rfl,hm⟩:=trod_array hu h;obtain⟨hl,hg⟩:=Qcy _ _ _ hm;have ey:xs.length=n:=by simpa using hl
    have Tj:∀(i:Nat)(y:DataW H×List MemPlace),xs[i]?=some y->Typed P d e y.1/\ak w (G0 Fx) (cz P d e y.1) ((cs.drop (i*P.cellsOf e)).take (P.cellsOf e))/\(cz P d e y.1).all Qv=true:=fun i y hy=>by
     have hi:i<n:=by rw[<- ey];exact(zza.1 hy).1
     obtain⟨y1,y2⟩:=y;obtain⟨g1,g2,g3,_⟩:=jr d bz e _ y1 y2 (hg i i (y1,y2) (by simp[hi]) hy) bQ.2;exact⟨g1,g2,g3⟩
    refine⟨?_,?_,?_,aH⟩
    ·simp only[Typed,hu];refine⟨by simpa using ey,fun y hy=>?_⟩;simp only[zzax]at hy;obtain⟨p,hp,rfl⟩:=hy;obtain⟨i,hi⟩:=zzby.1 hp;exact(Tj i p hi).1
    ·simp only[cz,hu];have aeW:=KF (cs:=cs) (k:=P.cellsOf e) n (by rw[aH];exact eq_of_beq bQ.1)
     have:ak w (G0 Fx) ((xs.map (·.1)).map (cz P d e)).flatten ((List.range n).map fun i=>(cs.drop (i*P.cellsOf e)).take (P.cellsOf e)).flatten:=by
      refine CS _ _ (by simp[ey]) fun i as vs h1 h2=>?_;simp only[zzcy,zzbl,zzce]at h1 h2;obtain⟨y,hy,rfl⟩:=h1;obtain⟨j,hj,rfl⟩:=h2;have hi:i<n:=by rw[<- ey];exact(zza.1 hy).1
      simp[hi]at hj;subst hj;exact(Tj i y hy).2.1
     rw[aeW]at this;rwa [List.flatMap_def]
    simp only[cz,hu,zzbh,zzgz,zzax];rintro v ⟨y,⟨p,hp,rfl⟩,hv⟩;obtain⟨i,hi⟩:=zzby.1 hp;exact zzbh.1 (Tj i p hi).2.2 v hv
   |_=>simp at bQ
def jt(P:Program)(d:Nat)(t:TypeId)(x:DataW H):AV:=if Ja P t then .agg (cz P d t x)else(cz P d t x).headD .junk
def aeX{r:Reach}{b0:Nat}{t:TypeId}{v:Value}(cU:Value.okWide P w r b0 t v)(ha:Ja P t=false)(bQ:∃d,XN P d t=true):v.cells.toList=[v]:=by
 unfold Value.okWide at cU;unfold Ja at ha;obtain⟨d,bQ⟩:=bQ;cases d with
 |zero=>cases bQ
 |succ d=>
  unfold XN at bQ;cases hu:P.underlying t with
  |none=>simp[hu]at bQ
  |some desc=>
   rw[hu]at cU ha bQ;cases desc<;>simp at ha bQ cU
   all_goals
    unfold Cell.okWide at cU;rw[hu]at cU;cases v<;>first|rfl|(simp[Cell.ok,hu]at cU)
def aeY{d:Nat}{r:Reach}{b0:Nat}{t:TypeId}{v:Value}{x:DataW H}{ps:List MemPlace}(bQ:XN P d t=true)(cU:Value.okWide P w r b0 t v)(h:DataW.Trod enc P w base sp held t v x ps):
  Typed P d t x/\aB w (G0 Fx) (jt P d t x) v:=by
 obtain⟨bz,h⟩:=h;obtain⟨h1,h2,h3,h4⟩:=jr d bz t _ x ps h bQ;refine⟨h1,?_⟩;unfold jt;cases ha:Ja P t with
 |true=>
  simp only[if_true];unfold Value.okWide at cU;unfold Ja at ha;split at ha
  ·rename_i hu;rw[hu]at cU;obtain⟨cs,rfl,_⟩:=cU;exact ak.PO h2
  ·rename_i hu;rw[hu]at cU;obtain⟨cs,rfl,_⟩:=cU;exact ak.PO h2
  cases ha
 |false=>
  simp only[zzbq,if_false];rw[aeX cU ha ⟨d,bQ⟩]at h2;cases hl:cz P d t x with
  |nil=>rw[hl]at h2;have:=h2.1;simp at this
  |cons a l=>rw[hl]at h2;exact h2.2 0 a v rfl rfl
def o7(P:Program)(d:Nat):List TypeId->List (DataW H)->Prop
 |[],[]=>True
 |t::ts,x::xs=>Typed P d t x/\o7 P d ts xs
 |_,_=>False
def CT(P:Program)(d:Nat):List TypeId->List (DataW H)->List AV
 |t::ts,x::xs=>jt P d t x::CT P d ts xs
 |_,_=>[]
def Fy{d:Nat}{r:Reach}{b0:Nat}:∀{ts:List TypeId}{vs:List Value}{xs:List (DataW H)}{ps:List MemPlace},(∀t∈ts,XN P d t=true)->(∀(j:Nat)(t:TypeId)(v:Value),ts[j]?=some t->vs[j]?=some v->Value.okWide P w r b0 t v)->
  DataW.TrodAll enc P w base sp held ts vs xs ps->o7 P d ts xs/\ak w (G0 Fx) (CT P d ts xs) vs
 |[],[],[],_,_,_,_=>⟨trivial,ak.nil⟩
 |[],_::_,_,_,_,_,h=>by cases h
 |[],[],_::_,_,_,_,h=>by cases h
 |_::_,[],_,_,_,_,h=>by cases h
 |_::_,_::_,[],_,_,_,h=>by cases h
 |t::ts,v::vs,x::xs,ps,bQ,cU,h=>by
  obtain⟨p,q,h1,h2,_⟩:=h;obtain⟨g1,g2⟩:=aeY (bQ t (by simp)) (cU 0 t v rfl rfl) h1;obtain⟨k1,k2⟩:=Fy (fun t ht=>bQ t (by simp[ht])) (fun j t v h1 h2=>cU (j+1) t v (by simpa using h1) (by simpa using h2)) h2;exact⟨⟨g1,k1⟩,ak.cons g2 k2⟩
def mG{W W':World}(hl:laidOutB P=true)(hb:Below W.heap.size W W'){sp':Nat->Bool}:∀{ts:List TypeId}{vs:List Value}{xs:List (DataW H)}{ps:List MemPlace},(∀t∈ts,P.readableRec t=true/\t<P.types.size)->
  DataW.TrodAll enc P W 0 (fun _=>true) true ts vs xs ps->(∀p∈ps,p.block<W.heap.size/\sp' p.block=true)->DataW.TrodAll enc P W' 0 sp' true ts vs xs ps
 |[],[],[],_,_,h,_=>h
 |[],_::_,_,_,_,h,_=>by cases h
 |[],[],_::_,_,_,h,_=>by cases h
 |_::_,[],_,_,_,h,_=>by cases h
 |_::_,_::_,[],_,_,h,_=>by cases h
 |t::ts,v::vs,x::xs,ps,hr,h,hp=>by
  obtain⟨p,q,h1,h2,rfl⟩:=h;refine⟨p,q,WideElems.Trod_stays hl (hr t (by simp)).1 (hr t (by simp)).2 h1 (fun y hy=>hb.same (hp y (by simp[hy])).1) (fun y hy=>(hp y (by simp[hy])).2),mG hl hb (fun t ht=>hr t (by simp[ht])) h2 fun y hy=>hp y (by simp[hy]),rfl⟩
def CU{gl:Nat->AV}{fid:FuncId}{fn:Func}{s:ChangeSpec}{bt:TypeId}{d:Nat}(ajQ:s.vars=[])(amn:fn.resultTypes=#[bt])(hbt:P.underlying bt=some .bool)(hl:laidOutB P=true)
  (hts:(fn.params.toList.all fun t=>XN P d t&&P.readableRec t&&decide (t<P.types.size))=true)(arK:∀ds:List (DataW H),ds.length=fn.params.size->(s.fn H ds).results=[.lit (.bool true)]/\(s.fn H ds).args=ds/\(s.fn H ds).vars=[])
  {W:World}{args:Array Value}{ds gs:List (DataW H)}{before:List MemPlace}{r:Reach}{b0:Nat}(lM:∀g,aB W (G0 Fx) (gl g) (.pointer (some ⟨g,0,none⟩)))
  (cU:∀(j:Nat)(t:TypeId)(v:Value),fn.params[j]?=some t->args[j]?=some v->Value.okWide P W r b0 t v)
  (hW:DataW.Whole enc P fn.params.toList s.vars false W args.toList ds gs before)
  (hp:o7 P d fn.params.toList ds->Pure P gl fid (CT P d fn.params.toList ds) (.bool true)):
  Calls P fid args W fun e W'=>∃v,e=.returned v/\s.post enc P fn false true false false W args v W':=by
 have hW':=hW;obtain⟨p,q,hA,hV,rfl,hfz,AG⟩:=hW;rw[ajQ]at hV;obtain⟨rfl,rfl⟩:=ChangeShapes.trodVars_none hV;simp only[zzbh,zzak,decide_eq_true_eq]at hts;obtain⟨h1,h2⟩:=Fy (fun t ht=>(hts t ht).1.1) (fun j t v q1 q2=>cU j t v (by simpa using q1) (by simpa using q2)) hA
 have aH:ds.length=fn.params.size:=by
  have:∀{ts:List TypeId}{vs:List Value}{xs:List (DataW H)}{ps:List MemPlace},DataW.TrodAll enc P W 0 (fun _=>true) true ts vs xs ps->xs.length=ts.length:=by
   intro ts;induction ts with
   |nil=>intro vs xs ps h;cases vs<;>cases xs<;>first|rfl|cases h
   |cons t ts ih=>
    intro vs xs ps h;cases vs<;>cases xs<;>first|(cases h;done)|skip
    obtain⟨_,_,_,h,_⟩:=h;simp[ih h]
  simpa using this hA
 obtain⟨k1,k2,k3⟩:=arK ds aH;have ai:∀x∈p,x.block<W.heap.size:=fun x hx=>hW'.lt x (by simp[hx]);refine((hp h1).2 Fx W args.toList lM h2).mono ?_;rintro e W' ⟨v,rfl,hb,hr⟩;obtain rfl:=hr.bA;refine⟨_,rfl,ds,[],p++[],[],p,[],hW',?_,?_,?_,World.keptBut_mono (fun x hx=>⟨hx,?_⟩) (hb.frame (·∈p++[])),fun h=>by cases h⟩
 ·rw[amn,zzau,k1];exact⟨[],[],shut_bool hbt true,rfl,rfl⟩
 ·rw[zzau,k2];exact mG hl hb (fun t ht=>⟨(hts t ht).1.2,(hts t ht).2⟩) hA fun x hx=>⟨ai x hx,by simpa using ai x hx⟩
 ·rw[ajQ,zzau,k3];rfl
 simp at hx;exact .inr (.inl hx)
end
open Go
section
variable (P:Program) (gl:Nat->AV) (orc:Nat->FuncId->List AV->AV) (Y:YT) (l2:List SO) (K:AS->Prop) (m:AM) (ms q:List (AV×AM)) (mc:AM) (r:List SO) (fl:List Fg) (T:List AV) (o:SO) (x:AV×AM)
@[simp] def amo(d:Option Nat)(op:aD)(xs:List bK):Vx T ⟨d,op,none,xs⟩=True:=nd rfl
@[simp] def amq(d:Option Nat)(op:aD)(t:Nat)(b:Bool)(xs:List bK):Vx T ⟨d,op,some (some t,b),xs⟩=(T.getD t .junk=.bool b):=nd rfl
@[simp] def avD:uo P gl orc Y l2 K m ms [] fl q mc T=(q=[]/\Zx P gl orc Y l2 ⟨T,mc⟩ K):=nd (by simp only[uo])
@[simp] def arL:uo P gl orc Y l2 K m ms (o::r) (.eff::fl) (x::q) mc T=(Vx T o/\effC P gl orc Y (ev gl T) mc o.dst x.1 x.2 o.op/\uo P gl orc Y l2 K m ms r fl q x.2 (put T o.dst x.1)):=nd (by simp only[uo])
@[simp] def avE:uo P gl orc Y l2 K m ms (o::r) (.pre::fl) q mc T=(Vx T o/\(rop P gl orc (ev gl T) m o.dst o.op).1/\uo P gl orc Y l2 K m ms r fl q mc (put T o.dst (rop P gl orc (ev gl T) m o.dst o.op).2)):=nd (by simp only[uo])
@[simp] def aoH:uo P gl orc Y l2 K m ms (o::r) (.oth::fl) q mc T=(Vx T o/\(rop P gl orc (ev gl T) m o.dst o.op).1/\(∀x∈ms,rop P gl orc (ev gl T) x.2 o.dst o.op=rop P gl orc (ev gl T) m o.dst o.op)/\uo P gl orc Y l2 K m ms r fl q mc (put T o.dst (rop P gl orc (ev gl T) m o.dst o.op).2)):=nd (by simp only[uo])
def Qbg{P:Program}{gl:Nat->AV}{orc:Nat->FuncId->List AV->AV}{Y:YT}{fl:List Fg}{l l2:List SO}{s:AS}{Q:Exit->AS->Prop}(ms:List (AV×AM))(h:uo P gl orc Y l2 (Q .normal) s.m ms l fl ms s.m s.T):vc P gl orc Y (.drawE fl l l2) s Q:=.inr (.inl ⟨ms,h⟩)
@[simp] def avF:jh P gl orc Y l2 K m ms [] fl q mc T=(q=[]/\Zx P gl orc Y l2 ⟨T,mc⟩ K):=nd (by simp only[jh])
@[simp] def arM:jh P gl orc Y l2 K m ms (o::r) (.eff::fl) (x::q) mc T=(Vx T o/\effC P gl orc Y (ev gl T) mc o.dst x.1 x.2 o.op/\jh P gl orc Y l2 K m ms r fl q x.2 (put T o.dst x.1)):=nd (by simp only[jh])
@[simp] def avG:jh P gl orc Y l2 K m ms (o::r) (.pre::fl) q mc T=(Vx T o/\(rop P gl orc (ev gl T) m o.dst o.op).1/\jh P gl orc Y l2 K m ms r fl q mc (put T o.dst (rop P gl orc (ev gl T) m o.dst o.op).2)):=nd (by simp only[jh])
@[simp] def avH:jh P gl orc Y l2 K m ms (o::r) (.oth::fl) q mc T=(Vx T o/\(((rop P gl orc (ev gl T) m o.dst o.op).1/\∀x∈ms,rop P gl orc (ev gl T) x.2 o.dst o.op=rop P gl orc (ev gl T) m o.dst o.op)\/(rdC P gl orc Y (ev gl T) m o.dst m o.op/\∀x∈ms,rdC P gl orc Y (ev gl T) m o.dst x.2 o.op))/\jh P gl orc Y l2 K m ms r fl q mc (put T o.dst (rop P gl orc (ev gl T) m o.dst o.op).2)):=nd (by simp only[jh,aqM])
variable (R:AV->AM->Prop)
@[simp] def avI:kV P gl orc Y R l2 K m ms [] fl q mc T=(q=[]/\Zx P gl orc Y l2 ⟨T,mc⟩ K):=nd (by simp only[kV])
@[simp] def arN:kV P gl orc Y R l2 K m ms (o::r) (.eff::fl) [x] mc T=(Vx T o/\effR P gl Y (ev gl T) mc R o.op/\kV P gl orc Y R l2 K m ms r fl [] x.2 (put T o.dst x.1)):=nd (by simp only[kV];simp)
@[simp] def arO(y:AV×AM):kV P gl orc Y R l2 K m ms (o::r) (.eff::fl) (x::y::q) mc T=(Vx T o/\effC P gl orc Y (ev gl T) mc o.dst x.1 x.2 o.op/\kV P gl orc Y R l2 K m ms r fl (y::q) x.2 (put T o.dst x.1)):=nd (by simp only[kV];simp)
@[simp] def avJ:kV P gl orc Y R l2 K m ms (o::r) (.pre::fl) q mc T=(Vx T o/\(rop P gl orc (ev gl T) m o.dst o.op).1/\kV P gl orc Y R l2 K m ms r fl q mc (put T o.dst (rop P gl orc (ev gl T) m o.dst o.op).2)):=nd (by simp only[kV])
@[simp] def aoI:kV P gl orc Y R l2 K m ms (o::r) (.oth::fl) q mc T=(Vx T o/\(rop P gl orc (ev gl T) m o.dst o.op).1/\(∀x∈ms,rop P gl orc (ev gl T) x.2 o.dst o.op=rop P gl orc (ev gl T) m o.dst o.op)/\kV P gl orc Y R l2 K m ms r fl q mc (put T o.dst (rop P gl orc (ev gl T) m o.dst o.op).2)):=nd (by simp only[kV])
def XR{P:Program}{gl:Nat->AV}{orc:Nat->FuncId->List AV->AV}{Y:YT}{fl:List Fg}{l l2:List SO}{s:AS}{Q:Exit->AS->Prop}(hb:aeF fl l=true)(ms:List (AV×AM))(R:AV->AM->Prop)(hR:∃x:AV×AM,R x.1 x.2)
  (h:∀v m',R v m'->kV P gl orc Y R l2 (Q .normal) s.m (ms++[(v,m')]) l fl (ms++[(v,m')]) s.m s.T):vc P gl orc Y (.drawE fl l l2) s Q:=.inr (.inr (.inl ⟨hb,ms,R,hR,fun x hx=>h x.1 x.2 hx⟩))
def iw(P:Program)(gl:Nat->AV)(orc:Nat->FuncId->List AV->AV)(m:AM):List SO->List Fg->AM->List AV->List (AV×AM)
 |o::r,.eff::fl,mc,T=>(effV (sop P gl orc (ev gl T) mc o.dst o.op).2.1 o.op,(sop P gl orc (ev gl T) mc o.dst o.op).2.2)::iw P gl orc m r fl (sop P gl orc (ev gl T) mc o.dst o.op).2.2 (put T o.dst (effV (sop P gl orc (ev gl T) mc o.dst o.op).2.1 o.op))
 |o::r,.pre::fl,mc,T=>iw P gl orc m r fl mc (put T o.dst (rop P gl orc (ev gl T) m o.dst o.op).2)
 |o::r,.oth::fl,mc,T=>iw P gl orc m r fl mc (put T o.dst (rop P gl orc (ev gl T) m o.dst o.op).2)
 |_,_,_,_=>[]
@[simp] def arP:iw P gl orc m [] fl mc T=[]:=nd (by simp only[iw])
@[simp] def aoJ:iw P gl orc m (o::r) (.eff::fl) mc T=(effV (sop P gl orc (ev gl T) mc o.dst o.op).2.1 o.op,(sop P gl orc (ev gl T) mc o.dst o.op).2.2)::iw P gl orc m r fl (sop P gl orc (ev gl T) mc o.dst o.op).2.2 (put T o.dst (effV (sop P gl orc (ev gl T) mc o.dst o.op).2.1 o.op)):=nd (by simp only[iw])
@[simp] def arQ:iw P gl orc m (o::r) (.pre::fl) mc T=iw P gl orc m r fl mc (put T o.dst (rop P gl orc (ev gl T) m o.dst o.op).2):=nd (by simp only[iw])
@[simp] def amr:iw P gl orc m (o::r) (.oth::fl) mc T=iw P gl orc m r fl mc (put T o.dst (rop P gl orc (ev gl T) m o.dst o.op).2):=nd (by simp only[iw])
def Xu{P:Program}{gl:Nat->AV}{orc:Nat->FuncId->List AV->AV}{Y:YT}{fl:List Fg}{l l2:List SO}{s:AS}{Q:Exit->AS->Prop}(h:uo P gl orc Y l2 (Q .normal) s.m (iw P gl orc s.m l fl s.m s.T) l fl (iw P gl orc s.m l fl s.m s.T) s.m s.T):vc P gl orc Y (.drawE fl l l2) s Q:=.inr (.inl ⟨_,h⟩)
def Q2{P:Program}{gl:Nat->AV}{orc:Nat->FuncId->List AV->AV}{Y:YT}{fl:List Fg}{l l2:List SO}{s:AS}{Q:Exit->AS->Prop}(h:jh P gl orc Y l2 (Q .normal) s.m (iw P gl orc s.m l fl s.m s.T) l fl (iw P gl orc s.m l fl s.m s.T) s.m s.T):vc P gl orc Y (.drawE fl l l2) s Q:=.inr (.inr (.inr ⟨_,h⟩))
end
attribute [simp] effC memEff effV effR rdC
end Go.Abs
