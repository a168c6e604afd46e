import Derived.ProofKit
import Derived.OpenShut
import Derived.OpenVars
import Derived.Test.YtfliagpjbbkijaaGreatDoorVACodeT
set_option linter.all false
set_option maxRecDepth 100000
set_option maxHeartbeats 64000000
namespace Go.Abs
open Go Go.RowKit
def nd{α:Type}{a b:α}(h:a=b):a=b:=h
section
variable (P:Program) (gl:Nat->AV) (orc:X1) (Y:YT) (s:AS) (Q:T5)
@[simp] def avA:vc P gl orc Y .skip s Q=Q .normal s:=nd rfl
@[simp] def ayx(l:List SO):vc P gl orc Y (.ops l) s Q=Ze P gl orc Y l s (Q .normal):=nd rfl
@[simp] def avB(l:List SO):vc P gl orc Y (.opsX l) s Q=(Ze P gl orc Y l s (Q .normal)\/∃k,IN P gl orc Y k l s Q):=nd rfl
@[simp] def ayy(a b:SC):vc P gl orc Y (.seq a b) s Q=vc P gl orc Y a s (WI (vc P gl orc Y b) Q):=nd rfl
def agn(x:bM)(a b:SC):vc P gl orc Y (.cond x a b) s Q=match ev gl s.T x with|.bool t=>(t=true->vc P gl orc Y a s Q)/\(t=false->vc P gl orc Y b s Q)|_=>False:=nd rfl
@[simp] def atI(x:bM)(a b:SC):vc P gl orc Y (.cond x a b) s Q=match ev gl s.T x with|.bool t=>(if t=true then vc P gl orc Y a s Q else vc P gl orc Y b s Q)|_=>False:=by
 rw[agn];cases ev gl s.T x<;>try rfl
 rename_i t;cases t<;>simp
@[simp] def atJ(id:Nat)(c:SC):vc P gl orc Y (.block id c) s Q=vc P gl orc Y c s (rf id Q):=nd rfl
@[simp] def avC(id:Nat):vc P gl orc Y (.exit id) s Q=Q (.exit id) s:=nd rfl
@[simp] def atK(c:SC):vc P gl orc Y (.scope c) s Q=vc P gl orc Y c s (wL Q):=nd rfl
@[simp] def ayz:vc P gl orc Y .ret s Q=Q .ret s:=nd rfl
@[simp] def ayA:vc P gl orc Y .bad s Q=False:=nd rfl
def ago{c:SC}(I:AS->Prop)(μ:AS->Nat)(h0:I s)(hr:∀s',I s'->vc P gl orc Y c s' (nx I μ s' Q)):vc P gl orc Y (.loop c) s Q:=⟨I,μ,h0,hr⟩
variable (k:AS->(T5)->Prop) (id id':Nat) (I:AS->Prop) (μ:AS->Nat) (s0:AS)
@[simp] def ajJ:WI k Q .normal s=k s Q:=nd rfl
@[simp] def aop:WI k Q (.exit id) s=Q (.exit id) s:=nd rfl
@[simp] def atM:WI k Q .ret s=Q .ret s:=nd rfl
@[simp] def abG:rf id Q .normal s=Q .normal s:=nd rfl
@[simp] def ajK:rf id Q (.exit id') s=if id'=id then Q .normal s else Q (.exit id') s:=nd rfl
@[simp] def anu:rf id Q .ret s=Q .ret s:=nd rfl
@[simp] def abH:wL Q .normal s=Q .normal s:=nd rfl
@[simp] def ajL:wL Q (.exit id) s=Q (.exit id) s:=nd rfl
@[simp] def anv:wL Q .ret s=Q .ret s:=nd rfl
@[simp] def abI:nx I μ s0 Q .normal s=(I s/\μ s<μ s0):=nd rfl
@[simp] def ajM:nx I μ s0 Q (.exit id) s=Q (.exit id) s:=nd rfl
@[simp] def anw:nx I μ s0 Q .ret s=Q .ret s:=nd rfl
end
@[simp] def avD(P:Program)(gl:Nat->AV)(orc:X1)(Y:YT)(s:AS)(Q:T5)(l l2:List SO):vc P gl orc Y (.draw l l2) s Q=vcD P gl orc Y l2 (Q .normal) l s.T s.m []:=nd rfl
def anx(T:PQ)(f:Nat->AV):P1->PQ
 |[]=>T
 |i::W=>anx (T.set i (f i)) f W
def Ek(T:PQ)(W:P1)(R:(Nat->AV)->AM->Prop)(μ:(Nat->AV)->AM->Nat)(f:Nat->AV)(m:AM)(Q:T5):T5
 |.normal,s'=>s'.T=anx T (fun i=>s'.T.getD i .junk) W/\R (fun i=>s'.T.getD i .junk) s'.m/\μ (fun i=>s'.T.getD i .junk) s'.m<μ f m
 |ex,s'=>Q ex s'
section
variable (T:PQ) (W:P1) (R:(Nat->AV)->AM->Prop) (μ:(Nat->AV)->AM->Nat) (f:Nat->AV) (m:AM) (Q:T5) (s:AS) (id:Nat)
@[simp] def aaZ:Ek T W R μ f m Q .normal s=(s.T=anx T (fun i=>s.T.getD i .junk) W/\R (fun i=>s.T.getD i .junk) s.m/\μ (fun i=>s.T.getD i .junk) s.m<μ f m):=nd rfl
@[simp] def agp:Ek T W R μ f m Q (.exit id) s=Q (.exit id) s:=nd rfl
@[simp] def ajN:Ek T W R μ f m Q .ret s=Q .ret s:=nd rfl
end
def nth(l:PQ)(n:Nat):AV:=l.getD n .junk
def Qg(l:X2)(n:Nat):PQ:=l.getD n []
@[simp high] theorem Qbg(l:PQ)(n:Nat):l.getD n .junk=nth l n:=rfl
@[simp high] theorem Vu(l:X2)(n:Nat):l.getD n []=Qg l n:=rfl
@[simp] theorem avE(n:Nat):nth [] n=.junk:=rfl
@[simp] theorem atN(a:AV)(l:PQ):nth (a::l) 0=a:=rfl
@[simp] theorem atO(a:AV)(l:PQ)(n:Nat):nth (a::l) (n+1)=nth l n:=rfl
@[simp] theorem atP(n:Nat):Qg [] n=[]:=rfl
@[simp] theorem aoq(a:PQ)(l:X2):Qg (a::l) 0=a:=rfl
@[simp] theorem aor(a:PQ)(l:X2)(n:Nat):Qg (a::l) (n+1)=Qg l n:=rfl
@[simp] def ZP(l l':X2):Qg (l++l') l.length=Qg l' 0:=by simp[Qg,zzaw,-Vu,zzat]
@[simp] def Zk(l l':X2)(k:Nat):Qg (l++l') (l.length+k)=Qg l' k:=by simp[Qg,zzaw,-Vu,zzat]
@[simp] def avF(l l':X2)(x:PQ):(l++l').set l.length x=l++l'.set 0 x:=by simp[zzcy]
@[simp] def ajO(l l':X2)(k:Nat)(x:PQ):(l++l').set (l.length+k) x=l++l'.set k x:=by simp[zzcy]
def Qv{l:X2}{n:Nat}{x:PQ}(h:l[n]?=some x):Qg l n=x:=by simp[Qg,zzaw,-Vu,h]
def amI{l:PQ}{n:Nat}{x:AV}(h:l[n]?=some x):nth l n=x:=by simp[nth,zzaw,-Qbg,h]
def numOf:AV->Int
 |.int _ n=>n
 |_=>0
@[simp] theorem aos(k:IntKind)(n:Int):numOf (.int k n)=n:=rfl
@[simp] theorem ajP:U1 .full=true:=rfl
@[simp] theorem anz:U1 .nil=true:=rfl
@[simp] theorem aot:U1 .ro=false:=rfl
@[simp] theorem aou:U1 .nn=false:=rfl
@[simp] theorem anA(i s:Nat):U1 (.own i s)=false:=rfl
@[simp] theorem anB(sz:Nat)(l:PQ):aW sz 0 l=[]:=rfl
@[simp] theorem nQ(sz n:Nat)(l:PQ):aW sz (n+1) l=l.take sz::aW sz n (l.drop sz):=rfl
@[simp] theorem anC:Ud []=some []:=rfl
@[simp] def Io(n:Int)(r:X2):Ud ([.int .u8 n]::r)=(match Ud r with|some l=>some (UInt8.ofNat n.toNat::l)|_=>none):=by
 simp only[Ud,byteOf];cases Ud r<;>rfl
@[simp] theorem atQ(b:Bool):asB (.bool b)=some (true,b):=rfl
@[simp] theorem atS(b:Bool):isB (.bool b)=true:=rfl
@[simp] theorem atT(b:Bool):bOf (.bool b)=b:=rfl
@[simp] theorem avG(a:AV):asB (.gd false a)=some (false,bOf a):=rfl
@[simp] theorem avH(a:AV):asB (.gd true a)=some (isB a,bOf a):=rfl
@[simp] def ayB(g b:Bool):asB (.gd g (.bool b))=some (g,b):=by cases g<;>rfl
@[simp] theorem atU(want g:Bool):IL want (.bool g)=some (g==want):=rfl
@[simp] theorem ayC(want d b:Bool):IL want (.gd d (.bool b))=some (d&&(b==want)):=rfl
@[simp] def avI(want:Bool)(a:AV):IL want (.gd false a)=some false:=by cases a<;>rfl
@[simp] theorem avJ(gl:Nat->AV)(T:PQ)(t:Nat):evS gl T (.tmp t)=strip (nth T t):=rfl
@[simp] theorem aov(gl:Nat->AV)(T:PQ)(a:AV):evS gl T (.const a)=strip a:=rfl
@[simp] theorem atV(gl:Nat->AV)(T:PQ)(f:FuncId):evS gl T (.func f)=.fn f [] []:=rfl
@[simp] theorem atW(gl:Nat->AV)(T:PQ)(g:Nat):evS gl T (.glob g)=strip (gl g):=rfl
section
variable (P:Program) (gl:Nat->AV) (orc:X1) (Y:YT) (K:AS->Prop) (r:List SO) (T:PQ) (m:AM) (d:Option Nat) (op:aF) (xs:List bM) (s:AS)
@[simp] def aow:Ze P gl orc Y [] s K=K s:=nd rfl
@[simp] def anD:Ze P gl orc Y (⟨d,op,none,xs⟩::r) s K=(if effy orc (ev gl s.T) s.m d op=true then Qbr P gl Y (ev gl s.T) s.m (fun av m'=>Ze P gl orc Y r ⟨put s.T d av,m'⟩ K) op
   else(sop P gl orc (ev gl s.T) s.m d op).1/\Ze P gl orc Y r ⟨put s.T d (sop P gl orc (ev gl s.T) s.m d op).2.1,(sop P gl orc (ev gl s.T) s.m d op).2.2⟩ K):=nd rfl
@[simp] def anE(t:Nat)(want:Bool):Ze P gl orc Y (⟨d,op,some (some t,want),xs⟩::r) s K=(match IL want (s.T.getD t .junk)with
   |some gw=>gok gl s.T gw (gxs op xs)/\
     if effy orc (evG gl s.T op) s.m d op=true then
      (gw=true->Qbr P gl Y (evG gl s.T op) s.m (fun av m'=>Ze P gl orc Y r ⟨put s.T d (.gd true av),m'⟩ K) op)/\(gw=false->Ze P gl orc Y r ⟨put s.T d (.gd false (.bool false)),s.m⟩ K)
     else(gw=true->(rop P gl orc (evG gl s.T op) s.m d op).1)/\
      Ze P gl orc Y r ⟨put s.T d (.gd gw (rop P gl orc (evG gl s.T op) s.m d op).2),s.m⟩ K
   |none=>False):=nd rfl
variable (l2:List SO) (nb:X2) (o:SO)
@[simp] def avK:vcD P gl orc Y l2 K [] T m nb=Ze P gl orc Y l2 ⟨T,{m with boxes:=m.boxes++nb}⟩ K:=nd rfl
@[simp] def atX:vcD P gl orc Y l2 K (o::r) T m nb=((dop P gl orc o T m nb).1/\vcD P gl orc Y l2 K r (put T o.dst (dop P gl orc o T m nb).2.1) m (dop P gl orc o T m nb).2.2):=nd rfl
end
attribute [simp] rawOp evG gxs effy Qbr callV dop ev Kk oneOf strip gok setA fillA sop rop binV binI binS binBool Ya kindF eqF Qcm eqFs loOf hiOf lenS cellsS mutO vcNxt keyA intsA keyAV
def rZ(n:Nat)(a:AV):bG n [a]=List.replicate n a:=by
 induction n with
 |zero=>rfl
 |succ n ih=>rw[bG,ih];rfl
@[simp] theorem ajQ(P:Program)(gl:Nat->AV)(orc:X1)(rs:List aF)(r:AV)(s:AS):post P gl orc rs r .normal s=((Kk P gl orc s rs).1/\bE s.m 6 (oneOf (Kk P gl orc s rs).2)=r):=rfl
@[simp] theorem atY(P:Program)(gl:Nat->AV)(orc:X1)(rs:List aF)(r:AV)(s:AS):post P gl orc rs r .ret s=((Kk P gl orc s rs).1/\bE s.m 6 (oneOf (Kk P gl orc s rs).2)=r):=rfl
@[simp] theorem agq(P:Program)(gl:Nat->AV)(orc:X1)(rs:List aF)(K:UV)(s:AS):wM P gl orc rs K .normal s=((Kk P gl orc s rs).1/\K (oneOf (Kk P gl orc s rs).2) s.m):=rfl
@[simp] theorem aox(P:Program)(gl:Nat->AV)(orc:X1)(rs:List aF)(K:UV)(s:AS):wM P gl orc rs K .ret s=((Kk P gl orc s rs).1/\K (oneOf (Kk P gl orc s rs).2) s.m):=rfl
@[simp] theorem ajR(K:List PanicEntry->AM->Prop)(ch:List PanicEntry)(s:AS):N7 K (.panic ch) s=K ch s.m:=rfl
section
variable (m:AM) (d:Nat)
@[simp] theorem ajS(b:Bool):Qw (.bool b)=true:=rfl
@[simp] theorem anF(k:IntKind)(n:Int):Qw (.int k n)=true:=rfl
@[simp] theorem anG(s:ByteArray):Qw (.str s)=true:=rfl
@[simp] theorem aoy(rt:Rt)(r:X2):Qw (.sl rt r)=true:=rfl
@[simp] theorem aoz(r:PQ)(o:Nat):Qw (.ep r o)=true:=rfl
@[simp] theorem anH(i o:Nat):Qw (.ptr i o)=true:=rfl
@[simp] theorem aoA(i o n z:Nat):Qw (.bs i o n z)=true:=rfl
@[simp] theorem aoB(t:TypeId)(a:Addr):Qw (.er t a)=false:=rfl
@[simp] theorem aoC(f:FuncId)(a b:PQ):Qw (.fn f a b)=true:=rfl
@[simp] theorem ajT(p:Bool):Qw (.nilv p)=true:=rfl
@[simp] theorem agr:Qw .nilfn=true:=rfl
@[simp] theorem anI(l:Nat):Qw (.yld l)=true:=rfl
@[simp] theorem aoD(i:Nat):Qw (.mp i)=true:=rfl
@[simp] theorem aoE(i:Nat):Qw (.it i)=true:=rfl
@[simp] theorem ajU(k:Nat)(l:List (P2×AV)):Qw (.aL k l)=false:=rfl
@[simp] theorem ajV(i n:Nat)(l:P1):Qw (.mitr i n l)=false:=rfl
@[simp] theorem ajW:Qw .junk=false:=rfl
@[simp] theorem anJ(cs:PQ):Qw (.agg cs)=false:=rfl
@[simp] theorem anK(cs:PQ):Qw (.aQ cs)=false:=rfl
@[simp] theorem aoF(g:Bool)(a:AV):Qw (.gd g a)=false:=rfl
@[simp] theorem aoG(b:Bool):bare (.bool b)=true:=rfl
@[simp] theorem atZ(k:IntKind)(n:Int):bare (.int k n)=true:=rfl
@[simp] theorem at1(s:ByteArray):bare (.str s)=true:=rfl
@[simp] theorem avL(rt:Rt)(r:X2):bare (.sl rt r)=true:=rfl
@[simp] theorem avM(r:PQ)(o:Nat):bare (.ep r o)=true:=rfl
@[simp] theorem at2(i o:Nat):bare (.ptr i o)=true:=rfl
@[simp] theorem avN(i o n z:Nat):bare (.bs i o n z)=true:=rfl
@[simp] theorem avO(t:TypeId)(a:Addr):bare (.er t a)=true:=rfl
@[simp] theorem avP(f:FuncId)(a b:PQ):bare (.fn f a b)=true:=rfl
@[simp] theorem aoH(p:Bool):bare (.nilv p)=true:=rfl
@[simp] theorem anL:bare .nilfn=true:=rfl
@[simp] theorem at3(l:Nat):bare (.yld l)=true:=rfl
@[simp] theorem avQ(i:Nat):bare (.mp i)=true:=rfl
@[simp] theorem avR(i:Nat):bare (.it i)=true:=rfl
@[simp] theorem aoI(k:Nat)(l:List (P2×AV)):bare (.aL k l)=false:=rfl
@[simp] theorem aoJ(i n:Nat)(l:P1):bare (.mitr i n l)=false:=rfl
@[simp] theorem at4(cs:PQ):bare (.agg cs)=true:=rfl
@[simp] theorem aoK:bare .junk=false:=rfl
@[simp] theorem at5(cs:PQ):bare (.aQ cs)=false:=rfl
@[simp] theorem avS(g:Bool)(a:AV):bare (.gd g a)=false:=rfl
@[simp] theorem agt(b:Bool):cellsOf (.bool b)=[.bool b]:=rfl
@[simp] theorem ajX(k:IntKind)(n:Int):cellsOf (.int k n)=[.int k n]:=rfl
@[simp] theorem ajY(s:ByteArray):cellsOf (.str s)=[.str s]:=rfl
@[simp] theorem anM(rt:Rt)(r:X2):cellsOf (.sl rt r)=[.sl rt r]:=rfl
@[simp] theorem anN(r:PQ)(o:Nat):cellsOf (.ep r o)=[.ep r o]:=rfl
@[simp] theorem ajZ(i o:Nat):cellsOf (.ptr i o)=[.ptr i o]:=rfl
@[simp] theorem anO(i o n z:Nat):cellsOf (.bs i o n z)=[.bs i o n z]:=rfl
@[simp] theorem anP(t:TypeId)(a:Addr):cellsOf (.er t a)=[.er t a]:=rfl
@[simp] theorem anQ(f:FuncId)(a b:PQ):cellsOf (.fn f a b)=[.fn f a b]:=rfl
@[simp] theorem agu(p:Bool):cellsOf (.nilv p)=[.nilv p]:=rfl
@[simp] theorem abJ:cellsOf .nilfn=[.nilfn]:=rfl
@[simp] theorem aj0(l:Nat):cellsOf (.yld l)=[.yld l]:=rfl
@[simp] theorem anR(i:Nat):cellsOf (.mp i)=[.mp i]:=rfl
@[simp] theorem anS(i:Nat):cellsOf (.it i)=[.it i]:=rfl
@[simp] theorem aj1(cs:PQ):cellsOf (.agg cs)=cs:=rfl
@[simp] theorem at6(b:Bool):bE m (d+1) (.bool b)=.bool b:=rfl
@[simp] theorem avT(k:IntKind)(n:Int):bE m (d+1) (.int k n)=.int k n:=rfl
@[simp] theorem avU(s:ByteArray):bE m (d+1) (.str s)=.str s:=rfl
@[simp] theorem at7(p:Bool):bE m (d+1) (.nilv p)=.nilv p:=rfl
@[simp] theorem aoL:bE m (d+1) .nilfn=.nilfn:=rfl
@[simp] theorem avV(l:Nat):bE m (d+1) (.yld l)=.junk:=rfl
@[simp] theorem ayD(i:Nat):bE m (d+1) (.mp i)=.junk:=rfl
@[simp] theorem ayE(i:Nat):bE m (d+1) (.it i)=.junk:=rfl
@[simp] theorem aua:bE m (d+1) .junk=.junk:=rfl
@[simp] theorem avW(cs:PQ):bE m (d+1) (.agg cs)=.agg (cs.map (bE m d)):=rfl
@[simp] theorem avX(cs:PQ):bE m (d+1) (.aQ cs)=.aQ (cs.map (bE m d)):=rfl
@[simp] theorem ayF(f:FuncId)(a b:PQ):bE m (d+1) (.fn f a b)=.fn f (a.map (bE m d)) (b.map (bE m d)):=rfl
@[simp] theorem ayG(r:X2):bE m (d+1) (.sl .ro r)=.sl .ro r:=rfl
@[simp] theorem aub(r:X2):bE m (d+1) (.sl .full r)=.sl .full r:=rfl
@[simp] theorem avY(r:X2):bE m (d+1) (.sl .nil r)=.sl .nil r:=rfl
@[simp] theorem ayH(r:X2):bE m (d+1) (.sl .nn r)=.sl .nn r:=rfl
@[simp] theorem avZ(i s:Nat)(r:X2):bE m (d+1) (.sl (.own i s) r)=.sl .ro r:=rfl
@[simp] theorem ayI(r:PQ)(o:Nat):bE m (d+1) (.ep r o)=.ep r o:=rfl
@[simp] def ZX(i o n z:Nat):bE m (d+1) (.bs i o n z)=if o+n*z<=(m.boxes.getD i []).length then .sl .ro (aW z n (((m.boxes.getD i []).map (bE m d)).drop o))else .junk:=by
 simp only[bE];cases h:Nat.ble (o+n*z) (m.boxes.getD i []).length with
 |true=>rw[if_pos (zzhd h)];rfl
 |false=>rw[if_neg (fun h'=>by rw[Nat.ble_eq_true_of_le h']at h;cases h)];rfl
@[simp] theorem qg(i o:Nat):bE m (d+1) (.ptr i o)=.ep ((m.boxes.getD i []).map (bE m d)) o:=rfl
@[simp] theorem aoM(b:Bool):Yf (d+1) (.bool b)=false:=rfl
@[simp] theorem auc(k:IntKind)(n:Int):Yf (d+1) (.int k n)=false:=rfl
@[simp] theorem aud(s:ByteArray):Yf (d+1) (.str s)=false:=rfl
@[simp] theorem aoN(p:Bool):Yf (d+1) (.nilv p)=false:=rfl
@[simp] theorem anT:Yf (d+1) .nilfn=false:=rfl
@[simp] theorem aue(l:Nat):Yf (d+1) (.yld l)=false:=rfl
@[simp] theorem av0(i:Nat):Yf (d+1) (.mp i)=false:=rfl
@[simp] theorem av1(i:Nat):Yf (d+1) (.it i)=false:=rfl
@[simp] theorem aoO:Yf (d+1) .junk=false:=rfl
@[simp] theorem auf(cs:PQ):Yf (d+1) (.agg cs)=cs.any (Yf d):=rfl
@[simp] theorem aug(cs:PQ):Yf (d+1) (.aQ cs)=cs.any (Yf d):=rfl
@[simp] theorem av2(f:FuncId)(a b:PQ):Yf (d+1) (.fn f a b)=(a.any (Yf d)||b.any (Yf d)):=rfl
@[simp] theorem av3(rt:Rt)(r:X2):Yf (d+1) (.sl rt r)=false:=rfl
@[simp] theorem av4(r:PQ)(o:Nat):Yf (d+1) (.ep r o)=false:=rfl
@[simp] theorem av5(i o n z:Nat):Yf (d+1) (.bs i o n z)=true:=rfl
@[simp] theorem av6(t:TypeId)(a:Addr):Yf (d+1) (.er t a)=false:=rfl
@[simp] theorem ayJ(t:TypeId)(a:Addr):bE m (d+1) (.er t a)=.er t a:=rfl
@[simp] theorem auh(i o:Nat):Yf (d+1) (.ptr i o)=true:=rfl
@[simp] theorem aoP(b:Bool):flat (.bool b)=true:=rfl
@[simp] theorem aui(k:IntKind)(n:Int):flat (.int k n)=true:=rfl
@[simp] theorem auj(s:ByteArray):flat (.str s)=true:=rfl
@[simp] theorem anU(b:Bool):iU (.bool b)=true:=rfl
@[simp] theorem aoQ(k:IntKind)(n:Int):iU (.int k n)=true:=rfl
@[simp] theorem aoR(s:ByteArray):iU (.str s)=true:=rfl
@[simp] theorem auk(cs:PQ):flat (.aQ cs)=cs.all iU:=rfl
end
def Hp:AV->Bool
 |.bool _|.int _ _|.str _|.sl .ro _|.sl .full _|.sl .nil _|.sl .nn _|.nilfn|.ep _ _=>true
 |_=>false
@[simp] theorem aul(b:Bool):Hp (.bool b)=true:=rfl
@[simp] theorem av7(k:IntKind)(n:Int):Hp (.int k n)=true:=rfl
@[simp] theorem av8(s:ByteArray):Hp (.str s)=true:=rfl
@[simp] theorem ayK(r:X2):Hp (.sl .ro r)=true:=rfl
@[simp] theorem aum(r:X2):Hp (.sl .full r)=true:=rfl
@[simp] theorem av9(r:X2):Hp (.sl .nil r)=true:=rfl
@[simp] theorem ayL(r:X2):Hp (.sl .nn r)=true:=rfl
@[simp] theorem ayM(r:PQ)(o:Nat):Hp (.ep r o)=true:=rfl
def OM(m:AM)(d:Nat){a:AV}(h:Hp a=true):bE m (d+1) a=a:=by
 cases a<;>simp[Hp]at h |-
 rename_i rt rows;cases rt<;>simp at h |-
def Zl(row:PQ):Bool:=row.all Hp
def Vd(m:AM)(d:Nat){row:PQ}(h:Zl row=true):row.map (bE m (d+1))=row:=by
 have:row.map (bE m (d+1))=row.map id:=zzde fun a ha=>OM m d (zzbe.1 h a ha);rw[this,List.map_id]
def Qi{n:Int}(h1: -9223372036854775808<=n)(h2:n<=9223372036854775807):IntKind.i64.wrap n=n:=by
 rw[IntKind.wrap_i64];omega
def bR(i:Nat)(h:i<1000000000000000000):IntKind.i64.wrap ((i:Int)+1)=((i+1:Nat):Int):=by rw[Qi]<;>omega
def aY{α:Type}{l:List α}{i:Nat}(h:i<l.length):∃x,l[i]?=some x:=⟨_,zzad h⟩
@[simp] theorem Us(m:AM)(l:Nat)(x:LS):(m.at_ l x).boxes=m.boxes:=rfl
@[simp] theorem DK(m:AM)(l:Nat)(x:LS):(m.at_ l x).lens=m.lens:=rfl
@[simp] theorem aj2(m:AM)(l:Nat)(x:LS):(m.at_ l x).st=uD m.st l x:=rfl
@[simp] def ay8(m:AM)(l:Nat)(x y:LS):(m.at_ l x).at_ l y=m.at_ l y:=by
 simp only[AM.at_];congr 1;funext i;simp only[uD];split<;>rfl
@[simp] def aun(st:Nat->LS)(l:Nat)(x:LS):uD st l x l=x:=by simp[uD]
@[simp] def awa(st:Nat->LS)(l:Nat)(x y:LS):uD (uD st l x) l y=uD st l y:=by funext i;simp only[uD];split<;>rfl
def fN(m m':AM):Prop:=(∃bx,m'.boxes=m.boxes++bx)/\(∃lx,m'.lens=m.lens++lx)/\∀l,m.st l≠.gone->m'.st l=m.st l
def fN.refl(m:AM):fN m m:=⟨⟨[],zd⟩,⟨[],zd⟩,fun _ _=>rfl⟩
def fN.trans{m m' lH:AM}(h:fN m m')(k:fN m' lH):fN m lH:=by
 obtain⟨⟨b,h1⟩,⟨c,h2⟩,h3⟩:=h;obtain⟨⟨b',k1⟩,⟨c',k2⟩,k3⟩:=k;exact⟨⟨b++b',by rw[k1,h1,zzaz]⟩,⟨c++c',by rw[k2,h2,zzaz]⟩,fun l hl=>by rw[k3 l (by rw[h3 l hl];exact hl),h3 l hl]⟩
def fN.box(m:AM)(b:X2):fN m {m with boxes:=m.boxes++b}:=⟨⟨b,rfl⟩,⟨[],zd⟩,fun _ _=>rfl⟩
def fN.gone{m m':AM}(h:fN m m')(l:Nat):fN (m.at_ l .gone) (m'.at_ l .gone):=
 ⟨h.1,h.2.1,fun l' fG=>by
  by_cases e:l'=l
  ·subst e;simp at fG
  simp only[aj2,uD,e,if_false]at fG |-;exact h.2.2 l' fG⟩
def wQ(y:PQ->AM->(Bool->AM->Prop)->Prop)(K:AM->Prop):X2->AM->Prop
 |[],m=>∀m',fN m m'->K m'
 |x::xs,m=>∀m',fN m m'->∀K':Bool->AM->Prop,(∀lH,wQ y K xs lH->K' true lH)->(∀lH,(∀m3,fN lH m3->K m3)->K' false lH)->y x m' K'
def wQ.ext{y:PQ->AM->(Bool->AM->Prop)->Prop}{K:AM->Prop}{xs:X2}{m m':AM}(h:wQ y K xs m)(e:fN m m'):wQ y K xs m':=by
 cases xs with
 |nil=>exact fun m2 e2=>h m2 (e.trans e2)
 |cons x xs=>exact fun m2 e2=>h m2 (e.trans e2)
def Iter(P:Program)(gl:Nat->AV)(f:FuncId)(first cap:PQ)(xs:X2):Prop:=
 ∀(Y:YT)(l:Nat)(m:AM)(K:AM->Prop),wQ (Y l) K xs m->aA P gl Y f (first++[.yld l]++cap) m fun _ m'=>K m'
def jm{P:Program}{gl:Nat->AV}{orc:X1}{Y:YT}{s:AS}{Q:T5}{g:bM}{ps:P1}{pz body:SC}{f:FuncId}{first cap:PQ}{xs:X2}
  (hg:ev gl s.T g=.fn f first cap)(cN:Iter P gl f first cap xs)(aH:∀x∈xs,x.length=ps.length)(I:Nat->AM->Prop)(X:Exit->AM->Prop)(h0:I 0 s.m)
  (hI:∀i m m',I i m->fN m m'->I i m')(hX:∀ex m m',X ex m->fN m m'->X ex m')
  (
   hb:∀(l i:Nat)(m:AM)(x:PQ),s.m.st l=.gone->m.st l=.ready->I i (m.at_ l .gone)->xs[i]?=some x->∀K':T5,
   (∀s',I (i+1) (s'.m.at_ l .gone)->K' .normal s')->(∀s',X .ret (s'.m.at_ l .gone)->K' .ret s')->(∀id s',X (.exit id) (s'.m.at_ l .gone)->K' (.exit id) s')->
   vc P gl orc Y pz ⟨Qbs s.T ps x,m⟩ (QN l fun s'=>vc P gl orc Y body s' K'))
  (W7:∀m,I xs.length m->Q .normal ⟨s.T,m⟩)(hex:∀ex m,X ex m->Q ex ⟨s.T,m⟩):vc P gl orc Y (.rfunc g ps pz body) s Q:=by
 simp only[vc,hg];intro hl;generalize ei:s.m.ln=l at hl;refine cN _ l s.m.bL (fun m'=>KN l s.T m' Q (m'.st l)) ?_;have fB:∀{m m':AM},m.st l=.ready->fN m m'->m'.st l=.ready:=fun h e=>by rw[e.2.2 l (by rw[h];simp),h]
 have key:∀(n i:Nat)(m:AM),i+n=xs.length->I i (m.at_ l .gone)->m.st l=.ready->wQ (Yin Y l ps.length (fun args m K=>vc P gl orc Y pz ⟨Qbs s.T ps args,m⟩ (QN l fun s'=>vc P gl orc Y body s' (WJ l K))) l) (fun m'=>KN l s.T m' Q (m'.st l)) (xs.drop i) m:=by
  intro n;induction n with
  |zero=>
   intro i m hi hIm hm;rw[zzam zE];intro m' e;simp only[fB hm e,KN];obtain rfl:i=xs.length:=zE
   exact W7 _ (hI _ _ _ hIm (e.gone l))
  |succ n ih=>
   intro i m hi hIm hm;have aa:i<xs.length:=zE
   rw[zzaf aa];intro m' e K' hT hF;simp only[Yin,if_true];refine⟨fB hm e,aH _ (zzdg aa),?_⟩;refine hb l i m' xs[i] hl (fB hm e) (hI _ _ _ hIm (e.gone l)) (zzad aa) (WJ l K') (fun s' lI=>?_) (fun s' hQ=>?_) fun id s' hQ=>?_
   ·refine hT _ (ih (i+1) _ zE ?_ zd);simpa using lI
   ·refine hF _ fun m3 e3=>?_;have h3:m3.st l=.done .ret:=by have:=e3.2.2 l zd;simpa using this
    simp only[h3];exact hex _ _ (hX _ _ _ hQ (by have:=e3.gone l;simpa using this))
   refine hF _ fun m3 e3=>?_;have h3:m3.st l=.done (.exit id):=by have:=e3.2.2 l zd;simpa using this
   simp only[h3];exact hex _ _ (hX _ _ _ hQ (by have:=e3.gone l;simpa using this))
 have:=key xs.length 0 s.m.bL zd (hI 0 s.m _ h0 ⟨⟨[],by simp[AM.bL]⟩,⟨[],by simp[AM.bL]⟩,fun l' fG=>by
  have:l'≠l:=by rintro rfl;exact fG hl
  simp[AM.bL,ei,uD,this]⟩) (by simp[AM.bL,ei])
 simpa using this
attribute [simp] Qbs
section
variable (l:Nat) (k:AS->Prop) (s:AS) (id:Nat)
@[simp] def aj3:QN l k .normal s=(s.m.st l=.ready/\k ⟨s.T,s.m.at_ l .busy⟩):=nd rfl
end
def look:R0->Nat->AV
 |[],_=>.junk
 |(d,v)::r,t=>if d=t then v else look r t
def Zr(n:Nat)(E:R0):PQ:=(List.range n).map (look E)
def mP:Nat->PQ->R0
 |_,[]=>[]
 |i,a::r=>(i,a)::mP (i+1) r
@[simp] theorem si(d:Nat)(v:AV)(r:R0)(t:Nat):look ((d,v)::r) t=if d=t then v else look r t:=rfl
@[simp] theorem look_nil(t:Nat):look [] t=.junk:=rfl
@[simp] theorem aoS(i:Nat):mP i []=[]:=rfl
@[simp] theorem MC(i:Nat)(a:AV)(r:PQ):mP i (a::r)=(i,a)::mP (i+1) r:=rfl
@[simp] def agv{n t:Nat}{E:R0}(h:t<n):nth (Zr n E) t=look E t:=by
 simp[nth,Zr,zzaw,-Qbg,h]
def Zi{n d:Nat}{E:R0}(h:d<n)(v:AV):(Zr n E).set d v=Zr n ((d,v)::E):=by
 apply zzey (by simp[Zr]);intro i h1 h2;rw[List.getElem_set];simp[Zr]
@[simp] def awb{n d:Nat}{E:R0}(h:d<n)(v:AV):put (Zr n E) (some d) v=Zr n ((d,v)::E):=Zi h v
@[simp] theorem auo(T:PQ)(v:AV):put T none v=T:=rfl
@[simp] def aoT{n d:Nat}{E:R0}(h:d<n)(ps:P1)(x:AV)(xs:PQ):Qbs (Zr n E) (d::ps) (x::xs)=Qbs (Zr n ((d,x)::E)) ps xs:=by
 rw[Qbs,Zi h]
def y9:∀(l:PQ)(i t:Nat),look (mP i l) t=if i<=t then l.getD (t-i) .junk else .junk
 |[],i,t=>by simp[-Qbg]
 |a::r,i,t=>by
  rw[MC,si,y9 r (i+1) t];by_cases h:i=t
  ·subst h;simp[-Qbg]
  rw[if_neg h];by_cases h':i<=t
  ·rw[if_pos zE,if_pos h',show t-i=(t-(i+1))+1 by omega];simp[-Qbg]
  rw[if_neg zE,if_neg h']
def sj{n:Nat}{l:PQ}(h:l.length<=n):l++List.replicate (n-l.length) .junk=Zr n (mP 0 l):=by
 apply zzey
 ·simp[Zr];omega
 intro i h1 h2;simp only[Zr,List.getElem_map,List.getElem_range,y9,zzbi,if_true,zzet];rw[List.getElem_append];split
 ·rename_i hi;simp[zzaw,-Qbg,hi]
 rename_i hi;simp[zzaw,-Qbg,hi]
section
variable {P:Program} {gl:Nat->AV} {Y:YT}
def Qn{f:FuncId}{sc:SC}{rs:List aF}{n:Nat}(hc:cV P f sc rs n)(orc:X1){l:PQ}{r:AV}(hn:l.length<=n)
  (h:vc P gl orc Y0 sc ⟨Zr n (mP 0 l),⟨[],[],fun _=>.gone,0⟩⟩ (post P gl orc rs r)):Pure P gl f l r:=aev hc orc (by rw[sj hn];exact h)
def Xh{f:FuncId}{sc:SC}{rs:List aF}{n:Nat}(hc:cV P f sc rs n)(orc:X1){l:PQ}{m:AM}{K:UV}(hn:l.length<=n)
  (h:vc P gl orc Y sc ⟨Zr n (mP 0 l),m⟩ (wM P gl orc rs K)):aA P gl Y f l m K:=WX hc orc (by rw[sj hn];exact h)
def Pc{f:FuncId}{sc:SC}{rs:List aF}{n:Nat}(hc:cV P f sc rs n)(orc:X1){l:PQ}{m:AM}{K:List PanicEntry->AM->Prop}(hn:l.length<=n)
  (h:vc P gl orc Y sc ⟨Zr n (mP 0 l),m⟩ (N7 K)):Fv P gl Y f l m K:=aeu hc orc (by rw[sj hn];exact h)
end
def gj(W:P1)(E' E:R0):Prop:=∀t,W.contains t=false->look E' t=look E t
def Qb(W:P1)(E:R0):gj W E E:=fun _ _=>rfl
def Qc{W:P1}{E' E:R0}{k:Nat}(v:AV)(hk:W.contains k=true)(h:gj W E' E):gj W ((k,v)::E') E:=fun t ht=>by
 rw[si,if_neg (by rintro rfl;rw[hk]at ht;cases ht)];exact h t ht
def lD(n:Nat)(E:R0)(W:P1)(R:(Nat->AV)->AM->Prop)(μ:(Nat->AV)->AM->Nat)(f:Nat->AV)(m:AM)(Q:T5):T5
 |.normal,s'=>(∃E',s'.T=Zr n E'/\gj W E' E)/\R (nth s'.T) s'.m/\μ (nth s'.T) s'.m<μ f m
 |ex,s'=>Q ex s'
def Qcg(f:Nat->AV):P1->R0->R0
 |[],E=>E
 |i::W,E=>(i,f i)::Qcg f W E
@[simp] theorem anV(f:Nat->AV)(E:R0):Qcg f [] E=E:=rfl
@[simp] theorem Ip(f:Nat->AV)(i:Nat)(W:P1)(E:R0):Qcg f (i::W) E=(i,f i)::Qcg f W E:=rfl
def j7(f:Nat->AV)(E:R0)(t:Nat):∀W,look (Qcg f W E) t=if W.contains t then f t else look E t
 |[]=>zd
 |i::W=>by
  rw[Ip,si,j7 f E t W];by_cases h:i=t
  ·subst h;simp
  have h':t≠i:=Ne.symm h;simp[h,h']
def El(f:Nat->AV)(W:P1)(E:R0):gj W (Qcg f W E) E:=fun t ht=>by rw[j7,ht];rfl
def agw{n:Nat}{E E':R0}(h:∀t,t<n->look E t=look E' t):Zr n E=Zr n E':=zzde fun t ht=>h t (zzba.1 ht)
def Cf{n:Nat}{W:P1}{E:R0}{T:PQ}:(∃E',T=Zr n E'/\gj W E' E)<->T=Zr n (Qcg (nth T) W E):=by
 constructor
 ·rintro⟨E',rfl,h⟩;refine agw fun t ht=>?_;rw[j7];cases hc:W.contains t with
  |true=>simp only[if_true];rw[agv ht]
  |false=>simp only[zzbp,if_false];exact h t hc
 exact fun h=>⟨_,h,El _ _ _⟩
def Qj{P:Program}{gl:Nat->AV}{orc:X1}{Y:YT}{n:Nat}{E:R0}{m0:AM}{Q:T5}{c:SC}(W:P1)(R:(Nat->AV)->AM->Prop)(μ:(Nat->AV)->AM->Nat)
  (h0:R (nth (Zr n E)) m0)(hr:∀f m,R f m->vc P gl orc Y c ⟨Zr n (Qcg f W E),m⟩ (lD n E W R μ f m Q)):vc P gl orc Y (.loop c) ⟨Zr n E,m0⟩ Q:=by
 refine ago P gl orc Y ⟨Zr n E,m0⟩ Q (fun s'=>s'.T=Zr n (Qcg (nth s'.T) W E)/\R (nth s'.T) s'.m) (fun s'=>μ (nth s'.T) s'.m) ⟨Cf.1 ⟨E,rfl,Qb _ _⟩,h0⟩ ?_;rintro⟨T',m'⟩ ⟨h1,h2⟩;have:=hr _ m' h2;rw[<- h1]at this
 have e:lD n E W R μ (nth T') m' Q=nx (fun s'=>s'.T=Zr n (Qcg (nth s'.T) W E)/\R (nth s'.T) s'.m) (fun s'=>μ (nth s'.T) s'.m) ⟨T',m'⟩ Q:=by
  funext ex s';cases ex<;>simp[lD,nx,and_assoc,Cf]
 rwa [e]at this
section
variable (n:Nat) (E:R0) (W:P1) (R:(Nat->AV)->AM->Prop) (μ:(Nat->AV)->AM->Nat) (f:Nat->AV) (m:AM) (Q:T5) (s:AS) (id:Nat)
@[simp] theorem aa0:lD n E W R μ f m Q .normal s=((∃E',s.T=Zr n E'/\gj W E' E)/\R (nth s.T) s.m/\μ (nth s.T) s.m<μ f m):=rfl
@[simp] theorem agx:lD n E W R μ f m Q (.exit id) s=Q (.exit id) s:=rfl
@[simp] theorem aj4:lD n E W R μ f m Q .ret s=Q .ret s:=rfl
end
def ag{n:Nat}{E' E:R0}{W:P1}(h:gj W E' E):∃E1,Zr n E'=Zr n E1/\gj W E1 E:=⟨E',rfl,h⟩
def aR{n:Nat}{E' E:R0}{W:P1}(h:gj W E' E:=by repeat(first|exact Qb _ _|refine Qc _ rfl ?_)):∃E1,Zr n E'=Zr n E1/\gj W E1 E:=ag h
def j8(P:Program):List Field->Nat->Option Nat
 |[],n=>some n
 |f::r,n=>if f.offset=n then j8 P r (n+P.cellsOf f.type)else none
def okT(P:Program):Nat->TypeId->Bool
 |0,_=>false
 |d+1,t=>match P.underlying t with
  |some .bool|some (.int _)|some .string=>P.cellsOf t==1
  |some (.slice e)=>((P.cellsOf t==1)&&!(P.cellsOf e==0))&&okT P d e
  |some (.struct fs)=>(j8 P fs.toList 0==some (P.cellsOf t))&&fs.toList.all fun f=>okT P d f.type
  |some (.array n e)=>(P.cellsOf t==n*P.cellsOf e)&&okT P d e
  |_=>false
def c9{H:Type}(P:Program):Nat->TypeId->DataW H->PQ
 |0,_,_=>[]
 |d+1,t,x=>match P.underlying t,x with
  |some .bool,.lit (.bool b)=>[.bool b]
  |some (.int _),.lit (.int k n)=>[.int k n]
  |some .string,.lit (.string s)=>[.str ⟨s.toArray⟩]
  |some (.slice _),.nil=>[.sl .nil []]
  |some (.slice e),.slice bP _=>[.sl .nn (bP.map (c9 P d e))]
  |some (.struct fs),.agg parts=>(fs.toList.zip parts).flatMap fun p=>c9 P d p.1.type p.2
  |some (.array _ e),.agg parts=>parts.flatMap (c9 P d e)
  |_,_=>[]
def Typed{H:Type}(P:Program):Nat->TypeId->DataW H->Prop
 |0,_,_=>False
 |d+1,t,x=>match P.underlying t,x with
  |some .bool,.lit (.bool _)=>True
  |some (.int k),.lit (.int k' n)=>k'=k/\(Lit.int k n).wf=true
  |some .string,.lit (.string s)=>s.length<=maxLen
  |some (.slice _),.nil=>True
  |some (.slice e),.slice bP _=>bP.length<=maxLen/\∀y∈bP,Typed P d e y
  |some (.struct fs),.agg parts=>parts.length=fs.size/\∀p∈fs.toList.zip parts,Typed P d p.1.type p.2
  |some (.array n e),.agg parts=>parts.length=n/\∀y∈parts,Typed P d e y
  |_,_=>False
def BY:Nat->Nat->Prop:=fun _ _=>True
section
variable {H:Type} {enc:TypeId×Value->H} {P:Program} {w:World} {base:Nat} {sp:Nat->Bool} {held:Bool}
def MD{a:Addr}{n:Nat}{cs:PH}(h:w.cells? base a n=some cs):cs.length=n/\∀(j:Nat)(v:Value),cs[j]?=some v->w.cell? (a.add j)=some v:=by
 unfold World.cells? at h;split at h
 ·obtain⟨h1,h2⟩:=Qcx _ _ _ h;refine⟨Pi h1,fun j v hj=>?_⟩
  have aa:j<n:=by
   have:=(zza.1 hj).1;simp at h1;omega
  exact h2 j j v (by simp[aa]) hj
 cases h
def Em{γ:G}:∀(l:X2)(aa1:List (PH)),l.length=aa1.length->(∀(i:Nat)(as':PQ)(vs:PH),l[i]?=some as'->aa1[i]?=some vs->ak w γ as' vs)->ak w γ l.flatten aa1.flatten
 |[],[],_,_=>ak.nil
 |[],_::_,h,_=>by simp at h
 |_::_,[],h,_=>by simp at h
 |as'::l,vs::aa1,h,hr=>by
  rw[zzci,zzci];exact(hr 0 as' vs rfl rfl).append (Em l aa1 (Pi h) fun i as' vs h1 h2=>hr (i+1) as' vs (Pi h1) (Pi h2))
def tH{cs:PH}:∀(fs:List Field)(n m:Nat),j8 P fs n=some m->m=cs.length->n<=cs.length->(fs.map fun f=>(cs.drop f.offset).take (P.cellsOf f.type)).flatten=cs.drop n
 |[],n,m,h,hm,hn=>by simp[j8]at h;subst h;subst hm;simp
 |f::fs,n,m,h,hm,hn=>by
  simp only[j8]at h;split at h
  ·rename_i ho;subst ho
   have cR:∀(fs:List Field)(n m:Nat),j8 P fs n=some m->n<=m:=by
    intro fs;induction fs with
    |nil=>intro n m h;simp[j8]at h;omega
    |cons f fs ih=>
     intro n m h;simp only[j8]at h;split at h
     ·have:=ih _ _ h;omega
     cases h
   have h1:=cR _ _ _ h;have ih:=tH fs _ m h hm zE;rw[zzay,zzci,ih];rw[<- zzdi,zzdq]
  cases h
def ME{cs:PH}{k:Nat}:∀(n:Nat),cs.length=n*k->((List.range n).map fun i=>(cs.drop (i*k)).take k).flatten=cs:=by
 intro n hn
 have key:∀m,m<=n->((List.range m).map fun i=>(cs.drop (i*k)).take k).flatten=cs.take (m*k):=by
  intro m;induction m with
  |zero=>simp
  |succ m ih=>
   intro hm;rw[zzfh,zzch,zzem,ih zE];simp only[zzay,zzcu,zzci,List.flatten_nil,zzas];rw[zzbl,zzdl,List.take_add]
 rw[key n (zzaa _),<- hn,zzbs]
def trod_bool{t:TypeId}{aZ:Nat}{cs:PH}{x:DataW H}{ps:List MemPlace}(hu:P.underlying t=some .bool)(h:DataW.trod enc P w base sp held (aZ+1) t cs=some (x,ps)):∃b,cs=[.bool b]/\x=.lit (.bool b):=by
 unfold DataW.trod at h;rw[hu]at h;obtain _|⟨v,_|⟨_,_⟩⟩:=cs
 ·cases h
 ·cases v<;>first|(cases h;done)|(cases h;exact⟨_,rfl,rfl⟩)
 cases v<;>first|(cases h;done)|(simp at h;done)
def trod_int{t:TypeId}{k:IntKind}{aZ:Nat}{cs:PH}{x:DataW H}{ps:List MemPlace}(hu:P.underlying t=some (.int k))(h:DataW.trod enc P w base sp held (aZ+1) t cs=some (x,ps)):∃n,cs=[.int k n]/\x=.lit (.int k n)/\(Lit.int k n).wf=true:=by
 unfold DataW.trod at h;rw[hu]at h;obtain _|⟨v,_|⟨_,_⟩⟩:=cs
 ·cases h
 ·cases v<;>first|(cases h;done)|skip
  simp only at h;split at h
  ·rename_i hk;cases h;rw[hk.1];exact⟨_,rfl,rfl,hk.2⟩
  cases h
 cases v<;>first|(cases h;done)|(simp at h;done)
def aa2{t:TypeId}{aZ:Nat}{cs:PH}{x:DataW H}{ps:List MemPlace}(hu:P.underlying t=some .string)(h:DataW.trod enc P w base sp held (aZ+1) t cs=some (x,ps)):∃s,cs=[.string s]/\x=.lit (.string s.data.toList)/\s.size<=maxLen:=by
 unfold DataW.trod at h;rw[hu]at h;obtain _|⟨v,_|⟨_,_⟩⟩:=cs
 ·cases h
 ·cases v<;>first|(cases h;done)|skip
  simp only at h;split at h
  ·rename_i hk;cases h;exact⟨_,rfl,rfl,hk⟩
  cases h
 cases v<;>first|(cases h;done)|(simp at h;done)
def agy{t e:TypeId}{aZ:Nat}{cs:PH}{x:DataW H}{ps:List MemPlace}(hu:P.underlying t=some (.slice e))(h:DataW.trod enc P w base sp held (aZ+1) t cs=some (x,ps)):
  (
   cs=[.slice none 0 0]/\x=.nil)\/∃a len cap bP rest,cs=[.slice (some a) len cap]/\len<=cap/\cap<=maxLen/\x=.slice (bP.map (·.1)) rest/\
   (List.range len).mapM (fun i=>(w.cells? base (a.add (i*P.cellsOf e)) (P.cellsOf e)).bind (DataW.trod enc P w base sp held aZ e))=some bP:=by
 unfold DataW.trod at h;rw[hu]at h;obtain _|⟨v,_|⟨_,_⟩⟩:=cs
 ·cases h
 ·cases v<;>first|(cases h;done)|skip
  rename_i a len cap;cases a with
  |none=>cases len<;>cases cap<;>first|(cases h;done)|(cases h;exact .inl ⟨rfl,rfl⟩)
  |some a=>
   simp only at h;split at h
   case isFalse=>cases h
   rename_i hc;cases hm:(List.range len).mapM (fun i=>(w.cells? base (a.add (i*P.cellsOf e)) (P.cellsOf e)).bind (DataW.trod enc P w base sp held aZ e))with
   |none=>rw[hm]at h;cases h
   |some bP=>
    rw[hm]at h;simp only[zzcw,zzbd]at h;obtain⟨rest,_,h2⟩:=h;cases h2;exact .inr ⟨a,len,cap,bP,_,rfl,hc.2.1,hc.2.2,rfl,hm⟩
 cases v<;>first|(cases h;done)|skip
 rename_i a len cap;cases a with
 |none=>cases len<;>cases cap<;>first|(cases h;done)|(simp at h;done)
 |some a=>first|(cases h;done)|(simp at h;done)
def trod_struct{t:TypeId}{fs:Array Field}{aZ:Nat}{cs:PH}{x:DataW H}{ps:List MemPlace}(hu:P.underlying t=some (.struct fs))(h:DataW.trod enc P w base sp held (aZ+1) t cs=some (x,ps)):
  cs.length=P.cellsOf t/\∃xs,x=.agg (xs.map (·.1))/\fs.toList.mapM (fun f=>DataW.trod enc P w base sp held aZ f.type ((cs.drop f.offset).take (P.cellsOf f.type)))=some xs:=by
 unfold DataW.trod at h;rw[hu]at h;simp only at h;split at h
 case isFalse=>cases h
 rename_i hc;simp only[zzbd]at h;obtain⟨xs,h1,h2⟩:=h;cases h2;exact⟨hc,xs,rfl,h1⟩
def trod_array{t e:TypeId}{n:Nat}{aZ:Nat}{cs:PH}{x:DataW H}{ps:List MemPlace}(hu:P.underlying t=some (.array n e))(h:DataW.trod enc P w base sp held (aZ+1) t cs=some (x,ps)):
  cs.length=P.cellsOf t/\∃xs,x=.agg (xs.map (·.1))/\(List.range n).mapM (fun i=>DataW.trod enc P w base sp held aZ e ((cs.drop (i*P.cellsOf e)).take (P.cellsOf e)))=some xs:=by
 unfold DataW.trod at h;rw[hu]at h;simp only at h;split at h
 case isFalse=>cases h
 rename_i hc;simp only[zzbd]at h;obtain⟨xs,h1,h2⟩:=h;cases h2;exact⟨hc,xs,rfl,h1⟩
def jZ:∀(d aZ:Nat)(t:TypeId)(cs:PH)(x:DataW H)(ps:List MemPlace),DataW.trod enc P w base sp held aZ t cs=some (x,ps)->okT P d t=true->
  Typed P d t x/\ak w (G0 BY) (c9 P d t x) cs/\(c9 P d t x).all Qw=true/\cs.length=P.cellsOf t
 |0,_,_,_,_,_,_,h=>by cases h
 |d+1,0,_,_,_,_,h,_=>by cases h
 |d+1,aZ+1,t,cs,x,ps,h,ck=>by
  unfold okT at ck;cases hu:P.underlying t with
  |none=>simp[hu]at ck
  |some desc=>
   rw[hu]at ck;cases desc with
   |bool=>
    obtain⟨b,rfl,rfl⟩:=trod_bool hu h;exact⟨by simp[Typed,hu],by simp only[c9,hu];exact ak.cons (.bool b) ak.nil,by simp[c9,hu,Qw],(eq_of_beq ck).symm⟩
   |int k=>
    obtain⟨n,rfl,rfl,hw⟩:=trod_int hu h;exact⟨by simp[Typed,hu,hw],by simp only[c9,hu];exact ak.cons (.int k n) ak.nil,by simp[c9,hu,Qw],(eq_of_beq ck).symm⟩
   |string=>
    obtain⟨s,rfl,rfl,hw⟩:=aa2 hu h;refine⟨by simpa[Typed,hu]using hw,?_,by simp[c9,hu,Qw],(eq_of_beq ck).symm⟩;simp only[c9,hu];have:(⟨s.data.toList.toArray⟩:ByteArray)=s:=by cases s;simp
    rw[this];exact ak.cons (.str s) ak.nil
   |slice e=>
    simp only[zzai]at ck;rcases agy hu h with⟨rfl,rfl⟩|⟨a,len,cap,bP,rest,rfl,hlc,hcm,rfl,hm⟩
    ·exact⟨by simp[Typed,hu],by simp only[c9,hu];exact ak.cons CR ak.nil,by simp[c9,hu,Qw],(eq_of_beq ck.1.1).symm⟩
    obtain⟨hl,hg⟩:=Qcx _ _ _ hm;have fG:bP.length=len:=by simpa using hl
    have Tc:∀(i:Nat)(y:DataW H×List MemPlace),bP[i]?=some y->∃ec,ec.length=P.cellsOf e/\(∀(j:Nat)(v:Value),ec[j]?=some v->w.cell? ((a.add (i*P.cellsOf e)).add j)=some v)/\Typed P d e y.1/\ak w (G0 BY) (c9 P d e y.1) ec/\(c9 P d e y.1).all Qw=true:=fun i y hy=>by
     have hi:i<len:=by rw[<- fG];exact(zza.1 hy).1
     have:=hg i i y (by simp[hi]) hy;cases hc:w.cells? base (a.add (i*P.cellsOf e)) (P.cellsOf e)with
     |none=>rw[hc]at this;cases this
     |some ec=>
      rw[hc]at this;obtain⟨y1,y2⟩:=y;obtain⟨g1,g2,g3,g4⟩:=jZ d aZ e ec y1 y2 this ck.2;obtain⟨c1,c2⟩:=MD hc;exact⟨ec,c1,c2,g1,g2,g3⟩
    refine⟨?_,?_,by simp[c9,hu,Qw],(eq_of_beq ck.1.1).symm⟩
    ·simp only[Typed,hu];refine⟨by simp;omega,fun y hy=>?_⟩;simp only[zzbh]at hy;obtain⟨p,hp,rfl⟩:=hy;obtain⟨i,hi⟩:=zzcq.1 hp;obtain⟨ec,_,_,g1,_⟩:=Tc i p hi;exact g1
    simp only[c9,hu];refine ak.cons ?_ ak.nil;have ew:((bP.map (·.1)).map (c9 P d e)).length=len:=by simp[fG]
    have hz:P.cellsOf e≠0:=by simpa using ck.1.2
    have aa3:((bP.map (·.1)).map (c9 P d e))≠[]->a=⟨a.block,a.off,none⟩/\a.block<w.heap.size:=fun hn=>by
     cases helems:bP with
     |nil=>simp[helems]at hn
     |cons y ys=>
      obtain⟨ec,c1,c2,_,g2,_⟩:=Tc 0 y (by simp[helems]);cases hec:ec with
      |nil=>rw[hec]at c1;exact absurd c1.symm hz
      |cons v vs=>
       have:=c2 0 v (by simp[hec]);simp only[zzhn,Addr.add,if_true]at this;unfold World.cell? at this;split at this
       ·rename_i hb;split at this
        ·cases this
        rename_i hs;refine⟨?_,aS hb⟩;cases a;simp at hs;simp[hs]
       cases this
    have ou:∀(i j:Nat)(c:AV),Qs ((bP.map (·.1)).map (c9 P d e)) i j=some c->∃v,w.cell? ⟨a.block,a.off+i*P.cellsOf e+j,none⟩=some v/\au w (G0 BY) c v/\Qw c=true:=fun i j c hc=>by
     have aJ:((bP.map (·.1)).map (c9 P d e))≠[]:=by rintro h0;rw[h0]at hc;simp[Qs]at hc
     obtain⟨ha,_⟩:=aa3 aJ;unfold Qs at hc;cases hy:bP[i]? with
     |none=>simp[hy]at hc
     |some y=>
      simp[hy]at hc;obtain⟨ec,c1,c2,_,g2,g3⟩:=Tc i y hy;have hj:j<ec.length:=by rw[<- g2.1];exact(zza.1 hc).1
      have hv:ec[j]?=some ec[j]:=zzad hj;refine⟨ec[j],?_,g2.2 j c _ hc hv,zzbe.1 g3 c (zzac hc)⟩;have:=c2 j _ hv;rw[ha,bq,bq]at this;exact this
    have:=au.sl (w:=w) (γ:=G0 BY) (rt:=.nn) (rows:=(bP.map (·.1)).map (c9 P d e)) (a:=some a) (cap:=cap) a.block a.off (P.cellsOf e) (fun i j=>(w.cell? ⟨a.block,a.off+i*P.cellsOf e+j,none⟩).getD undef)
     (by rw[ew];exact hlc) (fun h=>by cases h) (fun hn=>⟨by rw[<- (aa3 hn).1],(aa3 hn).2⟩) (fun row ai=>?_) (fun i j c hc=>?_) (fun i j c hc=>?_) (by simp[tL])
    ·rwa [ew]at this
    ·simp only[zzdc,zzbh]at ai;obtain⟨p,hp,rfl⟩:=ai;obtain⟨i,hi⟩:=zzcq.1 hp;obtain⟨ec',c1',_,_,g2',_⟩:=Tc i p hi;have:=g2'.1;simp only[Function.comp];omega
    ·obtain⟨v,h1,h2,h3⟩:=ou i j c hc;rw[h1];exact⟨rfl,trivial,uv h2 h3⟩
    obtain⟨v,h1,h2,h3⟩:=ou i j c hc;rw[h1];exact h2
   |struct fs=>
    simp only[zzai,zzbe]at ck;obtain⟨aH,xs,rfl,hm⟩:=trod_struct hu h;obtain⟨hl,hg⟩:=Qcx _ _ _ hm
    have Tc:∀(i:Nat)(f:Field)(y:DataW H×List MemPlace),fs.toList[i]?=some f->xs[i]?=some y->Typed P d f.type y.1/\ak w (G0 BY) (c9 P d f.type y.1) ((cs.drop f.offset).take (P.cellsOf f.type))/\(c9 P d f.type y.1).all Qw=true:=fun i f y hf hy=>by
     obtain⟨y1,y2⟩:=y;obtain⟨g1,g2,g3,_⟩:=jZ d aZ f.type _ y1 y2 (hg i f (y1,y2) hf hy) (ck.2 f (zzac hf));exact⟨g1,g2,g3⟩
    have aup:∀p∈fs.toList.zip (xs.map (·.1)),∃(i:Nat)(f:Field)(y:DataW H×List MemPlace),fs.toList[i]?=some f/\xs[i]?=some y/\p=(f,y.1):=fun p hp=>by
     obtain⟨i,hi⟩:=zzcq.1 hp;rw[zzgs]at hi;obtain⟨h1,h2⟩:=hi;simp only[zzbf,zzbd]at h2;obtain⟨y,h2,h3⟩:=h2;exact⟨i,p.1,y,h1,h2,by rw[h3]⟩
    refine⟨?_,?_,?_,aH⟩
    ·simp only[Typed,hu];refine⟨Pi hl,fun p hp=>?_⟩;obtain⟨i,f,y,h1,h2,rfl⟩:=aup p hp;exact(Tc i f y h1 h2).1
    ·simp only[c9,hu];have agz:=tH (P:=P) (cs:=cs) fs.toList 0 (P.cellsOf t) (eq_of_beq ck.1) aH.symm (zzbi _);rw[zzd]at agz
     have:ak w (G0 BY) ((fs.toList.zip (xs.map (·.1))).map fun p=>c9 P d p.1.type p.2).flatten (fs.toList.map fun f=>(cs.drop f.offset).take (P.cellsOf f.type)).flatten:=by
      refine Em _ _ (by simp at hl |-;omega) fun i as' vs h1 h2=>?_;simp only[zzbf,zzbd]at h1 h2;obtain⟨p,hp,rfl⟩:=h1;obtain⟨f,hf,rfl⟩:=h2;rw[zzgs]at hp;obtain⟨q1,q2⟩:=hp;rw[hf]at q1;simp only[zzbf,zzbd]at q2;obtain⟨y,hy,q2⟩:=q2;rw[<- Option.some.inj q1,<- q2];exact(Tc i f y hf hy).2.1
     rw[agz]at this;rwa [List.flatMap_def]
    simp only[c9,hu,zzbe,zzgv];rintro v ⟨p,hp,hv⟩;obtain⟨i,f,y,h1,h2,rfl⟩:=aup p hp;exact zzbe.1 (Tc i f y h1 h2).2.2 v hv
   |array n e=>
    simp only[zzai]at ck;obtain⟨aH,xs,rfl,hm⟩:=trod_array hu h;obtain⟨hl,hg⟩:=Qcx _ _ _ hm;have fG:xs.length=n:=by simpa using hl
    have Tc:∀(i:Nat)(y:DataW H×List MemPlace),xs[i]?=some y->Typed P d e y.1/\ak w (G0 BY) (c9 P d e y.1) ((cs.drop (i*P.cellsOf e)).take (P.cellsOf e))/\(c9 P d e y.1).all Qw=true:=fun i y hy=>by
     have hi:i<n:=by rw[<- fG];exact(zza.1 hy).1
     obtain⟨y1,y2⟩:=y;obtain⟨g1,g2,g3,_⟩:=jZ d aZ e _ y1 y2 (hg i i (y1,y2) (by simp[hi]) hy) ck.2;exact⟨g1,g2,g3⟩
    refine⟨?_,?_,?_,aH⟩
    ·simp only[Typed,hu];refine⟨Pi fG,fun y hy=>?_⟩;simp only[zzbh]at hy;obtain⟨p,hp,rfl⟩:=hy;obtain⟨i,hi⟩:=zzcq.1 hp;exact(Tc i p hi).1
    ·simp only[c9,hu];have agz:=ME (cs:=cs) (k:=P.cellsOf e) n (by rw[aH];exact eq_of_beq ck.1)
     have:ak w (G0 BY) ((xs.map (·.1)).map (c9 P d e)).flatten ((List.range n).map fun i=>(cs.drop (i*P.cellsOf e)).take (P.cellsOf e)).flatten:=by
      refine Em _ _ (by simp[fG]) fun i as' vs h1 h2=>?_;simp only[zzdc,zzbf,zzbd]at h1 h2;obtain⟨y,hy,rfl⟩:=h1;obtain⟨j,hj,rfl⟩:=h2;have hi:i<n:=by rw[<- fG];exact(zza.1 hy).1
      simp[hi]at hj;subst hj;exact(Tc i y hy).2.1
     rw[agz]at this;rwa [List.flatMap_def]
    simp only[c9,hu,zzbe,zzgv,zzbh];rintro v ⟨y,⟨p,hp,rfl⟩,hv⟩;obtain⟨i,hi⟩:=zzcq.1 hp;exact zzbe.1 (Tc i p hi).2.2 v hv
   |_=>simp at ck
def mO(P:Program)(d:Nat)(t:TypeId)(x:DataW H):AV:=if Jh P t then .agg (c9 P d t x)else(c9 P d t x).headD .junk
def agB{r:Reach}{b0:Nat}{t:TypeId}{v:Value}(cU:Value.okWide P w r b0 t v)(ha:Jh P t=false)(ck:∃d,okT P d t=true):v.cells.toList=[v]:=by
 unfold Value.okWide at cU;unfold Jh at ha;obtain⟨d,ck⟩:=ck;cases d with
 |zero=>cases ck
 |succ d=>
  unfold okT at ck;cases hu:P.underlying t with
  |none=>simp[hu]at ck
  |some desc=>
   rw[hu]at cU ha ck;cases desc<;>simp at ha ck cU
   all_goals
    unfold Cell.okWide at cU;rw[hu]at cU;cases v<;>first|rfl|(simp[Cell.ok,hu]at cU)
def agC{d:Nat}{r:Reach}{b0:Nat}{t:TypeId}{v:Value}{x:DataW H}{ps:List MemPlace}(ck:okT P d t=true)(cU:Value.okWide P w r b0 t v)(h:DataW.Trod enc P w base sp held t v x ps):
  Typed P d t x/\au w (G0 BY) (mO P d t x) v:=by
 obtain⟨aZ,h⟩:=h;obtain⟨h1,h2,h3,h4⟩:=jZ d aZ t _ x ps h ck;refine⟨h1,?_⟩;unfold mO;cases ha:Jh P t with
 |true=>
  simp only[if_true];unfold Value.okWide at cU;unfold Jh at ha;split at ha
  ·rename_i hu;rw[hu]at cU;obtain⟨cs,rfl,_⟩:=cU;exact ak.PJ h2
  ·rename_i hu;rw[hu]at cU;obtain⟨cs,rfl,_⟩:=cU;exact ak.PJ h2
  cases ha
 |false=>
  simp only[zzbp,if_false];rw[agB cU ha ⟨d,ck⟩]at h2;cases hl:c9 P d t x with
  |nil=>rw[hl]at h2;have:=h2.1;simp at this
  |cons a l=>rw[hl]at h2;exact h2.2 0 a v rfl rfl
def jV(P:Program)(d:Nat):List TypeId->List (DataW H)->Prop
 |[],[]=>True
 |t::ts,x::xs=>Typed P d t x/\jV P d ts xs
 |_,_=>False
def yJ(P:Program)(d:Nat):List TypeId->List (DataW H)->PQ
 |t::ts,x::xs=>mO P d t x::yJ P d ts xs
 |_,_=>[]
def Iq{d:Nat}{r:Reach}{b0:Nat}:∀{ts:List TypeId}{vs:PH}{xs:List (DataW H)}{ps:List MemPlace},(∀t∈ts,okT P d t=true)->(∀(j:Nat)(t:TypeId)(v:Value),ts[j]?=some t->vs[j]?=some v->Value.okWide P w r b0 t v)->
  DataW.TrodAll enc P w base sp held ts vs xs ps->jV P d ts xs/\ak w (G0 BY) (yJ P d ts xs) vs
 |[],[],[],_,_,_,_=>⟨trivial,ak.nil⟩
 |[],_::_,_,_,_,_,h=>by cases h
 |[],[],_::_,_,_,_,h=>by cases h
 |_::_,[],_,_,_,_,h=>by cases h
 |_::_,_::_,[],_,_,_,h=>by cases h
 |t::ts,v::vs,x::xs,ps,ck,cU,h=>by
  obtain⟨p,q,h1,h2,_⟩:=h;obtain⟨g1,g2⟩:=agC (ck t zd) (cU 0 t v rfl rfl) h1;obtain⟨k1,k2⟩:=Iq (fun t ht=>ck t (by simp[ht])) (fun j t v h1 h2=>cU (j+1) t v (Pi h1) (Pi h2)) h2;exact⟨⟨g1,k1⟩,ak.cons g2 k2⟩
def mQ{W W':World}(hl:laidOutB P=true)(hb:Below W.heap.size W W'){sp':Nat->Bool}:∀{ts:List TypeId}{vs:PH}{xs:List (DataW H)}{ps:List MemPlace},(∀t∈ts,P.readableRec t=true/\t<P.types.size)->
  DataW.TrodAll enc P W 0 (fun _=>true) true ts vs xs ps->(∀p∈ps,p.block<W.heap.size/\sp' p.block=true)->DataW.TrodAll enc P W' 0 sp' true ts vs xs ps
 |[],[],[],_,_,h,_=>h
 |[],_::_,_,_,_,h,_=>by cases h
 |[],[],_::_,_,_,h,_=>by cases h
 |_::_,[],_,_,_,h,_=>by cases h
 |_::_,_::_,[],_,_,h,_=>by cases h
 |t::ts,v::vs,x::xs,ps,hr,h,hp=>by
  obtain⟨p,q,h1,h2,rfl⟩:=h;refine⟨p,q,WideElems.Trod_stays hl (hr t zd).1 (hr t zd).2 h1 (fun y hy=>hb.same (hp y (by simp[hy])).1) (fun y hy=>(hp y (by simp[hy])).2),mQ hl hb (fun t ht=>hr t (by simp[ht])) h2 fun y hy=>hp y (by simp[hy]),rfl⟩
def qm{gl:Nat->AV}{fid:FuncId}{fn:Func}{s:ChangeSpec}{bt:TypeId}{d:Nat}(aj5:s.vars=[])(W5:fn.resultTypes=#[bt])(hbt:P.underlying bt=some .bool)(hl:laidOutB P=true)
  (hts:(fn.params.toList.all fun t=>okT P d t&&P.readableRec t&&decide (t<P.types.size))=true)(auq:∀ds:List (DataW H),ds.length=fn.params.size->(s.fn H ds).results=[.lit (.bool true)]/\(s.fn H ds).args=ds/\(s.fn H ds).vars=[])
  {W:World}{args:PP}{ds gs:List (DataW H)}{before:List MemPlace}{r:Reach}{b0:Nat}(eG:∀g,au W (G0 BY) (gl g) (.pointer (some ⟨g,0,none⟩)))
  (cU:∀(j:Nat)(t:TypeId)(v:Value),fn.params[j]?=some t->args[j]?=some v->Value.okWide P W r b0 t v)
  (hW:DataW.Whole enc P fn.params.toList s.vars false W args.toList ds gs before)
  (hp:jV P d fn.params.toList ds->Pure P gl fid (yJ P d fn.params.toList ds) (.bool true)):
  Calls P fid args W fun e W'=>∃v,e=.returned v/\s.post enc P fn false true false false W args v W':=by
 have hW':=hW;obtain⟨p,q,hA,hV,rfl,hfz,qE⟩:=hW;rw[aj5]at hV;obtain⟨rfl,rfl⟩:=ChangeShapes.trodVars_none hV;simp only[zzbe,zzai,decide_eq_true_eq]at hts;obtain⟨h1,h2⟩:=Iq (fun t ht=>(hts t ht).1.1) (fun j t v q1 q2=>cU j t v (Pi q1) (Pi q2)) hA
 have aH:ds.length=fn.params.size:=by
  have:∀{ts:List TypeId}{vs:PH}{xs:List (DataW H)}{ps:List MemPlace},DataW.TrodAll enc P W 0 (fun _=>true) true ts vs xs ps->xs.length=ts.length:=by
   intro ts;induction ts with
   |nil=>intro vs xs ps h;cases vs<;>cases xs<;>first|rfl|cases h
   |cons t ts ih=>
    intro vs xs ps h;cases vs<;>cases xs<;>first|(cases h;done)|skip
    obtain⟨_,_,_,h,_⟩:=h;simp[ih h]
  simpa using this hA
 obtain⟨k1,k2,k3⟩:=auq ds aH;have aa:∀x∈p,x.block<W.heap.size:=fun x hx=>hW'.lt x (by simp[hx]);refine((hp h1).2 BY W args.toList eG h2).mono ?_;rintro e W' ⟨v,rfl,hb,hr⟩;obtain rfl:=hr.bz;refine⟨_,rfl,ds,[],p++[],[],p,[],hW',?_,?_,?_,World.keptBut_mono (fun x hx=>⟨hx,?_⟩) (hb.frame (·∈p++[])),fun h=>by cases h⟩
 ·rw[W5,zzas,k1];exact⟨[],[],shut_bool hbt true,rfl,rfl⟩
 ·rw[zzas,k2];exact mQ hl hb (fun t ht=>⟨(hts t ht).1.2,(hts t ht).2⟩) hA fun x hx=>⟨aa x hx,by simpa using aa x hx⟩
 ·rw[aj5,zzas,k3];rfl
 simp at hx;exact .inr (.inl hx)
end
section
variable (P:Program) (gl:Nat->AV) (orc:X1) (Y:YT) (l2:List SO) (K:AS->Prop) (m:AM) (ms q:So) (mc:AM) (r:List SO) (fl:List Fg) (T:PQ) (o:SO) (x:AV×AM)
@[simp] def anW(d:Option Nat)(op:aF)(xs:List bM):Vx T ⟨d,op,none,xs⟩=True:=nd rfl
@[simp] def anX(d:Option Nat)(op:aF)(t:Nat)(b:Bool)(xs:List bM):Vx T ⟨d,op,some (some t,b),xs⟩=(T.getD t .junk=.bool b):=nd rfl
@[simp] def awc:uA P gl orc Y l2 K m ms [] fl q mc T=(q=[]/\Ze P gl orc Y l2 ⟨T,mc⟩ K):=nd (by simp only[uA])
@[simp] def aur:uA P gl orc Y l2 K m ms (o::r) (.eff::fl) (x::q) mc T=(Vx T o/\effC P gl orc Y (ev gl T) mc o.dst x.1 x.2 o.op/\uA P gl orc Y l2 K m ms r fl q x.2 (put T o.dst x.1)):=nd (by simp only[uA])
@[simp] def awd:uA P gl orc Y l2 K m ms (o::r) (.pre::fl) q mc T=(Vx T o/\(rop P gl orc (ev gl T) m o.dst o.op).1/\uA P gl orc Y l2 K m ms r fl q mc (put T o.dst (rop P gl orc (ev gl T) m o.dst o.op).2)):=nd (by simp only[uA])
@[simp] def aoU:uA P gl orc Y l2 K m ms (o::r) (.oth::fl) q mc T=(Vx T o/\(rop P gl orc (ev gl T) m o.dst o.op).1/\(∀x∈ms,rop P gl orc (ev gl T) x.2 o.dst o.op=rop P gl orc (ev gl T) m o.dst o.op)/\uA P gl orc Y l2 K m ms r fl q mc (put T o.dst (rop P gl orc (ev gl T) m o.dst o.op).2)):=nd (by simp only[uA])
def Qaw{P:Program}{gl:Nat->AV}{orc:X1}{Y:YT}{fl:List Fg}{l l2:List SO}{s:AS}{Q:T5}(ms:So)(h:uA P gl orc Y l2 (Q .normal) s.m ms l fl ms s.m s.T):vc P gl orc Y (.drawE fl l l2) s Q:=.inr (.inl ⟨ms,h⟩)
@[simp] def awe:iK P gl orc Y l2 K m ms [] fl q mc T=(q=[]/\Ze P gl orc Y l2 ⟨T,mc⟩ K):=nd (by simp only[iK])
@[simp] def aus:iK P gl orc Y l2 K m ms (o::r) (.eff::fl) (x::q) mc T=(Vx T o/\effC P gl orc Y (ev gl T) mc o.dst x.1 x.2 o.op/\iK P gl orc Y l2 K m ms r fl q x.2 (put T o.dst x.1)):=nd (by simp only[iK])
@[simp] def awf:iK P gl orc Y l2 K m ms (o::r) (.pre::fl) q mc T=(Vx T o/\(rop P gl orc (ev gl T) m o.dst o.op).1/\iK P gl orc Y l2 K m ms r fl q mc (put T o.dst (rop P gl orc (ev gl T) m o.dst o.op).2)):=nd (by simp only[iK])
@[simp] def awg:iK P gl orc Y l2 K m ms (o::r) (.oth::fl) q mc T=(Vx T o/\(((rop P gl orc (ev gl T) m o.dst o.op).1/\∀x∈ms,rop P gl orc (ev gl T) x.2 o.dst o.op=rop P gl orc (ev gl T) m o.dst o.op)\/(rdC P gl orc Y (ev gl T) m o.dst m o.op/\∀x∈ms,rdC P gl orc Y (ev gl T) m o.dst x.2 o.op))/\iK P gl orc Y l2 K m ms r fl q mc (put T o.dst (rop P gl orc (ev gl T) m o.dst o.op).2)):=nd (by simp only[iK,arn])
variable (R:UV)
@[simp] def awh:kR P gl orc Y R l2 K m ms [] fl q mc T=(q=[]/\Ze P gl orc Y l2 ⟨T,mc⟩ K):=nd (by simp only[kR])
@[simp] def aut:kR P gl orc Y R l2 K m ms (o::r) (.eff::fl) [x] mc T=(Vx T o/\effR P gl Y (ev gl T) mc R o.op/\kR P gl orc Y R l2 K m ms r fl [] x.2 (put T o.dst x.1)):=nd (by simp only[kR];simp)
@[simp] def auu(y:AV×AM):kR P gl orc Y R l2 K m ms (o::r) (.eff::fl) (x::y::q) mc T=(Vx T o/\effC P gl orc Y (ev gl T) mc o.dst x.1 x.2 o.op/\kR P gl orc Y R l2 K m ms r fl (y::q) x.2 (put T o.dst x.1)):=nd (by simp only[kR];simp)
@[simp] def awi:kR P gl orc Y R l2 K m ms (o::r) (.pre::fl) q mc T=(Vx T o/\(rop P gl orc (ev gl T) m o.dst o.op).1/\kR P gl orc Y R l2 K m ms r fl q mc (put T o.dst (rop P gl orc (ev gl T) m o.dst o.op).2)):=nd (by simp only[kR])
@[simp] def aoV:kR P gl orc Y R l2 K m ms (o::r) (.oth::fl) q mc T=(Vx T o/\(rop P gl orc (ev gl T) m o.dst o.op).1/\(∀x∈ms,rop P gl orc (ev gl T) x.2 o.dst o.op=rop P gl orc (ev gl T) m o.dst o.op)/\kR P gl orc Y R l2 K m ms r fl q mc (put T o.dst (rop P gl orc (ev gl T) m o.dst o.op).2)):=nd (by simp only[kR])
def aam{P:Program}{gl:Nat->AV}{orc:X1}{Y:YT}{fl:List Fg}{l l2:List SO}{s:AS}{Q:T5}(hb:aen fl l=true)(ms:So)(R:UV)(hR:∃x:AV×AM,R x.1 x.2)
  (h:∀v m',R v m'->kR P gl orc Y R l2 (Q .normal) s.m (ms++[(v,m')]) l fl (ms++[(v,m')]) s.m s.T):vc P gl orc Y (.drawE fl l l2) s Q:=.inr (.inr ⟨hb,ms,R,hR,fun x hx=>h x.1 x.2 hx⟩)
def lT(P:Program)(gl:Nat->AV)(orc:X1)(m:AM):List SO->List Fg->AM->PQ->So
 |o::r,.eff::fl,mc,T=>(effV (sop P gl orc (ev gl T) mc o.dst o.op).2.1 o.op,(sop P gl orc (ev gl T) mc o.dst o.op).2.2)::lT P gl orc m r fl (sop P gl orc (ev gl T) mc o.dst o.op).2.2 (put T o.dst (effV (sop P gl orc (ev gl T) mc o.dst o.op).2.1 o.op))
 |o::r,.pre::fl,mc,T=>lT P gl orc m r fl mc (put T o.dst (rop P gl orc (ev gl T) m o.dst o.op).2)
 |o::r,.oth::fl,mc,T=>lT P gl orc m r fl mc (put T o.dst (rop P gl orc (ev gl T) m o.dst o.op).2)
 |_,_,_,_=>[]
@[simp] def auv:lT P gl orc m [] fl mc T=[]:=nd (by simp only[lT])
@[simp] def aoW:lT P gl orc m (o::r) (.eff::fl) mc T=(effV (sop P gl orc (ev gl T) mc o.dst o.op).2.1 o.op,(sop P gl orc (ev gl T) mc o.dst o.op).2.2)::lT P gl orc m r fl (sop P gl orc (ev gl T) mc o.dst o.op).2.2 (put T o.dst (effV (sop P gl orc (ev gl T) mc o.dst o.op).2.1 o.op)):=nd (by simp only[lT])
@[simp] def auw:lT P gl orc m (o::r) (.pre::fl) mc T=lT P gl orc m r fl mc (put T o.dst (rop P gl orc (ev gl T) m o.dst o.op).2):=nd (by simp only[lT])
@[simp] def anY:lT P gl orc m (o::r) (.oth::fl) mc T=lT P gl orc m r fl mc (put T o.dst (rop P gl orc (ev gl T) m o.dst o.op).2):=nd (by simp only[lT])
def Ui{P:Program}{gl:Nat->AV}{orc:X1}{Y:YT}{fl:List Fg}{l l2:List SO}{s:AS}{Q:T5}(h:uA P gl orc Y l2 (Q .normal) s.m (lT P gl orc s.m l fl s.m s.T) l fl (lT P gl orc s.m l fl s.m s.T) s.m s.T):vc P gl orc Y (.drawE fl l l2) s Q:=.inr (.inl ⟨_,h⟩)
def Ib{P:Program}{gl:Nat->AV}{orc:X1}{z:Nat}{fl:List Fg}{l l2:List SO}{s:AS}{Q:T5}(hT:s.T.getD z .junk=.junk)(ms:So)(h:iK P gl orc Y0 l2 (Q .normal) s.m ms l fl ms s.m s.T):vc P gl orc Y0 (.drawZ z fl l l2) s Q:=⟨fun _ _ _ _ h=>h,hT,ms,h⟩
end
attribute [simp] effC memEff effV effR rdC
def AM.wr(m:AM)(id:Nat)(cs:PQ):AM:={m with boxes:=m.boxes.set id cs}
def aw2(m:AM)(id:Nat)(cs:PQ){c:PQ}(h:m.boxes[id]?=some c):(m.wr id cs).B=fun i=>if i=id then some cs else m.B i:=by
 funext i;simp only[AM.B,AM.wr];have aa:id<m.boxes.length:=(zza.1 h).1;by_cases hi:i=id
 ·subst hi;simp[aa]
 rw[zzbq (fun h=>hi h.symm),if_neg hi]
def aj(zs:P2):PQ:=zs.map (AV.int .i64)
def aA.gh{P:Program}{gl:Nat->AV}{Y:YT}{f:FuncId}{xs:PQ}{m:AM}{K:UV}(hc:bw P f)
  (
   h:∀(N:Nat)(w0:fc)(an:Nat->Nat->Prop)(γ:G)(w:World)(vs:PH),aq N w0 an γ w m.B m.L->cD γ w m->ak w γ xs vs->
   Calls P f vs.toArray w fun e w'=>∃v γ' r m',e=.returned v/\ek w γ w' γ'/\aq N w0 an γ' w' m'.B m'.L/\cD γ' w' m'/\au w' γ' r v/\K r m'):aA P gl Y f xs m K:=
 ⟨hc,fun N w0 an γ w vs hm hl _ _ hr=>(callsIn_wide (n:=0)).2 (h N w0 an γ w vs hm hl hr)⟩
def wO{w:World}{γ:G}:au w γ (.aQ []) (.tuple #[]):=.aQ rfl fun i c v h=>by simp at h
abbrev I(n:Int):AV:=.int .i64 n
section
variable {H:Type} {P:Program} {n:Nat} {t e:TypeId} {x:DataW H}
def Za{k:IntKind}(hu:P.underlying t=some (.int k))(h:Typed P (n+1) t x):∃m,x=.lit (.int k m)/\(Lit.int k m).wf=true:=by
 unfold Typed at h;rw[hu]at h;cases x with
 |lit l=>cases l<;>first|(cases h;done)|(obtain⟨rfl,h⟩:=h;exact⟨_,rfl,h⟩)
 |_=>cases h
def Cd(hu:P.underlying t=some .string)(h:Typed P (n+1) t x):∃s,x=.lit (.string s)/\s.length<=maxLen:=by
 unfold Typed at h;rw[hu]at h;cases x with
 |lit l=>cases l<;>first|(cases h;done)|exact⟨_,rfl,h⟩
 |_=>cases h
def Ic(hu:P.underlying t=some (.slice e))(h:Typed P (n+1) t x):x=.nil\/∃bP spare,x=.slice bP spare/\bP.length<=maxLen/\∀y∈bP,Typed P n e y:=by
 unfold Typed at h;rw[hu]at h;cases x<;>first|(cases h;done)|exact .inl rfl|exact .inr ⟨_,_,rfl,h.1,h.2⟩
def Qal{fs:Array Field}(hu:P.underlying t=some (.struct fs))(h:Typed P (n+1) t x):∃parts,x=.agg parts/\parts.length=fs.size/\∀p∈fs.toList.zip parts,Typed P n p.1.type p.2:=by
 unfold Typed at h;rw[hu]at h;cases x<;>first|(cases h;done)|exact⟨_,rfl,h.1,h.2⟩
def Vf{k:IntKind}(hu:P.underlying t=some (.int k))(k':IntKind)(m:Int):c9 P (n+1) t (.lit (.int k' m):DataW H)=[.int k' m]:=by simp only[c9,hu]
def O5(hu:P.underlying t=some .string)(l:List UInt8):c9 P (n+1) t (.lit (.string l):DataW H)=[.str ⟨l.toArray⟩]:=by simp only[c9,hu]
def agb(hu:P.underlying t=some (.slice e)):c9 P (n+1) t (.nil:DataW H)=[.sl .nil []]:=by simp only[c9,hu]
def ane(hu:P.underlying t=some (.slice e))(l sp:List (DataW H)):c9 P (n+1) t (.slice l sp)=[.sl .nn (l.map (c9 P n e))]:=by simp only[c9,hu]
def We{fs:Array Field}(hu:P.underlying t=some (.struct fs))(l:List (DataW H)):c9 P (n+1) t (.agg l)=(fs.toList.zip l).flatMap fun p=>c9 P n p.1.type p.2:=by simp only[c9,hu]
def Sn{k:Nat}(hu:P.underlying t=some (.array k e))(l:List (DataW H)):c9 P (n+1) t (.agg l)=l.flatMap (c9 P n e):=by simp only[c9,hu]
def agk{d:Nat}(h:Jh P t=true):mO P d t x=.agg (c9 P d t x):=by unfold mO;rw[h];rfl
def O4{d:Nat}(h:Jh P t=false){a:AV}(ha:c9 P d t x=[a]):mO P d t x=a:=by unfold mO;rw[h,ha];rfl
end
def Wk(a b:AV):Prop:=∀(w:World)(γ:G)(v:Value),au w γ a v->au w γ b v
def Wk.refl(a:AV):Wk a a:=fun _ _ _ h=>h
def Pa{a:AV}:Wk a a:=Wk.refl a
def Wk.sl(rt:Rt)(rows:X2):Wk (.sl rt rows) (.sl .ro rows):=fun w γ v h=>by
 cases h with
 |sl b off sz cv hcap hnil ha hsz hc hr bk=>exact .sl b off sz cv hcap hnil ha hsz hc hr trivial
def WkL:PQ->PQ->Prop
 |[],[]=>True
 |a::r,b::s=>Wk a b/\WkL r s
 |_,_=>False
def WkL.rep{w:World}{γ:G}:∀{l l':PQ}{vs:PH},WkL l l'->ak w γ l vs->ak w γ l' vs
 |[],[],_,_,h=>h
 |[],_::_,_,h,_=>by cases h
 |_::_,[],_,h,_=>by cases h
 |a::l,b::l',[],_,h=>by have:=h.1;simp at this
 |a::l,b::l',v::vs,hk,h=>by
  have h0:au w γ a v:=h.2 0 a v rfl rfl;have hs:ak w γ l vs:=⟨by have:=h.1;simpa using this,fun i x y h1 h2=>h.2 (i+1) x y (Pi h1) (Pi h2)⟩;exact ak.cons (hk.1 w γ v h0) (WkL.rep hk.2 hs)
def Xp{P:Program}{gl:Nat->AV}{f:FuncId}{l l':PQ}{r:AV}(h:Pure P gl f l' r)(hk:WkL l l'):Pure P gl f l r:=
 ⟨h.1,fun ro w vs eG hr=>h.2 ro w vs eG (hk.rep hr)⟩
def Wk.rows{α:Type}(l:List α)(f g:α->PQ)(hl:∀a,(g a).length=(f a).length)(hc:∀(a:α)(j:Nat)(c':AV),(g a)[j]?=some c'->∃c,(f a)[j]?=some c/\Wk c c'):Wk (.sl .ro (l.map f)) (.sl .ro (l.map g)):=fun w γ v h=>by
 have key:∀(i j:Nat)(c':AV),Qs (l.map g) i j=some c'->∃c,Qs (l.map f) i j=some c/\Wk c c':=fun i j c' h=>by
  unfold Qs at h |-
  rw[zzbf]at h |-
  cases hi:l[i]? with
  |none=>rw[hi]at h;cases h
  |some a=>
   rw[hi]at h;simpa using hc a j c' (Pi h)
 obtain⟨a,cap,b,off,sz,cv,rfl,s1,_⟩:=h.cr;have e1:(l.map f).length=(l.map g).length:=zd
 rw[e1];refine qB.mk' (b:=b) (off:=off) (sz:=sz) (cv:=cv) ⟨by rw[<- e1];exact s1.hcap,s1.hnil,fun hn=>s1.at_ (Pi hn),fun row hr=>?_,fun i j c' h=>?_,fun i j c' h=>?_⟩ trivial
 ·simp at hr;obtain⟨x,hx,rfl⟩:=hr;rw[hl x];exact s1.hsz _ (by simp;exact⟨x,hx,rfl⟩)
 ·obtain⟨c,h1,h2⟩:=key i j c' h;exact s1.cell i j c h1
 obtain⟨c,h1,h2⟩:=key i j c' h;exact h2 _ _ _ (s1.rep i j c h1)
def Zx{P:Program}{gl:Nat->AV}{f:FuncId}{l:PQ}{r r':AV}(h:Pure P gl f l r)(hk:Wk r r'):Pure P gl f l r':=
 ⟨h.1,fun ro w vs hg hr=>(h.2 ro w vs hg hr).mono fun _ _⟨v,h1,h2,h3⟩=>⟨v,h1,h2,hk _ _ _ h3⟩⟩
def Qch{l l':PQ}(h:WkL l l'):Wk (.agg l) (.agg l'):=fun w γ v hr=>by
 have key:∀{l l':PQ},WkL l l'->l.length=l'.length/\∀(i:Nat)(c':AV),l'[i]?=some c'->∃c,l[i]?=some c/\Wk c c':=by
  intro l;induction l with
  |nil=>intro l' h;cases l' with
   |nil=>exact⟨rfl,fun i c' h=>by simp at h⟩
   |cons _ _=>exact h.elim
  |cons a l ih=>intro l' h;cases l' with
   |nil=>exact h.elim
   |cons b l'=>
    obtain⟨h1,h2⟩:=ih h.2;refine⟨by simp[h1],fun i c' hc=>?_⟩;cases i with
    |zero=>simp at hc;subst hc;exact⟨a,rfl,h.1⟩
    |succ i=>simpa using h2 i c' (Pi hc)
 obtain⟨h1,h2⟩:=key h;cases hr with
 |agg hl hc=>
  refine .agg zE fun i c' v uw hv=>?_;obtain⟨c,g1,g2⟩:=h2 i c' uw;exact g2 _ _ _ (hc i c v g1 hv)
section
variable {B l:X2} {i j:Nat}
def Qk(h:i<B.length):Qg (B++l) i=Qg B i:=by simp[Qg,zzaw,-Vu,zzak h]
def Yi(v:PQ)(h:i<B.length):(B++l).set i v=B.set i v++l:=by rw[List.set_append_left _ _ h]
def Xl(v:PQ)(h:i≠j):Qg (B.set i v) j=Qg B j:=by simp[Qg,zzaw,-Vu,zzbq h]
def Zg(v:PQ)(h:i<B.length):Qg (B.set i v) i=v:=by simp[Qg,zzaw,-Vu,zzbg h]
def Je(h:i<B.length):B[i]?=some (Qg B i):=by
 rw[zzad h];simp[Qg,zzaw,-Vu,h]
end
def bC(S:Nat->Prop)(B B':X2):Prop:=B.length<=B'.length/\∀j,j<B.length->¬S j->Qg B' j=Qg B j
def bC.refl(S:Nat->Prop)(B:X2):bC S B B:=⟨zzaa _,fun _ _ _=>rfl⟩
def bC.app{S:Nat->Prop}{B B':X2}(h:bC S B B')(l:X2):bC S B (B'++l):=
 ⟨by have:=h.1;simp;omega,fun j hj hs=>by rw[Qk (by have:=h.1;omega)];exact h.2 j hj hs⟩
def bC.set{S:Nat->Prop}{B B':X2}(h:bC S B B'){i:Nat}(hi:S i\/B.length<=i)(v:PQ):bC S B (B'.set i v):=
 ⟨by have:=h.1;simpa using this,fun j hj hs=>by rw[Xl v (by rintro rfl;obtain hi|hi:=hi;exact hs hi;omega)];exact h.2 j hj hs⟩
def bC.trans{S:Nat->Prop}{B B' B'':X2}(h:bC S B B')(k:bC (fun i=>S i\/B.length<=i) B' B''):bC S B B'':=
 ⟨zzb h.1 k.1,fun j hj hs=>by rw[k.2 j (by have:=h.1;omega) (by rintro(h|h);exact hs h;omega)];exact h.2 j hj hs⟩
def bC.mono{S S':Nat->Prop}{B B':X2}(h:bC S B B')(hs:∀i,S i->S' i):bC S' B B':=⟨h.1,fun j hj hn=>h.2 j hj fun k=>hn (hs j k)⟩
def Qe(s:Int×Int):PQ:=[I s.1,I s.2]
def cM:List (Int×Int)->PQ
 |[]=>[]
 |s::r=>I s.1::I s.2::cM r
@[simp] theorem awj:cM []=[]:=rfl
@[simp] theorem qu(s:Int×Int)(r:List (Int×Int)):cM (s::r)=I s.1::I s.2::cM r:=rfl
def Vy:∀l,(cM l).length=l.length*2
 |[]=>rfl
 |s::r=>by simp[Vy r];omega
def Qca:∀a b,cM (a++b)=cM a++cM b
 |[],_=>rfl
 |s::r,b=>by simp[Qca r b]
def Ir:∀(l:List (Int×Int))(i:Nat),(cM l).drop (i*2)=cM (l.drop i)
 |[],i=>zd
 |s::r,0=>zd
 |s::r,i+1=>by rw[show(i+1)*2=i*2+1+1 by omega];simp[Ir r i]
def uG{l:List (Int×Int)}{i:Nat}{s:Int×Int}(h:l[i]?=some s):(cM l).drop (i*2)=I s.1::I s.2::cM (l.drop (i+1)):=by
 rw[Ir];have aa:=(zza.1 h).1;rw[zzaf aa];have:l[i]=s:=(zza.1 h).2;rw[this,qu]
def F3{l:List (Int×Int)}{i:Nat}{s:Int×Int}(h:l[i]?=some s):(cM l).drop (i*2+1)=I s.2::cM (l.drop (i+1)):=by
 rw[<- zzdi,uG h];rfl
def O6:∀(l:List (Int×Int))(i:Nat)(s:Int×Int),i<l.length->setA (cM l) (i*2) [I s.1,I s.2]=cM (l.set i s)
 |[],i,s,h=>by simp at h
 |t::r,0,s,h=>by simp[setA]
 |t::r,i+1,s,h=>by
  have ih:=O6 r i s (Pi h);simp only[setA]at ih |-
  rw[show(i+1)*2=i*2+1+1 by omega,show i*2+1+1+1=i*2+1+1+1 from rfl];simp only[qu,zzdz];rw[ih]
def wP:∀(l:List (Int×Int))(i:Nat)(s:Int×Int)(y:Int),l[i]?=some s->(cM l).set (i*2+1) (I y)=cM (l.set i (s.1,y))
 |[],i,s,y,h=>by simp at h
 |t::r,0,s,y,h=>by simp at h;subst h;simp
 |t::r,i+1,s,y,h=>by
  have ih:=wP r i s y (Pi h);rw[show(i+1)*2+1=i*2+1+1+1 by omega];simp only[qu,zzdz];rw[ih]
def Cg:∀(l:List (Int×Int))(r:PQ),aW 2 l.length (cM l++r)=l.map Qe
 |[],_=>rfl
 |s::l,r=>by simp[Qe,Cg l r]
def Qdw(l:List (Int×Int)):aW 2 l.length (cM l)=l.map Qe:=by simpa using Cg l []
def Dl(l:List (Int×Int)):Zl (cM l)=true:=by
 induction l with
 |nil=>rfl
 |cons s r ih=>simp only[qu,Zl,List.all_cons,zzai]at ih |-;exact⟨rfl,rfl,ih⟩
def Rv{a b:PQ}(ha:Zl a=true)(hb:Zl b=true):Zl (a++b)=true:=by
 simp only[Zl,zzfj,zzai]at*;exact⟨ha,hb⟩
def FY(l:List (Int×Int)):(l.map Qe).flatten=cM l:=by
 induction l with
 |nil=>rfl
 |cons s r ih=>simp[Qe,ih]
def Sx(n:Nat):bG n [I 0,I 0]=cM (List.replicate n (0,0)):=by
 induction n with
 |zero=>rfl
 |succ n ih=>rw[bG,ih];rfl
def Zv{l:List (Int×Int)}{i:Nat}{s:Int×Int}(h:l[i]?=some s):Qg (l.map Qe) i=[I s.1,I s.2]:=Qv (by simp[h,Qe])
def pN:∀(bs:PQ)(a b:PQ),bs.length=b.length->setA (a++b) a.length bs=a++bs
 |[],a,b,h=>by cases b with
  |nil=>rfl
  |cons _ _=>simp at h
 |x::bs,a,[],h=>by simp at h
 |x::bs,a,y::b,h=>by
  have ih:=pN bs (a++[x]) b (Pi h);rw[setA];have:(a++y::b).set a.length x=a++[x]++b:=zd
  rw[this];simpa using ih
def jj(bs a r:PQ)(h:bs.length=a.length):setA (a++r) 0 bs=bs++r:=by
 have EA:∀(bs pre a r:PQ),bs.length=a.length->setA (pre++a++r) pre.length bs=pre++bs++r:=by
  intro bs;induction bs with
  |nil=>intro pre a r h;cases a with
   |nil=>rfl
   |cons _ _=>simp at h
  |cons x bs ih=>intro pre a r h;cases a with
   |nil=>simp at h
   |cons y a=>
    rw[setA];have e:(pre++y::a++r).set pre.length x=pre++[x]++a++r:=zd
    rw[e];have:=ih (pre++[x]) a r (Pi h);rw[show(pre++[x]).length=pre.length+1 by simp]at this;rw[this];simp
 have:=EA bs [] a r h;simpa using this
def auy(S:X2->Prop)(y:PQ->AM->(Bool->AM->Prop)->Prop)(K:AM->Prop):X2->AM->Prop
 |[],m=>∀m',fN m m'->K m'
 |x::xs,m=>∀m',fN m m'->∀K':Bool->AM->Prop,(∀lH,S lH.boxes->auy S y K xs lH->K' true lH)->(∀lH,(∀m3,fN lH m3->K m3)->K' false lH)->y x m' K'
def bQ(O:Nat->Prop)(m m':AM):Prop:=m.boxes.length<=m'.boxes.length/\(∀j,j<m.boxes.length->¬O j->Qg m'.boxes j=Qg m.boxes j)/\(∃lx,m'.lens=m.lens++lx)/\∀l,m.st l≠.gone->m'.st l=m.st l
def fN.toO{m m':AM}(h:fN m m')(O:Nat->Prop):bQ O m m':=by
 obtain⟨⟨bx,h1⟩,h2,h3⟩:=h;exact⟨by rw[h1];simp,fun j hj _=>by rw[h1,Qk hj],h2,h3⟩
def bQ.refl(O:Nat->Prop)(m:AM):bQ O m m:=(fN.refl m).toO O
def bQ.trans{O:Nat->Prop}{m m' lH:AM}(h:bQ O m m')(k:bQ O m' lH):bQ O m lH:=by
 obtain⟨h1,h2,⟨c,h3⟩,h4⟩:=h;obtain⟨k1,k2,⟨c',k3⟩,k4⟩:=k;exact⟨zzb h1 k1,fun j hj ho=>by rw[k2 j zE ho,h2 j hj ho],⟨c++c',by rw[k3,h3,zzaz]⟩,fun l hl=>by rw[k4 l (by rw[h4 l hl];exact hl),h4 l hl]⟩
def bQ.gone{O:Nat->Prop}{m m':AM}(h:bQ O m m')(l:Nat):bQ O (m.at_ l .gone) (m'.at_ l .gone):=
 ⟨h.1,h.2.1,h.2.2.1,fun l' fG=>by
  by_cases e:l'=l
  ·subst e;simp at fG
  simp only[aj2,uD,e,if_false]at fG |-;exact h.2.2.2 l' fG⟩
def N9(O:Nat->Prop)(m m':AM):Prop:=m.boxes.length<=m'.boxes.length/\∀j,O j->Qg m'.boxes j=Qg m.boxes j
def OU(O:Nat->Prop)(n n':Nat)(j:Nat):Prop:=O j\/(n<=j/\j<n')
def auz{O:Nat->Prop}{a b c:Nat}(h1:a<=b)(h2:b<=c):OU (OU O a b) b c=OU O a c:=by
 funext j;unfold OU;apply propext;constructor
 ·rintro((h|h)|h)
  ·exact .inl h
  ·exact .inr ⟨h.1,zE⟩
  exact .inr ⟨zE,h.2⟩
 rintro(h|h)
 ·exact .inl (.inl h)
 rcases zzab j b with h3|h3
 ·exact .inl (.inr ⟨h.1,h3⟩)
 exact .inr ⟨h3,h.2⟩
def bQ.aa4{O:Nat->Prop}{m m' lH:AM}(h:bQ O m m')(k:bQ (OU O m.boxes.length m'.boxes.length) m' lH):bQ O m lH:=by
 obtain⟨h1,h2,⟨c,h3⟩,h4⟩:=h;obtain⟨k1,k2,⟨c',k3⟩,k4⟩:=k;exact⟨zzb h1 k1,fun j hj ho=>by rw[k2 j zE (by rintro(h|h);exact ho h;omega),h2 j hj ho],⟨c++c',by rw[k3,h3,zzaz]⟩,fun l hl=>by rw[k4 l (by rw[h4 l hl];exact hl),h4 l hl]⟩
def mq(y:PQ->AM->(Bool->AM->Prop)->Prop)(K:AM->Prop):X2->(Nat->Prop)->AM->Prop
 |[],O,m=>∀m',bQ O m m'->K m'
 |x::xs,O,m=>∀m',bQ O m m'->∀K':Bool->AM->Prop,(∀lH,N9 (OU O m.boxes.length m'.boxes.length) m' lH->mq y K xs (OU O m.boxes.length m'.boxes.length) lH->K' true lH)->
   (∀lH,(∀m3,bQ (OU O m.boxes.length m'.boxes.length) lH m3->K m3)->K' false lH)->y x m' K'
def mq.ext{O:Nat->Prop}{y:PQ->AM->(Bool->AM->Prop)->Prop}{K:AM->Prop}{xs:X2}{m m':AM}(h:mq y K xs O m)(e:bQ O m m'):mq y K xs (OU O m.boxes.length m'.boxes.length) m':=by
 cases xs with
 |nil=>exact fun m2 e2=>h m2 (e.aa4 e2)
 |cons x xs=>
  intro m2 e2;rw[auz e.1 e2.1];exact h m2 (e.aa4 e2)
def Gd(P:Program)(gl:Nat->AV)(f:FuncId)(first cap:PQ)(xs:X2):Prop:=
 ∀(Y:YT)(l:Nat)(m:AM)(K:AM->Prop),mq (Y l) K xs (fun _=>False) m->aA P gl Y f (first++[.yld l]++cap) m fun _ m'=>K m'
def kT{P:Program}{gl:Nat->AV}{orc:X1}{Y:YT}{s:AS}{Q:T5}{g:bM}{ps:P1}{pz body:SC}{f:FuncId}{first cap:PQ}{xs:X2}
  (hg:ev gl s.T g=.fn f first cap)(cN:Gd P gl f first cap xs)(aH:∀x∈xs,x.length=ps.length)(I:(Nat->Prop)->Nat->AM->Prop)(X:(Nat->Prop)->Exit->AM->Prop)
  (h0:I (fun _=>False) 0 s.m)
  (hI:∀O i m m',I O i m->bQ O m m'->I (OU O m.boxes.length m'.boxes.length) i m')(hX:∀O ex m m',X O ex m->bQ O m m'->X O ex m')
  (
   hb:∀(O:Nat->Prop)(l i:Nat)(m:AM)(x:PQ),(∀j,O j->s.m.boxes.length<=j/\j<m.boxes.length)->s.m.boxes.length<=m.boxes.length->s.m.st l=.gone->m.st l=.ready->I O i (m.at_ l .gone)->xs[i]?=some x->∀K':T5,
   (∀s',N9 O m s'.m->I O (i+1) (s'.m.at_ l .gone)->K' .normal s')->(∀s',m.boxes.length<=s'.m.boxes.length->X O .ret (s'.m.at_ l .gone)->K' .ret s')->(∀id s',m.boxes.length<=s'.m.boxes.length->X O (.exit id) (s'.m.at_ l .gone)->K' (.exit id) s')->
   vc P gl orc Y pz ⟨Qbs s.T ps x,m⟩ (QN l fun s'=>vc P gl orc Y body s' K'))
  (W7:∀O m,I O xs.length m->Q .normal ⟨s.T,m⟩)(hex:∀O ex m,X O ex m->Q ex ⟨s.T,m⟩):vc P gl orc Y (.rfunc g ps pz body) s Q:=by
 simp only[vc,hg];intro hl;generalize ei:s.m.ln=l at hl;refine cN _ l s.m.bL (fun m'=>KN l s.T m' Q (m'.st l)) ?_;have fB:∀{O:Nat->Prop}{m m':AM},m.st l=.ready->bQ O m m'->m'.st l=.ready:=fun h e=>by rw[e.2.2.2 l (by rw[h];simp),h]
 have key:∀(n i:Nat)(O:Nat->Prop)(m:AM),i+n=xs.length->I O i (m.at_ l .gone)->(∀j,O j->s.m.boxes.length<=j/\j<m.boxes.length)->s.m.boxes.length<=m.boxes.length->m.st l=.ready->
   mq (Yin Y l ps.length (fun args m K=>vc P gl orc Y pz ⟨Qbs s.T ps args,m⟩ (QN l fun s'=>vc P gl orc Y body s' (WJ l K))) l) (fun m'=>KN l s.T m' Q (m'.st l)) (xs.drop i) O m:=by
  intro n;induction n with
  |zero=>
   intro i O m hi hIm zZ eE hm;rw[zzam zE];intro m' e;simp only[fB hm e,KN];obtain rfl:i=xs.length:=zE
   exact W7 _ _ (hI _ _ _ _ hIm (e.gone l))
  |succ n ih=>
   intro i O m hi hIm zZ eE hm;have aa:i<xs.length:=zE
   rw[zzaf aa];intro m' e K' hT hF;have auA:s.m.boxes.length<=m'.boxes.length:=zzb eE e.1
   have anZ:∀j,OU O m.boxes.length m'.boxes.length j->s.m.boxes.length<=j/\j<m'.boxes.length:=by
    rintro j (h|h)
    ·exact⟨(zZ j h).1,zzar (zZ j h).2 e.1⟩
    exact⟨zE,h.2⟩
   have lI:=hI _ _ _ _ hIm (e.gone l);simp only[Us]at lI;simp only[Yin,if_true];refine⟨fB hm e,aH _ (zzdg aa),?_⟩;refine hb (OU O m.boxes.length m'.boxes.length) l i m' xs[i] anZ auA hl (fB hm e) lI (zzad aa) (WJ l K') (fun s' hS' lI=>?_) (fun s' cR hQ=>?_) fun id s' cR hQ=>?_
   ·refine hT _ (by simpa[N9]using hS') (ih (i+1) _ _ zE ?_ (fun j hj=>⟨(anZ j hj).1,by simpa using zzar (anZ j hj).2 hS'.1⟩) (by simpa using zzb auA hS'.1) zd);simpa using lI
   ·refine hF _ fun m3 e3=>?_;have h3:m3.st l=.done .ret:=by have:=e3.2.2.2 l zd;simpa using this
    simp only[h3];exact hex _ _ _ (hX _ _ _ _ hQ (by have:=e3.gone l;simpa using this))
   refine hF _ fun m3 e3=>?_;have h3:m3.st l=.done (.exit id):=by have:=e3.2.2.2 l zd;simpa using this
   simp only[h3];exact hex _ _ _ (hX _ _ _ _ hQ (by have:=e3.gone l;simpa using this))
 have hI0:I (fun _=>False) 0 (s.m.bL.at_ l .gone):=by
  have:=hI (fun _=>False) 0 s.m (s.m.bL.at_ l .gone) h0 ⟨by simp[AM.bL],fun j _ _=>by simp[AM.bL],⟨[],by simp[AM.bL]⟩,fun l' fG=>by
   have aJ:l'≠l:=by rintro rfl;exact fG hl
   simp[AM.bL,ei,uD,aJ]⟩
  have e:OU (fun _=>False) s.m.boxes.length (s.m.bL.at_ l .gone).boxes.length=fun _=>False:=by
   funext j;simp[OU,AM.bL]
  rw[e]at this;exact this
 have:=key xs.length 0 (fun _=>False) s.m.bL zd hI0 (fun _ h=>h.elim) (by simp[AM.bL]) (by simp[AM.bL,ei]);simpa using this
def zF:Nat->Nat->P1
 |0,_=>[]
 |k+1,z=>if z<128 then[z]else(z%128+128)::zF k (z/128)
def Ei:Nat->P1->Nat->Nat->Option (Nat×Nat)
 |0,_,_,_=>none
 |_+1,[],_,_=>none
 |k+1,b::r,i,z=>if 128<=b then Ei k r (i+1) (z+b%128*128 ^ i)else if b=0/\0<i then none else some (z+b%128*128 ^ i,i+1)
def MF:∀(k z i a:Nat)(t:P1),z<128 ^ k->(i=0\/0<z)->0<k->Ei k (zF k z++t) i a=some (a+z*128 ^ i,i+(zF k z).length)
 |0,z,i,a,t,h,hi,hk=>zE
 |k+1,z,i,a,t,h,hi,hk=>by
  rw[zF];by_cases hz:z<128
  ·rw[if_pos hz];show Ei (k+1) (z::t) i a=_;rw[Ei,if_neg zE,if_neg zE,zzdx hz];rfl
  rw[if_neg hz];show Ei (k+1) ((z%128+128)::(zF k (z/128)++t)) i a=_
  have Kx:0<k:=by
   rcases zzcc k with rfl|h0
   ·simp at h;omega
   exact h0
  have h2:z/128<128 ^ k:=by
   rw[zzdm]at h;exact zzfa (by rw[zzct];exact h)
  rw[Ei,if_pos zE,MF k (z/128) (i+1) _ t h2 (.inr zE) Kx,show(z%128+128)%128=z%128 by omega]
  have e:z%128*128 ^ i+z/128*128 ^ (i+1)=z*128 ^ i:=by
   rw[zzdm,zzct (128 ^ i) 128,<- zzgi,<- zzbl,zzct (z/128) 128,Nat.mod_add_div]
  rw[zzan,e,zzav];congr 2;omega
def aa5:∀(k z i a n m:Nat),n<(zF k z).length->Ei m ((zF k z).take n) i a=none
 |0,z,i,a,n,m,h=>by simp[zF]at h
 |k+1,z,i,a,0,m,h=>by cases m<;>simp[Ei]
 |k+1,z,i,a,n+1,m,h=>by
  rw[zF]at h |-
  by_cases hz:z<128
  ·rw[if_pos hz]at h;simp at h
  rw[if_neg hz]at h |-
  rw[zzdb];cases m with
  |zero=>rfl
  |succ m=>
   rw[Ei,if_pos zE];exact aa5 k (z/128) (i+1) _ n m (Pi h)
def uq(n:Int):Nat:=if n<0 then(-n*2-1).toNat else(n*2).toNat
def Sy(z:Nat):Int:=if z%2=1 then -((z/2:Nat):Int)-1 else((z/2:Nat):Int)
def agD(n:Int):Sy (uq n)=n:=by
 unfold Sy uq;split<;>split<;>omega
def agE(z:Nat):uq (Sy z)=z:=by
 unfold Sy uq;split<;>split<;>omega
def aa6:∀(k:Nat)(l:P1)(i a z n:Nat),(∀b∈l,b<256)->Ei k l i a=some (z,n)->∃y,z=a+y*128 ^ i/\y<128 ^ k/\(i=0\/0<y)/\i<n/\l.take (n-i)=zF k y
 |0,l,i,a,z,n,hb,h=>by cases h
 |k+1,[],i,a,z,n,hb,h=>by cases h
 |k+1,b::r,i,a,z,n,hb,h=>by
  have dG:=hb b zd;rw[Ei]at h;split at h
  ·rename_i h1;obtain⟨y,y1,y2,y3,y4,y5⟩:=aa6 k r (i+1) _ z n (fun x hx=>hb x (by simp[hx])) h;refine⟨b%128+128*y,?_,?_,?_,zE,?_⟩
   ·rw[y1,zzdm,zzbl,zzan];congr 2;rw[zzct (128 ^ i) 128,<- zzgi,zzct y 128]
   ·rw[zzdm];omega
   ·obtain y3|y3:=y3
    ·omega
    right;omega
   rw[show n-i=(n-(i+1))+1 by omega,zzdb,y5,zF];have:0<y:=by rcases y3 with y3|y3<;>omega
   rw[if_neg zE,show(b%128+128*y)/128=y by omega,show(b%128+128*y)%128+128=b by omega]
  rename_i h1;split at h
  ·cases h
  rename_i h2;cases h;refine⟨b,by rw[zzdx zE],?_,zE,zE,?_⟩
  ·have:128<=128 ^ (k+1):=by rw[zzdm];exact Nat.le_mul_of_pos_left _ (Nat.pow_pos zE)
   omega
  rw[show i+1-i=1 by omega,zF,if_pos zE];rfl
def zD:Int:=4611686018427387903
def bA(n:Int):Prop:= -zD<=n/\n<=zD
def aU(n:Int):P1:=zF 9 (uq n)
def tE(l:P1)(at_:Nat):Option (Int×Nat):=match Ei 9 (l.drop at_) 0 0 with
 |none=>none
 |some (z,n)=>if Sy z< -zD then none else some (Sy z,at_+n)
def aa7{n:Int}(h:bA n):uq n<128 ^ 9:=by
 unfold bA zD at h;unfold uq;split<;>omega
def Eo{n:Int}(h:bA n)(pre t:P1):tE (pre++(aU n++t)) pre.length=some (n,pre.length+(aU n).length):=by
 unfold tE aU;rw[zzeg,MF 9 (uq n) 0 0 t (aa7 h) (.inl rfl) zE];simp only[zzbm,Nat.pow_zero,Nat.mul_one];rw[agD,if_neg (by unfold bA at h;omega)]
def Pd(n:Int)(pre:P1)(k:Nat)(h:k<(aU n).length):tE (pre++(aU n).take k) pre.length=none:=by
 unfold tE;rw[zzeg,aU,aa5 9 (uq n) 0 0 k 9 h]
def aT(l:P2):P1:=l.flatMap aU
def gq:Nat->P1->Nat->Option (P2×Nat)
 |0,_,a=>some ([],a)
 |k+1,l,a=>match tE l a with
  |none=>none
  |some (n,a')=>(gq k l a').map fun x=>(n::x.1,x.2)
def Pe:∀(ns:P2)(pre t:P1),(∀n∈ns,bA n)->gq ns.length (pre++(aT ns++t)) pre.length=some (ns,pre.length+(aT ns).length)
 |[],pre,t,h=>by simp[gq,aT]
 |n::r,pre,t,h=>by
  have ih:=Pe r (pre++aU n) t fun x hx=>h x (by simp[hx]);have e:aT (n::r)=aU n++aT r:=rfl;rw[zzav,gq,e,zzaz,Eo (h n zd)];simp only;rw[zzah,zzaz]at ih;rw[ih];simp[zzan]
def Pf:∀(ns:P2)(pre:P1)(k:Nat),(∀n∈ns,bA n)->k<(aT ns).length->gq ns.length (pre++(aT ns).take k) pre.length=none
 |[],pre,k,h,hk=>by simp[aT]at hk
 |n::r,pre,k,h,hk=>by
  have e:aT (n::r)=aU n++aT r:=rfl;rw[e]at hk |-
  rw[zzav,gq];rcases zzab k (aU n).length with aa|bu
  ·rw[zzdu zE,Pd n pre k aa]
  rw[zzfc,zzal bu,Eo (h n zd)];simp only;have ih:=Pf r (pre++aU n) (k-(aU n).length) (fun x hx=>h x (by simp[hx])) (by rw[zzah]at hk;omega);rw[zzah,zzaz]at ih;rw[ih];rfl
def Qao{l:P1}{a b:Nat}{n:Int}(hb:∀x∈l,x<256)(h:tE l a=some (n,b)):bA n/\a<b/\(l.drop a).take (b-a)=aU n/\b<=l.length:=by
 unfold tE at h;cases hr:Ei 9 (l.drop a) 0 0 with
 |none=>rw[hr]at h;cases h
 |some x=>
  obtain⟨z,k⟩:=x;rw[hr]at h;simp only at h;split at h
  ·cases h
  rename_i hn;cases h;obtain⟨y,y1,y2,y3,y4,y5⟩:=aa6 9 (l.drop a) 0 0 z k (fun x hx=>hb x (zzdd hx)) hr;simp only[zzbm,Nat.pow_zero,Nat.mul_one,zzet]at y1 y5;subst y1;have hz:z<9223372036854775808:=y2
  have aH:k<=(l.drop a).length:=by
   rcases zzab (l.drop a).length k with h1|h1
   ·exfalso;rw[zzal zE]at y5;have hg:=MF 9 z 0 0 [] y2 (.inl rfl) zE;rw[zzas,<- y5,hr]at hg;simp at hg;rw[zzcb]at h1;omega
   exact h1
  refine⟨?_,zE,?_,by rw[zzcb]at aH;omega⟩
  ·unfold bA;unfold zD at hn |-
   unfold Sy at hn |-
   split at hn<;>(rename_i h1;first|rw[if_pos h1]|rw[if_neg h1])<;>omega
  rw[show a+k-a=k by omega,y5,aU,agE]
def u7:∀(k:Nat){l:P1}{a b:Nat}{ns:P2},(∀x∈l,x<256)->gq k l a=some (ns,b)->ns.length=k/\(∀n∈ns,bA n)/\a<=b/\(l.drop a).take (b-a)=aT ns
 |0,l,a,b,ns,hb,h=>by
  cases h;exact⟨rfl,fun n hn=>(by cases hn),zzaa _,by simp[aT]⟩
 |k+1,l,a,b,ns,hb,h=>by
  rw[gq]at h;cases hr:tE l a with
  |none=>rw[hr]at h;cases h
  |some x=>
   obtain⟨n,a'⟩:=x;rw[hr]at h;simp only at h;obtain⟨⟨ms,c⟩,h1,h2⟩:=zzbd.1 h;cases h2;obtain⟨r1,r2,r3,r4⟩:=Qao hb hr;obtain⟨i1,i2,i3,i4⟩:=u7 k hb h1;refine⟨by rw[zzav,i1],fun x hx=>?_,zE,?_⟩
   ·rcases zzao.1 hx with rfl|hx
    ·exact r1
    exact i2 x hx
   have e:aT (n::ms)=aU n++aT ms:=rfl;rw[e,<- r3,<- i4,show c-a=(a'-a)+(c-a') by omega,List.take_add,zzdi,show a+(a'-a)=a' by omega]
end Go.Abs
namespace Go.Proofs.YtfliagpjbbkijaaGreatDoor
open Go Go.Abs
def an0{r:Nat}(h:r<18446744073709551616):r%2 ^ IntKind.u64.bits&&& 127%2 ^ IntKind.u64.bits=r%128:=by
 show r%18446744073709551616&&& 127=r%128;rw[zzdx h];exact zzfx r 7
def Am{n:Int}(h1:0<=n)(h2:n<18446744073709551616):IntKind.u64.wrap n=n:=by
 simp[IntKind.wrap,IntKind.bits,IntKind.signed];omega
def wr8{n:Int}(h1:0<=n)(h2:n<256):IntKind.u8.wrap n=n:=by
 simp[IntKind.wrap,IntKind.bits,IntKind.signed];omega
def SA:Nat->Nat->List (Nat×Bool)
 |0,_=>[]
 |k+1,z=>if z<128 then[(z,false)]else(z%128,true)::SA k (z/128)
def grA(x:Nat×Bool):PQ:=[.int .u8 x.1,.bool x.2]
def Ch(x:Nat×Bool):Nat:=if x.2 then x.1+128 else x.1
def Ph:∀k z,(SA k z).map Ch=zF k z
 |0,z=>rfl
 |k+1,z=>by
  rw[SA,zF];split
  ·rfl
  rw[zzay,Ph k];rfl
def aa8:∀k z,∀x∈SA k z,x.1<128
 |0,z,x,h=>by cases h
 |k+1,z,x,h=>by
  rw[SA]at h;split at h
  ·simp at h;subst h;assumption
  rcases zzao.1 h with rfl|h
  ·exact zzds _ zE
  exact aa8 k _ x h
def Pj:∀k z,(SA k z).length<=k
 |0,z=>zzaa _
 |k+1,z=>by
  rw[SA];split
  ·simp
  rw[zzav];have:=Pj k (z/128);omega
variable {gl:Nat->AV}
def Is(z:Nat):Pure Tryz.prog gl 65 [.int .u64 z] (.fn 123 [] [.ep [.int .u64 z] 0]):=by
 refine Qn akL (fun _ _ _=>.junk) zd ?_;simp[apm,apn]
def Iu(k z:Nat)(hk:0<k)(hz:z<128 ^ k)(h64:z<18446744073709551616):Gd Tryz.prog gl 123 [] [.ep [.int .u64 z] 0] ((SA k z).map grA):=by
 intro Y l m K hF;refine Xh acn (fun _ _ _=>.junk) zd ?_;simp[ahj];refine Qj JO (fun f mm=>∃(k r:Nat)(O:Nat->Prop),f 3=.int .u64 r/\0<k/\r<128 ^ k/\r<18446744073709551616/\mq (Y l) K ((SA k r).map grA) O mm) (fun f _=>(numOf (f 3)).toNat) ?_ ?_
 ·exact⟨k,z,_,zd,hk,hz,h64,hF⟩
 rintro f mm ⟨k,r,O,h3,hk,hr,h64,hF⟩;obtain⟨k,rfl⟩:∃j,k=j+1:=⟨k-1,zE⟩;rw[SA]at hF;by_cases h:r<128
 ·have h':¬(128:Int)<=(r:Int):=zE
  rw[if_pos h]at hF;have hw:IntKind.u8.wrap (r:Int)=r:=wr8 zE zE;simp[h3,h',JO,TJ,hw];refine hF _ (bQ.refl _ _) _ (fun m2 zw gL=>?_) (fun m2 hK=>?_)
  ·exact gL _ (bQ.refl _ _)
  exact hK _ (bQ.refl _ _)
 have h':(128:Int)<=(r:Int):=zE
 rw[if_neg h]at hF;have hw:IntKind.u64.wrap ((r:Int)%128)=(r:Int)%128:=Am zE zE;have fE:IntKind.u8.wrap ((r:Int)%128)=(r:Int)%128:=wr8 zE zE;have hd:Int.fdiv (r:Int) 128=(r:Int)/128:=zzgk _ zE;have hF:mq (Y l) K ([.int .u8 ((r:Int)%128),.bool true]::(SA k (r/128)).map grA) O mm:=by simpa[grA]using hF
 have hm:min 7 IntKind.u64.bits=7:=rfl;simp[h3,h',JO,TJ,an0 h64,hw,fE,hm,hd];refine hF _ (bQ.refl _ _) _ (fun m2 zw gL=>?_) (fun m2 hK=>?_)
 ·simp;refine⟨aR,⟨k,r/128,zE,?_,?_,zE,_,gL⟩,zE⟩
  ·rcases zzcc k with rfl|h0
   ·simp at hr;omega
   exact h0
  rw[zzdm]at hr;exact zzfa (by rw[zzct];exact hr)
 simp;exact hK _ (bQ.refl _ _)
def PuM(xs:List (Nat×Bool))(i:Nat)(m:AM):Prop:=1<m.boxes.length/\Qg m.boxes 0=(xs.take i).map (fun x=>AV.int .u8 (Ch x))++List.replicate (9-i) (.int .u8 0)/\Qg m.boxes 1=[I i]
def auB:SC:=(.rfunc (.tmp 26) [27,28] (.seq (.ops [⟨(some 7),(.mv (.tmp 27)),none,[]⟩]) (.ops [⟨(some 8),(.mv (.tmp 28)),none,[]⟩])) (.block 1 (.seq (.seq (.ops [⟨(some 29),(.mv (.tmp 8)),none,[]⟩]) (.cond (.tmp 29) (.ops [⟨(some 30),(.mv (.tmp 7)),none,[]⟩,⟨(some 31),(.bin .add (.tmp 30) (.const (.int .u8 128))),none,[]⟩,⟨(some 7),(.mv (.tmp 31)),none,[]⟩]) .skip)) (.seq (.ops [⟨(some 32),(.load false 1 (.tmp 6)),none,[]⟩,⟨(some 33),(.mv (.tmp 7)),none,[]⟩,⟨(some 34),(.iaddrA 9 1 (.tmp 5) (.tmp 32)),none,[]⟩,⟨none,(.store 1 (.tmp 34) (.tmp 33)),none,[]⟩]) (.ops [⟨(some 35),(.load false 1 (.tmp 6)),none,[]⟩,⟨(some 36),(.bin .add (.tmp 35) (.const (.int .i64 1))),none,[]⟩,⟨none,(.store 1 (.tmp 6) (.tmp 36)),none,[]⟩])))))
def aa9{xs:List (Nat×Bool)}{z:Int}(cN:Gd Tryz.prog gl 123 [] [.ep [.int .u64 z] 0] (xs.map grA))(aH:xs.length<=9)(aa:∀x∈xs,x.1<128)(orc:X1)(E:R0)(m:AM)
  (hO:PuM xs 0 m)(hg:Abs.look E 26=.fn 123 [] [.ep [.int .u64 z] 0])(h5:Abs.look E 5=.ptr 0 0)(h6:Abs.look E 6=.ptr 1 0)(Q:T5)
  (hQ:∀m',PuM xs xs.length m'->Q .normal ⟨Zr 40 E,m'⟩):vc Tryz.prog gl orc Y0 auB ⟨Zr 40 E,m⟩ Q:=by
 unfold auB
 refine kT (xs:=xs.map grA) (by simp[hg];try exact⟨rfl,rfl⟩) cN (by intro x hx;obtain⟨y,_,rfl⟩:=zzbh.1 hx;rfl)
  (fun O i mm=>(∀j,O j->m.boxes.length<=j)/\m.boxes.length<=mm.boxes.length/\PuM xs i mm) (fun _ _ _=>False) ?_ ?_ (fun _ _ _ _ h=>h.elim) ?_ ?_ (fun _ _ _ h=>h.elim)
 ·exact⟨fun _ h=>h.elim,zzaa _,hO⟩
 ·rintro O i m1 m2 ⟨h1,h0,h2,h3,h4⟩ e;have oy:=hO.1;refine⟨?_,zzb h0 e.1,zzar h2 e.1,by rw[e.2.1 0 zE (fun h=>by have:=h1 _ h;omega)];exact h3,by rw[e.2.1 1 zE (fun h=>by have:=h1 _ h;omega)];exact h4⟩;rintro j (h|h)
  ·exact h1 j h
  omega
 ·rintro O l i mm x zZ cR hg0 fB ⟨h1,h0,h2,h3,h4⟩ hx K' q1 _ _;rw[zzbf,zzbd]at hx;obtain⟨x,hx,rfl⟩:=hx;have iI:=(zza.1 hx).1;have hx7:=aa x (zzac hx);have hml:=hO.1;simp only[Us,DK]at h0 h2 h3 h4;have hw:=bR i zE
  have hr:((xs.take i).map (fun x=>AV.int .u8 (Ch x))++List.replicate (9-i) (AV.int .u8 0)).set i (AV.int .u8 (Ch x))=(xs.take (i+1)).map (fun x=>AV.int .u8 (Ch x))++List.replicate (9-(i+1)) (.int .u8 0):=by
   have e1:((xs.take i).map (fun x=>AV.int .u8 (Ch x))).length=i:=by simp;omega
   rw[zzcy _ _ zE,e1,zzfw,show 9-i=(9-(i+1))+1 by omega,zzff,List.set_cons_zero,zzax,hx];simp
  have hl9:((xs.take i).map (fun x=>AV.int .u8 (Ch x))++List.replicate (9-i) (AV.int .u8 0)).length=9:=by simp;omega
  have fin:∀(T:PQ)(ls:P1)(st:Nat->LS)(ln:Nat),K' .normal ⟨T,⟨(mm.boxes.set 0 ((xs.take (i+1)).map (fun x=>AV.int .u8 (Ch x))++List.replicate (9-(i+1)) (.int .u8 0))).set 1 [I ((i+1:Nat):Int)],ls,st,ln⟩⟩:=by
   intro T ls st ln;refine q1 _ ⟨zd,fun j hj=>?_⟩ ⟨h1,Pi h0,Pi h2,?_,?_⟩
   ·have:=(zZ j hj).2;have:=h1 j hj;show Qg ((mm.boxes.set 0 _).set 1 _) j=_;rw[Xl _ zE,Xl _ zE]
   ·show Qg ((mm.boxes.set 0 _).set 1 _) 0=_;rw[Xl _ zE,Zg _ zE]
   show Qg ((mm.boxes.set 0 _).set 1 _) 1=_;rw[Zg _ (Pi h2)]
  rw[show((i+1:Nat):Int)=(i:Int)+1 by omega]at fin;generalize hR:(xs.take i).map (fun x=>AV.int .u8 (Ch x))++List.replicate (9-i) (AV.int .u8 0)=R at*
  have KY:0<mm.boxes.length:=zE
  have lG:∀v,Qg (mm.boxes.set 0 v) 1=[I i]:=fun v=>by rw[Xl _ zE];exact h4
  have hi9:(i:Int)<9:=zE
  obtain⟨g,b⟩:=x;simp only at hx7;cases b with
  |true=>
   have hw8:IntKind.u8.wrap ((g:Int)+128)=(g:Int)+128:=wr8 zE zE;have hgB:((Ch (g,true):Nat):Int)=(g:Int)+128:=by simp[Ch]
   simp[Zi,grA,h5,h6,h2,h3,h4,KY,lG,hw,hw8,hi9,hl9,fB];rw[<- hgB,hr];exact⟨zE,fin _ _ _ _⟩
  |false=>
   have hgB:((Ch (g,false):Nat):Int)=(g:Int):=by simp[Ch]
   simp[Zi,grA,h5,h6,h2,h3,h4,KY,lG,hw,hi9,hl9,fB];rw[<- hgB,hr];exact⟨zE,fin _ _ _ _⟩
 rintro O m' ⟨_,_,h⟩;rw[zzbu]at h;exact hQ m' h
def za:∀l:P1,Ud (l.map fun b:Nat=>[AV.int .u8 ((b:Nat):Int)])=some (l.map UInt8.ofNat)
 |[]=>rfl
 |b::r=>by
  rw[zzay,Io,za r];simp
def aba:∀(l r:PQ),aW 1 l.length (l++r)=l.map fun x=>[x]
 |[],r=>rfl
 |a::l,r=>by
  rw[zzav,zzae,nQ,zzdb,zzgd,List.drop_succ_cons,zzd,aba l r];rfl
def tG{n:Int}(hn:bA n):Pure Tryz.prog gl 23 [I n] (.aQ [.str ⟨((aU n).map UInt8.ofNat).toArray⟩,I 0]):=by
 obtain⟨h1,h2⟩:=hn;unfold zD at h1 h2;have qP:¬n< -4611686018427387903:=zE
 have Fm:¬4611686018427387903<n:=zE
 have Ba:uq n<128 ^ 9:=aa7 ⟨h1,h2⟩;have atH:uq n<18446744073709551616:=zzar Ba (by decide);have kg:=Is (gl:=gl) (uq n);have cN:=Iu (gl:=gl) 9 (uq n) zE Ba atH;have aH:=Pj 9 (uq n);have aa:=aa8 9 (uq n);have hPB:aU n=(SA 9 (uq n)).map Ch:=(Ph 9 _).symm;rw[hPB];generalize SA 9 (uq n)=xs at*
 refine Qn akk (fun _ f _=>if f=65 then .fn 123 [] [.ep [.int .u64 (uq n)] 0]else .junk) zd ?_;have h0:∀st:Nat->LS,PuM xs 0 ⟨[[.int .u8 0,.int .u8 0,.int .u8 0,.int .u8 0,.int .u8 0,.int .u8 0,.int .u8 0,.int .u8 0,.int .u8 0],[I 0]],[],st,0⟩:=fun _=>⟨zd,rfl,rfl⟩
 have tail:∀m':AM,PuM xs xs.length m'->Ud (aW 1 xs.length (Qg m'.boxes 0))=some ((xs.map Ch).map UInt8.ofNat):=by
  rintro m' ⟨p1,p2,p3⟩;rw[p2,zzbs];have:=aba (xs.map fun x=>AV.int .u8 (Ch x)) (List.replicate (9-xs.length) (.int .u8 0));rw[zzbu]at this;rw[this,zzdc];have:=za (xs.map Ch);rw[zzdc]at this;exact this
 have auC:∀m':AM,Ud (aW 1 xs.length (Qg m'.boxes 0))=some ((xs.map Ch).map UInt8.ofNat)->1<m'.boxes.length->Qg m'.boxes 0=(xs.take xs.length).map (fun x=>AV.int .u8 (Ch x))++List.replicate (9-xs.length) (.int .u8 0)->
   ((xs.length:Int)<=9/\9<=(Qg m'.boxes 0).length/\0<m'.boxes.length)/\
  (
   match Ud (aW 1 xs.length (Qg m'.boxes 0))with
    |some l=>(xs.length<=(Qg m'.boxes 0).length,AV.str {data:=l.toArray})
    |none=>(False,AV.junk)).fst/\
   bE m' 5
     (
      match Ud (aW 1 xs.length (Qg m'.boxes 0))with
      |some l=>(xs.length<=(Qg m'.boxes 0).length,AV.str {data:=l.toArray})
      |none=>(False,AV.junk)).snd=
    AV.str {data:=(List.map (UInt8.ofNat ∘ Ch) xs).toArray}:=by
  intro m' ht p1 p2;have hl:(Qg m'.boxes 0).length=9:=by rw[p2];simp;omega
  rw[ht,hl];refine⟨⟨zE,zE,zE⟩,zE,?_⟩;simp
 by_cases oW:n<0
 ·have v1:IntKind.i64.wrap (-n)= -n:=by rw[Qi]<;>omega
  have v2:IntKind.u64.wrap (-n)= -n:=by rw[Am]<;>omega
  have v3:IntKind.u64.wrap (-n*2)= -n*2:=by rw[Am]<;>omega
  have v4:IntKind.u64.wrap (-n*2-1)=(uq n:Int):=by unfold uq;rw[if_pos oW,Am]<;>omega
  simp[aki,akj,qP,Fm,oW,v1,v2,v3,v4,kg];refine aa9 cN aH aa _ _ _ (h0 _) zd zd zd _ fun m' ez=>?_;have ht:=tail m' ez;obtain⟨p1,p2,p3⟩:=ez;simp[p1,p3];exact auC m' ht p1 p2
 have v2:IntKind.u64.wrap n=n:=by rw[Am]<;>omega
 have v4:IntKind.u64.wrap (n*2)=(uq n:Int):=by unfold uq;rw[if_neg oW,Am]<;>omega
 simp[aki,akj,qP,Fm,oW,v2,v4,kg];refine aa9 cN aH aa _ _ _ (h0 _) zd zd zd _ fun m' ez=>?_;have ht:=tail m' ez;obtain⟨p1,p2,p3⟩:=ez;simp[p1,p3];exact auC m' ht p1 p2
