import Derived.Test.YtfliagpjbbkijaaGreatDoorVBME
import Derived.ProofKit
import Derived.OpenShut
import Derived.OpenVars
set_option linter.all false
namespace Go.Abs
open Go Go.RowKit
def nd{α:Type}{a b:α}(h:a=b):a=b:=h
section
variable (P:Program) (gl:Nat->AV) (orc:X1) (Y:YT) (s:AS) (Q:So)
@[simp] def awi:vc P gl orc Y .skip s Q=Q .normal s:=nd rfl
@[simp] def axS(l:List SO):vc P gl orc Y (.ops l) s Q=Zg P gl orc Y l s (Q .normal):=nd rfl
@[simp] def awj(l:List SO):vc P gl orc Y (.opsX l) s Q=(Zg P gl orc Y l s (Q .normal)\/∃k,Ir P gl orc Y k l s Q):=nd rfl
@[simp] def axT(a b:SC):vc P gl orc Y (.seq a b) s Q=vc P gl orc Y a s (V9 (vc P gl orc Y b) Q):=nd rfl
def aes(x:bN)(a b:SC):vc P gl orc Y (.cond x a b) s Q=match ev gl s.T x with|.bool t=>(t=true->vc P gl orc Y a s Q)/\(t=false->vc P gl orc Y b s Q)|_=>False:=nd rfl
@[simp] def asq(x:bN)(a b:SC):vc P gl orc Y (.cond x a b) s Q=match ev gl s.T x with|.bool t=>(if t=true then vc P gl orc Y a s Q else vc P gl orc Y b s Q)|_=>False:=by
 rw[aes];cases ev gl s.T x<;>try rfl
 rename_i t;cases t<;>simp
@[simp] def asr(id:Nat)(c:SC):vc P gl orc Y (.block id c) s Q=vc P gl orc Y c s (qR id Q):=nd rfl
@[simp] def awk(id:Nat):vc P gl orc Y (.exit id) s Q=Q (.exit id) s:=nd rfl
@[simp] def ass(c:SC):vc P gl orc Y (.scope c) s Q=vc P gl orc Y c s (wg Q):=nd rfl
@[simp] def axU:vc P gl orc Y .ret s Q=Q .ret s:=nd rfl
@[simp] def axV:vc P gl orc Y .bad s Q=False:=nd rfl
def aet{c:SC}(I:AS->Prop)(μ:AS->Nat)(h0:I s)(hr:∀s',I s'->vc P gl orc Y c s' (mX I μ s' Q)):vc P gl orc Y (.loop c) s Q:=⟨I,μ,h0,hr⟩
variable (k:AS->(So)->Prop) (id id':Nat) (I:AS->Prop) (μ:AS->Nat) (s0:AS)
@[simp] def aiY:V9 k Q .normal s=k s Q:=nd rfl
@[simp] def aoB:V9 k Q (.exit id) s=Q (.exit id) s:=nd rfl
@[simp] def ast:V9 k Q .ret s=Q .ret s:=nd rfl
@[simp] def abw:qR id Q .normal s=Q .normal s:=nd rfl
@[simp] def aiZ:qR id Q (.exit id') s=if id'=id then Q .normal s else Q (.exit id') s:=nd rfl
@[simp] def al5:qR id Q .ret s=Q .ret s:=nd rfl
@[simp] def abx:wg Q .normal s=Q .normal s:=nd rfl
@[simp] def ai0:wg Q (.exit id) s=Q (.exit id) s:=nd rfl
@[simp] def al6:wg Q .ret s=Q .ret s:=nd rfl
@[simp] def aby:mX I μ s0 Q .normal s=(I s/\μ s<μ s0):=nd rfl
@[simp] def ai1:mX I μ s0 Q (.exit id) s=Q (.exit id) s:=nd rfl
@[simp] def al7:mX I μ s0 Q .ret s=Q .ret s:=nd rfl
end
@[simp] def awl(P:Program)(gl:Nat->AV)(orc:X1)(Y:YT)(s:AS)(Q:So)(l l2:List SO):vc P gl orc Y (.draw l l2) s Q=vcD P gl orc Y l2 (Q .normal) l s.T s.m []:=nd rfl
def al8(T:P1)(f:Nat->AV):P2->P1
 |[]=>T
 |i::W=>al8 (T.set i (f i)) f W
def CT(T:P1)(W:P2)(R:(Nat->AV)->AM->Prop)(μ:(Nat->AV)->AM->Nat)(f:Nat->AV)(m:AM)(Q:So):So
 |.normal,s'=>s'.T=al8 T (fun i=>s'.T.getD i .junk) W/\R (fun i=>s'.T.getD i .junk) s'.m/\μ (fun i=>s'.T.getD i .junk) s'.m<μ f m
 |ex,s'=>Q ex s'
section
variable (T:P1) (W:P2) (R:(Nat->AV)->AM->Prop) (μ:(Nat->AV)->AM->Nat) (f:Nat->AV) (m:AM) (Q:So) (s:AS) (id:Nat)
@[simp] def WJ:CT T W R μ f m Q .normal s=(s.T=al8 T (fun i=>s.T.getD i .junk) W/\R (fun i=>s.T.getD i .junk) s.m/\μ (fun i=>s.T.getD i .junk) s.m<μ f m):=nd rfl
@[simp] def aeu:CT T W R μ f m Q (.exit id) s=Q (.exit id) s:=nd rfl
@[simp] def ai2:CT T W R μ f m Q .ret s=Q .ret s:=nd rfl
end
def nth(l:P1)(n:Nat):AV:=l.getD n .junk
def Qf(l:X2)(n:Nat):P1:=l.getD n []
@[simp high] theorem Qbe(l:P1)(n:Nat):l.getD n .junk=nth l n:=rfl
@[simp high] theorem Vo(l:X2)(n:Nat):l.getD n []=Qf l n:=rfl
@[simp] theorem awm(n:Nat):nth [] n=.junk:=rfl
@[simp] theorem asu(a:AV)(l:P1):nth (a::l) 0=a:=rfl
@[simp] theorem asv(a:AV)(l:P1)(n:Nat):nth (a::l) (n+1)=nth l n:=rfl
@[simp] theorem asw(n:Nat):Qf [] n=[]:=rfl
@[simp] theorem aoC(a:P1)(l:X2):Qf (a::l) 0=a:=rfl
@[simp] theorem aoD(a:P1)(l:X2)(n:Nat):Qf (a::l) (n+1)=Qf l n:=rfl
@[simp] def FH(l l':X2):Qf (l++l') l.length=Qf l' 0:=by simp[Qf,zzaq,-Vo,zzaw]
@[simp] def Xt(l l':X2)(k:Nat):Qf (l++l') (l.length+k)=Qf l' k:=by simp[Qf,zzaq,-Vo,zzaw]
@[simp] def awn(l l':X2)(x:P1):(l++l').set l.length x=l++l'.set 0 x:=by simp[zzch]
@[simp] def ai3(l l':X2)(k:Nat)(x:P1):(l++l').set (l.length+k) x=l++l'.set k x:=by simp[zzch]
def Qv{l:X2}{n:Nat}{x:P1}(h:l[n]?=some x):Qf l n=x:=by simp[Qf,zzaq,-Vo,h]
def al9{l:P1}{n:Nat}{x:AV}(h:l[n]?=some x):nth l n=x:=by simp[nth,zzaq,-Qbe,h]
def numOf:AV->Int
 |.int _ n=>n
 |_=>0
@[simp] theorem aoE(k:IntKind)(n:Int):numOf (.int k n)=n:=rfl
@[simp] theorem ai4:UN .full=true:=rfl
@[simp] theorem ama:UN .nil=true:=rfl
@[simp] theorem aoF:UN .ro=false:=rfl
@[simp] theorem aoG:UN .nn=false:=rfl
@[simp] theorem amb(i s:Nat):UN (.own i s)=false:=rfl
@[simp] theorem amc(sz:Nat)(l:P1):aY sz 0 l=[]:=rfl
@[simp] theorem mY(sz n:Nat)(l:P1):aY sz (n+1) l=l.take sz::aY sz n (l.drop sz):=rfl
@[simp] theorem amd:Yj []=some []:=rfl
@[simp] def FI(n:Int)(r:X2):Yj ([.int .u8 n]::r)=(match Yj r with|some l=>some (UInt8.ofNat n.toNat::l)|_=>none):=by
 simp only[Yj,byteOf];cases Yj r<;>rfl
@[simp] theorem asx(b:Bool):asB (.bool b)=some (true,b):=rfl
@[simp] theorem asy(b:Bool):isB (.bool b)=true:=rfl
@[simp] theorem asz(b:Bool):bOf (.bool b)=b:=rfl
@[simp] theorem awo(a:AV):asB (.gd false a)=some (false,bOf a):=rfl
@[simp] theorem awp(a:AV):asB (.gd true a)=some (isB a,bOf a):=rfl
@[simp] def axW(g b:Bool):asB (.gd g (.bool b))=some (g,b):=by cases g<;>rfl
@[simp] theorem asA(want g:Bool):Iq want (.bool g)=some (g==want):=rfl
@[simp] theorem axX(want d b:Bool):Iq want (.gd d (.bool b))=some (d&&(b==want)):=rfl
@[simp] def awq(want:Bool)(a:AV):Iq want (.gd false a)=some false:=by cases a<;>rfl
@[simp] theorem awr(gl:Nat->AV)(T:P1)(t:Nat):evS gl T (.tmp t)=strip (nth T t):=rfl
@[simp] theorem aoH(gl:Nat->AV)(T:P1)(a:AV):evS gl T (.const a)=strip a:=rfl
@[simp] theorem asC(gl:Nat->AV)(T:P1)(f:FuncId):evS gl T (.func f)=.fn f [] []:=rfl
@[simp] theorem asD(gl:Nat->AV)(T:P1)(g:Nat):evS gl T (.glob g)=strip (gl g):=rfl
section
variable (P:Program) (gl:Nat->AV) (orc:X1) (Y:YT) (K:AS->Prop) (r:List SO) (T:P1) (m:AM) (d:Option Nat) (op:aC) (xs:List bN) (s:AS)
@[simp] def aoI:Zg P gl orc Y [] s K=K s:=nd rfl
@[simp] def ame:Zg P gl orc Y (⟨d,op,none,xs⟩::r) s K=(if effy orc (ev gl s.T) s.m d op=true then Qbo P gl Y (ev gl s.T) s.m (fun av m'=>Zg P gl orc Y r ⟨put s.T d av,m'⟩ K) op
   else(sop P gl orc (ev gl s.T) s.m d op).1/\Zg P gl orc Y r ⟨put s.T d (sop P gl orc (ev gl s.T) s.m d op).2.1,(sop P gl orc (ev gl s.T) s.m d op).2.2⟩ K):=nd rfl
@[simp] def amf(t:Nat)(want:Bool):Zg P gl orc Y (⟨d,op,some (some t,want),xs⟩::r) s K=(match Iq want (s.T.getD t .junk)with
   |some gw=>gok gl s.T gw (gxs op xs)/\
     if effy orc (evG gl s.T op) s.m d op=true then
      (gw=true->Qbo P gl Y (evG gl s.T op) s.m (fun av m'=>Zg P gl orc Y r ⟨put s.T d (.gd true av),m'⟩ K) op)/\(gw=false->Zg P gl orc Y r ⟨put s.T d (.gd false (.bool false)),s.m⟩ K)
     else(gw=true->(rop P gl orc (evG gl s.T op) s.m d op).1)/\
      Zg P gl orc Y r ⟨put s.T d (.gd gw (rop P gl orc (evG gl s.T op) s.m d op).2),s.m⟩ K
   |none=>False):=nd rfl
variable (l2:List SO) (nb:X2) (o:SO)
@[simp] def aws:vcD P gl orc Y l2 K [] T m nb=Zg P gl orc Y l2 ⟨T,{m with boxes:=m.boxes++nb}⟩ K:=nd rfl
@[simp] def asE:vcD P gl orc Y l2 K (o::r) T m nb=((dop P gl orc o T m nb).1/\vcD P gl orc Y l2 K r (put T o.dst (dop P gl orc o T m nb).2.1) m (dop P gl orc o T m nb).2.2):=nd rfl
end
attribute [simp] rawOp evG gxs effy Qbo callV dop ev Kc oneOf strip gok setA fillA sop rop binV binI binS binBool Vx kindF eqF Qcl eqFs loOf hiOf lenS cellsS mutO vcNxt keyA intsA keyAV
def qS(n:Nat)(a:AV):bH n [a]=List.replicate n a:=by
 induction n with
 |zero=>rfl
 |succ n ih=>rw[bH,ih];rfl
@[simp] theorem ai5(P:Program)(gl:Nat->AV)(orc:X1)(rs:List aC)(r:AV)(s:AS):post P gl orc rs r .normal s=((Kc P gl orc s rs).1/\bG s.m 6 (oneOf (Kc P gl orc s rs).2)=r):=rfl
@[simp] theorem asF(P:Program)(gl:Nat->AV)(orc:X1)(rs:List aC)(r:AV)(s:AS):post P gl orc rs r .ret s=((Kc P gl orc s rs).1/\bG s.m 6 (oneOf (Kc P gl orc s rs).2)=r):=rfl
@[simp] theorem aev(P:Program)(gl:Nat->AV)(orc:X1)(rs:List aC)(K:UV)(s:AS):wj P gl orc rs K .normal s=((Kc P gl orc s rs).1/\K (oneOf (Kc P gl orc s rs).2) s.m):=rfl
@[simp] theorem aoJ(P:Program)(gl:Nat->AV)(orc:X1)(rs:List aC)(K:UV)(s:AS):wj P gl orc rs K .ret s=((Kc P gl orc s rs).1/\K (oneOf (Kc P gl orc s rs).2) s.m):=rfl
@[simp] theorem ai6(K:List PanicEntry->AM->Prop)(ch:List PanicEntry)(s:AS):NV K (.panic ch) s=K ch s.m:=rfl
section
variable (m:AM) (d:Nat)
@[simp] theorem ai7(b:Bool):Qw (.bool b)=true:=rfl
@[simp] theorem amg(k:IntKind)(n:Int):Qw (.int k n)=true:=rfl
@[simp] theorem amh(s:ByteArray):Qw (.str s)=true:=rfl
@[simp] theorem aoK(rt:Rt)(r:X2):Qw (.sl rt r)=true:=rfl
@[simp] theorem aoL(r:P1)(o:Nat):Qw (.ep r o)=true:=rfl
@[simp] theorem ami(i o:Nat):Qw (.ptr i o)=true:=rfl
@[simp] theorem aoM(i o n z:Nat):Qw (.bs i o n z)=true:=rfl
@[simp] theorem aoN(t:TypeId)(a:Addr):Qw (.er t a)=false:=rfl
@[simp] theorem aoO(f:FuncId)(a b:P1):Qw (.fn f a b)=true:=rfl
@[simp] theorem ai8(p:Bool):Qw (.nilv p)=true:=rfl
@[simp] theorem aew:Qw .nilfn=true:=rfl
@[simp] theorem amj(l:Nat):Qw (.yld l)=true:=rfl
@[simp] theorem aoP(i:Nat):Qw (.mp i)=true:=rfl
@[simp] theorem aoQ(i:Nat):Qw (.it i)=true:=rfl
@[simp] theorem ai9(k:Nat)(l:List (Pi×AV)):Qw (.aM k l)=false:=rfl
@[simp] theorem aja(i n:Nat)(l:P2):Qw (.mitr i n l)=false:=rfl
@[simp] theorem ajb:Qw .junk=false:=rfl
@[simp] theorem amk(cs:P1):Qw (.agg cs)=false:=rfl
@[simp] theorem aml(cs:P1):Qw (.aS cs)=false:=rfl
@[simp] theorem aoR(g:Bool)(a:AV):Qw (.gd g a)=false:=rfl
@[simp] theorem aoS(b:Bool):bare (.bool b)=true:=rfl
@[simp] theorem asG(k:IntKind)(n:Int):bare (.int k n)=true:=rfl
@[simp] theorem asH(s:ByteArray):bare (.str s)=true:=rfl
@[simp] theorem awt(rt:Rt)(r:X2):bare (.sl rt r)=true:=rfl
@[simp] theorem awu(r:P1)(o:Nat):bare (.ep r o)=true:=rfl
@[simp] theorem asI(i o:Nat):bare (.ptr i o)=true:=rfl
@[simp] theorem awv(i o n z:Nat):bare (.bs i o n z)=true:=rfl
@[simp] theorem aww(t:TypeId)(a:Addr):bare (.er t a)=true:=rfl
@[simp] theorem awx(f:FuncId)(a b:P1):bare (.fn f a b)=true:=rfl
@[simp] theorem aoT(p:Bool):bare (.nilv p)=true:=rfl
@[simp] theorem amm:bare .nilfn=true:=rfl
@[simp] theorem asJ(l:Nat):bare (.yld l)=true:=rfl
@[simp] theorem awy(i:Nat):bare (.mp i)=true:=rfl
@[simp] theorem awz(i:Nat):bare (.it i)=true:=rfl
@[simp] theorem aoU(k:Nat)(l:List (Pi×AV)):bare (.aM k l)=false:=rfl
@[simp] theorem aoV(i n:Nat)(l:P2):bare (.mitr i n l)=false:=rfl
@[simp] theorem asK(cs:P1):bare (.agg cs)=true:=rfl
@[simp] theorem aoW:bare .junk=false:=rfl
@[simp] theorem asL(cs:P1):bare (.aS cs)=false:=rfl
@[simp] theorem awA(g:Bool)(a:AV):bare (.gd g a)=false:=rfl
@[simp] theorem aex(b:Bool):cellsOf (.bool b)=[.bool b]:=rfl
@[simp] theorem ajc(k:IntKind)(n:Int):cellsOf (.int k n)=[.int k n]:=rfl
@[simp] theorem ajd(s:ByteArray):cellsOf (.str s)=[.str s]:=rfl
@[simp] theorem amn(rt:Rt)(r:X2):cellsOf (.sl rt r)=[.sl rt r]:=rfl
@[simp] theorem amo(r:P1)(o:Nat):cellsOf (.ep r o)=[.ep r o]:=rfl
@[simp] theorem aje(i o:Nat):cellsOf (.ptr i o)=[.ptr i o]:=rfl
@[simp] theorem amq(i o n z:Nat):cellsOf (.bs i o n z)=[.bs i o n z]:=rfl
@[simp] theorem amr(t:TypeId)(a:Addr):cellsOf (.er t a)=[.er t a]:=rfl
@[simp] theorem ams(f:FuncId)(a b:P1):cellsOf (.fn f a b)=[.fn f a b]:=rfl
@[simp] theorem aey(p:Bool):cellsOf (.nilv p)=[.nilv p]:=rfl
@[simp] theorem abz:cellsOf .nilfn=[.nilfn]:=rfl
@[simp] theorem ajf(l:Nat):cellsOf (.yld l)=[.yld l]:=rfl
@[simp] theorem amt(i:Nat):cellsOf (.mp i)=[.mp i]:=rfl
@[simp] theorem amu(i:Nat):cellsOf (.it i)=[.it i]:=rfl
@[simp] theorem ajg(cs:P1):cellsOf (.agg cs)=cs:=rfl
@[simp] theorem asM(b:Bool):bG m (d+1) (.bool b)=.bool b:=rfl
@[simp] theorem awB(k:IntKind)(n:Int):bG m (d+1) (.int k n)=.int k n:=rfl
@[simp] theorem awC(s:ByteArray):bG m (d+1) (.str s)=.str s:=rfl
@[simp] theorem asN(p:Bool):bG m (d+1) (.nilv p)=.nilv p:=rfl
@[simp] theorem aoX:bG m (d+1) .nilfn=.nilfn:=rfl
@[simp] theorem awD(l:Nat):bG m (d+1) (.yld l)=.junk:=rfl
@[simp] theorem axY(i:Nat):bG m (d+1) (.mp i)=.junk:=rfl
@[simp] theorem axZ(i:Nat):bG m (d+1) (.it i)=.junk:=rfl
@[simp] theorem asO:bG m (d+1) .junk=.junk:=rfl
@[simp] theorem awE(cs:P1):bG m (d+1) (.agg cs)=.agg (cs.map (bG m d)):=rfl
@[simp] theorem awF(cs:P1):bG m (d+1) (.aS cs)=.aS (cs.map (bG m d)):=rfl
@[simp] theorem ax0(f:FuncId)(a b:P1):bG m (d+1) (.fn f a b)=.fn f (a.map (bG m d)) (b.map (bG m d)):=rfl
@[simp] theorem ax1(r:X2):bG m (d+1) (.sl .ro r)=.sl .ro r:=rfl
@[simp] theorem asP(r:X2):bG m (d+1) (.sl .full r)=.sl .full r:=rfl
@[simp] theorem awG(r:X2):bG m (d+1) (.sl .nil r)=.sl .nil r:=rfl
@[simp] theorem ax2(r:X2):bG m (d+1) (.sl .nn r)=.sl .nn r:=rfl
@[simp] theorem awH(i s:Nat)(r:X2):bG m (d+1) (.sl (.own i s) r)=.sl .ro r:=rfl
@[simp] theorem ax3(r:P1)(o:Nat):bG m (d+1) (.ep r o)=.ep r o:=rfl
@[simp] def WK(i o n z:Nat):bG m (d+1) (.bs i o n z)=if o+n*z<=(m.boxes.getD i []).length then .sl .ro (aY z n (((m.boxes.getD i []).map (bG m d)).drop o))else .junk:=by
 simp only[bG];cases h:Nat.ble (o+n*z) (m.boxes.getD i []).length with
 |true=>rw[if_pos (zzha h)];rfl
 |false=>rw[if_neg (fun h'=>by rw[Nat.ble_eq_true_of_le h']at h;cases h)];rfl
@[simp] theorem o8(i o:Nat):bG m (d+1) (.ptr i o)=.ep ((m.boxes.getD i []).map (bG m d)) o:=rfl
@[simp] theorem aoY(b:Bool):Vz (d+1) (.bool b)=false:=rfl
@[simp] theorem asQ(k:IntKind)(n:Int):Vz (d+1) (.int k n)=false:=rfl
@[simp] theorem asR(s:ByteArray):Vz (d+1) (.str s)=false:=rfl
@[simp] theorem aoZ(p:Bool):Vz (d+1) (.nilv p)=false:=rfl
@[simp] theorem amv:Vz (d+1) .nilfn=false:=rfl
@[simp] theorem asS(l:Nat):Vz (d+1) (.yld l)=false:=rfl
@[simp] theorem awI(i:Nat):Vz (d+1) (.mp i)=false:=rfl
@[simp] theorem awJ(i:Nat):Vz (d+1) (.it i)=false:=rfl
@[simp] theorem ao0:Vz (d+1) .junk=false:=rfl
@[simp] theorem asT(cs:P1):Vz (d+1) (.agg cs)=cs.any (Vz d):=rfl
@[simp] theorem asU(cs:P1):Vz (d+1) (.aS cs)=cs.any (Vz d):=rfl
@[simp] theorem awK(f:FuncId)(a b:P1):Vz (d+1) (.fn f a b)=(a.any (Vz d)||b.any (Vz d)):=rfl
@[simp] theorem awL(rt:Rt)(r:X2):Vz (d+1) (.sl rt r)=false:=rfl
@[simp] theorem awM(r:P1)(o:Nat):Vz (d+1) (.ep r o)=false:=rfl
@[simp] theorem awN(i o n z:Nat):Vz (d+1) (.bs i o n z)=true:=rfl
@[simp] theorem awO(t:TypeId)(a:Addr):Vz (d+1) (.er t a)=false:=rfl
@[simp] theorem ax4(t:TypeId)(a:Addr):bG m (d+1) (.er t a)=.er t a:=rfl
@[simp] theorem asV(i o:Nat):Vz (d+1) (.ptr i o)=true:=rfl
@[simp] theorem ao1(b:Bool):flat (.bool b)=true:=rfl
@[simp] theorem asW(k:IntKind)(n:Int):flat (.int k n)=true:=rfl
@[simp] theorem asX(s:ByteArray):flat (.str s)=true:=rfl
@[simp] theorem amw(b:Bool):iS (.bool b)=true:=rfl
@[simp] theorem ao2(k:IntKind)(n:Int):iS (.int k n)=true:=rfl
@[simp] theorem ao3(s:ByteArray):iS (.str s)=true:=rfl
@[simp] theorem asY(cs:P1):flat (.aS cs)=cs.all iS:=rfl
end
def FJ:AV->Bool
 |.bool _|.int _ _|.str _|.sl .ro _|.sl .full _|.sl .nil _|.sl .nn _|.nilfn|.ep _ _=>true
 |_=>false
@[simp] theorem asZ(b:Bool):FJ (.bool b)=true:=rfl
@[simp] theorem awP(k:IntKind)(n:Int):FJ (.int k n)=true:=rfl
@[simp] theorem awQ(s:ByteArray):FJ (.str s)=true:=rfl
@[simp] theorem ax5(r:X2):FJ (.sl .ro r)=true:=rfl
@[simp] theorem as0(r:X2):FJ (.sl .full r)=true:=rfl
@[simp] theorem awR(r:X2):FJ (.sl .nil r)=true:=rfl
@[simp] theorem ax6(r:X2):FJ (.sl .nn r)=true:=rfl
@[simp] theorem ax7(r:P1)(o:Nat):FJ (.ep r o)=true:=rfl
def NW(m:AM)(d:Nat){a:AV}(h:FJ a=true):bG m (d+1) a=a:=by
 cases a<;>simp[FJ]at h |-
 rename_i rt rows;cases rt<;>simp at h |-
def Zw(row:P1):Bool:=row.all FJ
def Vn(m:AM)(d:Nat){row:P1}(h:Zw row=true):row.map (bG m (d+1))=row:=by
 have:row.map (bG m (d+1))=row.map id:=zzdb fun a ha=>NW m d (zzbf.1 h a ha);rw[this,List.map_id]
def Qh{n:Int}(h1: -9223372036854775808<=n)(h2:n<=9223372036854775807):IntKind.i64.wrap n=n:=by
 rw[IntKind.wrap_i64];omega
def bO(i:Nat)(h:i<1000000000000000000):IntKind.i64.wrap ((i:Int)+1)=((i+1:Nat):Int):=by rw[Qh]<;>omega
def aX{α:Type}{l:List α}{i:Nat}(h:i<l.length):∃x,l[i]?=some x:=⟨_,zzac h⟩
@[simp] theorem Ut(m:AM)(l:Nat)(x:LS):(m.at_ l x).boxes=m.boxes:=rfl
@[simp] theorem CU(m:AM)(l:Nat)(x:LS):(m.at_ l x).lens=m.lens:=rfl
@[simp] theorem ajh(m:AM)(l:Nat)(x:LS):(m.at_ l x).st=uo m.st l x:=rfl
@[simp] def azN(m:AM)(l:Nat)(x y:LS):(m.at_ l x).at_ l y=m.at_ l y:=by
 simp only[AM.at_];congr 1;funext i;simp only[uo];split<;>rfl
@[simp] def as1(st:Nat->LS)(l:Nat)(x:LS):uo st l x l=x:=by simp[uo]
@[simp] def awS(st:Nat->LS)(l:Nat)(x y:LS):uo (uo st l x) l y=uo st l y:=by funext i;simp only[uo];split<;>rfl
def fR(m m':AM):Prop:=(∃bx,m'.boxes=m.boxes++bx)/\(∃lx,m'.lens=m.lens++lx)/\∀l,m.st l≠.gone->m'.st l=m.st l
def fR.refl(m:AM):fR m m:=⟨⟨[],zd⟩,⟨[],zd⟩,fun _ _=>rfl⟩
def fR.trans{m m' lz:AM}(h:fR m m')(k:fR m' lz):fR m lz:=by
 obtain⟨⟨b,h1⟩,⟨c,h2⟩,h3⟩:=h;obtain⟨⟨b',k1⟩,⟨c',k2⟩,k3⟩:=k;exact⟨⟨b++b',by rw[k1,h1,zzbd]⟩,⟨c++c',by rw[k2,h2,zzbd]⟩,fun l hl=>by rw[k3 l (by rw[h3 l hl];exact hl),h3 l hl]⟩
def fR.box(m:AM)(b:X2):fR m {m with boxes:=m.boxes++b}:=⟨⟨b,rfl⟩,⟨[],zd⟩,fun _ _=>rfl⟩
def fR.gone{m m':AM}(h:fR m m')(l:Nat):fR (m.at_ l .gone) (m'.at_ l .gone):=
 ⟨h.1,h.2.1,fun l' fA=>by
  by_cases e:l'=l
  ·subst e;simp at fA
  simp only[ajh,uo,e,if_false]at fA |-;exact h.2.2 l' fA⟩
def wk(y:P1->AM->(Bool->AM->Prop)->Prop)(K:AM->Prop):X2->AM->Prop
 |[],m=>∀m',fR m m'->K m'
 |x::xs,m=>∀m',fR m m'->∀K':Bool->AM->Prop,(∀lz,wk y K xs lz->K' true lz)->(∀lz,(∀m3,fR lz m3->K m3)->K' false lz)->y x m' K'
def wk.ext{y:P1->AM->(Bool->AM->Prop)->Prop}{K:AM->Prop}{xs:X2}{m m':AM}(h:wk y K xs m)(e:fR m m'):wk y K xs m':=by
 cases xs with
 |nil=>exact fun m2 e2=>h m2 (e.trans e2)
 |cons x xs=>exact fun m2 e2=>h m2 (e.trans e2)
def Iter(P:Program)(gl:Nat->AV)(f:FuncId)(first cap:P1)(xs:X2):Prop:=
 ∀(Y:YT)(l:Nat)(m:AM)(K:AM->Prop),wk (Y l) K xs m->aF P gl Y f (first++[.yld l]++cap) m fun _ m'=>K m'
def ji{P:Program}{gl:Nat->AV}{orc:X1}{Y:YT}{s:AS}{Q:So}{g:bN}{ps:P2}{oU body:SC}{f:FuncId}{first cap:P1}{xs:X2}
  (hg:ev gl s.T g=.fn f first cap)(cV:Iter P gl f first cap xs)(aH:∀x∈xs,x.length=ps.length)(I:Nat->AM->Prop)(X:Exit->AM->Prop)(h0:I 0 s.m)
  (hI:∀i m m',I i m->fR m m'->I i m')(hX:∀ex m m',X ex m->fR m m'->X ex m')
  (
   hb:∀(l i:Nat)(m:AM)(x:P1),s.m.st l=.gone->m.st l=.ready->I i (m.at_ l .gone)->xs[i]?=some x->∀K':So,
   (∀s',I (i+1) (s'.m.at_ l .gone)->K' .normal s')->(∀s',X .ret (s'.m.at_ l .gone)->K' .ret s')->(∀id s',X (.exit id) (s'.m.at_ l .gone)->K' (.exit id) s')->
   vc P gl orc Y oU ⟨Qbp s.T ps x,m⟩ (QG l fun s'=>vc P gl orc Y body s' K'))
  (WL:∀m,I xs.length m->Q .normal ⟨s.T,m⟩)(hex:∀ex m,X ex m->Q ex ⟨s.T,m⟩):vc P gl orc Y (.rfunc g ps oU body) s Q:=by
 simp only[vc,hg];intro hl;generalize eO:s.m.ln=l at hl;refine cV _ l s.m.bM (fun m'=>Kf l s.T m' Q (m'.st l)) ?_;have eX:∀{m m':AM},m.st l=.ready->fR m m'->m'.st l=.ready:=fun h e=>by rw[e.2.2 l (by rw[h];simp),h]
 have key:∀(n i:Nat)(m:AM),i+n=xs.length->I i (m.at_ l .gone)->m.st l=.ready->wk (Yin Y l ps.length (fun args m K=>vc P gl orc Y oU ⟨Qbp s.T ps args,m⟩ (QG l fun s'=>vc P gl orc Y body s' (Wa l K))) l) (fun m'=>Kf l s.T m' Q (m'.st l)) (xs.drop i) m:=by
  intro n;induction n with
  |zero=>
   intro i m hi hIm hm;rw[zzaj zE];intro m' e;simp only[eX hm e,Kf];obtain rfl:i=xs.length:=zE
   exact WL _ (hI _ _ _ hIm (e.gone l))
  |succ n ih=>
   intro i m hi hIm hm;have ah:i<xs.length:=zE
   rw[zzae ah];intro m' e K' hT hF;simp only[Yin,if_true];refine⟨eX hm e,aH _ (zzdc ah),?_⟩;refine hb l i m' xs[i] hl (eX hm e) (hI _ _ _ hIm (e.gone l)) (zzac ah) (Wa l K') (fun s' mU=>?_) (fun s' hQ=>?_) fun id s' hQ=>?_
   ·refine hT _ (ih (i+1) _ zE ?_ zd);simpa using mU
   ·refine hF _ fun m3 e3=>?_;have h3:m3.st l=.done .ret:=by have:=e3.2.2 l zd;simpa using this
    simp only[h3];exact hex _ _ (hX _ _ _ hQ (by have:=e3.gone l;simpa using this))
   refine hF _ fun m3 e3=>?_;have h3:m3.st l=.done (.exit id):=by have:=e3.2.2 l zd;simpa using this
   simp only[h3];exact hex _ _ (hX _ _ _ hQ (by have:=e3.gone l;simpa using this))
 have:=key xs.length 0 s.m.bM zd (hI 0 s.m _ h0 ⟨⟨[],by simp[AM.bM]⟩,⟨[],by simp[AM.bM]⟩,fun l' fA=>by
  have:l'≠l:=by rintro rfl;exact fA hl
  simp[AM.bM,eO,uo,this]⟩) (by simp[AM.bM,eO])
 simpa using this
attribute [simp] Qbp
section
variable (l:Nat) (k:AS->Prop) (s:AS) (id:Nat)
@[simp] def aji:QG l k .normal s=(s.m.st l=.ready/\k ⟨s.T,s.m.at_ l .busy⟩):=nd rfl
end
def look:QP->Nat->AV
 |[],_=>.junk
 |(d,v)::r,t=>if d=t then v else look r t
def Za(n:Nat)(E:QP):P1:=(List.range n).map (look E)
def lW:Nat->P1->QP
 |_,[]=>[]
 |i,a::r=>(i,a)::lW (i+1) r
@[simp] theorem qT(d:Nat)(v:AV)(r:QP)(t:Nat):look ((d,v)::r) t=if d=t then v else look r t:=rfl
@[simp] theorem look_nil(t:Nat):look [] t=.junk:=rfl
@[simp] theorem ao4(i:Nat):lW i []=[]:=rfl
@[simp] theorem Ks(i:Nat)(a:AV)(r:P1):lW i (a::r)=(i,a)::lW (i+1) r:=rfl
@[simp] def aez{n t:Nat}{E:QP}(h:t<n):nth (Za n E) t=look E t:=by
 simp[nth,Za,zzaq,-Qbe,h]
def Zk{n d:Nat}{E:QP}(h:d<n)(v:AV):(Za n E).set d v=Za n ((d,v)::E):=by
 apply zzey (by simp[Za]);intro i h1 h2;rw[List.getElem_set];simp[Za]
@[simp] def awT{n d:Nat}{E:QP}(h:d<n)(v:AV):put (Za n E) (some d) v=Za n ((d,v)::E):=Zk h v
@[simp] theorem as2(T:P1)(v:AV):put T none v=T:=rfl
@[simp] def ao5{n d:Nat}{E:QP}(h:d<n)(ps:P2)(x:AV)(xs:P1):Qbp (Za n E) (d::ps) (x::xs)=Qbp (Za n ((d,x)::E)) ps xs:=by
 rw[Qbp,Zk h]
def wm:∀(l:P1)(i t:Nat),look (lW i l) t=if i<=t then l.getD (t-i) .junk else .junk
 |[],i,t=>by simp[-Qbe]
 |a::r,i,t=>by
  rw[Ks,qT,wm r (i+1) t];by_cases h:i=t
  ·subst h;simp[-Qbe]
  rw[if_neg h];by_cases h':i<=t
  ·rw[if_pos zE,if_pos h',show t-i=(t-(i+1))+1 by omega];simp[-Qbe]
  rw[if_neg zE,if_neg h']
def qU{n:Nat}{l:P1}(h:l.length<=n):l++List.replicate (n-l.length) .junk=Za n (lW 0 l):=by
 apply zzey
 ·simp[Za];omega
 intro i h1 h2;simp only[Za,List.getElem_map,List.getElem_range,wm,zzbe,if_true,zzef];rw[List.getElem_append];split
 ·rename_i hi;simp[zzaq,-Qbe,hi]
 rename_i hi;simp[zzaq,-Qbe,hi]
section
variable {P:Program} {gl:Nat->AV} {Y:YT}
def Qm{f:FuncId}{sc:SC}{rs:List aC}{n:Nat}(hc:cO P f sc rs n)(orc:X1){l:P1}{r:AV}(hn:l.length<=n)
  (h:vc P gl orc Y0 sc ⟨Za n (lW 0 l),⟨[],[],fun _=>.gone,0⟩⟩ (post P gl orc rs r)):Pure P gl f l r:=aer hc orc (by rw[qU hn];exact h)
def Xn{f:FuncId}{sc:SC}{rs:List aC}{n:Nat}(hc:cO P f sc rs n)(orc:X1){l:P1}{m:AM}{K:UV}(hn:l.length<=n)
  (h:vc P gl orc Y sc ⟨Za n (lW 0 l),m⟩ (wj P gl orc rs K)):aF P gl Y f l m K:=WI hc orc (by rw[qU hn];exact h)
def NX{f:FuncId}{sc:SC}{rs:List aC}{n:Nat}(hc:cO P f sc rs n)(orc:X1){l:P1}{m:AM}{K:List PanicEntry->AM->Prop}(hn:l.length<=n)
  (h:vc P gl orc Y sc ⟨Za n (lW 0 l),m⟩ (NV K)):Fe P gl Y f l m K:=aeq hc orc (by rw[qU hn];exact h)
end
def gj(W:P2)(E' E:QP):Prop:=∀t,W.contains t=false->look E' t=look E t
def Qa(W:P2)(E:QP):gj W E E:=fun _ _=>rfl
def Qb{W:P2}{E' E:QP}{k:Nat}(v:AV)(hk:W.contains k=true)(h:gj W E' E):gj W ((k,v)::E') E:=fun t ht=>by
 rw[qT,if_neg (by rintro rfl;rw[hk]at ht;cases ht)];exact h t ht
def kN(n:Nat)(E:QP)(W:P2)(R:(Nat->AV)->AM->Prop)(μ:(Nat->AV)->AM->Nat)(f:Nat->AV)(m:AM)(Q:So):So
 |.normal,s'=>(∃E',s'.T=Za n E'/\gj W E' E)/\R (nth s'.T) s'.m/\μ (nth s'.T) s'.m<μ f m
 |ex,s'=>Q ex s'
def Qcf(f:Nat->AV):P2->QP->QP
 |[],E=>E
 |i::W,E=>(i,f i)::Qcf f W E
@[simp] theorem amx(f:Nat->AV)(E:QP):Qcf f [] E=E:=rfl
@[simp] theorem FK(f:Nat->AV)(i:Nat)(W:P2)(E:QP):Qcf f (i::W) E=(i,f i)::Qcf f W E:=rfl
def jj(f:Nat->AV)(E:QP)(t:Nat):∀W,look (Qcf f W E) t=if W.contains t then f t else look E t
 |[]=>zd
 |i::W=>by
  rw[FK,qT,jj f E t W];by_cases h:i=t
  ·subst h;simp
  have h':t≠i:=Ne.symm h;simp[h,h']
def CV(f:Nat->AV)(W:P2)(E:QP):gj W (Qcf f W E) E:=fun t ht=>by rw[jj,ht];rfl
def aeA{n:Nat}{E E':QP}(h:∀t,t<n->look E t=look E' t):Za n E=Za n E':=zzdb fun t ht=>h t (zzay.1 ht)
def AW{n:Nat}{W:P2}{E:QP}{T:P1}:(∃E',T=Za n E'/\gj W E' E)<->T=Za n (Qcf (nth T) W E):=by
 constructor
 ·rintro⟨E',rfl,h⟩;refine aeA fun t ht=>?_;rw[jj];cases hc:W.contains t with
  |true=>simp only[if_true];rw[aez ht]
  |false=>simp only[zzbo,if_false];exact h t hc
 exact fun h=>⟨_,h,CV _ _ _⟩
def Qk{P:Program}{gl:Nat->AV}{orc:X1}{Y:YT}{n:Nat}{E:QP}{m0:AM}{Q:So}{c:SC}(W:P2)(R:(Nat->AV)->AM->Prop)(μ:(Nat->AV)->AM->Nat)
  (h0:R (nth (Za n E)) m0)(hr:∀f m,R f m->vc P gl orc Y c ⟨Za n (Qcf f W E),m⟩ (kN n E W R μ f m Q)):vc P gl orc Y (.loop c) ⟨Za n E,m0⟩ Q:=by
 refine aet P gl orc Y ⟨Za n E,m0⟩ Q (fun s'=>s'.T=Za n (Qcf (nth s'.T) W E)/\R (nth s'.T) s'.m) (fun s'=>μ (nth s'.T) s'.m) ⟨AW.1 ⟨E,rfl,Qa _ _⟩,h0⟩ ?_;rintro⟨T',m'⟩ ⟨h1,h2⟩;have:=hr _ m' h2;rw[<- h1]at this
 have e:kN n E W R μ (nth T') m' Q=mX (fun s'=>s'.T=Za n (Qcf (nth s'.T) W E)/\R (nth s'.T) s'.m) (fun s'=>μ (nth s'.T) s'.m) ⟨T',m'⟩ Q:=by
  funext ex s';cases ex<;>simp[kN,mX,and_assoc,AW]
 rwa [e]at this
section
variable (n:Nat) (E:QP) (W:P2) (R:(Nat->AV)->AM->Prop) (μ:(Nat->AV)->AM->Nat) (f:Nat->AV) (m:AM) (Q:So) (s:AS) (id:Nat)
@[simp] theorem WM:kN n E W R μ f m Q .normal s=((∃E',s.T=Za n E'/\gj W E' E)/\R (nth s.T) s.m/\μ (nth s.T) s.m<μ f m):=rfl
@[simp] theorem aeB:kN n E W R μ f m Q (.exit id) s=Q (.exit id) s:=rfl
@[simp] theorem ajj:kN n E W R μ f m Q .ret s=Q .ret s:=rfl
end
def ag{n:Nat}{E' E:QP}{W:P2}(h:gj W E' E):∃E1,Za n E'=Za n E1/\gj W E1 E:=⟨E',rfl,h⟩
def aP{n:Nat}{E' E:QP}{W:P2}(h:gj W E' E:=by repeat(first|exact Qa _ _|refine Qb _ rfl ?_)):∃E1,Za n E'=Za n E1/\gj W E1 E:=ag h
def jk(P:Program):List Field->Nat->Option Nat
 |[],n=>some n
 |f::r,n=>if f.offset=n then jk P r (n+P.cellsOf f.type)else none
def WN(P:Program):Nat->TypeId->Bool
 |0,_=>false
 |d+1,t=>match P.underlying t with
  |some .bool|some (.int _)|some .string=>P.cellsOf t==1
  |some (.slice e)=>((P.cellsOf t==1)&&!(P.cellsOf e==0))&&WN P d e
  |some (.struct fs)=>(jk P fs.toList 0==some (P.cellsOf t))&&fs.toList.all fun f=>WN P d f.type
  |some (.array n e)=>(P.cellsOf t==n*P.cellsOf e)&&WN P d e
  |_=>false
def cW{H:Type}(P:Program):Nat->TypeId->DataW H->P1
 |0,_,_=>[]
 |d+1,t,x=>match P.underlying t,x with
  |some .bool,.lit (.bool b)=>[.bool b]
  |some (.int _),.lit (.int k n)=>[.int k n]
  |some .string,.lit (.string s)=>[.str ⟨s.toArray⟩]
  |some (.slice _),.nil=>[.sl .nil []]
  |some (.slice e),.slice bR _=>[.sl .nn (bR.map (cW P d e))]
  |some (.struct fs),.agg parts=>(fs.toList.zip parts).flatMap fun p=>cW P d p.1.type p.2
  |some (.array _ e),.agg parts=>parts.flatMap (cW P d e)
  |_,_=>[]
def Typed{H:Type}(P:Program):Nat->TypeId->DataW H->Prop
 |0,_,_=>False
 |d+1,t,x=>match P.underlying t,x with
  |some .bool,.lit (.bool _)=>True
  |some (.int k),.lit (.int k' n)=>k'=k/\(Lit.int k n).wf=true
  |some .string,.lit (.string s)=>s.length<=maxLen
  |some (.slice _),.nil=>True
  |some (.slice e),.slice bR _=>bR.length<=maxLen/\∀y∈bR,Typed P d e y
  |some (.struct fs),.agg parts=>parts.length=fs.size/\∀p∈fs.toList.zip parts,Typed P d p.1.type p.2
  |some (.array n e),.agg parts=>parts.length=n/\∀y∈parts,Typed P d e y
  |_,_=>False
def CW:Nat->Nat->Prop:=fun _ _=>True
section
variable {H:Type} {enc:TypeId×Value->H} {P:Program} {w:World} {fM:Nat} {sp:Nat->Bool} {held:Bool}
def Kx{a:Addr}{n:Nat}{cs:PP}(h:w.cells? fM a n=some cs):cs.length=n/\∀(j:Nat)(v:Value),cs[j]?=some v->w.cell? (a.add j)=some v:=by
 unfold World.cells? at h;split at h
 ·obtain⟨h1,h2⟩:=Qdb _ _ _ h;refine⟨Nm h1,fun j v hj=>?_⟩
  have ah:j<n:=by
   have:=(zza.1 hj).1;simp at h1;omega
  exact h2 j j v (by simp[ah]) hj
 cases h
def CX{γ:G}:∀(l:X2)(WO:List (PP)),l.length=WO.length->(∀(i:Nat)(as':P1)(vs:PP),l[i]?=some as'->WO[i]?=some vs->ak w γ as' vs)->ak w γ l.flatten WO.flatten
 |[],[],_,_=>ak.nil
 |[],_::_,h,_=>by simp at h
 |_::_,[],h,_=>by simp at h
 |as'::l,vs::WO,h,hr=>by
  rw[zzcg,zzcg];exact(hr 0 as' vs rfl rfl).append (CX l WO (Nm h) fun i as' vs h1 h2=>hr (i+1) as' vs (Nm h1) (Nm h2))
def sG{cs:PP}:∀(fs:List Field)(n m:Nat),jk P fs n=some m->m=cs.length->n<=cs.length->(fs.map fun f=>(cs.drop f.offset).take (P.cellsOf f.type)).flatten=cs.drop n
 |[],n,m,h,hm,hn=>by simp[jk]at h;subst h;subst hm;simp
 |f::fs,n,m,h,hm,hn=>by
  simp only[jk]at h;split at h
  ·rename_i ho;subst ho
   have cw:∀(fs:List Field)(n m:Nat),jk P fs n=some m->n<=m:=by
    intro fs;induction fs with
    |nil=>intro n m h;simp[jk]at h;omega
    |cons f fs ih=>
     intro n m h;simp only[jk]at h;split at h
     ·have:=ih _ _ h;omega
     cases h
   have h1:=cw _ _ _ h;have ih:=sG fs _ m h hm zE;rw[zzax,zzcg,ih];rw[<- zzdw,zze]
  cases h
def KA{cs:PP}{k:Nat}:∀(n:Nat),cs.length=n*k->((List.range n).map fun i=>(cs.drop (i*k)).take k).flatten=cs:=by
 intro n hn
 have key:∀m,m<=n->((List.range m).map fun i=>(cs.drop (i*k)).take k).flatten=cs.take (m*k):=by
  intro m;induction m with
  |zero=>simp
  |succ m ih=>
   intro hm;rw[zzff,zzcj,zzej,ih zE];simp only[zzax,zzce,zzcg,List.flatten_nil,zzau];rw[zzbi,zzdp,List.take_add]
 rw[key n (zzaa _),<- hn,zzbp]
def trod_bool{t:TypeId}{bh:Nat}{cs:PP}{x:DataW H}{ps:List MemPlace}(hu:P.underlying t=some .bool)(h:DataW.trod enc P w fM sp held (bh+1) t cs=some (x,ps)):∃b,cs=[.bool b]/\x=.lit (.bool b):=by
 unfold DataW.trod at h;rw[hu]at h;obtain _|⟨v,_|⟨_,_⟩⟩:=cs
 ·cases h
 ·cases v<;>first|(cases h;done)|(cases h;exact⟨_,rfl,rfl⟩)
 cases v<;>first|(cases h;done)|(simp at h;done)
def trod_int{t:TypeId}{k:IntKind}{bh:Nat}{cs:PP}{x:DataW H}{ps:List MemPlace}(hu:P.underlying t=some (.int k))(h:DataW.trod enc P w fM sp held (bh+1) t cs=some (x,ps)):∃n,cs=[.int k n]/\x=.lit (.int k n)/\(Lit.int k n).wf=true:=by
 unfold DataW.trod at h;rw[hu]at h;obtain _|⟨v,_|⟨_,_⟩⟩:=cs
 ·cases h
 ·cases v<;>first|(cases h;done)|skip
  simp only at h;split at h
  ·rename_i hk;cases h;rw[hk.1];exact⟨_,rfl,rfl,hk.2⟩
  cases h
 cases v<;>first|(cases h;done)|(simp at h;done)
def WQ{t:TypeId}{bh:Nat}{cs:PP}{x:DataW H}{ps:List MemPlace}(hu:P.underlying t=some .string)(h:DataW.trod enc P w fM sp held (bh+1) t cs=some (x,ps)):∃s,cs=[.string s]/\x=.lit (.string s.data.toList)/\s.size<=maxLen:=by
 unfold DataW.trod at h;rw[hu]at h;obtain _|⟨v,_|⟨_,_⟩⟩:=cs
 ·cases h
 ·cases v<;>first|(cases h;done)|skip
  simp only at h;split at h
  ·rename_i hk;cases h;exact⟨_,rfl,rfl,hk⟩
  cases h
 cases v<;>first|(cases h;done)|(simp at h;done)
def aeC{t e:TypeId}{bh:Nat}{cs:PP}{x:DataW H}{ps:List MemPlace}(hu:P.underlying t=some (.slice e))(h:DataW.trod enc P w fM sp held (bh+1) t cs=some (x,ps)):
  (
   cs=[.slice none 0 0]/\x=.nil)\/∃a len cap bR rest,cs=[.slice (some a) len cap]/\len<=cap/\cap<=maxLen/\x=.slice (bR.map (·.1)) rest/\
   (List.range len).mapM (fun i=>(w.cells? fM (a.add (i*P.cellsOf e)) (P.cellsOf e)).bind (DataW.trod enc P w fM sp held bh e))=some bR:=by
 unfold DataW.trod at h;rw[hu]at h;obtain _|⟨v,_|⟨_,_⟩⟩:=cs
 ·cases h
 ·cases v<;>first|(cases h;done)|skip
  rename_i a len cap;cases a with
  |none=>cases len<;>cases cap<;>first|(cases h;done)|(cases h;exact .inl ⟨rfl,rfl⟩)
  |some a=>
   simp only at h;split at h
   case isFalse=>cases h
   rename_i hc;cases hm:(List.range len).mapM (fun i=>(w.cells? fM (a.add (i*P.cellsOf e)) (P.cellsOf e)).bind (DataW.trod enc P w fM sp held bh e))with
   |none=>rw[hm]at h;cases h
   |some bR=>
    rw[hm]at h;simp only[zzcr,zzb]at h;obtain⟨rest,_,h2⟩:=h;cases h2;exact .inr ⟨a,len,cap,bR,_,rfl,hc.2.1,hc.2.2,rfl,hm⟩
 cases v<;>first|(cases h;done)|skip
 rename_i a len cap;cases a with
 |none=>cases len<;>cases cap<;>first|(cases h;done)|(simp at h;done)
 |some a=>first|(cases h;done)|(simp at h;done)
def trod_struct{t:TypeId}{fs:Array Field}{bh:Nat}{cs:PP}{x:DataW H}{ps:List MemPlace}(hu:P.underlying t=some (.struct fs))(h:DataW.trod enc P w fM sp held (bh+1) t cs=some (x,ps)):
  cs.length=P.cellsOf t/\∃xs,x=.agg (xs.map (·.1))/\fs.toList.mapM (fun f=>DataW.trod enc P w fM sp held bh f.type ((cs.drop f.offset).take (P.cellsOf f.type)))=some xs:=by
 unfold DataW.trod at h;rw[hu]at h;simp only at h;split at h
 case isFalse=>cases h
 rename_i hc;simp only[zzb]at h;obtain⟨xs,h1,h2⟩:=h;cases h2;exact⟨hc,xs,rfl,h1⟩
def trod_array{t e:TypeId}{n:Nat}{bh:Nat}{cs:PP}{x:DataW H}{ps:List MemPlace}(hu:P.underlying t=some (.array n e))(h:DataW.trod enc P w fM sp held (bh+1) t cs=some (x,ps)):
  cs.length=P.cellsOf t/\∃xs,x=.agg (xs.map (·.1))/\(List.range n).mapM (fun i=>DataW.trod enc P w fM sp held bh e ((cs.drop (i*P.cellsOf e)).take (P.cellsOf e)))=some xs:=by
 unfold DataW.trod at h;rw[hu]at h;simp only at h;split at h
 case isFalse=>cases h
 rename_i hc;simp only[zzb]at h;obtain⟨xs,h1,h2⟩:=h;cases h2;exact⟨hc,xs,rfl,h1⟩
def jm:∀(d bh:Nat)(t:TypeId)(cs:PP)(x:DataW H)(ps:List MemPlace),DataW.trod enc P w fM sp held bh t cs=some (x,ps)->WN P d t=true->
  Typed P d t x/\ak w (G0 CW) (cW P d t x) cs/\(cW P d t x).all Qw=true/\cs.length=P.cellsOf t
 |0,_,_,_,_,_,_,h=>by cases h
 |d+1,0,_,_,_,_,h,_=>by cases h
 |d+1,bh+1,t,cs,x,ps,h,bY=>by
  unfold WN at bY;cases hu:P.underlying t with
  |none=>simp[hu]at bY
  |some desc=>
   rw[hu]at bY;cases desc with
   |bool=>
    obtain⟨b,rfl,rfl⟩:=trod_bool hu h;exact⟨by simp[Typed,hu],by simp only[cW,hu];exact ak.cons (.bool b) ak.nil,by simp[cW,hu,Qw],(eq_of_beq bY).symm⟩
   |int k=>
    obtain⟨n,rfl,rfl,hw⟩:=trod_int hu h;exact⟨by simp[Typed,hu,hw],by simp only[cW,hu];exact ak.cons (.int k n) ak.nil,by simp[cW,hu,Qw],(eq_of_beq bY).symm⟩
   |string=>
    obtain⟨s,rfl,rfl,hw⟩:=WQ hu h;refine⟨by simpa[Typed,hu]using hw,?_,by simp[cW,hu,Qw],(eq_of_beq bY).symm⟩;simp only[cW,hu];have:(⟨s.data.toList.toArray⟩:ByteArray)=s:=by cases s;simp
    rw[this];exact ak.cons (.str s) ak.nil
   |slice e=>
    simp only[zzak]at bY;rcases aeC hu h with⟨rfl,rfl⟩|⟨a,len,cap,bR,rest,rfl,hlc,hcm,rfl,hm⟩
    ·exact⟨by simp[Typed,hu],by simp only[cW,hu];exact ak.cons Ct ak.nil,by simp[cW,hu,Qw],(eq_of_beq bY.1.1).symm⟩
    obtain⟨hl,hg⟩:=Qdb _ _ _ hm;have fA:bR.length=len:=by simpa using hl
    have SQ:∀(i:Nat)(y:DataW H×List MemPlace),bR[i]?=some y->∃ec,ec.length=P.cellsOf e/\(∀(j:Nat)(v:Value),ec[j]?=some v->w.cell? ((a.add (i*P.cellsOf e)).add j)=some v)/\Typed P d e y.1/\ak w (G0 CW) (cW P d e y.1) ec/\(cW P d e y.1).all Qw=true:=fun i y hy=>by
     have hi:i<len:=by rw[<- fA];exact(zza.1 hy).1
     have:=hg i i y (by simp[hi]) hy;cases hc:w.cells? fM (a.add (i*P.cellsOf e)) (P.cellsOf e)with
     |none=>rw[hc]at this;cases this
     |some ec=>
      rw[hc]at this;obtain⟨y1,y2⟩:=y;obtain⟨g1,g2,g3,g4⟩:=jm d bh e ec y1 y2 this bY.2;obtain⟨c1,c2⟩:=Kx hc;exact⟨ec,c1,c2,g1,g2,g3⟩
    refine⟨?_,?_,by simp[cW,hu,Qw],(eq_of_beq bY.1.1).symm⟩
    ·simp only[Typed,hu];refine⟨by simp;omega,fun y hy=>?_⟩;simp only[zzbk]at hy;obtain⟨p,hp,rfl⟩:=hy;obtain⟨i,hi⟩:=zzcl.1 hp;obtain⟨ec,_,_,g1,_⟩:=SQ i p hi;exact g1
    simp only[cW,hu];refine ak.cons ?_ ak.nil;have eE:((bR.map (·.1)).map (cW P d e)).length=len:=by simp[fA]
    have hz:P.cellsOf e≠0:=by simpa using bY.1.2
    have WR:((bR.map (·.1)).map (cW P d e))≠[]->a=⟨a.block,a.off,none⟩/\a.block<w.heap.size:=fun hn=>by
     cases helems:bR with
     |nil=>simp[helems]at hn
     |cons y ys=>
      obtain⟨ec,c1,c2,_,g2,_⟩:=SQ 0 y (by simp[helems]);cases hec:ec with
      |nil=>rw[hec]at c1;exact absurd c1.symm hz
      |cons v vs=>
       have:=c2 0 v (by simp[hec]);simp only[zzhl,Addr.add,if_true]at this;unfold World.cell? at this;split at this
       ·rename_i hb;split at this
        ·cases this
        rename_i hs;refine⟨?_,aW hb⟩;cases a;simp at hs;simp[hs]
       cases this
    have nZ:∀(i j:Nat)(c:AV),Qr ((bR.map (·.1)).map (cW P d e)) i j=some c->∃v,w.cell? ⟨a.block,a.off+i*P.cellsOf e+j,none⟩=some v/\au w (G0 CW) c v/\Qw c=true:=fun i j c hc=>by
     have aK:((bR.map (·.1)).map (cW P d e))≠[]:=by rintro h0;rw[h0]at hc;simp[Qr]at hc
     obtain⟨ha,_⟩:=WR aK;unfold Qr at hc;cases hy:bR[i]? with
     |none=>simp[hy]at hc
     |some y=>
      simp[hy]at hc;obtain⟨ec,c1,c2,_,g2,g3⟩:=SQ i y hy;have hj:j<ec.length:=by rw[<- g2.1];exact(zza.1 hc).1
      have hv:ec[j]?=some ec[j]:=zzac hj;refine⟨ec[j],?_,g2.2 j c _ hc hv,zzbf.1 g3 c (zzad hc)⟩;have:=c2 j _ hv;rw[ha,bC,bC]at this;exact this
    have:=au.sl (w:=w) (γ:=G0 CW) (rt:=.nn) (rows:=(bR.map (·.1)).map (cW P d e)) (a:=some a) (cap:=cap) a.block a.off (P.cellsOf e) (fun i j=>(w.cell? ⟨a.block,a.off+i*P.cellsOf e+j,none⟩).getD undef)
     (by rw[eE];exact hlc) (fun h=>by cases h) (fun hn=>⟨by rw[<- (WR hn).1],(WR hn).2⟩) (fun row ai=>?_) (fun i j c hc=>?_) (fun i j c hc=>?_) (by simp[tG])
    ·rwa [eE]at this
    ·simp only[zzcz,zzbk]at ai;obtain⟨p,hp,rfl⟩:=ai;obtain⟨i,hi⟩:=zzcl.1 hp;obtain⟨ec',c1',_,_,WS,_⟩:=SQ i p hi;have:=WS.1;simp only[Function.comp];omega
    ·obtain⟨v,h1,h2,h3⟩:=nZ i j c hc;rw[h1];exact⟨rfl,trivial,ue h2 h3⟩
    obtain⟨v,h1,h2,h3⟩:=nZ i j c hc;rw[h1];exact h2
   |struct fs=>
    simp only[zzak,zzbf]at bY;obtain⟨aH,xs,rfl,hm⟩:=trod_struct hu h;obtain⟨hl,hg⟩:=Qdb _ _ _ hm
    have SQ:∀(i:Nat)(f:Field)(y:DataW H×List MemPlace),fs.toList[i]?=some f->xs[i]?=some y->Typed P d f.type y.1/\ak w (G0 CW) (cW P d f.type y.1) ((cs.drop f.offset).take (P.cellsOf f.type))/\(cW P d f.type y.1).all Qw=true:=fun i f y hf hy=>by
     obtain⟨y1,y2⟩:=y;obtain⟨g1,g2,g3,_⟩:=jm d bh f.type _ y1 y2 (hg i f (y1,y2) hf hy) (bY.2 f (zzad hf));exact⟨g1,g2,g3⟩
    have as3:∀p∈fs.toList.zip (xs.map (·.1)),∃(i:Nat)(f:Field)(y:DataW H×List MemPlace),fs.toList[i]?=some f/\xs[i]?=some y/\p=(f,y.1):=fun p hp=>by
     obtain⟨i,hi⟩:=zzcl.1 hp;rw[zzgp]at hi;obtain⟨h1,h2⟩:=hi;simp only[zzbc,zzb]at h2;obtain⟨y,h2,h3⟩:=h2;exact⟨i,p.1,y,h1,h2,by rw[h3]⟩
    refine⟨?_,?_,?_,aH⟩
    ·simp only[Typed,hu];refine⟨Nm hl,fun p hp=>?_⟩;obtain⟨i,f,y,h1,h2,rfl⟩:=as3 p hp;exact(SQ i f y h1 h2).1
    ·simp only[cW,hu];have aeD:=sG (P:=P) (cs:=cs) fs.toList 0 (P.cellsOf t) (eq_of_beq bY.1) aH.symm (zzbe _);rw[zzdf]at aeD
     have:ak w (G0 CW) ((fs.toList.zip (xs.map (·.1))).map fun p=>cW P d p.1.type p.2).flatten (fs.toList.map fun f=>(cs.drop f.offset).take (P.cellsOf f.type)).flatten:=by
      refine CX _ _ (by simp at hl |-;omega) fun i as' vs h1 h2=>?_;simp only[zzbc,zzb]at h1 h2;obtain⟨p,hp,rfl⟩:=h1;obtain⟨f,hf,rfl⟩:=h2;rw[zzgp]at hp;obtain⟨q1,q2⟩:=hp;rw[hf]at q1;simp only[zzbc,zzb]at q2;obtain⟨y,hy,q2⟩:=q2;rw[<- Option.some.inj q1,<- q2];exact(SQ i f y hf hy).2.1
     rw[aeD]at this;rwa [List.flatMap_def]
    simp only[cW,hu,zzbf,List.mem_flatMap];rintro v ⟨p,hp,hv⟩;obtain⟨i,f,y,h1,h2,rfl⟩:=as3 p hp;exact zzbf.1 (SQ i f y h1 h2).2.2 v hv
   |array n e=>
    simp only[zzak]at bY;obtain⟨aH,xs,rfl,hm⟩:=trod_array hu h;obtain⟨hl,hg⟩:=Qdb _ _ _ hm;have fA:xs.length=n:=by simpa using hl
    have SQ:∀(i:Nat)(y:DataW H×List MemPlace),xs[i]?=some y->Typed P d e y.1/\ak w (G0 CW) (cW P d e y.1) ((cs.drop (i*P.cellsOf e)).take (P.cellsOf e))/\(cW P d e y.1).all Qw=true:=fun i y hy=>by
     have hi:i<n:=by rw[<- fA];exact(zza.1 hy).1
     obtain⟨y1,y2⟩:=y;obtain⟨g1,g2,g3,_⟩:=jm d bh e _ y1 y2 (hg i i (y1,y2) (by simp[hi]) hy) bY.2;exact⟨g1,g2,g3⟩
    refine⟨?_,?_,?_,aH⟩
    ·simp only[Typed,hu];refine⟨Nm fA,fun y hy=>?_⟩;simp only[zzbk]at hy;obtain⟨p,hp,rfl⟩:=hy;obtain⟨i,hi⟩:=zzcl.1 hp;exact(SQ i p hi).1
    ·simp only[cW,hu];have aeD:=KA (cs:=cs) (k:=P.cellsOf e) n (by rw[aH];exact eq_of_beq bY.1)
     have:ak w (G0 CW) ((xs.map (·.1)).map (cW P d e)).flatten ((List.range n).map fun i=>(cs.drop (i*P.cellsOf e)).take (P.cellsOf e)).flatten:=by
      refine CX _ _ (by simp[fA]) fun i as' vs h1 h2=>?_;simp only[zzcz,zzbc,zzb]at h1 h2;obtain⟨y,hy,rfl⟩:=h1;obtain⟨j,hj,rfl⟩:=h2;have hi:i<n:=by rw[<- fA];exact(zza.1 hy).1
      simp[hi]at hj;subst hj;exact(SQ i y hy).2.1
     rw[aeD]at this;rwa [List.flatMap_def]
    simp only[cW,hu,zzbf,List.mem_flatMap,zzbk];rintro v ⟨y,⟨p,hp,rfl⟩,hv⟩;obtain⟨i,hi⟩:=zzcl.1 hp;exact zzbf.1 (SQ i p hi).2.2 v hv
   |_=>simp at bY
def o9(P:Program)(d:Nat)(t:TypeId)(x:DataW H):AV:=if Jq P t then .agg (cW P d t x)else(cW P d t x).headD .junk
def aeE{r:Reach}{b0:Nat}{t:TypeId}{v:Value}(dx:Value.okWide P w r b0 t v)(ha:Jq P t=false)(bY:∃d,WN P d t=true):v.cells.toList=[v]:=by
 unfold Value.okWide at dx;unfold Jq at ha;obtain⟨d,bY⟩:=bY;cases d with
 |zero=>cases bY
 |succ d=>
  unfold WN at bY;cases hu:P.underlying t with
  |none=>simp[hu]at bY
  |some desc=>
   rw[hu]at dx ha bY;cases desc<;>simp at ha bY dx
   all_goals
    unfold Cell.okWide at dx;rw[hu]at dx;cases v<;>first|rfl|(simp[Cell.ok,hu]at dx)
def aeF{d:Nat}{r:Reach}{b0:Nat}{t:TypeId}{v:Value}{x:DataW H}{ps:List MemPlace}(bY:WN P d t=true)(dx:Value.okWide P w r b0 t v)(h:DataW.Trod enc P w fM sp held t v x ps):
  Typed P d t x/\au w (G0 CW) (o9 P d t x) v:=by
 obtain⟨bh,h⟩:=h;obtain⟨h1,h2,h3,h4⟩:=jm d bh t _ x ps h bY;refine⟨h1,?_⟩;unfold o9;cases ha:Jq P t with
 |true=>
  simp only[if_true];unfold Value.okWide at dx;unfold Jq at ha;split at ha
  ·rename_i hu;rw[hu]at dx;obtain⟨cs,rfl,_⟩:=dx;exact ak.PC h2
  ·rename_i hu;rw[hu]at dx;obtain⟨cs,rfl,_⟩:=dx;exact ak.PC h2
  cases ha
 |false=>
  simp only[zzbo,if_false];rw[aeE dx ha ⟨d,bY⟩]at h2;cases hl:cW P d t x with
  |nil=>rw[hl]at h2;have:=h2.1;simp at this
  |cons a l=>rw[hl]at h2;exact h2.2 0 a v rfl rfl
def pe(P:Program)(d:Nat):List TypeId->List (DataW H)->Prop
 |[],[]=>True
 |t::ts,x::xs=>Typed P d t x/\pe P d ts xs
 |_,_=>False
def CY(P:Program)(d:Nat):List TypeId->List (DataW H)->P1
 |t::ts,x::xs=>o9 P d t x::CY P d ts xs
 |_,_=>[]
def FL{d:Nat}{r:Reach}{b0:Nat}:∀{ts:List TypeId}{vs:PP}{xs:List (DataW H)}{ps:List MemPlace},(∀t∈ts,WN P d t=true)->(∀(j:Nat)(t:TypeId)(v:Value),ts[j]?=some t->vs[j]?=some v->Value.okWide P w r b0 t v)->
  DataW.TrodAll enc P w fM sp held ts vs xs ps->pe P d ts xs/\ak w (G0 CW) (CY P d ts xs) vs
 |[],[],[],_,_,_,_=>⟨trivial,ak.nil⟩
 |[],_::_,_,_,_,_,h=>by cases h
 |[],[],_::_,_,_,_,h=>by cases h
 |_::_,[],_,_,_,_,h=>by cases h
 |_::_,_::_,[],_,_,_,h=>by cases h
 |t::ts,v::vs,x::xs,ps,bY,dx,h=>by
  obtain⟨p,q,h1,h2,_⟩:=h;obtain⟨g1,g2⟩:=aeF (bY t zd) (dx 0 t v rfl rfl) h1;obtain⟨k1,k2⟩:=FL (fun t ht=>bY t (by simp[ht])) (fun j t v h1 h2=>dx (j+1) t v (Nm h1) (Nm h2)) h2;exact⟨⟨g1,k1⟩,ak.cons g2 k2⟩
def lX{W W':World}(hl:laidOutB P=true)(hb:Below W.heap.size W W'){sp':Nat->Bool}:∀{ts:List TypeId}{vs:PP}{xs:List (DataW H)}{ps:List MemPlace},(∀t∈ts,P.readableRec t=true/\t<P.types.size)->
  DataW.TrodAll enc P W 0 (fun _=>true) true ts vs xs ps->(∀p∈ps,p.block<W.heap.size/\sp' p.block=true)->DataW.TrodAll enc P W' 0 sp' true ts vs xs ps
 |[],[],[],_,_,h,_=>h
 |[],_::_,_,_,_,h,_=>by cases h
 |[],[],_::_,_,_,h,_=>by cases h
 |_::_,[],_,_,_,h,_=>by cases h
 |_::_,_::_,[],_,_,h,_=>by cases h
 |t::ts,v::vs,x::xs,ps,hr,h,hp=>by
  obtain⟨p,q,h1,h2,rfl⟩:=h;refine⟨p,q,WideElems.Trod_stays hl (hr t zd).1 (hr t zd).2 h1 (fun y hy=>hb.same (hp y (by simp[hy])).1) (fun y hy=>(hp y (by simp[hy])).2),lX hl hb (fun t ht=>hr t (by simp[ht])) h2 fun y hy=>hp y (by simp[hy]),rfl⟩
def CZ{gl:Nat->AV}{fid:FuncId}{fn:Func}{s:ChangeSpec}{bt:TypeId}{d:Nat}(ajk:s.vars=[])(zm:fn.resultTypes=#[bt])(hbt:P.underlying bt=some .bool)(hl:laidOutB P=true)
  (hts:(fn.params.toList.all fun t=>WN P d t&&P.readableRec t&&decide (t<P.types.size))=true)(as4:∀ds:List (DataW H),ds.length=fn.params.size->(s.fn H ds).results=[.lit (.bool true)]/\(s.fn H ds).args=ds/\(s.fn H ds).vars=[])
  {W:World}{args:PQ}{ds gs:List (DataW H)}{before:List MemPlace}{r:Reach}{b0:Nat}(fh:∀g,au W (G0 CW) (gl g) (.pointer (some ⟨g,0,none⟩)))
  (dx:∀(j:Nat)(t:TypeId)(v:Value),fn.params[j]?=some t->args[j]?=some v->Value.okWide P W r b0 t v)
  (hW:DataW.Whole enc P fn.params.toList s.vars false W args.toList ds gs before)
  (hp:pe P d fn.params.toList ds->Pure P gl fid (CY P d fn.params.toList ds) (.bool true)):
  Calls P fid args W fun e W'=>∃v,e=.returned v/\s.post enc P fn false true false false W args v W':=by
 have hW':=hW;obtain⟨p,q,hA,hV,rfl,hfz,qt⟩:=hW;rw[ajk]at hV;obtain⟨rfl,rfl⟩:=ChangeShapes.trodVars_none hV;simp only[zzbf,zzak,decide_eq_true_eq]at hts;obtain⟨h1,h2⟩:=FL (fun t ht=>(hts t ht).1.1) (fun j t v q1 q2=>dx j t v (Nm q1) (Nm q2)) hA
 have aH:ds.length=fn.params.size:=by
  have:∀{ts:List TypeId}{vs:PP}{xs:List (DataW H)}{ps:List MemPlace},DataW.TrodAll enc P W 0 (fun _=>true) true ts vs xs ps->xs.length=ts.length:=by
   intro ts;induction ts with
   |nil=>intro vs xs ps h;cases vs<;>cases xs<;>first|rfl|cases h
   |cons t ts ih=>
    intro vs xs ps h;cases vs<;>cases xs<;>first|(cases h;done)|skip
    obtain⟨_,_,_,h,_⟩:=h;simp[ih h]
  simpa using this hA
 obtain⟨k1,k2,k3⟩:=as4 ds aH;have ah:∀x∈p,x.block<W.heap.size:=fun x hx=>hW'.lt x (by simp[hx]);refine((hp h1).2 CW W args.toList fh h2).mono ?_;rintro e W' ⟨v,rfl,hb,hr⟩;obtain rfl:=hr.bA;refine⟨_,rfl,ds,[],p++[],[],p,[],hW',?_,?_,?_,World.keptBut_mono (fun x hx=>⟨hx,?_⟩) (hb.frame (·∈p++[])),fun h=>by cases h⟩
 ·rw[zm,zzau,k1];exact⟨[],[],shut_bool hbt true,rfl,rfl⟩
 ·rw[zzau,k2];exact lX hl hb (fun t ht=>⟨(hts t ht).1.2,(hts t ht).2⟩) hA fun x hx=>⟨ah x hx,by simpa using ah x hx⟩
 ·rw[ajk,zzau,k3];rfl
 simp at hx;exact .inr (.inl hx)
end
section
variable (P:Program) (gl:Nat->AV) (orc:X1) (Y:YT) (l2:List SO) (K:AS->Prop) (m:AM) (ms q:R0) (mc:AM) (r:List SO) (fl:List Fg) (T:P1) (o:SO) (x:AV×AM)
@[simp] def amy(d:Option Nat)(op:aC)(xs:List bN):Vv T ⟨d,op,none,xs⟩=True:=nd rfl
@[simp] def amz(d:Option Nat)(op:aC)(t:Nat)(b:Bool)(xs:List bN):Vv T ⟨d,op,some (some t,b),xs⟩=(T.getD t .junk=.bool b):=nd rfl
@[simp] def awU:uj P gl orc Y l2 K m ms [] fl q mc T=(q=[]/\Zg P gl orc Y l2 ⟨T,mc⟩ K):=nd (by simp only[uj])
@[simp] def as5:uj P gl orc Y l2 K m ms (o::r) (.eff::fl) (x::q) mc T=(Vv T o/\effC P gl orc Y (ev gl T) mc o.dst x.1 x.2 o.op/\uj P gl orc Y l2 K m ms r fl q x.2 (put T o.dst x.1)):=nd (by simp only[uj])
@[simp] def awV:uj P gl orc Y l2 K m ms (o::r) (.pre::fl) q mc T=(Vv T o/\(rop P gl orc (ev gl T) m o.dst o.op).1/\uj P gl orc Y l2 K m ms r fl q mc (put T o.dst (rop P gl orc (ev gl T) m o.dst o.op).2)):=nd (by simp only[uj])
@[simp] def ao6:uj P gl orc Y l2 K m ms (o::r) (.oth::fl) q mc T=(Vv T o/\(rop P gl orc (ev gl T) m o.dst o.op).1/\(∀x∈ms,rop P gl orc (ev gl T) x.2 o.dst o.op=rop P gl orc (ev gl T) m o.dst o.op)/\uj P gl orc Y l2 K m ms r fl q mc (put T o.dst (rop P gl orc (ev gl T) m o.dst o.op).2)):=nd (by simp only[uj])
def Jc{P:Program}{gl:Nat->AV}{orc:X1}{Y:YT}{fl:List Fg}{l l2:List SO}{s:AS}{Q:So}(ms:R0)(h:uj P gl orc Y l2 (Q .normal) s.m ms l fl ms s.m s.T):vc P gl orc Y (.drawE fl l l2) s Q:=.inr (.inl ⟨ms,h⟩)
@[simp] def awW:iH P gl orc Y l2 K m ms [] fl q mc T=(q=[]/\Zg P gl orc Y l2 ⟨T,mc⟩ K):=nd (by simp only[iH])
@[simp] def as6:iH P gl orc Y l2 K m ms (o::r) (.eff::fl) (x::q) mc T=(Vv T o/\effC P gl orc Y (ev gl T) mc o.dst x.1 x.2 o.op/\iH P gl orc Y l2 K m ms r fl q x.2 (put T o.dst x.1)):=nd (by simp only[iH])
@[simp] def awX:iH P gl orc Y l2 K m ms (o::r) (.pre::fl) q mc T=(Vv T o/\(rop P gl orc (ev gl T) m o.dst o.op).1/\iH P gl orc Y l2 K m ms r fl q mc (put T o.dst (rop P gl orc (ev gl T) m o.dst o.op).2)):=nd (by simp only[iH])
@[simp] def awY:iH P gl orc Y l2 K m ms (o::r) (.oth::fl) q mc T=(Vv T o/\(((rop P gl orc (ev gl T) m o.dst o.op).1/\∀x∈ms,rop P gl orc (ev gl T) x.2 o.dst o.op=rop P gl orc (ev gl T) m o.dst o.op)\/(rdC P gl orc Y (ev gl T) m o.dst m o.op/\∀x∈ms,rdC P gl orc Y (ev gl T) m o.dst x.2 o.op))/\iH P gl orc Y l2 K m ms r fl q mc (put T o.dst (rop P gl orc (ev gl T) m o.dst o.op).2)):=nd (by simp only[iH,arZ])
variable (R:UV)
@[simp] def awZ:kM P gl orc Y R l2 K m ms [] fl q mc T=(q=[]/\Zg P gl orc Y l2 ⟨T,mc⟩ K):=nd (by simp only[kM])
@[simp] def as7:kM P gl orc Y R l2 K m ms (o::r) (.eff::fl) [x] mc T=(Vv T o/\effR P gl Y (ev gl T) mc R o.op/\kM P gl orc Y R l2 K m ms r fl [] x.2 (put T o.dst x.1)):=nd (by simp only[kM];simp)
@[simp] def as8(y:AV×AM):kM P gl orc Y R l2 K m ms (o::r) (.eff::fl) (x::y::q) mc T=(Vv T o/\effC P gl orc Y (ev gl T) mc o.dst x.1 x.2 o.op/\kM P gl orc Y R l2 K m ms r fl (y::q) x.2 (put T o.dst x.1)):=nd (by simp only[kM];simp)
@[simp] def aw0:kM P gl orc Y R l2 K m ms (o::r) (.pre::fl) q mc T=(Vv T o/\(rop P gl orc (ev gl T) m o.dst o.op).1/\kM P gl orc Y R l2 K m ms r fl q mc (put T o.dst (rop P gl orc (ev gl T) m o.dst o.op).2)):=nd (by simp only[kM])
@[simp] def ao7:kM P gl orc Y R l2 K m ms (o::r) (.oth::fl) q mc T=(Vv T o/\(rop P gl orc (ev gl T) m o.dst o.op).1/\(∀x∈ms,rop P gl orc (ev gl T) x.2 o.dst o.op=rop P gl orc (ev gl T) m o.dst o.op)/\kM P gl orc Y R l2 K m ms r fl q mc (put T o.dst (rop P gl orc (ev gl T) m o.dst o.op).2)):=nd (by simp only[kM])
def WT{P:Program}{gl:Nat->AV}{orc:X1}{Y:YT}{fl:List Fg}{l l2:List SO}{s:AS}{Q:So}(hb:aej fl l=true)(ms:R0)(R:UV)(hR:∃x:AV×AM,R x.1 x.2)
  (h:∀v m',R v m'->kM P gl orc Y R l2 (Q .normal) s.m (ms++[(v,m')]) l fl (ms++[(v,m')]) s.m s.T):vc P gl orc Y (.drawE fl l l2) s Q:=.inr (.inr ⟨hb,ms,R,hR,fun x hx=>h x.1 x.2 hx⟩)
def lD(P:Program)(gl:Nat->AV)(orc:X1)(m:AM):List SO->List Fg->AM->P1->R0
 |o::r,.eff::fl,mc,T=>(effV (sop P gl orc (ev gl T) mc o.dst o.op).2.1 o.op,(sop P gl orc (ev gl T) mc o.dst o.op).2.2)::lD P gl orc m r fl (sop P gl orc (ev gl T) mc o.dst o.op).2.2 (put T o.dst (effV (sop P gl orc (ev gl T) mc o.dst o.op).2.1 o.op))
 |o::r,.pre::fl,mc,T=>lD P gl orc m r fl mc (put T o.dst (rop P gl orc (ev gl T) m o.dst o.op).2)
 |o::r,.oth::fl,mc,T=>lD P gl orc m r fl mc (put T o.dst (rop P gl orc (ev gl T) m o.dst o.op).2)
 |_,_,_,_=>[]
@[simp] def as9:lD P gl orc m [] fl mc T=[]:=nd (by simp only[lD])
@[simp] def ao8:lD P gl orc m (o::r) (.eff::fl) mc T=(effV (sop P gl orc (ev gl T) mc o.dst o.op).2.1 o.op,(sop P gl orc (ev gl T) mc o.dst o.op).2.2)::lD P gl orc m r fl (sop P gl orc (ev gl T) mc o.dst o.op).2.2 (put T o.dst (effV (sop P gl orc (ev gl T) mc o.dst o.op).2.1 o.op)):=nd (by simp only[lD])
@[simp] def ata:lD P gl orc m (o::r) (.pre::fl) mc T=lD P gl orc m r fl mc (put T o.dst (rop P gl orc (ev gl T) m o.dst o.op).2):=nd (by simp only[lD])
@[simp] def amA:lD P gl orc m (o::r) (.oth::fl) mc T=lD P gl orc m r fl mc (put T o.dst (rop P gl orc (ev gl T) m o.dst o.op).2):=nd (by simp only[lD])
def Jb{P:Program}{gl:Nat->AV}{orc:X1}{Y:YT}{fl:List Fg}{l l2:List SO}{s:AS}{Q:So}(h:uj P gl orc Y l2 (Q .normal) s.m (lD P gl orc s.m l fl s.m s.T) l fl (lD P gl orc s.m l fl s.m s.T) s.m s.T):vc P gl orc Y (.drawE fl l l2) s Q:=.inr (.inl ⟨_,h⟩)
def FM{P:Program}{gl:Nat->AV}{orc:X1}{z:Nat}{fl:List Fg}{l l2:List SO}{s:AS}{Q:So}(hT:s.T.getD z .junk=.junk)(ms:R0)(h:iH P gl orc Y0 l2 (Q .normal) s.m ms l fl ms s.m s.T):vc P gl orc Y0 (.drawZ z fl l l2) s Q:=⟨fun _ _ _ _ h=>h,hT,ms,h⟩
end
attribute [simp] effC memEff effV effR rdC
end Go.Abs
