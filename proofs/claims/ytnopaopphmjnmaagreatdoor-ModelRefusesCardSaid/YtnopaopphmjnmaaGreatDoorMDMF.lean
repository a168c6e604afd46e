import Derived.Test.YtnopaopphmjnmaaGreatDoorMDME
import Derived.ProofKit
import Derived.OpenShut
import Derived.OpenVars
set_option linter.all false
namespace Go.Abs
open Go Go.RowKit
def nd{α:Type}{a b:α}(h:a=b):a=b:=h
section
variable (P:Program) (gl:Nat->AV) (orc:Nat->FuncId->List AV->AV) (Y:YT) (s:AS) (Q:Exit->AS->Prop)
@[simp] def av7:vc P gl orc Y .skip s Q=Q .normal s:=nd rfl
@[simp] def aw3(l:List SO):vc P gl orc Y (.ops l) s Q=Zx P gl orc Y l s (Q .normal):=nd rfl
@[simp] def aw4(a b:SC):vc P gl orc Y (.seq a b) s Q=vc P gl orc Y a s (XH (vc P gl orc Y b) Q):=nd rfl
def ae8(x:bN)(a b:SC):vc P gl orc Y (.cond x a b) s Q=match ev gl s.T x with|.bool t=>(t=true->vc P gl orc Y a s Q)/\(t=false->vc P gl orc Y b s Q)|_=>False:=nd rfl
@[simp] def ar5(x:bN)(a b:SC):vc P gl orc Y (.cond x a b) s Q=match ev gl s.T x with|.bool t=>(if t=true then vc P gl orc Y a s Q else vc P gl orc Y b s Q)|_=>False:=by
 rw[ae8];cases ev gl s.T x<;>try rfl
 rename_i t;cases t<;>simp
@[simp] def ar6(id:Nat)(c:SC):vc P gl orc Y (.block id c) s Q=vc P gl orc Y c s (qT id Q):=nd rfl
@[simp] def av8(id:Nat):vc P gl orc Y (.exit id) s Q=Q (.exit id) s:=nd rfl
@[simp] def ar7(c:SC):vc P gl orc Y (.scope c) s Q=vc P gl orc Y c s (v8 Q):=nd rfl
@[simp] def aw5:vc P gl orc Y .ret s Q=Q .ret s:=nd rfl
@[simp] def aw6:vc P gl orc Y .bad s Q=False:=nd rfl
def ae9{c:SC}(I:AS->Prop)(μ:AS->Nat)(h0:I s)(hr:∀s',I s'->vc P gl orc Y c s' (nt I μ s' Q)):vc P gl orc Y (.loop c) s Q:=⟨I,μ,h0,hr⟩
variable (k:AS->(Exit->AS->Prop)->Prop) (id id':Nat) (I:AS->Prop) (μ:AS->Nat) (s0:AS)
@[simp] def aj4:XH k Q .normal s=k s Q:=nd rfl
@[simp] def ao9:XH k Q (.exit id) s=Q (.exit id) s:=nd rfl
@[simp] def ar8:XH k Q .ret s=Q .ret s:=nd rfl
@[simp] def abO:qT id Q .normal s=Q .normal s:=nd rfl
@[simp] def aj5:qT id Q (.exit id') s=if id'=id then Q .normal s else Q (.exit id') s:=nd rfl
@[simp] def amG:qT id Q .ret s=Q .ret s:=nd rfl
@[simp] def abP:v8 Q .normal s=Q .normal s:=nd rfl
@[simp] def aj6:v8 Q (.exit id) s=Q (.exit id) s:=nd rfl
@[simp] def amH:v8 Q .ret s=Q .ret s:=nd rfl
@[simp] def abQ:nt I μ s0 Q .normal s=(I s/\μ s<μ s0):=nd rfl
@[simp] def aj7:nt I μ s0 Q (.exit id) s=Q (.exit id) s:=nd rfl
@[simp] def amI:nt I μ s0 Q .ret s=Q .ret s:=nd rfl
end
@[simp] def av9(P:Program)(gl:Nat->AV)(orc:Nat->FuncId->List AV->AV)(Y:YT)(s:AS)(Q:Exit->AS->Prop)(l l2:List SO):vc P gl orc Y (.draw l l2) s Q=vcD P gl orc Y l2 (Q .normal) l s.T s.m []:=nd rfl
def amJ(T:List AV)(f:Nat->AV):List Nat->List AV
 |[]=>T
 |i::W=>amJ (T.set i (f i)) f W
def CI(T:List AV)(W:List Nat)(R:(Nat->AV)->AM->Prop)(μ:(Nat->AV)->AM->Nat)(f:Nat->AV)(m:AM)(Q:Exit->AS->Prop):Exit->AS->Prop
 |.normal,s'=>s'.T=amJ T (fun i=>s'.T.getD i .junk) W/\R (fun i=>s'.T.getD i .junk) s'.m/\μ (fun i=>s'.T.getD i .junk) s'.m<μ f m
 |ex,s'=>Q ex s'
section
variable (T:List AV) (W:List Nat) (R:(Nat->AV)->AM->Prop) (μ:(Nat->AV)->AM->Nat) (f:Nat->AV) (m:AM) (Q:Exit->AS->Prop) (s:AS) (id:Nat)
@[simp] def XT:CI T W R μ f m Q .normal s=(s.T=amJ T (fun i=>s.T.getD i .junk) W/\R (fun i=>s.T.getD i .junk) s.m/\μ (fun i=>s.T.getD i .junk) s.m<μ f m):=nd rfl
@[simp] def afa:CI T W R μ f m Q (.exit id) s=Q (.exit id) s:=nd rfl
@[simp] def aj8:CI T W R μ f m Q .ret s=Q .ret s:=nd rfl
end
def nth(l:List AV)(n:Nat):AV:=l.getD n .junk
def Qh(l:List (List AV))(n:Nat):List AV:=l.getD n []
@[simp high] theorem Qbc(l:List AV)(n:Nat):l.getD n .junk=nth l n:=rfl
@[simp high] theorem Vl(l:List (List AV))(n:Nat):l.getD n []=Qh l n:=rfl
@[simp] theorem awa(n:Nat):nth [] n=.junk:=rfl
@[simp] theorem ar9(a:AV)(l:List AV):nth (a::l) 0=a:=rfl
@[simp] theorem asa(a:AV)(l:List AV)(n:Nat):nth (a::l) (n+1)=nth l n:=rfl
@[simp] theorem asb(n:Nat):Qh [] n=[]:=rfl
@[simp] theorem apa(a:List AV)(l:List (List AV)):Qh (a::l) 0=a:=rfl
@[simp] theorem apb(a:List AV)(l:List (List AV))(n:Nat):Qh (a::l) (n+1)=Qh l n:=rfl
@[simp] def Fw(l l':List (List AV)):Qh (l++l') l.length=Qh l' 0:=by simp[Qh,zzas,-Vl,zzal]
@[simp] def Vi(l l':List (List AV))(k:Nat):Qh (l++l') (l.length+k)=Qh l' k:=by simp[Qh,zzas,-Vl,zzal]
@[simp] def awb(l l':List (List AV))(x:List AV):(l++l').set l.length x=l++l'.set 0 x:=by simp[zzcq]
@[simp] def aj9(l l':List (List AV))(k:Nat)(x:List AV):(l++l').set (l.length+k) x=l++l'.set k x:=by simp[zzcq]
def Qr{l:List (List AV)}{n:Nat}{x:List AV}(h:l[n]?=some x):Qh l n=x:=by simp[Qh,zzas,-Vl,h]
def amK{l:List AV}{n:Nat}{x:AV}(h:l[n]?=some x):nth l n=x:=by simp[nth,zzas,-Qbc,h]
def numOf:AV->Int
 |.int _ n=>n
 |_=>0
@[simp] theorem apc(k:IntKind)(n:Int):numOf (.int k n)=n:=rfl
@[simp] theorem aka:V5 .full=true:=rfl
@[simp] theorem amL:V5 .nil=true:=rfl
@[simp] theorem apd:V5 .ro=false:=rfl
@[simp] theorem ape:V5 .nn=false:=rfl
@[simp] theorem amM(i s:Nat):V5 (.own i s)=false:=rfl
@[simp] theorem amN(sz:Nat)(l:List AV):aV sz 0 l=[]:=rfl
@[simp] theorem wg(sz n:Nat)(l:List AV):aV sz (n+1) l=l.take sz::aV sz n (l.drop sz):=rfl
@[simp] theorem amO:Wd []=some []:=rfl
@[simp] def akb(n:Int)(r:List (List AV)):Wd ([.int .u8 n]::r)=(match Wd r with|some l=>some (UInt8.ofNat n.toNat::l)|_=>none):=by
 simp only[Wd,byteOf];cases Wd r<;>rfl
@[simp] theorem asc(b:Bool):asB (.bool b)=some (true,b):=rfl
@[simp] theorem asd(b:Bool):isB (.bool b)=true:=rfl
@[simp] theorem ase(b:Bool):bOf (.bool b)=b:=rfl
@[simp] theorem awc(a:AV):asB (.gd false a)=some (false,bOf a):=rfl
@[simp] theorem awd(a:AV):asB (.gd true a)=some (isB a,bOf a):=rfl
@[simp] def aw7(g b:Bool):asB (.gd g (.bool b))=some (g,b):=by cases g<;>rfl
@[simp] theorem asf(want g:Bool):Iq want (.bool g)=some (g==want):=rfl
@[simp] theorem aw8(want d b:Bool):Iq want (.gd d (.bool b))=some (d&&(b==want)):=rfl
@[simp] def awe(want:Bool)(a:AV):Iq want (.gd false a)=some false:=by cases a<;>rfl
@[simp] theorem awf(gl:Nat->AV)(T:List AV)(t:Nat):evS gl T (.tmp t)=strip (nth T t):=rfl
@[simp] theorem apf(gl:Nat->AV)(T:List AV)(a:AV):evS gl T (.const a)=strip a:=rfl
@[simp] theorem ash(gl:Nat->AV)(T:List AV)(f:FuncId):evS gl T (.func f)=.fn f [] []:=rfl
@[simp] theorem asi(gl:Nat->AV)(T:List AV)(g:Nat):evS gl T (.glob g)=strip (gl g):=rfl
section
variable (P:Program) (gl:Nat->AV) (orc:Nat->FuncId->List AV->AV) (Y:YT) (K:AS->Prop) (r:List SO) (T:List AV) (m:AM) (d:Option Nat) (op:aD) (xs:List bN) (s:AS)
@[simp] def apg:Zx P gl orc Y [] s K=K s:=nd rfl
@[simp] def amP:Zx P gl orc Y (⟨d,op,none,xs⟩::r) s K=(if effy orc (ev gl s.T) s.m d op=true then vcEff P gl Y (ev gl s.T) s.m (fun av m'=>Zx P gl orc Y r ⟨put s.T d av,m'⟩ K) op
   else(sop P gl orc (ev gl s.T) s.m d op).1/\Zx P gl orc Y r ⟨put s.T d (sop P gl orc (ev gl s.T) s.m d op).2.1,(sop P gl orc (ev gl s.T) s.m d op).2.2⟩ K):=nd rfl
@[simp] def amQ(t:Nat)(want:Bool):Zx P gl orc Y (⟨d,op,some (some t,want),xs⟩::r) s K=(match Iq want (s.T.getD t .junk)with
   |some gw=>gok gl s.T gw (gxs op xs)/\
     if effy orc (evG gl s.T op) s.m d op=true then
      (gw=true->vcEff P gl Y (evG gl s.T op) s.m (fun av m'=>Zx P gl orc Y r ⟨put s.T d (.gd true av),m'⟩ K) op)/\(gw=false->Zx P gl orc Y r ⟨put s.T d (.gd false (.bool false)),s.m⟩ K)
     else(gw=true->(rop P gl orc (evG gl s.T op) s.m d op).1)/\
      Zx P gl orc Y r ⟨put s.T d (.gd gw (rop P gl orc (evG gl s.T op) s.m d op).2),s.m⟩ K
   |none=>False):=nd rfl
variable (l2:List SO) (nb:List (List AV)) (o:SO)
@[simp] def awg:vcD P gl orc Y l2 K [] T m nb=Zx P gl orc Y l2 ⟨T,{m with boxes:=m.boxes++nb}⟩ K:=nd rfl
@[simp] def asj:vcD P gl orc Y l2 K (o::r) T m nb=((dop P gl orc o T m nb).1/\vcD P gl orc Y l2 K r (put T o.dst (dop P gl orc o T m nb).2.1) m (dop P gl orc o T m nb).2.2):=nd rfl
end
attribute [simp] rawOp evG gxs effy vcEff callV dop ev Kk oneOf strip gok setA fillA sop rop binV binI binS binBool Vx kindF eqF Qcd eqFs loOf hiOf lenS cellsS mutO vcNxt keyA intsA keyAV
def qU(n:Nat)(a:AV):bG n [a]=List.replicate n a:=by
 induction n with
 |zero=>rfl
 |succ n ih=>rw[bG,ih];rfl
@[simp] theorem akc(P:Program)(gl:Nat->AV)(orc:Nat->FuncId->List AV->AV)(rs:List aD)(r:AV)(s:AS):post P gl orc rs r .normal s=((Kk P gl orc s rs).1/\bF s.m 6 (oneOf (Kk P gl orc s rs).2)=r):=rfl
@[simp] theorem asl(P:Program)(gl:Nat->AV)(orc:Nat->FuncId->List AV->AV)(rs:List aD)(r:AV)(s:AS):post P gl orc rs r .ret s=((Kk P gl orc s rs).1/\bF s.m 6 (oneOf (Kk P gl orc s rs).2)=r):=rfl
@[simp] theorem afb(P:Program)(gl:Nat->AV)(orc:Nat->FuncId->List AV->AV)(rs:List aD)(K:AV->AM->Prop)(s:AS):we P gl orc rs K .normal s=((Kk P gl orc s rs).1/\K (oneOf (Kk P gl orc s rs).2) s.m):=rfl
@[simp] theorem aph(P:Program)(gl:Nat->AV)(orc:Nat->FuncId->List AV->AV)(rs:List aD)(K:AV->AM->Prop)(s:AS):we P gl orc rs K .ret s=((Kk P gl orc s rs).1/\K (oneOf (Kk P gl orc s rs).2) s.m):=rfl
section
variable (m:AM) (d:Nat)
@[simp] theorem akd(b:Bool):Qv (.bool b)=true:=rfl
@[simp] theorem amR(k:IntKind)(n:Int):Qv (.int k n)=true:=rfl
@[simp] theorem amS(s:ByteArray):Qv (.str s)=true:=rfl
@[simp] theorem api(rt:Rt)(r:List (List AV)):Qv (.sl rt r)=true:=rfl
@[simp] theorem apj(r:List AV)(o:Nat):Qv (.ep r o)=true:=rfl
@[simp] theorem amT(i o:Nat):Qv (.ptr i o)=true:=rfl
@[simp] theorem apk(i o n z:Nat):Qv (.bs i o n z)=true:=rfl
@[simp] theorem apl(f:FuncId)(a b:List AV):Qv (.fn f a b)=true:=rfl
@[simp] theorem ake(p:Bool):Qv (.nilv p)=true:=rfl
@[simp] theorem afc:Qv .nilfn=true:=rfl
@[simp] theorem amU(l:Nat):Qv (.yld l)=true:=rfl
@[simp] theorem apm(i:Nat):Qv (.mp i)=true:=rfl
@[simp] theorem apn(i:Nat):Qv (.it i)=true:=rfl
@[simp] theorem akf(k:Nat)(l:List (List Int×AV)):Qv (.aK k l)=false:=rfl
@[simp] theorem akg(i n:Nat)(l:List Nat):Qv (.mitr i n l)=false:=rfl
@[simp] theorem akh:Qv .junk=false:=rfl
@[simp] theorem amV(cs:List AV):Qv (.agg cs)=false:=rfl
@[simp] theorem amW(cs:List AV):Qv (.aU cs)=false:=rfl
@[simp] theorem apo(g:Bool)(a:AV):Qv (.gd g a)=false:=rfl
@[simp] theorem apq(b:Bool):bare (.bool b)=true:=rfl
@[simp] theorem asm(k:IntKind)(n:Int):bare (.int k n)=true:=rfl
@[simp] theorem asn(s:ByteArray):bare (.str s)=true:=rfl
@[simp] theorem awh(rt:Rt)(r:List (List AV)):bare (.sl rt r)=true:=rfl
@[simp] theorem awi(r:List AV)(o:Nat):bare (.ep r o)=true:=rfl
@[simp] theorem aso(i o:Nat):bare (.ptr i o)=true:=rfl
@[simp] theorem awj(i o n z:Nat):bare (.bs i o n z)=true:=rfl
@[simp] theorem awk(f:FuncId)(a b:List AV):bare (.fn f a b)=true:=rfl
@[simp] theorem apr(p:Bool):bare (.nilv p)=true:=rfl
@[simp] theorem amX:bare .nilfn=true:=rfl
@[simp] theorem asp(l:Nat):bare (.yld l)=true:=rfl
@[simp] theorem awl(i:Nat):bare (.mp i)=true:=rfl
@[simp] theorem awm(i:Nat):bare (.it i)=true:=rfl
@[simp] theorem aps(k:Nat)(l:List (List Int×AV)):bare (.aK k l)=false:=rfl
@[simp] theorem apt(i n:Nat)(l:List Nat):bare (.mitr i n l)=false:=rfl
@[simp] theorem asq(cs:List AV):bare (.agg cs)=true:=rfl
@[simp] theorem apu:bare .junk=false:=rfl
@[simp] theorem asr(cs:List AV):bare (.aU cs)=false:=rfl
@[simp] theorem awn(g:Bool)(a:AV):bare (.gd g a)=false:=rfl
@[simp] theorem afd(b:Bool):cellsOf (.bool b)=[.bool b]:=rfl
@[simp] theorem aki(k:IntKind)(n:Int):cellsOf (.int k n)=[.int k n]:=rfl
@[simp] theorem akj(s:ByteArray):cellsOf (.str s)=[.str s]:=rfl
@[simp] theorem amY(rt:Rt)(r:List (List AV)):cellsOf (.sl rt r)=[.sl rt r]:=rfl
@[simp] theorem amZ(r:List AV)(o:Nat):cellsOf (.ep r o)=[.ep r o]:=rfl
@[simp] theorem akk(i o:Nat):cellsOf (.ptr i o)=[.ptr i o]:=rfl
@[simp] theorem am0(i o n z:Nat):cellsOf (.bs i o n z)=[.bs i o n z]:=rfl
@[simp] theorem am1(f:FuncId)(a b:List AV):cellsOf (.fn f a b)=[.fn f a b]:=rfl
@[simp] theorem afe(p:Bool):cellsOf (.nilv p)=[.nilv p]:=rfl
@[simp] theorem abR:cellsOf .nilfn=[.nilfn]:=rfl
@[simp] theorem akl(l:Nat):cellsOf (.yld l)=[.yld l]:=rfl
@[simp] theorem am2(i:Nat):cellsOf (.mp i)=[.mp i]:=rfl
@[simp] theorem am3(i:Nat):cellsOf (.it i)=[.it i]:=rfl
@[simp] theorem akm(cs:List AV):cellsOf (.agg cs)=cs:=rfl
@[simp] theorem ass(b:Bool):bF m (d+1) (.bool b)=.bool b:=rfl
@[simp] theorem awo(k:IntKind)(n:Int):bF m (d+1) (.int k n)=.int k n:=rfl
@[simp] theorem awp(s:ByteArray):bF m (d+1) (.str s)=.str s:=rfl
@[simp] theorem ast(p:Bool):bF m (d+1) (.nilv p)=.nilv p:=rfl
@[simp] theorem apv:bF m (d+1) .nilfn=.nilfn:=rfl
@[simp] theorem awq(l:Nat):bF m (d+1) (.yld l)=.junk:=rfl
@[simp] theorem aw9(i:Nat):bF m (d+1) (.mp i)=.junk:=rfl
@[simp] theorem axa(i:Nat):bF m (d+1) (.it i)=.junk:=rfl
@[simp] theorem asu:bF m (d+1) .junk=.junk:=rfl
@[simp] theorem awr(cs:List AV):bF m (d+1) (.agg cs)=.agg (cs.map (bF m d)):=rfl
@[simp] theorem aws(cs:List AV):bF m (d+1) (.aU cs)=.aU (cs.map (bF m d)):=rfl
@[simp] theorem axb(f:FuncId)(a b:List AV):bF m (d+1) (.fn f a b)=.fn f (a.map (bF m d)) (b.map (bF m d)):=rfl
@[simp] theorem axc(r:List (List AV)):bF m (d+1) (.sl .ro r)=.sl .ro r:=rfl
@[simp] theorem asv(r:List (List AV)):bF m (d+1) (.sl .full r)=.sl .full r:=rfl
@[simp] theorem awt(r:List (List AV)):bF m (d+1) (.sl .nil r)=.sl .nil r:=rfl
@[simp] theorem axd(r:List (List AV)):bF m (d+1) (.sl .nn r)=.sl .nn r:=rfl
@[simp] theorem awu(i s:Nat)(r:List (List AV)):bF m (d+1) (.sl (.own i s) r)=.sl .ro r:=rfl
@[simp] theorem axe(r:List AV)(o:Nat):bF m (d+1) (.ep r o)=.ep r o:=rfl
@[simp] def XU(i o n z:Nat):bF m (d+1) (.bs i o n z)=if o+n*z<=(m.boxes.getD i []).length then .sl .ro (aV z n (((m.boxes.getD i []).map (bF m d)).drop o))else .junk:=by
 simp only[bF];cases h:Nat.ble (o+n*z) (m.boxes.getD i []).length with
 |true=>rw[if_pos (zzhd h)];rfl
 |false=>rw[if_neg (fun h'=>by rw[Nat.ble_eq_true_of_le h']at h;cases h)];rfl
@[simp] theorem oP(i o:Nat):bF m (d+1) (.ptr i o)=.ep ((m.boxes.getD i []).map (bF m d)) o:=rfl
@[simp] theorem apw(b:Bool):Yc (d+1) (.bool b)=false:=rfl
@[simp] theorem asw(k:IntKind)(n:Int):Yc (d+1) (.int k n)=false:=rfl
@[simp] theorem asx(s:ByteArray):Yc (d+1) (.str s)=false:=rfl
@[simp] theorem apx(p:Bool):Yc (d+1) (.nilv p)=false:=rfl
@[simp] theorem am4:Yc (d+1) .nilfn=false:=rfl
@[simp] theorem asy(l:Nat):Yc (d+1) (.yld l)=false:=rfl
@[simp] theorem awv(i:Nat):Yc (d+1) (.mp i)=false:=rfl
@[simp] theorem aww(i:Nat):Yc (d+1) (.it i)=false:=rfl
@[simp] theorem apy:Yc (d+1) .junk=false:=rfl
@[simp] theorem asz(cs:List AV):Yc (d+1) (.agg cs)=cs.any (Yc d):=rfl
@[simp] theorem asA(cs:List AV):Yc (d+1) (.aU cs)=cs.any (Yc d):=rfl
@[simp] theorem awx(f:FuncId)(a b:List AV):Yc (d+1) (.fn f a b)=(a.any (Yc d)||b.any (Yc d)):=rfl
@[simp] theorem awy(rt:Rt)(r:List (List AV)):Yc (d+1) (.sl rt r)=false:=rfl
@[simp] theorem awz(r:List AV)(o:Nat):Yc (d+1) (.ep r o)=false:=rfl
@[simp] theorem awA(i o n z:Nat):Yc (d+1) (.bs i o n z)=true:=rfl
@[simp] theorem asC(i o:Nat):Yc (d+1) (.ptr i o)=true:=rfl
@[simp] theorem apz(b:Bool):flat (.bool b)=true:=rfl
@[simp] theorem asD(k:IntKind)(n:Int):flat (.int k n)=true:=rfl
@[simp] theorem asE(s:ByteArray):flat (.str s)=true:=rfl
@[simp] theorem am5(b:Bool):iS (.bool b)=true:=rfl
@[simp] theorem apA(k:IntKind)(n:Int):iS (.int k n)=true:=rfl
@[simp] theorem apB(s:ByteArray):iS (.str s)=true:=rfl
@[simp] theorem asF(cs:List AV):flat (.aU cs)=cs.all iS:=rfl
end
def Fx:AV->Bool
 |.bool _|.int _ _|.str _|.sl .ro _|.sl .full _|.sl .nil _|.sl .nn _|.nilfn|.ep _ _=>true
 |_=>false
@[simp] theorem asG(b:Bool):Fx (.bool b)=true:=rfl
@[simp] theorem awB(k:IntKind)(n:Int):Fx (.int k n)=true:=rfl
@[simp] theorem awC(s:ByteArray):Fx (.str s)=true:=rfl
@[simp] theorem axf(r:List (List AV)):Fx (.sl .ro r)=true:=rfl
@[simp] theorem asH(r:List (List AV)):Fx (.sl .full r)=true:=rfl
@[simp] theorem awD(r:List (List AV)):Fx (.sl .nil r)=true:=rfl
@[simp] theorem axg(r:List (List AV)):Fx (.sl .nn r)=true:=rfl
@[simp] theorem axh(r:List AV)(o:Nat):Fx (.ep r o)=true:=rfl
def Oa(m:AM)(d:Nat){a:AV}(h:Fx a=true):bF m (d+1) a=a:=by
 cases a<;>simp[Fx]at h |-
 rename_i rt rows;cases rt<;>simp at h |-
def Zg(row:List AV):Bool:=row.all Fx
def Zk(m:AM)(d:Nat){row:List AV}(h:Zg row=true):row.map (bF m (d+1))=row:=by
 have:row.map (bF m (d+1))=row.map id:=zzdd fun a ha=>Oa m d (zzbc.1 h a ha);rw[this,List.map_id]
def Qk{n:Int}(h1: -9223372036854775808<=n)(h2:n<=9223372036854775807):IntKind.i64.wrap n=n:=by
 rw[IntKind.wrap_i64];omega
def bH(i:Nat)(h:i<1000000000000000000):IntKind.i64.wrap ((i:Int)+1)=((i+1:Nat):Int):=by rw[Qk]<;>omega
def aP{α:Type}{l:List α}{i:Nat}(h:i<l.length):∃x,l[i]?=some x:=⟨_,zzad h⟩
@[simp] theorem Uc(m:AM)(l:Nat)(x:LS):(m.at_ l x).boxes=m.boxes:=rfl
@[simp] theorem CJ(m:AM)(l:Nat)(x:LS):(m.at_ l x).lens=m.lens:=rfl
@[simp] theorem akn(m:AM)(l:Nat)(x:LS):(m.at_ l x).st=ql m.st l x:=rfl
@[simp] def aza(m:AM)(l:Nat)(x y:LS):(m.at_ l x).at_ l y=m.at_ l y:=by
 simp only[AM.at_];congr 1;funext i;simp only[ql];split<;>rfl
@[simp] def asI(st:Nat->LS)(l:Nat)(x:LS):ql st l x l=x:=by simp[ql]
@[simp] def awE(st:Nat->LS)(l:Nat)(x y:LS):ql (ql st l x) l y=ql st l y:=by funext i;simp only[ql];split<;>rfl
def fF(m m':AM):Prop:=(∃bx,m'.boxes=m.boxes++bx)/\(∃lx,m'.lens=m.lens++lx)/\∀l,m.st l≠.gone->m'.st l=m.st l
def fF.refl(m:AM):fF m m:=⟨⟨[],by simp⟩,⟨[],by simp⟩,fun _ _=>rfl⟩
def fF.trans{m m' lH:AM}(h:fF m m')(k:fF m' lH):fF m lH:=by
 obtain⟨⟨b,h1⟩,⟨c,h2⟩,h3⟩:=h;obtain⟨⟨b',k1⟩,⟨c',k2⟩,k3⟩:=k;exact⟨⟨b++b',by rw[k1,h1,zzba]⟩,⟨c++c',by rw[k2,h2,zzba]⟩,fun l hl=>by rw[k3 l (by rw[h3 l hl];exact hl),h3 l hl]⟩
def fF.box(m:AM)(b:List (List AV)):fF m {m with boxes:=m.boxes++b}:=⟨⟨b,rfl⟩,⟨[],by simp⟩,fun _ _=>rfl⟩
def fF.gone{m m':AM}(h:fF m m')(l:Nat):fF (m.at_ l .gone) (m'.at_ l .gone):=
 ⟨h.1,h.2.1,fun l' ez=>by
  by_cases e:l'=l
  ·subst e;simp at ez
  simp only[akn,ql,e,if_false]at ez |-;exact h.2.2 l' ez⟩
def wj(y:List AV->AM->(Bool->AM->Prop)->Prop)(K:AM->Prop):List (List AV)->AM->Prop
 |[],m=>∀m',fF m m'->K m'
 |x::xs,m=>∀m',fF m m'->∀K':Bool->AM->Prop,(∀lH,wj y K xs lH->K' true lH)->(∀lH,(∀m3,fF lH m3->K m3)->K' false lH)->y x m' K'
def wj.ext{y:List AV->AM->(Bool->AM->Prop)->Prop}{K:AM->Prop}{xs:List (List AV)}{m m':AM}(h:wj y K xs m)(e:fF m m'):wj y K xs m':=by
 cases xs with
 |nil=>exact fun m2 e2=>h m2 (e.trans e2)
 |cons x xs=>exact fun m2 e2=>h m2 (e.trans e2)
def Iter(P:Program)(gl:Nat->AV)(f:FuncId)(first cap:List AV)(xs:List (List AV)):Prop:=
 ∀(Y:YT)(l:Nat)(m:AM)(K:AM->Prop),wj (Y l) K xs m->an P gl Y f (first++[.yld l]++cap) m fun _ m'=>K m'
def jh{P:Program}{gl:Nat->AV}{orc:Nat->FuncId->List AV->AV}{Y:YT}{s:AS}{Q:Exit->AS->Prop}{g:bN}{ps:List Nat}{lM body:SC}{f:FuncId}{first cap:List AV}{xs:List (List AV)}
  (hg:ev gl s.T g=.fn f first cap)(cH:Iter P gl f first cap xs)(aI:∀x∈xs,x.length=ps.length)(I:Nat->AM->Prop)(X:Exit->AM->Prop)(h0:I 0 s.m)
  (hI:∀i m m',I i m->fF m m'->I i m')(hX:∀ex m m',X ex m->fF m m'->X ex m')
  (
   hb:∀(l i:Nat)(m:AM)(x:List AV),s.m.st l=.gone->m.st l=.ready->I i (m.at_ l .gone)->xs[i]?=some x->∀K':Exit->AS->Prop,
   (∀s',I (i+1) (s'.m.at_ l .gone)->K' .normal s')->(∀s',X .ret (s'.m.at_ l .gone)->K' .ret s')->(∀id s',X (.exit id) (s'.m.at_ l .gone)->K' (.exit id) s')->
   vc P gl orc Y lM ⟨Qam s.T ps x,m⟩ (Fp l fun s'=>vc P gl orc Y body s' K'))
  (KJ:∀m,I xs.length m->Q .normal ⟨s.T,m⟩)(hex:∀ex m,X ex m->Q ex ⟨s.T,m⟩):vc P gl orc Y (.rfunc g ps lM body) s Q:=by
 simp only[vc,hg];intro hl;generalize dx:s.m.ln=l at hl;refine cH _ l s.m.aX (fun m'=>zl l s.T m' Q (m'.st l)) ?_;have gG:∀{m m':AM},m.st l=.ready->fF m m'->m'.st l=.ready:=fun h e=>by rw[e.2.2 l (by rw[h];simp),h]
 have key:∀(n i:Nat)(m:AM),i+n=xs.length->I i (m.at_ l .gone)->m.st l=.ready->wj (Yin Y l ps.length (fun args m K=>vc P gl orc Y lM ⟨Qam s.T ps args,m⟩ (Fp l fun s'=>vc P gl orc Y body s' (KH l K))) l) (fun m'=>zl l s.T m' Q (m'.st l)) (xs.drop i) m:=by
  intro n;induction n with
  |zero=>
   intro i m hi XV hm;rw[zzan (by omega)];intro m' e;simp only[gG hm e,zl];obtain rfl:i=xs.length:=by omega
   exact KJ _ (hI _ _ _ XV (e.gone l))
  |succ n ih=>
   intro i m hi XV hm;have ai:i<xs.length:=by omega
   rw[zzaf ai];intro m' e K' hT hF;simp only[Yin,if_true];refine⟨gG hm e,aI _ (zzdh ai),?_⟩;refine hb l i m' xs[i] hl (gG hm e) (hI _ _ _ XV (e.gone l)) (zzad ai) (KH l K') (fun s' zg=>?_) (fun s' hQ=>?_) fun id s' hQ=>?_
   ·refine hT _ (ih (i+1) _ (by omega) ?_ (by simp));simpa using zg
   ·refine hF _ fun m3 e3=>?_;have h3:m3.st l=.done .ret:=by have:=e3.2.2 l (by simp);simpa using this
    simp only[h3];exact hex _ _ (hX _ _ _ hQ (by have:=e3.gone l;simpa using this))
   refine hF _ fun m3 e3=>?_;have h3:m3.st l=.done (.exit id):=by have:=e3.2.2 l (by simp);simpa using this
   simp only[h3];exact hex _ _ (hX _ _ _ hQ (by have:=e3.gone l;simpa using this))
 have:=key xs.length 0 s.m.aX (by simp) (hI 0 s.m _ h0 ⟨⟨[],by simp[AM.aX]⟩,⟨[],by simp[AM.aX]⟩,fun l' ez=>by
  have:l'≠l:=by rintro rfl;exact ez hl
  simp[AM.aX,dx,ql,this]⟩) (by simp[AM.aX,dx])
 simpa using this
attribute [simp] Qam
section
variable (l:Nat) (k:AS->Prop) (s:AS) (id:Nat)
@[simp] def ako:Fp l k .normal s=(s.m.st l=.ready/\k ⟨s.T,s.m.at_ l .busy⟩):=nd rfl
end
open Go Go.RowKit
def look:List (Nat×AV)->Nat->AV
 |[],_=>.junk
 |(d,v)::r,t=>if d=t then v else look r t
def Zb(n:Nat)(E:List (Nat×AV)):List AV:=(List.range n).map (look E)
def sx:Nat->List AV->List (Nat×AV)
 |_,[]=>[]
 |i,a::r=>(i,a)::sx (i+1) r
@[simp] theorem qV(d:Nat)(v:AV)(r:List (Nat×AV))(t:Nat):look ((d,v)::r) t=if d=t then v else look r t:=rfl
@[simp] theorem look_nil(t:Nat):look [] t=.junk:=rfl
@[simp] theorem apC(i:Nat):sx i []=[]:=rfl
@[simp] theorem KK(i:Nat)(a:AV)(r:List AV):sx i (a::r)=(i,a)::sx (i+1) r:=rfl
@[simp] def aff{n t:Nat}{E:List (Nat×AV)}(h:t<n):nth (Zb n E) t=look E t:=by
 simp[nth,Zb,zzas,-Qbc,h]
def Zi{n d:Nat}{E:List (Nat×AV)}(h:d<n)(v:AV):(Zb n E).set d v=Zb n ((d,v)::E):=by
 apply zzed (by simp[Zb]);intro i h1 h2;rw[List.getElem_set];simp[Zb]
@[simp] def awF{n d:Nat}{E:List (Nat×AV)}(h:d<n)(v:AV):put (Zb n E) (some d) v=Zb n ((d,v)::E):=Zi h v
@[simp] theorem asJ(T:List AV)(v:AV):put T none v=T:=rfl
@[simp] def apD{n d:Nat}{E:List (Nat×AV)}(h:d<n)(ps:List Nat)(x:AV)(xs:List AV):Qam (Zb n E) (d::ps) (x::xs)=Qam (Zb n ((d,x)::E)) ps xs:=by
 rw[Qam,Zi h]
def wm:∀(l:List AV)(i t:Nat),look (sx i l) t=if i<=t then l.getD (t-i) .junk else .junk
 |[],i,t=>by simp[-Qbc]
 |a::r,i,t=>by
  rw[KK,qV,wm r (i+1) t];by_cases h:i=t
  ·subst h;simp[-Qbc]
  rw[if_neg h];by_cases h':i<=t
  ·rw[if_pos (by omega),if_pos h',show t-i=(t-(i+1))+1 by omega];simp[-Qbc]
  rw[if_neg (by omega),if_neg h']
def AO{n:Nat}{l:List AV}(h:l.length<=n):l++List.replicate (n-l.length) .junk=Zb n (sx 0 l):=by
 apply zzed
 ·simp[Zb];omega
 intro i h1 h2;simp only[Zb,List.getElem_map,List.getElem_range,wm,zzcc,if_true,zzfb];rw[List.getElem_append];split
 ·rename_i hi;simp[zzas,-Qbc,hi]
 rename_i hi;simp[zzas,-Qbc,hi]
section
variable {P:Program} {gl:Nat->AV} {Y:YT}
def Qn{f:FuncId}{sc:SC}{rs:List aD}{n:Nat}(hc:dh P f sc rs n)(orc:Nat->FuncId->List AV->AV){l:List AV}{r:AV}(hn:l.length<=n)
  (h:vc P gl orc Y0 sc ⟨Zb n (sx 0 l),⟨[],[],fun _=>.gone,0⟩⟩ (post P gl orc rs r)):Pure P gl f l r:=ae7 hc orc (by rw[AO hn];exact h)
def Xe{f:FuncId}{sc:SC}{rs:List aD}{n:Nat}(hc:dh P f sc rs n)(orc:Nat->FuncId->List AV->AV){l:List AV}{m:AM}{K:AV->AM->Prop}(hn:l.length<=n)
  (h:vc P gl orc Y sc ⟨Zb n (sx 0 l),m⟩ (we P gl orc rs K)):an P gl Y f l m K:=XS hc orc (by rw[AO hn];exact h)
end
def fT(W:List Nat)(E' E:List (Nat×AV)):Prop:=∀t,W.contains t=false->look E' t=look E t
def Qa(W:List Nat)(E:List (Nat×AV)):fT W E E:=fun _ _=>rfl
def Qb{W:List Nat}{E' E:List (Nat×AV)}{k:Nat}(v:AV)(hk:W.contains k=true)(h:fT W E' E):fT W ((k,v)::E') E:=fun t ht=>by
 rw[qV,if_neg (by rintro rfl;rw[hk]at ht;cases ht)];exact h t ht
def kR(n:Nat)(E:List (Nat×AV))(W:List Nat)(R:(Nat->AV)->AM->Prop)(μ:(Nat->AV)->AM->Nat)(f:Nat->AV)(m:AM)(Q:Exit->AS->Prop):Exit->AS->Prop
 |.normal,s'=>(∃E',s'.T=Zb n E'/\fT W E' E)/\R (nth s'.T) s'.m/\μ (nth s'.T) s'.m<μ f m
 |ex,s'=>Q ex s'
def Qbx(f:Nat->AV):List Nat->List (Nat×AV)->List (Nat×AV)
 |[],E=>E
 |i::W,E=>(i,f i)::Qbx f W E
@[simp] theorem am6(f:Nat->AV)(E:List (Nat×AV)):Qbx f [] E=E:=rfl
@[simp] theorem Fy(f:Nat->AV)(i:Nat)(W:List Nat)(E:List (Nat×AV)):Qbx f (i::W) E=(i,f i)::Qbx f W E:=rfl
def ji(f:Nat->AV)(E:List (Nat×AV))(t:Nat):∀W,look (Qbx f W E) t=if W.contains t then f t else look E t
 |[]=>by simp
 |i::W=>by
  rw[Fy,qV,ji f E t W];by_cases h:i=t
  ·subst h;simp
  have h':t≠i:=Ne.symm h;simp[h,h']
def CK(f:Nat->AV)(W:List Nat)(E:List (Nat×AV)):fT W (Qbx f W E) E:=fun t ht=>by rw[ji,ht];rfl
def afg{n:Nat}{E E':List (Nat×AV)}(h:∀t,t<n->look E t=look E' t):Zb n E=Zb n E':=zzdd fun t ht=>h t (zzbf.1 ht)
def AP{n:Nat}{W:List Nat}{E:List (Nat×AV)}{T:List AV}:(∃E',T=Zb n E'/\fT W E' E)<->T=Zb n (Qbx (nth T) W E):=by
 constructor
 ·rintro⟨E',rfl,h⟩;refine afg fun t ht=>?_;rw[ji];cases hc:W.contains t with
  |true=>simp only[if_true];rw[aff ht]
  |false=>simp only[zzbq,if_false];exact h t hc
 exact fun h=>⟨_,h,CK _ _ _⟩
def Qi{P:Program}{gl:Nat->AV}{orc:Nat->FuncId->List AV->AV}{Y:YT}{n:Nat}{E:List (Nat×AV)}{m0:AM}{Q:Exit->AS->Prop}{c:SC}(W:List Nat)(R:(Nat->AV)->AM->Prop)(μ:(Nat->AV)->AM->Nat)
  (h0:R (nth (Zb n E)) m0)(hr:∀f m,R f m->vc P gl orc Y c ⟨Zb n (Qbx f W E),m⟩ (kR n E W R μ f m Q)):vc P gl orc Y (.loop c) ⟨Zb n E,m0⟩ Q:=by
 refine ae9 P gl orc Y ⟨Zb n E,m0⟩ Q (fun s'=>s'.T=Zb n (Qbx (nth s'.T) W E)/\R (nth s'.T) s'.m) (fun s'=>μ (nth s'.T) s'.m) ⟨AP.1 ⟨E,rfl,Qa _ _⟩,h0⟩ ?_;rintro⟨T',m'⟩ ⟨h1,h2⟩;have:=hr _ m' h2;rw[<- h1]at this
 have e:kR n E W R μ (nth T') m' Q=nt (fun s'=>s'.T=Zb n (Qbx (nth s'.T) W E)/\R (nth s'.T) s'.m) (fun s'=>μ (nth s'.T) s'.m) ⟨T',m'⟩ Q:=by
  funext ex s';cases ex<;>simp[kR,nt,and_assoc,AP]
 rwa [e]at this
section
variable (n:Nat) (E:List (Nat×AV)) (W:List Nat) (R:(Nat->AV)->AM->Prop) (μ:(Nat->AV)->AM->Nat) (f:Nat->AV) (m:AM) (Q:Exit->AS->Prop) (s:AS) (id:Nat)
@[simp] theorem XW:kR n E W R μ f m Q .normal s=((∃E',s.T=Zb n E'/\fT W E' E)/\R (nth s.T) s.m/\μ (nth s.T) s.m<μ f m):=rfl
@[simp] theorem afh:kR n E W R μ f m Q (.exit id) s=Q (.exit id) s:=rfl
@[simp] theorem akp:kR n E W R μ f m Q .ret s=Q .ret s:=rfl
end
def ag{n:Nat}{E' E:List (Nat×AV)}{W:List Nat}(h:fT W E' E):∃E1,Zb n E'=Zb n E1/\fT W E1 E:=⟨E',rfl,h⟩
def aN{n:Nat}{E' E:List (Nat×AV)}{W:List Nat}(h:fT W E' E:=by repeat(first|exact Qa _ _|refine Qb _ rfl ?_)):∃E1,Zb n E'=Zb n E1/\fT W E1 E:=ag h
open Go Go.RowKit
def jj(P:Program):List Field->Nat->Option Nat
 |[],n=>some n
 |f::r,n=>if f.offset=n then jj P r (n+P.cellsOf f.type)else none
def XX(P:Program):Nat->TypeId->Bool
 |0,_=>false
 |d+1,t=>match P.underlying t with
  |some .bool|some (.int _)|some .string=>P.cellsOf t==1
  |some (.slice e)=>((P.cellsOf t==1)&&!(P.cellsOf e==0))&&XX P d e
  |some (.struct fs)=>(jj P fs.toList 0==some (P.cellsOf t))&&fs.toList.all fun f=>XX P d f.type
  |some (.array n e)=>(P.cellsOf t==n*P.cellsOf e)&&XX P d e
  |_=>false
def cz{H:Type}(P:Program):Nat->TypeId->DataW H->List AV
 |0,_,_=>[]
 |d+1,t,x=>match P.underlying t,x with
  |some .bool,.lit (.bool b)=>[.bool b]
  |some (.int _),.lit (.int k n)=>[.int k n]
  |some .string,.lit (.string s)=>[.str ⟨s.toArray⟩]
  |some (.slice _),.nil=>[.sl .nil []]
  |some (.slice e),.slice bL _=>[.sl .nn (bL.map (cz P d e))]
  |some (.struct fs),.agg parts=>(fs.toList.zip parts).flatMap fun p=>cz P d p.1.type p.2
  |some (.array _ e),.agg parts=>parts.flatMap (cz P d e)
  |_,_=>[]
def Typed{H:Type}(P:Program):Nat->TypeId->DataW H->Prop
 |0,_,_=>False
 |d+1,t,x=>match P.underlying t,x with
  |some .bool,.lit (.bool _)=>True
  |some (.int k),.lit (.int k' n)=>k'=k/\(Lit.int k n).wf=true
  |some .string,.lit (.string s)=>s.length<=maxLen
  |some (.slice _),.nil=>True
  |some (.slice e),.slice bL _=>bL.length<=maxLen/\∀y∈bL,Typed P d e y
  |some (.struct fs),.agg parts=>parts.length=fs.size/\∀p∈fs.toList.zip parts,Typed P d p.1.type p.2
  |some (.array n e),.agg parts=>parts.length=n/\∀y∈parts,Typed P d e y
  |_,_=>False
def D7:Nat->Nat->Prop:=fun _ _=>True
section
variable {H:Type} {enc:TypeId×Value->H} {P:Program} {w:World} {base:Nat} {sp:Nat->Bool} {held:Bool}
def KL{a:Addr}{n:Nat}{cs:List Value}(h:w.cells? base a n=some cs):cs.length=n/\∀(j:Nat)(v:Value),cs[j]?=some v->w.cell? (a.add j)=some v:=by
 unfold World.cells? at h;split at h
 ·obtain⟨h1,h2⟩:=Qcs _ _ _ h;refine⟨by simpa using h1,fun j v hj=>?_⟩
  have ai:j<n:=by
   have:=(zza.1 hj).1;simp at h1;omega
  exact h2 j j v (by simp[ai]) hj
 cases h
def CL{γ:G}:∀(l:List (List AV))(XY:List (List Value)),l.length=XY.length->(∀(i:Nat)(as:List AV)(vs:List Value),l[i]?=some as->XY[i]?=some vs->ak w γ as vs)->ak w γ l.flatten XY.flatten
 |[],[],_,_=>ak.nil
 |[],_::_,h,_=>by simp at h
 |_::_,[],h,_=>by simp at h
 |as::l,vs::XY,h,hr=>by
  rw[zzci,zzci];exact(hr 0 as vs rfl rfl).append (CL l XY (by simpa using h) fun i as vs h1 h2=>hr (i+1) as vs (by simpa using h1) (by simpa using h2))
def sy{cs:List Value}:∀(fs:List Field)(n m:Nat),jj P fs n=some m->m=cs.length->n<=cs.length->(fs.map fun f=>(cs.drop f.offset).take (P.cellsOf f.type)).flatten=cs.drop n
 |[],n,m,h,hm,hn=>by simp[jj]at h;subst h;subst hm;simp
 |f::fs,n,m,h,hm,hn=>by
  simp only[jj]at h;split at h
  ·rename_i ho;subst ho
   have bX:∀(fs:List Field)(n m:Nat),jj P fs n=some m->n<=m:=by
    intro fs;induction fs with
    |nil=>intro n m h;simp[jj]at h;omega
    |cons f fs ih=>
     intro n m h;simp only[jj]at h;split at h
     ·have:=ih _ _ h;omega
     cases h
   have h1:=bX _ _ _ h;have ih:=sy fs _ m h hm (by omega);rw[zzay,zzci,ih];rw[<- zzdp,zzd]
  cases h
def KM{cs:List Value}{k:Nat}:∀(n:Nat),cs.length=n*k->((List.range n).map fun i=>(cs.drop (i*k)).take k).flatten=cs:=by
 intro n hn
 have key:∀m,m<=n->((List.range m).map fun i=>(cs.drop (i*k)).take k).flatten=cs.take (m*k):=by
  intro m;induction m with
  |zero=>simp
  |succ m ih=>
   intro hm;rw[zzej,zzbw,zzeg,ih (by omega)];simp only[zzay,zzce,zzci,List.flatten_nil,zzat];rw[zzbp,zzdj,List.take_add]
 rw[key n (zzab _),<- hn,zzbn]
def trod_bool{t:TypeId}{bz:Nat}{cs:List Value}{x:DataW H}{ps:List MemPlace}(hu:P.underlying t=some .bool)(h:DataW.trod enc P w base sp held (bz+1) t cs=some (x,ps)):∃b,cs=[.bool b]/\x=.lit (.bool b):=by
 unfold DataW.trod at h;rw[hu]at h;obtain _|⟨v,_|⟨_,_⟩⟩:=cs
 ·cases h
 ·cases v<;>first|(cases h;done)|(cases h;exact⟨_,rfl,rfl⟩)
 cases v<;>first|(cases h;done)|(simp at h;done)
def trod_int{t:TypeId}{k:IntKind}{bz:Nat}{cs:List Value}{x:DataW H}{ps:List MemPlace}(hu:P.underlying t=some (.int k))(h:DataW.trod enc P w base sp held (bz+1) t cs=some (x,ps)):∃n,cs=[.int k n]/\x=.lit (.int k n)/\(Lit.int k n).wf=true:=by
 unfold DataW.trod at h;rw[hu]at h;obtain _|⟨v,_|⟨_,_⟩⟩:=cs
 ·cases h
 ·cases v<;>first|(cases h;done)|skip
  simp only at h;split at h
  ·rename_i hk;cases h;rw[hk.1];exact⟨_,rfl,rfl,hk.2⟩
  cases h
 cases v<;>first|(cases h;done)|(simp at h;done)
def XZ{t:TypeId}{bz:Nat}{cs:List Value}{x:DataW H}{ps:List MemPlace}(hu:P.underlying t=some .string)(h:DataW.trod enc P w base sp held (bz+1) t cs=some (x,ps)):∃s,cs=[.string s]/\x=.lit (.string s.data.toList)/\s.size<=maxLen:=by
 unfold DataW.trod at h;rw[hu]at h;obtain _|⟨v,_|⟨_,_⟩⟩:=cs
 ·cases h
 ·cases v<;>first|(cases h;done)|skip
  simp only at h;split at h
  ·rename_i hk;cases h;exact⟨_,rfl,rfl,hk⟩
  cases h
 cases v<;>first|(cases h;done)|(simp at h;done)
def afi{t e:TypeId}{bz:Nat}{cs:List Value}{x:DataW H}{ps:List MemPlace}(hu:P.underlying t=some (.slice e))(h:DataW.trod enc P w base sp held (bz+1) t cs=some (x,ps)):
  (
   cs=[.slice none 0 0]/\x=.nil)\/∃a len cap bL rest,cs=[.slice (some a) len cap]/\len<=cap/\cap<=maxLen/\x=.slice (bL.map (·.1)) rest/\
   (List.range len).mapM (fun i=>(w.cells? base (a.add (i*P.cellsOf e)) (P.cellsOf e)).bind (DataW.trod enc P w base sp held bz e))=some bL:=by
 unfold DataW.trod at h;rw[hu]at h;obtain _|⟨v,_|⟨_,_⟩⟩:=cs
 ·cases h
 ·cases v<;>first|(cases h;done)|skip
  rename_i a len cap;cases a with
  |none=>cases len<;>cases cap<;>first|(cases h;done)|(cases h;exact .inl ⟨rfl,rfl⟩)
  |some a=>
   simp only at h;split at h
   case isFalse=>cases h
   rename_i hc;cases hm:(List.range len).mapM (fun i=>(w.cells? base (a.add (i*P.cellsOf e)) (P.cellsOf e)).bind (DataW.trod enc P w base sp held bz e))with
   |none=>rw[hm]at h;cases h
   |some bL=>
    rw[hm]at h;simp only[zzch,zzcd]at h;obtain⟨rest,_,h2⟩:=h;cases h2;exact .inr ⟨a,len,cap,bL,_,rfl,hc.2.1,hc.2.2,rfl,hm⟩
 cases v<;>first|(cases h;done)|skip
 rename_i a len cap;cases a with
 |none=>cases len<;>cases cap<;>first|(cases h;done)|(simp at h;done)
 |some a=>first|(cases h;done)|(simp at h;done)
def trod_struct{t:TypeId}{fs:Array Field}{bz:Nat}{cs:List Value}{x:DataW H}{ps:List MemPlace}(hu:P.underlying t=some (.struct fs))(h:DataW.trod enc P w base sp held (bz+1) t cs=some (x,ps)):
  cs.length=P.cellsOf t/\∃xs,x=.agg (xs.map (·.1))/\fs.toList.mapM (fun f=>DataW.trod enc P w base sp held bz f.type ((cs.drop f.offset).take (P.cellsOf f.type)))=some xs:=by
 unfold DataW.trod at h;rw[hu]at h;simp only at h;split at h
 case isFalse=>cases h
 rename_i hc;simp only[zzcd]at h;obtain⟨xs,h1,h2⟩:=h;cases h2;exact⟨hc,xs,rfl,h1⟩
def trod_array{t e:TypeId}{n:Nat}{bz:Nat}{cs:List Value}{x:DataW H}{ps:List MemPlace}(hu:P.underlying t=some (.array n e))(h:DataW.trod enc P w base sp held (bz+1) t cs=some (x,ps)):
  cs.length=P.cellsOf t/\∃xs,x=.agg (xs.map (·.1))/\(List.range n).mapM (fun i=>DataW.trod enc P w base sp held bz e ((cs.drop (i*P.cellsOf e)).take (P.cellsOf e)))=some xs:=by
 unfold DataW.trod at h;rw[hu]at h;simp only at h;split at h
 case isFalse=>cases h
 rename_i hc;simp only[zzcd]at h;obtain⟨xs,h1,h2⟩:=h;cases h2;exact⟨hc,xs,rfl,h1⟩
def jk:∀(d bz:Nat)(t:TypeId)(cs:List Value)(x:DataW H)(ps:List MemPlace),DataW.trod enc P w base sp held bz t cs=some (x,ps)->XX P d t=true->
  Typed P d t x/\ak w (G0 D7) (cz P d t x) cs/\(cz P d t x).all Qv=true/\cs.length=P.cellsOf t
 |0,_,_,_,_,_,_,h=>by cases h
 |d+1,0,_,_,_,_,h,_=>by cases h
 |d+1,bz+1,t,cs,x,ps,h,bT=>by
  unfold XX at bT;cases hu:P.underlying t with
  |none=>simp[hu]at bT
  |some desc=>
   rw[hu]at bT;cases desc with
   |bool=>
    obtain⟨b,rfl,rfl⟩:=trod_bool hu h;exact⟨by simp[Typed,hu],by simp only[cz,hu];exact ak.cons (.bool b) ak.nil,by simp[cz,hu,Qv],(eq_of_beq bT).symm⟩
   |int k=>
    obtain⟨n,rfl,rfl,hw⟩:=trod_int hu h;exact⟨by simp[Typed,hu,hw],by simp only[cz,hu];exact ak.cons (.int k n) ak.nil,by simp[cz,hu,Qv],(eq_of_beq bT).symm⟩
   |string=>
    obtain⟨s,rfl,rfl,hw⟩:=XZ hu h;refine⟨by simpa[Typed,hu]using hw,?_,by simp[cz,hu,Qv],(eq_of_beq bT).symm⟩;simp only[cz,hu];have:(⟨s.data.toList.toArray⟩:ByteArray)=s:=by cases s;simp
    rw[this];exact ak.cons (.str s) ak.nil
   |slice e=>
    simp only[zzak]at bT;rcases afi hu h with⟨rfl,rfl⟩|⟨a,len,cap,bL,rest,rfl,hlc,hcm,rfl,hm⟩
    ·exact⟨by simp[Typed,hu],by simp only[cz,hu];exact ak.cons Ci ak.nil,by simp[cz,hu,Qv],(eq_of_beq bT.1.1).symm⟩
    obtain⟨hl,hg⟩:=Qcs _ _ _ hm;have ez:bL.length=len:=by simpa using hl
    have Tf:∀(i:Nat)(y:DataW H×List MemPlace),bL[i]?=some y->∃ec,ec.length=P.cellsOf e/\(∀(j:Nat)(v:Value),ec[j]?=some v->w.cell? ((a.add (i*P.cellsOf e)).add j)=some v)/\Typed P d e y.1/\ak w (G0 D7) (cz P d e y.1) ec/\(cz P d e y.1).all Qv=true:=fun i y hy=>by
     have hi:i<len:=by rw[<- ez];exact(zza.1 hy).1
     have:=hg i i y (by simp[hi]) hy;cases hc:w.cells? base (a.add (i*P.cellsOf e)) (P.cellsOf e)with
     |none=>rw[hc]at this;cases this
     |some ec=>
      rw[hc]at this;obtain⟨y1,y2⟩:=y;obtain⟨g1,g2,g3,g4⟩:=jk d bz e ec y1 y2 this bT.2;obtain⟨c1,c2⟩:=KL hc;exact⟨ec,c1,c2,g1,g2,g3⟩
    refine⟨?_,?_,by simp[cz,hu,Qv],(eq_of_beq bT.1.1).symm⟩
    ·simp only[Typed,hu];refine⟨by simp;omega,fun y hy=>?_⟩;simp only[zzaw]at hy;obtain⟨p,hp,rfl⟩:=hy;obtain⟨i,hi⟩:=zzca.1 hp;obtain⟨ec,_,_,g1,_⟩:=Tf i p hi;exact g1
    simp only[cz,hu];refine ak.cons ?_ ak.nil;have ee:((bL.map (·.1)).map (cz P d e)).length=len:=by simp[ez]
    have hz:P.cellsOf e≠0:=by simpa using bT.1.2
    have X0:((bL.map (·.1)).map (cz P d e))≠[]->a=⟨a.block,a.off,none⟩/\a.block<w.heap.size:=fun hn=>by
     cases helems:bL with
     |nil=>simp[helems]at hn
     |cons y ys=>
      obtain⟨ec,c1,c2,_,g2,_⟩:=Tf 0 y (by simp[helems]);cases hec:ec with
      |nil=>rw[hec]at c1;exact absurd c1.symm hz
      |cons v vs=>
       have:=c2 0 v (by simp[hec]);simp only[zzhl,Addr.add,if_true]at this;unfold World.cell? at this;split at this
       ·rename_i hb;split at this
        ·cases this
        rename_i hs;refine⟨?_,aS hb⟩;cases a;simp at hs;simp[hs]
       cases this
    have oe:∀(i j:Nat)(c:AV),Qt ((bL.map (·.1)).map (cz P d e)) i j=some c->∃v,w.cell? ⟨a.block,a.off+i*P.cellsOf e+j,none⟩=some v/\aB w (G0 D7) c v/\Qv c=true:=fun i j c hc=>by
     have aJ:((bL.map (·.1)).map (cz P d e))≠[]:=by rintro h0;rw[h0]at hc;simp[Qt]at hc
     obtain⟨ha,_⟩:=X0 aJ;unfold Qt at hc;cases hy:bL[i]? with
     |none=>simp[hy]at hc
     |some y=>
      simp[hy]at hc;obtain⟨ec,c1,c2,_,g2,g3⟩:=Tf i y hy;have hj:j<ec.length:=by rw[<- g2.1];exact(zza.1 hc).1
      have hv:ec[j]?=some ec[j]:=zzad hj;refine⟨ec[j],?_,g2.2 j c _ hc hv,zzbc.1 g3 c (zzac hc)⟩;have:=c2 j _ hv;rw[ha,bu,bu]at this;exact this
    have:=aB.sl (w:=w) (γ:=G0 D7) (rt:=.nn) (rows:=(bL.map (·.1)).map (cz P d e)) (a:=some a) (cap:=cap) a.block a.off (P.cellsOf e) (fun i j=>(w.cell? ⟨a.block,a.off+i*P.cellsOf e+j,none⟩).getD undef)
     (by rw[ee];exact hlc) (fun h=>by cases h) (fun hn=>⟨by rw[<- (X0 hn).1],(X0 hn).2⟩) (fun row aa=>?_) (fun i j c hc=>?_) (fun i j c hc=>?_) (by simp[tE])
    ·rwa [ee]at this
    ·simp only[zzct,zzaw]at aa;obtain⟨p,hp,rfl⟩:=aa;obtain⟨i,hi⟩:=zzca.1 hp;obtain⟨ec',c1',_,_,g2',_⟩:=Tf i p hi;have:=g2'.1;simp only[Function.comp];omega
    ·obtain⟨v,h1,h2,h3⟩:=oe i j c hc;rw[h1];exact⟨rfl,trivial,uf h2 h3⟩
    obtain⟨v,h1,h2,h3⟩:=oe i j c hc;rw[h1];exact h2
   |struct fs=>
    simp only[zzak,zzbc]at bT;obtain⟨aI,xs,rfl,hm⟩:=trod_struct hu h;obtain⟨hl,hg⟩:=Qcs _ _ _ hm
    have Tf:∀(i:Nat)(f:Field)(y:DataW H×List MemPlace),fs.toList[i]?=some f->xs[i]?=some y->Typed P d f.type y.1/\ak w (G0 D7) (cz P d f.type y.1) ((cs.drop f.offset).take (P.cellsOf f.type))/\(cz P d f.type y.1).all Qv=true:=fun i f y hf hy=>by
     obtain⟨y1,y2⟩:=y;obtain⟨g1,g2,g3,_⟩:=jk d bz f.type _ y1 y2 (hg i f (y1,y2) hf hy) (bT.2 f (zzac hf));exact⟨g1,g2,g3⟩
    have asK:∀p∈fs.toList.zip (xs.map (·.1)),∃(i:Nat)(f:Field)(y:DataW H×List MemPlace),fs.toList[i]?=some f/\xs[i]?=some y/\p=(f,y.1):=fun p hp=>by
     obtain⟨i,hi⟩:=zzca.1 hp;rw[zzgi]at hi;obtain⟨h1,h2⟩:=hi;simp only[zzbl,zzcd]at h2;obtain⟨y,h2,h3⟩:=h2;exact⟨i,p.1,y,h1,h2,by rw[h3]⟩
    refine⟨?_,?_,?_,aI⟩
    ·simp only[Typed,hu];refine⟨by simpa using hl,fun p hp=>?_⟩;obtain⟨i,f,y,h1,h2,rfl⟩:=asK p hp;exact(Tf i f y h1 h2).1
    ·simp only[cz,hu];have afj:=sy (P:=P) (cs:=cs) fs.toList 0 (P.cellsOf t) (eq_of_beq bT.1) aI.symm (zzcc _);rw[zzdb]at afj
     have:ak w (G0 D7) ((fs.toList.zip (xs.map (·.1))).map fun p=>cz P d p.1.type p.2).flatten (fs.toList.map fun f=>(cs.drop f.offset).take (P.cellsOf f.type)).flatten:=by
      refine CL _ _ (by simp at hl |-;omega) fun i as vs h1 h2=>?_;simp only[zzbl,zzcd]at h1 h2;obtain⟨p,hp,rfl⟩:=h1;obtain⟨f,hf,rfl⟩:=h2;rw[zzgi]at hp;obtain⟨q1,q2⟩:=hp;rw[hf]at q1;simp only[zzbl,zzcd]at q2;obtain⟨y,hy,q2⟩:=q2;rw[<- Option.some.inj q1,<- q2];exact(Tf i f y hf hy).2.1
     rw[afj]at this;rwa [List.flatMap_def]
    simp only[cz,hu,zzbc,List.mem_flatMap];rintro v ⟨p,hp,hv⟩;obtain⟨i,f,y,h1,h2,rfl⟩:=asK p hp;exact zzbc.1 (Tf i f y h1 h2).2.2 v hv
   |array n e=>
    simp only[zzak]at bT;obtain⟨aI,xs,rfl,hm⟩:=trod_array hu h;obtain⟨hl,hg⟩:=Qcs _ _ _ hm;have ez:xs.length=n:=by simpa using hl
    have Tf:∀(i:Nat)(y:DataW H×List MemPlace),xs[i]?=some y->Typed P d e y.1/\ak w (G0 D7) (cz P d e y.1) ((cs.drop (i*P.cellsOf e)).take (P.cellsOf e))/\(cz P d e y.1).all Qv=true:=fun i y hy=>by
     have hi:i<n:=by rw[<- ez];exact(zza.1 hy).1
     obtain⟨y1,y2⟩:=y;obtain⟨g1,g2,g3,_⟩:=jk d bz e _ y1 y2 (hg i i (y1,y2) (by simp[hi]) hy) bT.2;exact⟨g1,g2,g3⟩
    refine⟨?_,?_,?_,aI⟩
    ·simp only[Typed,hu];refine⟨by simpa using ez,fun y hy=>?_⟩;simp only[zzaw]at hy;obtain⟨p,hp,rfl⟩:=hy;obtain⟨i,hi⟩:=zzca.1 hp;exact(Tf i p hi).1
    ·simp only[cz,hu];have afj:=KM (cs:=cs) (k:=P.cellsOf e) n (by rw[aI];exact eq_of_beq bT.1)
     have:ak w (G0 D7) ((xs.map (·.1)).map (cz P d e)).flatten ((List.range n).map fun i=>(cs.drop (i*P.cellsOf e)).take (P.cellsOf e)).flatten:=by
      refine CL _ _ (by simp[ez]) fun i as vs h1 h2=>?_;simp only[zzct,zzbl,zzcd]at h1 h2;obtain⟨y,hy,rfl⟩:=h1;obtain⟨j,hj,rfl⟩:=h2;have hi:i<n:=by rw[<- ez];exact(zza.1 hy).1
      simp[hi]at hj;subst hj;exact(Tf i y hy).2.1
     rw[afj]at this;rwa [List.flatMap_def]
    simp only[cz,hu,zzbc,List.mem_flatMap,zzaw];rintro v ⟨y,⟨p,hp,rfl⟩,hv⟩;obtain⟨i,hi⟩:=zzca.1 hp;exact zzbc.1 (Tf i p hi).2.2 v hv
   |_=>simp at bT
def jm(P:Program)(d:Nat)(t:TypeId)(x:DataW H):AV:=if Uz P t then .agg (cz P d t x)else(cz P d t x).headD .junk
def afk{r:Reach}{b0:Nat}{t:TypeId}{v:Value}(cG:Value.okWide P w r b0 t v)(ha:Uz P t=false)(bT:∃d,XX P d t=true):v.cells.toList=[v]:=by
 unfold Value.okWide at cG;unfold Uz at ha;obtain⟨d,bT⟩:=bT;cases d with
 |zero=>cases bT
 |succ d=>
  unfold XX at bT;cases hu:P.underlying t with
  |none=>simp[hu]at bT
  |some desc=>
   rw[hu]at cG ha bT;cases desc<;>simp at ha bT cG
   all_goals
    unfold Cell.okWide at cG;rw[hu]at cG;cases v<;>first|rfl|(simp[Cell.ok,hu]at cG)
def afl{d:Nat}{r:Reach}{b0:Nat}{t:TypeId}{v:Value}{x:DataW H}{ps:List MemPlace}(bT:XX P d t=true)(cG:Value.okWide P w r b0 t v)(h:DataW.Trod enc P w base sp held t v x ps):
  Typed P d t x/\aB w (G0 D7) (jm P d t x) v:=by
 obtain⟨bz,h⟩:=h;obtain⟨h1,h2,h3,h4⟩:=jk d bz t _ x ps h bT;refine⟨h1,?_⟩;unfold jm;cases ha:Uz P t with
 |true=>
  simp only[if_true];unfold Value.okWide at cG;unfold Uz at ha;split at ha
  ·rename_i hu;rw[hu]at cG;obtain⟨cs,rfl,_⟩:=cG;exact ak.PX h2
  ·rename_i hu;rw[hu]at cG;obtain⟨cs,rfl,_⟩:=cG;exact ak.PX h2
  cases ha
 |false=>
  simp only[zzbq,if_false];rw[afk cG ha ⟨d,bT⟩]at h2;cases hl:cz P d t x with
  |nil=>rw[hl]at h2;have:=h2.1;simp at this
  |cons a l=>rw[hl]at h2;exact h2.2 0 a v rfl rfl
def jo(P:Program)(d:Nat):List TypeId->List (DataW H)->Prop
 |[],[]=>True
 |t::ts,x::xs=>Typed P d t x/\jo P d ts xs
 |_,_=>False
def wq(P:Program)(d:Nat):List TypeId->List (DataW H)->List AV
 |t::ts,x::xs=>jm P d t x::wq P d ts xs
 |_,_=>[]
def Fz{d:Nat}{r:Reach}{b0:Nat}:∀{ts:List TypeId}{vs:List Value}{xs:List (DataW H)}{ps:List MemPlace},(∀t∈ts,XX P d t=true)->(∀(j:Nat)(t:TypeId)(v:Value),ts[j]?=some t->vs[j]?=some v->Value.okWide P w r b0 t v)->
  DataW.TrodAll enc P w base sp held ts vs xs ps->jo P d ts xs/\ak w (G0 D7) (wq P d ts xs) vs
 |[],[],[],_,_,_,_=>⟨trivial,ak.nil⟩
 |[],_::_,_,_,_,_,h=>by cases h
 |[],[],_::_,_,_,_,h=>by cases h
 |_::_,[],_,_,_,_,h=>by cases h
 |_::_,_::_,[],_,_,_,h=>by cases h
 |t::ts,v::vs,x::xs,ps,bT,cG,h=>by
  obtain⟨p,q,h1,h2,_⟩:=h;obtain⟨g1,g2⟩:=afl (bT t (by simp)) (cG 0 t v rfl rfl) h1;obtain⟨k1,k2⟩:=Fz (fun t ht=>bT t (by simp[ht])) (fun j t v h1 h2=>cG (j+1) t v (by simpa using h1) (by simpa using h2)) h2;exact⟨⟨g1,k1⟩,ak.cons g2 k2⟩
def mA{W W':World}(hl:laidOutB P=true)(hb:Below W.heap.size W W'){sp':Nat->Bool}:∀{ts:List TypeId}{vs:List Value}{xs:List (DataW H)}{ps:List MemPlace},(∀t∈ts,P.readableRec t=true/\t<P.types.size)->
  DataW.TrodAll enc P W 0 (fun _=>true) true ts vs xs ps->(∀p∈ps,p.block<W.heap.size/\sp' p.block=true)->DataW.TrodAll enc P W' 0 sp' true ts vs xs ps
 |[],[],[],_,_,h,_=>h
 |[],_::_,_,_,_,h,_=>by cases h
 |[],[],_::_,_,_,h,_=>by cases h
 |_::_,[],_,_,_,h,_=>by cases h
 |_::_,_::_,[],_,_,h,_=>by cases h
 |t::ts,v::vs,x::xs,ps,hr,h,hp=>by
  obtain⟨p,q,h1,h2,rfl⟩:=h;refine⟨p,q,WideElems.Trod_stays hl (hr t (by simp)).1 (hr t (by simp)).2 h1 (fun y hy=>hb.same (hp y (by simp[hy])).1) (fun y hy=>(hp y (by simp[hy])).2),mA hl hb (fun t ht=>hr t (by simp[ht])) h2 fun y hy=>hp y (by simp[hy]),rfl⟩
def oQ{gl:Nat->AV}{fid:FuncId}{fn:Func}{s:ChangeSpec}{bt:TypeId}{d:Nat}(akq:s.vars=[])(am7:fn.resultTypes=#[bt])(hbt:P.underlying bt=some .bool)(hl:laidOutB P=true)
  (hts:(fn.params.toList.all fun t=>XX P d t&&P.readableRec t&&decide (t<P.types.size))=true)(asL:∀ds:List (DataW H),ds.length=fn.params.size->(s.fn H ds).results=[.lit (.bool true)]/\(s.fn H ds).args=ds/\(s.fn H ds).vars=[])
  {W:World}{args:Array Value}{ds gs:List (DataW H)}{before:List MemPlace}{r:Reach}{b0:Nat}(iV:∀g,aB W (G0 D7) (gl g) (.pointer (some ⟨g,0,none⟩)))
  (cG:∀(j:Nat)(t:TypeId)(v:Value),fn.params[j]?=some t->args[j]?=some v->Value.okWide P W r b0 t v)
  (hW:DataW.Whole enc P fn.params.toList s.vars false W args.toList ds gs before)
  (hp:jo P d fn.params.toList ds->Pure P gl fid (wq P d fn.params.toList ds) (.bool true)):
  Calls P fid args W fun e W'=>∃v,e=.returned v/\s.post enc P fn false true false false W args v W':=by
 have hW':=hW;obtain⟨p,q,hA,hV,rfl,hfz,Av⟩:=hW;rw[akq]at hV;obtain⟨rfl,rfl⟩:=ChangeShapes.trodVars_none hV;simp only[zzbc,zzak,decide_eq_true_eq]at hts;obtain⟨h1,h2⟩:=Fz (fun t ht=>(hts t ht).1.1) (fun j t v q1 q2=>cG j t v (by simpa using q1) (by simpa using q2)) hA
 have aI:ds.length=fn.params.size:=by
  have:∀{ts:List TypeId}{vs:List Value}{xs:List (DataW H)}{ps:List MemPlace},DataW.TrodAll enc P W 0 (fun _=>true) true ts vs xs ps->xs.length=ts.length:=by
   intro ts;induction ts with
   |nil=>intro vs xs ps h;cases vs<;>cases xs<;>first|rfl|cases h
   |cons t ts ih=>
    intro vs xs ps h;cases vs<;>cases xs<;>first|(cases h;done)|skip
    obtain⟨_,_,_,h,_⟩:=h;simp[ih h]
  simpa using this hA
 obtain⟨k1,k2,k3⟩:=asL ds aI;have ai:∀x∈p,x.block<W.heap.size:=fun x hx=>hW'.lt x (by simp[hx]);refine((hp h1).2 D7 W args.toList iV h2).mono ?_;rintro e W' ⟨v,rfl,hb,hr⟩;obtain rfl:=hr.bB;refine⟨_,rfl,ds,[],p++[],[],p,[],hW',?_,?_,?_,World.keptBut_mono (fun x hx=>⟨hx,?_⟩) (hb.frame (·∈p++[])),fun h=>by cases h⟩
 ·rw[am7,zzat,k1];exact⟨[],[],shut_bool hbt true,rfl,rfl⟩
 ·rw[zzat,k2];exact mA hl hb (fun t ht=>⟨(hts t ht).1.2,(hts t ht).2⟩) hA fun x hx=>⟨ai x hx,by simpa using ai x hx⟩
 ·rw[akq,zzat,k3];rfl
 simp at hx;exact .inr (.inl hx)
end
open Go
section
variable (P:Program) (gl:Nat->AV) (orc:Nat->FuncId->List AV->AV) (Y:YT) (l2:List SO) (K:AS->Prop) (m:AM) (ms q:List (AV×AM)) (mc:AM) (r:List SO) (fl:List Fg) (T:List AV) (o:SO) (x:AV×AM)
@[simp] def awG:nr P gl orc Y l2 K m ms [] fl q mc T=(q=[]/\Zx P gl orc Y l2 ⟨T,mc⟩ K):=nd (by simp only[nr])
@[simp] def asM:nr P gl orc Y l2 K m ms (o::r) (.eff::fl) (x::q) mc T=(effC P gl orc Y (ev gl T) mc o.dst x.1 x.2 o.op/\nr P gl orc Y l2 K m ms r fl q x.2 (put T o.dst x.1)):=nd (by simp only[nr])
@[simp] def awH:nr P gl orc Y l2 K m ms (o::r) (.pre::fl) q mc T=((rop P gl orc (ev gl T) m o.dst o.op).1/\nr P gl orc Y l2 K m ms r fl q mc (put T o.dst (rop P gl orc (ev gl T) m o.dst o.op).2)):=nd (by simp only[nr])
@[simp] def apE:nr P gl orc Y l2 K m ms (o::r) (.oth::fl) q mc T=((rop P gl orc (ev gl T) m o.dst o.op).1/\(∀x∈ms,rop P gl orc (ev gl T) x.2 o.dst o.op=rop P gl orc (ev gl T) m o.dst o.op)/\nr P gl orc Y l2 K m ms r fl q mc (put T o.dst (rop P gl orc (ev gl T) m o.dst o.op).2)):=nd (by simp only[nr])
def Qay{P:Program}{gl:Nat->AV}{orc:Nat->FuncId->List AV->AV}{Y:YT}{fl:List Fg}{l l2:List SO}{s:AS}{Q:Exit->AS->Prop}(ms:List (AV×AM))(h:nr P gl orc Y l2 (Q .normal) s.m ms l fl ms s.m s.T):vc P gl orc Y (.drawE fl l l2) s Q:=.inr (.inl ⟨ms,h⟩)
variable (R:AV->AM->Prop)
@[simp] def awI:lK P gl orc Y R l2 K m ms [] fl q mc T=(q=[]/\Zx P gl orc Y l2 ⟨T,mc⟩ K):=nd (by simp only[lK])
@[simp] def asN:lK P gl orc Y R l2 K m ms (o::r) (.eff::fl) [x] mc T=(effR P gl Y (ev gl T) mc R o.op/\lK P gl orc Y R l2 K m ms r fl [] x.2 (put T o.dst x.1)):=nd (by simp only[lK];simp)
@[simp] def asO(y:AV×AM):lK P gl orc Y R l2 K m ms (o::r) (.eff::fl) (x::y::q) mc T=(effC P gl orc Y (ev gl T) mc o.dst x.1 x.2 o.op/\lK P gl orc Y R l2 K m ms r fl (y::q) x.2 (put T o.dst x.1)):=nd (by simp only[lK];simp)
@[simp] def awJ:lK P gl orc Y R l2 K m ms (o::r) (.pre::fl) q mc T=((rop P gl orc (ev gl T) m o.dst o.op).1/\lK P gl orc Y R l2 K m ms r fl q mc (put T o.dst (rop P gl orc (ev gl T) m o.dst o.op).2)):=nd (by simp only[lK])
@[simp] def apF:lK P gl orc Y R l2 K m ms (o::r) (.oth::fl) q mc T=((rop P gl orc (ev gl T) m o.dst o.op).1/\(∀x∈ms,rop P gl orc (ev gl T) x.2 o.dst o.op=rop P gl orc (ev gl T) m o.dst o.op)/\lK P gl orc Y R l2 K m ms r fl q mc (put T o.dst (rop P gl orc (ev gl T) m o.dst o.op).2)):=nd (by simp only[lK])
def X1{P:Program}{gl:Nat->AV}{orc:Nat->FuncId->List AV->AV}{Y:YT}{fl:List Fg}{l l2:List SO}{s:AS}{Q:Exit->AS->Prop}(hb:ae1 fl l=true)(ms:List (AV×AM))(R:AV->AM->Prop)(hR:∃x:AV×AM,R x.1 x.2)
  (h:∀v m',R v m'->lK P gl orc Y R l2 (Q .normal) s.m (ms++[(v,m')]) l fl (ms++[(v,m')]) s.m s.T):vc P gl orc Y (.drawE fl l l2) s Q:=.inr (.inr ⟨hb,ms,R,hR,fun x hx=>h x.1 x.2 hx⟩)
def lP(P:Program)(gl:Nat->AV)(orc:Nat->FuncId->List AV->AV)(m:AM):List SO->List Fg->AM->List AV->List (AV×AM)
 |o::r,.eff::fl,mc,T=>(effV (sop P gl orc (ev gl T) mc o.dst o.op).2.1 o.op,(sop P gl orc (ev gl T) mc o.dst o.op).2.2)::lP P gl orc m r fl (sop P gl orc (ev gl T) mc o.dst o.op).2.2 (put T o.dst (effV (sop P gl orc (ev gl T) mc o.dst o.op).2.1 o.op))
 |o::r,.pre::fl,mc,T=>lP P gl orc m r fl mc (put T o.dst (rop P gl orc (ev gl T) m o.dst o.op).2)
 |o::r,.oth::fl,mc,T=>lP P gl orc m r fl mc (put T o.dst (rop P gl orc (ev gl T) m o.dst o.op).2)
 |_,_,_,_=>[]
@[simp] def asP:lP P gl orc m [] fl mc T=[]:=nd (by simp only[lP])
@[simp] def apG:lP P gl orc m (o::r) (.eff::fl) mc T=(effV (sop P gl orc (ev gl T) mc o.dst o.op).2.1 o.op,(sop P gl orc (ev gl T) mc o.dst o.op).2.2)::lP P gl orc m r fl (sop P gl orc (ev gl T) mc o.dst o.op).2.2 (put T o.dst (effV (sop P gl orc (ev gl T) mc o.dst o.op).2.1 o.op)):=nd (by simp only[lP])
@[simp] def asQ:lP P gl orc m (o::r) (.pre::fl) mc T=lP P gl orc m r fl mc (put T o.dst (rop P gl orc (ev gl T) m o.dst o.op).2):=nd (by simp only[lP])
@[simp] def am8:lP P gl orc m (o::r) (.oth::fl) mc T=lP P gl orc m r fl mc (put T o.dst (rop P gl orc (ev gl T) m o.dst o.op).2):=nd (by simp only[lP])
def Xz{P:Program}{gl:Nat->AV}{orc:Nat->FuncId->List AV->AV}{Y:YT}{fl:List Fg}{l l2:List SO}{s:AS}{Q:Exit->AS->Prop}(h:nr P gl orc Y l2 (Q .normal) s.m (lP P gl orc s.m l fl s.m s.T) l fl (lP P gl orc s.m l fl s.m s.T) s.m s.T):vc P gl orc Y (.drawE fl l l2) s Q:=.inr (.inl ⟨_,h⟩)
end
attribute [simp] effC memEff effV effR
end Go.Abs
