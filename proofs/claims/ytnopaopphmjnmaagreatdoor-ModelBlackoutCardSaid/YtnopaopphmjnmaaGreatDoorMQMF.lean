import Derived.Test.YtnopaopphmjnmaaGreatDoorMQME
import Derived.ProofKit
import Derived.OpenShut
import Derived.OpenVars
set_option linter.all false
namespace Go.Abs
open Go Go.RowKit
def nd{α:Type}{a b:α}(h:a=b):a=b:=h
section
variable (P:Program) (gl:Nat->AV) (orc:Nat->FuncId->List AV->AV) (Y:YT) (s:AS) (Q:Exit->AS->Prop)
@[simp] def awh:vc P gl orc Y .skip s Q=Q .normal s:=nd rfl
@[simp] def axn(l:List SO):vc P gl orc Y (.ops l) s Q=Zy P gl orc Y l s (Q .normal):=nd rfl
@[simp] def axo(a b:SC):vc P gl orc Y (.seq a b) s Q=vc P gl orc Y a s (YG (vc P gl orc Y b) Q):=nd rfl
def afo(x:bN)(a b:SC):vc P gl orc Y (.cond x a b) s Q=match ev gl s.T x with|.bool t=>(t=true->vc P gl orc Y a s Q)/\(t=false->vc P gl orc Y b s Q)|_=>False:=nd rfl
@[simp] def ase(x:bN)(a b:SC):vc P gl orc Y (.cond x a b) s Q=match ev gl s.T x with|.bool t=>(if t=true then vc P gl orc Y a s Q else vc P gl orc Y b s Q)|_=>False:=by
 rw[afo];cases ev gl s.T x<;>try rfl
 rename_i t;cases t<;>simp
@[simp] def asf(id:Nat)(c:SC):vc P gl orc Y (.block id c) s Q=vc P gl orc Y c s (rC id Q):=nd rfl
@[simp] def awi(id:Nat):vc P gl orc Y (.exit id) s Q=Q (.exit id) s:=nd rfl
@[simp] def ash(c:SC):vc P gl orc Y (.scope c) s Q=vc P gl orc Y c s (wZ Q):=nd rfl
@[simp] def axp:vc P gl orc Y .ret s Q=Q .ret s:=nd rfl
@[simp] def axq:vc P gl orc Y .bad s Q=False:=nd rfl
def afp{c:SC}(I:AS->Prop)(μ:AS->Nat)(h0:I s)(hr:∀s',I s'->vc P gl orc Y c s' (nJ I μ s' Q)):vc P gl orc Y (.loop c) s Q:=⟨I,μ,h0,hr⟩
variable (k:AS->(Exit->AS->Prop)->Prop) (id id':Nat) (I:AS->Prop) (μ:AS->Nat) (s0:AS)
@[simp] def akc:YG k Q .normal s=k s Q:=nd rfl
@[simp] def apc:YG k Q (.exit id) s=Q (.exit id) s:=nd rfl
@[simp] def asi:YG k Q .ret s=Q .ret s:=nd rfl
@[simp] def acq:rC id Q .normal s=Q .normal s:=nd rfl
@[simp] def akd:rC id Q (.exit id') s=if id'=id then Q .normal s else Q (.exit id') s:=nd rfl
@[simp] def amP:rC id Q .ret s=Q .ret s:=nd rfl
@[simp] def acr:wZ Q .normal s=Q .normal s:=nd rfl
@[simp] def ake:wZ Q (.exit id) s=Q (.exit id) s:=nd rfl
@[simp] def amQ:wZ Q .ret s=Q .ret s:=nd rfl
@[simp] def acs:nJ I μ s0 Q .normal s=(I s/\μ s<μ s0):=nd rfl
@[simp] def akf:nJ I μ s0 Q (.exit id) s=Q (.exit id) s:=nd rfl
@[simp] def amR:nJ I μ s0 Q .ret s=Q .ret s:=nd rfl
end
@[simp] def awj(P:Program)(gl:Nat->AV)(orc:Nat->FuncId->List AV->AV)(Y:YT)(s:AS)(Q:Exit->AS->Prop)(l l2:List SO):vc P gl orc Y (.draw l l2) s Q=vcD P gl orc Y l2 (Q .normal) l s.T s.m []:=nd rfl
def amS(T:List AV)(f:Nat->AV):List Nat->List AV
 |[]=>T
 |i::W=>amS (T.set i (f i)) f W
def Dj(T:List AV)(W:List Nat)(R:(Nat->AV)->AM->Prop)(μ:(Nat->AV)->AM->Nat)(f:Nat->AV)(m:AM)(Q:Exit->AS->Prop):Exit->AS->Prop
 |.normal,s'=>s'.T=amS T (fun i=>s'.T.getD i .junk) W/\R (fun i=>s'.T.getD i .junk) s'.m/\μ (fun i=>s'.T.getD i .junk) s'.m<μ f m
 |ex,s'=>Q ex s'
section
variable (T:List AV) (W:List Nat) (R:(Nat->AV)->AM->Prop) (μ:(Nat->AV)->AM->Nat) (f:Nat->AV) (m:AM) (Q:Exit->AS->Prop) (s:AS) (id:Nat)
@[simp] def YS:Dj T W R μ f m Q .normal s=(s.T=amS T (fun i=>s.T.getD i .junk) W/\R (fun i=>s.T.getD i .junk) s.m/\μ (fun i=>s.T.getD i .junk) s.m<μ f m):=nd rfl
@[simp] def afq:Dj T W R μ f m Q (.exit id) s=Q (.exit id) s:=nd rfl
@[simp] def akg:Dj T W R μ f m Q .ret s=Q .ret s:=nd rfl
end
def nth(l:List AV)(n:Nat):AV:=l.getD n .junk
def Qh(l:List (List AV))(n:Nat):List AV:=l.getD n []
@[simp high] theorem Qbq(l:List AV)(n:Nat):l.getD n .junk=nth l n:=rfl
@[simp high] theorem Vp(l:List (List AV))(n:Nat):l.getD n []=Qh l n:=rfl
@[simp] theorem awk(n:Nat):nth [] n=.junk:=rfl
@[simp] theorem asj(a:AV)(l:List AV):nth (a::l) 0=a:=rfl
@[simp] theorem asl(a:AV)(l:List AV)(n:Nat):nth (a::l) (n+1)=nth l n:=rfl
@[simp] theorem asm(n:Nat):Qh [] n=[]:=rfl
@[simp] theorem apd(a:List AV)(l:List (List AV)):Qh (a::l) 0=a:=rfl
@[simp] theorem ape(a:List AV)(l:List (List AV))(n:Nat):Qh (a::l) (n+1)=Qh l n:=rfl
@[simp] def Gb(l l':List (List AV)):Qh (l++l') l.length=Qh l' 0:=by simp[Qh,zzar,-Vp,zzal]
@[simp] def Vm(l l':List (List AV))(k:Nat):Qh (l++l') (l.length+k)=Qh l' k:=by simp[Qh,zzar,-Vp,zzal]
@[simp] def awl(l l':List (List AV))(x:List AV):(l++l').set l.length x=l++l'.set 0 x:=by simp[zzcu]
@[simp] def akh(l l':List (List AV))(k:Nat)(x:List AV):(l++l').set (l.length+k) x=l++l'.set k x:=by simp[zzcu]
def Qt{l:List (List AV)}{n:Nat}{x:List AV}(h:l[n]?=some x):Qh l n=x:=by simp[Qh,zzar,-Vp,h]
def amT{l:List AV}{n:Nat}{x:AV}(h:l[n]?=some x):nth l n=x:=by simp[nth,zzar,-Qbq,h]
def numOf:AV->Int
 |.int _ n=>n
 |_=>0
@[simp] theorem apf(k:IntKind)(n:Int):numOf (.int k n)=n:=rfl
@[simp] theorem aki:WZ .full=true:=rfl
@[simp] theorem amU:WZ .nil=true:=rfl
@[simp] theorem apg:WZ .ro=false:=rfl
@[simp] theorem aph:WZ .nn=false:=rfl
@[simp] theorem amV(i s:Nat):WZ (.own i s)=false:=rfl
@[simp] theorem amW(sz:Nat)(l:List AV):bh sz 0 l=[]:=rfl
@[simp] theorem xb(sz n:Nat)(l:List AV):bh sz (n+1) l=l.take sz::bh sz n (l.drop sz):=rfl
@[simp] theorem amX:Wp []=some []:=rfl
@[simp] def akj(n:Int)(r:List (List AV)):Wp ([.int .u8 n]::r)=(match Wp r with|some l=>some (UInt8.ofNat n.toNat::l)|_=>none):=by
 simp only[Wp,byteOf];cases Wp r<;>rfl
@[simp] theorem asn(b:Bool):asB (.bool b)=some (true,b):=rfl
@[simp] theorem aso(b:Bool):isB (.bool b)=true:=rfl
@[simp] theorem asp(b:Bool):bOf (.bool b)=b:=rfl
@[simp] theorem awm(a:AV):asB (.gd false a)=some (false,bOf a):=rfl
@[simp] theorem awn(a:AV):asB (.gd true a)=some (isB a,bOf a):=rfl
@[simp] def axr(g b:Bool):asB (.gd g (.bool b))=some (g,b):=by cases g<;>rfl
@[simp] theorem asq(want g:Bool):JH want (.bool g)=some (g==want):=rfl
@[simp] theorem axt(want d b:Bool):JH want (.gd d (.bool b))=some (d&&(b==want)):=rfl
@[simp] def awo(want:Bool)(a:AV):JH want (.gd false a)=some false:=by cases a<;>rfl
@[simp] theorem awp(gl:Nat->AV)(T:List AV)(t:Nat):evS gl T (.tmp t)=strip (nth T t):=rfl
@[simp] theorem api(gl:Nat->AV)(T:List AV)(a:AV):evS gl T (.const a)=strip a:=rfl
@[simp] theorem asr(gl:Nat->AV)(T:List AV)(f:FuncId):evS gl T (.func f)=.fn f [] []:=rfl
@[simp] theorem ass(gl:Nat->AV)(T:List AV)(g:Nat):evS gl T (.glob g)=strip (gl g):=rfl
section
variable (P:Program) (gl:Nat->AV) (orc:Nat->FuncId->List AV->AV) (Y:YT) (K:AS->Prop) (r:List SO) (T:List AV) (m:AM) (d:Option Nat) (op:aF) (xs:List bN) (s:AS)
@[simp] def apj:Zy P gl orc Y [] s K=K s:=nd rfl
@[simp] def amY:Zy P gl orc Y (⟨d,op,none,xs⟩::r) s K=(if effy orc (ev gl s.T) s.m d op=true then Qcc P gl Y (ev gl s.T) s.m (fun av m'=>Zy P gl orc Y r ⟨put s.T d av,m'⟩ K) op
   else(sop P gl orc (ev gl s.T) s.m d op).1/\Zy P gl orc Y r ⟨put s.T d (sop P gl orc (ev gl s.T) s.m d op).2.1,(sop P gl orc (ev gl s.T) s.m d op).2.2⟩ K):=nd rfl
@[simp] def amZ(t:Nat)(want:Bool):Zy P gl orc Y (⟨d,op,some (some t,want),xs⟩::r) s K=(match JH want (s.T.getD t .junk)with
   |some gw=>gok gl s.T gw (gxs op xs)/\
     if effy orc (evG gl s.T op) s.m d op=true then
      (gw=true->Qcc P gl Y (evG gl s.T op) s.m (fun av m'=>Zy P gl orc Y r ⟨put s.T d (.gd true av),m'⟩ K) op)/\(gw=false->Zy P gl orc Y r ⟨put s.T d (.gd false (.bool false)),s.m⟩ K)
     else(gw=true->(rop P gl orc (evG gl s.T op) s.m d op).1)/\
      Zy P gl orc Y r ⟨put s.T d (.gd gw (rop P gl orc (evG gl s.T op) s.m d op).2),s.m⟩ K
   |none=>False):=nd rfl
variable (l2:List SO) (nb:List (List AV)) (o:SO)
@[simp] def awq:vcD P gl orc Y l2 K [] T m nb=Zy P gl orc Y l2 ⟨T,{m with boxes:=m.boxes++nb}⟩ K:=nd rfl
@[simp] def ast:vcD P gl orc Y l2 K (o::r) T m nb=((dop P gl orc o T m nb).1/\vcD P gl orc Y l2 K r (put T o.dst (dop P gl orc o T m nb).2.1) m (dop P gl orc o T m nb).2.2):=nd rfl
end
attribute [simp] rawOp evG gxs effy Qcc callV dop ev Ky oneOf strip gok setA fillA sop rop binV binI binS binBool Yd kindF eqF Qcx eqFs loOf hiOf lenS cellsS mutO vcNxt keyA intsA keyAV
def rE(n:Nat)(a:AV):bK n [a]=List.replicate n a:=by
 induction n with
 |zero=>rfl
 |succ n ih=>rw[bK,ih];rfl
@[simp] theorem akk(P:Program)(gl:Nat->AV)(orc:Nat->FuncId->List AV->AV)(rs:List aF)(r:AV)(s:AS):post P gl orc rs r .normal s=((Ky P gl orc s rs).1/\bJ s.m 6 (oneOf (Ky P gl orc s rs).2)=r):=rfl
@[simp] theorem asu(P:Program)(gl:Nat->AV)(orc:Nat->FuncId->List AV->AV)(rs:List aF)(r:AV)(s:AS):post P gl orc rs r .ret s=((Ky P gl orc s rs).1/\bJ s.m 6 (oneOf (Ky P gl orc s rs).2)=r):=rfl
@[simp] theorem afr(P:Program)(gl:Nat->AV)(orc:Nat->FuncId->List AV->AV)(rs:List aF)(K:AV->AM->Prop)(s:AS):w9 P gl orc rs K .normal s=((Ky P gl orc s rs).1/\K (oneOf (Ky P gl orc s rs).2) s.m):=rfl
@[simp] theorem apk(P:Program)(gl:Nat->AV)(orc:Nat->FuncId->List AV->AV)(rs:List aF)(K:AV->AM->Prop)(s:AS):w9 P gl orc rs K .ret s=((Ky P gl orc s rs).1/\K (oneOf (Ky P gl orc s rs).2) s.m):=rfl
section
variable (m:AM) (d:Nat)
@[simp] theorem akl(b:Bool):Qw (.bool b)=true:=rfl
@[simp] theorem am0(k:IntKind)(n:Int):Qw (.int k n)=true:=rfl
@[simp] theorem am1(s:ByteArray):Qw (.str s)=true:=rfl
@[simp] theorem apl(rt:Rt)(r:List (List AV)):Qw (.sl rt r)=true:=rfl
@[simp] theorem apm(r:List AV)(o:Nat):Qw (.ep r o)=true:=rfl
@[simp] theorem am2(i o:Nat):Qw (.ptr i o)=true:=rfl
@[simp] theorem apn(i o n z:Nat):Qw (.bs i o n z)=true:=rfl
@[simp] theorem apo(f:FuncId)(a b:List AV):Qw (.fn f a b)=true:=rfl
@[simp] theorem akm(p:Bool):Qw (.nilv p)=true:=rfl
@[simp] theorem afs:Qw .nilfn=true:=rfl
@[simp] theorem am3(l:Nat):Qw (.yld l)=true:=rfl
@[simp] theorem apq(i:Nat):Qw (.mp i)=true:=rfl
@[simp] theorem apr(i:Nat):Qw (.it i)=true:=rfl
@[simp] theorem akn(k:Nat)(l:List (List Int×AV)):Qw (.aL k l)=false:=rfl
@[simp] theorem ako(i n:Nat)(l:List Nat):Qw (.mitr i n l)=false:=rfl
@[simp] theorem akp:Qw .junk=false:=rfl
@[simp] theorem am4(cs:List AV):Qw (.agg cs)=false:=rfl
@[simp] theorem am5(cs:List AV):Qw (.aZ cs)=false:=rfl
@[simp] theorem aps(g:Bool)(a:AV):Qw (.gd g a)=false:=rfl
@[simp] theorem apt(b:Bool):bare (.bool b)=true:=rfl
@[simp] theorem asv(k:IntKind)(n:Int):bare (.int k n)=true:=rfl
@[simp] theorem asw(s:ByteArray):bare (.str s)=true:=rfl
@[simp] theorem awr(rt:Rt)(r:List (List AV)):bare (.sl rt r)=true:=rfl
@[simp] theorem aws(r:List AV)(o:Nat):bare (.ep r o)=true:=rfl
@[simp] theorem asx(i o:Nat):bare (.ptr i o)=true:=rfl
@[simp] theorem awt(i o n z:Nat):bare (.bs i o n z)=true:=rfl
@[simp] theorem awu(f:FuncId)(a b:List AV):bare (.fn f a b)=true:=rfl
@[simp] theorem apu(p:Bool):bare (.nilv p)=true:=rfl
@[simp] theorem am6:bare .nilfn=true:=rfl
@[simp] theorem asy(l:Nat):bare (.yld l)=true:=rfl
@[simp] theorem awv(i:Nat):bare (.mp i)=true:=rfl
@[simp] theorem aww(i:Nat):bare (.it i)=true:=rfl
@[simp] theorem apv(k:Nat)(l:List (List Int×AV)):bare (.aL k l)=false:=rfl
@[simp] theorem apw(i n:Nat)(l:List Nat):bare (.mitr i n l)=false:=rfl
@[simp] theorem asz(cs:List AV):bare (.agg cs)=true:=rfl
@[simp] theorem apx:bare .junk=false:=rfl
@[simp] theorem asA(cs:List AV):bare (.aZ cs)=false:=rfl
@[simp] theorem awx(g:Bool)(a:AV):bare (.gd g a)=false:=rfl
@[simp] theorem aft(b:Bool):cellsOf (.bool b)=[.bool b]:=rfl
@[simp] theorem akq(k:IntKind)(n:Int):cellsOf (.int k n)=[.int k n]:=rfl
@[simp] theorem akr(s:ByteArray):cellsOf (.str s)=[.str s]:=rfl
@[simp] theorem am7(rt:Rt)(r:List (List AV)):cellsOf (.sl rt r)=[.sl rt r]:=rfl
@[simp] theorem am8(r:List AV)(o:Nat):cellsOf (.ep r o)=[.ep r o]:=rfl
@[simp] theorem aks(i o:Nat):cellsOf (.ptr i o)=[.ptr i o]:=rfl
@[simp] theorem am9(i o n z:Nat):cellsOf (.bs i o n z)=[.bs i o n z]:=rfl
@[simp] theorem ana(f:FuncId)(a b:List AV):cellsOf (.fn f a b)=[.fn f a b]:=rfl
@[simp] theorem afu(p:Bool):cellsOf (.nilv p)=[.nilv p]:=rfl
@[simp] theorem acu:cellsOf .nilfn=[.nilfn]:=rfl
@[simp] theorem akt(l:Nat):cellsOf (.yld l)=[.yld l]:=rfl
@[simp] theorem anb(i:Nat):cellsOf (.mp i)=[.mp i]:=rfl
@[simp] theorem anc(i:Nat):cellsOf (.it i)=[.it i]:=rfl
@[simp] theorem aku(cs:List AV):cellsOf (.agg cs)=cs:=rfl
@[simp] theorem asC(b:Bool):bJ m (d+1) (.bool b)=.bool b:=rfl
@[simp] theorem awy(k:IntKind)(n:Int):bJ m (d+1) (.int k n)=.int k n:=rfl
@[simp] theorem awz(s:ByteArray):bJ m (d+1) (.str s)=.str s:=rfl
@[simp] theorem asD(p:Bool):bJ m (d+1) (.nilv p)=.nilv p:=rfl
@[simp] theorem apy:bJ m (d+1) .nilfn=.nilfn:=rfl
@[simp] theorem awA(l:Nat):bJ m (d+1) (.yld l)=.junk:=rfl
@[simp] theorem axu(i:Nat):bJ m (d+1) (.mp i)=.junk:=rfl
@[simp] theorem axv(i:Nat):bJ m (d+1) (.it i)=.junk:=rfl
@[simp] theorem asE:bJ m (d+1) .junk=.junk:=rfl
@[simp] theorem awB(cs:List AV):bJ m (d+1) (.agg cs)=.agg (cs.map (bJ m d)):=rfl
@[simp] theorem awC(cs:List AV):bJ m (d+1) (.aZ cs)=.aZ (cs.map (bJ m d)):=rfl
@[simp] theorem axw(f:FuncId)(a b:List AV):bJ m (d+1) (.fn f a b)=.fn f (a.map (bJ m d)) (b.map (bJ m d)):=rfl
@[simp] theorem axx(r:List (List AV)):bJ m (d+1) (.sl .ro r)=.sl .ro r:=rfl
@[simp] theorem asF(r:List (List AV)):bJ m (d+1) (.sl .full r)=.sl .full r:=rfl
@[simp] theorem awD(r:List (List AV)):bJ m (d+1) (.sl .nil r)=.sl .nil r:=rfl
@[simp] theorem axy(r:List (List AV)):bJ m (d+1) (.sl .nn r)=.sl .nn r:=rfl
@[simp] theorem awE(i s:Nat)(r:List (List AV)):bJ m (d+1) (.sl (.own i s) r)=.sl .ro r:=rfl
@[simp] theorem axz(r:List AV)(o:Nat):bJ m (d+1) (.ep r o)=.ep r o:=rfl
@[simp] def YU(i o n z:Nat):bJ m (d+1) (.bs i o n z)=if o+n*z<=(m.boxes.getD i []).length then .sl .ro (bh z n (((m.boxes.getD i []).map (bJ m d)).drop o))else .junk:=by
 simp only[bJ];cases h:Nat.ble (o+n*z) (m.boxes.getD i []).length with
 |true=>rw[if_pos (zzhn h)];rfl
 |false=>rw[if_neg (fun h'=>by rw[Nat.ble_eq_true_of_le h']at h;cases h)];rfl
@[simp] theorem pH(i o:Nat):bJ m (d+1) (.ptr i o)=.ep ((m.boxes.getD i []).map (bJ m d)) o:=rfl
@[simp] theorem apz(b:Bool):Yl (d+1) (.bool b)=false:=rfl
@[simp] theorem asG(k:IntKind)(n:Int):Yl (d+1) (.int k n)=false:=rfl
@[simp] theorem asH(s:ByteArray):Yl (d+1) (.str s)=false:=rfl
@[simp] theorem apA(p:Bool):Yl (d+1) (.nilv p)=false:=rfl
@[simp] theorem ane:Yl (d+1) .nilfn=false:=rfl
@[simp] theorem asI(l:Nat):Yl (d+1) (.yld l)=false:=rfl
@[simp] theorem awF(i:Nat):Yl (d+1) (.mp i)=false:=rfl
@[simp] theorem awG(i:Nat):Yl (d+1) (.it i)=false:=rfl
@[simp] theorem apB:Yl (d+1) .junk=false:=rfl
@[simp] theorem asJ(cs:List AV):Yl (d+1) (.agg cs)=cs.any (Yl d):=rfl
@[simp] theorem asK(cs:List AV):Yl (d+1) (.aZ cs)=cs.any (Yl d):=rfl
@[simp] theorem awH(f:FuncId)(a b:List AV):Yl (d+1) (.fn f a b)=(a.any (Yl d)||b.any (Yl d)):=rfl
@[simp] theorem awI(rt:Rt)(r:List (List AV)):Yl (d+1) (.sl rt r)=false:=rfl
@[simp] theorem awJ(r:List AV)(o:Nat):Yl (d+1) (.ep r o)=false:=rfl
@[simp] theorem awK(i o n z:Nat):Yl (d+1) (.bs i o n z)=true:=rfl
@[simp] theorem asL(i o:Nat):Yl (d+1) (.ptr i o)=true:=rfl
@[simp] theorem apC(b:Bool):flat (.bool b)=true:=rfl
@[simp] theorem asM(k:IntKind)(n:Int):flat (.int k n)=true:=rfl
@[simp] theorem asN(s:ByteArray):flat (.str s)=true:=rfl
@[simp] theorem anf(b:Bool):jf (.bool b)=true:=rfl
@[simp] theorem apD(k:IntKind)(n:Int):jf (.int k n)=true:=rfl
@[simp] theorem apE(s:ByteArray):jf (.str s)=true:=rfl
@[simp] theorem asO(cs:List AV):flat (.aZ cs)=cs.all jf:=rfl
end
def Gd:AV->Bool
 |.bool _|.int _ _|.str _|.sl .ro _|.sl .full _|.sl .nil _|.sl .nn _|.nilfn|.ep _ _=>true
 |_=>false
@[simp] theorem asP(b:Bool):Gd (.bool b)=true:=rfl
@[simp] theorem awL(k:IntKind)(n:Int):Gd (.int k n)=true:=rfl
@[simp] theorem awM(s:ByteArray):Gd (.str s)=true:=rfl
@[simp] theorem axA(r:List (List AV)):Gd (.sl .ro r)=true:=rfl
@[simp] theorem asQ(r:List (List AV)):Gd (.sl .full r)=true:=rfl
@[simp] theorem awN(r:List (List AV)):Gd (.sl .nil r)=true:=rfl
@[simp] theorem axB(r:List (List AV)):Gd (.sl .nn r)=true:=rfl
@[simp] theorem axC(r:List AV)(o:Nat):Gd (.ep r o)=true:=rfl
def OT(m:AM)(d:Nat){a:AV}(h:Gd a=true):bJ m (d+1) a=a:=by
 cases a<;>simp[Gd]at h |-
 rename_i rt rows;cases rt<;>simp at h |-
def Zj(row:List AV):Bool:=row.all Gd
def Zp(m:AM)(d:Nat){row:List AV}(h:Zj row=true):row.map (bJ m (d+1))=row:=by
 have:row.map (bJ m (d+1))=row.map id:=zzda fun a ha=>OT m d (zzbh.1 h a ha);rw[this,List.map_id]
def Qj{n:Int}(h1: -9223372036854775808<=n)(h2:n<=9223372036854775807):IntKind.i64.wrap n=n:=by
 rw[IntKind.wrap_i64];omega
def bM(i:Nat)(h:i<1000000000000000000):IntKind.i64.wrap ((i:Int)+1)=((i+1:Nat):Int):=by rw[Qj]<;>omega
def aU{α:Type}{l:List α}{i:Nat}(h:i<l.length):∃x,l[i]?=some x:=⟨_,zzae h⟩
@[simp] theorem Ui(m:AM)(l:Nat)(x:LS):(m.at_ l x).boxes=m.boxes:=rfl
@[simp] theorem Dk(m:AM)(l:Nat)(x:LS):(m.at_ l x).lens=m.lens:=rfl
@[simp] theorem akv(m:AM)(l:Nat)(x:LS):(m.at_ l x).st=qE m.st l x:=rfl
@[simp] def azo(m:AM)(l:Nat)(x y:LS):(m.at_ l x).at_ l y=m.at_ l y:=by
 simp only[AM.at_];congr 1;funext i;simp only[qE];split<;>rfl
@[simp] def asR(st:Nat->LS)(l:Nat)(x:LS):qE st l x l=x:=by simp[qE]
@[simp] def awO(st:Nat->LS)(l:Nat)(x y:LS):qE (qE st l x) l y=qE st l y:=by funext i;simp only[qE];split<;>rfl
def fR(m m':AM):Prop:=(∃bx,m'.boxes=m.boxes++bx)/\(∃lx,m'.lens=m.lens++lx)/\∀l,m.st l≠.gone->m'.st l=m.st l
def fR.refl(m:AM):fR m m:=⟨⟨[],zd⟩,⟨[],zd⟩,fun _ _=>rfl⟩
def fR.trans{m m' lU:AM}(h:fR m m')(k:fR m' lU):fR m lU:=by
 obtain⟨⟨b,h1⟩,⟨c,h2⟩,h3⟩:=h;obtain⟨⟨b',k1⟩,⟨c',k2⟩,k3⟩:=k;exact⟨⟨b++b',by rw[k1,h1,zzb]⟩,⟨c++c',by rw[k2,h2,zzb]⟩,fun l hl=>by rw[k3 l (by rw[h3 l hl];exact hl),h3 l hl]⟩
def fR.box(m:AM)(b:List (List AV)):fR m {m with boxes:=m.boxes++b}:=⟨⟨b,rfl⟩,⟨[],zd⟩,fun _ _=>rfl⟩
def fR.gone{m m':AM}(h:fR m m')(l:Nat):fR (m.at_ l .gone) (m'.at_ l .gone):=
 ⟨h.1,h.2.1,fun l' eM=>by
  by_cases e:l'=l
  ·subst e;simp at eM
  simp only[akv,qE,e,if_false]at eM |-;exact h.2.2 l' eM⟩
def xd(y:List AV->AM->(Bool->AM->Prop)->Prop)(K:AM->Prop):List (List AV)->AM->Prop
 |[],m=>∀m',fR m m'->K m'
 |x::xs,m=>∀m',fR m m'->∀K':Bool->AM->Prop,(∀lU,xd y K xs lU->K' true lU)->(∀lU,(∀m3,fR lU m3->K m3)->K' false lU)->y x m' K'
def xd.ext{y:List AV->AM->(Bool->AM->Prop)->Prop}{K:AM->Prop}{xs:List (List AV)}{m m':AM}(h:xd y K xs m)(e:fR m m'):xd y K xs m':=by
 cases xs with
 |nil=>exact fun m2 e2=>h m2 (e.trans e2)
 |cons x xs=>exact fun m2 e2=>h m2 (e.trans e2)
def Iter(P:Program)(gl:Nat->AV)(f:FuncId)(first cap:List AV)(xs:List (List AV)):Prop:=
 ∀(Y:YT)(l:Nat)(m:AM)(K:AM->Prop),xd (Y l) K xs m->an P gl Y f (first++[.yld l]++cap) m fun _ m'=>K m'
def jK{P:Program}{gl:Nat->AV}{orc:Nat->FuncId->List AV->AV}{Y:YT}{s:AS}{Q:Exit->AS->Prop}{g:bN}{ps:List Nat}{lV body:SC}{f:FuncId}{first cap:List AV}{xs:List (List AV)}
  (hg:ev gl s.T g=.fn f first cap)(cp:Iter P gl f first cap xs)(aH:∀x∈xs,x.length=ps.length)(I:Nat->AM->Prop)(X:Exit->AM->Prop)(h0:I 0 s.m)
  (hI:∀i m m',I i m->fR m m'->I i m')(hX:∀ex m m',X ex m->fR m m'->X ex m')
  (
   hb:∀(l i:Nat)(m:AM)(x:List AV),s.m.st l=.gone->m.st l=.ready->I i (m.at_ l .gone)->xs[i]?=some x->∀K':Exit->AS->Prop,
   (∀s',I (i+1) (s'.m.at_ l .gone)->K' .normal s')->(∀s',X .ret (s'.m.at_ l .gone)->K' .ret s')->(∀id s',X (.exit id) (s'.m.at_ l .gone)->K' (.exit id) s')->
   vc P gl orc Y lV ⟨Qas s.T ps x,m⟩ (F5 l fun s'=>vc P gl orc Y body s' K'))
  (Lo:∀m,I xs.length m->Q .normal ⟨s.T,m⟩)(hex:∀ex m,X ex m->Q ex ⟨s.T,m⟩):vc P gl orc Y (.rfunc g ps lV body) s Q:=by
 simp only[vc,hg];intro hl;generalize dy:s.m.ln=l at hl;refine cp _ l s.m.bu (fun m'=>zS l s.T m' Q (m'.st l)) ?_;have fL:∀{m m':AM},m.st l=.ready->fR m m'->m'.st l=.ready:=fun h e=>by rw[e.2.2 l (by rw[h];simp),h]
 have key:∀(n i:Nat)(m:AM),i+n=xs.length->I i (m.at_ l .gone)->m.st l=.ready->xd (Yin Y l ps.length (fun args m K=>vc P gl orc Y lV ⟨Qas s.T ps args,m⟩ (F5 l fun s'=>vc P gl orc Y body s' (Ll l K))) l) (fun m'=>zS l s.T m' Q (m'.st l)) (xs.drop i) m:=by
  intro n;induction n with
  |zero=>
   intro i m hi YV hm;rw[zzan zE];intro m' e;simp only[fL hm e,zS];obtain rfl:i=xs.length:=zE
   exact Lo _ (hI _ _ _ YV (e.gone l))
  |succ n ih=>
   intro i m hi YV hm;have ai:i<xs.length:=zE
   rw[zzaf ai];intro m' e K' hT hF;simp only[Yin,if_true];refine⟨fL hm e,aH _ (zzdk ai),?_⟩;refine hb l i m' xs[i] hl (fL hm e) (hI _ _ _ YV (e.gone l)) (zzae ai) (Ll l K') (fun s' gX=>?_) (fun s' hQ=>?_) fun id s' hQ=>?_
   ·refine hT _ (ih (i+1) _ zE ?_ zd);simpa using gX
   ·refine hF _ fun m3 e3=>?_;have h3:m3.st l=.done .ret:=by have:=e3.2.2 l zd;simpa using this
    simp only[h3];exact hex _ _ (hX _ _ _ hQ (by have:=e3.gone l;simpa using this))
   refine hF _ fun m3 e3=>?_;have h3:m3.st l=.done (.exit id):=by have:=e3.2.2 l zd;simpa using this
   simp only[h3];exact hex _ _ (hX _ _ _ hQ (by have:=e3.gone l;simpa using this))
 have:=key xs.length 0 s.m.bu zd (hI 0 s.m _ h0 ⟨⟨[],by simp[AM.bu]⟩,⟨[],by simp[AM.bu]⟩,fun l' eM=>by
  have:l'≠l:=by rintro rfl;exact eM hl
  simp[AM.bu,dy,qE,this]⟩) (by simp[AM.bu,dy])
 simpa using this
attribute [simp] Qas
section
variable (l:Nat) (k:AS->Prop) (s:AS) (id:Nat)
@[simp] def akw:F5 l k .normal s=(s.m.st l=.ready/\k ⟨s.T,s.m.at_ l .busy⟩):=nd rfl
end
open Go Go.RowKit
def look:List (Nat×AV)->Nat->AV
 |[],_=>.junk
 |(d,v)::r,t=>if d=t then v else look r t
def Xv(n:Nat)(E:List (Nat×AV)):List AV:=(List.range n).map (look E)
def sM:Nat->List AV->List (Nat×AV)
 |_,[]=>[]
 |i,a::r=>(i,a)::sM (i+1) r
@[simp] theorem Kh(d:Nat)(v:AV)(r:List (Nat×AV))(t:Nat):look ((d,v)::r) t=if d=t then v else look r t:=rfl
@[simp] theorem look_nil(t:Nat):look [] t=.junk:=rfl
@[simp] theorem apF(i:Nat):sM i []=[]:=rfl
@[simp] theorem Lp(i:Nat)(a:AV)(r:List AV):sM i (a::r)=(i,a)::sM (i+1) r:=rfl
@[simp] def afv{n t:Nat}{E:List (Nat×AV)}(h:t<n):nth (Xv n E) t=look E t:=by
 simp[nth,Xv,zzar,-Qbq,h]
def Zn{n d:Nat}{E:List (Nat×AV)}(h:d<n)(v:AV):(Xv n E).set d v=Xv n ((d,v)::E):=by
 apply zzeh (by simp[Xv]);intro i h1 h2;rw[List.getElem_set];simp[Xv]
@[simp] def awP{n d:Nat}{E:List (Nat×AV)}(h:d<n)(v:AV):put (Xv n E) (some d) v=Xv n ((d,v)::E):=Zn h v
@[simp] theorem asS(T:List AV)(v:AV):put T none v=T:=rfl
@[simp] def apG{n d:Nat}{E:List (Nat×AV)}(h:d<n)(ps:List Nat)(x:AV)(xs:List AV):Qas (Xv n E) (d::ps) (x::xs)=Qas (Xv n ((d,x)::E)) ps xs:=by
 rw[Qas,Zn h]
def xe:∀(l:List AV)(i t:Nat),look (sM i l) t=if i<=t then l.getD (t-i) .junk else .junk
 |[],i,t=>by simp[-Qbq]
 |a::r,i,t=>by
  rw[Lp,Kh,xe r (i+1) t];by_cases h:i=t
  ·subst h;simp[-Qbq]
  rw[if_neg h];by_cases h':i<=t
  ·rw[if_pos zE,if_pos h',show t-i=(t-(i+1))+1 by omega];simp[-Qbq]
  rw[if_neg zE,if_neg h']
def Bh{n:Nat}{l:List AV}(h:l.length<=n):l++List.replicate (n-l.length) .junk=Xv n (sM 0 l):=by
 apply zzeh
 ·simp[Xv];omega
 intro i h1 h2;simp only[Xv,List.getElem_map,List.getElem_range,xe,zzbt,if_true,zzfm];rw[List.getElem_append];split
 ·rename_i hi;simp[zzar,-Qbq,hi]
 rename_i hi;simp[zzar,-Qbq,hi]
section
variable {P:Program} {gl:Nat->AV} {Y:YT}
def Qo{f:FuncId}{sc:SC}{rs:List aF}{n:Nat}(hc:dz P f sc rs n)(orc:Nat->FuncId->List AV->AV){l:List AV}{r:AV}(hn:l.length<=n)
  (h:vc P gl orc Y0 sc ⟨Xv n (sM 0 l),⟨[],[],fun _=>.gone,0⟩⟩ (post P gl orc rs r)):Pure P gl f l r:=afn hc orc (by rw[Bh hn];exact h)
def Xd{f:FuncId}{sc:SC}{rs:List aF}{n:Nat}(hc:dz P f sc rs n)(orc:Nat->FuncId->List AV->AV){l:List AV}{m:AM}{K:AV->AM->Prop}(hn:l.length<=n)
  (h:vc P gl orc Y sc ⟨Xv n (sM 0 l),m⟩ (w9 P gl orc rs K)):an P gl Y f l m K:=YR hc orc (by rw[Bh hn];exact h)
end
def eS(W:List Nat)(E' E:List (Nat×AV)):Prop:=∀t,W.contains t=false->look E' t=look E t
def Qc(W:List Nat)(E:List (Nat×AV)):eS W E E:=fun _ _=>rfl
def Qb{W:List Nat}{E' E:List (Nat×AV)}{k:Nat}(v:AV)(hk:W.contains k=true)(h:eS W E' E):eS W ((k,v)::E') E:=fun t ht=>by
 rw[Kh,if_neg (by rintro rfl;rw[hk]at ht;cases ht)];exact h t ht
def lu(n:Nat)(E:List (Nat×AV))(W:List Nat)(R:(Nat->AV)->AM->Prop)(μ:(Nat->AV)->AM->Nat)(f:Nat->AV)(m:AM)(Q:Exit->AS->Prop):Exit->AS->Prop
 |.normal,s'=>(∃E',s'.T=Xv n E'/\eS W E' E)/\R (nth s'.T) s'.m/\μ (nth s'.T) s'.m<μ f m
 |ex,s'=>Q ex s'
def Qcp(f:Nat->AV):List Nat->List (Nat×AV)->List (Nat×AV)
 |[],E=>E
 |i::W,E=>(i,f i)::Qcp f W E
@[simp] theorem ang(f:Nat->AV)(E:List (Nat×AV)):Qcp f [] E=E:=rfl
@[simp] theorem Ge(f:Nat->AV)(i:Nat)(W:List Nat)(E:List (Nat×AV)):Qcp f (i::W) E=(i,f i)::Qcp f W E:=rfl
def jL(f:Nat->AV)(E:List (Nat×AV))(t:Nat):∀W,look (Qcp f W E) t=if W.contains t then f t else look E t
 |[]=>zd
 |i::W=>by
  rw[Ge,Kh,jL f E t W];by_cases h:i=t
  ·subst h;simp
  have h':t≠i:=Ne.symm h;simp[h,h']
def Dl(f:Nat->AV)(W:List Nat)(E:List (Nat×AV)):eS W (Qcp f W E) E:=fun t ht=>by rw[jL,ht];rfl
def afw{n:Nat}{E E':List (Nat×AV)}(h:∀t,t<n->look E t=look E' t):Xv n E=Xv n E':=zzda fun t ht=>h t (zzbb.1 ht)
def Bi{n:Nat}{W:List Nat}{E:List (Nat×AV)}{T:List AV}:(∃E',T=Xv n E'/\eS W E' E)<->T=Xv n (Qcp (nth T) W E):=by
 constructor
 ·rintro⟨E',rfl,h⟩;refine afw fun t ht=>?_;rw[jL];cases hc:W.contains t with
  |true=>simp only[if_true];rw[afv ht]
  |false=>simp only[zzbp,if_false];exact h t hc
 exact fun h=>⟨_,h,Dl _ _ _⟩
def Qk{P:Program}{gl:Nat->AV}{orc:Nat->FuncId->List AV->AV}{Y:YT}{n:Nat}{E:List (Nat×AV)}{m0:AM}{Q:Exit->AS->Prop}{c:SC}(W:List Nat)(R:(Nat->AV)->AM->Prop)(μ:(Nat->AV)->AM->Nat)
  (h0:R (nth (Xv n E)) m0)(hr:∀f m,R f m->vc P gl orc Y c ⟨Xv n (Qcp f W E),m⟩ (lu n E W R μ f m Q)):vc P gl orc Y (.loop c) ⟨Xv n E,m0⟩ Q:=by
 refine afp P gl orc Y ⟨Xv n E,m0⟩ Q (fun s'=>s'.T=Xv n (Qcp (nth s'.T) W E)/\R (nth s'.T) s'.m) (fun s'=>μ (nth s'.T) s'.m) ⟨Bi.1 ⟨E,rfl,Qc _ _⟩,h0⟩ ?_;rintro⟨T',m'⟩ ⟨h1,h2⟩;have:=hr _ m' h2;rw[<- h1]at this
 have e:lu n E W R μ (nth T') m' Q=nJ (fun s'=>s'.T=Xv n (Qcp (nth s'.T) W E)/\R (nth s'.T) s'.m) (fun s'=>μ (nth s'.T) s'.m) ⟨T',m'⟩ Q:=by
  funext ex s';cases ex<;>simp[lu,nJ,and_assoc,Bi]
 rwa [e]at this
section
variable (n:Nat) (E:List (Nat×AV)) (W:List Nat) (R:(Nat->AV)->AM->Prop) (μ:(Nat->AV)->AM->Nat) (f:Nat->AV) (m:AM) (Q:Exit->AS->Prop) (s:AS) (id:Nat)
@[simp] theorem YW:lu n E W R μ f m Q .normal s=((∃E',s.T=Xv n E'/\eS W E' E)/\R (nth s.T) s.m/\μ (nth s.T) s.m<μ f m):=rfl
@[simp] theorem afx:lu n E W R μ f m Q (.exit id) s=Q (.exit id) s:=rfl
@[simp] theorem akx:lu n E W R μ f m Q .ret s=Q .ret s:=rfl
end
def ag{n:Nat}{E' E:List (Nat×AV)}{W:List Nat}(h:eS W E' E):∃E1,Xv n E'=Xv n E1/\eS W E1 E:=⟨E',rfl,h⟩
def aP{n:Nat}{E' E:List (Nat×AV)}{W:List Nat}(h:eS W E' E:=by repeat(first|exact Qc _ _|refine Qb _ rfl ?_)):∃E1,Xv n E'=Xv n E1/\eS W E1 E:=ag h
open Go Go.RowKit
def jM(P:Program):List Field->Nat->Option Nat
 |[],n=>some n
 |f::r,n=>if f.offset=n then jM P r (n+P.cellsOf f.type)else none
def YX(P:Program):Nat->TypeId->Bool
 |0,_=>false
 |d+1,t=>match P.underlying t with
  |some .bool|some (.int _)|some .string=>P.cellsOf t==1
  |some (.slice e)=>((P.cellsOf t==1)&&!(P.cellsOf e==0))&&YX P d e
  |some (.struct fs)=>(jM P fs.toList 0==some (P.cellsOf t))&&fs.toList.all fun f=>YX P d f.type
  |some (.array n e)=>(P.cellsOf t==n*P.cellsOf e)&&YX P d e
  |_=>false
def cE{H:Type}(P:Program):Nat->TypeId->DataW H->List AV
 |0,_,_=>[]
 |d+1,t,x=>match P.underlying t,x with
  |some .bool,.lit (.bool b)=>[.bool b]
  |some (.int _),.lit (.int k n)=>[.int k n]
  |some .string,.lit (.string s)=>[.str ⟨s.toArray⟩]
  |some (.slice _),.nil=>[.sl .nil []]
  |some (.slice e),.slice bP _=>[.sl .nn (bP.map (cE P d e))]
  |some (.struct fs),.agg parts=>(fs.toList.zip parts).flatMap fun p=>cE P d p.1.type p.2
  |some (.array _ e),.agg parts=>parts.flatMap (cE P d e)
  |_,_=>[]
def Typed{H:Type}(P:Program):Nat->TypeId->DataW H->Prop
 |0,_,_=>False
 |d+1,t,x=>match P.underlying t,x with
  |some .bool,.lit (.bool _)=>True
  |some (.int k),.lit (.int k' n)=>k'=k/\(Lit.int k n).wf=true
  |some .string,.lit (.string s)=>s.length<=maxLen
  |some (.slice _),.nil=>True
  |some (.slice e),.slice bP _=>bP.length<=maxLen/\∀y∈bP,Typed P d e y
  |some (.struct fs),.agg parts=>parts.length=fs.size/\∀p∈fs.toList.zip parts,Typed P d p.1.type p.2
  |some (.array n e),.agg parts=>parts.length=n/\∀y∈parts,Typed P d e y
  |_,_=>False
def Gf:Nat->Nat->Prop:=fun _ _=>True
section
variable {H:Type} {enc:TypeId×Value->H} {P:Program} {w:World} {base:Nat} {sp:Nat->Bool} {held:Bool}
def Lq{a:Addr}{n:Nat}{cs:List Value}(h:w.cells? base a n=some cs):cs.length=n/\∀(j:Nat)(v:Value),cs[j]?=some v->w.cell? (a.add j)=some v:=by
 unfold World.cells? at h;split at h
 ·obtain⟨h1,h2⟩:=Qdi _ _ _ h;refine⟨by simpa using h1,fun j v hj=>?_⟩
  have ai:j<n:=by
   have:=(zza.1 hj).1;simp at h1;omega
  exact h2 j j v (by simp[ai]) hj
 cases h
def Dm{γ:G}:∀(l:List (List AV))(YY:List (List Value)),l.length=YY.length->(∀(i:Nat)(as:List AV)(vs:List Value),l[i]?=some as->YY[i]?=some vs->ak w γ as vs)->ak w γ l.flatten YY.flatten
 |[],[],_,_=>ak.nil
 |[],_::_,h,_=>by simp at h
 |_::_,[],h,_=>by simp at h
 |as::l,vs::YY,h,hr=>by
  rw[zzcl,zzcl];exact(hr 0 as vs rfl rfl).append (Dm l YY (by simpa using h) fun i as vs h1 h2=>hr (i+1) as vs (by simpa using h1) (by simpa using h2))
def sN{cs:List Value}:∀(fs:List Field)(n m:Nat),jM P fs n=some m->m=cs.length->n<=cs.length->(fs.map fun f=>(cs.drop f.offset).take (P.cellsOf f.type)).flatten=cs.drop n
 |[],n,m,h,hm,hn=>by simp[jM]at h;subst h;subst hm;simp
 |f::fs,n,m,h,hm,hn=>by
  simp only[jM]at h;split at h
  ·rename_i ho;subst ho
   have cw:∀(fs:List Field)(n m:Nat),jM P fs n=some m->n<=m:=by
    intro fs;induction fs with
    |nil=>intro n m h;simp[jM]at h;omega
    |cons f fs ih=>
     intro n m h;simp only[jM]at h;split at h
     ·have:=ih _ _ h;omega
     cases h
   have h1:=cw _ _ _ h;have ih:=sN fs _ m h hm zE;rw[zzay,zzcl,ih];rw[<- zzdx,zzdd]
  cases h
def Lr{cs:List Value}{k:Nat}:∀(n:Nat),cs.length=n*k->((List.range n).map fun i=>(cs.drop (i*k)).take k).flatten=cs:=by
 intro n hn
 have key:∀m,m<=n->((List.range m).map fun i=>(cs.drop (i*k)).take k).flatten=cs.take (m*k):=by
  intro m;induction m with
  |zero=>simp
  |succ m ih=>
   intro hm;rw[zzfi,zzca,zzek,ih zE];simp only[zzay,zzcc,zzcl,List.flatten_nil,zzau];rw[zzbr,zzds,List.take_add]
 rw[key n (zzab _),<- hn,zzbu]
def trod_bool{t:TypeId}{aX:Nat}{cs:List Value}{x:DataW H}{ps:List MemPlace}(hu:P.underlying t=some .bool)(h:DataW.trod enc P w base sp held (aX+1) t cs=some (x,ps)):∃b,cs=[.bool b]/\x=.lit (.bool b):=by
 unfold DataW.trod at h;rw[hu]at h;obtain _|⟨v,_|⟨_,_⟩⟩:=cs
 ·cases h
 ·cases v<;>first|(cases h;done)|(cases h;exact⟨_,rfl,rfl⟩)
 cases v<;>first|(cases h;done)|(simp at h;done)
def trod_int{t:TypeId}{k:IntKind}{aX:Nat}{cs:List Value}{x:DataW H}{ps:List MemPlace}(hu:P.underlying t=some (.int k))(h:DataW.trod enc P w base sp held (aX+1) t cs=some (x,ps)):∃n,cs=[.int k n]/\x=.lit (.int k n)/\(Lit.int k n).wf=true:=by
 unfold DataW.trod at h;rw[hu]at h;obtain _|⟨v,_|⟨_,_⟩⟩:=cs
 ·cases h
 ·cases v<;>first|(cases h;done)|skip
  simp only at h;split at h
  ·rename_i hk;cases h;rw[hk.1];exact⟨_,rfl,rfl,hk.2⟩
  cases h
 cases v<;>first|(cases h;done)|(simp at h;done)
def YZ{t:TypeId}{aX:Nat}{cs:List Value}{x:DataW H}{ps:List MemPlace}(hu:P.underlying t=some .string)(h:DataW.trod enc P w base sp held (aX+1) t cs=some (x,ps)):∃s,cs=[.string s]/\x=.lit (.string s.data.toList)/\s.size<=maxLen:=by
 unfold DataW.trod at h;rw[hu]at h;obtain _|⟨v,_|⟨_,_⟩⟩:=cs
 ·cases h
 ·cases v<;>first|(cases h;done)|skip
  simp only at h;split at h
  ·rename_i hk;cases h;exact⟨_,rfl,rfl,hk⟩
  cases h
 cases v<;>first|(cases h;done)|(simp at h;done)
def afy{t e:TypeId}{aX:Nat}{cs:List Value}{x:DataW H}{ps:List MemPlace}(hu:P.underlying t=some (.slice e))(h:DataW.trod enc P w base sp held (aX+1) t cs=some (x,ps)):
  (
   cs=[.slice none 0 0]/\x=.nil)\/∃a len cap bP rest,cs=[.slice (some a) len cap]/\len<=cap/\cap<=maxLen/\x=.slice (bP.map (·.1)) rest/\
   (List.range len).mapM (fun i=>(w.cells? base (a.add (i*P.cellsOf e)) (P.cellsOf e)).bind (DataW.trod enc P w base sp held aX e))=some bP:=by
 unfold DataW.trod at h;rw[hu]at h;obtain _|⟨v,_|⟨_,_⟩⟩:=cs
 ·cases h
 ·cases v<;>first|(cases h;done)|skip
  rename_i a len cap;cases a with
  |none=>cases len<;>cases cap<;>first|(cases h;done)|(cases h;exact .inl ⟨rfl,rfl⟩)
  |some a=>
   simp only at h;split at h
   case isFalse=>cases h
   rename_i hc;cases hm:(List.range len).mapM (fun i=>(w.cells? base (a.add (i*P.cellsOf e)) (P.cellsOf e)).bind (DataW.trod enc P w base sp held aX e))with
   |none=>rw[hm]at h;cases h
   |some bP=>
    rw[hm]at h;simp only[zzbz,zzcj]at h;obtain⟨rest,_,h2⟩:=h;cases h2;exact .inr ⟨a,len,cap,bP,_,rfl,hc.2.1,hc.2.2,rfl,hm⟩
 cases v<;>first|(cases h;done)|skip
 rename_i a len cap;cases a with
 |none=>cases len<;>cases cap<;>first|(cases h;done)|(simp at h;done)
 |some a=>first|(cases h;done)|(simp at h;done)
def trod_struct{t:TypeId}{fs:Array Field}{aX:Nat}{cs:List Value}{x:DataW H}{ps:List MemPlace}(hu:P.underlying t=some (.struct fs))(h:DataW.trod enc P w base sp held (aX+1) t cs=some (x,ps)):
  cs.length=P.cellsOf t/\∃xs,x=.agg (xs.map (·.1))/\fs.toList.mapM (fun f=>DataW.trod enc P w base sp held aX f.type ((cs.drop f.offset).take (P.cellsOf f.type)))=some xs:=by
 unfold DataW.trod at h;rw[hu]at h;simp only at h;split at h
 case isFalse=>cases h
 rename_i hc;simp only[zzcj]at h;obtain⟨xs,h1,h2⟩:=h;cases h2;exact⟨hc,xs,rfl,h1⟩
def trod_array{t e:TypeId}{n:Nat}{aX:Nat}{cs:List Value}{x:DataW H}{ps:List MemPlace}(hu:P.underlying t=some (.array n e))(h:DataW.trod enc P w base sp held (aX+1) t cs=some (x,ps)):
  cs.length=P.cellsOf t/\∃xs,x=.agg (xs.map (·.1))/\(List.range n).mapM (fun i=>DataW.trod enc P w base sp held aX e ((cs.drop (i*P.cellsOf e)).take (P.cellsOf e)))=some xs:=by
 unfold DataW.trod at h;rw[hu]at h;simp only at h;split at h
 case isFalse=>cases h
 rename_i hc;simp only[zzcj]at h;obtain⟨xs,h1,h2⟩:=h;cases h2;exact⟨hc,xs,rfl,h1⟩
def jN:∀(d aX:Nat)(t:TypeId)(cs:List Value)(x:DataW H)(ps:List MemPlace),DataW.trod enc P w base sp held aX t cs=some (x,ps)->YX P d t=true->
  Typed P d t x/\ak w (G0 Gf) (cE P d t x) cs/\(cE P d t x).all Qw=true/\cs.length=P.cellsOf t
 |0,_,_,_,_,_,_,h=>by cases h
 |d+1,0,_,_,_,_,h,_=>by cases h
 |d+1,aX+1,t,cs,x,ps,h,bZ=>by
  unfold YX at bZ;cases hu:P.underlying t with
  |none=>simp[hu]at bZ
  |some desc=>
   rw[hu]at bZ;cases desc with
   |bool=>
    obtain⟨b,rfl,rfl⟩:=trod_bool hu h;exact⟨by simp[Typed,hu],by simp only[cE,hu];exact ak.cons (.bool b) ak.nil,by simp[cE,hu,Qw],(eq_of_beq bZ).symm⟩
   |int k=>
    obtain⟨n,rfl,rfl,hw⟩:=trod_int hu h;exact⟨by simp[Typed,hu,hw],by simp only[cE,hu];exact ak.cons (.int k n) ak.nil,by simp[cE,hu,Qw],(eq_of_beq bZ).symm⟩
   |string=>
    obtain⟨s,rfl,rfl,hw⟩:=YZ hu h;refine⟨by simpa[Typed,hu]using hw,?_,by simp[cE,hu,Qw],(eq_of_beq bZ).symm⟩;simp only[cE,hu];have:(⟨s.data.toList.toArray⟩:ByteArray)=s:=by cases s;simp
    rw[this];exact ak.cons (.str s) ak.nil
   |slice e=>
    simp only[zzak]at bZ;rcases afy hu h with⟨rfl,rfl⟩|⟨a,len,cap,bP,rest,rfl,hlc,hcm,rfl,hm⟩
    ·exact⟨by simp[Typed,hu],by simp only[cE,hu];exact ak.cons CO ak.nil,by simp[cE,hu,Qw],(eq_of_beq bZ.1.1).symm⟩
    obtain⟨hl,hg⟩:=Qdi _ _ _ hm;have eM:bP.length=len:=by simpa using hl
    have TZ:∀(i:Nat)(y:DataW H×List MemPlace),bP[i]?=some y->∃ec,ec.length=P.cellsOf e/\(∀(j:Nat)(v:Value),ec[j]?=some v->w.cell? ((a.add (i*P.cellsOf e)).add j)=some v)/\Typed P d e y.1/\ak w (G0 Gf) (cE P d e y.1) ec/\(cE P d e y.1).all Qw=true:=fun i y hy=>by
     have hi:i<len:=by rw[<- eM];exact(zza.1 hy).1
     have:=hg i i y (by simp[hi]) hy;cases hc:w.cells? base (a.add (i*P.cellsOf e)) (P.cellsOf e)with
     |none=>rw[hc]at this;cases this
     |some ec=>
      rw[hc]at this;obtain⟨y1,y2⟩:=y;obtain⟨g1,g2,g3,g4⟩:=jN d aX e ec y1 y2 this bZ.2;obtain⟨c1,c2⟩:=Lq hc;exact⟨ec,c1,c2,g1,g2,g3⟩
    refine⟨?_,?_,by simp[cE,hu,Qw],(eq_of_beq bZ.1.1).symm⟩
    ·simp only[Typed,hu];refine⟨by simp;omega,fun y hy=>?_⟩;simp only[zzax]at hy;obtain⟨p,hp,rfl⟩:=hy;obtain⟨i,hi⟩:=zzc.1 hp;obtain⟨ec,_,_,g1,_⟩:=TZ i p hi;exact g1
    simp only[cE,hu];refine ak.cons ?_ ak.nil;have ey:((bP.map (·.1)).map (cE P d e)).length=len:=by simp[eM]
    have hz:P.cellsOf e≠0:=by simpa using bZ.1.2
    have Y1:((bP.map (·.1)).map (cE P d e))≠[]->a=⟨a.block,a.off,none⟩/\a.block<w.heap.size:=fun hn=>by
     cases helems:bP with
     |nil=>simp[helems]at hn
     |cons y ys=>
      obtain⟨ec,c1,c2,_,g2,_⟩:=TZ 0 y (by simp[helems]);cases hec:ec with
      |nil=>rw[hec]at c1;exact absurd c1.symm hz
      |cons v vs=>
       have:=c2 0 v (by simp[hec]);simp only[zzht,Addr.add,if_true]at this;unfold World.cell? at this;split at this
       ·rename_i hb;split at this
        ·cases this
        rename_i hs;refine⟨?_,aS hb⟩;cases a;simp at hs;simp[hs]
       cases this
    have oE:∀(i j:Nat)(c:AV),Qv ((bP.map (·.1)).map (cE P d e)) i j=some c->∃v,w.cell? ⟨a.block,a.off+i*P.cellsOf e+j,none⟩=some v/\aC w (G0 Gf) c v/\Qw c=true:=fun i j c hc=>by
     have aM:((bP.map (·.1)).map (cE P d e))≠[]:=by rintro h0;rw[h0]at hc;simp[Qv]at hc
     obtain⟨ha,_⟩:=Y1 aM;unfold Qv at hc;cases hy:bP[i]? with
     |none=>simp[hy]at hc
     |some y=>
      simp[hy]at hc;obtain⟨ec,c1,c2,_,g2,g3⟩:=TZ i y hy;have hj:j<ec.length:=by rw[<- g2.1];exact(zza.1 hc).1
      have hv:ec[j]?=some ec[j]:=zzae hj;refine⟨ec[j],?_,g2.2 j c _ hc hv,zzbh.1 g3 c (zzac hc)⟩;have:=c2 j _ hv;rw[ha,bA,bA]at this;exact this
    have:=aC.sl (w:=w) (γ:=G0 Gf) (rt:=.nn) (rows:=(bP.map (·.1)).map (cE P d e)) (a:=some a) (cap:=cap) a.block a.off (P.cellsOf e) (fun i j=>(w.cell? ⟨a.block,a.off+i*P.cellsOf e+j,none⟩).getD undef)
     (by rw[ey];exact hlc) (fun h=>by cases h) (fun hn=>⟨by rw[<- (Y1 hn).1],(Y1 hn).2⟩) (fun row ah=>?_) (fun i j c hc=>?_) (fun i j c hc=>?_) (by simp[tY])
    ·rwa [ey]at this
    ·simp only[zzcz,zzax]at ah;obtain⟨p,hp,rfl⟩:=ah;obtain⟨i,hi⟩:=zzc.1 hp;obtain⟨ec',c1',_,_,g2',_⟩:=TZ i p hi;have:=g2'.1;simp only[Function.comp];omega
    ·obtain⟨v,h1,h2,h3⟩:=oE i j c hc;rw[h1];exact⟨rfl,trivial,uH h2 h3⟩
    obtain⟨v,h1,h2,h3⟩:=oE i j c hc;rw[h1];exact h2
   |struct fs=>
    simp only[zzak,zzbh]at bZ;obtain⟨aH,xs,rfl,hm⟩:=trod_struct hu h;obtain⟨hl,hg⟩:=Qdi _ _ _ hm
    have TZ:∀(i:Nat)(f:Field)(y:DataW H×List MemPlace),fs.toList[i]?=some f->xs[i]?=some y->Typed P d f.type y.1/\ak w (G0 Gf) (cE P d f.type y.1) ((cs.drop f.offset).take (P.cellsOf f.type))/\(cE P d f.type y.1).all Qw=true:=fun i f y hf hy=>by
     obtain⟨y1,y2⟩:=y;obtain⟨g1,g2,g3,_⟩:=jN d aX f.type _ y1 y2 (hg i f (y1,y2) hf hy) (bZ.2 f (zzac hf));exact⟨g1,g2,g3⟩
    have asT:∀p∈fs.toList.zip (xs.map (·.1)),∃(i:Nat)(f:Field)(y:DataW H×List MemPlace),fs.toList[i]?=some f/\xs[i]?=some y/\p=(f,y.1):=fun p hp=>by
     obtain⟨i,hi⟩:=zzc.1 hp;rw[zzgs]at hi;obtain⟨h1,h2⟩:=hi;simp only[zzbi,zzcj]at h2;obtain⟨y,h2,h3⟩:=h2;exact⟨i,p.1,y,h1,h2,by rw[h3]⟩
    refine⟨?_,?_,?_,aH⟩
    ·simp only[Typed,hu];refine⟨by simpa using hl,fun p hp=>?_⟩;obtain⟨i,f,y,h1,h2,rfl⟩:=asT p hp;exact(TZ i f y h1 h2).1
    ·simp only[cE,hu];have afz:=sN (P:=P) (cs:=cs) fs.toList 0 (P.cellsOf t) (eq_of_beq bZ.1) aH.symm (zzbt _);rw[zzde]at afz
     have:ak w (G0 Gf) ((fs.toList.zip (xs.map (·.1))).map fun p=>cE P d p.1.type p.2).flatten (fs.toList.map fun f=>(cs.drop f.offset).take (P.cellsOf f.type)).flatten:=by
      refine Dm _ _ (by simp at hl |-;omega) fun i as vs h1 h2=>?_;simp only[zzbi,zzcj]at h1 h2;obtain⟨p,hp,rfl⟩:=h1;obtain⟨f,hf,rfl⟩:=h2;rw[zzgs]at hp;obtain⟨q1,q2⟩:=hp;rw[hf]at q1;simp only[zzbi,zzcj]at q2;obtain⟨y,hy,q2⟩:=q2;rw[<- Option.some.inj q1,<- q2];exact(TZ i f y hf hy).2.1
     rw[afz]at this;rwa [List.flatMap_def]
    simp only[cE,hu,zzbh,List.mem_flatMap];rintro v ⟨p,hp,hv⟩;obtain⟨i,f,y,h1,h2,rfl⟩:=asT p hp;exact zzbh.1 (TZ i f y h1 h2).2.2 v hv
   |array n e=>
    simp only[zzak]at bZ;obtain⟨aH,xs,rfl,hm⟩:=trod_array hu h;obtain⟨hl,hg⟩:=Qdi _ _ _ hm;have eM:xs.length=n:=by simpa using hl
    have TZ:∀(i:Nat)(y:DataW H×List MemPlace),xs[i]?=some y->Typed P d e y.1/\ak w (G0 Gf) (cE P d e y.1) ((cs.drop (i*P.cellsOf e)).take (P.cellsOf e))/\(cE P d e y.1).all Qw=true:=fun i y hy=>by
     have hi:i<n:=by rw[<- eM];exact(zza.1 hy).1
     obtain⟨y1,y2⟩:=y;obtain⟨g1,g2,g3,_⟩:=jN d aX e _ y1 y2 (hg i i (y1,y2) (by simp[hi]) hy) bZ.2;exact⟨g1,g2,g3⟩
    refine⟨?_,?_,?_,aH⟩
    ·simp only[Typed,hu];refine⟨by simpa using eM,fun y hy=>?_⟩;simp only[zzax]at hy;obtain⟨p,hp,rfl⟩:=hy;obtain⟨i,hi⟩:=zzc.1 hp;exact(TZ i p hi).1
    ·simp only[cE,hu];have afz:=Lr (cs:=cs) (k:=P.cellsOf e) n (by rw[aH];exact eq_of_beq bZ.1)
     have:ak w (G0 Gf) ((xs.map (·.1)).map (cE P d e)).flatten ((List.range n).map fun i=>(cs.drop (i*P.cellsOf e)).take (P.cellsOf e)).flatten:=by
      refine Dm _ _ (by simp[eM]) fun i as vs h1 h2=>?_;simp only[zzcz,zzbi,zzcj]at h1 h2;obtain⟨y,hy,rfl⟩:=h1;obtain⟨j,hj,rfl⟩:=h2;have hi:i<n:=by rw[<- eM];exact(zza.1 hy).1
      simp[hi]at hj;subst hj;exact(TZ i y hy).2.1
     rw[afz]at this;rwa [List.flatMap_def]
    simp only[cE,hu,zzbh,List.mem_flatMap,zzax];rintro v ⟨y,⟨p,hp,rfl⟩,hv⟩;obtain⟨i,hi⟩:=zzc.1 hp;exact zzbh.1 (TZ i p hi).2.2 v hv
   |_=>simp at bZ
def jO(P:Program)(d:Nat)(t:TypeId)(x:DataW H):AV:=if Jh P t then .agg (cE P d t x)else(cE P d t x).headD .junk
def afA{r:Reach}{b0:Nat}{t:TypeId}{v:Value}(dm:Value.okWide P w r b0 t v)(ha:Jh P t=false)(bZ:∃d,YX P d t=true):v.cells.toList=[v]:=by
 unfold Value.okWide at dm;unfold Jh at ha;obtain⟨d,bZ⟩:=bZ;cases d with
 |zero=>cases bZ
 |succ d=>
  unfold YX at bZ;cases hu:P.underlying t with
  |none=>simp[hu]at bZ
  |some desc=>
   rw[hu]at dm ha bZ;cases desc<;>simp at ha bZ dm
   all_goals
    unfold Cell.okWide at dm;rw[hu]at dm;cases v<;>first|rfl|(simp[Cell.ok,hu]at dm)
def afB{d:Nat}{r:Reach}{b0:Nat}{t:TypeId}{v:Value}{x:DataW H}{ps:List MemPlace}(bZ:YX P d t=true)(dm:Value.okWide P w r b0 t v)(h:DataW.Trod enc P w base sp held t v x ps):
  Typed P d t x/\aC w (G0 Gf) (jO P d t x) v:=by
 obtain⟨aX,h⟩:=h;obtain⟨h1,h2,h3,h4⟩:=jN d aX t _ x ps h bZ;refine⟨h1,?_⟩;unfold jO;cases ha:Jh P t with
 |true=>
  simp only[if_true];unfold Value.okWide at dm;unfold Jh at ha;split at ha
  ·rename_i hu;rw[hu]at dm;obtain⟨cs,rfl,_⟩:=dm;exact ak.Q8 h2
  ·rename_i hu;rw[hu]at dm;obtain⟨cs,rfl,_⟩:=dm;exact ak.Q8 h2
  cases ha
 |false=>
  simp only[zzbp,if_false];rw[afA dm ha ⟨d,bZ⟩]at h2;cases hl:cE P d t x with
  |nil=>rw[hl]at h2;have:=h2.1;simp at this
  |cons a l=>rw[hl]at h2;exact h2.2 0 a v rfl rfl
def pI(P:Program)(d:Nat):List TypeId->List (DataW H)->Prop
 |[],[]=>True
 |t::ts,x::xs=>Typed P d t x/\pI P d ts xs
 |_,_=>False
def Dn(P:Program)(d:Nat):List TypeId->List (DataW H)->List AV
 |t::ts,x::xs=>jO P d t x::Dn P d ts xs
 |_,_=>[]
def Gg{d:Nat}{r:Reach}{b0:Nat}:∀{ts:List TypeId}{vs:List Value}{xs:List (DataW H)}{ps:List MemPlace},(∀t∈ts,YX P d t=true)->(∀(j:Nat)(t:TypeId)(v:Value),ts[j]?=some t->vs[j]?=some v->Value.okWide P w r b0 t v)->
  DataW.TrodAll enc P w base sp held ts vs xs ps->pI P d ts xs/\ak w (G0 Gf) (Dn P d ts xs) vs
 |[],[],[],_,_,_,_=>⟨trivial,ak.nil⟩
 |[],_::_,_,_,_,_,h=>by cases h
 |[],[],_::_,_,_,_,h=>by cases h
 |_::_,[],_,_,_,_,h=>by cases h
 |_::_,_::_,[],_,_,_,h=>by cases h
 |t::ts,v::vs,x::xs,ps,bZ,dm,h=>by
  obtain⟨p,q,h1,h2,_⟩:=h;obtain⟨g1,g2⟩:=afB (bZ t zd) (dm 0 t v rfl rfl) h1;obtain⟨k1,k2⟩:=Gg (fun t ht=>bZ t (by simp[ht])) (fun j t v h1 h2=>dm (j+1) t v (by simpa using h1) (by simpa using h2)) h2;exact⟨⟨g1,k1⟩,ak.cons g2 k2⟩
def mN{W W':World}(hl:laidOutB P=true)(hb:Below W.heap.size W W'){sp':Nat->Bool}:∀{ts:List TypeId}{vs:List Value}{xs:List (DataW H)}{ps:List MemPlace},(∀t∈ts,P.readableRec t=true/\t<P.types.size)->
  DataW.TrodAll enc P W 0 (fun _=>true) true ts vs xs ps->(∀p∈ps,p.block<W.heap.size/\sp' p.block=true)->DataW.TrodAll enc P W' 0 sp' true ts vs xs ps
 |[],[],[],_,_,h,_=>h
 |[],_::_,_,_,_,h,_=>by cases h
 |[],[],_::_,_,_,h,_=>by cases h
 |_::_,[],_,_,_,h,_=>by cases h
 |_::_,_::_,[],_,_,h,_=>by cases h
 |t::ts,v::vs,x::xs,ps,hr,h,hp=>by
  obtain⟨p,q,h1,h2,rfl⟩:=h;refine⟨p,q,WideElems.Trod_stays hl (hr t zd).1 (hr t zd).2 h1 (fun y hy=>hb.same (hp y (by simp[hy])).1) (fun y hy=>(hp y (by simp[hy])).2),mN hl hb (fun t ht=>hr t (by simp[ht])) h2 fun y hy=>hp y (by simp[hy]),rfl⟩
def Dp{gl:Nat->AV}{fid:FuncId}{fn:Func}{s:ChangeSpec}{bt:TypeId}{d:Nat}(aky:s.vars=[])(anh:fn.resultTypes=#[bt])(hbt:P.underlying bt=some .bool)(hl:laidOutB P=true)
  (hts:(fn.params.toList.all fun t=>YX P d t&&P.readableRec t&&decide (t<P.types.size))=true)(asU:∀ds:List (DataW H),ds.length=fn.params.size->(s.fn H ds).results=[.lit (.bool true)]/\(s.fn H ds).args=ds/\(s.fn H ds).vars=[])
  {W:World}{args:Array Value}{ds gs:List (DataW H)}{before:List MemPlace}{r:Reach}{b0:Nat}(ji:∀g,aC W (G0 Gf) (gl g) (.pointer (some ⟨g,0,none⟩)))
  (dm:∀(j:Nat)(t:TypeId)(v:Value),fn.params[j]?=some t->args[j]?=some v->Value.okWide P W r b0 t v)
  (hW:DataW.Whole enc P fn.params.toList s.vars false W args.toList ds gs before)
  (hp:pI P d fn.params.toList ds->Pure P gl fid (Dn P d fn.params.toList ds) (.bool true)):
  Calls P fid args W fun e W'=>∃v,e=.returned v/\s.post enc P fn false true false false W args v W':=by
 have hW':=hW;obtain⟨p,q,hA,hV,rfl,hfz,qC⟩:=hW;rw[aky]at hV;obtain⟨rfl,rfl⟩:=ChangeShapes.trodVars_none hV;simp only[zzbh,zzak,decide_eq_true_eq]at hts;obtain⟨h1,h2⟩:=Gg (fun t ht=>(hts t ht).1.1) (fun j t v q1 q2=>dm j t v (by simpa using q1) (by simpa using q2)) hA
 have aH:ds.length=fn.params.size:=by
  have:∀{ts:List TypeId}{vs:List Value}{xs:List (DataW H)}{ps:List MemPlace},DataW.TrodAll enc P W 0 (fun _=>true) true ts vs xs ps->xs.length=ts.length:=by
   intro ts;induction ts with
   |nil=>intro vs xs ps h;cases vs<;>cases xs<;>first|rfl|cases h
   |cons t ts ih=>
    intro vs xs ps h;cases vs<;>cases xs<;>first|(cases h;done)|skip
    obtain⟨_,_,_,h,_⟩:=h;simp[ih h]
  simpa using this hA
 obtain⟨k1,k2,k3⟩:=asU ds aH;have ai:∀x∈p,x.block<W.heap.size:=fun x hx=>hW'.lt x (by simp[hx]);refine((hp h1).2 Gf W args.toList ji h2).mono ?_;rintro e W' ⟨v,rfl,hb,hr⟩;obtain rfl:=hr.bB;refine⟨_,rfl,ds,[],p++[],[],p,[],hW',?_,?_,?_,World.keptBut_mono (fun x hx=>⟨hx,?_⟩) (hb.frame (·∈p++[])),fun h=>by cases h⟩
 ·rw[anh,zzau,k1];exact⟨[],[],shut_bool hbt true,rfl,rfl⟩
 ·rw[zzau,k2];exact mN hl hb (fun t ht=>⟨(hts t ht).1.2,(hts t ht).2⟩) hA fun x hx=>⟨ai x hx,by simpa using ai x hx⟩
 ·rw[aky,zzau,k3];rfl
 simp at hx;exact .inr (.inl hx)
end
open Go
section
variable (P:Program) (gl:Nat->AV) (orc:Nat->FuncId->List AV->AV) (Y:YT) (l2:List SO) (K:AS->Prop) (m:AM) (ms q:List (AV×AM)) (mc:AM) (r:List SO) (fl:List Fg) (T:List AV) (o:SO) (x:AV×AM)
@[simp] def ani(d:Option Nat)(op:aF)(xs:List bN):Ya T ⟨d,op,none,xs⟩=True:=nd rfl
@[simp] def anj(d:Option Nat)(op:aF)(t:Nat)(b:Bool)(xs:List bN):Ya T ⟨d,op,some (some t,b),xs⟩=(T.getD t .junk=.bool b):=nd rfl
@[simp] def awQ:uM P gl orc Y l2 K m ms [] fl q mc T=(q=[]/\Zy P gl orc Y l2 ⟨T,mc⟩ K):=nd (by simp only[uM])
@[simp] def asV:uM P gl orc Y l2 K m ms (o::r) (.eff::fl) (x::q) mc T=(Ya T o/\effC P gl orc Y (ev gl T) mc o.dst x.1 x.2 o.op/\uM P gl orc Y l2 K m ms r fl q x.2 (put T o.dst x.1)):=nd (by simp only[uM])
@[simp] def awR:uM P gl orc Y l2 K m ms (o::r) (.pre::fl) q mc T=(Ya T o/\(rop P gl orc (ev gl T) m o.dst o.op).1/\uM P gl orc Y l2 K m ms r fl q mc (put T o.dst (rop P gl orc (ev gl T) m o.dst o.op).2)):=nd (by simp only[uM])
@[simp] def apH:uM P gl orc Y l2 K m ms (o::r) (.oth::fl) q mc T=(Ya T o/\(rop P gl orc (ev gl T) m o.dst o.op).1/\(∀x∈ms,rop P gl orc (ev gl T) x.2 o.dst o.op=rop P gl orc (ev gl T) m o.dst o.op)/\uM P gl orc Y l2 K m ms r fl q mc (put T o.dst (rop P gl orc (ev gl T) m o.dst o.op).2)):=nd (by simp only[uM])
def Qbj{P:Program}{gl:Nat->AV}{orc:Nat->FuncId->List AV->AV}{Y:YT}{fl:List Fg}{l l2:List SO}{s:AS}{Q:Exit->AS->Prop}(ms:List (AV×AM))(h:uM P gl orc Y l2 (Q .normal) s.m ms l fl ms s.m s.T):vc P gl orc Y (.drawE fl l l2) s Q:=.inr (.inl ⟨ms,h⟩)
@[simp] def awS:iF P gl orc Y l2 K m ms [] fl q mc T=(q=[]/\Zy P gl orc Y l2 ⟨T,mc⟩ K):=nd (by simp only[iF])
@[simp] def asW:iF P gl orc Y l2 K m ms (o::r) (.eff::fl) (x::q) mc T=(Ya T o/\effC P gl orc Y (ev gl T) mc o.dst x.1 x.2 o.op/\iF P gl orc Y l2 K m ms r fl q x.2 (put T o.dst x.1)):=nd (by simp only[iF])
@[simp] def awT:iF P gl orc Y l2 K m ms (o::r) (.pre::fl) q mc T=(Ya T o/\(rop P gl orc (ev gl T) m o.dst o.op).1/\iF P gl orc Y l2 K m ms r fl q mc (put T o.dst (rop P gl orc (ev gl T) m o.dst o.op).2)):=nd (by simp only[iF])
@[simp] def awU:iF P gl orc Y l2 K m ms (o::r) (.oth::fl) q mc T=(Ya T o/\(((rop P gl orc (ev gl T) m o.dst o.op).1/\∀x∈ms,rop P gl orc (ev gl T) x.2 o.dst o.op=rop P gl orc (ev gl T) m o.dst o.op)\/(rdC P gl orc Y (ev gl T) m o.dst m o.op/\∀x∈ms,rdC P gl orc Y (ev gl T) m o.dst x.2 o.op))/\iF P gl orc Y l2 K m ms r fl q mc (put T o.dst (rop P gl orc (ev gl T) m o.dst o.op).2)):=nd (by simp only[iF,arN])
variable (R:AV->AM->Prop)
@[simp] def awV:lg P gl orc Y R l2 K m ms [] fl q mc T=(q=[]/\Zy P gl orc Y l2 ⟨T,mc⟩ K):=nd (by simp only[lg])
@[simp] def asX:lg P gl orc Y R l2 K m ms (o::r) (.eff::fl) [x] mc T=(Ya T o/\effR P gl Y (ev gl T) mc R o.op/\lg P gl orc Y R l2 K m ms r fl [] x.2 (put T o.dst x.1)):=nd (by simp only[lg];simp)
@[simp] def asY(y:AV×AM):lg P gl orc Y R l2 K m ms (o::r) (.eff::fl) (x::y::q) mc T=(Ya T o/\effC P gl orc Y (ev gl T) mc o.dst x.1 x.2 o.op/\lg P gl orc Y R l2 K m ms r fl (y::q) x.2 (put T o.dst x.1)):=nd (by simp only[lg];simp)
@[simp] def awW:lg P gl orc Y R l2 K m ms (o::r) (.pre::fl) q mc T=(Ya T o/\(rop P gl orc (ev gl T) m o.dst o.op).1/\lg P gl orc Y R l2 K m ms r fl q mc (put T o.dst (rop P gl orc (ev gl T) m o.dst o.op).2)):=nd (by simp only[lg])
@[simp] def apI:lg P gl orc Y R l2 K m ms (o::r) (.oth::fl) q mc T=(Ya T o/\(rop P gl orc (ev gl T) m o.dst o.op).1/\(∀x∈ms,rop P gl orc (ev gl T) x.2 o.dst o.op=rop P gl orc (ev gl T) m o.dst o.op)/\lg P gl orc Y R l2 K m ms r fl q mc (put T o.dst (rop P gl orc (ev gl T) m o.dst o.op).2)):=nd (by simp only[lg])
def Y2{P:Program}{gl:Nat->AV}{orc:Nat->FuncId->List AV->AV}{Y:YT}{fl:List Fg}{l l2:List SO}{s:AS}{Q:Exit->AS->Prop}(hb:afh fl l=true)(ms:List (AV×AM))(R:AV->AM->Prop)(hR:∃x:AV×AM,R x.1 x.2)
  (h:∀v m',R v m'->lg P gl orc Y R l2 (Q .normal) s.m (ms++[(v,m')]) l fl (ms++[(v,m')]) s.m s.T):vc P gl orc Y (.drawE fl l l2) s Q:=.inr (.inr (.inl ⟨hb,ms,R,hR,fun x hx=>h x.1 x.2 hx⟩))
def lX(P:Program)(gl:Nat->AV)(orc:Nat->FuncId->List AV->AV)(m:AM):List SO->List Fg->AM->List AV->List (AV×AM)
 |o::r,.eff::fl,mc,T=>(effV (sop P gl orc (ev gl T) mc o.dst o.op).2.1 o.op,(sop P gl orc (ev gl T) mc o.dst o.op).2.2)::lX P gl orc m r fl (sop P gl orc (ev gl T) mc o.dst o.op).2.2 (put T o.dst (effV (sop P gl orc (ev gl T) mc o.dst o.op).2.1 o.op))
 |o::r,.pre::fl,mc,T=>lX P gl orc m r fl mc (put T o.dst (rop P gl orc (ev gl T) m o.dst o.op).2)
 |o::r,.oth::fl,mc,T=>lX P gl orc m r fl mc (put T o.dst (rop P gl orc (ev gl T) m o.dst o.op).2)
 |_,_,_,_=>[]
@[simp] def asZ:lX P gl orc m [] fl mc T=[]:=nd (by simp only[lX])
@[simp] def apJ:lX P gl orc m (o::r) (.eff::fl) mc T=(effV (sop P gl orc (ev gl T) mc o.dst o.op).2.1 o.op,(sop P gl orc (ev gl T) mc o.dst o.op).2.2)::lX P gl orc m r fl (sop P gl orc (ev gl T) mc o.dst o.op).2.2 (put T o.dst (effV (sop P gl orc (ev gl T) mc o.dst o.op).2.1 o.op)):=nd (by simp only[lX])
@[simp] def as0:lX P gl orc m (o::r) (.pre::fl) mc T=lX P gl orc m r fl mc (put T o.dst (rop P gl orc (ev gl T) m o.dst o.op).2):=nd (by simp only[lX])
@[simp] def ank:lX P gl orc m (o::r) (.oth::fl) mc T=lX P gl orc m r fl mc (put T o.dst (rop P gl orc (ev gl T) m o.dst o.op).2):=nd (by simp only[lX])
def Ze{P:Program}{gl:Nat->AV}{orc:Nat->FuncId->List AV->AV}{Y:YT}{fl:List Fg}{l l2:List SO}{s:AS}{Q:Exit->AS->Prop}(h:uM P gl orc Y l2 (Q .normal) s.m (lX P gl orc s.m l fl s.m s.T) l fl (lX P gl orc s.m l fl s.m s.T) s.m s.T):vc P gl orc Y (.drawE fl l l2) s Q:=.inr (.inl ⟨_,h⟩)
def Gh{P:Program}{gl:Nat->AV}{orc:Nat->FuncId->List AV->AV}{z:Nat}{fl:List Fg}{l l2:List SO}{s:AS}{Q:Exit->AS->Prop}(hT:s.T.getD z .junk=.junk)(ms:List (AV×AM))(h:iF P gl orc Y0 l2 (Q .normal) s.m ms l fl ms s.m s.T):vc P gl orc Y0 (.drawZ z fl l l2) s Q:=⟨fun _ _ _ _ h=>h,hT,ms,h⟩
end
attribute [simp] effC memEff effV effR rdC
end Go.Abs
