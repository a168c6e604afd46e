import Derived.Test.YtjmgelbfndnpjaaGreatDoorPPME
import Derived.ProofKit
import Derived.OpenShut
import Derived.OpenVars
set_option linter.unusedVariables false
set_option linter.unusedSimpArgs false
namespace Go.Abs
open Go Go.RowKit
theorem nd {α:Type} {a b:α} (h:a=b):a=b:=h
section
variable (P:Program) (gl:Nat->AV) (orc:Nat->FuncId->List AV->AV) (Y:YT) (s:AS) (Q:Exit->AS->Prop)
@[simp] theorem vc_skip:vc P gl orc Y .skip s Q=Q .normal s:=nd rfl
@[simp] theorem vc_ops (l:List SO):vc P gl orc Y (.ops l) s Q=Xy P gl orc Y l s (Q .normal):=nd rfl
@[simp] theorem vc_seq (a b:SC):vc P gl orc Y (.seq a b) s Q=vc P gl orc Y a s (Qseq (vc P gl orc Y b) Q):=nd rfl
theorem vc_cond (x:Opd) (a b:SC):vc P gl orc Y (.cond x a b) s Q=match ev gl s.T x with | .bool t=>(t=true->vc P gl orc Y a s Q)/\(t=false->vc P gl orc Y b s Q) | _=>False:=nd rfl
@[simp] theorem vc_condI (x:Opd) (a b:SC):vc P gl orc Y (.cond x a b) s Q=match ev gl s.T x with | .bool t=>(if t=true then vc P gl orc Y a s Q else vc P gl orc Y b s Q) | _=>False:=by
 rw [vc_cond]
 cases ev gl s.T x<;>try rfl
 rename_i t
 cases t<;>simp
@[simp] theorem vc_block (id:Nat) (c:SC):vc P gl orc Y (.block id c) s Q=vc P gl orc Y c s (Qblock id Q):=nd rfl
@[simp] theorem vc_exit (id:Nat):vc P gl orc Y (.exit id) s Q=Q (.exit id) s:=nd rfl
@[simp] theorem vc_scope (c:SC):vc P gl orc Y (.scope c) s Q=vc P gl orc Y c s (Qscope Q):=nd rfl
@[simp] theorem vc_ret:vc P gl orc Y .ret s Q=Q .ret s:=nd rfl
@[simp] theorem vc_bad:vc P gl orc Y .bad s Q=False:=nd rfl
theorem vc_loop {c:SC} (I:AS->Prop) (μ:AS->Nat) (h0:I s) (hr:∀ s',I s'->vc P gl orc Y c s' (Qround I μ s' Q)):vc P gl orc Y (.loop c) s Q:=⟨I,μ,h0,hr⟩
variable (k:AS->(Exit->AS->Prop)->Prop) (id id':Nat) (I:AS->Prop) (μ:AS->Nat) (s0:AS)
@[simp] theorem Qseq_normal:Qseq k Q .normal s=k s Q:=nd rfl
@[simp] theorem Qseq_exit:Qseq k Q (.exit id) s=Q (.exit id) s:=nd rfl
@[simp] theorem Qseq_ret:Qseq k Q .ret s=Q .ret s:=nd rfl
@[simp] theorem Qblock_normal:Qblock id Q .normal s=Q .normal s:=nd rfl
@[simp] theorem Qblock_exit:Qblock id Q (.exit id') s=if id'=id then Q .normal s else Q (.exit id') s:=nd rfl
@[simp] theorem Qblock_ret:Qblock id Q .ret s=Q .ret s:=nd rfl
@[simp] theorem Qscope_normal:Qscope Q .normal s=Q .normal s:=nd rfl
@[simp] theorem Qscope_exit:Qscope Q (.exit id) s=Q (.exit id) s:=nd rfl
@[simp] theorem Qscope_ret:Qscope Q .ret s=Q .ret s:=nd rfl
@[simp] theorem Qround_normal:Qround I μ s0 Q .normal s=(I s/\μ s < μ s0):=nd rfl
@[simp] theorem Qround_exit:Qround I μ s0 Q (.exit id) s=Q (.exit id) s:=nd rfl
@[simp] theorem Qround_ret:Qround I μ s0 Q .ret s=Q .ret s:=nd rfl
end
@[simp] theorem vc_draw (P:Program) (gl:Nat->AV) (orc:Nat->FuncId->List AV->AV) (Y:YT) (s:AS) (Q:Exit->AS->Prop) (l l2:List SO):vc P gl orc Y (.draw l l2) s Q=vcD P gl orc Y l2 (Q .normal) l s.T s.m []:=nd rfl
def setW (T:List AV) (f:Nat->AV):List Nat->List AV
 | []=>T
 | i::W=>setW (T.set i (f i)) f W
def QroundW (T:List AV) (W:List Nat) (R:(Nat->AV)->AM->Prop) (μ:(Nat->AV)->AM->Nat) (f:Nat->AV) (m:AM) (Q:Exit->AS->Prop):Exit->AS->Prop
 | .normal,s'=>s'.T=setW T (fun i=>s'.T.getD i .junk) W/\R (fun i=>s'.T.getD i .junk) s'.m/\μ (fun i=>s'.T.getD i .junk) s'.m < μ f m
 | ex,s'=>Q ex s'
section
variable (T:List AV) (W:List Nat) (R:(Nat->AV)->AM->Prop) (μ:(Nat->AV)->AM->Nat) (f:Nat->AV) (m:AM) (Q:Exit->AS->Prop) (s:AS) (id:Nat)
@[simp] theorem QroundW_normal:QroundW T W R μ f m Q .normal s=(s.T=setW T (fun i=>s.T.getD i .junk) W/\R (fun i=>s.T.getD i .junk) s.m/\μ (fun i=>s.T.getD i .junk) s.m < μ f m):=nd rfl
@[simp] theorem QroundW_exit:QroundW T W R μ f m Q (.exit id) s=Q (.exit id) s:=nd rfl
@[simp] theorem QroundW_ret:QroundW T W R μ f m Q .ret s=Q .ret s:=nd rfl
end
def nth (l:List AV) (n:Nat):AV:=l.getD n .junk
def Qf (l:List (List AV)) (n:Nat):List AV:=l.getD n []
@[simp high] theorem Qag (l:List AV) (n:Nat):l.getD n .junk=nth l n:=rfl
@[simp high] theorem Zq (l:List (List AV)) (n:Nat):l.getD n []=Qf l n:=rfl
@[simp] theorem nth_nil (n:Nat):nth [] n=.junk:=rfl
@[simp] theorem nth_zero (a:AV) (l:List AV):nth (a::l) 0=a:=rfl
@[simp] theorem nth_succ (a:AV) (l:List AV) (n:Nat):nth (a::l) (n+1)=nth l n:=rfl
@[simp] theorem rowN_nil (n:Nat):Qf [] n=[]:=rfl
@[simp] theorem rowN_zero (a:List AV) (l:List (List AV)):Qf (a::l) 0=a:=rfl
@[simp] theorem rowN_succ (a:List AV) (l:List (List AV)) (n:Nat):Qf (a::l) (n+1)=Qf l n:=rfl
@[simp] theorem rowN_len (l l':List (List AV)):Qf (l++l') l.length=Qf l' 0:=by simp [Qf,List.getD_eq_getElem?_getD,-Zq,List.getElem?_append_right]
@[simp] theorem Zn (l l':List (List AV)) (k:Nat):Qf (l++l') (l.length+k)=Qf l' k:=by simp [Qf,List.getD_eq_getElem?_getD,-Zq,List.getElem?_append_right]
@[simp] theorem set_len (l l':List (List AV)) (x:List AV):(l++l').set l.length x=l++l'.set 0 x:=by simp [List.set_append_right]
@[simp] theorem set_len_add (l l':List (List AV)) (k:Nat) (x:List AV):(l++l').set (l.length+k) x=l++l'.set k x:=by simp [List.set_append_right]
theorem Qv {l:List (List AV)} {n:Nat} {x:List AV} (h:l[n]? = some x):Qf l n=x:=by simp [Qf,List.getD_eq_getElem?_getD,-Zq,h]
def numOf:AV->Int
 | .int _ n=>n
 | _=>0
@[simp] theorem numOf_int (k:IntKind) (n:Int):numOf (.int k n)=n:=rfl
@[simp] theorem fullOf_full:Yl .full=true:=rfl
@[simp] theorem fullOf_nil:Yl .nil=true:=rfl
@[simp] theorem fullOf_ro:Yl .ro=false:=rfl
@[simp] theorem fullOf_nn:Yl .nn=false:=rfl
@[simp] theorem fullOf_own (i s:Nat):Yl (.own i s)=false:=rfl
@[simp] theorem chunk_zero (sz:Nat) (l:List AV):chunk sz 0 l=[]:=rfl
@[simp] theorem chunk_succ (sz n:Nat) (l:List AV):chunk sz (n+1) l=l.take sz::chunk sz n (l.drop sz):=rfl
@[simp] theorem bytesL_nil:Yr []=some []:=rfl
@[simp] theorem bytesL_cons (n:Int) (r:List (List AV)):Yr ([.int .u8 n]::r)=(match Yr r with | some l=>some (UInt8.ofNat n.toNat::l) | _=>none):=by
 simp only [Yr,byteOf]
 cases Yr r<;>rfl
@[simp] theorem asB_bool (b:Bool):asB (.bool b)=some (true,b):=rfl
@[simp] theorem isB_bool (b:Bool):isB (.bool b)=true:=rfl
@[simp] theorem bOf_bool (b:Bool):bOf (.bool b)=b:=rfl
@[simp] theorem asB_gdF (a:AV):asB (.gd false a)=some (false,bOf a):=rfl
@[simp] theorem asB_gdT (a:AV):asB (.gd true a)=some (isB a,bOf a):=rfl
@[simp] theorem asB_gd (g b:Bool):asB (.gd g (.bool b))=some (g,b):=by cases g<;>rfl
@[simp] theorem gvw_bool (want g:Bool):gvw want (.bool g)=some (g==want):=rfl
@[simp] theorem gvw_gd (want d b:Bool):gvw want (.gd d (.bool b))=some (d&&(b==want)):=rfl
@[simp] theorem gvw_gdF (want:Bool) (a:AV):gvw want (.gd false a)=some false:=by cases a<;>rfl
@[simp] theorem evS_tmp (gl:Nat->AV) (T:List AV) (t:Nat):evS gl T (.tmp t)=strip (nth T t):=rfl
@[simp] theorem evS_const (gl:Nat->AV) (T:List AV) (a:AV):evS gl T (.const a)=strip a:=rfl
@[simp] theorem evS_func (gl:Nat->AV) (T:List AV) (f:FuncId):evS gl T (.func f)=.fn f [] []:=rfl
@[simp] theorem evS_glob (gl:Nat->AV) (T:List AV) (g:Nat):evS gl T (.glob g)=strip (gl g):=rfl
section
variable (P:Program) (gl:Nat->AV) (orc:Nat->FuncId->List AV->AV) (Y:YT) (K:AS->Prop) (r:List SO) (T:List AV) (m:AM) (d:Option Nat) (op:SOp) (xs:List Opd) (s:AS)
@[simp] theorem vcOps_nil:Xy P gl orc Y [] s K=K s:=nd rfl
@[simp] theorem vcOps_none:Xy P gl orc Y (⟨d,op,none,xs⟩::r) s K=(if effy orc (ev gl s.T) s.m d op=true then Kw P gl Y (ev gl s.T) s.m (fun av m'=>Xy P gl orc Y r ⟨put s.T d av,m'⟩ K) op
   else (sop P gl orc (ev gl s.T) s.m d op).1/\Xy P gl orc Y r ⟨put s.T d (sop P gl orc (ev gl s.T) s.m d op).2.1,(sop P gl orc (ev gl s.T) s.m d op).2.2⟩ K):=nd rfl
@[simp] theorem vcOps_some (t:Nat) (want:Bool):Xy P gl orc Y (⟨d,op,some (some t,want),xs⟩::r) s K=(match gvw want (s.T.getD t .junk) with
   | some gw=>gok gl s.T gw (gxs op xs) /\
     if effy orc (evG gl s.T op) s.m d op=true then
      (gw=true->Kw P gl Y (evG gl s.T op) s.m (fun av m'=>Xy P gl orc Y r ⟨put s.T d (.gd true av),m'⟩ K) op)/\(gw=false->Xy P gl orc Y r ⟨put s.T d (.gd false (.bool false)),s.m⟩ K)
     else (gw=true->(rop P gl orc (evG gl s.T op) s.m d op).1) /\
      Xy P gl orc Y r ⟨put s.T d (.gd gw (rop P gl orc (evG gl s.T op) s.m d op).2),s.m⟩ K
   | none=>False):=nd rfl
variable (l2:List SO) (nb:List (List AV)) (o:SO)
@[simp] theorem vcD_nil:vcD P gl orc Y l2 K [] T m nb=Xy P gl orc Y l2 ⟨T,{ m with boxes:=m.boxes++nb }⟩ K:=nd rfl
@[simp] theorem vcD_cons:vcD P gl orc Y l2 K (o::r) T m nb=((dop P gl orc o T m nb).1/\vcD P gl orc Y l2 K r (put T o.dst (dop P gl orc o T m nb).2.1) m (dop P gl orc o T m nb).2.2):=nd rfl
end
attribute [simp] rawOp evG gxs effy Kw callV dop ev Yo oneOf strip gok setA Qah sop rop binV binI binS binBool Zl kindF eqF Km eqFs loOf hiOf lenS cellsS mutO vcNxt keyA intsA keyAV
@[simp] theorem post_normal (P:Program) (gl:Nat->AV) (orc:Nat->FuncId->List AV->AV) (rs:List SOp) (r:AV) (s:AS):post P gl orc rs r .normal s=((Yo P gl orc s rs).1/\cvn s.m 6 (oneOf (Yo P gl orc s rs).2)=r):=rfl
@[simp] theorem post_ret (P:Program) (gl:Nat->AV) (orc:Nat->FuncId->List AV->AV) (rs:List SOp) (r:AV) (s:AS):post P gl orc rs r .ret s=((Yo P gl orc s rs).1/\cvn s.m 6 (oneOf (Yo P gl orc s rs).2)=r):=rfl
@[simp] theorem postE_normal (P:Program) (gl:Nat->AV) (orc:Nat->FuncId->List AV->AV) (rs:List SOp) (K:AV->AM->Prop) (s:AS):postE P gl orc rs K .normal s=((Yo P gl orc s rs).1/\K (oneOf (Yo P gl orc s rs).2) s.m):=rfl
@[simp] theorem postE_ret (P:Program) (gl:Nat->AV) (orc:Nat->FuncId->List AV->AV) (rs:List SOp) (K:AV->AM->Prop) (s:AS):postE P gl orc rs K .ret s=((Yo P gl orc s rs).1/\K (oneOf (Yo P gl orc s rs).2) s.m):=rfl
section
variable (m:AM) (d:Nat)
@[simp] theorem isCell_bool (b:Bool):Qs (.bool b)=true:=rfl
@[simp] theorem isCell_int (k:IntKind) (n:Int):Qs (.int k n)=true:=rfl
@[simp] theorem isCell_str (s:ByteArray):Qs (.str s)=true:=rfl
@[simp] theorem isCell_sl (rt:Rt) (r:List (List AV)):Qs (.sl rt r)=true:=rfl
@[simp] theorem isCell_ep (r:List AV) (o:Nat):Qs (.ep r o)=true:=rfl
@[simp] theorem isCell_ptr (i o:Nat):Qs (.ptr i o)=true:=rfl
@[simp] theorem isCell_bs (i o n z:Nat):Qs (.bs i o n z)=true:=rfl
@[simp] theorem isCell_fn (f:FuncId) (a b:List AV):Qs (.fn f a b)=true:=rfl
@[simp] theorem isCell_nilv (p:Bool):Qs (.nilv p)=true:=rfl
@[simp] theorem isCell_nilfn:Qs .nilfn=true:=rfl
@[simp] theorem isCell_yld (l:Nat):Qs (.yld l)=true:=rfl
@[simp] theorem isCell_mp (i:Nat):Qs (.mp i)=true:=rfl
@[simp] theorem isCell_it (i:Nat):Qs (.it i)=true:=rfl
@[simp] theorem isCell_mobj (k:Nat) (l:List (List Int×AV)):Qs (.mobj k l)=false:=rfl
@[simp] theorem isCell_mitr (i n:Nat) (l:List Nat):Qs (.mitr i n l)=false:=rfl
@[simp] theorem isCell_junk:Qs .junk=false:=rfl
@[simp] theorem isCell_agg (cs:List AV):Qs (.agg cs)=false:=rfl
@[simp] theorem isCell_tup (cs:List AV):Qs (.tup cs)=false:=rfl
@[simp] theorem isCell_gd (g:Bool) (a:AV):Qs (.gd g a)=false:=rfl
@[simp] theorem bare_bool (b:Bool):bare (.bool b)=true:=rfl
@[simp] theorem bare_int (k:IntKind) (n:Int):bare (.int k n)=true:=rfl
@[simp] theorem bare_str (s:ByteArray):bare (.str s)=true:=rfl
@[simp] theorem bare_sl (rt:Rt) (r:List (List AV)):bare (.sl rt r)=true:=rfl
@[simp] theorem bare_ep (r:List AV) (o:Nat):bare (.ep r o)=true:=rfl
@[simp] theorem bare_ptr (i o:Nat):bare (.ptr i o)=true:=rfl
@[simp] theorem bare_bs (i o n z:Nat):bare (.bs i o n z)=true:=rfl
@[simp] theorem bare_fn (f:FuncId) (a b:List AV):bare (.fn f a b)=true:=rfl
@[simp] theorem bare_nilv (p:Bool):bare (.nilv p)=true:=rfl
@[simp] theorem bare_nilfn:bare .nilfn=true:=rfl
@[simp] theorem bare_yld (l:Nat):bare (.yld l)=true:=rfl
@[simp] theorem bare_mp (i:Nat):bare (.mp i)=true:=rfl
@[simp] theorem bare_it (i:Nat):bare (.it i)=true:=rfl
@[simp] theorem bare_mobj (k:Nat) (l:List (List Int×AV)):bare (.mobj k l)=false:=rfl
@[simp] theorem bare_mitr (i n:Nat) (l:List Nat):bare (.mitr i n l)=false:=rfl
@[simp] theorem bare_agg (cs:List AV):bare (.agg cs)=true:=rfl
@[simp] theorem bare_junk:bare .junk=false:=rfl
@[simp] theorem bare_tup (cs:List AV):bare (.tup cs)=false:=rfl
@[simp] theorem bare_gd (g:Bool) (a:AV):bare (.gd g a)=false:=rfl
@[simp] theorem cellsOf_bool (b:Bool):cellsOf (.bool b)=[.bool b]:=rfl
@[simp] theorem cellsOf_int (k:IntKind) (n:Int):cellsOf (.int k n)=[.int k n]:=rfl
@[simp] theorem cellsOf_str (s:ByteArray):cellsOf (.str s)=[.str s]:=rfl
@[simp] theorem cellsOf_sl (rt:Rt) (r:List (List AV)):cellsOf (.sl rt r)=[.sl rt r]:=rfl
@[simp] theorem cellsOf_ep (r:List AV) (o:Nat):cellsOf (.ep r o)=[.ep r o]:=rfl
@[simp] theorem cellsOf_ptr (i o:Nat):cellsOf (.ptr i o)=[.ptr i o]:=rfl
@[simp] theorem cellsOf_bs (i o n z:Nat):cellsOf (.bs i o n z)=[.bs i o n z]:=rfl
@[simp] theorem cellsOf_fn (f:FuncId) (a b:List AV):cellsOf (.fn f a b)=[.fn f a b]:=rfl
@[simp] theorem cellsOf_nilv (p:Bool):cellsOf (.nilv p)=[.nilv p]:=rfl
@[simp] theorem cellsOf_nilfn:cellsOf .nilfn=[.nilfn]:=rfl
@[simp] theorem cellsOf_yld (l:Nat):cellsOf (.yld l)=[.yld l]:=rfl
@[simp] theorem cellsOf_mp (i:Nat):cellsOf (.mp i)=[.mp i]:=rfl
@[simp] theorem cellsOf_it (i:Nat):cellsOf (.it i)=[.it i]:=rfl
@[simp] theorem cellsOf_agg (cs:List AV):cellsOf (.agg cs)=cs:=rfl
@[simp] theorem cvn_bool (b:Bool):cvn m (d+1) (.bool b)=.bool b:=rfl
@[simp] theorem cvn_int (k:IntKind) (n:Int):cvn m (d+1) (.int k n)=.int k n:=rfl
@[simp] theorem cvn_str (s:ByteArray):cvn m (d+1) (.str s)=.str s:=rfl
@[simp] theorem cvn_nilv (p:Bool):cvn m (d+1) (.nilv p)=.nilv p:=rfl
@[simp] theorem cvn_nilfn:cvn m (d+1) .nilfn=.nilfn:=rfl
@[simp] theorem cvn_yld (l:Nat):cvn m (d+1) (.yld l)=.junk:=rfl
@[simp] theorem cvn_mp (i:Nat):cvn m (d+1) (.mp i)=.junk:=rfl
@[simp] theorem cvn_it (i:Nat):cvn m (d+1) (.it i)=.junk:=rfl
@[simp] theorem cvn_junk:cvn m (d+1) .junk=.junk:=rfl
@[simp] theorem cvn_agg (cs:List AV):cvn m (d+1) (.agg cs)=.agg (cs.map (cvn m d)):=rfl
@[simp] theorem cvn_tup (cs:List AV):cvn m (d+1) (.tup cs)=.tup (cs.map (cvn m d)):=rfl
@[simp] theorem cvn_fn (f:FuncId) (a b:List AV):cvn m (d+1) (.fn f a b)=.fn f (a.map (cvn m d)) (b.map (cvn m d)):=rfl
@[simp] theorem cvn_ro (r:List (List AV)):cvn m (d+1) (.sl .ro r)=.sl .ro r:=rfl
@[simp] theorem cvn_full (r:List (List AV)):cvn m (d+1) (.sl .full r)=.sl .full r:=rfl
@[simp] theorem cvn_nil (r:List (List AV)):cvn m (d+1) (.sl .nil r)=.sl .nil r:=rfl
@[simp] theorem cvn_nn (r:List (List AV)):cvn m (d+1) (.sl .nn r)=.sl .nn r:=rfl
@[simp] theorem cvn_own (i s:Nat) (r:List (List AV)):cvn m (d+1) (.sl (.own i s) r)=.sl .ro r:=rfl
@[simp] theorem cvn_ep (r:List AV) (o:Nat):cvn m (d+1) (.ep r o)=.ep r o:=rfl
@[simp] theorem cvn_bs (i o n z:Nat):cvn m (d+1) (.bs i o n z)=if o+n*z<=(m.boxes.getD i []).length then .sl .ro (chunk z n (((m.boxes.getD i []).map (cvn m d)).drop o)) else .junk:=by
 simp only [cvn]
 cases h:Nat.ble (o+n*z) (m.boxes.getD i []).length with
 | true=>rw [if_pos (Nat.le_of_ble_eq_true h)];rfl
 | false=>rw [if_neg (fun h'=>by rw [Nat.ble_eq_true_of_le h'] at h;cases h)];rfl
@[simp] theorem cvn_ptr (i o:Nat):cvn m (d+1) (.ptr i o)=.ep ((m.boxes.getD i []).map (cvn m d)) o:=rfl
@[simp] theorem hasP_bool (b:Bool):Zj (d+1) (.bool b)=false:=rfl
@[simp] theorem hasP_int (k:IntKind) (n:Int):Zj (d+1) (.int k n)=false:=rfl
@[simp] theorem hasP_str (s:ByteArray):Zj (d+1) (.str s)=false:=rfl
@[simp] theorem hasP_nilv (p:Bool):Zj (d+1) (.nilv p)=false:=rfl
@[simp] theorem hasP_nilfn:Zj (d+1) .nilfn=false:=rfl
@[simp] theorem hasP_yld (l:Nat):Zj (d+1) (.yld l)=false:=rfl
@[simp] theorem hasP_mp (i:Nat):Zj (d+1) (.mp i)=false:=rfl
@[simp] theorem hasP_it (i:Nat):Zj (d+1) (.it i)=false:=rfl
@[simp] theorem hasP_junk:Zj (d+1) .junk=false:=rfl
@[simp] theorem hasP_agg (cs:List AV):Zj (d+1) (.agg cs)=cs.any (Zj d):=rfl
@[simp] theorem hasP_tup (cs:List AV):Zj (d+1) (.tup cs)=cs.any (Zj d):=rfl
@[simp] theorem hasP_fn (f:FuncId) (a b:List AV):Zj (d+1) (.fn f a b)=(a.any (Zj d)||b.any (Zj d)):=rfl
@[simp] theorem hasP_sl (rt:Rt) (r:List (List AV)):Zj (d+1) (.sl rt r)=false:=rfl
@[simp] theorem hasP_ep (r:List AV) (o:Nat):Zj (d+1) (.ep r o)=false:=rfl
@[simp] theorem hasP_bs (i o n z:Nat):Zj (d+1) (.bs i o n z)=true:=rfl
@[simp] theorem hasP_ptr (i o:Nat):Zj (d+1) (.ptr i o)=true:=rfl
@[simp] theorem flat_bool (b:Bool):flat (.bool b)=true:=rfl
@[simp] theorem flat_int (k:IntKind) (n:Int):flat (.int k n)=true:=rfl
@[simp] theorem flat_str (s:ByteArray):flat (.str s)=true:=rfl
@[simp] theorem flat1_bool (b:Bool):flat1 (.bool b)=true:=rfl
@[simp] theorem flat1_int (k:IntKind) (n:Int):flat1 (.int k n)=true:=rfl
@[simp] theorem flat1_str (s:ByteArray):flat1 (.str s)=true:=rfl
@[simp] theorem flat_tup (cs:List AV):flat (.tup cs)=cs.all flat1:=rfl
end
def ok1:AV->Bool
 | .bool _ | .int _ _ | .str _ | .sl .ro _ | .sl .full _ | .sl .nil _ | .sl .nn _ | .nilfn | .ep _ _=>true
 | _=>false
@[simp] theorem ok1_bool (b:Bool):ok1 (.bool b)=true:=rfl
@[simp] theorem ok1_int (k:IntKind) (n:Int):ok1 (.int k n)=true:=rfl
@[simp] theorem ok1_str (s:ByteArray):ok1 (.str s)=true:=rfl
@[simp] theorem ok1_sl (r:List (List AV)):ok1 (.sl .ro r)=true:=rfl
@[simp] theorem ok1_full (r:List (List AV)):ok1 (.sl .full r)=true:=rfl
@[simp] theorem ok1_nil (r:List (List AV)):ok1 (.sl .nil r)=true:=rfl
@[simp] theorem ok1_nn (r:List (List AV)):ok1 (.sl .nn r)=true:=rfl
@[simp] theorem ok1_ep (r:List AV) (o:Nat):ok1 (.ep r o)=true:=rfl
theorem cvn_ok1 (m:AM) (d:Nat) {a:AV} (h:ok1 a=true):cvn m (d+1) a=a:=by
 cases a<;>simp [ok1] at h |-
 rename_i rt rows
 cases rt<;>simp at h |-
theorem isCell_ok1 {a:AV} (h:ok1 a=true):Qs a=true:=by
 cases a<;>simp [ok1] at h |-
def okRow (row:List AV):Bool:=row.all ok1
theorem Qae (m:AM) (d:Nat) {row:List AV} (h:okRow row=true):row.map (cvn m (d+1))=row:=by
 have:row.map (cvn m (d+1))=row.map id:=List.map_congr_left fun a ha=>cvn_ok1 m d (List.all_eq_true.1 h a ha)
 rw [this,List.map_id]
theorem Qe {n:Int} (h1 : -9223372036854775808<=n) (h2:n<=9223372036854775807):IntKind.i64.wrap n=n:=by
 rw [IntKind.wrap_i64];omega
theorem wrS (i:Nat) (h:i < 1000000000000000000):IntKind.i64.wrap ((i:Int)+1)=((i+1:Nat):Int):=by rw [Qe]<;>omega
theorem getS {α:Type} {l:List α} {i:Nat} (h:i < l.length):∃ x,l[i]? = some x:=⟨_,List.getElem?_eq_getElem h⟩
@[simp] theorem Vw (m:AM) (l:Nat) (x:LS):(m.at_ l x).boxes=m.boxes:=rfl
@[simp] theorem at_lens (m:AM) (l:Nat) (x:LS):(m.at_ l x).lens=m.lens:=rfl
@[simp] theorem at_st (m:AM) (l:Nat) (x:LS):(m.at_ l x).st=upd m.st l x:=rfl
@[simp] theorem at_at (m:AM) (l:Nat) (x y:LS):(m.at_ l x).at_ l y=m.at_ l y:=by
 simp only [AM.at_];congr 1;funext i;simp only [upd];split<;>rfl
@[simp] theorem upd_same (st:Nat->LS) (l:Nat) (x:LS):upd st l x l=x:=by simp [upd]
@[simp] theorem upd_upd (st:Nat->LS) (l:Nat) (x y:LS):upd (upd st l x) l y=upd st l y:=by funext i;simp only [upd];split<;>rfl
def Ext (m m':AM):Prop:=(∃ bx,m'.boxes=m.boxes++bx)/\(∃ lx,m'.lens=m.lens++lx)/\∀ l,m.st l≠.gone->m'.st l=m.st l
theorem Ext.refl (m:AM):Ext m m:=⟨⟨[],by simp⟩,⟨[],by simp⟩,fun _ _=>rfl⟩
theorem Ext.trans {m m' m'':AM} (h:Ext m m') (k:Ext m' m''):Ext m m'':=by
 obtain ⟨⟨b,h1⟩,⟨c,h2⟩,h3⟩:=h
 obtain ⟨⟨b',k1⟩,⟨c',k2⟩,k3⟩:=k
 exact ⟨⟨b++b',by rw [k1,h1,List.append_assoc]⟩,⟨c++c',by rw [k2,h2,List.append_assoc]⟩,fun l hl=>by rw [k3 l (by rw [h3 l hl];exact hl),h3 l hl]⟩
theorem Ext.box (m:AM) (b:List (List AV)):Ext m { m with boxes:=m.boxes++b }:=⟨⟨b,rfl⟩,⟨[],by simp⟩,fun _ _=>rfl⟩
theorem Ext.gone {m m':AM} (h:Ext m m') (l:Nat):Ext (m.at_ l .gone) (m'.at_ l .gone) :=
 ⟨h.1,h.2.1,fun l' hl'=>by
  by_cases e:l'=l
  ·subst e;simp at hl'
  ·simp only [at_st,upd,e,if_false] at hl' |-;exact h.2.2 l' hl'⟩
def Fold (y:List AV->AM->(Bool->AM->Prop)->Prop) (K:AM->Prop):List (List AV)->AM->Prop
 | [],m=>∀ m',Ext m m'->K m'
 | x::xs,m=>∀ m',Ext m m'->∀ K':Bool->AM->Prop,(∀ m'',Fold y K xs m''->K' true m'')->(∀ m'',(∀ m3,Ext m'' m3->K m3)->K' false m'')->y x m' K'
theorem Fold.ext {y:List AV->AM->(Bool->AM->Prop)->Prop} {K:AM->Prop} {xs:List (List AV)} {m m':AM} (h:Fold y K xs m) (e:Ext m m'):Fold y K xs m':=by
 cases xs with
 | nil=>exact fun m2 e2=>h m2 (e.trans e2)
 | cons x xs=>exact fun m2 e2=>h m2 (e.trans e2)
def Iter (P:Program) (gl:Nat->AV) (f:FuncId) (first cap:List AV) (xs:List (List AV)):Prop :=
 ∀ (Y:YT) (l:Nat) (m:AM) (K:AM->Prop),Fold (Y l) K xs m->EffY P gl Y f (first++[.yld l]++cap) m fun _ m'=>K m'
theorem Ud {P:Program} {gl:Nat->AV} {orc:Nat->FuncId->List AV->AV} {Y:YT} {s:AS} {Q:Exit->AS->Prop} {g:Opd} {ps:List Nat} {asg body:SC} {f:FuncId} {first cap:List AV} {xs:List (List AV)}
  (hg:ev gl s.T g=.fn f first cap) (hit:Iter P gl f first cap xs) (hlen:∀ x∈xs,x.length=ps.length) (I:Nat->AM->Prop) (X:Exit->AM->Prop) (h0:I 0 s.m)
  (hI:∀ i m m',I i m->Ext m m'->I i m') (hX:∀ ex m m',X ex m->Ext m m'->X ex m')
  (hb:∀ (l i:Nat) (m:AM) (x:List AV),s.m.st l=.gone->m.st l=.ready->I i (m.at_ l .gone)->xs[i]? = some x->∀ K':Exit->AS->Prop,
   (∀ s',I (i+1) (s'.m.at_ l .gone)->K' .normal s')->(∀ s',X .ret (s'.m.at_ l .gone)->K' .ret s')->(∀ id s',X (.exit id) (s'.m.at_ l .gone)->K' (.exit id) s') ->
   vc P gl orc Y asg ⟨Jc s.T ps x,m⟩ (Qasg l fun s'=>vc P gl orc Y body s' K'))
  (hend:∀ m,I xs.length m->Q .normal ⟨s.T,m⟩) (hex:∀ ex m,X ex m->Q ex ⟨s.T,m⟩):vc P gl orc Y (.rfunc g ps asg body) s Q:=by
 simp only [vc,hg]
 intro hl
 generalize hln:s.m.ln=l at hl
 refine hit _ l s.m.begin_ (fun m'=>Qend l s.T m' Q (m'.st l)) ?_
 have hrd:∀ {m m':AM},m.st l=.ready->Ext m m'->m'.st l=.ready:=fun h e=>by rw [e.2.2 l (by rw [h];simp),h]
 have key:∀ (n i:Nat) (m:AM),i+n=xs.length->I i (m.at_ l .gone)->m.st l=.ready->Fold (Yin Y l ps.length (fun args m K=>vc P gl orc Y asg ⟨Jc s.T ps args,m⟩ (Qasg l fun s'=>vc P gl orc Y body s' (Qrnd l K))) l) (fun m'=>Qend l s.T m' Q (m'.st l)) (xs.drop i) m:=by
  intro n
  induction n with
  | zero =>
   intro i m hi hIm hm
   rw [List.drop_eq_nil_of_le (by omega)]
   intro m' e
   simp only [hrd hm e,Qend]
   obtain rfl:i=xs.length:=by omega
   exact hend _ (hI _ _ _ hIm (e.gone l))
  | succ n ih =>
   intro i m hi hIm hm
   have hlt:i < xs.length:=by omega
   rw [List.drop_eq_getElem_cons hlt]
   intro m' e K' hT hF
   simp only [Yin,if_true]
   refine ⟨hrd hm e,hlen _ (List.getElem_mem hlt),?_⟩
   refine hb l i m' xs[i] hl (hrd hm e) (hI _ _ _ hIm (e.gone l)) (List.getElem?_eq_getElem hlt) (Qrnd l K') (fun s' hI'=>?_) (fun s' hQ=>?_) fun id s' hQ=>?_
   ·refine hT _ (ih (i+1) _ (by omega) ?_ (by simp))
    simpa using hI'
   ·refine hF _ fun m3 e3=>?_
    have h3:m3.st l=.done .ret:=by have:=e3.2.2 l (by simp);simpa using this
    simp only [h3]
    exact hex _ _ (hX _ _ _ hQ (by have:=e3.gone l;simpa using this))
   ·refine hF _ fun m3 e3=>?_
    have h3:m3.st l=.done (.exit id):=by have:=e3.2.2 l (by simp);simpa using this
    simp only [h3]
    exact hex _ _ (hX _ _ _ hQ (by have:=e3.gone l;simpa using this))
 have:=key xs.length 0 s.m.begin_ (by simp) (hI 0 s.m _ h0 ⟨⟨[],by simp [AM.begin_]⟩,⟨[],by simp [AM.begin_]⟩,fun l' hl'=>by
  have:l'≠l:=by rintro rfl;exact hl' hl
  simp [AM.begin_,hln,upd,this]⟩) (by simp [AM.begin_,hln])
 simpa using this
attribute [simp] Jc
section
variable (l:Nat) (k:AS->Prop) (s:AS) (id:Nat)
@[simp] theorem Qasg_normal:Qasg l k .normal s=(s.m.st l=.ready/\k ⟨s.T,s.m.at_ l .busy⟩):=nd rfl
end
end Go.Abs
namespace Go.Abs
open Go Go.RowKit
def look:List (Nat×AV)->Nat->AV
 | [],_=>.junk
 | (d,v)::r,t=>if d=t then v else look r t
def Vd (n:Nat) (E:List (Nat×AV)):List AV:=(List.range n).map (look E)
def pairs:Nat->List AV->List (Nat×AV)
 | _,[]=>[]
 | i,a::r=>(i,a)::pairs (i+1) r
@[simp] theorem look_cons (d:Nat) (v:AV) (r:List (Nat×AV)) (t:Nat):look ((d,v)::r) t=if d=t then v else look r t:=rfl
@[simp] theorem look_nil (t:Nat):look [] t=.junk:=rfl
@[simp] theorem pairs_nil (i:Nat):pairs i []=[]:=rfl
@[simp] theorem pairs_cons (i:Nat) (a:AV) (r:List AV):pairs i (a::r)=(i,a)::pairs (i+1) r:=rfl
@[simp] theorem nth_env {n t:Nat} {E:List (Nat×AV)} (h:t < n):nth (Vd n E) t=look E t:=by
 simp [nth,Vd,List.getD_eq_getElem?_getD,-Qag,h]
theorem Xh {n d:Nat} {E:List (Nat×AV)} (h:d < n) (v:AV):(Vd n E).set d v=Vd n ((d,v)::E):=by
 apply List.ext_getElem (by simp [Vd])
 intro i h1 h2
 rw [List.getElem_set]
 simp [Vd]
@[simp] theorem put_env {n d:Nat} {E:List (Nat×AV)} (h:d < n) (v:AV):put (Vd n E) (some d) v=Vd n ((d,v)::E):=Xh h v
@[simp] theorem put_none (T:List AV) (v:AV):put T none v=T:=rfl
@[simp] theorem setPs_env {n d:Nat} {E:List (Nat×AV)} (h:d < n) (ps:List Nat) (x:AV) (xs:List AV):Jc (Vd n E) (d::ps) (x::xs)=Jc (Vd n ((d,x)::E)) ps xs:=by
 rw [Jc,Xh h]
theorem look_pairs:∀ (l:List AV) (i t:Nat),look (pairs i l) t=if i<=t then l.getD (t - i) .junk else .junk
 | [],i,t=>by simp [-Qag]
 | a::r,i,t=>by
  rw [pairs_cons,look_cons,look_pairs r (i+1) t]
  by_cases h:i=t
  ·subst h;simp [-Qag]
  ·rw [if_neg h]
   by_cases h':i<=t
   ·rw [if_pos (by omega),if_pos h',show t - i=(t - (i+1))+1 by omega]
    simp [-Qag]
   ·rw [if_neg (by omega),if_neg h']
theorem start_env {n:Nat} {l:List AV} (h:l.length<=n):l++List.replicate (n - l.length) .junk=Vd n (pairs 0 l):=by
 apply List.ext_getElem
 ·simp [Vd];omega
 ·intro i h1 h2
  simp only [Vd,List.getElem_map,List.getElem_range,look_pairs,Nat.zero_le,if_true,Nat.sub_zero]
  rw [List.getElem_append]
  split
  ·rename_i hi;simp [List.getD_eq_getElem?_getD,-Qag,hi]
  ·rename_i hi;simp [List.getD_eq_getElem?_getD,-Qag,hi]
section
variable {P:Program} {gl:Nat->AV} {Y:YT}
theorem Qn {f:FuncId} {sc:SC} {rs:List SOp} {n:Nat} (hc:FCode P f sc rs n) (orc:Nat->FuncId->List AV->AV) {l:List AV} {r:AV} (hn:l.length<=n)
  (h:vc P gl orc Y0 sc ⟨Vd n (pairs 0 l),⟨[],[],fun _=>.gone,0⟩⟩ (post P gl orc rs r)):Pure P gl f l r:=pure_of hc orc (by rw [start_env hn];exact h)
theorem Zb {f:FuncId} {sc:SC} {rs:List SOp} {n:Nat} (hc:FCode P f sc rs n) (orc:Nat->FuncId->List AV->AV) {l:List AV} {m:AM} {K:AV->AM->Prop} (hn:l.length<=n)
  (h:vc P gl orc Y sc ⟨Vd n (pairs 0 l),m⟩ (postE P gl orc rs K)):EffY P gl Y f l m K:=eff_of hc orc (by rw [start_env hn];exact h)
end
def Agree (W:List Nat) (E' E:List (Nat×AV)):Prop:=∀ t,W.contains t=false->look E' t=look E t
theorem Qa (W:List Nat) (E:List (Nat×AV)):Agree W E E:=fun _ _=>rfl
theorem Qb {W:List Nat} {E' E:List (Nat×AV)} {k:Nat} (v:AV) (hk:W.contains k=true) (h:Agree W E' E):Agree W ((k,v)::E') E:=fun t ht=>by
 rw [look_cons,if_neg (by rintro rfl;rw [hk] at ht;cases ht)];exact h t ht
def Qbe (n:Nat) (E:List (Nat×AV)) (W:List Nat) (R:(Nat->AV)->AM->Prop) (μ:(Nat->AV)->AM->Nat) (f:Nat->AV) (m:AM) (Q:Exit->AS->Prop):Exit->AS->Prop
 | .normal,s'=>(∃ E',s'.T=Vd n E'/\Agree W E' E)/\R (nth s'.T) s'.m/\μ (nth s'.T) s'.m < μ f m
 | ex,s'=>Q ex s'
def Ki (f:Nat->AV):List Nat->List (Nat×AV)->List (Nat×AV)
 | [],E=>E
 | i::W,E=>(i,f i)::Ki f W E
@[simp] theorem wpairs_nil (f:Nat->AV) (E:List (Nat×AV)):Ki f [] E=E:=rfl
@[simp] theorem wpairs_cons (f:Nat->AV) (i:Nat) (W:List Nat) (E:List (Nat×AV)):Ki f (i::W) E=(i,f i)::Ki f W E:=rfl
theorem look_wpairs (f:Nat->AV) (E:List (Nat×AV)) (t:Nat):∀ W,look (Ki f W E) t=if W.contains t then f t else look E t
 | []=>by simp
 | i::W=>by
  rw [wpairs_cons,look_cons,look_wpairs f E t W]
  by_cases h:i=t
  ·subst h;simp
  ·have h':t≠i:=Ne.symm h
   simp [h,h']
theorem agree_wpairs (f:Nat->AV) (W:List Nat) (E:List (Nat×AV)):Agree W (Ki f W E) E:=fun t ht=>by rw [look_wpairs,ht];rfl
theorem env_ext {n:Nat} {E E':List (Nat×AV)} (h:∀ t,t < n->look E t=look E' t):Vd n E=Vd n E':=List.map_congr_left fun t ht=>h t (List.mem_range.1 ht)
theorem agree_iff {n:Nat} {W:List Nat} {E:List (Nat×AV)} {T:List AV}:(∃ E',T=Vd n E'/\Agree W E' E)<->T=Vd n (Ki (nth T) W E):=by
 constructor
 ·rintro ⟨E',rfl,h⟩
  refine env_ext fun t ht=>?_
  rw [look_wpairs]
  cases hc:W.contains t with
  | true=>simp only [if_true];rw [nth_env ht]
  | false=>simp only [Bool.false_eq_true,if_false];exact h t hc
 ·exact fun h=>⟨_,h,agree_wpairs _ _ _⟩
theorem Ql {P:Program} {gl:Nat->AV} {orc:Nat->FuncId->List AV->AV} {Y:YT} {n:Nat} {E:List (Nat×AV)} {m0:AM} {Q:Exit->AS->Prop} {c:SC} (W:List Nat) (R:(Nat->AV)->AM->Prop) (μ:(Nat->AV)->AM->Nat)
  (h0:R (nth (Vd n E)) m0) (hr:∀ f m,R f m->vc P gl orc Y c ⟨Vd n (Ki f W E),m⟩ (Qbe n E W R μ f m Q)):vc P gl orc Y (.loop c) ⟨Vd n E,m0⟩ Q:=by
 refine vc_loop P gl orc Y ⟨Vd n E,m0⟩ Q (fun s'=>s'.T=Vd n (Ki (nth s'.T) W E)/\R (nth s'.T) s'.m) (fun s'=>μ (nth s'.T) s'.m) ⟨agree_iff.1 ⟨E,rfl,Qa _ _⟩,h0⟩ ?_
 rintro ⟨T',m'⟩ ⟨h1,h2⟩
 have:=hr _ m' h2
 rw [<- h1] at this
 have e:Qbe n E W R μ (nth T') m' Q=Qround (fun s'=>s'.T=Vd n (Ki (nth s'.T) W E)/\R (nth s'.T) s'.m) (fun s'=>μ (nth s'.T) s'.m) ⟨T',m'⟩ Q:=by
  funext ex s'
  cases ex<;>simp [Qbe,Qround,and_assoc,agree_iff]
 rwa [e] at this
section
variable (n:Nat) (E:List (Nat×AV)) (W:List Nat) (R:(Nat->AV)->AM->Prop) (μ:(Nat->AV)->AM->Nat) (f:Nat->AV) (m:AM) (Q:Exit->AS->Prop) (s:AS) (id:Nat)
@[simp] theorem QroundE_normal:Qbe n E W R μ f m Q .normal s=((∃ E',s.T=Vd n E'/\Agree W E' E)/\R (nth s.T) s.m/\μ (nth s.T) s.m < μ f m):=rfl
@[simp] theorem QroundE_exit:Qbe n E W R μ f m Q (.exit id) s=Q (.exit id) s:=rfl
@[simp] theorem QroundE_ret:Qbe n E W R μ f m Q .ret s=Q .ret s:=rfl
end
theorem ag {n:Nat} {E' E:List (Nat×AV)} {W:List Nat} (h:Agree W E' E):∃ E1,Vd n E'=Vd n E1/\Agree W E1 E:=⟨E',rfl,h⟩
end Go.Abs
namespace Go.Abs
open Go Go.RowKit
def contig (P:Program):List Field->Nat->Option Nat
 | [],n=>some n
 | f::r,n=>if f.offset=n then contig P r (n+P.cellsOf f.type) else none
def okT (P:Program):Nat->TypeId->Bool
 | 0,_=>false
 | d+1,t=>match P.underlying t with
  | some .bool | some (.int _) | some .string=>P.cellsOf t==1
  | some (.slice e)=>((P.cellsOf t==1)&&!(P.cellsOf e==0))&&okT P d e
  | some (.struct fs)=>(contig P fs.toList 0==some (P.cellsOf t))&&fs.toList.all fun f=>okT P d f.type
  | some (.array n e)=>(P.cellsOf t==n*P.cellsOf e)&&okT P d e
  | _=>false
def avs {H:Type} (P:Program):Nat->TypeId->DataW H->List AV
 | 0,_,_=>[]
 | d+1,t,x=>match P.underlying t,x with
  | some .bool,.lit (.bool b)=>[.bool b]
  | some (.int _),.lit (.int k n)=>[.int k n]
  | some .string,.lit (.string s)=>[.str ⟨s.toArray⟩]
  | some (.slice _),.nil=>[.sl .nil []]
  | some (.slice e),.slice elems _=>[.sl .nn (elems.map (avs P d e))]
  | some (.struct fs),.agg parts=>(fs.toList.zip parts).flatMap fun p=>avs P d p.1.type p.2
  | some (.array _ e),.agg parts=>parts.flatMap (avs P d e)
  | _,_=>[]
def Typed {H:Type} (P:Program):Nat->TypeId->DataW H->Prop
 | 0,_,_=>False
 | d+1,t,x=>match P.underlying t,x with
  | some .bool,.lit (.bool _)=>True
  | some (.int k),.lit (.int k' n)=>k'=k/\(Lit.int k n).wf=true
  | some .string,.lit (.string s)=>s.length<=maxLen
  | some (.slice _),.nil=>True
  | some (.slice e),.slice elems _=>elems.length<=maxLen/\∀ y∈elems,Typed P d e y
  | some (.struct fs),.agg parts=>parts.length=fs.size/\∀ p∈fs.toList.zip parts,Typed P d p.1.type p.2
  | some (.array n e),.agg parts=>parts.length=n/\∀ y∈parts,Typed P d e y
  | _,_=>False
def top:Nat->Nat->Prop:=fun _ _=>True
section
variable {H:Type} {enc:TypeId×Value->H} {P:Program} {w:World} {base:Nat} {sp:Nat->Bool} {held:Bool}
theorem cells_spec {a:Addr} {n:Nat} {cs:List Value} (h:w.cells? base a n=some cs):cs.length=n/\∀ (j:Nat) (v:Value),cs[j]? = some v->w.cell? (a.add j)=some v:=by
 unfold World.cells? at h
 split at h
 ·obtain ⟨h1,h2⟩:=Qaf _ _ _ h
  refine ⟨by simpa using h1,fun j v hj=>?_⟩
  have hlt:j < n:=by
   have:=(List.getElem?_eq_some_iff.1 hj).1
   simp at h1;omega
  exact h2 j j v (by simp [hlt]) hj
 ·cases h
theorem seg_rep {γ:G}:∀ (l:List (List AV)) (segs:List (List Value)),l.length=segs.length->(∀ (i:Nat) (as:List AV) (vs:List Value),l[i]? = some as->segs[i]? = some vs->RepL w γ as vs)->RepL w γ l.flatten segs.flatten
 | [],[],_,_=>RepL.nil
 | [],_::_,h,_=>by simp at h
 | _::_,[],h,_=>by simp at h
 | as::l,vs::segs,h,hr=>by
  rw [List.flatten_cons,List.flatten_cons]
  exact (hr 0 as vs rfl rfl).append (seg_rep l segs (by simpa using h) fun i as vs h1 h2=>hr (i+1) as vs (by simpa using h1) (by simpa using h2))
theorem contig_segs {cs:List Value}:∀ (fs:List Field) (n m:Nat),contig P fs n=some m->m=cs.length->n<=cs.length->(fs.map fun f=>(cs.drop f.offset).take (P.cellsOf f.type)).flatten=cs.drop n
 | [],n,m,h,hm,hn=>by simp [contig] at h;subst h;subst hm;simp
 | f::fs,n,m,h,hm,hn=>by
  simp only [contig] at h
  split at h
  ·rename_i ho
   subst ho
   have hle:∀ (fs:List Field) (n m:Nat),contig P fs n=some m->n<=m:=by
    intro fs
    induction fs with
    | nil=>intro n m h;simp [contig] at h;omega
    | cons f fs ih =>
     intro n m h
     simp only [contig] at h
     split at h
     ·have:=ih _ _ h;omega
     ·cases h
   have h1:=hle _ _ _ h
   have ih:=contig_segs fs _ m h hm (by omega)
   rw [List.map_cons,List.flatten_cons,ih]
   rw [<- List.drop_drop,List.take_append_drop]
  ·cases h
theorem array_segs {cs:List Value} {k:Nat}:∀ (n:Nat),cs.length=n*k->((List.range n).map fun i=>(cs.drop (i*k)).take k).flatten=cs:=by
 intro n hn
 have key:∀ m,m<=n->((List.range m).map fun i=>(cs.drop (i*k)).take k).flatten=cs.take (m*k):=by
  intro m
  induction m with
  | zero=>simp
  | succ m ih =>
   intro hm
   rw [List.range_succ,List.map_append,List.flatten_append,ih (by omega)]
   simp only [List.map_cons,List.map_nil,List.flatten_cons,List.flatten_nil,List.append_nil]
   rw [Nat.add_mul,Nat.one_mul,List.take_add]
 rw [key n (Nat.le_refl _),<- hn,List.take_length]
theorem trod_bool {t:TypeId} {fuel:Nat} {cs:List Value} {x:DataW H} {ps:List MemPlace} (hu:P.underlying t=some .bool) (h:DataW.trod enc P w base sp held (fuel+1) t cs=some (x,ps)):∃ b,cs=[.bool b]/\x=.lit (.bool b):=by
 unfold DataW.trod at h
 rw [hu] at h
 rcases cs with _ | ⟨v,_ | ⟨_,_⟩⟩
 ·cases h
 ·cases v<;>first | (cases h;done) | (cases h;exact ⟨_,rfl,rfl⟩)
 ·cases v<;>first | (cases h;done) | (simp at h;done)
theorem trod_int {t:TypeId} {k:IntKind} {fuel:Nat} {cs:List Value} {x:DataW H} {ps:List MemPlace} (hu:P.underlying t=some (.int k)) (h:DataW.trod enc P w base sp held (fuel+1) t cs=some (x,ps)):∃ n,cs=[.int k n]/\x=.lit (.int k n)/\(Lit.int k n).wf=true:=by
 unfold DataW.trod at h
 rw [hu] at h
 rcases cs with _ | ⟨v,_ | ⟨_,_⟩⟩
 ·cases h
 ·cases v<;>first | (cases h;done) | skip
  simp only at h
  split at h
  ·rename_i hk;cases h;rw [hk.1];exact ⟨_,rfl,rfl,hk.2⟩
  ·cases h
 ·cases v<;>first | (cases h;done) | (simp at h;done)
theorem trod_str {t:TypeId} {fuel:Nat} {cs:List Value} {x:DataW H} {ps:List MemPlace} (hu:P.underlying t=some .string) (h:DataW.trod enc P w base sp held (fuel+1) t cs=some (x,ps)):∃ s,cs=[.string s]/\x=.lit (.string s.data.toList)/\s.size<=maxLen:=by
 unfold DataW.trod at h
 rw [hu] at h
 rcases cs with _ | ⟨v,_ | ⟨_,_⟩⟩
 ·cases h
 ·cases v<;>first | (cases h;done) | skip
  simp only at h
  split at h
  ·rename_i hk;cases h;exact ⟨_,rfl,rfl,hk⟩
  ·cases h
 ·cases v<;>first | (cases h;done) | (simp at h;done)
theorem trod_sl {t e:TypeId} {fuel:Nat} {cs:List Value} {x:DataW H} {ps:List MemPlace} (hu:P.underlying t=some (.slice e)) (h:DataW.trod enc P w base sp held (fuel+1) t cs=some (x,ps)) :
  (cs=[.slice none 0 0]/\x=.nil)\/∃ a len cap elems rest,cs=[.slice (some a) len cap]/\len<=cap/\cap<=maxLen/\x=.slice (elems.map (·.1)) rest /\
   (List.range len).mapM (fun i=>(w.cells? base (a.add (i*P.cellsOf e)) (P.cellsOf e)).bind (DataW.trod enc P w base sp held fuel e))=some elems:=by
 unfold DataW.trod at h
 rw [hu] at h
 rcases cs with _ | ⟨v,_ | ⟨_,_⟩⟩
 ·cases h
 ·cases v<;>first | (cases h;done) | skip
  rename_i a len cap
  cases a with
  | none=>cases len<;>cases cap<;>first | (cases h;done) | (cases h;exact .inl ⟨rfl,rfl⟩)
  | some a =>
   simp only at h
   split at h
   case isFalse=>cases h
   rename_i hc
   cases hm:(List.range len).mapM (fun i=>(w.cells? base (a.add (i*P.cellsOf e)) (P.cellsOf e)).bind (DataW.trod enc P w base sp held fuel e)) with
   | none=>rw [hm] at h;cases h
   | some elems =>
    rw [hm] at h
    simp only [Option.bind_some,Option.map_eq_some_iff] at h
    obtain ⟨rest,_,h2⟩:=h
    cases h2
    exact .inr ⟨a,len,cap,elems,_,rfl,hc.2.1,hc.2.2,rfl,hm⟩
 ·cases v<;>first | (cases h;done) | skip
  rename_i a len cap
  cases a with
  | none=>cases len<;>cases cap<;>first | (cases h;done) | (simp at h;done)
  | some a=>first | (cases h;done) | (simp at h;done)
theorem trod_struct {t:TypeId} {fs:Array Field} {fuel:Nat} {cs:List Value} {x:DataW H} {ps:List MemPlace} (hu:P.underlying t=some (.struct fs)) (h:DataW.trod enc P w base sp held (fuel+1) t cs=some (x,ps)) :
  cs.length=P.cellsOf t/\∃ xs,x=.agg (xs.map (·.1))/\fs.toList.mapM (fun f=>DataW.trod enc P w base sp held fuel f.type ((cs.drop f.offset).take (P.cellsOf f.type)))=some xs:=by
 unfold DataW.trod at h
 rw [hu] at h
 simp only at h
 split at h
 case isFalse=>cases h
 rename_i hc
 simp only [Option.map_eq_some_iff] at h
 obtain ⟨xs,h1,h2⟩:=h
 cases h2
 exact ⟨hc,xs,rfl,h1⟩
theorem trod_array {t e:TypeId} {n:Nat} {fuel:Nat} {cs:List Value} {x:DataW H} {ps:List MemPlace} (hu:P.underlying t=some (.array n e)) (h:DataW.trod enc P w base sp held (fuel+1) t cs=some (x,ps)) :
  cs.length=P.cellsOf t/\∃ xs,x=.agg (xs.map (·.1))/\(List.range n).mapM (fun i=>DataW.trod enc P w base sp held fuel e ((cs.drop (i*P.cellsOf e)).take (P.cellsOf e)))=some xs:=by
 unfold DataW.trod at h
 rw [hu] at h
 simp only at h
 split at h
 case isFalse=>cases h
 rename_i hc
 simp only [Option.map_eq_some_iff] at h
 obtain ⟨xs,h1,h2⟩:=h
 cases h2
 exact ⟨hc,xs,rfl,h1⟩
theorem trod_rep:∀ (d fuel:Nat) (t:TypeId) (cs:List Value) (x:DataW H) (ps:List MemPlace),DataW.trod enc P w base sp held fuel t cs=some (x,ps)->okT P d t=true ->
  Typed P d t x/\RepL w (G0 top) (avs P d t x) cs/\(avs P d t x).all Qs=true/\cs.length=P.cellsOf t
 | 0,_,_,_,_,_,_,h=>by cases h
 | d+1,0,_,_,_,_,h,_=>by cases h
 | d+1,fuel+1,t,cs,x,ps,h,hok=>by
  unfold okT at hok
  cases hu:P.underlying t with
  | none=>simp [hu] at hok
  | some desc =>
   rw [hu] at hok
   cases desc with
   | bool =>
    obtain ⟨b,rfl,rfl⟩:=trod_bool hu h
    exact ⟨by simp [Typed,hu],by simp only [avs,hu];exact RepL.cons (.bool b) RepL.nil,by simp [avs,hu,Qs],(eq_of_beq hok).symm⟩
   | int k =>
    obtain ⟨n,rfl,rfl,hw⟩:=trod_int hu h
    exact ⟨by simp [Typed,hu,hw],by simp only [avs,hu];exact RepL.cons (.int k n) RepL.nil,by simp [avs,hu,Qs],(eq_of_beq hok).symm⟩
   | string =>
    obtain ⟨s,rfl,rfl,hw⟩:=trod_str hu h
    refine ⟨by simpa [Typed,hu] using hw,?_,by simp [avs,hu,Qs],(eq_of_beq hok).symm⟩
    simp only [avs,hu]
    have:(⟨s.data.toList.toArray⟩:ByteArray)=s:=by cases s;simp
    rw [this]
    exact RepL.cons (.str s) RepL.nil
   | slice e =>
    simp only [Bool.and_eq_true] at hok
    rcases trod_sl hu h with ⟨rfl,rfl⟩ | ⟨a,len,cap,elems,rest,rfl,hlc,hcm,rfl,hm⟩
    ·exact ⟨by simp [Typed,hu],by simp only [avs,hu];exact RepL.cons rep_nil RepL.nil,by simp [avs,hu,Qs],(eq_of_beq hok.1.1).symm⟩
    ·obtain ⟨hl,hg⟩:=Qaf _ _ _ hm
     have hl':elems.length=len:=by simpa using hl
     have hel:∀ (i:Nat) (y:DataW H×List MemPlace),elems[i]? = some y->∃ ec,ec.length=P.cellsOf e/\(∀ (j:Nat) (v:Value),ec[j]? = some v->w.cell? ((a.add (i*P.cellsOf e)).add j)=some v)/\Typed P d e y.1/\RepL w (G0 top) (avs P d e y.1) ec/\(avs P d e y.1).all Qs=true:=fun i y hy=>by
      have hi:i < len:=by rw [<- hl'];exact (List.getElem?_eq_some_iff.1 hy).1
      have:=hg i i y (by simp [hi]) hy
      cases hc:w.cells? base (a.add (i*P.cellsOf e)) (P.cellsOf e) with
      | none=>rw [hc] at this;cases this
      | some ec =>
       rw [hc] at this
       obtain ⟨y1,y2⟩:=y
       obtain ⟨g1,g2,g3,g4⟩:=trod_rep d fuel e ec y1 y2 this hok.2
       obtain ⟨c1,c2⟩:=cells_spec hc
       exact ⟨ec,c1,c2,g1,g2,g3⟩
     refine ⟨?_,?_,by simp [avs,hu,Qs],(eq_of_beq hok.1.1).symm⟩
     ·simp only [Typed,hu]
      refine ⟨by simp;omega,fun y hy=>?_⟩
      simp only [List.mem_map] at hy
      obtain ⟨p,hp,rfl⟩:=hy
      obtain ⟨i,hi⟩:=List.mem_iff_getElem?.1 hp
      obtain ⟨ec,_,_,g1,_⟩:=hel i p hi
      exact g1
     ·simp only [avs,hu]
      refine RepL.cons ?_ RepL.nil
      have hrows:((elems.map (·.1)).map (avs P d e)).length=len:=by simp [hl']
      have hz:P.cellsOf e≠0:=by simpa using hok.1.2
      have hspot:((elems.map (·.1)).map (avs P d e))≠[]->a=⟨a.block,a.off,none⟩/\a.block < w.heap.size:=fun hn=>by
       cases helems:elems with
       | nil=>simp [helems] at hn
       | cons y ys =>
        obtain ⟨ec,c1,c2,_,g2,_⟩:=hel 0 y (by simp [helems])
        cases hec:ec with
        | nil=>rw [hec] at c1;exact absurd c1.symm hz
        | cons v vs =>
         have:=c2 0 v (by simp [hec])
         simp only [Nat.zero_mul,Addr.add,if_true] at this
         unfold World.cell? at this
         split at this
         ·rename_i hb
          split at this
          ·cases this
          ·rename_i hs
           refine ⟨?_,lt_of_heap hb⟩
           cases a
           simp at hs
           simp [hs]
         ·cases this
      have hrc:∀ (i j:Nat) (c:AV),Qr ((elems.map (·.1)).map (avs P d e)) i j=some c->∃ v,w.cell? ⟨a.block,a.off+i*P.cellsOf e+j,none⟩=some v/\Rep w (G0 top) c v/\Qs c=true:=fun i j c hc=>by
       have hne:((elems.map (·.1)).map (avs P d e))≠[]:=by rintro h0;rw [h0] at hc;simp [Qr] at hc
       obtain ⟨ha,_⟩:=hspot hne
       unfold Qr at hc
       cases hy:elems[i]? with
       | none=>simp [hy] at hc
       | some y =>
        simp [hy] at hc
        obtain ⟨ec,c1,c2,_,g2,g3⟩:=hel i y hy
        have hj:j < ec.length:=by rw [<- g2.1];exact (List.getElem?_eq_some_iff.1 hc).1
        have hv:ec[j]? = some ec[j]:=List.getElem?_eq_getElem hj
        refine ⟨ec[j],?_,g2.2 j c _ hc hv,List.all_eq_true.1 g3 c (List.mem_of_getElem? hc)⟩
        have:=c2 j _ hv
        rw [ha,addr_add,addr_add] at this
        exact this
      have:=Rep.sl (w:=w) (γ:=G0 top) (rt:=.nn) (rows:=(elems.map (·.1)).map (avs P d e)) (a:=some a) (cap:=cap) a.block a.off (P.cellsOf e) (fun i j=>(w.cell? ⟨a.block,a.off+i*P.cellsOf e+j,none⟩).getD undef)
       (by rw [hrows];exact hlc) (fun h=>by cases h) (fun hn=>⟨by rw [<- (hspot hn).1],(hspot hn).2⟩) (fun row hrow=>?_) (fun i j c hc=>?_) (fun i j c hc=>?_) (by simp [RtOK])
      ·rwa [hrows] at this
      ·simp only [List.map_map,List.mem_map] at hrow
       obtain ⟨p,hp,rfl⟩:=hrow
       obtain ⟨i,hi⟩:=List.mem_iff_getElem?.1 hp
       obtain ⟨ec',c1',_,_,g2',_⟩:=hel i p hi
       have:=g2'.1
       simp only [Function.comp]
       omega
      ·obtain ⟨v,h1,h2,h3⟩:=hrc i j c hc
       rw [h1]
       exact ⟨rfl,trivial,rep_one h2 h3⟩
      ·obtain ⟨v,h1,h2,h3⟩:=hrc i j c hc
       rw [h1]
       exact h2
   | struct fs =>
    simp only [Bool.and_eq_true,List.all_eq_true] at hok
    obtain ⟨hlen,xs,rfl,hm⟩:=trod_struct hu h
    obtain ⟨hl,hg⟩:=Qaf _ _ _ hm
    have hel:∀ (i:Nat) (f:Field) (y:DataW H×List MemPlace),fs.toList[i]? = some f->xs[i]? = some y->Typed P d f.type y.1/\RepL w (G0 top) (avs P d f.type y.1) ((cs.drop f.offset).take (P.cellsOf f.type))/\(avs P d f.type y.1).all Qs=true:=fun i f y hf hy=>by
     obtain ⟨y1,y2⟩:=y
     obtain ⟨g1,g2,g3,_⟩:=trod_rep d fuel f.type _ y1 y2 (hg i f (y1,y2) hf hy) (hok.2 f (List.mem_of_getElem? hf))
     exact ⟨g1,g2,g3⟩
    have hzip:∀ p∈fs.toList.zip (xs.map (·.1)),∃ (i:Nat) (f:Field) (y:DataW H×List MemPlace),fs.toList[i]? = some f/\xs[i]? = some y/\p=(f,y.1):=fun p hp=>by
     obtain ⟨i,hi⟩:=List.mem_iff_getElem?.1 hp
     rw [List.getElem?_zip_eq_some] at hi
     obtain ⟨h1,h2⟩:=hi
     simp only [List.getElem?_map,Option.map_eq_some_iff] at h2
     obtain ⟨y,h2,h3⟩:=h2
     exact ⟨i,p.1,y,h1,h2,by rw [h3]⟩
    refine ⟨?_,?_,?_,hlen⟩
    ·simp only [Typed,hu]
     refine ⟨by simpa using hl,fun p hp=>?_⟩
     obtain ⟨i,f,y,h1,h2,rfl⟩:=hzip p hp
     exact (hel i f y h1 h2).1
    ·simp only [avs,hu]
     have hseg:=contig_segs (P:=P) (cs:=cs) fs.toList 0 (P.cellsOf t) (eq_of_beq hok.1) hlen.symm (Nat.zero_le _)
     rw [List.drop_zero] at hseg
     have:RepL w (G0 top) ((fs.toList.zip (xs.map (·.1))).map fun p=>avs P d p.1.type p.2).flatten (fs.toList.map fun f=>(cs.drop f.offset).take (P.cellsOf f.type)).flatten:=by
      refine seg_rep _ _ (by simp at hl |-;omega) fun i as vs h1 h2=>?_
      simp only [List.getElem?_map,Option.map_eq_some_iff] at h1 h2
      obtain ⟨p,hp,rfl⟩:=h1
      obtain ⟨f,hf,rfl⟩:=h2
      rw [List.getElem?_zip_eq_some] at hp
      obtain ⟨q1,q2⟩:=hp
      rw [hf] at q1
      simp only [List.getElem?_map,Option.map_eq_some_iff] at q2
      obtain ⟨y,hy,q2⟩:=q2
      rw [<- Option.some.inj q1,<- q2]
      exact (hel i f y hf hy).2.1
     rw [hseg] at this
     rwa [List.flatMap_def]
    ·simp only [avs,hu,List.all_eq_true,List.mem_flatMap]
     rintro v ⟨p,hp,hv⟩
     obtain ⟨i,f,y,h1,h2,rfl⟩:=hzip p hp
     exact List.all_eq_true.1 (hel i f y h1 h2).2.2 v hv
   | array n e =>
    simp only [Bool.and_eq_true] at hok
    obtain ⟨hlen,xs,rfl,hm⟩:=trod_array hu h
    obtain ⟨hl,hg⟩:=Qaf _ _ _ hm
    have hl':xs.length=n:=by simpa using hl
    have hel:∀ (i:Nat) (y:DataW H×List MemPlace),xs[i]? = some y->Typed P d e y.1/\RepL w (G0 top) (avs P d e y.1) ((cs.drop (i*P.cellsOf e)).take (P.cellsOf e))/\(avs P d e y.1).all Qs=true:=fun i y hy=>by
     have hi:i < n:=by rw [<- hl'];exact (List.getElem?_eq_some_iff.1 hy).1
     obtain ⟨y1,y2⟩:=y
     obtain ⟨g1,g2,g3,_⟩:=trod_rep d fuel e _ y1 y2 (hg i i (y1,y2) (by simp [hi]) hy) hok.2
     exact ⟨g1,g2,g3⟩
    refine ⟨?_,?_,?_,hlen⟩
    ·simp only [Typed,hu]
     refine ⟨by simpa using hl',fun y hy=>?_⟩
     simp only [List.mem_map] at hy
     obtain ⟨p,hp,rfl⟩:=hy
     obtain ⟨i,hi⟩:=List.mem_iff_getElem?.1 hp
     exact (hel i p hi).1
    ·simp only [avs,hu]
     have hseg:=array_segs (cs:=cs) (k:=P.cellsOf e) n (by rw [hlen];exact eq_of_beq hok.1)
     have:RepL w (G0 top) ((xs.map (·.1)).map (avs P d e)).flatten ((List.range n).map fun i=>(cs.drop (i*P.cellsOf e)).take (P.cellsOf e)).flatten:=by
      refine seg_rep _ _ (by simp [hl']) fun i as vs h1 h2=>?_
      simp only [List.map_map,List.getElem?_map,Option.map_eq_some_iff] at h1 h2
      obtain ⟨y,hy,rfl⟩:=h1
      obtain ⟨j,hj,rfl⟩:=h2
      have hi:i < n:=by rw [<- hl'];exact (List.getElem?_eq_some_iff.1 hy).1
      simp [hi] at hj
      subst hj
      exact (hel i y hy).2.1
     rw [hseg] at this
     rwa [List.flatMap_def]
    ·simp only [avs,hu,List.all_eq_true,List.mem_flatMap,List.mem_map]
     rintro v ⟨y,⟨p,hp,rfl⟩,hv⟩
     obtain ⟨i,hi⟩:=List.mem_iff_getElem?.1 hp
     exact List.all_eq_true.1 (hel i p hi).2.2 v hv
   | _=>simp at hok
def argOf (P:Program) (d:Nat) (t:TypeId) (x:DataW H):AV:=if Ub P t then .agg (avs P d t x) else (avs P d t x).headD .junk
theorem not_agg {r:Reach} {b0:Nat} {t:TypeId} {v:Value} (hval:Value.okWide P w r b0 t v) (ha:Ub P t=false) (hok:∃ d,okT P d t=true):v.cells.toList=[v]:=by
 unfold Value.okWide at hval
 unfold Ub at ha
 obtain ⟨d,hok⟩:=hok
 cases d with
 | zero=>cases hok
 | succ d =>
  unfold okT at hok
  cases hu:P.underlying t with
  | none=>simp [hu] at hok
  | some desc =>
   rw [hu] at hval ha hok
   cases desc<;>simp at ha hok hval
   all_goals
    unfold Cell.okWide at hval
    rw [hu] at hval
    cases v<;>first | rfl | (simp [Cell.ok,hu] at hval)
theorem arg_rep {d:Nat} {r:Reach} {b0:Nat} {t:TypeId} {v:Value} {x:DataW H} {ps:List MemPlace} (hok:okT P d t=true) (hval:Value.okWide P w r b0 t v) (h:DataW.Trod enc P w base sp held t v x ps) :
  Typed P d t x/\Rep w (G0 top) (argOf P d t x) v:=by
 obtain ⟨fuel,h⟩:=h
 obtain ⟨h1,h2,h3,h4⟩:=trod_rep d fuel t _ x ps h hok
 refine ⟨h1,?_⟩
 unfold argOf
 cases ha:Ub P t with
 | true =>
  simp only [if_true]
  unfold Value.okWide at hval
  unfold Ub at ha
  split at ha
  ·rename_i hu;rw [hu] at hval;obtain ⟨cs,rfl,_⟩:=hval;exact RepL.agg' h2
  ·rename_i hu;rw [hu] at hval;obtain ⟨cs,rfl,_⟩:=hval;exact RepL.agg' h2
  ·cases ha
 | false =>
  simp only [Bool.false_eq_true,if_false]
  rw [not_agg hval ha ⟨d,hok⟩] at h2
  cases hl:avs P d t x with
  | nil=>rw [hl] at h2;have:=h2.1;simp at this
  | cons a l=>rw [hl] at h2;exact h2.2 0 a v rfl rfl
def TypedAll (P:Program) (d:Nat):List TypeId->List (DataW H)->Prop
 | [],[]=>True
 | t::ts,x::xs=>Typed P d t x/\TypedAll P d ts xs
 | _,_=>False
def argsOf (P:Program) (d:Nat):List TypeId->List (DataW H)->List AV
 | t::ts,x::xs=>argOf P d t x::argsOf P d ts xs
 | _,_=>[]
theorem args_rep {d:Nat} {r:Reach} {b0:Nat}:∀ {ts:List TypeId} {vs:List Value} {xs:List (DataW H)} {ps:List MemPlace},(∀ t∈ts,okT P d t=true)->(∀ (j:Nat) (t:TypeId) (v:Value),ts[j]? = some t->vs[j]? = some v->Value.okWide P w r b0 t v) ->
  DataW.TrodAll enc P w base sp held ts vs xs ps->TypedAll P d ts xs/\RepL w (G0 top) (argsOf P d ts xs) vs
 | [],[],[],_,_,_,_=>⟨trivial,RepL.nil⟩
 | [],_::_,_,_,_,_,h=>by cases h
 | [],[],_::_,_,_,_,h=>by cases h
 | _::_,[],_,_,_,_,h=>by cases h
 | _::_,_::_,[],_,_,_,h=>by cases h
 | t::ts,v::vs,x::xs,ps,hok,hval,h=>by
  obtain ⟨p,q,h1,h2,_⟩:=h
  obtain ⟨g1,g2⟩:=arg_rep (hok t (by simp)) (hval 0 t v rfl rfl) h1
  obtain ⟨k1,k2⟩:=args_rep (fun t ht=>hok t (by simp [ht])) (fun j t v h1 h2=>hval (j+1) t v (by simpa using h1) (by simpa using h2)) h2
  exact ⟨⟨g1,k1⟩,RepL.cons g2 k2⟩
theorem below_trodAll {W W':World} (hl:laidOutB P=true) (hb:Below W.heap.size W W') {sp':Nat->Bool}:∀ {ts:List TypeId} {vs:List Value} {xs:List (DataW H)} {ps:List MemPlace},(∀ t∈ts,P.readableRec t=true/\t < P.types.size) ->
  DataW.TrodAll enc P W 0 (fun _=>true) true ts vs xs ps->(∀ p∈ps,p.block < W.heap.size/\sp' p.block=true)->DataW.TrodAll enc P W' 0 sp' true ts vs xs ps
 | [],[],[],_,_,h,_=>h
 | [],_::_,_,_,_,h,_=>by cases h
 | [],[],_::_,_,_,h,_=>by cases h
 | _::_,[],_,_,_,h,_=>by cases h
 | _::_,_::_,[],_,_,h,_=>by cases h
 | t::ts,v::vs,x::xs,ps,hr,h,hp=>by
  obtain ⟨p,q,h1,h2,rfl⟩:=h
  refine ⟨p,q,WideElems.Trod_stays hl (hr t (by simp)).1 (hr t (by simp)).2 h1 (fun y hy=>hb.same (hp y (by simp [hy])).1) (fun y hy=>(hp y (by simp [hy])).2),below_trodAll hl hb (fun t ht=>hr t (by simp [ht])) h2 fun y hy=>hp y (by simp [hy]),rfl⟩
theorem law_contract {gl:Nat->AV} {fid:FuncId} {fn:Func} {s:ChangeSpec} {bt:TypeId} {d:Nat} (hvars:s.vars=[]) (hres:fn.resultTypes=#[bt]) (hbt:P.underlying bt=some .bool) (hl:laidOutB P=true)
  (hts:(fn.params.toList.all fun t=>okT P d t&&P.readableRec t&&decide (t < P.types.size))=true) (hspec:∀ ds:List (DataW H),ds.length=fn.params.size->(s.fn H ds).results=[.lit (.bool true)]/\(s.fn H ds).args=ds/\(s.fn H ds).vars=[])
  {W:World} {args:Array Value} {ds gs:List (DataW H)} {before:List MemPlace} {r:Reach} {b0:Nat} (hgl:∀ g,Rep W (G0 top) (gl g) (.pointer (some ⟨g,0,none⟩)))
  (hval:∀ (j:Nat) (t:TypeId) (v:Value),fn.params[j]? = some t->args[j]? = some v->Value.okWide P W r b0 t v)
  (hW:DataW.Whole enc P fn.params.toList s.vars false W args.toList ds gs before)
  (hp:TypedAll P d fn.params.toList ds->Pure P gl fid (argsOf P d fn.params.toList ds) (.bool true)) :
  Calls P fid args W fun e W'=>∃ v,e=.returned v/\s.post enc P fn false true false false W args v W':=by
 have hW':=hW
 obtain ⟨p,q,hA,hV,rfl,hfz,hnd⟩:=hW
 rw [hvars] at hV
 obtain ⟨rfl,rfl⟩:=ChangeShapes.trodVars_none hV
 simp only [List.all_eq_true,Bool.and_eq_true,decide_eq_true_eq] at hts
 obtain ⟨h1,h2⟩:=args_rep (fun t ht=>(hts t ht).1.1) (fun j t v q1 q2=>hval j t v (by simpa using q1) (by simpa using q2)) hA
 have hlen:ds.length=fn.params.size:=by
  have:∀ {ts:List TypeId} {vs:List Value} {xs:List (DataW H)} {ps:List MemPlace},DataW.TrodAll enc P W 0 (fun _=>true) true ts vs xs ps->xs.length=ts.length:=by
   intro ts
   induction ts with
   | nil=>intro vs xs ps h;cases vs<;>cases xs<;>first | rfl | cases h
   | cons t ts ih =>
    intro vs xs ps h
    cases vs<;>cases xs<;>first | (cases h;done) | skip
    obtain ⟨_,_,_,h,_⟩:=h
    simp [ih h]
  simpa using this hA
 obtain ⟨k1,k2,k3⟩:=hspec ds hlen
 have hlt:∀ x∈p,x.block < W.heap.size:=fun x hx=>hW'.lt x (by simp [hx])
 refine ((hp h1).2 top W args.toList hgl h2).mono ?_
 rintro e W' ⟨v,rfl,hb,hr⟩
 obtain rfl:=hr.inv_bool
 refine ⟨_,rfl,ds,[],p++[],[],p,[],hW',?_,?_,?_,World.keptBut_mono (fun x hx=>⟨hx,?_⟩) (hb.frame (·∈p++[])),fun h=>by cases h⟩
 ·rw [hres,List.append_nil,k1]
  exact ⟨[],[],shut_bool hbt true,rfl,rfl⟩
 ·rw [List.append_nil,k2]
  exact below_trodAll hl hb (fun t ht=>⟨(hts t ht).1.2,(hts t ht).2⟩) hA fun x hx=>⟨hlt x hx,by simpa using hlt x hx⟩
 ·rw [hvars,List.append_nil,k3]
  rfl
 ·simp at hx
  exact .inr (.inl hx)
end
end Go.Abs
namespace Go.Abs
open Go
section
variable (P:Program) (gl:Nat->AV) (orc:Nat->FuncId->List AV->AV) (Y:YT) (l2:List SO) (K:AS->Prop) (m:AM) (ms q:List (AV×AM)) (mc:AM) (r:List SO) (fl:List Fg) (T:List AV) (o:SO) (x:AV×AM)
@[simp] theorem vcE_nil:vcE P gl orc Y l2 K m ms [] fl q mc T=(q=[]/\Xy P gl orc Y l2 ⟨T,mc⟩ K):=nd (by simp only [vcE])
@[simp] theorem vcE_true:vcE P gl orc Y l2 K m ms (o::r) (.eff::fl) (x::q) mc T=(effC P gl orc Y (ev gl T) mc o.dst x.1 x.2 o.op/\vcE P gl orc Y l2 K m ms r fl q x.2 (put T o.dst x.1)):=nd (by simp only [vcE])
@[simp] theorem vcE_pre:vcE P gl orc Y l2 K m ms (o::r) (.pre::fl) q mc T=((rop P gl orc (ev gl T) m o.dst o.op).1/\vcE P gl orc Y l2 K m ms r fl q mc (put T o.dst (rop P gl orc (ev gl T) m o.dst o.op).2)):=nd (by simp only [vcE])
@[simp] theorem vcE_false:vcE P gl orc Y l2 K m ms (o::r) (.oth::fl) q mc T=((rop P gl orc (ev gl T) m o.dst o.op).1/\(∀ x∈ms,rop P gl orc (ev gl T) x.2 o.dst o.op=rop P gl orc (ev gl T) m o.dst o.op)/\vcE P gl orc Y l2 K m ms r fl q mc (put T o.dst (rop P gl orc (ev gl T) m o.dst o.op).2)):=nd (by simp only [vcE])
theorem Jb {P:Program} {gl:Nat->AV} {orc:Nat->FuncId->List AV->AV} {Y:YT} {fl:List Fg} {l l2:List SO} {s:AS} {Q:Exit->AS->Prop} (ms:List (AV×AM)) (h:vcE P gl orc Y l2 (Q .normal) s.m ms l fl ms s.m s.T):vc P gl orc Y (.drawE fl l l2) s Q:=.inr (.inl ⟨ms,h⟩)
variable (R:AV->AM->Prop)
@[simp] theorem vcN_nil:vcN P gl orc Y R l2 K m ms [] fl q mc T=(q=[]/\Xy P gl orc Y l2 ⟨T,mc⟩ K):=nd (by simp only [vcN])
@[simp] theorem vcN_last:vcN P gl orc Y R l2 K m ms (o::r) (.eff::fl) [x] mc T=(effR P gl Y (ev gl T) mc R o.op/\vcN P gl orc Y R l2 K m ms r fl [] x.2 (put T o.dst x.1)):=nd (by simp only [vcN];simp)
@[simp] theorem vcN_true (y:AV×AM):vcN P gl orc Y R l2 K m ms (o::r) (.eff::fl) (x::y::q) mc T=(effC P gl orc Y (ev gl T) mc o.dst x.1 x.2 o.op/\vcN P gl orc Y R l2 K m ms r fl (y::q) x.2 (put T o.dst x.1)):=nd (by simp only [vcN];simp)
@[simp] theorem vcN_pre:vcN P gl orc Y R l2 K m ms (o::r) (.pre::fl) q mc T=((rop P gl orc (ev gl T) m o.dst o.op).1/\vcN P gl orc Y R l2 K m ms r fl q mc (put T o.dst (rop P gl orc (ev gl T) m o.dst o.op).2)):=nd (by simp only [vcN])
@[simp] theorem vcN_false:vcN P gl orc Y R l2 K m ms (o::r) (.oth::fl) q mc T=((rop P gl orc (ev gl T) m o.dst o.op).1/\(∀ x∈ms,rop P gl orc (ev gl T) x.2 o.dst o.op=rop P gl orc (ev gl T) m o.dst o.op)/\vcN P gl orc Y R l2 K m ms r fl q mc (put T o.dst (rop P gl orc (ev gl T) m o.dst o.op).2)):=nd (by simp only [vcN])
def msOf (P:Program) (gl:Nat->AV) (orc:Nat->FuncId->List AV->AV) (m:AM):List SO->List Fg->AM->List AV->List (AV×AM)
 | o::r,.eff::fl,mc,T=>(effV (sop P gl orc (ev gl T) mc o.dst o.op).2.1 o.op,(sop P gl orc (ev gl T) mc o.dst o.op).2.2)::msOf P gl orc m r fl (sop P gl orc (ev gl T) mc o.dst o.op).2.2 (put T o.dst (effV (sop P gl orc (ev gl T) mc o.dst o.op).2.1 o.op))
 | o::r,.pre::fl,mc,T=>msOf P gl orc m r fl mc (put T o.dst (rop P gl orc (ev gl T) m o.dst o.op).2)
 | o::r,.oth::fl,mc,T=>msOf P gl orc m r fl mc (put T o.dst (rop P gl orc (ev gl T) m o.dst o.op).2)
 | _,_,_,_=>[]
@[simp] theorem msOf_nil:msOf P gl orc m [] fl mc T=[]:=nd (by simp only [msOf])
@[simp] theorem msOf_true:msOf P gl orc m (o::r) (.eff::fl) mc T=(effV (sop P gl orc (ev gl T) mc o.dst o.op).2.1 o.op,(sop P gl orc (ev gl T) mc o.dst o.op).2.2)::msOf P gl orc m r fl (sop P gl orc (ev gl T) mc o.dst o.op).2.2 (put T o.dst (effV (sop P gl orc (ev gl T) mc o.dst o.op).2.1 o.op)):=nd (by simp only [msOf])
@[simp] theorem msOf_pre:msOf P gl orc m (o::r) (.pre::fl) mc T=msOf P gl orc m r fl mc (put T o.dst (rop P gl orc (ev gl T) m o.dst o.op).2):=nd (by simp only [msOf])
@[simp] theorem msOf_false:msOf P gl orc m (o::r) (.oth::fl) mc T=msOf P gl orc m r fl mc (put T o.dst (rop P gl orc (ev gl T) m o.dst o.op).2):=nd (by simp only [msOf])
theorem Kj {P:Program} {gl:Nat->AV} {orc:Nat->FuncId->List AV->AV} {Y:YT} {fl:List Fg} {l l2:List SO} {s:AS} {Q:Exit->AS->Prop} (h:vcE P gl orc Y l2 (Q .normal) s.m (msOf P gl orc s.m l fl s.m s.T) l fl (msOf P gl orc s.m l fl s.m s.T) s.m s.T):vc P gl orc Y (.drawE fl l l2) s Q:=.inr (.inl ⟨_,h⟩)
end
attribute [simp] effC memEff effV effR
end Go.Abs
