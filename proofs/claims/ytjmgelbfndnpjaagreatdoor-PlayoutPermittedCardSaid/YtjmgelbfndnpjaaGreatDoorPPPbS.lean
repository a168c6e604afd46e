import Derived.Test.YtjmgelbfndnpjaaGreatDoorPPCodeT
import Derived.Test.YtjmgelbfndnpjaaGreatDoorPPMH
set_option linter.unusedVariables false
set_option linter.unusedSimpArgs false
set_option maxRecDepth 100000
namespace Go.Proofs.YtjmgelbfndnpjaaGreatDoor
open Go Go.Abs
def tblR:List AV:=[I 24000,I 1001,I 24,I 0,I 24,I 1,I 24,I 0,I 25,I 1,I 25,I 0,I 30000,I 1001,I 30,I 2,I 30,I 1,I 30,I 0,I 50,I 1,I 50,I 0,I 60000,I 1001,I 60,I 4,I 60,I 1,I 60,I 0]
def tbl:List AV:=[.int .u32 0,.int .u32 274646895,.int .u32 549293790,.int .u32 820201905,.int .u32 1098587580,.int .u32 1361435347,.int .u32 1640403810,.int .u32 1905808397,.int .u32 2197175160,.int .u32 2460548119,.int .u32 2722870694,.int .u32 2987750089,.int .u32 3280807620,.int .u32 3553878443,.int .u32 3811616794,.int .u32 4084100981]
def gl0:Nat->AV
 | 0=>.ep tblR 0
 | 1=>.ep tbl 0
 | _=>.junk
def pickI (c n:Int):Int:=(if c < 0 then -(c+1) else c).tmod n
theorem pick_pure (c n:Int) (h0 : -9223372036854775808<=c) (h1:c<=9223372036854775807) (hn:n≠0):Pure Tryz.prog gl0 8 [I c,I n] (I (pickI c n)):=by
 refine Qn code8 (fun _ _ _=>.junk) (by simp) ?_
 have hw1:c < 0->IntKind.i64.wrap (c+1)=c+1:=fun h=>by rw [Qe]<;>omega
 have hw2:c < 0->IntKind.i64.wrap (-(c+1)) = -(c+1):=fun h=>by rw [Qe]<;>omega
 by_cases h:c < 0
 ·simp [sc8,rs8,h,hw1 h,hw2 h,hn,pickI]
 ·simp [sc8,rs8,h,hn,pickI]
theorem Qz {α:Type} {l:List α} {i:Nat} {a:α} (h:l[i]? = some a):l.drop i=a::l.drop (i+1):=by
 obtain ⟨h1,h2⟩:=List.getElem?_eq_some_iff.1 h
 rw [List.drop_eq_getElem_cons h1,h2]
theorem pickI_bd' (c n:Int) (hn:0 < n):0<=pickI c n/\pickI c n < n:=by
 unfold pickI
 have h0:0<=(if c < 0 then -(c+1) else c):=by split<;>omega
 rw [Int.tmod_eq_emod_of_nonneg h0]
 exact ⟨Int.emod_nonneg _ (by omega),Int.emod_lt_of_pos _ hn⟩
structure Evt where
 id:Int
 it:Int
 st:Int
 fr:Int
 i:Int
 re:Int
 al:Option Int
theorem cloneN_pure:Pure Tryz.prog gl0 58 [.sl .nil []] (.sl .nil []):=by
 refine Qn code58 (fun _ _ _=>.junk) (by simp) ?_
 simp [sc58,rs58]
def SmallF (f:Int):Prop := -1000000<=f/\f<=1000000
theorem wu (n:Int) (h:0<=n) (h':n<=2000000):IntKind.u64.wrap n=n:=by
 simp [IntKind.wrap,IntKind.bits,IntKind.signed];omega
def zeroE:AV:=.tup [.agg [I 0,I 0,I 0,I 0,I 0,I 0,.sl .nil []],I 0,.bool false]
end Go.Proofs.YtjmgelbfndnpjaaGreatDoor
namespace Go.Proofs.YtjmgelbfndnpjaaGreatDoor.Lw
open Go Go.Abs
def lvlL:List (Nat×Nat):=[(8,0),(29,0),(36,0),(114,0),(28,0),(12,0),(13,1),(30,1),(9,2),(4,3)]
def lvlF:List (Nat×Nat)->Nat->Nat
 | [],_=>100
 | (f,k)::r,g=>bif Nat.beq f g then k else lvlF r g
def lvl:FuncId->Nat:=fun f=>lvlF lvlL f
theorem sane_pure:Pure Tryz.prog gl0 4 [] (.bool true):=pure_run tab_ok lvl 3000 3 (by kernel_rfl) rfl
end Go.Proofs.YtjmgelbfndnpjaaGreatDoor.Lw
