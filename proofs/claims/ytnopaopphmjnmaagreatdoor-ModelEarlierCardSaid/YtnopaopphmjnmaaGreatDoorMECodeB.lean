import Derived.Test.YtnopaopphmjnmaaGreatDoorMEMG
import Derived.Test.YtnopaopphmjnmaaGreatDoorProg
set_option linter.all false
set_option maxRecDepth 100000
set_option maxHeartbeats 8000000
namespace Go.Proofs.YtnopaopphmjnmaaGreatDoor
noncomputable section
open Go Go.Abs
abbrev jB:=dn Tryz.prog
abbrev kB(f:Func)(h:List (List Nat)):Type:={c:SC // c=scH Tryz.prog f h}
def ao3:=(⟨_,by cbv⟩:kB Tryz.f41 []).1
def ao4:List aD:=[(.mv (.tmp 4))]
def akQ:jB 41 ao3 ao4 22:=aI Tryz.func41
def MZ:List Nat:=[5,7,10,11,12,13,14,15,16,17,18,19,20]
def akR:=(⟨_,by cbv⟩:kB Tryz.f43 []).1
def akS:List aD:=[(.mv (.tmp 4))]
def akT:jB 43 akR akS 27:=aI Tryz.func43
def PW:=(⟨_,by cbv⟩:kB Tryz.f44 [[14],[10]]).1
def TG:List aD:=[(.load true 18 (.tmp 2))]
def akU:jB 44 PW TG 106:=aI Tryz.func44
def Ek:List Nat:=(⟨_,by cbv⟩:wT [1,1,1,1,1,0,1,0] PW).1
def mA:List Nat:=(⟨_,by cbv⟩:wT [1,1,1,1,1,1,1,1,1,0,1,0] PW).1
def ao5:=(⟨_,by cbv⟩:kB Tryz.f47 []).1
def ao6:List aD:=[(.mv (.tmp 4))]
def akV:jB 47 ao5 ao6 14:=aI Tryz.func47
def akW:=(⟨_,by cbv⟩:kB Tryz.f48 [[9,1,2,2,2,2,2,2,2,0,0]]).1
def akX:List aD:=[(.load true 7 (.tmp 4)),(.mv (.tmp 5)),(.mv (.tmp 6))]
def akY:jB 48 akW akX 33:=aI Tryz.func48
def ao7:=(⟨_,by cbv⟩:kB Tryz.f54 []).1
def ao8:List aD:=[(.mv (.tmp 4))]
def akZ:jB 54 ao7 ao8 9:=aI Tryz.func54
def ao9:=(⟨_,by cbv⟩:kB Tryz.f55 []).1
def ak0:List aD:=[(.load true 5 (.tmp 6)),(.mv (.tmp 7))]
def ak1:jB 55 ao9 ak0 25:=aI Tryz.func55
def M0:List Nat:=[7,9,13,14,15,16,17,18,19,20,21,22,23]
def ak2:=(⟨_,by cbv⟩:kB Tryz.f56 []).1
def ak3:List aD:=[(.mv (.tmp 2))]
def TH:jB 56 ak2 ak3 5:=aI Tryz.func56
def apa:=(⟨_,by cbv⟩:kB Tryz.f57 []).1
def apb:List aD:=[(.mv (.tmp 2))]
def ak4:jB 57 apa apb 9:=aI Tryz.func57
def ak5:=(⟨_,by cbv⟩:kB Tryz.f58 []).1
def ak6:List aD:=[(.mv (.tmp 4))]
def ak7:jB 58 ak5 ak6 11:=aI Tryz.func58
def TI:=(⟨_,by cbv⟩:kB Tryz.f59 [[12],[11,2,1,1,1,0,2,2,2,0,2,2,0]]).1
def tI:List aD:=[(.mv (.tmp 8))]
def va:jB 59 TI tI 108:=aI Tryz.func59
def El:List Nat:=(⟨_,by cbv⟩:wT [1,1,1,1,1,1,1,1,1,1,1,1,0,1,0] TI).1
def ak8:=(⟨_,by cbv⟩:kB Tryz.f60 []).1
def TJ:List aD:=[(.mv (.tmp 2)),(.mv (.tmp 3)),(.mv (.tmp 4))]
def ak9:jB 60 ak8 TJ 41:=aI Tryz.func60
def M3:List Nat:=[5,7,17,18,19,20,21,22,23,24,25,26]
def I7:=(⟨_,by cbv⟩:kB Tryz.f61 [[5]]).1
def I8:List aD:=[(.load true 13 (.tmp 2))]
def vf:jB 61 I7 I8 43:=aI Tryz.func61
def eH:List Nat:=[3,4,22,23,24,25,26,27,28,29,30,31,32,33]
def I9:=(⟨_,by cbv⟩:kB Tryz.f62 [[7]]).1
def TK:List aD:=[(.mv (.tmp 6))]
def TL:jB 62 I9 TK 98:=aI Tryz.func62
def oE:List Nat:=(⟨_,by cbv⟩:wT [1,1,1,0,1,0] I9).1
def ala:=(⟨_,by cbv⟩:kB Tryz.f63 []).1
def alb:List aD:=[(.mv (.tmp 2))]
def alc:jB 63 ala alb 9:=aI Tryz.func63
def Jx:=(⟨_,by cbv⟩:kB Tryz.f64 []).1
def tJ:List aD:=[(.mv (.tmp 2))]
def ald:jB 64 Jx tJ 101:=aI Tryz.func64
def gQ:List Nat:=(⟨_,by cbv⟩:wT [1,1,1,1,1,1,0,1,0] Jx).1
def Em:=(⟨_,by cbv⟩:kB Tryz.f65 []).1
def Eo:List aD:=[(.mv (.tmp 2))]
def ale:jB 65 Em Eo 206:=aI Tryz.func65
def PX:=(⟨_,by cbv⟩:kB Tryz.f66 []).1
def PY:List aD:=[(.mv (.tmp 2))]
def alf:jB 66 PX PY 63:=aI Tryz.func66
def apc:=(⟨_,by cbv⟩:kB Tryz.f67 []).1
def apd:List aD:=[(.mv (.tmp 4))]
def alg:jB 67 apc apd 68:=aI Tryz.func67
def abU:=(⟨_,by cbv⟩:kB Tryz.f68 []).1
def abV:List aD:=[(.mv (.tmp 4))]
def alh:jB 68 abU abV 20:=aI Tryz.func68
def abW:=(⟨_,by cbv⟩:kB Tryz.f69 []).1
def Ep:List aD:=[(.mv (.tmp 4)),(.mv (.tmp 5))]
def ali:jB 69 abW Ep 53:=aI Tryz.func69
def fe:List Nat:=(⟨_,by cbv⟩:wT [1,1,1,1,0,1,0] abW).1
def ape:=(⟨_,by cbv⟩:kB Tryz.f70 []).1
def apf:List aD:=[(.load true 20 (.tmp 4))]
def alj:jB 70 ape apf 30:=aI Tryz.func70
def Er:List Nat:=[7,16,17,18,19,20,21,22,23,24,25,26,27,28]
def PZ:=(⟨_,by cbv⟩:kB Tryz.f71 []).1
def P0:List aD:=[(.load true 14 (.tmp 4)),(.mv (.tmp 5))]
def TM:jB 71 PZ P0 52:=aI Tryz.func71
def abX:=(⟨_,by cbv⟩:kB Tryz.f76 [[6]]).1
def alk:List aD:=[(.load true 18 (.tmp 2))]
def alm:jB 76 abX alk 39:=aI Tryz.func76
def Es:List Nat:=(⟨_,by cbv⟩:wT [1,1,1,0,1,0] abX).1
end
end Go.Proofs.YtnopaopphmjnmaaGreatDoor
