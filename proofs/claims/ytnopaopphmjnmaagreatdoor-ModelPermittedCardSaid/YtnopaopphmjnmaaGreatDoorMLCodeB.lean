import Derived.Test.YtnopaopphmjnmaaGreatDoorMLMG
import Derived.Test.YtnopaopphmjnmaaGreatDoorProg
set_option linter.all false
set_option maxRecDepth 100000
set_option maxHeartbeats 8000000
namespace Go.Proofs.YtnopaopphmjnmaaGreatDoor
noncomputable section
open Go Go.Abs
abbrev jB:=dh Tryz.prog
abbrev kB(f:Func)(h:List (List Nat)):Type:={c:SC // c=scH Tryz.prog f h}
def PG:=(⟨_,by cbv⟩:kB Tryz.f44 [[14],[10]]).1
def TI:List aD:=[(.load true 18 (.tmp 2))]
def akU:jB 44 PG TI 106:=aI Tryz.func44
def Eg:List Nat:=(⟨_,by cbv⟩:wT [1,1,1,1,1,0,1,0] PG).1
def mj:List Nat:=(⟨_,by cbv⟩:wT [1,1,1,1,1,1,1,1,1,0,1,0] PG).1
def aoY:=(⟨_,by cbv⟩:kB Tryz.f47 []).1
def aoZ:List aD:=[(.mv (.tmp 4))]
def akV:jB 47 aoY aoZ 14:=aI Tryz.func47
def akW:=(⟨_,by cbv⟩:kB Tryz.f48 [[9,1,2,2,2,2,2,2,2,0,0]]).1
def akX:List aD:=[(.load true 7 (.tmp 4)),(.mv (.tmp 5)),(.mv (.tmp 6))]
def akY:jB 48 akW akX 33:=aI Tryz.func48
def ao0:=(⟨_,by cbv⟩:kB Tryz.f54 []).1
def ao1:List aD:=[(.mv (.tmp 4))]
def akZ:jB 54 ao0 ao1 9:=aI Tryz.func54
def ao2:=(⟨_,by cbv⟩:kB Tryz.f55 []).1
def ak0:List aD:=[(.load true 5 (.tmp 6)),(.mv (.tmp 7))]
def ak1:jB 55 ao2 ak0 25:=aI Tryz.func55
def MN:List Nat:=[7,9,13,14,15,16,17,18,19,20,21,22,23]
def ak2:=(⟨_,by cbv⟩:kB Tryz.f56 []).1
def ak3:List aD:=[(.mv (.tmp 2))]
def TJ:jB 56 ak2 ak3 5:=aI Tryz.func56
def ao3:=(⟨_,by cbv⟩:kB Tryz.f57 []).1
def ao4:List aD:=[(.mv (.tmp 2))]
def ak4:jB 57 ao3 ao4 9:=aI Tryz.func57
def ak5:=(⟨_,by cbv⟩:kB Tryz.f58 []).1
def ak6:List aD:=[(.mv (.tmp 4))]
def ak7:jB 58 ak5 ak6 11:=aI Tryz.func58
def TK:=(⟨_,by cbv⟩:kB Tryz.f59 [[12],[11,2,1,1,1,0,2,2,2,0,2,2,0]]).1
def tC:List aD:=[(.mv (.tmp 8))]
def u6:jB 59 TK tC 108:=aI Tryz.func59
def Eh:List Nat:=(⟨_,by cbv⟩:wT [1,1,1,1,1,1,1,1,1,1,1,1,0,1,0] TK).1
def ak8:=(⟨_,by cbv⟩:kB Tryz.f60 []).1
def TL:List aD:=[(.mv (.tmp 2)),(.mv (.tmp 3)),(.mv (.tmp 4))]
def ak9:jB 60 ak8 TL 41:=aI Tryz.func60
def MO:List Nat:=[5,7,17,18,19,20,21,22,23,24,25,26]
def IY:=(⟨_,by cbv⟩:kB Tryz.f61 [[5]]).1
def IZ:List aD:=[(.load true 13 (.tmp 2))]
def u7:jB 61 IY IZ 43:=aI Tryz.func61
def ez:List Nat:=[3,4,22,23,24,25,26,27,28,29,30,31,32,33]
def I1:=(⟨_,by cbv⟩:kB Tryz.f62 [[7]]).1
def TM:List aD:=[(.mv (.tmp 6))]
def TN:jB 62 I1 TM 98:=aI Tryz.func62
def oC:List Nat:=(⟨_,by cbv⟩:wT [1,1,1,0,1,0] I1).1
def ala:=(⟨_,by cbv⟩:kB Tryz.f63 []).1
def alb:List aD:=[(.mv (.tmp 2))]
def alc:jB 63 ala alb 9:=aI Tryz.func63
def I2:=(⟨_,by cbv⟩:kB Tryz.f64 []).1
def tD:List aD:=[(.mv (.tmp 2))]
def ald:jB 64 I2 tD 101:=aI Tryz.func64
def gM:List Nat:=(⟨_,by cbv⟩:wT [1,1,1,1,1,1,0,1,0] I2).1
def Ei:=(⟨_,by cbv⟩:kB Tryz.f65 []).1
def Ej:List aD:=[(.mv (.tmp 2))]
def ale:jB 65 Ei Ej 206:=aI Tryz.func65
def PI:=(⟨_,by cbv⟩:kB Tryz.f66 []).1
def PJ:List aD:=[(.mv (.tmp 2))]
def alf:jB 66 PI PJ 63:=aI Tryz.func66
def ao5:=(⟨_,by cbv⟩:kB Tryz.f67 []).1
def ao6:List aD:=[(.mv (.tmp 4))]
def alg:jB 67 ao5 ao6 68:=aI Tryz.func67
def abS:=(⟨_,by cbv⟩:kB Tryz.f68 []).1
def abT:List aD:=[(.mv (.tmp 4))]
def alh:jB 68 abS abT 20:=aI Tryz.func68
def abU:=(⟨_,by cbv⟩:kB Tryz.f69 []).1
def Ek:List aD:=[(.mv (.tmp 4)),(.mv (.tmp 5))]
def ali:jB 69 abU Ek 53:=aI Tryz.func69
def eW:List Nat:=(⟨_,by cbv⟩:wT [1,1,1,1,0,1,0] abU).1
def ao7:=(⟨_,by cbv⟩:kB Tryz.f70 []).1
def ao8:List aD:=[(.load true 20 (.tmp 4))]
def alj:jB 70 ao7 ao8 30:=aI Tryz.func70
def El:List Nat:=[7,16,17,18,19,20,21,22,23,24,25,26,27,28]
def PK:=(⟨_,by cbv⟩:kB Tryz.f71 []).1
def PL:List aD:=[(.load true 14 (.tmp 4)),(.mv (.tmp 5))]
def TO:jB 71 PK PL 52:=aI Tryz.func71
def abV:=(⟨_,by cbv⟩:kB Tryz.f76 [[6]]).1
def alk:List aD:=[(.load true 18 (.tmp 2))]
def alm:jB 76 abV alk 39:=aI Tryz.func76
def Em:List Nat:=(⟨_,by cbv⟩:wT [1,1,1,0,1,0] abV).1
end
end Go.Proofs.YtnopaopphmjnmaaGreatDoor
