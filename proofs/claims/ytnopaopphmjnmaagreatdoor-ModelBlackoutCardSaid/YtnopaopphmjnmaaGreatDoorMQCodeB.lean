import Derived.Test.YtnopaopphmjnmaaGreatDoorMQMG
import Derived.Test.YtnopaopphmjnmaaGreatDoorProg
set_option linter.all false
set_option maxRecDepth 100000
set_option maxHeartbeats 8000000
namespace Go.Proofs.YtnopaopphmjnmaaGreatDoor
noncomputable section
open Go Go.Abs
abbrev jB:=dz Tryz.prog
abbrev kB(f:Func)(h:List (List Nat)):Type:={c:SC // c=scH Tryz.prog f h}
def apW:=(⟨_,by cbv⟩:kB Tryz.f41 []).1
def apX:List aF:=[(.mv (.tmp 4))]
def alI:jB 41 apW apX 22:=aJ Tryz.func41
def Nx:List Nat:=[5,7,10,11,12,13,14,15,16,17,18,19,20]
def alJ:=(⟨_,by cbv⟩:kB Tryz.f43 []).1
def alK:List aF:=[(.mv (.tmp 4))]
def alL:jB 43 alJ alK 27:=aJ Tryz.func43
def Q0:=(⟨_,by cbv⟩:kB Tryz.f44 [[14],[10]]).1
def UQ:List aF:=[(.load true 18 (.tmp 2))]
def alN:jB 44 Q0 UQ 106:=aJ Tryz.func44
def EU:List Nat:=(⟨_,by cbv⟩:wT [1,1,1,1,1,0,1,0] Q0).1
def mA:List Nat:=(⟨_,by cbv⟩:wT [1,1,1,1,1,1,1,1,1,0,1,0] Q0).1
def apY:=(⟨_,by cbv⟩:kB Tryz.f47 []).1
def apZ:List aF:=[(.mv (.tmp 4))]
def alO:jB 47 apY apZ 14:=aJ Tryz.func47
def alP:=(⟨_,by cbv⟩:kB Tryz.f48 [[9,1,2,2,2,2,2,2,2,0,0]]).1
def alQ:List aF:=[(.load true 7 (.tmp 4)),(.mv (.tmp 5)),(.mv (.tmp 6))]
def alR:jB 48 alP alQ 33:=aJ Tryz.func48
def ap0:=(⟨_,by cbv⟩:kB Tryz.f54 []).1
def ap1:List aF:=[(.mv (.tmp 4))]
def alS:jB 54 ap0 ap1 9:=aJ Tryz.func54
def ap2:=(⟨_,by cbv⟩:kB Tryz.f55 []).1
def alT:List aF:=[(.load true 5 (.tmp 6)),(.mv (.tmp 7))]
def alU:jB 55 ap2 alT 25:=aJ Tryz.func55
def Ny:List Nat:=[7,9,13,14,15,16,17,18,19,20,21,22,23]
def alV:=(⟨_,by cbv⟩:kB Tryz.f56 []).1
def alW:List aF:=[(.mv (.tmp 2))]
def UR:jB 56 alV alW 5:=aJ Tryz.func56
def ap3:=(⟨_,by cbv⟩:kB Tryz.f57 []).1
def ap4:List aF:=[(.mv (.tmp 2))]
def alX:jB 57 ap3 ap4 9:=aJ Tryz.func57
def alY:=(⟨_,by cbv⟩:kB Tryz.f58 []).1
def alZ:List aF:=[(.mv (.tmp 4))]
def al0:jB 58 alY alZ 11:=aJ Tryz.func58
def US:=(⟨_,by cbv⟩:kB Tryz.f59 [[12],[11,2,1,1,1,0,2,2,2,0,2,2,0]]).1
def tV:List aF:=[(.mv (.tmp 8))]
def vr:jB 59 US tV 108:=aJ Tryz.func59
def EV:List Nat:=(⟨_,by cbv⟩:wT [1,1,1,1,1,1,1,1,1,1,1,1,0,1,0] US).1
def al1:=(⟨_,by cbv⟩:kB Tryz.f60 []).1
def UT:List aF:=[(.mv (.tmp 2)),(.mv (.tmp 3)),(.mv (.tmp 4))]
def al2:jB 60 al1 UT 41:=aJ Tryz.func60
def Nz:List Nat:=[5,7,17,18,19,20,21,22,23,24,25,26]
def J8:=(⟨_,by cbv⟩:kB Tryz.f61 [[5]]).1
def J9:List aF:=[(.load true 13 (.tmp 2))]
def vu:jB 61 J8 J9 43:=aJ Tryz.func61
def eN:List Nat:=[3,4,22,23,24,25,26,27,28,29,30,31,32,33]
def Kf:=(⟨_,by cbv⟩:kB Tryz.f62 [[7]]).1
def UU:List aF:=[(.mv (.tmp 6))]
def UW:jB 62 Kf UU 98:=aJ Tryz.func62
def oJ:List Nat:=(⟨_,by cbv⟩:wT [1,1,1,0,1,0] Kf).1
def al3:=(⟨_,by cbv⟩:kB Tryz.f63 []).1
def al4:List aF:=[(.mv (.tmp 2))]
def al5:jB 63 al3 al4 9:=aJ Tryz.func63
def Ks:=(⟨_,by cbv⟩:kB Tryz.f64 []).1
def tW:List aF:=[(.mv (.tmp 2))]
def al6:jB 64 Ks tW 101:=aJ Tryz.func64
def gT:List Nat:=(⟨_,by cbv⟩:wT [1,1,1,1,1,1,0,1,0] Ks).1
def EW:=(⟨_,by cbv⟩:kB Tryz.f65 []).1
def EX:List aF:=[(.mv (.tmp 2))]
def al7:jB 65 EW EX 206:=aJ Tryz.func65
def Q1:=(⟨_,by cbv⟩:kB Tryz.f66 []).1
def Q2:List aF:=[(.mv (.tmp 2))]
def al8:jB 66 Q1 Q2 63:=aJ Tryz.func66
def ap5:=(⟨_,by cbv⟩:kB Tryz.f67 []).1
def ap6:List aF:=[(.mv (.tmp 4))]
def al9:jB 67 ap5 ap6 68:=aJ Tryz.func67
def acB:=(⟨_,by cbv⟩:kB Tryz.f68 []).1
def acC:List aF:=[(.mv (.tmp 4))]
def ama:jB 68 acB acC 20:=aJ Tryz.func68
def acD:=(⟨_,by cbv⟩:kB Tryz.f69 []).1
def EY:List aF:=[(.mv (.tmp 4)),(.mv (.tmp 5))]
def amb:jB 69 acD EY 53:=aJ Tryz.func69
def fu:List Nat:=(⟨_,by cbv⟩:wT [1,1,1,1,0,1,0] acD).1
def amc:=(⟨_,by cbv⟩:kB Tryz.f70 []).1
def amd:List aF:=[(.load true 20 (.tmp 4))]
def UX:jB 70 amc amd 30:=aJ Tryz.func70
def mB:List Nat:=[7,16,17,18,19,20,21,22,23,24,25,26,27,28]
def Q3:=(⟨_,by cbv⟩:kB Tryz.f71 []).1
def Q4:List aF:=[(.load true 14 (.tmp 4)),(.mv (.tmp 5))]
def UY:jB 71 Q3 Q4 52:=aJ Tryz.func71
def acE:=(⟨_,by cbv⟩:kB Tryz.f76 [[6]]).1
def ame:List aF:=[(.load true 18 (.tmp 2))]
def amf:jB 76 acE ame 39:=aJ Tryz.func76
def EZ:List Nat:=(⟨_,by cbv⟩:wT [1,1,1,0,1,0] acE).1
end
