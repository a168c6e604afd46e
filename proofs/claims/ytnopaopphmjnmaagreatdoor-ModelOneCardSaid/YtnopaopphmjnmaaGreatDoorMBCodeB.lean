import Derived.Test.YtnopaopphmjnmaaGreatDoorMBMG
import Derived.Test.YtnopaopphmjnmaaGreatDoorProg
set_option linter.all false
set_option maxRecDepth 100000
set_option maxHeartbeats 8000000
namespace Go.Proofs.YtnopaopphmjnmaaGreatDoor
noncomputable section
open Go Go.Abs
abbrev jB:=c9 Tryz.prog
abbrev kB(f:Func)(h:List (List Nat)):Type:={c:SC // c=scH Tryz.prog f h}
def fB:=(⟨_,by cbv⟩:kB Tryz.f40 []).1
def fC:List aF:=[(.mv (.tmp 2))]
def akp:jB 40 fB fC 87:=aI Tryz.func40
def aov:=(⟨_,by cbv⟩:kB Tryz.f41 []).1
def aow:List aF:=[(.mv (.tmp 4))]
def akq:jB 41 aov aow 22:=aI Tryz.func41
def Mv:List Nat:=[5,7,10,11,12,13,14,15,16,17,18,19,20]
def akr:=(⟨_,by cbv⟩:kB Tryz.f43 []).1
def aks:List aF:=[(.mv (.tmp 4))]
def akt:jB 43 akr aks 27:=aI Tryz.func43
def Po:=(⟨_,by cbv⟩:kB Tryz.f44 [[14],[10]]).1
def Ti:List aF:=[(.load true 18 (.tmp 2))]
def aku:jB 44 Po Ti 106:=aI Tryz.func44
def D2:List Nat:=(⟨_,by cbv⟩:wT [1,1,1,1,1,0,1,0] Po).1
def lS:List Nat:=(⟨_,by cbv⟩:wT [1,1,1,1,1,1,1,1,1,0,1,0] Po).1
def aox:=(⟨_,by cbv⟩:kB Tryz.f47 []).1
def aoy:List aF:=[(.mv (.tmp 4))]
def akv:jB 47 aox aoy 14:=aI Tryz.func47
def akw:=(⟨_,by cbv⟩:kB Tryz.f48 [[9,1,2,2,2,2,2,2,2,0,0]]).1
def akx:List aF:=[(.load true 7 (.tmp 4)),(.mv (.tmp 5)),(.mv (.tmp 6))]
def aky:jB 48 akw akx 33:=aI Tryz.func48
def aoz:=(⟨_,by cbv⟩:kB Tryz.f54 []).1
def aoA:List aF:=[(.mv (.tmp 4))]
def akz:jB 54 aoz aoA 9:=aI Tryz.func54
def aoB:=(⟨_,by cbv⟩:kB Tryz.f55 []).1
def akA:List aF:=[(.load true 5 (.tmp 6)),(.mv (.tmp 7))]
def akB:jB 55 aoB akA 25:=aI Tryz.func55
def Mw:List Nat:=[7,9,13,14,15,16,17,18,19,20,21,22,23]
def akC:=(⟨_,by cbv⟩:kB Tryz.f56 []).1
def akD:List aF:=[(.mv (.tmp 2))]
def Tj:jB 56 akC akD 5:=aI Tryz.func56
def aoC:=(⟨_,by cbv⟩:kB Tryz.f57 []).1
def aoD:List aF:=[(.mv (.tmp 2))]
def akE:jB 57 aoC aoD 9:=aI Tryz.func57
def akF:=(⟨_,by cbv⟩:kB Tryz.f58 []).1
def akG:List aF:=[(.mv (.tmp 4))]
def akH:jB 58 akF akG 11:=aI Tryz.func58
def Tk:=(⟨_,by cbv⟩:kB Tryz.f59 [[12],[11,2,1,1,1,0,2,2,2,0,2,2,0]]).1
def sU:List aF:=[(.mv (.tmp 8))]
def uB:jB 59 Tk sU 108:=aI Tryz.func59
def D3:List Nat:=(⟨_,by cbv⟩:wT [1,1,1,1,1,1,1,1,1,1,1,1,0,1,0] Tk).1
def akI:=(⟨_,by cbv⟩:kB Tryz.f60 []).1
def Tl:List aF:=[(.mv (.tmp 2)),(.mv (.tmp 3)),(.mv (.tmp 4))]
def akJ:jB 60 akI Tl 41:=aI Tryz.func60
def Mx:List Nat:=[5,7,17,18,19,20,21,22,23,24,25,26]
def IF:=(⟨_,by cbv⟩:kB Tryz.f61 [[5]]).1
def IG:List aF:=[(.load true 13 (.tmp 2))]
def uC:jB 61 IF IG 43:=aI Tryz.func61
def ez:List Nat:=[3,4,22,23,24,25,26,27,28,29,30,31,32,33]
def II:=(⟨_,by cbv⟩:kB Tryz.f62 [[7]]).1
def Tm:List aF:=[(.mv (.tmp 6))]
def Tn:jB 62 II Tm 98:=aI Tryz.func62
def ob:List Nat:=(⟨_,by cbv⟩:wT [1,1,1,0,1,0] II).1
def akK:=(⟨_,by cbv⟩:kB Tryz.f63 []).1
def akL:List aF:=[(.mv (.tmp 2))]
def akM:jB 63 akK akL 9:=aI Tryz.func63
def IJ:=(⟨_,by cbv⟩:kB Tryz.f64 []).1
def sV:List aF:=[(.mv (.tmp 2))]
def akN:jB 64 IJ sV 101:=aI Tryz.func64
def gE:List Nat:=(⟨_,by cbv⟩:wT [1,1,1,1,1,1,0,1,0] IJ).1
def D4:=(⟨_,by cbv⟩:kB Tryz.f65 []).1
def D5:List aF:=[(.mv (.tmp 2))]
def akO:jB 65 D4 D5 206:=aI Tryz.func65
def Pp:=(⟨_,by cbv⟩:kB Tryz.f66 []).1
def Pq:List aF:=[(.mv (.tmp 2))]
def akP:jB 66 Pp Pq 63:=aI Tryz.func66
def aoE:=(⟨_,by cbv⟩:kB Tryz.f67 []).1
def aoF:List aF:=[(.mv (.tmp 4))]
def akQ:jB 67 aoE aoF 68:=aI Tryz.func67
def abw:=(⟨_,by cbv⟩:kB Tryz.f68 []).1
def abx:List aF:=[(.mv (.tmp 4))]
def akR:jB 68 abw abx 20:=aI Tryz.func68
def aby:=(⟨_,by cbv⟩:kB Tryz.f69 []).1
def D6:List aF:=[(.mv (.tmp 4)),(.mv (.tmp 5))]
def akS:jB 69 aby D6 53:=aI Tryz.func69
def eR:List Nat:=(⟨_,by cbv⟩:wT [1,1,1,1,0,1,0] aby).1
def aoG:=(⟨_,by cbv⟩:kB Tryz.f70 []).1
def aoH:List aF:=[(.load true 20 (.tmp 4))]
def akT:jB 70 aoG aoH 30:=aI Tryz.func70
def D7:List Nat:=[7,16,17,18,19,20,21,22,23,24,25,26,27,28]
end
end Go.Proofs.YtnopaopphmjnmaaGreatDoor
