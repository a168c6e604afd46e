import Derived.Test.YtnopaopphmjnmaaGreatDoorMEMG
import Derived.Test.YtnopaopphmjnmaaGreatDoorProg
set_option linter.all false
set_option maxRecDepth 100000
set_option maxHeartbeats 8000000
namespace Go.Proofs.YtnopaopphmjnmaaGreatDoor
noncomputable section
open Go Go.Abs
abbrev jA:=dn Tryz.prog
abbrev kA(f:Func)(h:List (List Nat)):Type:={c:SC // c=scH Tryz.prog f h}
def sc7:=(⟨_,by cbv⟩:kA Tryz.f7 [[5,1,1,0,2,2],[20,1,1,1,1,1,1,1,1,1,1,1,1,1,1,0,2,2,2,2,2]]).1
def rs7:List aD:=[(.mv (.tmp 10))]
def aoQ:jA 7 sc7 rs7 169:=aI Tryz.func7
def tH:List Nat:=(⟨_,by cbv⟩:wT [1,1,1,1,1,1,1,1,0,1,0] sc7).1
def qB:=(⟨_,by cbv⟩:kA Tryz.f11 []).1
def aoR:List aD:=[(.mv (.tmp 0))]
def aky:jA 11 qB aoR 138:=aI Tryz.func11
def Ty:=(⟨_,by cbv⟩:kA Tryz.f13 [[11],[7],[9,2,1,1,1,1,1,1,1,0,0]]).1
def PL:List aD:=[(.mv (.tmp 2)),(.mv (.tmp 3))]
def akz:jA 13 Ty PL 71:=aI Tryz.func13
def Ae:List Nat:=(⟨_,by cbv⟩:wT [1,1,1,0,1,0] Ty).1
def akA:=(⟨_,by cbv⟩:kA Tryz.f15 []).1
def abP:List aD:=[(.mv (.tmp 2))]
def akB:jA 15 akA abP 64:=aI Tryz.func15
def u7:List Nat:=(⟨_,by cbv⟩:wT [1,1,1,0,1,0] akA).1
def I5:=(⟨_,by cbv⟩:kA Tryz.f16 [[25],[14,2,2,2,2,2,1,1,1,1,1,1,1,1,0,0],[12,2,1,1,1,1,1,1,1,1,1,1,0,0]]).1
def abQ:List aD:=[(.mv (.tmp 4))]
def Tz:jA 16 I5 abQ 83:=aI Tryz.func16
def MY:List Nat:=(⟨_,by cbv⟩:wT [1,1,1,1,0,1,0] I5).1
def aoS:=(⟨_,by cbv⟩:kA Tryz.f18 []).1
def akC:List aD:=[(.mv (.tmp 4)),(.mv (.tmp 5))]
def akD:jA 18 aoS akC 35:=aI Tryz.func18
def Eg:List Nat:=[6,8,16,17,18,19,20,21,22,23,24,25,26,27]
def aoT:=(⟨_,by cbv⟩:kA Tryz.f20 []).1
def PM:List aD:=[(.load true 18 (.tmp 6)),(.mv (.tmp 7))]
def akE:jA 20 aoT PM 26:=aI Tryz.func20
def akF:=(⟨_,by cbv⟩:kA Tryz.f22 [[8]]).1
def aoU:List aD:=[(.mv (.tmp 4))]
def akG:jA 22 akF aoU 26:=aI Tryz.func22
def TA:List Nat:=(⟨_,by cbv⟩:wT [1,1,0,1,0] akF).1
def PN:=(⟨_,by cbv⟩:kA Tryz.f23 [[14],[14,2,2,2,2,2,2,2,2,2,2,2,0,0,2,0]]).1
def PO:List aD:=[(.mv (.tmp 8))]
def akH:jA 23 PN PO 96:=aI Tryz.func23
def Eh:List Nat:=(⟨_,by cbv⟩:wT [1,0,1,1,1,1,0,1,0,1,0,1,1,1,1,0] PN).1
def aoV:=(⟨_,by cbv⟩:kA Tryz.f26 []).1
def abR:List aD:=[(.mv (.tmp 4))]
def akI:jA 26 aoV abR 29:=aI Tryz.func26
def TB:List Nat:=[4,7,15,16,17,18,19,20,21,22,23,24,25,26,27]
def aoW:=(⟨_,by cbv⟩:kA Tryz.f27 []).1
def TC:List aD:=[(.mv (.tmp 10))]
def akJ:jA 27 aoW TC 31:=aI Tryz.func27
def aoX:=(⟨_,by cbv⟩:kA Tryz.f28 []).1
def aoY:List aD:=[(.load true 13 (.tmp 2))]
def akK:jA 28 aoX aoY 51:=aI Tryz.func28
def TD:=(⟨_,by cbv⟩:kA Tryz.f29 []).1
def TE:List aD:=[(.load true 5 (.tmp 4)),(.mv (.tmp 5))]
def TF:jA 29 TD TE 12:=aI Tryz.func29
def PR:=(⟨_,by cbv⟩:kA Tryz.f30 [[6]]).1
def PT:List aD:=[(.mv (.tmp 10))]
def akL:jA 30 PR PT 43:=aI Tryz.func30
def abS:=(⟨_,by cbv⟩:kA Tryz.f31 [[4]]).1
def abT:List aD:=[(.load true 18 (.tmp 2)),(.mv (.tmp 3)),(.mv (.tmp 4))]
def I6:jA 31 abS abT 25:=aI Tryz.func31
def aoZ:=(⟨_,by cbv⟩:kA Tryz.f33 []).1
def ao0:List aD:=[(.load true 13 (.tmp 0))]
def akM:jA 33 aoZ ao0 15:=aI Tryz.func33
def Ei:=(⟨_,by cbv⟩:kA Tryz.f34 []).1
def Ej:List aD:=[(.mv (.tmp 2))]
def akN:jA 34 Ei Ej 105:=aI Tryz.func34
def PU:=(⟨_,by cbv⟩:kA Tryz.f37 [[5,1,2,2,1,0,0]]).1
def PV:List aD:=[(.load true 18 (.tmp 4))]
def u9:jA 37 PU PV 67:=aI Tryz.func37
def ao1:=(⟨_,by cbv⟩:kA Tryz.f39 []).1
def ao2:List aD:=[(.mv (.tmp 2))]
def akO:jA 39 ao1 ao2 13:=aI Tryz.func39
def fQ:=(⟨_,by cbv⟩:kA Tryz.f40 []).1
def fR:List aD:=[(.mv (.tmp 2))]
def akP:jA 40 fQ fR 87:=aI Tryz.func40
end
end Go.Proofs.YtnopaopphmjnmaaGreatDoor
