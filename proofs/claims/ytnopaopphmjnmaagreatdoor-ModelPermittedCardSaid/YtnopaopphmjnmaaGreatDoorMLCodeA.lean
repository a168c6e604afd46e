import Derived.Test.YtnopaopphmjnmaaGreatDoorMLMG
import Derived.Test.YtnopaopphmjnmaaGreatDoorProg
set_option linter.all false
set_option maxRecDepth 100000
set_option maxHeartbeats 8000000
namespace Go.Proofs.YtnopaopphmjnmaaGreatDoor
noncomputable section
open Go Go.Abs
abbrev jA:=dh Tryz.prog
abbrev kA(f:Func)(h:List (List Nat)):Type:={c:SC // c=scH Tryz.prog f h}
def sc5:=(⟨_,by cbv⟩:kA Tryz.f5 [[4],[8],[14,2,2,2,2,2,2,2,2,2,2,2,2,0,0,0],[13,2,2,2,2,2,2,2,2,2,2,2,0,0,0],[18]]).1
def rs5:List aD:=[(.mv (.tmp 8))]
def aoK:jA 5 sc5 rs5 121:=aI Tryz.func5
def abM:List Nat:=(⟨_,by cbv⟩:wT [1,1,1,1,1,0,1,0] sc5).1
def Px:List Nat:=(⟨_,by cbv⟩:wT [1,1,1,1,1,0,1,0,0,1,0,0,1,1,0] sc5).1
def qx:=(⟨_,by cbv⟩:kA Tryz.f11 []).1
def aoL:List aD:=[(.mv (.tmp 0))]
def akA:jA 11 qx aoL 138:=aI Tryz.func11
def TB:=(⟨_,by cbv⟩:kA Tryz.f13 [[11],[7],[9,2,1,1,1,1,1,1,1,0,0]]).1
def Py:List aD:=[(.mv (.tmp 2)),(.mv (.tmp 3))]
def akB:jA 13 TB Py 71:=aI Tryz.func13
def Ab:List Nat:=(⟨_,by cbv⟩:wT [1,1,1,0,1,0] TB).1
def akC:=(⟨_,by cbv⟩:kA Tryz.f15 []).1
def abN:List aD:=[(.mv (.tmp 2))]
def akD:jA 15 akC abN 64:=aI Tryz.func15
def uZ:List Nat:=(⟨_,by cbv⟩:wT [1,1,1,0,1,0] akC).1
def IW:=(⟨_,by cbv⟩:kA Tryz.f16 [[25],[14,2,2,2,2,2,1,1,1,1,1,1,1,1,0,0],[12,2,1,1,1,1,1,1,1,1,1,1,0,0]]).1
def abO:List aD:=[(.mv (.tmp 4))]
def TC:jA 16 IW abO 83:=aI Tryz.func16
def ML:List Nat:=(⟨_,by cbv⟩:wT [1,1,1,1,0,1,0] IW).1
def aoM:=(⟨_,by cbv⟩:kA Tryz.f18 []).1
def akE:List aD:=[(.mv (.tmp 4)),(.mv (.tmp 5))]
def akF:jA 18 aoM akE 35:=aI Tryz.func18
def Eb:List Nat:=[6,8,16,17,18,19,20,21,22,23,24,25,26,27]
def aoN:=(⟨_,by cbv⟩:kA Tryz.f20 []).1
def Pz:List aD:=[(.load true 18 (.tmp 6)),(.mv (.tmp 7))]
def akG:jA 20 aoN Pz 26:=aI Tryz.func20
def PA:=(⟨_,by cbv⟩:kA Tryz.f23 [[14],[14,2,2,2,2,2,2,2,2,2,2,2,0,0,2,0]]).1
def PB:List aD:=[(.mv (.tmp 8))]
def akH:jA 23 PA PB 96:=aI Tryz.func23
def Ec:List Nat:=(⟨_,by cbv⟩:wT [1,0,1,1,1,1,0,1,0,1,0,1,1,1,1,0] PA).1
def aoO:=(⟨_,by cbv⟩:kA Tryz.f26 []).1
def abP:List aD:=[(.mv (.tmp 4))]
def akI:jA 26 aoO abP 29:=aI Tryz.func26
def TD:List Nat:=[4,7,15,16,17,18,19,20,21,22,23,24,25,26,27]
def aoP:=(⟨_,by cbv⟩:kA Tryz.f27 []).1
def TE:List aD:=[(.mv (.tmp 10))]
def akJ:jA 27 aoP TE 31:=aI Tryz.func27
def aoQ:=(⟨_,by cbv⟩:kA Tryz.f28 []).1
def aoR:List aD:=[(.load true 13 (.tmp 2))]
def akK:jA 28 aoQ aoR 51:=aI Tryz.func28
def TF:=(⟨_,by cbv⟩:kA Tryz.f29 []).1
def TG:List aD:=[(.load true 5 (.tmp 4)),(.mv (.tmp 5))]
def TH:jA 29 TF TG 12:=aI Tryz.func29
def PC:=(⟨_,by cbv⟩:kA Tryz.f30 [[6]]).1
def PD:List aD:=[(.mv (.tmp 10))]
def akL:jA 30 PC PD 43:=aI Tryz.func30
def abQ:=(⟨_,by cbv⟩:kA Tryz.f31 [[4]]).1
def abR:List aD:=[(.load true 18 (.tmp 2)),(.mv (.tmp 3)),(.mv (.tmp 4))]
def IX:jA 31 abQ abR 25:=aI Tryz.func31
def aoS:=(⟨_,by cbv⟩:kA Tryz.f33 []).1
def aoT:List aD:=[(.load true 13 (.tmp 0))]
def akM:jA 33 aoS aoT 15:=aI Tryz.func33
def Ee:=(⟨_,by cbv⟩:kA Tryz.f34 []).1
def Ef:List aD:=[(.mv (.tmp 2))]
def akN:jA 34 Ee Ef 105:=aI Tryz.func34
def PE:=(⟨_,by cbv⟩:kA Tryz.f37 [[5,1,2,2,1,0,0]]).1
def PF:List aD:=[(.load true 18 (.tmp 4))]
def u5:jA 37 PE PF 67:=aI Tryz.func37
def aoU:=(⟨_,by cbv⟩:kA Tryz.f39 []).1
def aoV:List aD:=[(.mv (.tmp 2))]
def akO:jA 39 aoU aoV 13:=aI Tryz.func39
def fJ:=(⟨_,by cbv⟩:kA Tryz.f40 []).1
def fK:List aD:=[(.mv (.tmp 2))]
def akP:jA 40 fJ fK 87:=aI Tryz.func40
def aoW:=(⟨_,by cbv⟩:kA Tryz.f41 []).1
def aoX:List aD:=[(.mv (.tmp 4))]
def akQ:jA 41 aoW aoX 22:=aI Tryz.func41
def MM:List Nat:=[5,7,10,11,12,13,14,15,16,17,18,19,20]
def akR:=(⟨_,by cbv⟩:kA Tryz.f43 []).1
def akS:List aD:=[(.mv (.tmp 4))]
def akT:jA 43 akR akS 27:=aI Tryz.func43
end
end Go.Proofs.YtnopaopphmjnmaaGreatDoor
