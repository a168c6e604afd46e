import Derived.Test.YtnopaopphmjnmaaGreatDoorMQMG
import Derived.Test.YtnopaopphmjnmaaGreatDoorProg
set_option linter.all false
set_option maxRecDepth 100000
set_option maxHeartbeats 8000000
namespace Go.Proofs.YtnopaopphmjnmaaGreatDoor
noncomputable section
open Go Go.Abs
abbrev jA:=dz Tryz.prog
abbrev kA(f:Func)(h:List (List Nat)):Type:={c:SC // c=scH Tryz.prog f h}
def TT:=(⟨_,by cbv⟩:kA Tryz.f9 [[8]]).1
def rs9:List aF:=[(.mv (.tmp 10))]
def apK:jA 9 TT rs9 138:=aJ Tryz.func9
def J5:List Nat:=(⟨_,by cbv⟩:wT [1,1,1,1,1,1,1,1,1,1,1,1,1,1,0,1,0] TT).1
def QM:List Nat:=(⟨_,by cbv⟩:wT [1,1,1,1,1,1,1,1,1,1,1,1,1,1,0,1,0,0,1,0,0,1,1,0] TT).1
def alm:List Nat:=(⟨_,by cbv⟩:wT [1,1,1,1,1,1,1,1,1,1,1,1,1,1,0,1,0,0,1,0,0,1,1,0,0,1,0,0,1,1,0] TT).1
def qJ:=(⟨_,by cbv⟩:kA Tryz.f11 []).1
def apL:List aF:=[(.mv (.tmp 0))]
def aln:jA 11 qJ apL 138:=aJ Tryz.func11
def UJ:=(⟨_,by cbv⟩:kA Tryz.f13 [[11],[7],[9,2,1,1,1,1,1,1,1,0,0]]).1
def QN:List aF:=[(.mv (.tmp 2)),(.mv (.tmp 3))]
def alo:jA 13 UJ QN 71:=aJ Tryz.func13
def AA:List Nat:=(⟨_,by cbv⟩:wT [1,1,1,0,1,0] UJ).1
def alp:=(⟨_,by cbv⟩:kA Tryz.f15 []).1
def acv:List aF:=[(.mv (.tmp 2))]
def alq:jA 15 alp acv 64:=aJ Tryz.func15
def vo:List Nat:=(⟨_,by cbv⟩:wT [1,1,1,0,1,0] alp).1
def J6:=(⟨_,by cbv⟩:kA Tryz.f16 [[25],[14,2,2,2,2,2,1,1,1,1,1,1,1,1,0,0],[12,2,1,1,1,1,1,1,1,1,1,1,0,0]]).1
def acw:List aF:=[(.mv (.tmp 4))]
def UK:jA 16 J6 acw 83:=aJ Tryz.func16
def Nw:List Nat:=(⟨_,by cbv⟩:wT [1,1,1,1,0,1,0] J6).1
def apM:=(⟨_,by cbv⟩:kA Tryz.f18 []).1
def alr:List aF:=[(.mv (.tmp 4)),(.mv (.tmp 5))]
def alu:jA 18 apM alr 35:=aJ Tryz.func18
def EP:List Nat:=[6,8,16,17,18,19,20,21,22,23,24,25,26,27]
def apN:=(⟨_,by cbv⟩:kA Tryz.f20 []).1
def QO:List aF:=[(.load true 18 (.tmp 6)),(.mv (.tmp 7))]
def alv:jA 20 apN QO 26:=aJ Tryz.func20
def QS:=(⟨_,by cbv⟩:kA Tryz.f23 [[14],[14,2,2,2,2,2,2,2,2,2,2,2,0,0,2,0]]).1
def QT:List aF:=[(.mv (.tmp 8))]
def alw:jA 23 QS QT 96:=aJ Tryz.func23
def ER:List Nat:=(⟨_,by cbv⟩:wT [1,0,1,1,1,1,0,1,0,1,0,1,1,1,1,0] QS).1
def apO:=(⟨_,by cbv⟩:kA Tryz.f26 []).1
def acy:List aF:=[(.mv (.tmp 4))]
def alx:jA 26 apO acy 29:=aJ Tryz.func26
def UL:List Nat:=[4,7,15,16,17,18,19,20,21,22,23,24,25,26,27]
def apP:=(⟨_,by cbv⟩:kA Tryz.f27 []).1
def UM:List aF:=[(.mv (.tmp 10))]
def aly:jA 27 apP UM 31:=aJ Tryz.func27
def apQ:=(⟨_,by cbv⟩:kA Tryz.f28 []).1
def apR:List aF:=[(.load true 13 (.tmp 2))]
def alz:jA 28 apQ apR 51:=aJ Tryz.func28
def UN:=(⟨_,by cbv⟩:kA Tryz.f29 []).1
def UO:List aF:=[(.load true 5 (.tmp 4)),(.mv (.tmp 5))]
def UP:jA 29 UN UO 12:=aJ Tryz.func29
def QU:=(⟨_,by cbv⟩:kA Tryz.f30 [[6]]).1
def QV:List aF:=[(.mv (.tmp 10))]
def alA:jA 30 QU QV 43:=aJ Tryz.func30
def acz:=(⟨_,by cbv⟩:kA Tryz.f31 [[4]]).1
def acA:List aF:=[(.load true 18 (.tmp 2)),(.mv (.tmp 3)),(.mv (.tmp 4))]
def J7:jA 31 acz acA 25:=aJ Tryz.func31
def alB:=(⟨_,by cbv⟩:kA Tryz.f32 []).1
def alC:List aF:=[(.mv (.tmp 4))]
def alD:jA 32 alB alC 13:=aJ Tryz.func32
def apS:=(⟨_,by cbv⟩:kA Tryz.f33 []).1
def apT:List aF:=[(.load true 13 (.tmp 0))]
def alE:jA 33 apS apT 15:=aJ Tryz.func33
def ES:=(⟨_,by cbv⟩:kA Tryz.f34 []).1
def ET:List aF:=[(.mv (.tmp 2))]
def alF:jA 34 ES ET 105:=aJ Tryz.func34
def QW:=(⟨_,by cbv⟩:kA Tryz.f35 [[11,107,1,1,1,0,2,0,2,2,2,0,0]]).1
def QX:List aF:=[(.mv (.tmp 4))]
def vp:jA 35 QW QX 36:=aJ Tryz.func35
def QY:=(⟨_,by cbv⟩:kA Tryz.f37 [[5,1,2,2,1,0,0]]).1
def QZ:List aF:=[(.load true 18 (.tmp 4))]
def vq:jA 37 QY QZ 67:=aJ Tryz.func37
def apU:=(⟨_,by cbv⟩:kA Tryz.f39 []).1
def apV:List aF:=[(.mv (.tmp 2))]
def alG:jA 39 apU apV 13:=aJ Tryz.func39
def fU:=(⟨_,by cbv⟩:kA Tryz.f40 []).1
def fV:List aF:=[(.mv (.tmp 2))]
def alH:jA 40 fU fV 87:=aJ Tryz.func40
end
