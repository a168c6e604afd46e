import Derived.Test.YtnopaopphmjnmaaGreatDoorMBMG
import Derived.Test.YtnopaopphmjnmaaGreatDoorProg
set_option linter.all false
set_option maxRecDepth 100000
set_option maxHeartbeats 8000000
namespace Go.Proofs.YtnopaopphmjnmaaGreatDoor
noncomputable section
open Go Go.Abs
abbrev jA:=c9 Tryz.prog
abbrev kA(f:Func)(h:List (List Nat)):Type:={c:SC // c=scH Tryz.prog f h}
def sc4:=(⟨_,by cbv⟩:kA Tryz.f4 [[7]]).1
def rs4:List aF:=[(.mv (.tmp 12))]
def aoi:jA 4 sc4 rs4 81:=aI Tryz.func4
def abo:List Nat:=(⟨_,by cbv⟩:wT [1,1,1,1,1,1,0,1,0] sc4).1
def sc6:=(⟨_,by cbv⟩:kA Tryz.f6 [[31]]).1
def rs6:List aF:=[(.mv (.tmp 8))]
def aoj:jA 6 sc6 rs6 156:=aI Tryz.func6
def DW:List Nat:=(⟨_,by cbv⟩:wT [1,1,1,1,1,1,1,1,0,1,0] sc6).1
def DX:List Nat:=(⟨_,by cbv⟩:wT [1,1,1,1,1,1,1,1,1,1,1,1,1,0,1,0] sc6).1
def qg:=(⟨_,by cbv⟩:kA Tryz.f11 []).1
def aok:List aF:=[(.mv (.tmp 0))]
def aj8:jA 11 qg aok 138:=aI Tryz.func11
def aj9:=(⟨_,by cbv⟩:kA Tryz.f12 []).1
def abp:List aF:=[(.mv (.tmp 2))]
def aka:jA 12 aj9 abp 24:=aI Tryz.func12
def zJ:List Nat:=(⟨_,by cbv⟩:wT [1,1,0,1,0] aj9).1
def Tb:=(⟨_,by cbv⟩:kA Tryz.f13 [[11],[7],[9,2,1,1,1,1,1,1,1,0,0]]).1
def Pd:List aF:=[(.mv (.tmp 2)),(.mv (.tmp 3))]
def akb:jA 13 Tb Pd 71:=aI Tryz.func13
def zK:List Nat:=(⟨_,by cbv⟩:wT [1,1,1,0,1,0] Tb).1
def akc:=(⟨_,by cbv⟩:kA Tryz.f15 []).1
def abq:List aF:=[(.mv (.tmp 2))]
def akd:jA 15 akc abq 64:=aI Tryz.func15
def uz:List Nat:=(⟨_,by cbv⟩:wT [1,1,1,0,1,0] akc).1
def IC:=(⟨_,by cbv⟩:kA Tryz.f16 [[25],[14,2,2,2,2,2,1,1,1,1,1,1,1,1,0,0],[12,2,1,1,1,1,1,1,1,1,1,1,0,0]]).1
def abr:List aF:=[(.mv (.tmp 4))]
def Tc:jA 16 IC abr 83:=aI Tryz.func16
def Mu:List Nat:=(⟨_,by cbv⟩:wT [1,1,1,1,0,1,0] IC).1
def aol:=(⟨_,by cbv⟩:kA Tryz.f18 []).1
def ake:List aF:=[(.mv (.tmp 4)),(.mv (.tmp 5))]
def akf:jA 18 aol ake 35:=aI Tryz.func18
def DY:List Nat:=[6,8,16,17,18,19,20,21,22,23,24,25,26,27]
def aom:=(⟨_,by cbv⟩:kA Tryz.f20 []).1
def Pe:List aF:=[(.load true 18 (.tmp 6)),(.mv (.tmp 7))]
def akg:jA 20 aom Pe 26:=aI Tryz.func20
def Pf:=(⟨_,by cbv⟩:kA Tryz.f23 [[14],[14,2,2,2,2,2,2,2,2,2,2,2,0,0,2,0]]).1
def Ph:List aF:=[(.mv (.tmp 8))]
def akh:jA 23 Pf Ph 96:=aI Tryz.func23
def DZ:List Nat:=(⟨_,by cbv⟩:wT [1,0,1,1,1,1,0,1,0,1,0,1,1,1,1,0] Pf).1
def aon:=(⟨_,by cbv⟩:kA Tryz.f26 []).1
def abt:List aF:=[(.mv (.tmp 4))]
def aki:jA 26 aon abt 29:=aI Tryz.func26
def Td:List Nat:=[4,7,15,16,17,18,19,20,21,22,23,24,25,26,27]
def aoo:=(⟨_,by cbv⟩:kA Tryz.f27 []).1
def Te:List aF:=[(.mv (.tmp 10))]
def akj:jA 27 aoo Te 31:=aI Tryz.func27
def aop:=(⟨_,by cbv⟩:kA Tryz.f28 []).1
def aoq:List aF:=[(.load true 13 (.tmp 2))]
def akk:jA 28 aop aoq 51:=aI Tryz.func28
def Tf:=(⟨_,by cbv⟩:kA Tryz.f29 []).1
def Tg:List aF:=[(.load true 5 (.tmp 4)),(.mv (.tmp 5))]
def Th:jA 29 Tf Tg 12:=aI Tryz.func29
def Pj:=(⟨_,by cbv⟩:kA Tryz.f30 [[6]]).1
def Pk:List aF:=[(.mv (.tmp 10))]
def akl:jA 30 Pj Pk 43:=aI Tryz.func30
def abu:=(⟨_,by cbv⟩:kA Tryz.f31 [[4]]).1
def abv:List aF:=[(.load true 18 (.tmp 2)),(.mv (.tmp 3)),(.mv (.tmp 4))]
def IE:jA 31 abu abv 25:=aI Tryz.func31
def aor:=(⟨_,by cbv⟩:kA Tryz.f33 []).1
def aos:List aF:=[(.load true 13 (.tmp 0))]
def akm:jA 33 aor aos 15:=aI Tryz.func33
def D0:=(⟨_,by cbv⟩:kA Tryz.f34 []).1
def D1:List aF:=[(.mv (.tmp 2))]
def akn:jA 34 D0 D1 105:=aI Tryz.func34
def Pm:=(⟨_,by cbv⟩:kA Tryz.f37 [[5,1,2,2,1,0,0]]).1
def Pn:List aF:=[(.load true 18 (.tmp 4))]
def uA:jA 37 Pm Pn 67:=aI Tryz.func37
def aot:=(⟨_,by cbv⟩:kA Tryz.f39 []).1
def aou:List aF:=[(.mv (.tmp 2))]
def ako:jA 39 aot aou 13:=aI Tryz.func39
end
end Go.Proofs.YtnopaopphmjnmaaGreatDoor
