import Derived.Test.YtfliagpjbbkijaaGreatDoorVAMG
import Derived.Test.YtfliagpjbbkijaaGreatDoorProg
set_option linter.all false
set_option maxRecDepth 100000
set_option maxHeartbeats 8000000
namespace Go.Proofs.YtfliagpjbbkijaaGreatDoor
noncomputable section
open Go Go.Abs
abbrev jA:=cV Tryz.prog
abbrev kA(f:Func)(h:List (P1)):Type:={c:SC // c=scH Tryz.prog f h}
def sc3:=(⟨_,by cbv⟩:kA Tryz.f3 [[3]]).1
def rs3:List aF:=[(.mv (.tmp 6))]
def agW:jA 3 sc3 rs3 101:=aK Tryz.func3
def sc4:=(⟨_,by cbv⟩:kA Tryz.f4 []).1
def rs4:List aF:=[(.mv (.tmp 2))]
def Td:jA 4 sc4 rs4 54:=aK Tryz.func4
def sc6:=(⟨_,by cbv⟩:kA Tryz.f6 []).1
def rs6:List aF:=[(.mv (.tmp 0))]
def aoX:jA 6 sc6 rs6 138:=aK Tryz.func6
def sc7:=(⟨_,by cbv⟩:kA Tryz.f7 []).1
def rs7:List aF:=[(.load true 26 (.tmp 2))]
def aoY:jA 7 sc7 rs7 26:=aK Tryz.func7
def sc8:SC:=Vm Tryz.prog Tryz.f8
def rs8:List aF:=Vn Tryz.prog Tryz.f8
def ayY:jA 8 sc8 rs8 87:=aK Tryz.func8
def Au:=(⟨_,by cbv⟩:kA Tryz.f9 []).1
def Av:List aF:=[(.mv (.tmp 2))]
def aoZ:jA 9 Au Av 87:=aK Tryz.func9
def awk:SC:=Vm Tryz.prog Tryz.f10
def awl:List aF:=Vn Tryz.prog Tryz.f10
def awm:jA 10 awk awl 17:=aK Tryz.func10
def aka:=(⟨_,by cbv⟩:kA Tryz.f11 []).1
def akb:List aF:=[(.mv (.tmp 4))]
def akc:jA 11 aka akb 13:=aK Tryz.func11
def ao0:=(⟨_,by cbv⟩:kA Tryz.f12 []).1
def ao1:List aF:=[(.mv (.tmp 4))]
def akd:jA 12 ao0 ao1 8:=aK Tryz.func12
def abK:=(⟨_,by cbv⟩:kA Tryz.f16 [[4]]).1
def abL:List aF:=[(.load true 18 (.tmp 2)),(.mv (.tmp 3)),(.mv (.tmp 4))]
def I8:jA 16 abK abL 25:=aK Tryz.func16
def ao2:=(⟨_,by cbv⟩:kA Tryz.f17 []).1
def ao3:List aF:=[(.load true 13 (.tmp 0))]
def ake:jA 17 ao2 ao3 15:=aK Tryz.func17
def Pz:=(⟨_,by cbv⟩:kA Tryz.f18 [[5,1,2,2,1,0,0]]).1
def PA:List aF:=[(.load true 18 (.tmp 4))]
def u9:jA 18 Pz PA 67:=aK Tryz.func18
def akf:=(⟨_,by cbv⟩:kA Tryz.f19 [[9,1,2,2,2,2,2,2,2,0,0]]).1
def akg:List aF:=[(.load true 7 (.tmp 4)),(.mv (.tmp 5)),(.mv (.tmp 6))]
def akh:jA 19 akf akg 33:=aK Tryz.func19
def PB:=(⟨_,by cbv⟩:kA Tryz.f20 [[11,107,1,1,1,0,2,0,2,2,2,0,0]]).1
def PC:List aF:=[(.mv (.tmp 4))]
def vf:jA 20 PB PC 36:=aK Tryz.func20
def abM:=(⟨_,by cbv⟩:kA Tryz.f21 []).1
def abN:List aF:=[(.mv (.tmp 4))]
def Te:jA 21 abM abN 45:=aK Tryz.func21
def awn:SC:=Vm Tryz.prog Tryz.f22
def awo:List aF:=Vn Tryz.prog Tryz.f22
def awp:jA 22 awn awo 12:=aK Tryz.func22
def aki:=(⟨_,by cbv⟩:kA Tryz.f23 []).1
def akj:List aF:=[(.mv (.tmp 2)),(.mv (.tmp 3))]
def akk:jA 23 aki akj 40:=aK Tryz.func23
def awq:SC:=Vm Tryz.prog Tryz.f24
def awr:List aF:=Vn Tryz.prog Tryz.f24
def aws:jA 24 awq awr 19:=aK Tryz.func24
def ao4:=(⟨_,by cbv⟩:kA Tryz.f25 [[6],[18],[24],[12]]).1
def ao5:List aF:=[(.mv (.tmp 2))]
def akl:jA 25 ao4 ao5 97:=aK Tryz.func25
def ao6:=(⟨_,by cbv⟩:kA Tryz.f26 []).1
def ao7:List aF:=[(.mv (.tmp 2)),(.mv (.tmp 3))]
def akm:jA 26 ao6 ao7 21:=aK Tryz.func26
def awt:SC:=Vm Tryz.prog Tryz.f27
def awu:List aF:=Vn Tryz.prog Tryz.f27
def awv:jA 27 awt awu 14:=aK Tryz.func27
def akn:=(⟨_,by cbv⟩:kA Tryz.f28 []).1
def ako:List aF:=[(.mv (.tmp 2))]
def akp:jA 28 akn ako 9:=aK Tryz.func28
def ao8:=(⟨_,by cbv⟩:kA Tryz.f29 []).1
def ao9:List aF:=[(.mv (.tmp 2))]
def akq:jA 29 ao8 ao9 62:=aK Tryz.func29
def tK:=(⟨_,by cbv⟩:kA Tryz.f30 []).1
def iN:List aF:=[(.mv (.tmp 2))]
def akr:jA 30 tK iN 75:=aK Tryz.func30
def gQ:P1:=(⟨_,by cbv⟩:wT [1,1,1,1,1,0,1,0] tK).1
def aks:=(⟨_,by cbv⟩:kA Tryz.f31 [[3]]).1
def iw:List aF:=[(.mv (.tmp 2))]
def akt:jA 31 aks iw 95:=aK Tryz.func31
end
