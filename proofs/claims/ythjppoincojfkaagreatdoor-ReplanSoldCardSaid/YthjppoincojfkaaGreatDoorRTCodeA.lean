import Derived.Test.YthjppoincojfkaaGreatDoorRTMG
import Derived.Test.YthjppoincojfkaaGreatDoorProg
set_option linter.all false
set_option maxRecDepth 100000
set_option maxHeartbeats 8000000
namespace Go.Proofs.YthjppoincojfkaaGreatDoor
noncomputable section
open Go Go.Abs
abbrev jA:=cV Tryz.prog
abbrev kA(f:Func)(h:List (Pa)):Type:={c:SC // c=scH Tryz.prog f h}
def S3:=(⟨_,by cbv⟩:kA Tryz.f10 [[7],[13,2,2,2,2,2,2,2,2,2,2,2,0,0,0],[7]]).1
def Ep:List aF:=[(.mv (.tmp 6))]
def S4:jA 10 S3 Ep 121:=aL Tryz.func10
def rV:Pa:=(⟨_,by cbv⟩:wT [1,1,1,1,1,1,0,1,0] S3).1
def S5:Pa:=(⟨_,by cbv⟩:wT [1,1,1,1,1,1,1,1,1,1,0,1,0] S3).1
def aoQ:=(⟨_,by cbv⟩:kA Tryz.f11 []).1
def aoR:List aF:=[(.mv (.tmp 0))]
def ajT:jA 11 aoQ aoR 138:=aL Tryz.func11
def ajU:=(⟨_,by cbv⟩:kA Tryz.f12 []).1
def abE:List aF:=[(.mv (.tmp 2))]
def ajV:jA 12 ajU abE 37:=aL Tryz.func12
def rX:Pa:=(⟨_,by cbv⟩:wT [1,1,1,0,1,0] ajU).1
def abF:=(⟨_,by cbv⟩:kA Tryz.f13 [[5]]).1
def abG:List aF:=[(.mv (.tmp 4))]
def ajW:jA 13 abF abG 37:=aL Tryz.func13
def Er:Pa:=(⟨_,by cbv⟩:wT [1,1,1,1,0,1,0] abF).1
def aoS:=(⟨_,by cbv⟩:kA Tryz.f14 []).1
def aoT:List aF:=[(.load true 13 (.tmp 2))]
def ajX:jA 14 aoS aoT 51:=aL Tryz.func14
def S6:=(⟨_,by cbv⟩:kA Tryz.f17 []).1
def S7:List aF:=[(.load true 5 (.tmp 4)),(.mv (.tmp 5))]
def S8:jA 17 S6 S7 12:=aL Tryz.func17
def Pm:=(⟨_,by cbv⟩:kA Tryz.f18 [[6]]).1
def Pn:List aF:=[(.mv (.tmp 10))]
def ajY:jA 18 Pm Pn 43:=aL Tryz.func18
def aoU:=(⟨_,by cbv⟩:kA Tryz.f20 []).1
def ajZ:List aF:=[(.mv (.tmp 4))]
def aj0:jA 20 aoU ajZ 18:=aL Tryz.func20
def MA:Pa:=[4,5,6,7,8,9,10,11,12,13,14,15,16,17]
def Po:=(⟨_,by cbv⟩:kA Tryz.f21 [[11,107,1,1,1,0,2,0,2,2,2,0,0]]).1
def Pp:List aF:=[(.mv (.tmp 4))]
def u5:jA 21 Po Pp 36:=aL Tryz.func21
def eT:=(⟨_,by cbv⟩:kA Tryz.f22 []).1
def eU:List aF:=[(.mv (.tmp 2))]
def S9:jA 22 eT eU 87:=aL Tryz.func22
def abH:=(⟨_,by cbv⟩:kA Tryz.f23 []).1
def abI:List aF:=[(.mv (.tmp 4))]
def Ta:jA 23 abH abI 45:=aL Tryz.func23
def aoV:=(⟨_,by cbv⟩:kA Tryz.f24 []).1
def aoW:List aF:=[(.load true 26 (.tmp 2))]
def aj1:jA 24 aoV aoW 26:=aL Tryz.func24
def Pq:=(⟨_,by cbv⟩:kA Tryz.f25 [[5,1,2,2,1,0,0]]).1
def Pr:List aF:=[(.load true 18 (.tmp 4))]
def u6:jA 25 Pq Pr 67:=aL Tryz.func25
def aoX:=(⟨_,by cbv⟩:kA Tryz.f26 []).1
def aoY:List aF:=[(.mv (.tmp 4))]
def aj2:jA 26 aoX aoY 8:=aL Tryz.func26
def aoZ:=(⟨_,by cbv⟩:kA Tryz.f27 []).1
def ao0:List aF:=[(.mv (.tmp 4))]
def aj3:jA 27 aoZ ao0 91:=aL Tryz.func27
def abJ:=(⟨_,by cbv⟩:kA Tryz.f29 []).1
def abK:List aF:=[(.load true 7 (.tmp 4)),(.mv (.tmp 5))]
def Tb:jA 29 abJ abK 21:=aL Tryz.func29
def abL:=(⟨_,by cbv⟩:kA Tryz.f30 [[4]]).1
def abM:List aF:=[(.load true 18 (.tmp 2)),(.mv (.tmp 3)),(.mv (.tmp 4))]
def IT:jA 30 abL abM 25:=aL Tryz.func30
def ao1:=(⟨_,by cbv⟩:kA Tryz.f31 []).1
def ao2:List aF:=[(.load true 13 (.tmp 0))]
def aj4:jA 31 ao1 ao2 15:=aL Tryz.func31
def awd:SC:=Vn Tryz.prog Tryz.f32
def awe:List aF:=Vo Tryz.prog Tryz.f32
def awf:jA 32 awd awe 87:=aL Tryz.func32
def awg:SC:=Vn Tryz.prog Tryz.f33
def awh:List aF:=Vo Tryz.prog Tryz.f33
def awi:jA 33 awg awh 17:=aL Tryz.func33
def aj5:=(⟨_,by cbv⟩:kA Tryz.f34 [[9,1,2,2,2,2,2,2,2,0,0]]).1
def aj6:List aF:=[(.load true 7 (.tmp 4)),(.mv (.tmp 5)),(.mv (.tmp 6))]
def aj7:jA 34 aj5 aj6 33:=aL Tryz.func34
def ao3:=(⟨_,by cbv⟩:kA Tryz.f36 []).1
def aj8:List aF:=[(.load true 5 (.tmp 6)),(.mv (.tmp 7))]
def aj9:jA 36 ao3 aj8 25:=aL Tryz.func36
def MB:Pa:=[7,9,13,14,15,16,17,18,19,20,21,22,23]
def aka:=(⟨_,by cbv⟩:kA Tryz.f37 []).1
def akb:List aF:=[(.mv (.tmp 2))]
def Tc:jA 37 aka akb 5:=aL Tryz.func37
def ao4:=(⟨_,by cbv⟩:kA Tryz.f38 []).1
def ao5:List aF:=[(.mv (.tmp 2))]
def akc:jA 38 ao4 ao5 9:=aL Tryz.func38
def akd:=(⟨_,by cbv⟩:kA Tryz.f39 []).1
def ake:List aF:=[(.mv (.tmp 4))]
def akf:jA 39 akd ake 11:=aL Tryz.func39
def Td:=(⟨_,by cbv⟩:kA Tryz.f40 [[12],[11,2,1,1,1,0,2,2,2,0,2,2,0]]).1
def tC:List aF:=[(.mv (.tmp 8))]
def u7:jA 40 Td tC 108:=aL Tryz.func40
def Es:Pa:=(⟨_,by cbv⟩:wT [1,1,1,1,1,1,1,1,1,1,1,1,0,1,0] Td).1
def abN:=(⟨_,by cbv⟩:kA Tryz.f41 []).1
def abO:List aF:=[(.mv (.tmp 4))]
def akg:jA 41 abN abO 20:=aL Tryz.func41
end
