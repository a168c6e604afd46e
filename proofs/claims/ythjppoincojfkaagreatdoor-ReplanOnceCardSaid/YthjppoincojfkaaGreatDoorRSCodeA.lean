import Derived.Test.YthjppoincojfkaaGreatDoorRSMG
import Derived.Test.YthjppoincojfkaaGreatDoorProg
set_option linter.all false
set_option maxRecDepth 100000
set_option maxHeartbeats 8000000
namespace Go.Proofs.YthjppoincojfkaaGreatDoor
noncomputable section
open Go Go.Abs
abbrev jA:=c9 Tryz.prog
abbrev kA(f:Func)(h:List (Pa)):Type:={c:SC // c=scH Tryz.prog f h}
def sc6:=(⟨_,by cbv⟩:kA Tryz.f6 [[13]]).1
def rs6:List aF:=[(.mv (.tmp 4))]
def agk:jA 6 sc6 rs6 133:=aK Tryz.func6
def ajw:Pa:=(⟨_,by cbv⟩:wT [1,1,1,1,1,1,0,1,0] sc6).1
def S0:Pa:=(⟨_,by cbv⟩:wT [1,1,1,1,1,1,0,1,0,0,1,0,0,1,0,1,0] sc6).1
def abk:Pa:=(⟨_,by cbv⟩:wT [1,1,1,1,1,1,0,1,0,0,1,0,0,1,1,1,0] sc6).1
def aoy:=(⟨_,by cbv⟩:kA Tryz.f11 []).1
def aoz:List aF:=[(.mv (.tmp 0))]
def ajx:jA 11 aoy aoz 138:=aK Tryz.func11
def ajy:=(⟨_,by cbv⟩:kA Tryz.f12 []).1
def abl:List aF:=[(.mv (.tmp 2))]
def ajz:jA 12 ajy abl 37:=aK Tryz.func12
def rZ:Pa:=(⟨_,by cbv⟩:wT [1,1,1,0,1,0] ajy).1
def abm:=(⟨_,by cbv⟩:kA Tryz.f13 [[5]]).1
def abn:List aF:=[(.mv (.tmp 4))]
def ajA:jA 13 abm abn 37:=aK Tryz.func13
def Em:Pa:=(⟨_,by cbv⟩:wT [1,1,1,1,0,1,0] abm).1
def aoA:=(⟨_,by cbv⟩:kA Tryz.f14 []).1
def aoB:List aF:=[(.load true 13 (.tmp 2))]
def ajB:jA 14 aoA aoB 51:=aK Tryz.func14
def ajC:=(⟨_,by cbv⟩:kA Tryz.f16 [[15]]).1
def ajD:List aF:=[(.mv (.tmp 4))]
def ajE:jA 16 ajC ajD 47:=aK Tryz.func16
def ov:Pa:=(⟨_,by cbv⟩:wT [1,1,0,1,0] ajC).1
def S1:=(⟨_,by cbv⟩:kA Tryz.f17 []).1
def S2:List aF:=[(.load true 5 (.tmp 4)),(.mv (.tmp 5))]
def S3:jA 17 S1 S2 12:=aK Tryz.func17
def O9:=(⟨_,by cbv⟩:kA Tryz.f18 [[6]]).1
def Pb:List aF:=[(.mv (.tmp 10))]
def ajF:jA 18 O9 Pb 43:=aK Tryz.func18
def ajG:=(⟨_,by cbv⟩:kA Tryz.f19 []).1
def Pc:List aF:=[(.mv (.tmp 4)),(.mv (.tmp 5))]
def ajH:jA 19 ajG Pc 69:=aK Tryz.func19
def ow:Pa:=(⟨_,by cbv⟩:wT [1,1,1,0,1,0] ajG).1
def aoC:=(⟨_,by cbv⟩:kA Tryz.f20 []).1
def ajI:List aF:=[(.mv (.tmp 4))]
def ajJ:jA 20 aoC ajI 18:=aK Tryz.func20
def My:Pa:=[4,5,6,7,8,9,10,11,12,13,14,15,16,17]
def Pd:=(⟨_,by cbv⟩:kA Tryz.f21 [[11,107,1,1,1,0,2,0,2,2,2,0,0]]).1
def Pe:List aF:=[(.mv (.tmp 4))]
def vk:jA 21 Pd Pe 36:=aK Tryz.func21
def eU:=(⟨_,by cbv⟩:kA Tryz.f22 []).1
def eV:List aF:=[(.mv (.tmp 2))]
def S4:jA 22 eU eV 87:=aK Tryz.func22
def abo:=(⟨_,by cbv⟩:kA Tryz.f23 []).1
def abp:List aF:=[(.mv (.tmp 4))]
def S5:jA 23 abo abp 45:=aK Tryz.func23
def aoD:=(⟨_,by cbv⟩:kA Tryz.f24 []).1
def aoE:List aF:=[(.load true 26 (.tmp 2))]
def ajK:jA 24 aoD aoE 26:=aK Tryz.func24
def Pf:=(⟨_,by cbv⟩:kA Tryz.f25 [[5,1,2,2,1,0,0]]).1
def Ph:List aF:=[(.load true 18 (.tmp 4))]
def vl:jA 25 Pf Ph 67:=aK Tryz.func25
def aoF:=(⟨_,by cbv⟩:kA Tryz.f26 []).1
def aoG:List aF:=[(.mv (.tmp 4))]
def ajL:jA 26 aoF aoG 8:=aK Tryz.func26
def aoH:=(⟨_,by cbv⟩:kA Tryz.f27 []).1
def aoI:List aF:=[(.mv (.tmp 4))]
def ajM:jA 27 aoH aoI 91:=aK Tryz.func27
def abq:=(⟨_,by cbv⟩:kA Tryz.f29 []).1
def abr:List aF:=[(.load true 7 (.tmp 4)),(.mv (.tmp 5))]
def S6:jA 29 abq abr 21:=aK Tryz.func29
def abt:=(⟨_,by cbv⟩:kA Tryz.f30 [[4]]).1
def abu:List aF:=[(.load true 18 (.tmp 2)),(.mv (.tmp 3)),(.mv (.tmp 4))]
def IT:jA 30 abt abu 25:=aK Tryz.func30
def aoJ:=(⟨_,by cbv⟩:kA Tryz.f31 []).1
def aoK:List aF:=[(.load true 13 (.tmp 0))]
def ajN:jA 31 aoJ aoK 15:=aK Tryz.func31
def avZ:SC:=Vk Tryz.prog Tryz.f32
def av0:List aF:=Vl Tryz.prog Tryz.f32
def av1:jA 32 avZ av0 87:=aK Tryz.func32
def av2:SC:=Vk Tryz.prog Tryz.f33
def av3:List aF:=Vl Tryz.prog Tryz.f33
def av4:jA 33 av2 av3 17:=aK Tryz.func33
def ajO:=(⟨_,by cbv⟩:kA Tryz.f34 [[9,1,2,2,2,2,2,2,2,0,0]]).1
def ajP:List aF:=[(.load true 7 (.tmp 4)),(.mv (.tmp 5)),(.mv (.tmp 6))]
def ajQ:jA 34 ajO ajP 33:=aK Tryz.func34
def aoL:=(⟨_,by cbv⟩:kA Tryz.f36 []).1
def ajR:List aF:=[(.load true 5 (.tmp 6)),(.mv (.tmp 7))]
def ajS:jA 36 aoL ajR 25:=aK Tryz.func36
def Mz:Pa:=[7,9,13,14,15,16,17,18,19,20,21,22,23]
def ajT:=(⟨_,by cbv⟩:kA Tryz.f37 []).1
def ajU:List aF:=[(.mv (.tmp 2))]
def S7:jA 37 ajT ajU 5:=aK Tryz.func37
def aoM:=(⟨_,by cbv⟩:kA Tryz.f38 []).1
def aoN:List aF:=[(.mv (.tmp 2))]
def ajV:jA 38 aoM aoN 9:=aK Tryz.func38
def ajW:=(⟨_,by cbv⟩:kA Tryz.f39 []).1
def ajX:List aF:=[(.mv (.tmp 4))]
def ajY:jA 39 ajW ajX 11:=aK Tryz.func39
end
