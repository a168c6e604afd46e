import Derived.Test.YthjppoincojfkaaGreatDoorRPMG
import Derived.Test.YthjppoincojfkaaGreatDoorProg
set_option linter.all false
set_option maxRecDepth 100000
set_option maxHeartbeats 8000000
namespace Go.Proofs.YthjppoincojfkaaGreatDoor
noncomputable section
open Go Go.Abs
abbrev jA:=cZ Tryz.prog
abbrev kA(f:Func)(h:List (Pa)):Type:={c:SC // c=scH Tryz.prog f h}
def sc5:=(⟨_,by cbv⟩:kA Tryz.f5 [[6],[15]]).1
def rs5:List aF:=[(.mv (.tmp 4))]
def agr:jA 5 sc5 rs5 148:=aK Tryz.func5
def ajD:Pa:=(⟨_,by cbv⟩:wT [1,1,1,1,1,1,0,1,0] sc5).1
def abn:Pa:=(⟨_,by cbv⟩:wT [1,1,1,1,1,1,0,1,0,0,1,0,0,1,1,0] sc5).1
def ajE:Pa:=(⟨_,by cbv⟩:wT [1,1,1,1,1,1,0,1,0,0,1,0,0,1,1,0,0,1,0,0,1,1,1,1,1,1,0,1,0] sc5).1
def ajF:Pa:=(⟨_,by cbv⟩:wT [1,1,1,1,1,1,0,1,0,0,1,0,0,1,1,0,0,1,0,0,1,1,1,1,1,1,1,1,0] sc5).1
def aoH:=(⟨_,by cbv⟩:kA Tryz.f11 []).1
def aoI:List aF:=[(.mv (.tmp 0))]
def ajG:jA 11 aoH aoI 138:=aK Tryz.func11
def ajH:=(⟨_,by cbv⟩:kA Tryz.f12 []).1
def abo:List aF:=[(.mv (.tmp 2))]
def ajI:jA 12 ajH abo 37:=aK Tryz.func12
def rU:Pa:=(⟨_,by cbv⟩:wT [1,1,1,0,1,0] ajH).1
def abp:=(⟨_,by cbv⟩:kA Tryz.f13 [[5]]).1
def abq:List aF:=[(.mv (.tmp 4))]
def ajJ:jA 13 abp abq 37:=aK Tryz.func13
def Ei:Pa:=(⟨_,by cbv⟩:wT [1,1,1,1,0,1,0] abp).1
def aoJ:=(⟨_,by cbv⟩:kA Tryz.f14 []).1
def aoK:List aF:=[(.load true 13 (.tmp 2))]
def ajK:jA 14 aoJ aoK 51:=aK Tryz.func14
def ajL:=(⟨_,by cbv⟩:kA Tryz.f16 [[15]]).1
def ajM:List aF:=[(.mv (.tmp 4))]
def ajN:jA 16 ajL ajM 47:=aK Tryz.func16
def oB:Pa:=(⟨_,by cbv⟩:wT [1,1,0,1,0] ajL).1
def SM:=(⟨_,by cbv⟩:kA Tryz.f17 []).1
def SN:List aF:=[(.load true 5 (.tmp 4)),(.mv (.tmp 5))]
def SP:jA 17 SM SN 12:=aK Tryz.func17
def O1:=(⟨_,by cbv⟩:kA Tryz.f18 [[6]]).1
def O2:List aF:=[(.mv (.tmp 10))]
def ajO:jA 18 O1 O2 43:=aK Tryz.func18
def O3:=(⟨_,by cbv⟩:kA Tryz.f21 [[11,107,1,1,1,0,2,0,2,2,2,0,0]]).1
def O4:List aF:=[(.mv (.tmp 4))]
def uY:jA 21 O3 O4 36:=aK Tryz.func21
def eS:=(⟨_,by cbv⟩:kA Tryz.f22 []).1
def eT:List aF:=[(.mv (.tmp 2))]
def SQ:jA 22 eS eT 87:=aK Tryz.func22
def abr:=(⟨_,by cbv⟩:kA Tryz.f23 []).1
def abt:List aF:=[(.mv (.tmp 4))]
def SR:jA 23 abr abt 45:=aK Tryz.func23
def aoL:=(⟨_,by cbv⟩:kA Tryz.f24 []).1
def aoM:List aF:=[(.load true 26 (.tmp 2))]
def ajP:jA 24 aoL aoM 26:=aK Tryz.func24
def O5:=(⟨_,by cbv⟩:kA Tryz.f25 [[5,1,2,2,1,0,0]]).1
def O6:List aF:=[(.load true 18 (.tmp 4))]
def uZ:jA 25 O5 O6 67:=aK Tryz.func25
def aoN:=(⟨_,by cbv⟩:kA Tryz.f26 []).1
def aoO:List aF:=[(.mv (.tmp 4))]
def ajQ:jA 26 aoN aoO 8:=aK Tryz.func26
def aoP:=(⟨_,by cbv⟩:kA Tryz.f27 []).1
def aoQ:List aF:=[(.mv (.tmp 4))]
def ajR:jA 27 aoP aoQ 91:=aK Tryz.func27
def abu:=(⟨_,by cbv⟩:kA Tryz.f29 []).1
def abv:List aF:=[(.load true 7 (.tmp 4)),(.mv (.tmp 5))]
def SS:jA 29 abu abv 21:=aK Tryz.func29
def abw:=(⟨_,by cbv⟩:kA Tryz.f30 [[4]]).1
def abx:List aF:=[(.load true 18 (.tmp 2)),(.mv (.tmp 3)),(.mv (.tmp 4))]
def IT:jA 30 abw abx 25:=aK Tryz.func30
def aoR:=(⟨_,by cbv⟩:kA Tryz.f31 []).1
def aoS:List aF:=[(.load true 13 (.tmp 0))]
def ajS:jA 31 aoR aoS 15:=aK Tryz.func31
def av9:SC:=Vj Tryz.prog Tryz.f32
def awa:List aF:=Vk Tryz.prog Tryz.f32
def awb:jA 32 av9 awa 87:=aK Tryz.func32
def awc:SC:=Vj Tryz.prog Tryz.f33
def awd:List aF:=Vk Tryz.prog Tryz.f33
def awe:jA 33 awc awd 17:=aK Tryz.func33
def ajT:=(⟨_,by cbv⟩:kA Tryz.f34 [[9,1,2,2,2,2,2,2,2,0,0]]).1
def ajU:List aF:=[(.load true 7 (.tmp 4)),(.mv (.tmp 5)),(.mv (.tmp 6))]
def ajV:jA 34 ajT ajU 33:=aK Tryz.func34
def aoT:=(⟨_,by cbv⟩:kA Tryz.f36 []).1
def ajW:List aF:=[(.load true 5 (.tmp 6)),(.mv (.tmp 7))]
def ajX:jA 36 aoT ajW 25:=aK Tryz.func36
def MB:Pa:=[7,9,13,14,15,16,17,18,19,20,21,22,23]
def ajY:=(⟨_,by cbv⟩:kA Tryz.f37 []).1
def ajZ:List aF:=[(.mv (.tmp 2))]
def SU:jA 37 ajY ajZ 5:=aK Tryz.func37
def aoU:=(⟨_,by cbv⟩:kA Tryz.f38 []).1
def aoV:List aF:=[(.mv (.tmp 2))]
def aj0:jA 38 aoU aoV 9:=aK Tryz.func38
def aj1:=(⟨_,by cbv⟩:kA Tryz.f39 []).1
def aj2:List aF:=[(.mv (.tmp 4))]
def aj3:jA 39 aj1 aj2 11:=aK Tryz.func39
def SV:=(⟨_,by cbv⟩:kA Tryz.f40 [[12],[11,2,1,1,1,0,2,2,2,0,2,2,0]]).1
def tC:List aF:=[(.mv (.tmp 8))]
def u5:jA 40 SV tC 108:=aK Tryz.func40
def Ej:Pa:=(⟨_,by cbv⟩:wT [1,1,1,1,1,1,1,1,1,1,1,1,0,1,0] SV).1
def aby:=(⟨_,by cbv⟩:kA Tryz.f41 []).1
def abz:List aF:=[(.mv (.tmp 4))]
def aj4:jA 41 aby abz 20:=aK Tryz.func41
end
