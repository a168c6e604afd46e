import Derived.Test.YthjppoincojfkaaGreatDoorRBMG
import Derived.Test.YthjppoincojfkaaGreatDoorProg
set_option linter.all false
set_option maxRecDepth 100000
set_option maxHeartbeats 8000000
namespace Go.Proofs.YthjppoincojfkaaGreatDoor
noncomputable section
open Go Go.Abs
abbrev jA:=cZ Tryz.prog
abbrev kA(f:Func)(h:List (Pa)):Type:={c:SC // c=scH Tryz.prog f h}
def z8:=(⟨_,by cbv⟩:kA Tryz.f9 [[8]]).1
def Aa:List aF:=[(.mv (.tmp 8))]
def SE:jA 9 z8 Aa 161:=aK Tryz.func9
def D8:Pa:=(⟨_,by cbv⟩:wT [1,1,1,1,1,1,1,1,1,1,1,1,0,1,0] z8).1
def OW:Pa:=(⟨_,by cbv⟩:wT [1,1,1,1,1,1,1,1,1,1,1,1,0,1,0,0,1,0,0,1,1,1,1,0] z8).1
def aon:=(⟨_,by cbv⟩:kA Tryz.f11 []).1
def aoo:List aF:=[(.mv (.tmp 0))]
def ajk:jA 11 aon aoo 138:=aK Tryz.func11
def ajl:=(⟨_,by cbv⟩:kA Tryz.f12 []).1
def aba:List aF:=[(.mv (.tmp 2))]
def ajm:jA 12 ajl aba 37:=aK Tryz.func12
def rS:Pa:=(⟨_,by cbv⟩:wT [1,1,1,0,1,0] ajl).1
def abb:=(⟨_,by cbv⟩:kA Tryz.f13 [[5]]).1
def abc:List aF:=[(.mv (.tmp 4))]
def ajn:jA 13 abb abc 37:=aK Tryz.func13
def D9:Pa:=(⟨_,by cbv⟩:wT [1,1,1,1,0,1,0] abb).1
def aop:=(⟨_,by cbv⟩:kA Tryz.f14 []).1
def aoq:List aF:=[(.load true 13 (.tmp 2))]
def ajo:jA 14 aop aoq 51:=aK Tryz.func14
def SF:=(⟨_,by cbv⟩:kA Tryz.f17 []).1
def SG:List aF:=[(.load true 5 (.tmp 4)),(.mv (.tmp 5))]
def SH:jA 17 SF SG 12:=aK Tryz.func17
def OX:=(⟨_,by cbv⟩:kA Tryz.f18 [[6]]).1
def OY:List aF:=[(.mv (.tmp 10))]
def ajp:jA 18 OX OY 43:=aK Tryz.func18
def OZ:=(⟨_,by cbv⟩:kA Tryz.f21 [[11,107,1,1,1,0,2,0,2,2,2,0,0]]).1
def O0:List aF:=[(.mv (.tmp 4))]
def uY:jA 21 OZ O0 36:=aK Tryz.func21
def eV:=(⟨_,by cbv⟩:kA Tryz.f22 []).1
def eW:List aF:=[(.mv (.tmp 2))]
def SI:jA 22 eV eW 87:=aK Tryz.func22
def abd:=(⟨_,by cbv⟩:kA Tryz.f23 []).1
def abe:List aF:=[(.mv (.tmp 4))]
def SJ:jA 23 abd abe 45:=aK Tryz.func23
def aor:=(⟨_,by cbv⟩:kA Tryz.f24 []).1
def aos:List aF:=[(.load true 26 (.tmp 2))]
def ajq:jA 24 aor aos 26:=aK Tryz.func24
def O1:=(⟨_,by cbv⟩:kA Tryz.f25 [[5,1,2,2,1,0,0]]).1
def O2:List aF:=[(.load true 18 (.tmp 4))]
def uZ:jA 25 O1 O2 67:=aK Tryz.func25
def aot:=(⟨_,by cbv⟩:kA Tryz.f26 []).1
def aou:List aF:=[(.mv (.tmp 4))]
def ajr:jA 26 aot aou 8:=aK Tryz.func26
def aov:=(⟨_,by cbv⟩:kA Tryz.f27 []).1
def aow:List aF:=[(.mv (.tmp 4))]
def ajs:jA 27 aov aow 91:=aK Tryz.func27
def ajt:=(⟨_,by cbv⟩:kA Tryz.f28 []).1
def aju:List aF:=[(.mv (.tmp 4))]
def ajv:jA 28 ajt aju 13:=aK Tryz.func28
def abf:=(⟨_,by cbv⟩:kA Tryz.f29 []).1
def abg:List aF:=[(.load true 7 (.tmp 4)),(.mv (.tmp 5))]
def SK:jA 29 abf abg 21:=aK Tryz.func29
def abh:=(⟨_,by cbv⟩:kA Tryz.f30 [[4]]).1
def abi:List aF:=[(.load true 18 (.tmp 2)),(.mv (.tmp 3)),(.mv (.tmp 4))]
def IE:jA 30 abh abi 25:=aK Tryz.func30
def aox:=(⟨_,by cbv⟩:kA Tryz.f31 []).1
def aoy:List aF:=[(.load true 13 (.tmp 0))]
def ajw:jA 31 aox aoy 15:=aK Tryz.func31
def avM:SC:=Vl Tryz.prog Tryz.f32
def avN:List aF:=Vm Tryz.prog Tryz.f32
def avO:jA 32 avM avN 87:=aK Tryz.func32
def avP:SC:=Vl Tryz.prog Tryz.f33
def avQ:List aF:=Vm Tryz.prog Tryz.f33
def avR:jA 33 avP avQ 17:=aK Tryz.func33
def ajx:=(⟨_,by cbv⟩:kA Tryz.f34 [[9,1,2,2,2,2,2,2,2,0,0]]).1
def ajy:List aF:=[(.load true 7 (.tmp 4)),(.mv (.tmp 5)),(.mv (.tmp 6))]
def ajz:jA 34 ajx ajy 33:=aK Tryz.func34
def aoz:=(⟨_,by cbv⟩:kA Tryz.f36 []).1
def ajA:List aF:=[(.load true 5 (.tmp 6)),(.mv (.tmp 7))]
def ajB:jA 36 aoz ajA 25:=aK Tryz.func36
def Mq:Pa:=[7,9,13,14,15,16,17,18,19,20,21,22,23]
def ajC:=(⟨_,by cbv⟩:kA Tryz.f37 []).1
def ajD:List aF:=[(.mv (.tmp 2))]
def SL:jA 37 ajC ajD 5:=aK Tryz.func37
def aoA:=(⟨_,by cbv⟩:kA Tryz.f38 []).1
def aoB:List aF:=[(.mv (.tmp 2))]
def ajE:jA 38 aoA aoB 9:=aK Tryz.func38
def ajF:=(⟨_,by cbv⟩:kA Tryz.f39 []).1
def ajG:List aF:=[(.mv (.tmp 4))]
def ajH:jA 39 ajF ajG 11:=aK Tryz.func39
def SM:=(⟨_,by cbv⟩:kA Tryz.f40 [[12],[11,2,1,1,1,0,2,2,2,0,2,2,0]]).1
def tC:List aF:=[(.mv (.tmp 8))]
def u5:jA 40 SM tC 108:=aK Tryz.func40
def Ea:Pa:=(⟨_,by cbv⟩:wT [1,1,1,1,1,1,1,1,1,1,1,1,0,1,0] SM).1
end
