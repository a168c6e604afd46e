import Derived.Test.YthjppoincojfkaaGreatDoorRAMG
import Derived.Test.YthjppoincojfkaaGreatDoorProg
set_option linter.all false
set_option maxRecDepth 100000
set_option maxHeartbeats 8000000
namespace Go.Proofs.YthjppoincojfkaaGreatDoor
noncomputable section
open Go Go.Abs
abbrev jA:=c9 Tryz.prog
abbrev kA(f:Func)(h:List (Pa)):Type:={c:SC // c=scH Tryz.prog f h}
def sc3:=(⟨_,by cbv⟩:kA Tryz.f3 [[14]]).1
def rs3:List aF:=[(.mv (.tmp 4))]
def aoa:jA 3 sc3 rs3 41:=aK Tryz.func3
def ajg:Pa:=(⟨_,by cbv⟩:wT [1,1,1,1,0,1,0] sc3).1
def sc4:=(⟨_,by cbv⟩:kA Tryz.f4 []).1
def rs4:List aF:=[(.mv (.tmp 4))]
def aob:jA 4 sc4 rs4 68:=aK Tryz.func4
def ajh:Pa:=(⟨_,by cbv⟩:wT [1,1,1,0,1,0] sc4).1
def aji:Pa:=(⟨_,by cbv⟩:wT [1,1,1,0,1,0,0,1,0,0,1,0,1,0] sc4).1
def sc7:=(⟨_,by cbv⟩:kA Tryz.f7 [[8],[27],[8]]).1
def rs7:List aF:=[(.mv (.tmp 4))]
def aoc:jA 7 sc7 rs7 92:=aK Tryz.func7
def SD:Pa:=(⟨_,by cbv⟩:wT [1,1,1,1,0,1,0] sc7).1
def sc8:=(⟨_,by cbv⟩:kA Tryz.f8 [[3],[6],[6]]).1
def rs8:List aF:=[(.mv (.tmp 8))]
def aod:jA 8 sc8 rs8 99:=aK Tryz.func8
def aoe:=(⟨_,by cbv⟩:kA Tryz.f11 []).1
def aof:List aF:=[(.mv (.tmp 0))]
def ajj:jA 11 aoe aof 138:=aK Tryz.func11
def ajk:=(⟨_,by cbv⟩:kA Tryz.f12 []).1
def aa6:List aF:=[(.mv (.tmp 2))]
def ajl:jA 12 ajk aa6 37:=aK Tryz.func12
def r6:Pa:=(⟨_,by cbv⟩:wT [1,1,1,0,1,0] ajk).1
def aa7:=(⟨_,by cbv⟩:kA Tryz.f13 [[5]]).1
def aa8:List aF:=[(.mv (.tmp 4))]
def ajm:jA 13 aa7 aa8 37:=aK Tryz.func13
def Eg:Pa:=(⟨_,by cbv⟩:wT [1,1,1,1,0,1,0] aa7).1
def aog:=(⟨_,by cbv⟩:kA Tryz.f14 []).1
def aoh:List aF:=[(.load true 13 (.tmp 2))]
def ajn:jA 14 aog aoh 51:=aK Tryz.func14
def ajo:=(⟨_,by cbv⟩:kA Tryz.f15 []).1
def ajp:List aF:=[(.mv (.tmp 6))]
def ajq:jA 15 ajo ajp 78:=aK Tryz.func15
def Eh:Pa:=(⟨_,by cbv⟩:wT [1,0,1,0] ajo).1
def SE:=(⟨_,by cbv⟩:kA Tryz.f17 []).1
def SF:List aF:=[(.load true 5 (.tmp 4)),(.mv (.tmp 5))]
def SG:jA 17 SE SF 12:=aK Tryz.func17
def OS:=(⟨_,by cbv⟩:kA Tryz.f18 [[6]]).1
def OT:List aF:=[(.mv (.tmp 10))]
def ajr:jA 18 OS OT 43:=aK Tryz.func18
def OV:=(⟨_,by cbv⟩:kA Tryz.f21 [[11,107,1,1,1,0,2,0,2,2,2,0,0]]).1
def OW:List aF:=[(.mv (.tmp 4))]
def vi:jA 21 OV OW 36:=aK Tryz.func21
def eW:=(⟨_,by cbv⟩:kA Tryz.f22 []).1
def eX:List aF:=[(.mv (.tmp 2))]
def SH:jA 22 eW eX 87:=aK Tryz.func22
def aa9:=(⟨_,by cbv⟩:kA Tryz.f23 []).1
def aba:List aF:=[(.mv (.tmp 4))]
def SI:jA 23 aa9 aba 45:=aK Tryz.func23
def aoi:=(⟨_,by cbv⟩:kA Tryz.f24 []).1
def aoj:List aF:=[(.load true 26 (.tmp 2))]
def ajs:jA 24 aoi aoj 26:=aK Tryz.func24
def OX:=(⟨_,by cbv⟩:kA Tryz.f25 [[5,1,2,2,1,0,0]]).1
def OY:List aF:=[(.load true 18 (.tmp 4))]
def vj:jA 25 OX OY 67:=aK Tryz.func25
def aok:=(⟨_,by cbv⟩:kA Tryz.f26 []).1
def aol:List aF:=[(.mv (.tmp 4))]
def ajt:jA 26 aok aol 8:=aK Tryz.func26
def aom:=(⟨_,by cbv⟩:kA Tryz.f27 []).1
def aon:List aF:=[(.mv (.tmp 4))]
def aju:jA 27 aom aon 91:=aK Tryz.func27
def abb:=(⟨_,by cbv⟩:kA Tryz.f29 []).1
def abc:List aF:=[(.load true 7 (.tmp 4)),(.mv (.tmp 5))]
def SJ:jA 29 abb abc 21:=aK Tryz.func29
def abd:=(⟨_,by cbv⟩:kA Tryz.f30 [[4]]).1
def abe:List aF:=[(.load true 18 (.tmp 2)),(.mv (.tmp 3)),(.mv (.tmp 4))]
def IK:jA 30 abd abe 25:=aK Tryz.func30
def aoo:=(⟨_,by cbv⟩:kA Tryz.f31 []).1
def aop:List aF:=[(.load true 13 (.tmp 0))]
def ajv:jA 31 aoo aop 15:=aK Tryz.func31
def avH:SC:=Vo Tryz.prog Tryz.f32
def avI:List aF:=Vp Tryz.prog Tryz.f32
def avJ:jA 32 avH avI 87:=aK Tryz.func32
def avK:SC:=Vo Tryz.prog Tryz.f33
def avL:List aF:=Vp Tryz.prog Tryz.f33
def avM:jA 33 avK avL 17:=aK Tryz.func33
end
