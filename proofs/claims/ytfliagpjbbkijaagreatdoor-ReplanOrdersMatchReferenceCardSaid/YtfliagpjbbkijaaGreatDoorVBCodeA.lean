import Derived.Test.YtfliagpjbbkijaaGreatDoorVBMG
import Derived.Test.YtfliagpjbbkijaaGreatDoorProg
set_option linter.all false
set_option maxRecDepth 100000
set_option maxHeartbeats 8000000
namespace Go.Proofs.YtfliagpjbbkijaaGreatDoor
noncomputable section
open Go Go.Abs
abbrev jA:=cO Tryz.prog
abbrev kA(f:Func)(h:List (P2)):Type:={c:SC // c=scH Tryz.prog f h}
def sc5:=(⟨_,by cbv⟩:kA Tryz.f5 [[24]]).1
def rs5:List aC:=[(.mv (.tmp 4))]
def ao9:jA 5 sc5 rs5 72:=aI Tryz.func5
def sc6:=(⟨_,by cbv⟩:kA Tryz.f6 []).1
def rs6:List aC:=[(.mv (.tmp 0))]
def apa:jA 6 sc6 rs6 138:=aI Tryz.func6
def sc7:=(⟨_,by cbv⟩:kA Tryz.f7 []).1
def rs7:List aC:=[(.load true 26 (.tmp 2))]
def apb:jA 7 sc7 rs7 26:=aI Tryz.func7
def sc8:SC:=Zr Tryz.prog Tryz.f8
def rs8:List aC:=Zt Tryz.prog Tryz.f8
def azK:jA 8 sc8 rs8 87:=aI Tryz.func8
def zX:=(⟨_,by cbv⟩:kA Tryz.f9 []).1
def zY:List aC:=[(.mv (.tmp 2))]
def apc:jA 9 zX zY 87:=aI Tryz.func9
def aw6:SC:=Zr Tryz.prog Tryz.f10
def aw7:List aC:=Zt Tryz.prog Tryz.f10
def aw8:jA 10 aw6 aw7 17:=aI Tryz.func10
def apd:=(⟨_,by cbv⟩:kA Tryz.f12 []).1
def ape:List aC:=[(.mv (.tmp 4))]
def aj0:jA 12 apd ape 8:=aI Tryz.func12
def IK:=(⟨_,by cbv⟩:kA Tryz.f13 []).1
def IL:List aC:=[(.mv (.tmp 2)),(.mv (.tmp 3))]
def qx:jA 13 IK IL 80:=aI Tryz.func13
def IM:=(⟨_,by cbv⟩:kA Tryz.f14 [[6,1,2,2,2,2,0,0]]).1
def Pt:List aC:=[(.load true 26 (.tmp 2)),(.mv (.tmp 3))]
def aj1:jA 14 IM Pt 120:=aI Tryz.func14
def Eg:=(⟨_,by cbv⟩:kA Tryz.f15 []).1
def Eh:List aC:=[(.mv (.tmp 2))]
def aj2:jA 15 Eg Eh 105:=aI Tryz.func15
def abA:=(⟨_,by cbv⟩:kA Tryz.f16 [[4]]).1
def abB:List aC:=[(.load true 18 (.tmp 2)),(.mv (.tmp 3)),(.mv (.tmp 4))]
def IN:jA 16 abA abB 25:=aI Tryz.func16
def apf:=(⟨_,by cbv⟩:kA Tryz.f17 []).1
def apg:List aC:=[(.load true 13 (.tmp 0))]
def aj3:jA 17 apf apg 15:=aI Tryz.func17
def abC:=(⟨_,by cbv⟩:kA Tryz.f18 [[5,1,2,2,1,0,0]]).1
def abD:List aC:=[(.load true 18 (.tmp 4))]
def IP:jA 18 abC abD 67:=aI Tryz.func18
def aj4:=(⟨_,by cbv⟩:kA Tryz.f19 [[9,1,2,2,2,2,2,2,2,0,0]]).1
def aj5:List aC:=[(.load true 7 (.tmp 4)),(.mv (.tmp 5)),(.mv (.tmp 6))]
def aj6:jA 19 aj4 aj5 33:=aI Tryz.func19
def abE:=(⟨_,by cbv⟩:kA Tryz.f20 [[11,107,1,1,1,0,2,0,2,2,2,0,0]]).1
def abF:List aC:=[(.mv (.tmp 4))]
def IQ:jA 20 abE abF 36:=aI Tryz.func20
def abG:=(⟨_,by cbv⟩:kA Tryz.f21 []).1
def abH:List aC:=[(.mv (.tmp 4))]
def S3:jA 21 abG abH 45:=aI Tryz.func21
def aw9:SC:=Zr Tryz.prog Tryz.f22
def axa:List aC:=Zt Tryz.prog Tryz.f22
def axb:jA 22 aw9 axa 12:=aI Tryz.func22
def aj7:=(⟨_,by cbv⟩:kA Tryz.f23 []).1
def aj8:List aC:=[(.mv (.tmp 2)),(.mv (.tmp 3))]
def aj9:jA 23 aj7 aj8 40:=aI Tryz.func23
def axc:SC:=Zr Tryz.prog Tryz.f24
def axd:List aC:=Zt Tryz.prog Tryz.f24
def axe:jA 24 axc axd 19:=aI Tryz.func24
def aph:=(⟨_,by cbv⟩:kA Tryz.f25 [[6],[18],[24],[12]]).1
def api:List aC:=[(.mv (.tmp 2))]
def aka:jA 25 aph api 97:=aI Tryz.func25
def apj:=(⟨_,by cbv⟩:kA Tryz.f26 []).1
def apk:List aC:=[(.mv (.tmp 2)),(.mv (.tmp 3))]
def akb:jA 26 apj apk 21:=aI Tryz.func26
def axf:SC:=Zr Tryz.prog Tryz.f27
def axg:List aC:=Zt Tryz.prog Tryz.f27
def axh:jA 27 axf axg 14:=aI Tryz.func27
def akc:=(⟨_,by cbv⟩:kA Tryz.f28 []).1
def akd:List aC:=[(.mv (.tmp 2))]
def ake:jA 28 akc akd 9:=aI Tryz.func28
def apl:=(⟨_,by cbv⟩:kA Tryz.f29 []).1
def apm:List aC:=[(.mv (.tmp 2))]
def akf:jA 29 apl apm 62:=aI Tryz.func29
end
