import Derived.Test.YtfliagpjbbkijaaGreatDoorVBMG
import Derived.Test.YtfliagpjbbkijaaGreatDoorProg
set_option linter.all false
set_option maxRecDepth 100000
set_option maxHeartbeats 8000000
namespace Go.Proofs.YtfliagpjbbkijaaGreatDoor
noncomputable section
open Go Go.Abs
abbrev jB:=cO Tryz.prog
abbrev kB(f:Func)(h:List (P2)):Type:={c:SC // c=scH Tryz.prog f h}
def tE:=(⟨_,by cbv⟩:kB Tryz.f30 []).1
def iL:List aC:=[(.mv (.tmp 2))]
def akg:jB 30 tE iL 75:=aI Tryz.func30
def gO:P2:=(⟨_,by cbv⟩:wT [1,1,1,1,1,0,1,0] tE).1
def akh:=(⟨_,by cbv⟩:kB Tryz.f31 [[3]]).1
def iu:List aC:=[(.mv (.tmp 2))]
def aki:jB 31 akh iu 95:=aI Tryz.func31
def uR:=(⟨_,by cbv⟩:kB Tryz.f32 []).1
def uT:List aC:=[(.mv (.tmp 2))]
def akj:jB 32 uR uT 51:=aI Tryz.func32
def axi:SC:=Zr Tryz.prog Tryz.f33
def axj:List aC:=Zt Tryz.prog Tryz.f33
def axk:jB 33 axi axj 20:=aI Tryz.func33
def axl:SC:=Zr Tryz.prog Tryz.f34
def axm:List aC:=Zt Tryz.prog Tryz.f34
def axn:jB 34 axl axm 22:=aI Tryz.func34
def IS:=(⟨_,by cbv⟩:kB Tryz.f35 [[9]]).1
def apn:List aC:=[(.load true 26 (.tmp 2))]
def IT:jB 35 IS apn 94:=aI Tryz.func35
def MI:P2:=[5,16,17,18,19,20,21,22,23,24]
def MJ:P2:=[7,36,37,38,39,40,41,42,43,44]
def MK:P2:=(⟨_,by cbv⟩:wT [1,1,1,1,1,0,1,0,1,0,1,1,1,0] IS).1
def akk:=(⟨_,by cbv⟩:kB Tryz.f36 []).1
def akl:List aC:=[(.mv (.tmp 4))]
def S4:jB 36 akk akl 68:=aI Tryz.func36
def akm:=(⟨_,by cbv⟩:kB Tryz.f37 [[14]]).1
def akn:List aC:=[(.mv (.tmp 2))]
def ako:jB 37 akm akn 44:=aI Tryz.func37
def Ei:P2:=(⟨_,by cbv⟩:wT [1,1,0,1,0] akm).1
def apo:=(⟨_,by cbv⟩:kB Tryz.f38 []).1
def apq:List aC:=[(.mv (.tmp 2))]
def akp:jB 38 apo apq 20:=aI Tryz.func38
def apr:=(⟨_,by cbv⟩:kB Tryz.f39 []).1
def aps:List aC:=[(.mv (.tmp 2)),(.mv (.tmp 3))]
def akq:jB 39 apr aps 18:=aI Tryz.func39
def akr:=(⟨_,by cbv⟩:kB Tryz.f40 []).1
def apt:List aC:=[(.mv (.tmp 2))]
def aks:jB 40 akr apt 25:=aI Tryz.func40
def S5:P2:=(⟨_,by cbv⟩:wT [1,1,0,1,0] akr).1
def abI:=(⟨_,by cbv⟩:kB Tryz.f41 [[15]]).1
def abJ:List aC:=[(.mv (.tmp 2))]
def IU:jB 41 abI abJ 34:=aI Tryz.func41
def Pu:=(⟨_,by cbv⟩:kB Tryz.f42 []).1
def apu:List aC:=[(.load true 7 (.tmp 4))]
def akt:jB 42 Pu apu 55:=aI Tryz.func42
def ML:P2:=(⟨_,by cbv⟩:wT [1,1,1,1,1,1,1,1,0,1,0] Pu).1
def abK:=(⟨_,by cbv⟩:kB Tryz.f43 []).1
def apv:List aC:=[(.load true 8 (.tmp 2))]
def aku:jB 43 abK apv 29:=aI Tryz.func43
def abL:=(⟨_,by cbv⟩:kB Tryz.f44 [[15]]).1
def abM:List aC:=[(.mv (.tmp 2))]
def IV:jB 44 abL abM 34:=aI Tryz.func44
def akv:=(⟨_,by cbv⟩:kB Tryz.f45 []).1
def akw:List aC:=[(.mv (.tmp 2))]
def akx:jB 45 akv akw 9:=aI Tryz.func45
def IW:=(⟨_,by cbv⟩:kB Tryz.f46 []).1
def tF:List aC:=[(.mv (.tmp 2))]
def aky:jB 46 IW tF 101:=aI Tryz.func46
def gP:P2:=(⟨_,by cbv⟩:wT [1,1,1,1,1,1,0,1,0] IW).1
def Ej:=(⟨_,by cbv⟩:kB Tryz.f47 []).1
def Ek:List aC:=[(.mv (.tmp 2))]
def akz:jB 47 Ej Ek 206:=aI Tryz.func47
def Pv:=(⟨_,by cbv⟩:kB Tryz.f48 []).1
def Pw:List aC:=[(.mv (.tmp 2))]
def akA:jB 48 Pv Pw 63:=aI Tryz.func48
def akB:=(⟨_,by cbv⟩:kB Tryz.f49 []).1
def S6:List aC:=[(.mv (.tmp 2)),(.mv (.tmp 3)),(.mv (.tmp 4))]
def akC:jB 49 akB S6 41:=aI Tryz.func49
def MM:P2:=[5,7,17,18,19,20,21,22,23,24,25,26]
def abN:=(⟨_,by cbv⟩:kB Tryz.f50 [[5]]).1
def abO:List aC:=[(.load true 13 (.tmp 2))]
def S7:jB 50 abN abO 43:=aI Tryz.func50
def sd:P2:=[3,4,22,23,24,25,26,27,28,29,30,31,32,33]
def IX:=(⟨_,by cbv⟩:kB Tryz.f51 [[7]]).1
def S8:List aC:=[(.mv (.tmp 6))]
def S9:jB 51 IX S8 98:=aI Tryz.func51
def oh:P2:=(⟨_,by cbv⟩:wT [1,1,1,0,1,0] IX).1
end
