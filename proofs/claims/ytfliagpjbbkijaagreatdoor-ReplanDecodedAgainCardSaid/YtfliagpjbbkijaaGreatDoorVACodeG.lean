import Derived.Test.YtfliagpjbbkijaaGreatDoorVAMG
import Derived.Test.YtfliagpjbbkijaaGreatDoorProg
set_option linter.all false
set_option maxRecDepth 100000
set_option maxHeartbeats 8000000
namespace Go.Proofs.YtfliagpjbbkijaaGreatDoor
noncomputable section
open Go Go.Abs
abbrev jG:=cV Tryz.prog
abbrev kG(f:Func)(h:List (P1)):Type:={c:SC // c=scH Tryz.prog f h}
def US:=(⟨_,by cbv⟩:kG Tryz.f270 [[24],[10]]).1
def NK:List aF:=[]
def ad9:jG 270 US NK 66:=aK Tryz.func270
def qK:P1:=(⟨_,by cbv⟩:wT [1,0] US).1
def aiV:=(⟨_,by cbv⟩:kG Tryz.f271 []).1
def UT:List aF:=[]
def aea:jG 271 aiV UT 19:=aK Tryz.func271
def JX:P1:=[3,7,8,9,10,11,12,13,14,15,16,17,18]
def aqG:SC:=Vm Tryz.prog Tryz.f272
def aqH:List aF:=Vn Tryz.prog Tryz.f272
def avj:jG 272 aqG aqH 53:=aK Tryz.func272
def aqI:SC:=Vm Tryz.prog Tryz.f273
def aqJ:List aF:=Vn Tryz.prog Tryz.f273
def avk:jG 273 aqI aqJ 60:=aK Tryz.func273
def aqK:SC:=Vm Tryz.prog Tryz.f274
def aqL:List aF:=Vn Tryz.prog Tryz.f274
def avl:jG 274 aqK aqL 67:=aK Tryz.func274
def aqM:SC:=Vm Tryz.prog Tryz.f275
def aqN:List aF:=Vn Tryz.prog Tryz.f275
def avm:jG 275 aqM aqN 63:=aK Tryz.func275
def aqO:SC:=Vm Tryz.prog Tryz.f276
def aqP:List aF:=Vn Tryz.prog Tryz.f276
def avn:jG 276 aqO aqP 34:=aK Tryz.func276
def aqQ:SC:=Vm Tryz.prog Tryz.f277
def aqR:List aF:=Vn Tryz.prog Tryz.f277
def avo:jG 277 aqQ aqR 141:=aK Tryz.func277
def aqS:SC:=Vm Tryz.prog Tryz.f278
def aqT:List aF:=Vn Tryz.prog Tryz.f278
def avp:jG 278 aqS aqT 90:=aK Tryz.func278
def aqU:SC:=Vm Tryz.prog Tryz.f279
def aqV:List aF:=Vn Tryz.prog Tryz.f279
def avq:jG 279 aqU aqV 178:=aK Tryz.func279
def aiW:=(⟨_,by cbv⟩:kG Tryz.f280 []).1
def aiX:List aF:=[(.mv (.tmp 2))]
def aeb:jG 280 aiW aiX 6:=aK Tryz.func280
def UU:=(⟨_,by cbv⟩:kG Tryz.f281 []).1
def NL:List aF:=[]
def aec:jG 281 UU NL 40:=aK Tryz.func281
def CQ:P1:=(⟨_,by cbv⟩:wT [1,0,1,0] UU).1
def aqW:SC:=Vm Tryz.prog Tryz.f282
def aqX:List aF:=Vn Tryz.prog Tryz.f282
def avr:jG 282 aqW aqX 82:=aK Tryz.func282
def aqY:SC:=Vm Tryz.prog Tryz.f283
def aqZ:List aF:=Vn Tryz.prog Tryz.f283
def avt:jG 283 aqY aqZ 18:=aK Tryz.func283
def aq0:SC:=Vm Tryz.prog Tryz.f284
def aq1:List aF:=Vn Tryz.prog Tryz.f284
def avu:jG 284 aq0 aq1 41:=aK Tryz.func284
def aq2:SC:=Vm Tryz.prog Tryz.f285
def aq3:List aF:=Vn Tryz.prog Tryz.f285
def avv:jG 285 aq2 aq3 32:=aK Tryz.func285
end
