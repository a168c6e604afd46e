import Derived.Test.YthjppoincojfkaaGreatDoorRBMG
import Derived.Test.YthjppoincojfkaaGreatDoorProg
set_option linter.all false
set_option maxRecDepth 100000
set_option maxHeartbeats 8000000
namespace Go.Proofs.YthjppoincojfkaaGreatDoor
noncomputable section
open Go Go.Abs
abbrev jG:=cZ Tryz.prog
abbrev kG(f:Func)(h:List (Pa)):Type:={c:SC // c=scH Tryz.prog f h}
def aql:SC:=Vl Tryz.prog Tryz.f259
def aqm:List aF:=Vm Tryz.prog Tryz.f259
def auR:jG 259 aql aqm 90:=aK Tryz.func259
def aqn:SC:=Vl Tryz.prog Tryz.f260
def aqo:List aF:=Vm Tryz.prog Tryz.f260
def auS:jG 260 aqn aqo 178:=aK Tryz.func260
def aqp:SC:=Vl Tryz.prog Tryz.f261
def aqq:List aF:=Vm Tryz.prog Tryz.f261
def auT:jG 261 aqp aqq 28:=aK Tryz.func261
def ahY:=(⟨_,by cbv⟩:kG Tryz.f262 []).1
def Ex:List aF:=[(.mv (.tmp 4))]
def adt:jG 262 ahY Ex 19:=aK Tryz.func262
def vB:Pa:=[4,5,8,9,10,11,12,13,14,15,16,17,18]
def ahZ:=(⟨_,by cbv⟩:kG Tryz.f263 [[5]]).1
def Nc:List aF:=[(.mv (.tmp 4))]
def adu:jG 263 ahZ Nc 19:=aK Tryz.func263
def Ce:Pa:=[4,5,8,9,10,11,12,13,14,15,16,17,18]
def aqr:SC:=Vl Tryz.prog Tryz.f264
def aqs:List aF:=Vm Tryz.prog Tryz.f264
def auU:jG 264 aqr aqs 28:=aK Tryz.func264
def ah0:=(⟨_,by cbv⟩:kG Tryz.f265 []).1
def Up:List aF:=[(.load false 1 (.tmp 10))]
def adv:jG 265 ah0 Up 34:=aK Tryz.func265
def ah1:=(⟨_,by cbv⟩:kG Tryz.f266 []).1
def ah2:List aF:=[(.mv (.tmp 2))]
def adw:jG 266 ah1 ah2 36:=aK Tryz.func266
def Cf:Pa:=[3,5,11,12,13,14,15,16,17,18,19,20,21,22]
def Cg:Pa:=[6,8,27,28,29,30,31,32,33,34]
def aqt:SC:=Vl Tryz.prog Tryz.f267
def aqu:List aF:=Vm Tryz.prog Tryz.f267
def auV:jG 267 aqt aqu 82:=aK Tryz.func267
def aqv:SC:=Vl Tryz.prog Tryz.f268
def aqw:List aF:=Vm Tryz.prog Tryz.f268
def auW:jG 268 aqv aqw 18:=aK Tryz.func268
def aqx:SC:=Vl Tryz.prog Tryz.f269
def aqy:List aF:=Vm Tryz.prog Tryz.f269
def auX:jG 269 aqx aqy 41:=aK Tryz.func269
def aqz:SC:=Vl Tryz.prog Tryz.f270
def aqA:List aF:=Vm Tryz.prog Tryz.f270
def auY:jG 270 aqz aqA 27:=aK Tryz.func270
def aqB:SC:=Vl Tryz.prog Tryz.f271
def aqC:List aF:=Vm Tryz.prog Tryz.f271
def auZ:jG 271 aqB aqC 32:=aK Tryz.func271
end
