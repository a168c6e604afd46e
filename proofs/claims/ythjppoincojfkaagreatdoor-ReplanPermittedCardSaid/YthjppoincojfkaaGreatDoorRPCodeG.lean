import Derived.Test.YthjppoincojfkaaGreatDoorRPMG
import Derived.Test.YthjppoincojfkaaGreatDoorProg
set_option linter.all false
set_option maxRecDepth 100000
set_option maxHeartbeats 8000000
namespace Go.Proofs.YthjppoincojfkaaGreatDoor
noncomputable section
open Go Go.Abs
abbrev jG:=cZ Tryz.prog
abbrev kG(f:Func)(h:List (Pa)):Type:={c:SC // c=scH Tryz.prog f h}
def aqF:SC:=Vj Tryz.prog Tryz.f259
def aqG:List aF:=Vk Tryz.prog Tryz.f259
def ave:jG 259 aqF aqG 90:=aK Tryz.func259
def aqH:SC:=Vj Tryz.prog Tryz.f260
def aqI:List aF:=Vk Tryz.prog Tryz.f260
def avf:jG 260 aqH aqI 178:=aK Tryz.func260
def aqJ:SC:=Vj Tryz.prog Tryz.f261
def aqK:List aF:=Vk Tryz.prog Tryz.f261
def avg:jG 261 aqJ aqK 28:=aK Tryz.func261
def aij:=(⟨_,by cbv⟩:kG Tryz.f262 []).1
def EF:List aF:=[(.mv (.tmp 4))]
def adJ:jG 262 aij EF 19:=aK Tryz.func262
def vB:Pa:=[4,5,8,9,10,11,12,13,14,15,16,17,18]
def aik:=(⟨_,by cbv⟩:kG Tryz.f263 [[5]]).1
def Np:List aF:=[(.mv (.tmp 4))]
def adK:jG 263 aik Np 19:=aK Tryz.func263
def Ch:Pa:=[4,5,8,9,10,11,12,13,14,15,16,17,18]
def aqL:SC:=Vj Tryz.prog Tryz.f264
def aqM:List aF:=Vk Tryz.prog Tryz.f264
def avh:jG 264 aqL aqM 28:=aK Tryz.func264
def ail:=(⟨_,by cbv⟩:kG Tryz.f265 []).1
def UG:List aF:=[(.load false 1 (.tmp 10))]
def adL:jG 265 ail UG 34:=aK Tryz.func265
def aim:=(⟨_,by cbv⟩:kG Tryz.f266 []).1
def ain:List aF:=[(.mv (.tmp 2))]
def adM:jG 266 aim ain 36:=aK Tryz.func266
def Ci:Pa:=[3,5,11,12,13,14,15,16,17,18,19,20,21,22]
def Cj:Pa:=[6,8,27,28,29,30,31,32,33,34]
def aqN:SC:=Vj Tryz.prog Tryz.f267
def aqO:List aF:=Vk Tryz.prog Tryz.f267
def avi:jG 267 aqN aqO 82:=aK Tryz.func267
def aqP:SC:=Vj Tryz.prog Tryz.f268
def aqQ:List aF:=Vk Tryz.prog Tryz.f268
def avj:jG 268 aqP aqQ 18:=aK Tryz.func268
def aqR:SC:=Vj Tryz.prog Tryz.f269
def aqS:List aF:=Vk Tryz.prog Tryz.f269
def avk:jG 269 aqR aqS 41:=aK Tryz.func269
def aqT:SC:=Vj Tryz.prog Tryz.f270
def aqU:List aF:=Vk Tryz.prog Tryz.f270
def avl:jG 270 aqT aqU 27:=aK Tryz.func270
def aqV:SC:=Vj Tryz.prog Tryz.f271
def aqW:List aF:=Vk Tryz.prog Tryz.f271
def avm:jG 271 aqV aqW 32:=aK Tryz.func271
end
