import Derived.Test.YthjppoincojfkaaGreatDoorRTMG
import Derived.Test.YthjppoincojfkaaGreatDoorProg
set_option linter.all false
set_option maxRecDepth 100000
set_option maxHeartbeats 8000000
namespace Go.Proofs.YthjppoincojfkaaGreatDoor
noncomputable section
open Go Go.Abs
abbrev jG:=cV Tryz.prog
abbrev kG(f:Func)(h:List (Pa)):Type:={c:SC // c=scH Tryz.prog f h}
def aqP:SC:=Vn Tryz.prog Tryz.f259
def aqQ:List aF:=Vo Tryz.prog Tryz.f259
def avi:jG 259 aqP aqQ 90:=aL Tryz.func259
def aqR:SC:=Vn Tryz.prog Tryz.f260
def aqS:List aF:=Vo Tryz.prog Tryz.f260
def avj:jG 260 aqR aqS 178:=aL Tryz.func260
def aqT:SC:=Vn Tryz.prog Tryz.f261
def aqU:List aF:=Vo Tryz.prog Tryz.f261
def avk:jG 261 aqT aqU 28:=aL Tryz.func261
def aiy:=(⟨_,by cbv⟩:kG Tryz.f262 []).1
def EM:List aF:=[(.mv (.tmp 4))]
def adY:jG 262 aiy EM 19:=aL Tryz.func262
def vD:Pa:=[4,5,8,9,10,11,12,13,14,15,16,17,18]
def aiz:=(⟨_,by cbv⟩:kG Tryz.f263 [[5]]).1
def Np:List aF:=[(.mv (.tmp 4))]
def adZ:jG 263 aiz Np 19:=aL Tryz.func263
def Ci:Pa:=[4,5,8,9,10,11,12,13,14,15,16,17,18]
def aqV:SC:=Vn Tryz.prog Tryz.f264
def aqW:List aF:=Vo Tryz.prog Tryz.f264
def avl:jG 264 aqV aqW 28:=aL Tryz.func264
def aiA:=(⟨_,by cbv⟩:kG Tryz.f265 []).1
def UY:List aF:=[(.load false 1 (.tmp 10))]
def ad0:jG 265 aiA UY 34:=aL Tryz.func265
def aiB:=(⟨_,by cbv⟩:kG Tryz.f266 []).1
def aiC:List aF:=[(.mv (.tmp 2))]
def ad1:jG 266 aiB aiC 36:=aL Tryz.func266
def Cj:Pa:=[3,5,11,12,13,14,15,16,17,18,19,20,21,22]
def Ck:Pa:=[6,8,27,28,29,30,31,32,33,34]
def aqX:SC:=Vn Tryz.prog Tryz.f267
def aqY:List aF:=Vo Tryz.prog Tryz.f267
def avm:jG 267 aqX aqY 82:=aL Tryz.func267
def aqZ:SC:=Vn Tryz.prog Tryz.f268
def aq0:List aF:=Vo Tryz.prog Tryz.f268
def avn:jG 268 aqZ aq0 18:=aL Tryz.func268
def aq1:SC:=Vn Tryz.prog Tryz.f269
def aq2:List aF:=Vo Tryz.prog Tryz.f269
def avo:jG 269 aq1 aq2 41:=aL Tryz.func269
def aq3:SC:=Vn Tryz.prog Tryz.f270
def aq4:List aF:=Vo Tryz.prog Tryz.f270
def avp:jG 270 aq3 aq4 27:=aL Tryz.func270
def aq5:SC:=Vn Tryz.prog Tryz.f271
def aq6:List aF:=Vo Tryz.prog Tryz.f271
def avq:jG 271 aq5 aq6 32:=aL Tryz.func271
end
