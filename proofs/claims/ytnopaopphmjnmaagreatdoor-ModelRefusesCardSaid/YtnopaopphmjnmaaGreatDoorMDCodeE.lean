import Derived.Test.YtnopaopphmjnmaaGreatDoorMDMG
import Derived.Test.YtnopaopphmjnmaaGreatDoorProg
set_option linter.all false
set_option maxRecDepth 100000
set_option maxHeartbeats 8000000
namespace Go.Proofs.YtnopaopphmjnmaaGreatDoor
noncomputable section
open Go Go.Abs
abbrev jE:=dh Tryz.prog
abbrev kE(f:Func)(h:List (List Nat)):Type:={c:SC // c=scH Tryz.prog f h}
def zX:=(⟨_,by cbv⟩:kE Tryz.f156 [[4]]).1
def Ex:List aD:=[(.load true 7 (.tmp 6)),(.mv (.tmp 7))]
def Ng:jE 156 zX Ex 124:=aG Tryz.func156
def JF:List Nat:=(⟨_,by cbv⟩:wT [1,1,1,1,1,1,1,0,1,0] zX).1
def BS:List Nat:=(⟨_,by cbv⟩:wT [1,1,1,1,1,1,1,1,1,0,1,0] zX).1
def aio:=(⟨_,by cbv⟩:kE Tryz.f157 []).1
def aip:List aD:=[(.mv (.tmp 4))]
def ac8:jE 157 aio aip 9:=aG Tryz.func157
def Nh:=(⟨_,by cbv⟩:kE Tryz.f158 [[9,2,2,2,1,0,0,2,2,2,0]]).1
def uX:List aD:=[(.mv (.tmp 8)),(.mv (.tmp 9))]
def ac9:jE 158 Nh uX 76:=aG Tryz.func158
def JG:List Nat:=(⟨_,by cbv⟩:wT [1,1,1,1,1,0,1,0] Nh).1
def JH:List Nat:=(⟨_,by cbv⟩:wT [1,1,1,1,1,0,1,0,0,1,1,0,0,1,1,0] Nh).1
def UO:=(⟨_,by cbv⟩:kE Tryz.f159 [[9]]).1
def aiq:List aD:=[(.mv (.tmp 4))]
def ada:jE 159 UO aiq 77:=aG Tryz.func159
def dU:List Nat:=(⟨_,by cbv⟩:wT [1,1,1,0,1,0] UO).1
def aqe:=(⟨_,by cbv⟩:kE Tryz.f160 []).1
def aqf:List aD:=[]
def Ni:jE 160 aqe aqf 11:=aG Tryz.func160
def uY:=(⟨_,by cbv⟩:kE Tryz.f161 [[9],[9]]).1
def zY:List aD:=[(.mv (.tmp 2))]
def BT:jE 161 uY zY 61:=aG Tryz.func161
def BU:List Nat:=(⟨_,by cbv⟩:wT [1,1,0,1,0] uY).1
def BV:List Nat:=(⟨_,by cbv⟩:wT [1,1,0,1,0,0,1,0,0,1,0,1,0,1,0] uY).1
def rT:=(⟨_,by cbv⟩:kE Tryz.f169 []).1
def rU:List aD:=[(.load true 8 (.tmp 2))]
def adb:jE 169 rT rU 54:=aG Tryz.func169
def UP:=(⟨_,by cbv⟩:kE Tryz.f170 []).1
def UQ:List aD:=[(.mv (.tmp 2))]
def ade:jE 170 UP UQ 11:=aG Tryz.func170
def air:=(⟨_,by cbv⟩:kE Tryz.f171 []).1
def ais:List aD:=[(.mv (.tmp 6))]
def adf:jE 171 air ais 15:=aG Tryz.func171
def UR:=(⟨_,by cbv⟩:kE Tryz.f172 []).1
def US:List aD:=[(.mv (.tmp 2))]
def adg:jE 172 UR US 10:=aG Tryz.func172
def Nj:=(⟨_,by cbv⟩:kE Tryz.f173 []).1
def uZ:List aD:=[(.load false 1 (.tmp 2)),(.load false 1 (.tmp 3))]
def adh:jE 173 Nj uZ 59:=aG Tryz.func173
def Nk:=(⟨_,by cbv⟩:kE Tryz.f180 [[8]]).1
def Ey:List aD:=[(.mv (.tmp 4))]
def adi:jE 180 Nk Ey 26:=aG Tryz.func180
def u5:List Nat:=(⟨_,by cbv⟩:wT [1,1,0,1,0] Nk).1
def Nl:=(⟨_,by cbv⟩:kE Tryz.f181 []).1
def Nn:List aD:=[]
def adj:jE 181 Nl Nn 14:=aG Tryz.func181
def No:=(⟨_,by cbv⟩:kE Tryz.f182 [[12],[13]]).1
def Np:List aD:=[(.mv (.tmp 2))]
def adk:jE 182 No Np 73:=aG Tryz.func182
def u6:List Nat:=[3,5,15,16,17,18,19,20,21,22,23,24]
def iO:List Nat:=(⟨_,by cbv⟩:wT [1,1,1,1,1,1,0,1,0] No).1
def UT:=(⟨_,by cbv⟩:kE Tryz.f183 []).1
def UU:List aD:=[(.mv (.tmp 2))]
def adl:jE 183 UT UU 11:=aG Tryz.func183
def Ez:=(⟨_,by cbv⟩:kE Tryz.f184 []).1
def u7:List aD:=[(.mv (.tmp 2))]
def adm:jE 184 Ez u7 41:=aG Tryz.func184
def qw:List Nat:=(⟨_,by cbv⟩:wT [1,1,1,0,1,0] Ez).1
def Nq:=(⟨_,by cbv⟩:kE Tryz.f185 []).1
def Nr:List aD:=[(.mv (.tmp 4))]
def adn:jE 185 Nq Nr 20:=aG Tryz.func185
def UW:=(⟨_,by cbv⟩:kE Tryz.f186 []).1
def Ns:List aD:=[]
def ado:jE 186 UW Ns 39:=aG Tryz.func186
def JI:List Nat:=(⟨_,by cbv⟩:wT [1,1,0] UW).1
def rV:=(⟨_,by cbv⟩:kE Tryz.f187 [[12]]).1
def EA:List aD:=[(.mv (.tmp 6))]
def adp:jE 187 rV EA 145:=aG Tryz.func187
def dV:List Nat:=(⟨_,by cbv⟩:wT [1,1,1,0,1,0] rV).1
def JJ:List Nat:=[13,74,75,76,77,78,79,80,81]
def JK:List Nat:=(⟨_,by cbv⟩:wT [1,1,1,1,1,1,1,1,1,1,0,1,0,1,0,1,1,1,0] rV).1
def qx:List Nat:=(⟨_,by cbv⟩:wT [1,1,1,1,1,1,1,1,1,1,1,1,0,1,0] rV).1
def UX:=(⟨_,by cbv⟩:kE Tryz.f188 []).1
def UY:List aD:=[(.mv (.tmp 4))]
def adq:jE 188 UX UY 37:=aG Tryz.func188
def iP:List Nat:=(⟨_,by cbv⟩:wT [1,1,0,1,0] UX).1
def zZ:=(⟨_,by cbv⟩:kE Tryz.f189 [[11]]).1
def lX:List aD:=[(.mv (.tmp 8))]
def adr:jE 189 zZ lX 111:=aG Tryz.func189
def JL:List Nat:=(⟨_,by cbv⟩:wT [1,0,1,1,1,1,1,0,1,0,1,0,1,1,1,1,1,0] zZ).1
def JM:List Nat:=(⟨_,by cbv⟩:wT [1,0,1,1,1,1,1,0,1,0,1,0,1,1,1,1,1,0,0,1,0,0,1,0] zZ).1
def ait:=(⟨_,by cbv⟩:kE Tryz.f190 []).1
def aiu:List aD:=[(.mv (.tmp 4))]
def ads:jE 190 ait aiu 6:=aG Tryz.func190
def aiv:=(⟨_,by cbv⟩:kE Tryz.f191 []).1
def aiw:List aD:=[(.mv (.tmp 4))]
def adt:jE 191 aiv aiw 11:=aG Tryz.func191
def u9:=(⟨_,by cbv⟩:kE Tryz.f192 []).1
def va:List aD:=[(.mv (.tmp 2))]
def adu:jE 192 u9 va 49:=aG Tryz.func192
def EB:=(⟨_,by cbv⟩:kE Tryz.f193 [[7],[9]]).1
def ou:List aD:=[(.mv (.tmp 2))]
def adv:jE 193 EB ou 73:=aG Tryz.func193
def iQ:List Nat:=(⟨_,by cbv⟩:wT [1,1,0,1,0] EB).1
def EC:=(⟨_,by cbv⟩:kE Tryz.f194 [[18],[7]]).1
def fK:List aD:=[(.mv (.tmp 2))]
def adw:jE 194 EC fK 93:=aG Tryz.func194
def eF:List Nat:=(⟨_,by cbv⟩:wT [1,1,0,1,0] EC).1
end
end Go.Proofs.YtnopaopphmjnmaaGreatDoor
