import Derived.Test.YtnopaopphmjnmaaGreatDoorMDMG
import Derived.Test.YtnopaopphmjnmaaGreatDoorProg
set_option linter.all false
set_option maxRecDepth 100000
set_option maxHeartbeats 8000000
namespace Go.Proofs.YtnopaopphmjnmaaGreatDoor
noncomputable section
open Go Go.Abs
abbrev jB:=dh Tryz.prog
abbrev kB(f:Func)(h:List (List Nat)):Type:={c:SC // c=scH Tryz.prog f h}
def apO:=(⟨_,by cbv⟩:kB Tryz.f36 []).1
def apP:List aD:=[(.mv (.tmp 4))]
def alx:jB 36 apO apP 45:=aG Tryz.func36
def PL:=(⟨_,by cbv⟩:kB Tryz.f37 [[5,1,2,2,1,0,0]]).1
def PM:List aD:=[(.load true 18 (.tmp 4))]
def uO:jB 37 PL PM 67:=aG Tryz.func37
def aly:=(⟨_,by cbv⟩:kB Tryz.f39 []).1
def alz:List aD:=[(.mv (.tmp 2))]
def TK:jB 39 aly alz 13:=aG Tryz.func39
def fI:=(⟨_,by cbv⟩:kB Tryz.f40 []).1
def fJ:List aD:=[(.mv (.tmp 2))]
def alA:jB 40 fI fJ 87:=aG Tryz.func40
def apQ:=(⟨_,by cbv⟩:kB Tryz.f41 []).1
def apR:List aD:=[(.mv (.tmp 4))]
def alB:jB 41 apQ apR 22:=aG Tryz.func41
def MR:List Nat:=[5,7,10,11,12,13,14,15,16,17,18,19,20]
def ab2:=(⟨_,by cbv⟩:kB Tryz.f43 []).1
def ab3:List aD:=[(.mv (.tmp 4))]
def TL:jB 43 ab2 ab3 27:=aG Tryz.func43
def PN:=(⟨_,by cbv⟩:kB Tryz.f44 [[14],[10]]).1
def TM:List aD:=[(.load true 18 (.tmp 2))]
def alC:jB 44 PN TM 106:=aG Tryz.func44
def Eh:List Nat:=(⟨_,by cbv⟩:wT [1,1,1,1,1,0,1,0] PN).1
def lW:List Nat:=(⟨_,by cbv⟩:wT [1,1,1,1,1,1,1,1,1,0,1,0] PN).1
def apS:=(⟨_,by cbv⟩:kB Tryz.f47 []).1
def apT:List aD:=[(.mv (.tmp 4))]
def alD:jB 47 apS apT 14:=aG Tryz.func47
def alE:=(⟨_,by cbv⟩:kB Tryz.f48 [[9,1,2,2,2,2,2,2,2,0,0]]).1
def alF:List aD:=[(.load true 7 (.tmp 4)),(.mv (.tmp 5)),(.mv (.tmp 6))]
def alG:jB 48 alE alF 33:=aG Tryz.func48
def apU:=(⟨_,by cbv⟩:kB Tryz.f54 []).1
def apV:List aD:=[(.mv (.tmp 4))]
def alH:jB 54 apU apV 9:=aG Tryz.func54
def apW:=(⟨_,by cbv⟩:kB Tryz.f55 []).1
def alI:List aD:=[(.load true 5 (.tmp 6)),(.mv (.tmp 7))]
def alJ:jB 55 apW alI 25:=aG Tryz.func55
def MS:List Nat:=[7,9,13,14,15,16,17,18,19,20,21,22,23]
def alK:=(⟨_,by cbv⟩:kB Tryz.f56 []).1
def alL:List aD:=[(.mv (.tmp 2))]
def TN:jB 56 alK alL 5:=aG Tryz.func56
def apX:=(⟨_,by cbv⟩:kB Tryz.f57 []).1
def apY:List aD:=[(.mv (.tmp 2))]
def alN:jB 57 apX apY 9:=aG Tryz.func57
def alO:=(⟨_,by cbv⟩:kB Tryz.f58 []).1
def alP:List aD:=[(.mv (.tmp 4))]
def alQ:jB 58 alO alP 11:=aG Tryz.func58
def TO:=(⟨_,by cbv⟩:kB Tryz.f59 [[12],[11,2,1,1,1,0,2,2,2,0,2,2,0]]).1
def tw:List aD:=[(.mv (.tmp 8))]
def uP:jB 59 TO tw 108:=aG Tryz.func59
def Ei:List Nat:=(⟨_,by cbv⟩:wT [1,1,1,1,1,1,1,1,1,1,1,1,0,1,0] TO).1
def alR:=(⟨_,by cbv⟩:kB Tryz.f60 []).1
def TP:List aD:=[(.mv (.tmp 2)),(.mv (.tmp 3)),(.mv (.tmp 4))]
def alS:jB 60 alR TP 41:=aG Tryz.func60
def MT:List Nat:=[5,7,17,18,19,20,21,22,23,24,25,26]
def IQ:=(⟨_,by cbv⟩:kB Tryz.f61 [[5]]).1
def IS:List aD:=[(.load true 13 (.tmp 2))]
def uQ:jB 61 IQ IS 43:=aG Tryz.func61
def eE:List Nat:=[3,4,22,23,24,25,26,27,28,29,30,31,32,33]
def IT:=(⟨_,by cbv⟩:kB Tryz.f62 [[7]]).1
def TQ:List aD:=[(.mv (.tmp 6))]
def TR:jB 62 IT TQ 98:=aG Tryz.func62
def oq:List Nat:=(⟨_,by cbv⟩:wT [1,1,1,0,1,0] IT).1
def alT:=(⟨_,by cbv⟩:kB Tryz.f63 []).1
def alU:List aD:=[(.mv (.tmp 2))]
def alV:jB 63 alT alU 9:=aG Tryz.func63
def IU:=(⟨_,by cbv⟩:kB Tryz.f64 []).1
def tC:List aD:=[(.mv (.tmp 2))]
def alW:jB 64 IU tC 101:=aG Tryz.func64
def gI:List Nat:=(⟨_,by cbv⟩:wT [1,1,1,1,1,1,0,1,0] IU).1
def Ej:=(⟨_,by cbv⟩:kB Tryz.f65 []).1
def Ek:List aD:=[(.mv (.tmp 2))]
def alX:jB 65 Ej Ek 206:=aG Tryz.func65
def PO:=(⟨_,by cbv⟩:kB Tryz.f66 []).1
def PR:List aD:=[(.mv (.tmp 2))]
def alY:jB 66 PO PR 63:=aG Tryz.func66
def apZ:=(⟨_,by cbv⟩:kB Tryz.f67 []).1
def ap0:List aD:=[(.mv (.tmp 4))]
def alZ:jB 67 apZ ap0 68:=aG Tryz.func67
end
end Go.Proofs.YtnopaopphmjnmaaGreatDoor
