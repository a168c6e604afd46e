import Derived.Test.YtnopaopphmjnmaaGreatDoorMDMG
import Derived.Test.YtnopaopphmjnmaaGreatDoorProg
set_option linter.all false
set_option maxRecDepth 100000
set_option maxHeartbeats 8000000
namespace Go.Proofs.YtnopaopphmjnmaaGreatDoor
noncomputable section
open Go Go.Abs
abbrev jA:=dh Tryz.prog
abbrev kA(f:Func)(h:List (List Nat)):Type:={c:SC // c=scH Tryz.prog f h}
def sc8:=(⟨_,by cbv⟩:kA Tryz.f8 [[12]]).1
def rs8:List aD:=[(.mv (.tmp 6))]
def apH:jA 8 sc8 rs8 203:=aG Tryz.func8
def abS:List Nat:=(⟨_,by cbv⟩:wT [1,1,1,1,1,1,1,0,1,0] sc8).1
def abT:List Nat:=(⟨_,by cbv⟩:wT [1,1,1,1,1,1,1,0,1,0,0,1,0,0,1,1,1,0] sc8).1
def abU:List Nat:=(⟨_,by cbv⟩:wT [1,1,1,1,1,1,1,1,1,1,0,1,0] sc8).1
def abV:=(⟨_,by cbv⟩:kA Tryz.f10 [[5]]).1
def alb:List aD:=[(.mv (.tmp 4))]
def alc:jA 10 abV alb 107:=aG Tryz.func10
def Ty:List Nat:=(⟨_,by cbv⟩:wT [1,1,1,1,1,1,0,1,0] abV).1
def Tz:List Nat:=(⟨_,by cbv⟩:wT [1,1,1,1,1,1,0,1,0,0,1,0,0,1,0,1,0] abV).1
def qt:=(⟨_,by cbv⟩:kA Tryz.f11 []).1
def apI:List aD:=[(.mv (.tmp 0))]
def ald:jA 11 qt apI 138:=aG Tryz.func11
def ale:=(⟨_,by cbv⟩:kA Tryz.f12 []).1
def abW:List aD:=[(.mv (.tmp 2))]
def alf:jA 12 ale abW 24:=aG Tryz.func12
def zU:List Nat:=(⟨_,by cbv⟩:wT [1,1,0,1,0] ale).1
def TA:=(⟨_,by cbv⟩:kA Tryz.f13 [[11],[7],[9,2,1,1,1,1,1,1,1,0,0]]).1
def PG:List aD:=[(.mv (.tmp 2)),(.mv (.tmp 3))]
def alg:jA 13 TA PG 71:=aG Tryz.func13
def zV:List Nat:=(⟨_,by cbv⟩:wT [1,1,1,0,1,0] TA).1
def alh:=(⟨_,by cbv⟩:kA Tryz.f15 []).1
def abX:List aD:=[(.mv (.tmp 2))]
def ali:jA 15 alh abX 64:=aG Tryz.func15
def uN:List Nat:=(⟨_,by cbv⟩:wT [1,1,1,0,1,0] alh).1
def Eb:=(⟨_,by cbv⟩:kA Tryz.f16 [[25],[14,2,2,2,2,2,1,1,1,1,1,1,1,1,0,0],[12,2,1,1,1,1,1,1,1,1,1,1,0,0]]).1
def TB:List aD:=[(.mv (.tmp 4))]
def IK:jA 16 Eb TB 83:=aG Tryz.func16
def MQ:List Nat:=(⟨_,by cbv⟩:wT [1,1,1,1,0,1,0] Eb).1
def alj:=(⟨_,by cbv⟩:kA Tryz.f18 []).1
def abY:List aD:=[(.mv (.tmp 4)),(.mv (.tmp 5))]
def TC:jA 18 alj abY 35:=aG Tryz.func18
def Ec:List Nat:=[6,8,16,17,18,19,20,21,22,23,24,25,26,27]
def alk:=(⟨_,by cbv⟩:kA Tryz.f20 []).1
def IL:List aD:=[(.load true 18 (.tmp 6)),(.mv (.tmp 7))]
def TD:jA 20 alk IL 26:=aG Tryz.func20
def IM:=(⟨_,by cbv⟩:kA Tryz.f23 [[14],[14,2,2,2,2,2,2,2,2,2,2,2,0,0,2,0]]).1
def IN:List aD:=[(.mv (.tmp 8))]
def TE:jA 23 IM IN 96:=aG Tryz.func23
def Ee:List Nat:=(⟨_,by cbv⟩:wT [1,0,1,1,1,1,0,1,0,1,0,1,1,1,1,0] IM).1
def apJ:=(⟨_,by cbv⟩:kA Tryz.f26 []).1
def abZ:List aD:=[(.mv (.tmp 4))]
def alm:jA 26 apJ abZ 29:=aG Tryz.func26
def TF:List Nat:=[4,7,15,16,17,18,19,20,21,22,23,24,25,26,27]
def aln:=(⟨_,by cbv⟩:kA Tryz.f27 []).1
def PI:List aD:=[(.mv (.tmp 10))]
def TG:jA 27 aln PI 31:=aG Tryz.func27
def apK:=(⟨_,by cbv⟩:kA Tryz.f28 []).1
def apL:List aD:=[(.load true 13 (.tmp 2))]
def alo:jA 28 apK apL 51:=aG Tryz.func28
def TH:=(⟨_,by cbv⟩:kA Tryz.f29 []).1
def TI:List aD:=[(.load true 5 (.tmp 4)),(.mv (.tmp 5))]
def TJ:jA 29 TH TI 12:=aG Tryz.func29
def PJ:=(⟨_,by cbv⟩:kA Tryz.f30 [[6]]).1
def PK:List aD:=[(.mv (.tmp 10))]
def alp:jA 30 PJ PK 43:=aG Tryz.func30
def ab0:=(⟨_,by cbv⟩:kA Tryz.f31 [[4]]).1
def ab1:List aD:=[(.load true 18 (.tmp 2)),(.mv (.tmp 3)),(.mv (.tmp 4))]
def IP:jA 31 ab0 ab1 25:=aG Tryz.func31
def alq:=(⟨_,by cbv⟩:kA Tryz.f32 []).1
def alr:List aD:=[(.mv (.tmp 4))]
def alu:jA 32 alq alr 13:=aG Tryz.func32
def apM:=(⟨_,by cbv⟩:kA Tryz.f33 []).1
def apN:List aD:=[(.load true 13 (.tmp 0))]
def alv:jA 33 apM apN 15:=aG Tryz.func33
def Ef:=(⟨_,by cbv⟩:kA Tryz.f34 []).1
def Eg:List aD:=[(.mv (.tmp 2))]
def alw:jA 34 Ef Eg 105:=aG Tryz.func34
end
end Go.Proofs.YtnopaopphmjnmaaGreatDoor
