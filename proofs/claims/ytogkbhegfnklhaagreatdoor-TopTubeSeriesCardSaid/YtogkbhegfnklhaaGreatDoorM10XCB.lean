/- Steps of the proof of the theorem in the last file. -/
import Derived.Test.YtogkbhegfnklhaaGreatDoorM9XCB
set_option linter.all false
set_option maxHeartbeats 4000000
set_option maxRecDepth 1000000
namespace Go.Ev
noncomputable section
def QMO:Tr B:=bX 18512<|bX 18440<|bX 18488<|bX 18232<|bX 18476<|bX 18524<|bX 18450<|bX 18230<|bX 18513<|bX 18437<|bX 18389<|bX 18371<|bX 18451<|bX 18419<|bX 18475<|bX 18439<|bX 18535<|bX 18487<|bX 18231<|QMB
def QMA:Tr B:=QMO
def CX:Mm:=⟨75,3,[.g [aL 15565 0 2 2,aL 15570 0 2 2,aL 15571 0 2 2],aO 1632 0 2 2],QMO,Q 18230,⟨.nm,.t [.b true,aI 0],.lf,QMA,Q 18699⟩⟩
end
noncomputable section
def QFc:kg:=GM CY (Proofs.YtogkbhegfnklhaaGreatDoor.Ew)
end
theorem QDn:UK Proofs.Tryz.prog QFc:=Ym (Proofs.YtogkbhegfnklhaaGreatDoor.Yc) QIC
theorem QKQ:dj (go Proofs.Tryz.prog imp QFc met 300 (.ca CX.lv CX.f CX.args CX.h CX.n)) CX.r=true:=by kernel_rfl
theorem QIB:Mg Proofs.Tryz.prog CX.lv CX.f CX.args CX.h CX.n CX.r:=V8 jH QDn Kz QKQ
noncomputable section
def QMN:Tr B:=bC 18736 [aI 0,aN,aI 0,aN,aN] 186 false 4<|bC 18724 [aI 0,aI 2,aI 0] 3 true 4<|bC 18700 [.s [49],aO 1622 0 3 1] 110 false 4<|bC 18762 [aI 1,aN,aI 1,aN] 87 false 4<|bC 18737 [.s [49],aO 1630 0 3 1] 110 false 4<|bC 18761 [aI 0,aI 0,aI 2] 3 true 4<|bC 18725 [aI 1,aN,aI 1,aN] 87 false 4<|bC 18773 [aI 0,aN,aI 0,aN,aN] 186 false 4<|bM 18699 [(.s [48,32,50,32,48,32],.g [aI 1,aN,aI 1,aN,aO 18724 0 3 1],0),(.s [48,32,48,32,50,32],.g [aI 1,aN,aI 1,aN,aO 18761 0 3 1],1)] 2 4<|QMA
def QL9:Tr B:=bC 18784 [aI 1,aN,aI 1,aN,aO 18724 0 3 1,aI 1,aN,aI 1,aN,aO 18761 0 3 1] 186 true 4<|QMN
def CW:Mm:=⟨135,4,[.m (Q 18699)],QMN,Q 18774,⟨.nm,aO 18784 0 2 5,.lf,QL9,Q 18788⟩⟩
end
theorem QKP:fnN Proofs.Tryz.prog (go Proofs.Tryz.prog imp Proofs.YtogkbhegfnklhaaGreatDoor.Ew met 300) CW.f CW.lv CW.args CW.h CW.n CW.r=true:=by kernel_rfl
theorem QIA:Mg Proofs.Tryz.prog CW.lv CW.f CW.args CW.h CW.n CW.r:=Fc jH Proofs.YtogkbhegfnklhaaGreatDoor.Yc Kz QKP
noncomputable section
def QMM:Tr B:=bX 18784<|bX 18736<|bX 18724<|bX 15572<|bX 18700<|bX 18762<|bX 18737<|bX 18761<|bX 18725<|bX 18773<|bX 18229<|bX 18699<|QL9
def QNX:Tr B:=QMM
def CV:Mm:=⟨30,2,[.g [aL 15565 0 2 2,aL 15570 0 2 2,aL 15571 0 2 2],aO 1632 0 2 2,aO 14032 0 2 3],QMM,Q 15572,⟨.nm,.t [.b true,aI 0],.lf,QNX,Q 20549⟩⟩
end
noncomputable section
def QFb:kg:=GM CZ (GM CX (GM CW (Proofs.YtogkbhegfnklhaaGreatDoor.Ew)))
end
theorem QDm:UK Proofs.Tryz.prog QFb:=Ym (Ym (Ym (Proofs.YtogkbhegfnklhaaGreatDoor.Yc) QIA) QIB) QID
theorem QKO:dj (go Proofs.Tryz.prog imp QFb met 300 (.ca CV.lv CV.f CV.args CV.h CV.n)) CV.r=true:=by kernel_rfl
theorem QH9:Mg Proofs.Tryz.prog CV.lv CV.f CV.args CV.h CV.n CV.r:=V8 jH QDm Kz QKO
end Go.Ev
