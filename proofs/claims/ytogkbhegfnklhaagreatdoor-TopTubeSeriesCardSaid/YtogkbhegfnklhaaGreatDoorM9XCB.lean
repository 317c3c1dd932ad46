/- Steps of the proof of the theorem in the last file. -/
import Derived.Test.YtogkbhegfnklhaaGreatDoorM8XCB
set_option linter.all false
set_option maxHeartbeats 4000000
set_option maxRecDepth 1000000
namespace Go.Ev
noncomputable section
def QMQ:Tr B:=bC 15568 [aI 0,aI 1,aI 0] 3 false 2<|bC 15572 [aL 15565 0 2 2,aL 15570 0 2 2,aL 15571 0 2 2] 26 false 3<|bC 15570 [aL 15567 0 1 1,aL 15569 0 1 1] 54 false 2<|bC 15566 [aI 0,aI 0,aI 1] 3 false 2<|bC 15569 [.s [45,49],aL 15568 0 3 3] 110 false 2<|bC 15565 [.s [120],.s [118]] 9 false 2<|bC 15571 [.s [49],.s [49],.s [48],.s [48]] 41 false 2<|bC 15563 [.s [49],.s [49],.s [48],.s [48],.s [45,49,47,50],.s [45,49,47,50]] 41 false 2<|bC 15567 [.s [49],aL 15566 0 3 3] 110 false 2<|QMD
def QMC:Tr B:=QMQ
def CZ:Mm:=⟨74,3,[.g [aL 15565 0 2 2,aL 15570 0 2 2,aL 15571 0 2 2],aO 14032 0 2 3],QMQ,Q 15692,⟨.nm,aI 0,.lf,QMC,Q 18229⟩⟩
end
theorem QKT:dj (go Proofs.Tryz.prog imp Proofs.YtogkbhegfnklhaaGreatDoor.Ew met 300 (.ca CZ.lv CZ.f CZ.args CZ.h CZ.n)) CZ.r=true:=by kernel_rfl
theorem QID:Mg Proofs.Tryz.prog CZ.lv CZ.f CZ.args CZ.h CZ.n CZ.r:=V8 jH Proofs.YtogkbhegfnklhaaGreatDoor.Yc Kz QKT
noncomputable section
def QMP:Tr B:=bC 18512 [aI 0,aI 0,aI 2] 3 true 6<|bC 18440 [aL 15565 0 2 2,aL 15570 0 2 2,aL 15571 0 2 2,aI 3,aO 18439 0 2 1] 66 false 5<|bC 18488 [.s [49],aO 1630 0 3 1] 110 false 6<|bC 18232 [aN,aN,aN,aI 0,aN] 66 false 5<|bC 18476 [aI 1,aN,aI 1,aN] 87 false 6<|bC 18524 [aI 0,aN,aI 0,aN,aN] 186 false 6<|bM 18450 [(.s [48,32,50,32,48,32],.g [aI 1,aN,aI 1,aN,aO 18475 0 3 1],0),(.s [48,32,48,32,50,32],.g [aI 1,aN,aI 1,aN,aO 18512 0 3 1],1)] 2 6<|bC 18230 [aL 15565 0 2 2,aL 15570 0 2 2,aL 15571 0 2 2] 26 false 4<|bC 18513 [aI 1,aN,aI 1,aN] 87 false 6<|bC 18437 [aJ 0,aN,aI 1,aN,aO 18419 0 3 1] 186 true 5<|bC 18389 [aI 1,aN,aI 1,aN,aO 18371 0 3 1] 186 true 5<|bC 18229 [aI 0,aI 0] 34 false 3<|bC 18371 [aI 0,aI 0,aI 1] 3 true 5<|bC 18451 [.s [49],aO 1622 0 3 1] 110 false 6<|bC 18419 [aI 0,aI 1,aI 0] 3 true 5<|bC 18475 [aI 0,aI 2,aI 0] 3 true 6<|bC 18439 [aO 18389 0 1 5,aO 18437 0 1 5] 120 true 5<|bC 18487 [aI 0,aN,aI 0,aN,aN] 186 false 6<|bC 18231 [aL 15565 0 2 2,aL 15570 0 2 2,aL 15571 0 2 2] 26 false 5<|QMC
def QMB:Tr B:=bC 18535 [aI 1,aN,aI 1,aN,aO 18475 0 3 1,aI 1,aN,aI 1,aN,aO 18512 0 3 1] 186 true 6<|QMP
def CY:Mm:=⟨135,6,[.m (Q 18450)],QMP,Q 18525,⟨.nm,aO 18535 0 2 5,.lf,QMB,Q 18539⟩⟩
end
theorem QKR:fnN Proofs.Tryz.prog (go Proofs.Tryz.prog imp Proofs.YtogkbhegfnklhaaGreatDoor.Ew met 300) CY.f CY.lv CY.args CY.h CY.n CY.r=true:=by kernel_rfl
theorem QIC:Mg Proofs.Tryz.prog CY.lv CY.f CY.args CY.h CY.n CY.r:=Fc jH Proofs.YtogkbhegfnklhaaGreatDoor.Yc Kz QKR
end Go.Ev
