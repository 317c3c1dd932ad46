/- Steps of the proof of the theorem in the last file. -/
import Derived.Test.YtphlgddkpboamaaGreatDoorM1XCC
set_option linter.all false
set_option maxHeartbeats 4000000
set_option maxRecDepth 1000000
namespace Go.Ev
noncomputable section
def hA2:Tr B:=bC 789 [aI 0,aL 775 0 2 2,aL 776 0 2 2,aL 784 0 1 1,aL 778 0 1 1,aO 782 0 1 1] 32 false 2<|hB1
def zH:Tr B:=bC 1642 [aI 3,aI 133] 3 false 2<|bC 1649 [aL 1647 0 0 0] 23 true 2<|bC 1645 [aI 3] 3 false 2<|bC 1651 [.s [49,47,49,48]] 48 false 2<|bC 1643 [aI 3,aI 133] 3 false 2<|bC 1647 [] 3 false 2<|hA2
def cV:Mm:=⟨20,2,[.g [aI 2,aL 130 0 1 1,aL 131 0 1 1,aL 133 0 2 2,aI 1,aI 1000,aL 134 0 2 2,aL 135 0 1 1],.g [aI 0,aL 775 0 2 2,aL 776 0 2 2,aL 784 0 1 1,aL 778 0 1 1,aO 782 0 1 1],aI 3],hA2,Q 790,⟨.nm,.t [.g [aI 3,aL 1642 0 2 2,aL 1643 0 2 2,aL 1651 0 1 1,aL 1645 0 1 1,aO 1649 0 1 1],aI 3,aI 0],.lf,zH,Q 1657⟩⟩
end
theorem QIu:yo (go Proofs.Tryz.prog imp Proofs.YtphlgddkpboamaaGreatDoor.RG met 300 (.ca cV.lv cV.f cV.args cV.h cV.n)) cV.r=true:=by kernel_rfl
theorem QGY:N2 Proofs.Tryz.prog cV.lv cV.f cV.args cV.h cV.n cV.r:=V8 ke Proofs.YtphlgddkpboamaaGreatDoor.VZ GP QIu
end Go.Ev
