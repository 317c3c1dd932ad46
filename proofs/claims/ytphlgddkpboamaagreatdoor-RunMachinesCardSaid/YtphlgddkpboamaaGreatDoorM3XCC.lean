/- Steps of the proof of the theorem in the last file. -/
import Derived.Test.YtphlgddkpboamaaGreatDoorM2XCC
set_option linter.all false
set_option maxHeartbeats 4000000
set_option maxRecDepth 1000000
namespace Go.Ev
noncomputable section
def hA3:Tr B:=bC 1657 [aI 3,aL 1642 0 2 2,aL 1643 0 2 2,aL 1651 0 1 1,aL 1645 0 1 1,aO 1649 0 1 1] 32 false 2<|zH
def hB3:Tr B:=bC 2457 [.s [49,51,51,49,47,49,48,48,48]] 48 false 2<|hA3
def cU:Mm:=⟨21,2,[.g [aI 2,aL 130 0 1 1,aL 131 0 1 1,aL 133 0 2 2,aI 1,aI 1000,aL 134 0 2 2,aL 135 0 1 1],.g [aI 3,aL 1642 0 2 2,aL 1643 0 2 2,aL 1651 0 1 1,aL 1645 0 1 1,aO 1649 0 1 1]],hA3,Q 1658,⟨.nm,.t [aL 2457 0 1 1,aI 0],.lf,hB3,Q 2465⟩⟩
end
theorem QIt:yo (go Proofs.Tryz.prog imp Proofs.YtphlgddkpboamaaGreatDoor.RG met 300 (.ca cU.lv cU.f cU.args cU.h cU.n)) cU.r=true:=by kernel_rfl
theorem QGX:N2 Proofs.Tryz.prog cU.lv cU.f cU.args cU.h cU.n cU.r:=V8 ke Proofs.YtphlgddkpboamaaGreatDoor.VZ GP QIt
end Go.Ev
