/- Steps of the proof of the theorem in the last file. -/
import Derived.Test.YtphlgddkpboamaaGreatDoorM3XCC
set_option linter.all false
set_option maxHeartbeats 4000000
set_option maxRecDepth 1000000
namespace Go.Ev
noncomputable section
def hA4:Tr B:=bC 2480 [.s [105,110,116,101,103,114,97,116,111,114],aL 2478 0 2 2,aI 1,.s [49],aN,.s [105,110,116,101,103,114,97,116,111,114],aL 2479 0 2 2,aI 2,.s [48],aN] 80 false 2<|bC 2484 [aI 0,aI 0,aI 0,aI 0,aI 0,aI 0,aI 0,aI 0,aI 0] 76 false 2<|bC 2476 [aI 0,aI 2,aI 2,aI 1,aI 3] 3 true 2<|bC 2478 [aI 2,.s [49],aI 0,.s [49]] 89 false 2<|bC 2465 [aI 2,aI 5,aI 4,aI 1,aI 6] 3 false 2<|bC 2481 [aI 1,aI 2] 3 false 2<|bC 2485 [aI 0,aI 0] 3 false 2<|bC 2483 [aI 10,aI 100,aI 100] 3 false 2<|bC 2479 [aI 1,.s [45,49],aI 0,.s [49]] 89 false 2<|hB3
def hB4:Tr B:=bC 3624 [aL 3619 0 0 0,aL 3622 0 0 0] 23 true 2<|bC 3626 [.s [48],.s [48]] 48 false 2<|bC 3622 [] 3 false 2<|bC 3614 [aI 0,aI 100,aI 0] 3 false 2<|bC 3617 [aI 0,aI 0] 3 false 2<|bC 3619 [] 3 false 2<|bC 3615 [aI 0,aI 100,aI 0] 3 false 2<|hA4
def cT:Mm:=⟨19,2,[.g [aI 3,aL 2480 0 2 2,aL 2481 0 2 2,aL 2483 0 3 3,aI 1,aI 1000,aL 2484 0 3 3,aL 2485 0 2 2]],hA4,Q 2486,⟨.nm,.t [.g [aI 0,aL 3614 0 3 3,aL 3615 0 3 3,aL 3626 0 2 2,aL 3617 0 2 2,aO 3624 0 2 1],aI 0],.lf,hB4,Q 3635⟩⟩
end
theorem QIs:yo (go Proofs.Tryz.prog imp Proofs.YtphlgddkpboamaaGreatDoor.RG met 300 (.ca cT.lv cT.f cT.args cT.h cT.n)) cT.r=true:=by kernel_rfl
theorem QGW:N2 Proofs.Tryz.prog cT.lv cT.f cT.args cT.h cT.n cT.r:=V8 ke Proofs.YtphlgddkpboamaaGreatDoor.VZ GP QIs
end Go.Ev
