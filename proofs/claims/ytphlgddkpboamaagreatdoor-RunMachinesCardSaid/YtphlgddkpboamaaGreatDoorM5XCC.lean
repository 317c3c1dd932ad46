/- Steps of the proof of the theorem in the last file. -/
import Derived.Test.YtphlgddkpboamaaGreatDoorM4XCC
set_option linter.all false
set_option maxHeartbeats 4000000
set_option maxRecDepth 1000000
namespace Go.Ev
noncomputable section
def hA5:Tr B:=bC 3640 [aI 1,aI 2] 3 false 2<|bC 3644 [aI 0,aI 0] 3 false 2<|bC 3642 [aI 10,aI 100,aI 100] 3 false 2<|bC 3638 [aI 1,.s [45,49],aI 0,.s [49]] 89 false 2<|bC 3637 [aI 2,.s [49],aI 0,.s [49]] 89 false 2<|bC 3635 [aI 0,aL 3614 0 3 3,aL 3615 0 3 3,aL 3626 0 2 2,aL 3617 0 2 2,aO 3624 0 2 1] 32 false 2<|bC 3643 [aI 0,aI 0,aI 0,aI 0,aI 0,aI 0,aI 0,aI 0,aI 0] 76 false 2<|bC 3639 [.s [105,110,116,101,103,114,97,116,111,114],aL 3637 0 2 2,aI 1,.s [49],aN,.s [105,110,116,101,103,114,97,116,111,114],aL 3638 0 2 2,aI 2,.s [48],aN] 80 false 2<|hB4
def hB5:Tr B:=bC 5052 [aI 2,aI 2] 3 false 2<|bC 5050 [aI 2,aI 99,aJ 19] 3 false 2<|bC 5054 [] 3 false 2<|bC 5057 [] 3 false 2<|bC 5049 [aI 2,aI 99,aJ 19] 3 false 2<|bC 5061 [.s [48],.s [49,47,49,48]] 48 false 2<|bC 5059 [aL 5054 0 0 0,aL 5057 0 0 0] 23 true 2<|hA5
def cS:Mm:=⟨20,2,[.g [aI 3,aL 3639 0 2 2,aL 3640 0 2 2,aL 3642 0 3 3,aI 1,aI 1000,aL 3643 0 3 3,aL 3644 0 2 2],.g [aI 0,aL 3614 0 3 3,aL 3615 0 3 3,aL 3626 0 2 2,aL 3617 0 2 2,aO 3624 0 2 1],aI 2],hA5,Q 3645,⟨.nm,.t [.g [aI 2,aL 5049 0 3 3,aL 5050 0 3 3,aL 5061 0 2 2,aL 5052 0 2 2,aO 5059 0 2 1],aI 2,aI 0],.lf,hB5,Q 5071⟩⟩
end
theorem QIr:yo (go Proofs.Tryz.prog imp Proofs.YtphlgddkpboamaaGreatDoor.RG met 300 (.ca cS.lv cS.f cS.args cS.h cS.n)) cS.r=true:=by kernel_rfl
theorem QGV:N2 Proofs.Tryz.prog cS.lv cS.f cS.args cS.h cS.n cS.r:=V8 ke Proofs.YtphlgddkpboamaaGreatDoor.VZ GP QIr
end Go.Ev
