/- Steps of the proof of the theorem in the last file. -/
import Derived.Test.YtphlgddkpboamaaGreatDoorM5XCC
set_option linter.all false
set_option maxHeartbeats 4000000
set_option maxRecDepth 1000000
namespace Go.Ev
noncomputable section
def hA6:Tr B:=bC 5080 [aI 0,aI 0] 3 false 2<|bC 5076 [aI 1,aI 2] 3 false 2<|bC 5074 [aI 1,.s [45,49],aI 0,.s [49]] 89 false 2<|bC 5078 [aI 10,aI 100,aI 100] 3 false 2<|bC 5073 [aI 2,.s [49],aI 0,.s [49]] 89 false 2<|bC 5075 [.s [105,110,116,101,103,114,97,116,111,114],aL 5073 0 2 2,aI 1,.s [49],aN,.s [105,110,116,101,103,114,97,116,111,114],aL 5074 0 2 2,aI 2,.s [48],aN] 80 false 2<|bC 5079 [aI 0,aI 0,aI 0,aI 0,aI 0,aI 0,aI 0,aI 0,aI 0] 76 false 2<|bC 5071 [aI 2,aL 5049 0 3 3,aL 5050 0 3 3,aL 5061 0 2 2,aL 5052 0 2 2,aO 5059 0 2 1] 32 false 2<|hB5
def hB6:Tr B:=bC 6824 [aI 0,aI 0] 3 false 2<|bC 6826 [] 3 false 2<|bC 6822 [aI 0,aI 100,aI 0] 3 false 2<|bC 6833 [.s [48],.s [48]] 48 false 2<|bC 6821 [aI 0,aI 100,aI 0] 3 false 2<|bC 6829 [] 3 false 2<|bC 6831 [aL 6826 0 0 0,aL 6829 0 0 0] 23 true 2<|hA6
def cR:Mm:=⟨24,2,[.g [aI 3,aL 5075 0 2 2,aL 5076 0 2 2,aL 5078 0 3 3,aI 1,aI 1000,aL 5079 0 3 3,aL 5080 0 2 2],.g [aI 2,aL 5049 0 3 3,aL 5050 0 3 3,aL 5061 0 2 2,aL 5052 0 2 2,aO 5059 0 2 1],aI 2],hA6,Q 5081,⟨.nm,.t [.g [aI 0,aL 6821 0 3 3,aL 6822 0 3 3,aL 6833 0 2 2,aL 6824 0 2 2,aO 6831 0 2 1],aI 2,aI 0],.lf,hB6,Q 6842⟩⟩
end
theorem QIq:yo (go Proofs.Tryz.prog imp Proofs.YtphlgddkpboamaaGreatDoor.RG met 300 (.ca cR.lv cR.f cR.args cR.h cR.n)) cR.r=true:=by kernel_rfl
theorem QGU:N2 Proofs.Tryz.prog cR.lv cR.f cR.args cR.h cR.n cR.r:=V8 ke Proofs.YtphlgddkpboamaaGreatDoor.VZ GP QIq
end Go.Ev
