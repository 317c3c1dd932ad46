/- Steps of the proof of the theorem in the last file. -/
import Derived.Test.YtogkbhegfnklhaaGreatDoorM1XCB
set_option linter.all false
set_option maxHeartbeats 4000000
set_option maxRecDepth 1000000
namespace Go.Ev
noncomputable section
def hA6:Tr B:=bC 2128 [aI 1,aN,aI 1,aN,aI 1,aN,aI 1,aN,aI 0,aN,aI 1,aN,aI 0,aN,aI 1,aN] 89 true 3<|bC 1640 [.s [45,49],aL 1639 0 3 3] 110 false 2<|bC 1636 [.s [120],.s [118]] 9 false 2<|bC 1644 [aL 1636 0 2 2,aL 1641 0 2 2,aL 1642 0 2 2] 26 false 3<|bC 2268 [aN,aN] 137 false 4<|bC 1642 [.s [49],.s [49],.s [48],.s [48]] 41 false 2<|bC 1638 [.s [49],aL 1637 0 3 3] 110 false 2<|bC 2129 [aO 2223 0 2 1,aO 2128 0 2 8] 131 false 3<|bC 1641 [aL 1638 0 1 1,aL 1640 0 1 1] 54 false 2<|bC 1637 [aI 0,aI 0,aI 1] 3 false 2<|bC 2229 [aI 0,aN,aI 1,aN,aI 1,aN,aI 4,aN,aO 2128 0 2 8] 133 false 3<|bC 2221 [aJ 0,aN,aI 1,aN,aO 2203 0 3 1] 186 true 3<|bC 2029 [aI 0,aI 0,aI 0,aI 0] 34 false 3<|bC 2173 [aI 1,aN,aI 1,aN,aO 2155 0 3 1] 186 true 3<|bC 2155 [aI 0,aI 0,aI 1] 3 true 3<|bC 1643 [.s [49,47,52],.s [49,47,50]] 27 false 2<|bC 2203 [aI 0,aI 1,aI 0] 3 true 3<|bC 2267 [aI 0,aN,aI 1,aN,aI 1,aN,aI 4,aN,aO 2128 0 2 8] 133 false 4<|bC 1639 [aI 0,aI 1,aI 0] 3 false 2<|bC 2223 [aO 2173 0 1 5,aO 2221 0 1 5] 120 true 3<|hB5
def hB6:Tr B:=bC 5038 [aI 3775,aN,aI 4096,aN,aI 4161,aN,aI 4096,aN,aJ 1040,aN,aI 4096,aN,aI 0,aN,aI 1,aN] 89 true 4<|hA6
def mm6:Mm:=⟨146,4,[aP 2129 0,.g [aI 0,aN,aI 1,aN,aI 1,aN,aI 4,aN,aO 2128 0 2 8],aI 12],hA6,Q 2269,⟨.nm,.t [aO 5038 0 2 8,.b true],.lf,hB6,Q 5039⟩⟩
end
theorem QLv:dj (go Proofs.Tryz.prog imp Proofs.YtogkbhegfnklhaaGreatDoor.Ew met 300 (.ca mm6.lv mm6.f mm6.args mm6.h mm6.n)) mm6.r=true:=by kernel_rfl
theorem QKJ:Mg Proofs.Tryz.prog mm6.lv mm6.f mm6.args mm6.h mm6.n mm6.r:=V8 jH Proofs.YtogkbhegfnklhaaGreatDoor.Yc Kz QLv
end Go.Ev
