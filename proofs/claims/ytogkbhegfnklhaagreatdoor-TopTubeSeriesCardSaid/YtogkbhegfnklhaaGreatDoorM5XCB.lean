/- Steps of the proof of the theorem in the last file. -/
import Derived.Test.YtogkbhegfnklhaaGreatDoorM4XCB
set_option linter.all false
set_option maxHeartbeats 4000000
set_option maxRecDepth 1000000
namespace Go.Ev
noncomputable section
def QMY:Tr B:=bC 8022 [aN,aN] 137 false 4<|bC 7982 [aO 5038 0 2 8,aO 7980 0 2 8] 137 false 3<|bC 8021 [aI 1,aN,aI 4,aN,aI 1,aN,aI 2,aN,aO 7980 0 2 8] 133 false 4<|bC 2229 [aI 1,aN,aI 4,aN,aI 1,aN,aI 2,aN,aO 7980 0 2 8] 133 false 3<|bC 7981 [aO 5038 0 2 8,aO 7980 0 2 8] 137 false 3<|bC 7983 [aO 5038 0 2 8,aO 7980 0 2 8] 137 true 3<|QML
def QMK:Tr B:=bC 10793 [aI 3403,aN,aI 4096,aN,aI 3971,aN,aI 4096,aN,aJ 254,aN,aI 512,aN,aJ 1012,aN,aI 4096,aN] 89 true 4<|QMY
def Ch:Mm:=⟨146,4,[aP 2129 0,.g [aI 1,aN,aI 4,aN,aI 1,aN,aI 2,aN,aO 7980 0 2 8],aI 12],QMY,Q 8023,⟨.nm,.t [aO 10793 0 2 8,.b true],.lf,QMK,Q 10794⟩⟩
end
theorem QKb:dj (go Proofs.Tryz.prog imp Proofs.YtogkbhegfnklhaaGreatDoor.Ew met 300 (.ca Ch.lv Ch.f Ch.args Ch.h Ch.n)) Ch.r=true:=by kernel_rfl
theorem QIL:Mg Proofs.Tryz.prog Ch.lv Ch.f Ch.args Ch.h Ch.n Ch.r:=V8 jH Proofs.YtogkbhegfnklhaaGreatDoor.Yc Kz QKb
end Go.Ev
