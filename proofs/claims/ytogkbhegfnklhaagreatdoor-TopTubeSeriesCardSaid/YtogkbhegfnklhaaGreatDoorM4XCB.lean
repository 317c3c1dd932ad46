/- Steps of the proof of the theorem in the last file. -/
import Derived.Test.YtogkbhegfnklhaaGreatDoorM3XCB
set_option linter.all false
set_option maxHeartbeats 4000000
set_option maxRecDepth 1000000
namespace Go.Ev
noncomputable section
def QMZ:Tr B:=bX 2268<|bX 5038<|bX 7605<|bX 2267<|hB9
def QML:Tr B:=bC 7980 [aI 31,aN,aI 32,aN,aI 3971,aN,aI 4096,aN,aJ 1014,aN,aI 4096,aN,aJ 1012,aN,aI 4096,aN] 89 true 3<|bC 5038 [aI 3775,aN,aI 4096,aN,aI 4161,aN,aI 4096,aN,aJ 1040,aN,aI 4096,aN,aI 0,aN,aI 1,aN] 89 true 3<|QMZ
def Ci:Mm:=⟨71,3,[aP 2129 0,.g [aI 0,aN,aI 1,aN,aI 1,aN,aI 4,aN,aO 2128 0 2 8],aI 2,aI 12],QMZ,Q 2267,⟨.nm,.t [.g [aO 5038 0 2 8,aO 7980 0 2 8],.b true],.lf,QML,Q 7981⟩⟩
end
noncomputable section
def QFh:kg:=GM mm6 (GM mm9 (Proofs.YtogkbhegfnklhaaGreatDoor.Ew))
end
theorem QDs:UK Proofs.Tryz.prog QFh:=Ym (Ym (Proofs.YtogkbhegfnklhaaGreatDoor.Yc) QKG) QKJ
theorem QKc:dj (go Proofs.Tryz.prog imp QFh met 300 (.ca Ci.lv Ci.f Ci.args Ci.h Ci.n)) Ci.r=true:=by kernel_rfl
theorem QIM:Mg Proofs.Tryz.prog Ci.lv Ci.f Ci.args Ci.h Ci.n Ci.r:=V8 jH QDs Kz QKc
end Go.Ev
