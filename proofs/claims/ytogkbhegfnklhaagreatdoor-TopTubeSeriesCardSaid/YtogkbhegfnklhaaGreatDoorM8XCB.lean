/- Steps of the proof of the theorem in the last file. -/
import Derived.Test.YtogkbhegfnklhaaGreatDoorM7XCB
set_option linter.all false
set_option maxHeartbeats 4000000
set_option maxRecDepth 1000000
namespace Go.Ev
noncomputable section
def QMR:Tr B:=bX 14402<|bX 14050<|bX 14497<|bX 14641<|bX 15373<|bX 14477<|bX 14429<|bX 14403<|bX 14051<|bX 14643<|bX 15371<|bX 14447<|bX 14495<|bX 14303<|QME
def QMD:Tr B:=bC 15466 [.s [49],.s [49],.s [48],.s [48],.s [45,49,47,50],.s [45,49,47,50]] 41 true 2<|bC 15557 [.s [48],.s [48],.s [45,49],.s [45,49],.s [48],.s [48]] 41 true 2<|bC 15559 [aO 15466 0 3 2,aO 15557 0 3 2] 24 true 2<|QMR
def Ca:Mm:=⟨10,2,[.g [aL 14034 0 2 2,aL 14039 0 2 2,aL 14040 0 2 2],.g [.s [48],.s [48]],aL 14049 0 2 2,aI 2],QMR,Q 14050,⟨.nm,.t [aO 15559 0 2 1,aI 0],.lf,QMD,Q 15560⟩⟩
end
noncomputable section
def QFd:kg:=GM Cb (Proofs.YtogkbhegfnklhaaGreatDoor.Ew)
end
theorem QDo:UK Proofs.Tryz.prog QFd:=Ym (Proofs.YtogkbhegfnklhaaGreatDoor.Yc) QIF
theorem QKU:dj (go Proofs.Tryz.prog imp QFd met 300 (.ca Ca.lv Ca.f Ca.args Ca.h Ca.n)) Ca.r=true:=by kernel_rfl
theorem QIE:Mg Proofs.Tryz.prog Ca.lv Ca.f Ca.args Ca.h Ca.n Ca.r:=V8 jH QDo Kz QKU
end Go.Ev
