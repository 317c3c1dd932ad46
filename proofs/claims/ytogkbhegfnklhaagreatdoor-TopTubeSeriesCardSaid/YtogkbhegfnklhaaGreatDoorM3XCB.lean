/- Steps of the proof of the theorem in the last file. -/
import Derived.Test.YtogkbhegfnklhaaGreatDoorM2XCB
set_option linter.all false
set_option maxHeartbeats 4000000
set_option maxRecDepth 1000000
namespace Go.Ev
noncomputable section
def hA7:Tr B:=bC 5047 [aI 1,aN,aI 4,aN] 87 false 5<|bC 5039 [aI 0,aN,aI 1,aN,aI 1,aN,aI 4,aN,aO 2128 0 2 8] 133 false 5<|hB6
def hB7:Tr B:=bC 5781 [aI 0,aN,aI 1,aN,aI 0,aN,aI 1,aN,aJ 0,aN,aI 1,aN,aJ 0,aN,aI 1,aN,aI 0,aN,aI 1,aN,aI 0,aN,aI 1,aN] 89 true 5<|bC 5779 [aI 1,aN,aI 1,aN,aI 1,aN,aI 1,aN,aI 0,aN,aI 1,aN,aI 0,aN,aI 1,aN,aJ 0,aN,aI 2,aN,aJ 0,aN,aI 2,aN] 89 true 5<|bC 5051 [aO 5779 0 3 8,aO 5781 0 3 8] 94 false 5<|hA7
def mm7:Mm:=⟨41,5,[aP 2129 0,.g [aI 0,aN,aI 1,aN,aI 0,aN,aI 1,aN],aO 2128 0 2 8,aI 2],hA7,Q 5050,⟨.nm,aL 5051 0 2 2,.lf,hB7,Q 5782⟩⟩
end
theorem QLu:dj (go Proofs.Tryz.prog imp Proofs.YtogkbhegfnklhaaGreatDoor.Ew met 300 (.ca mm7.lv mm7.f mm7.args mm7.h mm7.n)) mm7.r=true:=by kernel_rfl
theorem QKI:Mg Proofs.Tryz.prog mm7.lv mm7.f mm7.args mm7.h mm7.n mm7.r:=V8 jH Proofs.YtogkbhegfnklhaaGreatDoor.Yc Kz QLu
noncomputable section
def hA8:Tr B:=hB7
def hB8:Tr B:=bC 7209 [aI 3775,aN,aI 4096,aN,aI 4161,aN,aI 4096,aN,aJ 1040,aN,aI 4096,aN,aI 0,aN,aI 1,aN,aJ 4160,aN,aI 8192,aN,aJ 3774,aN,aI 8192,aN,aI 0,aN,aI 1,aN,aI 347,aN,aI 8192,aN] 89 true 5<|bC 7211 [aJ 1040,aN,aI 4096,aN,aI 0,aN,aI 1,aN,aJ 4160,aN,aI 4096,aN,aJ 3774,aN,aI 4096,aN,aI 0,aN,aI 1,aN,aI 1041,aN,aI 8192,aN,aI 3775,aN,aI 24576,aN,aI 1387,aN,aI 8192,aN] 89 true 5<|bC 5783 [aO 7209 0 4 8,aO 7211 0 4 8] 94 false 5<|hA8
def mm8:Mm:=⟨41,5,[aP 2129 0,.g [aI 0,aN,aI 1,aN,aI 1,aN,aI 4,aN],aO 5038 0 2 8,aI 3],hA8,Q 5782,⟨.nm,aL 5783 0 2 2,.lf,hB8,Q 7212⟩⟩
end
theorem QLt:dj (go Proofs.Tryz.prog imp Proofs.YtogkbhegfnklhaaGreatDoor.Ew met 300 (.ca mm8.lv mm8.f mm8.args mm8.h mm8.n)) mm8.r=true:=by kernel_rfl
theorem QKH:Mg Proofs.Tryz.prog mm8.lv mm8.f mm8.args mm8.h mm8.n mm8.r:=V8 jH Proofs.YtogkbhegfnklhaaGreatDoor.Yc Kz QLt
noncomputable section
def hA9:Tr B:=bX 7209<|bX 5781<|bX 5779<|bX 7211<|bX 5051<|bX 5783<|bX 5047<|bX 5039<|hB8
def hB9:Tr B:=bC 7605 [aI 31,aN,aI 32,aN,aI 508251,aN,aI 524288,aN,aJ 389440,aN,aI 1572864,aN,aJ 129684,aN,aI 524288,aN] 89 true 4<|hA9
def mm9:Mm:=⟨148,4,[aP 2129 0,.g [aI 0,aN,aI 1,aN,aI 1,aN,aI 4,aN,aO 2128 0 2 8],aO 5038 0 2 8,aI 2],hA9,Q 5039,⟨.nm,aO 7605 0 2 8,.lf,hB9,Q 7606⟩⟩
end
noncomputable section
def QJI:kg:=GM mm7 (GM mm8 (Proofs.YtogkbhegfnklhaaGreatDoor.Ew))
end
theorem QFZ:UK Proofs.Tryz.prog QJI:=Ym (Ym (Proofs.YtogkbhegfnklhaaGreatDoor.Yc) QKH) QKI
theorem QLs:dj (go Proofs.Tryz.prog imp QJI met 300 (.ca mm9.lv mm9.f mm9.args mm9.h mm9.n)) mm9.r=true:=by kernel_rfl
theorem QKG:Mg Proofs.Tryz.prog mm9.lv mm9.f mm9.args mm9.h mm9.n mm9.r:=V8 jH QFZ Kz QLs
end Go.Ev
