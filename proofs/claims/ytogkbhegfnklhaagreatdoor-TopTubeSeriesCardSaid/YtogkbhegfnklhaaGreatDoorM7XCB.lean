/- Steps of the proof of the theorem in the last file. -/
import Derived.Test.YtogkbhegfnklhaaGreatDoorM6XCB
set_option linter.all false
set_option maxHeartbeats 4000000
set_option maxRecDepth 1000000
namespace Go.Ev
noncomputable section
def QMU:Tr B:=bX 13360<|bX 8022<|bX 10793<|bX 8021<|QMH
def QMG:Tr B:=bC 10793 [aI 3403,aN,aI 4096,aN,aI 3971,aN,aI 4096,aN,aJ 254,aN,aI 512,aN,aJ 1012,aN,aI 4096,aN] 89 true 3<|bC 13735 [aI 449,aN,aI 512,aN,aI 225,aN,aI 256,aN,aJ 122,aN,aI 256,aN,aJ 980,aN,aI 2048,aN] 89 true 3<|QMU
def Cd:Mm:=⟨71,3,[aP 2129 0,.g [aI 1,aN,aI 4,aN,aI 1,aN,aI 2,aN,aO 7980 0 2 8],aI 2,aI 12],QMU,Q 8021,⟨.nm,.t [.g [aO 10793 0 2 8,aO 13735 0 2 8],.b true],.lf,QMG,Q 13736⟩⟩
end
noncomputable section
def QFf:kg:=GM Ch (GM Ce (Proofs.YtogkbhegfnklhaaGreatDoor.Ew))
end
theorem QDq:UK Proofs.Tryz.prog QFf:=Ym (Ym (Proofs.YtogkbhegfnklhaaGreatDoor.Yc) QII) QIL
theorem QKX:dj (go Proofs.Tryz.prog imp QFf met 300 (.ca Cd.lv Cd.f Cd.args Cd.h Cd.n)) Cd.r=true:=by kernel_rfl
theorem QIH:Mg Proofs.Tryz.prog Cd.lv Cd.f Cd.args Cd.h Cd.n Cd.r:=V8 jH QDq Kz QKX
noncomputable section
def QMT:Tr B:=bX 2128<|bX 7980<|bX 1644<|bX 7982<|bX 5038<|bX 2129<|bX 10793<|bX 2229<|bX 7981<|bX 2221<|bX 2029<|bX 2173<|bX 2155<|bX 2203<|bX 13735<|bX 7983<|bX 2223<|QMG
def QMF:Tr B:=bC 14032 [.s [49,47,52],aO 13809 0 2 2,aO 13879 0 2 2,.s [49,47,50],aO 13957 0 2 2,aO 14029 0 2 2] 141 true 2<|bC 13809 [.s [51,55,55,53,47,52,48,57,54],.s [52,49,54,49,47,52,48,57,54],.s [45,49,48,52,49,47,52,48,57,54],.s [48]] 41 true 2<|bC 13957 [.s [51,52,48,51,47,52,48,57,54],.s [51,57,55,49,47,52,48,57,54],.s [45,50,53,53,47,53,49,50],.s [45,49,48,49,51,47,52,48,57,54]] 41 true 2<|bC 14029 [.s [52,52,57,47,53,49,50],.s [50,50,53,47,50,53,54],.s [45,49,50,51,47,50,53,54],.s [45,57,56,49,47,50,48,52,56]] 41 true 2<|bC 13879 [.s [51,49,47,51,50],.s [51,57,55,49,47,52,48,57,54],.s [45,49,48,49,53,47,52,48,57,54],.s [45,49,48,49,51,47,52,48,57,54]] 41 true 2<|QMT
def Cc:Mm:=⟨28,2,[.g [aL 1636 0 2 2,aL 1641 0 2 2,aL 1642 0 2 2],aL 1643 0 2 2,aI 2,aI 12],QMT,Q 1644,⟨.nm,.t [aO 14032 0 2 3,aI 0],.lf,QMF,Q 14033⟩⟩
end
noncomputable section
def QFe:kg:=GM Ci (GM Cd (Proofs.YtogkbhegfnklhaaGreatDoor.Ew))
end
theorem QDp:UK Proofs.Tryz.prog QFe:=Ym (Ym (Proofs.YtogkbhegfnklhaaGreatDoor.Yc) QIH) QIM
theorem QKW:dj (go Proofs.Tryz.prog imp QFe met 300 (.ca Cc.lv Cc.f Cc.args Cc.h Cc.n)) Cc.r=true:=by kernel_rfl
theorem QIG:Mg Proofs.Tryz.prog Cc.lv Cc.f Cc.args Cc.h Cc.n Cc.r:=V8 jH QDp Kz QKW
noncomputable section
def QMS:Tr B:=bC 14048 [aL 14045 0 1 1,aL 14047 0 1 1] 54 false 2<|bC 14040 [.s [49],.s [49],.s [48],.s [48]] 41 false 2<|bC 14036 [.s [49],aL 14035 0 3 3] 110 false 2<|bC 14044 [aI 0,aI 0,aI 1] 3 false 2<|bC 14402 [aI 1,aN,aI 1,aN,aI 1,aN,aI 1,aN,aI 0,aN,aI 1,aN,aI 0,aN,aI 1,aN] 89 true 3<|bC 14050 [aL 14034 0 2 2,aL 14039 0 2 2,aL 14040 0 2 2] 26 false 3<|bC 14034 [.s [120],.s [118]] 9 false 2<|bC 14038 [.s [45,49],aL 14037 0 3 3] 110 false 2<|bC 14046 [aI 0,aI 1,aI 0] 3 false 2<|bC 14497 [aO 14447 0 1 5,aO 14495 0 1 5] 120 true 3<|bC 14049 [.s [49],.s [49],.s [48],.s [48]] 41 false 2<|bC 14641 [aI 1,aN,aI 1,aN,aI 1,aN,aI 1,aN,aI 0,aN,aI 1,aN,aI 0,aN,aI 1,aN] 89 true 3<|bC 14037 [aI 0,aI 1,aI 0] 3 false 2<|bC 14477 [aI 0,aI 1,aI 0] 3 true 3<|bC 14429 [aI 0,aI 0,aI 1] 3 true 3<|bC 14045 [.s [49],aL 14044 0 3 3] 110 false 2<|bC 14403 [aO 14497 0 2 1,aO 14402 0 2 8] 131 false 3<|bC 14051 [.s [48],.s [48]] 41 false 3<|bC 14035 [aI 0,aI 0,aI 1] 3 false 2<|bC 14043 [.s [120],.s [118]] 9 false 2<|bC 14039 [aL 14036 0 1 1,aL 14038 0 1 1] 54 false 2<|bC 14447 [aI 1,aN,aI 1,aN,aO 14429 0 3 1] 186 true 3<|bC 14495 [aJ 0,aN,aI 1,aN,aO 14477 0 3 1] 186 true 3<|bC 14047 [.s [45,49],aL 14046 0 3 3] 110 false 2<|bC 14303 [aI 0,aI 0,aI 0,aI 0] 34 false 3<|QMF
def QME:Tr B:=bC 15373 [aI 0,aN,aI 1,aN,aI 0,aN,aI 1,aN,aJ 0,aN,aI 1,aN,aJ 0,aN,aI 1,aN,aI 0,aN,aI 1,aN,aI 0,aN,aI 1,aN] 89 true 3<|bC 14643 [aO 15371 0 3 8,aO 15373 0 3 8] 94 false 3<|bC 15371 [aI 1,aN,aI 1,aN,aI 1,aN,aI 1,aN,aI 0,aN,aI 1,aN,aI 0,aN,aI 1,aN,aJ 0,aN,aI 2,aN,aJ 0,aN,aI 2,aN] 89 true 3<|QMS
def Cb:Mm:=⟨41,3,[aP 14403 0,.g [aI 0,aN,aI 1,aN,aI 0,aN,aI 1,aN],aO 14641 0 2 8,aI 2],QMS,Q 14642,⟨.nm,aL 14643 0 2 2,.lf,QME,Q 15374⟩⟩
end
theorem QKV:dj (go Proofs.Tryz.prog imp Proofs.YtogkbhegfnklhaaGreatDoor.Ew met 300 (.ca Cb.lv Cb.f Cb.args Cb.h Cb.n)) Cb.r=true:=by kernel_rfl
theorem QIF:Mg Proofs.Tryz.prog Cb.lv Cb.f Cb.args Cb.h Cb.n Cb.r:=V8 jH Proofs.YtogkbhegfnklhaaGreatDoor.Yc Kz QKV
end Go.Ev
