/- Steps of the proof of the theorem in the last file. -/
import Derived.Test.YtogkbhegfnklhaaGreatDoorM5XCB
set_option linter.all false
set_option maxHeartbeats 4000000
set_option maxRecDepth 1000000
namespace Go.Ev
noncomputable section
def QMX:Tr B:=bC 10802 [aI 1,aN,aI 4,aN] 87 false 5<|bC 10794 [aI 1,aN,aI 4,aN,aI 1,aN,aI 2,aN,aO 7980 0 2 8] 133 false 5<|QMK
def QMJ:Tr B:=bC 11536 [aJ 1014,aN,aI 4096,aN,aJ 1012,aN,aI 4096,aN,aJ 3970,aN,aI 4096,aN,aJ 30,aN,aI 32,aN,aI 1013,aN,aI 8192,aN,aI 1015,aN,aI 8192,aN] 89 true 5<|bC 10806 [aO 11534 0 3 8,aO 11536 0 3 8] 94 false 5<|bC 11534 [aI 31,aN,aI 32,aN,aI 3971,aN,aI 4096,aN,aJ 1014,aN,aI 4096,aN,aJ 1012,aN,aI 4096,aN,aJ 3970,aN,aI 8192,aN,aJ 30,aN,aI 64,aN] 89 true 5<|QMX
def Cg:Mm:=⟨41,5,[aP 2129 0,.g [aI 1,aN,aI 4,aN,aI 1,aN,aI 4,aN],aO 7980 0 2 8,aI 2],QMX,Q 10805,⟨.nm,aL 10806 0 2 2,.lf,QMJ,Q 11537⟩⟩
end
theorem QKa:dj (go Proofs.Tryz.prog imp Proofs.YtogkbhegfnklhaaGreatDoor.Ew met 300 (.ca Cg.lv Cg.f Cg.args Cg.h Cg.n)) Cg.r=true:=by kernel_rfl
theorem QIK:Mg Proofs.Tryz.prog Cg.lv Cg.f Cg.args Cg.h Cg.n Cg.r:=V8 jH Proofs.YtogkbhegfnklhaaGreatDoor.Yc Kz QKa
noncomputable section
def QMW:Tr B:=QMJ
def QMI:Tr B:=bC 12964 [aI 3403,aN,aI 4096,aN,aI 3971,aN,aI 4096,aN,aJ 254,aN,aI 512,aN,aJ 1012,aN,aI 4096,aN,aJ 3970,aN,aI 8192,aN,aJ 3402,aN,aI 8192,aN,aI 1013,aN,aI 24576,aN,aI 85,aN,aI 1024,aN] 89 true 5<|bC 11538 [aO 12964 0 4 8,aO 12966 0 4 8] 94 false 5<|bC 12966 [aJ 254,aN,aI 512,aN,aJ 1012,aN,aI 4096,aN,aJ 3970,aN,aI 4096,aN,aJ 3402,aN,aI 4096,aN,aI 1013,aN,aI 8192,aN,aI 255,aN,aI 1024,aN,aI 3403,aN,aI 24576,aN,aI 3971,aN,aI 24576,aN] 89 true 5<|QMW
def Cf:Mm:=⟨41,5,[aP 2129 0,.g [aI 1,aN,aI 4,aN,aI 1,aN,aI 2,aN],aO 10793 0 2 8,aI 3],QMW,Q 11537,⟨.nm,aL 11538 0 2 2,.lf,QMI,Q 12967⟩⟩
end
theorem QKZ:dj (go Proofs.Tryz.prog imp Proofs.YtogkbhegfnklhaaGreatDoor.Ew met 300 (.ca Cf.lv Cf.f Cf.args Cf.h Cf.n)) Cf.r=true:=by kernel_rfl
theorem QIJ:Mg Proofs.Tryz.prog Cf.lv Cf.f Cf.args Cf.h Cf.n Cf.r:=V8 jH Proofs.YtogkbhegfnklhaaGreatDoor.Yc Kz QKZ
noncomputable section
def QMV:Tr B:=bX 11536<|bX 12964<|bX 11538<|bX 10802<|bX 10794<|bX 12966<|bX 10806<|bX 11534<|QMI
def QMH:Tr B:=bC 13360 [aI 1379633,aN,aI 1572864,aN,aI 57585,aN,aI 65536,aN,aJ 755416,aN,aI 1572864,aN,aJ 753768,aN,aI 1572864,aN] 89 true 4<|QMV
def Ce:Mm:=⟨148,4,[aP 2129 0,.g [aI 1,aN,aI 4,aN,aI 1,aN,aI 2,aN,aO 7980 0 2 8],aO 10793 0 2 8,aI 2],QMV,Q 10794,⟨.nm,aO 13360 0 2 8,.lf,QMH,Q 13361⟩⟩
end
noncomputable section
def QFg:kg:=GM Cg (GM Cf (Proofs.YtogkbhegfnklhaaGreatDoor.Ew))
end
theorem QDr:UK Proofs.Tryz.prog QFg:=Ym (Ym (Proofs.YtogkbhegfnklhaaGreatDoor.Yc) QIJ) QIK
theorem QKY:dj (go Proofs.Tryz.prog imp QFg met 300 (.ca Ce.lv Ce.f Ce.args Ce.h Ce.n)) Ce.r=true:=by kernel_rfl
theorem QII:Mg Proofs.Tryz.prog Ce.lv Ce.f Ce.args Ce.h Ce.n Ce.r:=V8 jH QDr Kz QKY
end Go.Ev
