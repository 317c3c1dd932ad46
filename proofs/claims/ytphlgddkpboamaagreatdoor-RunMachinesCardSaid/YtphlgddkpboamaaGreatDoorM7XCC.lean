/- Steps of the proof of the theorem in the last file. -/
import Derived.Test.YtphlgddkpboamaaGreatDoorM6XCC
set_option linter.all false
set_option maxHeartbeats 4000000
set_option maxRecDepth 1000000
namespace Go.Ev
noncomputable section
def hA7:Tr B:=bC 6844 [aI 2,aL 130 0 1 1,aL 131 0 1 1,aL 133 0 2 2,aI 1,aI 1000,aL 134 0 2 2,aL 135 0 1 1] 28 false 3<|bC 6842 [aI 0,aL 6821 0 3 3,aL 6822 0 3 3,aL 6833 0 2 2,aL 6824 0 2 2,aO 6831 0 2 1] 32 false 2<|bC 6846 [aI 2,aL 130 0 1 1,aL 131 0 1 1,aL 133 0 2 2,aI 1,aI 1000,aL 134 0 2 2,aL 135 0 1 1] 28 false 4<|bC 6845 [.s [48],.s [49]] 63 false 3<|bC 6843 [.s [49],.s [51]] 63 false 2<|bC 6847 [.s [48],.s [49]] 63 false 4<|hB6
def hB7:Tr B:=bC 7248 [.s [49],aO 7246 0 2 1] 319 true 4<|bC 7236 [aI 1,aI 0] 3 true 4<|bC 7250 [aO 7238 0 1 2,aO 7248 0 1 2] 243 true 4<|bC 7238 [.s [49],aO 7236 0 2 1] 319 true 4<|bC 7246 [aI 0,aI 1] 3 true 4<|bC 7230 [.s [49],.s [49]] 63 true 4<|bC 7217 [.s [122,49]] 9 true 4<|bC 7225 [.s [49],aO 7223 0 2 1] 319 true 4<|bC 7227 [aO 7225 0 1 2] 243 true 4<|bC 7223 [aI 0,aI 1] 3 true 4<|hA7
def cQ:Mm:=⟨131,4,[.g [aI 2,aL 130 0 1 1,aL 131 0 1 1,aL 133 0 2 2,aI 1,aI 1000,aL 134 0 2 2,aL 135 0 1 1]],hA7,Q 6848,⟨.nm,.t [.g [aO 7217 0 1 1,aO 7227 0 1 1,aO 7230 0 1 2],aO 7250 0 2 1,aI 0],.lf,hB7,Q 7251⟩⟩
end
theorem QIp:yo (go Proofs.Tryz.prog imp Proofs.YtphlgddkpboamaaGreatDoor.RG met 300 (.ca cQ.lv cQ.f cQ.args cQ.h cQ.n)) cQ.r=true:=by kernel_rfl
theorem QGT:N2 Proofs.Tryz.prog cQ.lv cQ.f cQ.args cQ.h cQ.n cQ.r:=V8 ke Proofs.YtphlgddkpboamaaGreatDoor.VZ GP QIp
noncomputable section
def hA8:Tr B:=bC 7456 [.s [49],.s [51]] 63 false 4<|bC 7408 [.s [48],.s [49],.s [49],.s [51]] 63 true 4<|bC 7252 [aI 0] 36 false 4<|bC 7502 [aI 0,aN,aI 1,aN,aI 1,aN,aI 1,aN,aI 1,aN,aI 1,aN,aI 3,aN,aI 1,aN] 184 true 4<|bC 7406 [aI 0,aI 0,aI 0] 36 false 4<|bC 7454 [aI 0,aN,aI 1,aN,aI 1,aN,aI 1,aN] 184 false 4<|bC 7409 [.s [48],.s [49]] 63 false 4<|bC 7501 [aI 1,aN,aI 1,aN,aI 3,aN,aI 1,aN] 184 false 4<|bC 7251 [aO 7217 0 1 1,aO 7227 0 1 1,aO 7230 0 1 2] 155 false 4<|bC 7407 [.s [48],.s [49]] 63 false 4<|hB7
def hB8:Tr B:=bC 8075 [.s [115,116,97,114,116,115],aI 1,aN,aI 100,aN,aI 0,aN,aI 1,aN,.s [114,101,115,116,115],aI 0,aN,aI 1,aN,aI 1,aN,aI 100,aN,.s [115,116,101,112,115],aI 0,aN,aI 1,aN,aI 3,aN,aI 5,aN,.s [99,111,117,110,116,115],aI 0,aN,aI 1,aN,aI 0,aN,aI 1,aN,.s [112,108,97,121,115],aI 0,aN,aI 1,aN,aI 0,aN,aI 1,aN,.s [115,108,105,112,115],aI 0,aN,aI 1,aN,aI 0,aN,aI 1,aN] 189 false 4<|hA8
def cP:Mm:=⟨134,4,[.g [aI 2,aL 130 0 1 1,aL 131 0 1 1,aL 133 0 2 2,aI 1,aI 1000,aL 134 0 2 2,aL 135 0 1 1],.g [aO 7217 0 1 1,aO 7227 0 1 1,aO 7230 0 1 2],aO 7250 0 2 1,aO 7502 0 2 8],hA8,Q 7503,⟨.nm,.t [aL 8075 0 6 6,.g [aI 1,aN,aI 1,aN],.g [aI 1,aN,aI 10,aN]],.lf,hB8,Q 8076⟩⟩
end
theorem QIo:yo (go Proofs.Tryz.prog imp Proofs.YtphlgddkpboamaaGreatDoor.RG met 300 (.ca cP.lv cP.f cP.args cP.h cP.n)) cP.r=true:=by kernel_rfl
theorem QGS:N2 Proofs.Tryz.prog cP.lv cP.f cP.args cP.h cP.n cP.r:=V8 ke Proofs.YtphlgddkpboamaaGreatDoor.VZ GP QIo
noncomputable section
def hA9:Tr B:=bC 8076 [aI 1,aN,aI 1,aN] 116 false 4<|bC 8078 [.s [115,116,97,114,116,115],aI 1,aN,aI 100,aN,aI 0,aN,aI 1,aN] 189 false 4<|bC 8077 [aI 1,aN,aI 10,aN] 116 false 4<|hB8
def hB9:Tr B:=hA9
def cO:Mm:=⟨135,4,[.g [.s [115,116,97,114,116,115],aI 1,aN,aI 100,aN,aI 0,aN,aI 1,aN],.g [aI 1,aN,aI 1,aN],.g [aI 1,aN,aI 10,aN],aI 1,aI 10],hA9,Q 8079,⟨.nm,.t [.g [aI 13,aN,aI 1024,aN],.b false],.lf,hB9,Q 8381⟩⟩
end
theorem QIn:yo (go Proofs.Tryz.prog imp Proofs.YtphlgddkpboamaaGreatDoor.RG met 300 (.ca cO.lv cO.f cO.args cO.h cO.n)) cO.r=true:=by kernel_rfl
theorem QGR:N2 Proofs.Tryz.prog cO.lv cO.f cO.args cO.h cO.n cO.r:=V8 ke Proofs.YtphlgddkpboamaaGreatDoor.VZ GP QIn
end Go.Ev
