/- Steps of the proof of the theorem in the last file. -/
import Derived.Test.YtphlgddkpboamaaGreatDoorM0XCC
set_option linter.all false
set_option maxHeartbeats 4000000
set_option maxRecDepth 1000000
namespace Go.Ev
noncomputable def bX (n:Nat) (h:Tr B):Tr B:=h.put none (Q n)
noncomputable section
def hA1:Tr B:=bC 136 [aI 2,aL 130 0 1 1,aL 131 0 1 1,aL 133 0 2 2,aI 1,aI 1000,aL 134 0 2 2,aL 135 0 1 1] 28 false 2<|bC 130 [.s [105,110,116,101,103,114,97,116,111,114],aL 129 0 2 2,aI 1,.s [49],aN] 80 false 2<|bC 134 [aI 0,aI 0,aI 0,aI 0,aI 0,aI 0] 76 false 2<|bC 129 [aI 1,.s [49],aI 0,.s [49]] 89 false 2<|bC 133 [aI 10,aI 100] 3 false 2<|bR 7 [aU 1,aU 10,aU 100,aU 1000,aU 10000,aU 100000,aU 1000000,aU 10000000,aU 100000000,aU 1000000000,aU 10000000000,aU 100000000000,aU 1000000000000,aU 10000000000000,aU 100000000000000,aU 1000000000000000,aU 10000000000000000,aU 100000000000000000,aU 1000000000000000000,aU 10000000000000000000] 0 0<|bC 131 [aI 1] 3 false 2<|bC 135 [aI 0] 3 false 2<|.lf
def hB1:Tr B:=bC 784 [.s [48]] 48 false 2<|bC 776 [aI 0,aI 100] 3 false 2<|bC 780 [] 3 false 2<|bC 778 [aI 0] 3 false 2<|bC 782 [aL 780 0 0 0] 23 true 2<|bC 775 [aI 0,aI 100] 3 false 2<|hA1
def cW:Mm:=⟨19,2,[.g [aI 2,aL 130 0 1 1,aL 131 0 1 1,aL 133 0 2 2,aI 1,aI 1000,aL 134 0 2 2,aL 135 0 1 1]],hA1,Q 137,⟨.nm,.t [.g [aI 0,aL 775 0 2 2,aL 776 0 2 2,aL 784 0 1 1,aL 778 0 1 1,aO 782 0 1 1],aI 0],.lf,hB1,Q 789⟩⟩
end
theorem QIv:yo (go Proofs.Tryz.prog imp Proofs.YtphlgddkpboamaaGreatDoor.RG met 300 (.ca cW.lv cW.f cW.args cW.h cW.n)) cW.r=true:=by kernel_rfl
theorem QGZ:N2 Proofs.Tryz.prog cW.lv cW.f cW.args cW.h cW.n cW.r:=V8 ke Proofs.YtphlgddkpboamaaGreatDoor.VZ GP QIv
end Go.Ev
