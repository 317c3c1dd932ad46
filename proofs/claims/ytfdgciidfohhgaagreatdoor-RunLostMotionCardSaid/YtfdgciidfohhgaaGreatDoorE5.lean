/-
  An evaluator of programs on given arguments, and that it is right.
-/
import Derived.Test.YtfdgciidfohhgaaGreatDoorE4
set_option linter.all false



set_option maxRecDepth 1000000
namespace Go.Ev
noncomputable def bX (n : Nat) (h : Tr B) : Tr B := h.put none (Q n)
noncomputable section
def hA1 : Tr B := bC 136 [aI 2,aL 130 0 1 1,aL 131 0 1 1,aL 133 0 2 2,aI 1,aI 1000,aL 134 0 2 2,aL 135 0 1 1] 39 false 2 <| bC 130 [.s [105,110,116,101,103,114,97,116,111,114],aL 129 0 2 2,aI 1,.s [49],aN] 75 false 2 <| bC 134 [aI 0,aI 0,aI 0,aI 0,aI 0,aI 0] 77 false 2 <| bC 129 [aI 1,.s [49],aI 0,.s [49]] 72 false 2 <| bC 133 [aI 10,aI 100] 3 false 2 <| bR 7 [aU 1,aU 10,aU 100,aU 1000,aU 10000,aU 100000,aU 1000000,aU 10000000,aU 100000000,aU 1000000000,aU 10000000000,aU 100000000000,aU 1000000000000,aU 10000000000000,aU 100000000000000,aU 1000000000000000,aU 10000000000000000,aU 100000000000000000,aU 1000000000000000000,aU 10000000000000000000] 0 0 <| bC 131 [aI 1] 3 false 2 <| bC 135 [aI 0] 3 false 2 <| .lf
def hB1 : Tr B := bC 988 [aI 0,aI 100] 3 false 2 <| bC 993 [] 3 false 2 <| bC 997 [.s [48]] 55 false 2 <| bC 989 [aI 0,aI 100] 3 false 2 <| bC 995 [aL 993 0 0 0] 22 true 2 <| bC 991 [aI 0] 3 false 2 <| hA1
def mm1 : Mm := ⟨10, 2, [.g [aI 2,aL 130 0 1 1,aL 131 0 1 1,aL 133 0 2 2,aI 1,aI 1000,aL 134 0 2 2,aL 135 0 1 1]], hA1, Q 137, ⟨.nm, .t [.g [aI 0,aL 988 0 2 2,aL 989 0 2 2,aL 997 0 1 1,aL 991 0 1 1,aO 995 0 1 1],aI 0], .lf, hB1, Q 1002⟩⟩
end
theorem mm1_t : isR (go Proofs.Tryz.prog imp ora0 300 (.ca mm1.lv mm1.f mm1.args mm1.h mm1.n)) mm1.r = true := by kernel_rfl
theorem mm1_ca : CaS Proofs.Tryz.prog mm1.lv mm1.f mm1.args mm1.h mm1.n mm1.r := memo_ca stB ora0_ok mm1_t

noncomputable section
def hA2 : Tr B := bC 1002 [aI 0,aL 988 0 2 2,aL 989 0 2 2,aL 997 0 1 1,aL 991 0 1 1,aO 995 0 1 1] 44 false 2 <| hB1
def hB2 : Tr B := bC 2544 [aI 3] 3 false 2 <| bC 2548 [aL 2546 0 0 0] 22 true 2 <| bC 2546 [] 3 false 2 <| bC 2550 [.s [49,47,49,48]] 55 false 2 <| bC 2542 [aI 3,aI 133] 3 false 2 <| bC 2541 [aI 3,aI 133] 3 false 2 <| hA2
def mm2 : Mm := ⟨11, 2, [.g [aI 2,aL 130 0 1 1,aL 131 0 1 1,aL 133 0 2 2,aI 1,aI 1000,aL 134 0 2 2,aL 135 0 1 1],.g [aI 0,aL 988 0 2 2,aL 989 0 2 2,aL 997 0 1 1,aL 991 0 1 1,aO 995 0 1 1],aI 3], hA2, Q 1003, ⟨.nm, .t [.g [aI 3,aL 2541 0 2 2,aL 2542 0 2 2,aL 2550 0 1 1,aL 2544 0 1 1,aO 2548 0 1 1],aI 3,aI 0], .lf, hB2, Q 2556⟩⟩
end
theorem mm2_t : isR (go Proofs.Tryz.prog imp ora0 300 (.ca mm2.lv mm2.f mm2.args mm2.h mm2.n)) mm2.r = true := by kernel_rfl
theorem mm2_ca : CaS Proofs.Tryz.prog mm2.lv mm2.f mm2.args mm2.h mm2.n mm2.r := memo_ca stB ora0_ok mm2_t

noncomputable section
def hA3 : Tr B := bC 2556 [aI 3,aL 2541 0 2 2,aL 2542 0 2 2,aL 2550 0 1 1,aL 2544 0 1 1,aO 2548 0 1 1] 44 false 2 <| hB2
def hB3 : Tr B := bC 3694 [.s [49,51,51,49,47,49,48,48,48]] 55 false 2 <| hA3
def mm3 : Mm := ⟨12, 2, [.g [aI 2,aL 130 0 1 1,aL 131 0 1 1,aL 133 0 2 2,aI 1,aI 1000,aL 134 0 2 2,aL 135 0 1 1],.g [aI 3,aL 2541 0 2 2,aL 2542 0 2 2,aL 2550 0 1 1,aL 2544 0 1 1,aO 2548 0 1 1]], hA3, Q 2557, ⟨.nm, .t [aL 3694 0 1 1,aI 0], .lf, hB3, Q 3702⟩⟩
end
theorem mm3_t : isR (go Proofs.Tryz.prog imp ora0 300 (.ca mm3.lv mm3.f mm3.args mm3.h mm3.n)) mm3.r = true := by kernel_rfl
theorem mm3_ca : CaS Proofs.Tryz.prog mm3.lv mm3.f mm3.args mm3.h mm3.n mm3.r := memo_ca stB ora0_ok mm3_t
end Go.Ev
