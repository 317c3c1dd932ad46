/-
  An evaluator of programs on given arguments, and that it is right.
-/
import Derived.Test.YtfdgciidfohhgaaGreatDoorE5
set_option linter.all false



set_option maxRecDepth 1000000
namespace Go.Ev
noncomputable section
def hA4 : Tr B := bC 3720 [aI 10,aI 100,aI 100] 3 false 2 <| bC 3716 [aI 1,.s [45,49],aI 0,.s [49]] 72 false 2 <| bC 3722 [aI 0,aI 0] 3 false 2 <| bC 3718 [aI 1,aI 2] 3 false 2 <| bC 3702 [aI 2,aI 5,aI 4,aI 1,aI 6] 3 false 2 <| bC 3713 [aI 0,aI 2,aI 2,aI 1,aI 3] 3 true 2 <| bC 3721 [aI 0,aI 0,aI 0,aI 0,aI 0,aI 0,aI 0,aI 0,aI 0] 77 false 2 <| bC 3717 [.s [105,110,116,101,103,114,97,116,111,114],aL 3715 0 2 2,aI 1,.s [49],aN,.s [105,110,116,101,103,114,97,116,111,114],aL 3716 0 2 2,aI 2,.s [48],aN] 75 false 2 <| bC 3715 [aI 2,.s [49],aI 0,.s [49]] 72 false 2 <| hB3
def hB4 : Tr B := bC 5280 [aL 5275 0 0 0,aL 5278 0 0 0] 22 true 2 <| bC 5282 [.s [48],.s [48]] 55 false 2 <| bC 5270 [aI 0,aI 100,aI 0] 3 false 2 <| bC 5278 [] 3 false 2 <| bC 5273 [aI 0,aI 0] 3 false 2 <| bC 5275 [] 3 false 2 <| bC 5271 [aI 0,aI 100,aI 0] 3 false 2 <| hA4
def mm4 : Mm := ⟨10, 2, [.g [aI 3,aL 3717 0 2 2,aL 3718 0 2 2,aL 3720 0 3 3,aI 1,aI 1000,aL 3721 0 3 3,aL 3722 0 2 2]], hA4, Q 3723, ⟨.nm, .t [.g [aI 0,aL 5270 0 3 3,aL 5271 0 3 3,aL 5282 0 2 2,aL 5273 0 2 2,aO 5280 0 2 1],aI 0], .lf, hB4, Q 5291⟩⟩
end
theorem mm4_t : isR (go Proofs.Tryz.prog imp ora0 300 (.ca mm4.lv mm4.f mm4.args mm4.h mm4.n)) mm4.r = true := by kernel_rfl
theorem mm4_ca : CaS Proofs.Tryz.prog mm4.lv mm4.f mm4.args mm4.h mm4.n mm4.r := memo_ca stB ora0_ok mm4_t
end Go.Ev
