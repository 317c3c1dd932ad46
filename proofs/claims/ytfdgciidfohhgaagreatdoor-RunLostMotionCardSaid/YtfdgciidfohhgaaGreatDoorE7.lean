/-
  An evaluator of programs on given arguments, and that it is right.
-/
import Derived.Test.YtfdgciidfohhgaaGreatDoorE6
set_option linter.all false



set_option maxRecDepth 1000000
namespace Go.Ev
noncomputable section
def hA5 : Tr B := bC 5296 [aI 1,aI 2] 3 false 2 <| bC 5300 [aI 0,aI 0] 3 false 2 <| bC 5298 [aI 10,aI 100,aI 100] 3 false 2 <| bC 5294 [aI 1,.s [45,49],aI 0,.s [49]] 72 false 2 <| bC 5293 [aI 2,.s [49],aI 0,.s [49]] 72 false 2 <| bC 5299 [aI 0,aI 0,aI 0,aI 0,aI 0,aI 0,aI 0,aI 0,aI 0] 77 false 2 <| bC 5291 [aI 0,aL 5270 0 3 3,aL 5271 0 3 3,aL 5282 0 2 2,aL 5273 0 2 2,aO 5280 0 2 1] 44 false 2 <| bC 5295 [.s [105,110,116,101,103,114,97,116,111,114],aL 5293 0 2 2,aI 1,.s [49],aN,.s [105,110,116,101,103,114,97,116,111,114],aL 5294 0 2 2,aI 2,.s [48],aN] 75 false 2 <| hB4
def hB5 : Tr B := bC 7736 [] 3 false 2 <| bC 7732 [aI 2,aI 99,aJ 19] 3 false 2 <| bC 7734 [aI 2,aI 2] 3 false 2 <| bC 7741 [aL 7736 0 0 0,aL 7739 0 0 0] 22 true 2 <| bC 7731 [aI 2,aI 99,aJ 19] 3 false 2 <| bC 7739 [] 3 false 2 <| bC 7743 [.s [48],.s [49,47,49,48]] 55 false 2 <| hA5
def mm5 : Mm := ⟨11, 2, [.g [aI 3,aL 5295 0 2 2,aL 5296 0 2 2,aL 5298 0 3 3,aI 1,aI 1000,aL 5299 0 3 3,aL 5300 0 2 2],.g [aI 0,aL 5270 0 3 3,aL 5271 0 3 3,aL 5282 0 2 2,aL 5273 0 2 2,aO 5280 0 2 1],aI 2], hA5, Q 5301, ⟨.nm, .t [.g [aI 2,aL 7731 0 3 3,aL 7732 0 3 3,aL 7743 0 2 2,aL 7734 0 2 2,aO 7741 0 2 1],aI 2,aI 0], .lf, hB5, Q 7753⟩⟩
end
theorem mm5_t : isR (go Proofs.Tryz.prog imp ora0 300 (.ca mm5.lv mm5.f mm5.args mm5.h mm5.n)) mm5.r = true := by kernel_rfl
theorem mm5_ca : CaS Proofs.Tryz.prog mm5.lv mm5.f mm5.args mm5.h mm5.n mm5.r := memo_ca stB ora0_ok mm5_t
end Go.Ev
