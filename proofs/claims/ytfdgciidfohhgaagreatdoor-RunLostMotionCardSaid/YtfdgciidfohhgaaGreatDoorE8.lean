/-
  An evaluator of programs on given arguments, and that it is right.
-/
import Derived.Test.YtfdgciidfohhgaaGreatDoorE7
set_option linter.all false



set_option maxRecDepth 1000000
namespace Go.Ev
noncomputable section
def hA6 : Tr B := bC 7760 [aI 10,aI 100,aI 100] 3 false 2 <| bC 7756 [aI 1,.s [45,49],aI 0,.s [49]] 72 false 2 <| bC 7762 [aI 0,aI 0] 3 false 2 <| bC 7758 [aI 1,aI 2] 3 false 2 <| bC 7761 [aI 0,aI 0,aI 0,aI 0,aI 0,aI 0,aI 0,aI 0,aI 0] 77 false 2 <| bC 7753 [aI 2,aL 7731 0 3 3,aL 7732 0 3 3,aL 7743 0 2 2,aL 7734 0 2 2,aO 7741 0 2 1] 44 false 2 <| bC 7757 [.s [105,110,116,101,103,114,97,116,111,114],aL 7755 0 2 2,aI 1,.s [49],aN,.s [105,110,116,101,103,114,97,116,111,114],aL 7756 0 2 2,aI 2,.s [48],aN] 75 false 2 <| bC 7755 [aI 2,.s [49],aI 0,.s [49]] 72 false 2 <| hB5
def hB6 : Tr B := bC 10468 [aL 10463 0 0 0,aL 10466 0 0 0] 22 true 2 <| bC 10466 [] 3 false 2 <| bC 10458 [aI 0,aI 100,aI 0] 3 false 2 <| bC 10470 [.s [48],.s [48]] 55 false 2 <| bC 10461 [aI 0,aI 0] 3 false 2 <| bC 10459 [aI 0,aI 100,aI 0] 3 false 2 <| bC 10463 [] 3 false 2 <| hA6
def mm6 : Mm := ⟨14, 2, [.g [aI 3,aL 7757 0 2 2,aL 7758 0 2 2,aL 7760 0 3 3,aI 1,aI 1000,aL 7761 0 3 3,aL 7762 0 2 2],.g [aI 2,aL 7731 0 3 3,aL 7732 0 3 3,aL 7743 0 2 2,aL 7734 0 2 2,aO 7741 0 2 1],aI 2], hA6, Q 7763, ⟨.nm, .t [.g [aI 0,aL 10458 0 3 3,aL 10459 0 3 3,aL 10470 0 2 2,aL 10461 0 2 2,aO 10468 0 2 1],aI 2,aI 0], .lf, hB6, Q 10479⟩⟩
end
theorem mm6_t : isR (go Proofs.Tryz.prog imp ora0 300 (.ca mm6.lv mm6.f mm6.args mm6.h mm6.n)) mm6.r = true := by kernel_rfl
theorem mm6_ca : CaS Proofs.Tryz.prog mm6.lv mm6.f mm6.args mm6.h mm6.n mm6.r := memo_ca stB ora0_ok mm6_t

noncomputable section
def hA7 : Tr B := bC 10480 [.s [49],.s [51]] 57 false 2 <| bC 10484 [.s [48],.s [49]] 57 false 4 <| bC 10482 [.s [48],.s [49]] 57 false 3 <| bC 10481 [aI 2,aL 130 0 1 1,aL 131 0 1 1,aL 133 0 2 2,aI 1,aI 1000,aL 134 0 2 2,aL 135 0 1 1] 39 false 3 <| bC 10483 [aI 2,aL 130 0 1 1,aL 131 0 1 1,aL 133 0 2 2,aI 1,aI 1000,aL 134 0 2 2,aL 135 0 1 1] 39 false 4 <| bC 10479 [aI 0,aL 10458 0 3 3,aL 10459 0 3 3,aL 10470 0 2 2,aL 10461 0 2 2,aO 10468 0 2 1] 44 false 2 <| hB6
def hB7 : Tr B := bC 10912 [aI 0,aI 1] 3 true 4 <| bC 10916 [aO 10914 0 1 2] 218 true 4 <| bC 10914 [.s [49],aO 10912 0 2 1] 285 true 4 <| bC 10906 [.s [122,49]] 9 true 4 <| bC 10937 [.s [49],aO 10935 0 2 1] 285 true 4 <| bC 10925 [aI 1,aI 0] 3 true 4 <| bC 10939 [aO 10927 0 1 2,aO 10937 0 1 2] 218 true 4 <| bC 10919 [.s [49],.s [49]] 57 true 4 <| bC 10935 [aI 0,aI 1] 3 true 4 <| bC 10927 [.s [49],aO 10925 0 2 1] 285 true 4 <| hA7
def mm7 : Mm := ⟨88, 4, [.g [aI 2,aL 130 0 1 1,aL 131 0 1 1,aL 133 0 2 2,aI 1,aI 1000,aL 134 0 2 2,aL 135 0 1 1]], hA7, Q 10485, ⟨.nm, .t [.g [aO 10906 0 1 1,aO 10916 0 1 1,aO 10919 0 1 2],aO 10939 0 2 1,aI 0], .lf, hB7, Q 10940⟩⟩
end
theorem mm7_t : isR (go Proofs.Tryz.prog imp ora0 300 (.ca mm7.lv mm7.f mm7.args mm7.h mm7.n)) mm7.r = true := by kernel_rfl
theorem mm7_ca : CaS Proofs.Tryz.prog mm7.lv mm7.f mm7.args mm7.h mm7.n mm7.r := memo_ca stB ora0_ok mm7_t

noncomputable section
def hA8 : Tr B := bC 10940 [aO 10906 0 1 1,aO 10916 0 1 1,aO 10919 0 1 2] 152 false 4 <| bC 10941 [aI 0] 24 false 4 <| hB7
def hB8 : Tr B := hA8
def mm8 : Mm := ⟨90, 4, [.g [aO 10906 0 1 1,aO 10916 0 1 1,aO 10919 0 1 2],aL 10480 0 1 1], hA8, Q 10998, ⟨.nm, aI 0, .lf, hB8, Q 11125⟩⟩
end
theorem mm8_t : isR (go Proofs.Tryz.prog imp ora0 300 (.ca mm8.lv mm8.f mm8.args mm8.h mm8.n)) mm8.r = true := by kernel_rfl
theorem mm8_ca : CaS Proofs.Tryz.prog mm8.lv mm8.f mm8.args mm8.h mm8.n mm8.r := memo_ca stB ora0_ok mm8_t
end Go.Ev
