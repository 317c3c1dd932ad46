/-
  An evaluator of programs on given arguments, and that it is right.
-/
import Derived.Test.YtfdgciidfohhgaaGreatDoorE8
set_option linter.all false



set_option maxRecDepth 1000000
namespace Go.Ev
noncomputable section
def hA9 : Tr B := bC 11128 [.s [48],.s [49]] 57 false 4 <| bC 11220 [aI 1,aN,aI 1,aN,aI 3,aN,aI 1,aN] 159 false 4 <| bC 11126 [.s [48],.s [49]] 57 false 4 <| bC 11173 [aI 0,aN,aI 1,aN,aI 1,aN,aI 1,aN] 159 false 4 <| bC 11221 [aI 0,aN,aI 1,aN,aI 1,aN,aI 1,aN,aI 1,aN,aI 1,aN,aI 3,aN,aI 1,aN] 159 true 4 <| bC 11125 [aI 0,aI 0,aI 0] 24 false 4 <| bC 11175 [.s [49],.s [51]] 57 false 4 <| bC 11127 [.s [48],.s [49],.s [49],.s [51]] 57 true 4 <| hB8
def hB9 : Tr B := bC 12641 [.s [115,116,97,114,116,115],aI 1,aN,aI 100,aN,aI 0,aN,aI 1,aN,.s [114,101,115,116,115],aI 0,aN,aI 1,aN,aI 1,aN,aI 100,aN,.s [115,116,101,112,115],aI 0,aN,aI 1,aN,aI 3,aN,aI 5,aN,.s [99,111,117,110,116,115],aI 0,aN,aI 1,aN,aI 0,aN,aI 1,aN,.s [112,108,97,121,115],aI 0,aN,aI 1,aN,aI 0,aN,aI 1,aN,.s [115,108,105,112,115],aI 0,aN,aI 1,aN,aI 0,aN,aI 1,aN] 164 false 4 <| hA9
def mm9 : Mm := ⟨91, 4, [.g [aI 2,aL 130 0 1 1,aL 131 0 1 1,aL 133 0 2 2,aI 1,aI 1000,aL 134 0 2 2,aL 135 0 1 1],.g [aO 10906 0 1 1,aO 10916 0 1 1,aO 10919 0 1 2],aO 10939 0 2 1,aO 11221 0 2 8], hA9, Q 11222, ⟨.nm, .t [aL 12641 0 6 6,.g [aI 1,aN,aI 1,aN],.g [aI 1,aN,aI 10,aN]], .lf, hB9, Q 12642⟩⟩
end
theorem mm9_t : isR (go Proofs.Tryz.prog imp ora0 300 (.ca mm9.lv mm9.f mm9.args mm9.h mm9.n)) mm9.r = true := by kernel_rfl
theorem mm9_ca : CaS Proofs.Tryz.prog mm9.lv mm9.f mm9.args mm9.h mm9.n mm9.r := memo_ca stB ora0_ok mm9_t

noncomputable section
def hA10 : Tr B := bC 12672 [aI 1024,aN,aI 1,aN] 103 false 5 <| bC 12648 [aI 0,aN,aI 0,aN] 103 false 5 <| bC 12644 [.s [115,116,97,114,116,115],aI 1,aN,aI 100,aN,aI 0,aN,aI 1,aN] 164 false 4 <| bC 12642 [aI 1,aN,aI 1,aN] 103 false 4 <| bC 12646 [aI 1,aN,aI 1,aN] 103 false 5 <| bC 12645 [.s [115,116,97,114,116,115],aI 1,aN,aI 100,aN,aI 0,aN,aI 1,aN] 164 false 5 <| bC 12643 [aI 1,aN,aI 10,aN] 103 false 4 <| bC 12647 [aI 1,aN,aI 10,aN] 103 false 5 <| hB9
def hB10 : Tr B := bC 12751 [aU 0,aU 0,aU 0,aU 0,aU 0,aU 0,aU 0,aU 0,aU 0,aU 17506729134368227328,aU 13662511795222195427,aU 12642706767456688396,aU 5202579124549880923,aU 2929933146888811766,aU 987986108568184818,aU 7090464922197712053,aU 77982513557688891,aU 14739733086731881417,aU 5090239032537240913,aU 16077148107470998744,aU 14099612275010921296,aU 3710772081374174441,aU 10366907710364059736,aU 5513957555398873806,aU 16416356499896498520,aU 17446739468756903659,aU 1666440098109608844,aU 9278027418744117074,aU 11554285072972639659,aU 13794144931039159579,aU 14869848743496949490,aU 570] 231 false 5 <| hA10
def mm10 : Mm := ⟨155, 5, [.g [aI 10,aN],aI 600], hA10, Q 12674, ⟨.nm, .g [aI 1,aL 12751 0 32 32], .lf, hB10, Q 12753⟩⟩
end
theorem mm10_t : isR (go Proofs.Tryz.prog imp ora0 300 (.ca mm10.lv mm10.f mm10.args mm10.h mm10.n)) mm10.r = true := by kernel_rfl
theorem mm10_ca : CaS Proofs.Tryz.prog mm10.lv mm10.f mm10.args mm10.h mm10.n mm10.r := memo_ca stB ora0_ok mm10_t
end Go.Ev
