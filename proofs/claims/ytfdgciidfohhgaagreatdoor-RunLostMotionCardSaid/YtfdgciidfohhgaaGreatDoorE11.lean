/-
  An evaluator of programs on given arguments, and that it is right.
-/
import Derived.Test.YtfdgciidfohhgaaGreatDoorE10
set_option linter.all false



set_option maxRecDepth 1000000
namespace Go.Ev
noncomputable section
def hA14 : Tr B := bC 14240 [aI 1,aN,aI 1,aN] 103 false 5 <| bC 14236 [aI 1,aN,aI 512,aN] 103 false 4 <| bC 14242 [aI 0,aN,aI 0,aN] 103 false 5 <| bC 14234 [.s [114,101,115,116,115]] 9 false 4 <| bC 14266 [aI 1024,aN,aI 1,aN] 103 false 5 <| bC 14238 [.s [115,116,101,112,115],aI 0,aN,aI 1,aN,aI 3,aN,aI 5,aN] 164 false 4 <| bC 14241 [aI 1,aN,aI 10,aN] 103 false 5 <| bC 14233 [aI 1,aN,aI 512,aN] 103 false 4 <| bC 14237 [aI 13,aN,aI 1024,aN,aI 1,aN,aI 512,aN] 103 true 4 <| bC 14235 [.s [115,116,97,114,116,115],.s [114,101,115,116,115]] 9 true 4 <| bC 14239 [.s [115,116,101,112,115],aI 0,aN,aI 1,aN,aI 3,aN,aI 5,aN] 164 false 5 <| bX 13533 <| bX 13535 <| hB13
def hB14 : Tr B := bC 14345 [aU 0,aU 0,aU 0,aU 0,aU 0,aU 0,aU 0,aU 0,aU 0,aU 17506729134368227328,aU 13662511795222195427,aU 12642706767456688396,aU 5202579124549880923,aU 2929933146888811766,aU 987986108568184818,aU 7090464922197712053,aU 77982513557688891,aU 14739733086731881417,aU 5090239032537240913,aU 16077148107470998744,aU 14099612275010921296,aU 3710772081374174441,aU 10366907710364059736,aU 5513957555398873806,aU 16416356499896498520,aU 17446739468756903659,aU 1666440098109608844,aU 9278027418744117074,aU 11554285072972639659,aU 13794144931039159579,aU 14869848743496949490,aU 570] 231 false 5 <| hA14
def mm14 : Mm := ⟨155, 5, [.g [aI 10,aN],aI 600], hA14, Q 14268, ⟨.nm, .g [aI 1,aL 14345 0 32 32], .lf, hB14, Q 14347⟩⟩
end
theorem mm14_t : isR (go Proofs.Tryz.prog imp ora0 300 (.ca mm14.lv mm14.f mm14.args mm14.h mm14.n)) mm14.r = true := by kernel_rfl
theorem mm14_ca : CaS Proofs.Tryz.prog mm14.lv mm14.f mm14.args mm14.h mm14.n mm14.r := memo_ca stB ora0_ok mm14_t

noncomputable section
def hA15 : Tr B := bX 14240 <| bX 14242 <| bX 14266 <| bX 14241 <| bX 14345 <| bX 14239 <| hB14
def hB15 : Tr B := hA15
def mm15 : Mm := ⟨92, 4, [.g [.s [115,116,101,112,115],aI 0,aN,aI 1,aN,aI 3,aN,aI 5,aN],.g [aI 1,aN,aI 1,aN],.g [aI 1,aN,aI 10,aN],aI 1,aI 10], hA15, Q 14239, ⟨.nm, .t [.g [aI 31,aN,aI 512,aN],.b false], .lf, hB15, Q 15005⟩⟩
end
noncomputable section
def oraP15 : Ora := memoF mm14 (ora0)
end
theorem oraP15_ok : OraS Proofs.Tryz.prog oraP15 := memo_ok (ora0_ok) mm14_ca
theorem mm15_t : isR (go Proofs.Tryz.prog imp oraP15 300 (.ca mm15.lv mm15.f mm15.args mm15.h mm15.n)) mm15.r = true := by kernel_rfl
theorem mm15_ca : CaS Proofs.Tryz.prog mm15.lv mm15.f mm15.args mm15.h mm15.n mm15.r := memo_ca stB oraP15_ok mm15_t
end Go.Ev
