/-
  An evaluator of programs on given arguments, and that it is right.
-/
import Derived.Test.YtfdgciidfohhgaaGreatDoorE12
set_option linter.all false



set_option maxRecDepth 1000000
namespace Go.Ev
noncomputable section
def hA18 : Tr B := bC 15536 [aI 1,aN,aI 1,aN] 103 false 5 <| bC 15532 [aI 0,aN,aI 1,aN] 103 false 4 <| bC 15538 [aI 0,aN,aI 0,aN] 103 false 5 <| bC 15562 [aI 1024,aN,aI 1,aN] 103 false 5 <| bC 15530 [.s [99,111,117,110,116,115]] 9 false 4 <| bC 15534 [.s [112,108,97,121,115],aI 0,aN,aI 1,aN,aI 0,aN,aI 1,aN] 164 false 4 <| bC 15537 [aI 1,aN,aI 10,aN] 103 false 5 <| bC 15529 [aI 0,aN,aI 1,aN] 103 false 4 <| bC 15533 [aI 13,aN,aI 1024,aN,aI 1,aN,aI 512,aN,aI 31,aN,aI 512,aN,aI 0,aN,aI 1,aN] 103 true 4 <| bC 15531 [.s [115,116,97,114,116,115],.s [114,101,115,116,115],.s [115,116,101,112,115],.s [99,111,117,110,116,115]] 9 true 4 <| bC 15535 [.s [112,108,97,121,115],aI 0,aN,aI 1,aN,aI 0,aN,aI 1,aN] 164 false 5 <| bX 15009 <| bX 15007 <| hB17
def hB18 : Tr B := bC 15641 [aU 0,aU 0,aU 0,aU 0,aU 0,aU 0,aU 0,aU 0,aU 0,aU 17506729134368227328,aU 13662511795222195427,aU 12642706767456688396,aU 5202579124549880923,aU 2929933146888811766,aU 987986108568184818,aU 7090464922197712053,aU 77982513557688891,aU 14739733086731881417,aU 5090239032537240913,aU 16077148107470998744,aU 14099612275010921296,aU 3710772081374174441,aU 10366907710364059736,aU 5513957555398873806,aU 16416356499896498520,aU 17446739468756903659,aU 1666440098109608844,aU 9278027418744117074,aU 11554285072972639659,aU 13794144931039159579,aU 14869848743496949490,aU 570] 231 false 5 <| hA18
def mm18 : Mm := ⟨155, 5, [.g [aI 10,aN],aI 600], hA18, Q 15564, ⟨.nm, .g [aI 1,aL 15641 0 32 32], .lf, hB18, Q 15643⟩⟩
end
theorem mm18_t : isR (go Proofs.Tryz.prog imp ora0 300 (.ca mm18.lv mm18.f mm18.args mm18.h mm18.n)) mm18.r = true := by kernel_rfl
theorem mm18_ca : CaS Proofs.Tryz.prog mm18.lv mm18.f mm18.args mm18.h mm18.n mm18.r := memo_ca stB ora0_ok mm18_t

noncomputable section
def hA19 : Tr B := bX 15536 <| bX 15538 <| bX 15562 <| bX 15537 <| bX 15641 <| bX 15535 <| hB18
def hB19 : Tr B := hA19
def mm19 : Mm := ⟨92, 4, [.g [.s [112,108,97,121,115],aI 0,aN,aI 1,aN,aI 0,aN,aI 1,aN],.g [aI 1,aN,aI 1,aN],.g [aI 1,aN,aI 10,aN],aI 1,aI 10], hA19, Q 15535, ⟨.nm, .t [.g [aI 0,aN,aI 1,aN],.b false], .lf, hB19, Q 16053⟩⟩
end
noncomputable section
def oraP19 : Ora := memoF mm18 (ora0)
end
theorem oraP19_ok : OraS Proofs.Tryz.prog oraP19 := memo_ok (ora0_ok) mm18_ca
theorem mm19_t : isR (go Proofs.Tryz.prog imp oraP19 300 (.ca mm19.lv mm19.f mm19.args mm19.h mm19.n)) mm19.r = true := by kernel_rfl
theorem mm19_ca : CaS Proofs.Tryz.prog mm19.lv mm19.f mm19.args mm19.h mm19.n mm19.r := memo_ca stB oraP19_ok mm19_t
end Go.Ev
