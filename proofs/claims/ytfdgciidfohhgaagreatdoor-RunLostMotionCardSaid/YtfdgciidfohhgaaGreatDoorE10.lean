/-
  An evaluator of programs on given arguments, and that it is right.
-/
import Derived.Test.YtfdgciidfohhgaaGreatDoorE9
set_option linter.all false



set_option maxRecDepth 1000000
namespace Go.Ev
noncomputable section
def hA11 : Tr B := bX 12672 <| bX 12648 <| bX 12646 <| bX 12645 <| bX 12647 <| bX 12751 <| hB10
def hB11 : Tr B := hA11
def mm11 : Mm := ⟨92, 4, [.g [.s [115,116,97,114,116,115],aI 1,aN,aI 100,aN,aI 0,aN,aI 1,aN],.g [aI 1,aN,aI 1,aN],.g [aI 1,aN,aI 10,aN],aI 1,aI 10], hA11, Q 12645, ⟨.nm, .t [.g [aI 13,aN,aI 1024,aN],.b false], .lf, hB11, Q 13531⟩⟩
end
noncomputable section
def oraP11 : Ora := memoF mm10 (ora0)
end
theorem oraP11_ok : OraS Proofs.Tryz.prog oraP11 := memo_ok (ora0_ok) mm10_ca
theorem mm11_t : isR (go Proofs.Tryz.prog imp oraP11 300 (.ca mm11.lv mm11.f mm11.args mm11.h mm11.n)) mm11.r = true := by kernel_rfl
theorem mm11_ca : CaS Proofs.Tryz.prog mm11.lv mm11.f mm11.args mm11.h mm11.n mm11.r := memo_ca stB oraP11_ok mm11_t

noncomputable section
def hA12 : Tr B := bC 13536 [.s [114,101,115,116,115],aI 0,aN,aI 1,aN,aI 1,aN,aI 100,aN] 164 false 4 <| bC 13540 [aI 0,aN,aI 0,aN] 103 false 5 <| bC 13532 [.s [115,116,97,114,116,115]] 9 false 4 <| bC 13564 [aI 1024,aN,aI 1,aN] 103 false 5 <| bC 13538 [aI 1,aN,aI 1,aN] 103 false 5 <| bC 13534 [aI 13,aN,aI 1024,aN] 103 false 4 <| bC 13537 [.s [114,101,115,116,115],aI 0,aN,aI 1,aN,aI 1,aN,aI 100,aN] 164 false 5 <| bC 13533 [.s [115,116,97,114,116,115]] 9 true 4 <| bC 13539 [aI 1,aN,aI 10,aN] 103 false 5 <| bC 13531 [aI 13,aN,aI 1024,aN] 103 false 4 <| bC 13535 [aI 13,aN,aI 1024,aN] 103 true 4 <| hB11
def hB12 : Tr B := bC 13643 [aU 0,aU 0,aU 0,aU 0,aU 0,aU 0,aU 0,aU 0,aU 0,aU 17506729134368227328,aU 13662511795222195427,aU 12642706767456688396,aU 5202579124549880923,aU 2929933146888811766,aU 987986108568184818,aU 7090464922197712053,aU 77982513557688891,aU 14739733086731881417,aU 5090239032537240913,aU 16077148107470998744,aU 14099612275010921296,aU 3710772081374174441,aU 10366907710364059736,aU 5513957555398873806,aU 16416356499896498520,aU 17446739468756903659,aU 1666440098109608844,aU 9278027418744117074,aU 11554285072972639659,aU 13794144931039159579,aU 14869848743496949490,aU 570] 231 false 5 <| hA12
def mm12 : Mm := ⟨155, 5, [.g [aI 10,aN],aI 600], hA12, Q 13566, ⟨.nm, .g [aI 1,aL 13643 0 32 32], .lf, hB12, Q 13645⟩⟩
end
theorem mm12_t : isR (go Proofs.Tryz.prog imp ora0 300 (.ca mm12.lv mm12.f mm12.args mm12.h mm12.n)) mm12.r = true := by kernel_rfl
theorem mm12_ca : CaS Proofs.Tryz.prog mm12.lv mm12.f mm12.args mm12.h mm12.n mm12.r := memo_ca stB ora0_ok mm12_t

noncomputable section
def hA13 : Tr B := bX 13540 <| bX 13564 <| bX 13538 <| bX 13537 <| bX 13539 <| bX 13643 <| hB12
def hB13 : Tr B := hA13
def mm13 : Mm := ⟨92, 4, [.g [.s [114,101,115,116,115],aI 0,aN,aI 1,aN,aI 1,aN,aI 100,aN],.g [aI 1,aN,aI 1,aN],.g [aI 1,aN,aI 10,aN],aI 1,aI 10], hA13, Q 13537, ⟨.nm, .t [.g [aI 1,aN,aI 512,aN],.b false], .lf, hB13, Q 14233⟩⟩
end
noncomputable section
def oraP13 : Ora := memoF mm12 (ora0)
end
theorem oraP13_ok : OraS Proofs.Tryz.prog oraP13 := memo_ok (ora0_ok) mm12_ca
theorem mm13_t : isR (go Proofs.Tryz.prog imp oraP13 300 (.ca mm13.lv mm13.f mm13.args mm13.h mm13.n)) mm13.r = true := by kernel_rfl
theorem mm13_ca : CaS Proofs.Tryz.prog mm13.lv mm13.f mm13.args mm13.h mm13.n mm13.r := memo_ca stB oraP13_ok mm13_t
end Go.Ev
