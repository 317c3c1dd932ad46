/-
  An evaluator of programs on given arguments, and that it is right.
-/
import Derived.Test.YtfdgciidfohhgaaGreatDoorE11
set_option linter.all false



set_option maxRecDepth 1000000
namespace Go.Ev
noncomputable section
def hA16 : Tr B := bC 15008 [aI 31,aN,aI 512,aN] 103 false 4 <| bC 15012 [aI 1,aN,aI 1,aN] 103 false 5 <| bC 15010 [.s [99,111,117,110,116,115],aI 0,aN,aI 1,aN,aI 0,aN,aI 1,aN] 164 false 4 <| bC 15014 [aI 0,aN,aI 0,aN] 103 false 5 <| bC 15006 [.s [115,116,101,112,115]] 9 false 4 <| bC 15038 [aI 1024,aN,aI 1,aN] 103 false 5 <| bC 15009 [aI 13,aN,aI 1024,aN,aI 1,aN,aI 512,aN,aI 31,aN,aI 512,aN] 103 true 4 <| bC 15013 [aI 1,aN,aI 10,aN] 103 false 5 <| bC 15005 [aI 31,aN,aI 512,aN] 103 false 4 <| bC 15011 [.s [99,111,117,110,116,115],aI 0,aN,aI 1,aN,aI 0,aN,aI 1,aN] 164 false 5 <| bC 15007 [.s [115,116,97,114,116,115],.s [114,101,115,116,115],.s [115,116,101,112,115]] 9 true 4 <| bX 14237 <| bX 14235 <| hB15
def hB16 : Tr B := bC 15117 [aU 0,aU 0,aU 0,aU 0,aU 0,aU 0,aU 0,aU 0,aU 0,aU 17506729134368227328,aU 13662511795222195427,aU 12642706767456688396,aU 5202579124549880923,aU 2929933146888811766,aU 987986108568184818,aU 7090464922197712053,aU 77982513557688891,aU 14739733086731881417,aU 5090239032537240913,aU 16077148107470998744,aU 14099612275010921296,aU 3710772081374174441,aU 10366907710364059736,aU 5513957555398873806,aU 16416356499896498520,aU 17446739468756903659,aU 1666440098109608844,aU 9278027418744117074,aU 11554285072972639659,aU 13794144931039159579,aU 14869848743496949490,aU 570] 231 false 5 <| hA16
def mm16 : Mm := ⟨155, 5, [.g [aI 10,aN],aI 600], hA16, Q 15040, ⟨.nm, .g [aI 1,aL 15117 0 32 32], .lf, hB16, Q 15119⟩⟩
end
theorem mm16_t : isR (go Proofs.Tryz.prog imp ora0 300 (.ca mm16.lv mm16.f mm16.args mm16.h mm16.n)) mm16.r = true := by kernel_rfl
theorem mm16_ca : CaS Proofs.Tryz.prog mm16.lv mm16.f mm16.args mm16.h mm16.n mm16.r := memo_ca stB ora0_ok mm16_t

noncomputable section
def hA17 : Tr B := bX 15012 <| bX 15014 <| bX 15038 <| bX 15013 <| bX 15117 <| bX 15011 <| hB16
def hB17 : Tr B := hA17
def mm17 : Mm := ⟨92, 4, [.g [.s [99,111,117,110,116,115],aI 0,aN,aI 1,aN,aI 0,aN,aI 1,aN],.g [aI 1,aN,aI 1,aN],.g [aI 1,aN,aI 10,aN],aI 1,aI 10], hA17, Q 15011, ⟨.nm, .t [.g [aI 0,aN,aI 1,aN],.b false], .lf, hB17, Q 15529⟩⟩
end
noncomputable section
def oraP17 : Ora := memoF mm16 (ora0)
end
theorem oraP17_ok : OraS Proofs.Tryz.prog oraP17 := memo_ok (ora0_ok) mm16_ca
theorem mm17_t : isR (go Proofs.Tryz.prog imp oraP17 300 (.ca mm17.lv mm17.f mm17.args mm17.h mm17.n)) mm17.r = true := by kernel_rfl
theorem mm17_ca : CaS Proofs.Tryz.prog mm17.lv mm17.f mm17.args mm17.h mm17.n mm17.r := memo_ca stB oraP17_ok mm17_t
end Go.Ev
