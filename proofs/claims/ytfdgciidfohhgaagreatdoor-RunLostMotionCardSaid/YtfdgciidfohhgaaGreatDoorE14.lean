/-
  An evaluator of programs on given arguments, and that it is right.
-/
import Derived.Test.YtfdgciidfohhgaaGreatDoorE13
set_option linter.all false



set_option maxRecDepth 1000000
namespace Go.Ev
noncomputable section
def hA20 : Tr B := bC 16056 [aI 0,aN,aI 1,aN] 103 false 4 <| bC 16060 [aI 1,aN,aI 1,aN] 103 false 5 <| bC 16058 [.s [115,108,105,112,115],aI 0,aN,aI 1,aN,aI 0,aN,aI 1,aN] 164 false 4 <| bC 16086 [aI 1024,aN,aI 1,aN] 103 false 5 <| bC 16054 [.s [112,108,97,121,115]] 9 false 4 <| bC 16062 [aI 0,aN,aI 0,aN] 103 false 5 <| bC 16057 [aI 13,aN,aI 1024,aN,aI 1,aN,aI 512,aN,aI 31,aN,aI 512,aN,aI 0,aN,aI 1,aN,aI 0,aN,aI 1,aN] 103 true 4 <| bC 16053 [aI 0,aN,aI 1,aN] 103 false 4 <| bC 16061 [aI 1,aN,aI 10,aN] 103 false 5 <| bC 16059 [.s [115,108,105,112,115],aI 0,aN,aI 1,aN,aI 0,aN,aI 1,aN] 164 false 5 <| bC 16055 [.s [115,116,97,114,116,115],.s [114,101,115,116,115],.s [115,116,101,112,115],.s [99,111,117,110,116,115],.s [112,108,97,121,115]] 9 true 4 <| bX 15533 <| bX 15531 <| hB19
def hB20 : Tr B := bC 16165 [aU 0,aU 0,aU 0,aU 0,aU 0,aU 0,aU 0,aU 0,aU 0,aU 17506729134368227328,aU 13662511795222195427,aU 12642706767456688396,aU 5202579124549880923,aU 2929933146888811766,aU 987986108568184818,aU 7090464922197712053,aU 77982513557688891,aU 14739733086731881417,aU 5090239032537240913,aU 16077148107470998744,aU 14099612275010921296,aU 3710772081374174441,aU 10366907710364059736,aU 5513957555398873806,aU 16416356499896498520,aU 17446739468756903659,aU 1666440098109608844,aU 9278027418744117074,aU 11554285072972639659,aU 13794144931039159579,aU 14869848743496949490,aU 570] 231 false 5 <| hA20
def mm20 : Mm := ⟨155, 5, [.g [aI 10,aN],aI 600], hA20, Q 16088, ⟨.nm, .g [aI 1,aL 16165 0 32 32], .lf, hB20, Q 16167⟩⟩
end
theorem mm20_t : isR (go Proofs.Tryz.prog imp ora0 300 (.ca mm20.lv mm20.f mm20.args mm20.h mm20.n)) mm20.r = true := by kernel_rfl
theorem mm20_ca : CaS Proofs.Tryz.prog mm20.lv mm20.f mm20.args mm20.h mm20.n mm20.r := memo_ca stB ora0_ok mm20_t

noncomputable section
def hA21 : Tr B := bX 16060 <| bX 16086 <| bX 16062 <| bX 16165 <| bX 16061 <| bX 16059 <| hB20
def hB21 : Tr B := hA21
def mm21 : Mm := ⟨92, 4, [.g [.s [115,108,105,112,115],aI 0,aN,aI 1,aN,aI 0,aN,aI 1,aN],.g [aI 1,aN,aI 1,aN],.g [aI 1,aN,aI 10,aN],aI 1,aI 10], hA21, Q 16059, ⟨.nm, .t [.g [aI 0,aN,aI 1,aN],.b false], .lf, hB21, Q 16577⟩⟩
end
noncomputable section
def oraP21 : Ora := memoF mm20 (ora0)
end
theorem oraP21_ok : OraS Proofs.Tryz.prog oraP21 := memo_ok (ora0_ok) mm20_ca
theorem mm21_t : isR (go Proofs.Tryz.prog imp oraP21 300 (.ca mm21.lv mm21.f mm21.args mm21.h mm21.n)) mm21.r = true := by kernel_rfl
theorem mm21_ca : CaS Proofs.Tryz.prog mm21.lv mm21.f mm21.args mm21.h mm21.n mm21.r := memo_ca stB oraP21_ok mm21_t

noncomputable section
def hA22 : Tr B := bX 10912 <| bX 15008 <| bX 13536 <| bX 16056 <| bX 11128 <| bX 10916 <| bX 12644 <| bX 11220 <| bX 10484 <| bX 15532 <| bX 14236 <| bX 13532 <| bX 10940 <| bX 10914 <| bX 15010 <| bX 12642 <| bX 10482 <| bX 15530 <| bX 10906 <| bX 14234 <| bX 16058 <| bX 16054 <| bX 11126 <| bX 15534 <| bX 15006 <| bX 14238 <| bX 13534 <| bX 12641 <| bX 10481 <| bX 15529 <| bX 14233 <| bX 10937 <| bX 16057 <| bX 11173 <| bX 11221 <| bX 16053 <| bX 11125 <| bX 10925 <| bX 15005 <| bX 10941 <| bX 12643 <| bX 10483 <| bX 13531 <| bX 10939 <| bX 10919 <| bX 11175 <| bX 10935 <| bX 16055 <| bX 11127 <| bX 10927 <| hB21
def hB22 : Tr B := bC 16623 [.s [115,116,97,114,116,115],.s [49,51,47,49,48,50,52],.s [114,101,115,116,115],.s [49,47,53,49,50],.s [115,116,101,112,115],.s [51,49,47,53,49,50],.s [99,111,117,110,116,115],.s [48],.s [112,108,97,121,115],.s [48],.s [115,108,105,112,115],.s [48]] 65 true 2 <| hA22
def mm22 : Mm := ⟨15, 2, [.g [aI 2,aL 130 0 1 1,aL 131 0 1 1,aL 133 0 2 2,aI 1,aI 1000,aL 134 0 2 2,aL 135 0 1 1],.g [.s [48],.s [49]],aL 10480 0 1 1,aI 1,aI 10], hA22, Q 10481, ⟨.nm, .t [aO 16623 0 6 2,aI 0], .lf, hB22, Q 16624⟩⟩
end
noncomputable section
def oraP22 : Ora := memoF mm7 (memoF mm8 (memoF mm9 (memoF mm11 (memoF mm13 (memoF mm15 (memoF mm17 (memoF mm19 (memoF mm21 (ora0)))))))))
end
theorem oraP22_ok : OraS Proofs.Tryz.prog oraP22 := memo_ok (memo_ok (memo_ok (memo_ok (memo_ok (memo_ok (memo_ok (memo_ok (memo_ok (ora0_ok) mm21_ca) mm19_ca) mm17_ca) mm15_ca) mm13_ca) mm11_ca) mm9_ca) mm8_ca) mm7_ca
theorem mm22_t : isR (go Proofs.Tryz.prog imp oraP22 300 (.ca mm22.lv mm22.f mm22.args mm22.h mm22.n)) mm22.r = true := by kernel_rfl
theorem mm22_ca : CaS Proofs.Tryz.prog mm22.lv mm22.f mm22.args mm22.h mm22.n mm22.r := memo_ca stB oraP22_ok mm22_t

noncomputable section
def oraZ : Ora := memoF mm1 (memoF mm2 (memoF mm3 (memoF mm4 (memoF mm5 (memoF mm6 (memoF mm22 (ora0)))))))
end
theorem oraZ_ok : OraS Proofs.Tryz.prog oraZ := memo_ok (memo_ok (memo_ok (memo_ok (memo_ok (memo_ok (memo_ok (ora0_ok) mm22_ca) mm6_ca) mm5_ca) mm4_ca) mm3_ca) mm2_ca) mm1_ca
theorem awake_t : isT (go Proofs.Tryz.prog imp oraZ 300 (.ca 1 5 [] (hG kG) n0)) = true := by kernel_rfl
theorem awake_ca : ∃ r, CaS Proofs.Tryz.prog 1 5 [] (hG kG) n0 r ∧ r.a = .b true := by
  obtain ⟨r, h1, h2⟩ := isT_ok awake_t
  exact ⟨r, go_ok stB oraZ_ok 300 _ _ h1, h2⟩
end Go.Ev
